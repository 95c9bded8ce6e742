import PyProof.Rows.All
import Wide.All
import OpenK.AllK
import Wide.FinOn
import HandS.ForMost
import HandS.ForExc
import HandS.Wide
import HandS.EndBits
import HandS.Flow
import HandS.Style
import HandS.Conv
import HandS.TupMul
import HandS.Deep
import HandS.SortInts
import HandS.CallSlots
import PySem.Challenge.RW_segmentfs_k00_whole_layouts_and_addresse
set_option Elab.async false
set_option linter.all false
set_option maxRecDepth 100000
set_option maxHeartbeats 4000000
set_option Elab.async false
set_option linter.all false
set_option maxRecDepth 100000
set_option maxHeartbeats 2000000
/-! A layer of my own over HandS: values whose tuples are data, a heap that is a list of cells. -/
namespace DL
open PySem L2

/-- a value: a tuple is told by its items -/
inductive D where
  | non | bl (b : Bool) | int (i : Int) | str (x : Str) | ref (a : Addr) | tup (ds : List D)
/-- what may change and stands at an address; frl: a list that is only read -/
inductive GO where
  | lst (ds : List D) | dct (kvs : List (Key × D)) | ins (C : Addr) (ns : List Str) (ds : List D) | frl (ds : List D)
abbrev Cl := List (Addr × GO)

def TupExt (H H' : Hp) : Prop := ∀ b xs, H b = some (.tup xs) → H' b = some (.tup xs)
theorem TupExt.refl (H : Hp) : TupExt H H := fun _ _ h => h
theorem TupExt.trans {H H1 H2 : Hp} (a : TupExt H H1) (b : TupExt H1 H2) : TupExt H H2 := fun x o h => b x o (a x o h)
theorem TupExt.upd {H : Hp} {p : Addr} {o : HO} (h : ∀ xs, H p ≠ some (.tup xs)) : TupExt H (upd H p o) := fun b xs e => by
  have hb : b ≠ p := fun z => by subst z; exact h xs e
  rw [upd_ne hb]; exact e
theorem TupExt.new {H : Hp} {p : Addr} {o : HO} (h : H p = none) : TupExt H (L2.upd H p o) := TupExt.upd fun xs e => by rw [h] at e; cases e

def TupAt (K : PySem.W.Frag) (H : Hp) (p : Addr) (vs : List V) : Prop :=
  H p = some (.tup vs) ∨ ∃ (o : Obj) (its : Array Value) (n : Nat), K.lookup p = some o ∧ o.cls = .type "tuple" ∧ o.data = .seq its n ∧ its.size ≤ sizeLine ∧ Vals vs its.toList
theorem TupAt.sq {K : PySem.W.Frag} {H : Hp} {p : Addr} {vs : List V} (h : TupAt K H p vs) : SqT K H p vs := by
  rcases h with h | h
  · exact .inl (.inl h)
  · exact .inr h
theorem TupAt.mono {K : PySem.W.Frag} {H H' : Hp} {p : Addr} {vs : List V} (e : TupExt H H') (h : TupAt K H p vs) : TupAt K H' p vs := by
  rcases h with h | h
  · exact .inl (e _ _ h)
  · exact .inr h

mutual
def Rp (K : PySem.W.Frag) (H : Hp) : D → V → Prop
  | .non, v => v = .non
  | .bl b, v => v = .bl b
  | .int i, v => v = .int i
  | .str x, v => v = .str x
  | .ref a, v => v = .ref a
  | .tup ds, v => ∃ p vs, v = .ref p ∧ TupAt K H p vs ∧ Rps K H ds vs
def Rps (K : PySem.W.Frag) (H : Hp) : List D → List V → Prop
  | [], vs => vs = []
  | d :: ds, vs => ∃ v r, vs = v :: r ∧ Rp K H d v ∧ Rps K H ds r
end
section
variable {K : PySem.W.Frag} {H H' : Hp}
mutual
theorem Rp.mono (e : TupExt H H') : ∀ {d : D} {v : V}, Rp K H d v → Rp K H' d v
  | .non, _, h => by simpa only [Rp] using h
  | .bl _, _, h => by simpa only [Rp] using h
  | .int _, _, h => by simpa only [Rp] using h
  | .str _, _, h => by simpa only [Rp] using h
  | .ref _, _, h => by simpa only [Rp] using h
  | .tup ds, v, h => by
    simp only [Rp] at h ⊢
    obtain ⟨p, vs, h1, h2, h3⟩ := h
    exact ⟨p, vs, h1, h2.mono e, Rps.mono e h3⟩
theorem Rps.mono (e : TupExt H H') : ∀ {ds : List D} {vs : List V}, Rps K H ds vs → Rps K H' ds vs
  | [], _, h => by simpa only [Rps] using h
  | d :: ds, vs, h => by
    simp only [Rps] at h ⊢
    obtain ⟨v, r, h1, h2, h3⟩ := h
    exact ⟨v, r, h1, Rp.mono e h2, Rps.mono e h3⟩
end
theorem Rp.nonI : Rp K H .non .non := by simp only [Rp]
theorem Rp.blI {b : Bool} : Rp K H (.bl b) (.bl b) := by simp only [Rp]
theorem Rp.intI {i : Int} : Rp K H (.int i) (.int i) := by simp only [Rp]
theorem Rp.strI {x : Str} : Rp K H (.str x) (.str x) := by simp only [Rp]
theorem Rp.refI {a : Addr} : Rp K H (.ref a) (.ref a) := by simp only [Rp]
theorem Rp.nonE {v : V} (h : Rp K H .non v) : v = .non := by simpa only [Rp] using h
theorem Rp.blE {b : Bool} {v : V} (h : Rp K H (.bl b) v) : v = .bl b := by simpa only [Rp] using h
theorem Rp.intE {i : Int} {v : V} (h : Rp K H (.int i) v) : v = .int i := by simpa only [Rp] using h
theorem Rp.strE {x : Str} {v : V} (h : Rp K H (.str x) v) : v = .str x := by simpa only [Rp] using h
theorem Rp.refE {a : Addr} {v : V} (h : Rp K H (.ref a) v) : v = .ref a := by simpa only [Rp] using h
theorem Rp.tupE {ds : List D} {v : V} (h : Rp K H (.tup ds) v) : ∃ p vs, v = .ref p ∧ TupAt K H p vs ∧ Rps K H ds vs := by simpa only [Rp] using h
theorem Rp.tupI {ds : List D} {p : Addr} {vs : List V} (h : TupAt K H p vs) (r : Rps K H ds vs) : Rp K H (.tup ds) (.ref p) := by
  simp only [Rp]; exact ⟨p, vs, rfl, h, r⟩
theorem Rps.nil : Rps K H [] [] := by simp only [Rps]
theorem Rps.cons {d : D} {ds : List D} {v : V} {vs : List V} (h : Rp K H d v) (t : Rps K H ds vs) : Rps K H (d :: ds) (v :: vs) := by
  simp only [Rps]; exact ⟨v, vs, rfl, h, t⟩
theorem Rps.nilE {vs : List V} (h : Rps K H [] vs) : vs = [] := by simpa only [Rps] using h
theorem Rps.consE {d : D} {ds : List D} {vs : List V} (h : Rps K H (d :: ds) vs) : ∃ v r, vs = v :: r ∧ Rp K H d v ∧ Rps K H ds r := by simpa only [Rps] using h
theorem Rps.length : ∀ {ds : List D} {vs : List V}, Rps K H ds vs → vs.length = ds.length
  | [], _, h => by rw [h.nilE]; rfl
  | d :: ds, _, h => by
    obtain ⟨v, r, rfl, _, h3⟩ := h.consE
    simp [Rps.length h3]
theorem Rps.append : ∀ {ds es : List D} {vs us : List V}, Rps K H ds vs → Rps K H es us → Rps K H (ds ++ es) (vs ++ us)
  | [], _, _, _, h, g => by rw [h.nilE]; exact g
  | d :: ds, _, _, _, h, g => by
    obtain ⟨v, r, rfl, h2, h3⟩ := h.consE
    exact Rps.cons h2 (Rps.append h3 g)
theorem Rps.get : ∀ {ds : List D} {vs : List V} {i : Nat} {d : D}, Rps K H ds vs → ds[i]? = some d → ∃ v, vs[i]? = some v ∧ Rp K H d v
  | [], _, _, _, h, e => by simp at e
  | d :: ds, _, 0, x, h, e => by
    obtain ⟨v, r, rfl, h2, h3⟩ := h.consE
    simp at e; subst e
    exact ⟨v, rfl, h2⟩
  | d :: ds, _, i + 1, x, h, e => by
    obtain ⟨v, r, rfl, h2, h3⟩ := h.consE
    obtain ⟨w, h4, h5⟩ := Rps.get (i := i) h3 (by simpa using e)
    exact ⟨w, by simpa using h4, h5⟩
theorem Rps.getV : ∀ {ds : List D} {vs : List V} {i : Nat} {v : V}, Rps K H ds vs → vs[i]? = some v → ∃ d, ds[i]? = some d ∧ Rp K H d v
  | [], _, _, _, h, e => by rw [h.nilE] at e; simp at e
  | d :: ds, _, 0, x, h, e => by
    obtain ⟨v, r, rfl, h2, h3⟩ := h.consE
    simp at e; subst e
    exact ⟨d, rfl, h2⟩
  | d :: ds, _, i + 1, x, h, e => by
    obtain ⟨v, r, rfl, h2, h3⟩ := h.consE
    obtain ⟨w, h4, h5⟩ := Rps.getV (i := i) h3 (by simpa using e)
    exact ⟨w, by simpa using h4, h5⟩
theorem Rps.take : ∀ {ds : List D} {vs : List V} (n : Nat), Rps K H ds vs → Rps K H (ds.take n) (vs.take n)
  | _, _, 0, _ => Rps.nil
  | [], _, n + 1, h => by rw [h.nilE]; exact Rps.nil
  | d :: ds, _, n + 1, h => by
    obtain ⟨v, r, rfl, h2, h3⟩ := h.consE
    exact Rps.cons h2 (Rps.take n h3)
theorem Rps.drop : ∀ {ds : List D} {vs : List V} (n : Nat), Rps K H ds vs → Rps K H (ds.drop n) (vs.drop n)
  | _, _, 0, h => h
  | [], _, n + 1, h => by rw [h.nilE]; exact Rps.nil
  | d :: ds, _, n + 1, h => by
    obtain ⟨v, r, rfl, h2, h3⟩ := h.consE
    exact Rps.drop n h3
theorem Rps.set {d : D} {v : V} (r : Rp K H d v) : ∀ {ds : List D} {vs : List V} (n : Nat), Rps K H ds vs → Rps K H (ds.set n d) (vs.set n v)
  | [], _, _, h => by rw [h.nilE]; exact Rps.nil
  | e :: ds, _, 0, h => by
    obtain ⟨w, r', rfl, h2, h3⟩ := h.consE
    exact Rps.cons r h3
  | e :: ds, _, n + 1, h => by
    obtain ⟨w, r', rfl, h2, h3⟩ := h.consE
    exact Rps.cons h2 (Rps.set r n h3)
theorem Rps.reverse : ∀ {ds : List D} {vs : List V}, Rps K H ds vs → Rps K H ds.reverse vs.reverse
  | [], _, h => by rw [h.nilE]; exact Rps.nil
  | d :: ds, _, h => by
    obtain ⟨v, r, rfl, h2, h3⟩ := h.consE
    rw [List.reverse_cons, List.reverse_cons]
    exact (Rps.reverse h3).append (Rps.cons h2 Rps.nil)
theorem Rps.eraseIdx : ∀ {ds : List D} {vs : List V} (n : Nat), Rps K H ds vs → Rps K H (ds.eraseIdx n) (vs.eraseIdx n)
  | [], _, _, h => by rw [h.nilE]; exact Rps.nil
  | e :: ds, _, 0, h => by
    obtain ⟨w, r', rfl, h2, h3⟩ := h.consE
    exact h3
  | e :: ds, _, n + 1, h => by
    obtain ⟨w, r', rfl, h2, h3⟩ := h.consE
    exact Rps.cons h2 (Rps.eraseIdx n h3)
theorem Rps.dropLast {ds : List D} {vs : List V} (h : Rps K H ds vs) : Rps K H ds.dropLast vs.dropLast := by
  rw [List.dropLast_eq_take, List.dropLast_eq_take, h.length]
  exact h.take _
theorem Rps.rep {ds : List D} {vs : List V} (h : Rps K H ds vs) : ∀ k : Nat, Rps K H (List.replicate k ds).flatten (List.replicate k vs).flatten
  | 0 => by simpa using Rps.nil
  | k + 1 => by
    rw [List.replicate_succ, List.replicate_succ, List.flatten_cons, List.flatten_cons]
    exact h.append (Rps.rep h k)
theorem Rps.cut {ds : List D} {vs : List V} (h : Rps K H ds vs) (lo hi : Option Int) : Rps K H ((ds.drop (HT.sIx ds.length 0 lo)).take (HT.sIx ds.length ds.length hi - HT.sIx ds.length 0 lo)) (cutV vs lo hi) := by
  unfold cutV
  rw [h.length]
  exact (h.drop _).take _
/-- a list of ints, of texts -/
theorem Rps.ints : ∀ {ns : List Int} {vs : List V}, Rps K H (ns.map D.int) vs → vs = ns.map V.int
  | [], _, h => by simpa using h.nilE
  | n :: ns, _, h => by
    obtain ⟨v, r, rfl, h2, h3⟩ := Rps.consE h
    rw [h2.intE, Rps.ints h3]; rfl
theorem Rps.ofInts : ∀ (ns : List Int), Rps K H (ns.map D.int) (ns.map V.int)
  | [] => Rps.nil
  | n :: ns => Rps.cons Rp.intI (Rps.ofInts ns)
theorem Rps.strs : ∀ {ns : List Str} {vs : List V}, Rps K H (ns.map D.str) vs → vs = ns.map V.str
  | [], _, h => by simpa using h.nilE
  | n :: ns, _, h => by
    obtain ⟨v, r, rfl, h2, h3⟩ := Rps.consE h
    rw [h2.strE, Rps.strs h3]; rfl
theorem Rps.ofStrs : ∀ (ns : List Str), Rps K H (ns.map D.str) (ns.map V.str)
  | [] => Rps.nil
  | n :: ns => Rps.cons Rp.strI (Rps.ofStrs ns)

/-! ### slots -/
def Slots (K : PySem.W.Frag) (H : Hp) : List (Option D) → St → Prop
  | [], σ => σ = []
  | none :: δ, σ => ∃ o r, σ = o :: r ∧ Slots K H δ r
  | some d :: δ, σ => ∃ v r, σ = some v :: r ∧ Rp K H d v ∧ Slots K H δ r
theorem Slots.mono (e : TupExt H H') : ∀ {δ : List (Option D)} {σ : St}, Slots K H δ σ → Slots K H' δ σ
  | [], _, h => h
  | none :: δ, _, ⟨o, r, h1, h2⟩ => ⟨o, r, h1, Slots.mono e h2⟩
  | some d :: δ, _, ⟨v, r, h1, h2, h3⟩ => ⟨v, r, h1, h2.mono e, Slots.mono e h3⟩
theorem Slots.get : ∀ {δ : List (Option D)} {σ : St} {i : Nat} {d : D}, Slots K H δ σ → δ[i]? = some (some d) → ∃ v, σ[i]? = some (some v) ∧ Rp K H d v
  | [], _, _, _, _, e => by simp at e
  | none :: δ, _, 0, _, _, e => by simp at e
  | none :: δ, _, i + 1, _, ⟨o, r, h1, h2⟩, e => by
    obtain ⟨v, h3, h4⟩ := Slots.get (i := i) h2 (by simpa using e)
    subst h1
    exact ⟨v, by simpa using h3, h4⟩
  | some x :: δ, _, 0, _, ⟨v, r, h1, h2, h3⟩, e => by
    simp at e; subst e; subst h1
    exact ⟨v, rfl, h2⟩
  | some x :: δ, _, i + 1, _, ⟨v, r, h1, h2, h3⟩, e => by
    obtain ⟨w, h4, h5⟩ := Slots.get (i := i) h3 (by simpa using e)
    subst h1
    exact ⟨w, by simpa using h4, h5⟩
theorem Slots.set {d : D} {v : V} (q : Rp K H d v) : ∀ {δ : List (Option D)} {σ : St} (i : Nat), Slots K H δ σ → Slots K H (δ.set i (some d)) (σ.set i (some v))
  | [], _, _, h => by rw [show _ = [] from h]; exact rfl
  | none :: δ, _, 0, ⟨o, r, h1, h2⟩ => by subst h1; exact ⟨v, r, rfl, q, h2⟩
  | none :: δ, _, i + 1, ⟨o, r, h1, h2⟩ => by subst h1; exact ⟨o, _, rfl, Slots.set q i h2⟩
  | some x :: δ, _, 0, ⟨w, r, h1, h2, h3⟩ => by subst h1; exact ⟨v, r, rfl, q, h3⟩
  | some x :: δ, _, i + 1, ⟨w, r, h1, h2, h3⟩ => by subst h1; exact ⟨w, _, rfl, h2, Slots.set q i h3⟩
theorem Slots.unset : ∀ {δ : List (Option D)} {σ : St} (i : Nat), Slots K H δ σ → Slots K H (δ.set i none) (σ.set i none)
  | [], _, _, h => by rw [show _ = [] from h]; exact rfl
  | none :: δ, _, 0, ⟨o, r, h1, h2⟩ => by subst h1; exact ⟨none, r, rfl, h2⟩
  | none :: δ, _, i + 1, ⟨o, r, h1, h2⟩ => by subst h1; exact ⟨o, _, rfl, Slots.unset i h2⟩
  | some x :: δ, _, 0, ⟨w, r, h1, h2, h3⟩ => by subst h1; exact ⟨none, r, rfl, h3⟩
  | some x :: δ, _, i + 1, ⟨w, r, h1, h2, h3⟩ => by subst h1; exact ⟨w, _, rfl, h2, Slots.unset i h3⟩
def wipeD (δ : List (Option D)) : List Nat → List (Option D)
  | [] => δ
  | v :: vs => (wipeD δ vs).set v none
theorem Slots.wipe {δ : List (Option D)} {σ : St} (h : Slots K H δ σ) : ∀ vs : List Nat, Slots K H (wipeD δ vs) (L2.wipe σ vs)
  | [] => h
  | v :: vs => (Slots.wipe h vs).unset v
/-- forgetting slots -/
inductive Fg : List (Option D) → List (Option D) → Prop
  | nil : Fg [] []
  | keep {o : Option D} {a b : List (Option D)} : Fg a b → Fg (o :: a) (o :: b)
  | drop {o : Option D} {a b : List (Option D)} : Fg a b → Fg (o :: a) (none :: b)
theorem Fg.refl : ∀ a, Fg a a
  | [] => .nil
  | o :: a => .keep (Fg.refl a)
theorem Slots.fg {a b : List (Option D)} (f : Fg a b) : ∀ {σ : St}, Slots K H a σ → Slots K H b σ := by
  induction f with
  | nil => exact fun h => h
  | @keep o a b f ih =>
    intro σ h
    cases o with
    | none => obtain ⟨x, r, h1, h2⟩ := h; exact ⟨x, r, h1, ih h2⟩
    | some d => obtain ⟨x, r, h1, h2, h3⟩ := h; exact ⟨x, r, h1, h2, ih h3⟩
  | @drop o a b f ih =>
    intro σ h
    cases o with
    | none => obtain ⟨x, r, h1, h2⟩ := h; exact ⟨x, r, h1, ih h2⟩
    | some d => obtain ⟨x, r, h1, h2, h3⟩ := h; exact ⟨some x, r, h1, ih h3⟩
theorem Slots.start {N : List Str} {ds : List D} {vs : List V} (h : Rps K H ds vs) : Slots K H (ds.map some ++ List.replicate (N.length - ds.length) none) (L2.start N vs) := by
  unfold L2.start
  rw [h.length]
  have base : ∀ n, Slots K H (List.replicate n none) (List.replicate n none) := by
    intro n
    induction n with
    | zero => exact rfl
    | succ n ih => exact ⟨none, _, rfl, ih⟩
  generalize N.length - ds.length = n
  induction ds generalizing vs with
  | nil => rw [h.nilE]; exact base n
  | cons d ds ih =>
    obtain ⟨v, r, rfl, h2, h3⟩ := h.consE
    exact ⟨v, _, rfl, h2, ih h3⟩

/-! ### cells -/
def KRel (K : PySem.W.Frag) (H : Hp) : List (Key × D) → List (Key × V) → Prop
  | [], ws => ws = []
  | (k, d) :: r, ws => ∃ v s, ws = (k, v) :: s ∧ Rp K H d v ∧ KRel K H r s
theorem KRel.mono (e : TupExt H H') : ∀ {a : List (Key × D)} {b : List (Key × V)}, KRel K H a b → KRel K H' a b
  | [], _, h => h
  | (k, d) :: r, _, ⟨v, s, h1, h2, h3⟩ => ⟨v, s, h1, h2.mono e, KRel.mono e h3⟩
def GRel (K : PySem.W.Frag) (H : Hp) : GO → HO → Prop
  | .lst ds, h => ∃ vs, h = .lst vs ∧ Rps K H ds vs
  | .dct kvs, h => ∃ ws, h = .dK ws ∧ KRel K H kvs ws ∧ (kvs.map (·.1)).Nodup
  | .ins C ns ds, h => ∃ dx gs, h = .ins C dx gs ∧ gs.map (·.1) = ns ∧ Rps K H ds (gs.map (·.2)) ∧ ns.Nodup
  | .frl ds, h => ∃ o vs, h = .frz o (.lst vs) ∧ Rps K H ds vs
theorem GRel.mono (e : TupExt H H') : ∀ {g : GO} {h : HO}, GRel K H g h → GRel K H' g h
  | .lst _, _, ⟨vs, h1, h2⟩ => ⟨vs, h1, h2.mono e⟩
  | .dct _, _, ⟨ws, h1, h2, h3⟩ => ⟨ws, h1, h2.mono e, h3⟩
  | .ins _ _ _, _, ⟨dx, gs, h1, h2, h3, h4⟩ => ⟨dx, gs, h1, h2, h3.mono e, h4⟩
  | .frl _, _, ⟨o, vs, h1, h2⟩ => ⟨o, vs, h1, h2.mono e⟩
theorem GRel.notup {g : GO} {h : HO} (r : GRel K H g h) (xs : List V) : h ≠ .tup xs := by
  cases g with
  | lst ds => obtain ⟨_, rfl, _⟩ := r; intro z; cases z
  | dct kvs => obtain ⟨_, rfl, _⟩ := r; intro z; cases z
  | ins C ns ds => obtain ⟨_, _, rfl, _⟩ := r; intro z; cases z
  | frl ds => obtain ⟨_, _, rfl, _⟩ := r; intro z; cases z

class inductive At : Cl → Addr → outParam GO → Prop
  | here {a : Addr} {g : GO} {L : Cl} : At ((a, g) :: L) a g
  | there {c : Addr × GO} {a : Addr} {g : GO} {L : Cl} : At L a g → At (c :: L) a g
inductive Up : Cl → Addr → GO → GO → Cl → Prop
  | here {a : Addr} {g g' : GO} {L : Cl} : Up ((a, g) :: L) a g g' ((a, g') :: L)
  | there {c : Addr × GO} {a : Addr} {g g' : GO} {L L' : Cl} : Up L a g g' L' → Up (c :: L) a g g' (c :: L')
/-- R is L without one c -/
inductive Rem : Addr × GO → Cl → Cl → Prop
  | here {c : Addr × GO} {L : Cl} : Rem c (c :: L) L
  | there {b c : Addr × GO} {L R : Cl} : Rem c L R → Rem c (b :: L) (b :: R)
inductive Sub : Cl → Cl → Prop
  | refl {L : Cl} : Sub L L
  | pick {c : Addr × GO} {L R L' : Cl} : Rem c L R → Sub R L' → Sub L (c :: L')
  | drop {c : Addr × GO} {L L' : Cl} : Sub L L' → Sub (c :: L) L'
  | tr {L M N : Cl} : Sub L M → Sub M N → Sub L N
theorem At.mem {L : Cl} {a : Addr} {g : GO} (h : At L a g) : (a, g) ∈ L := by
  induction h with
  | here => exact List.mem_cons_self
  | there _ ih => exact List.mem_cons_of_mem _ ih
theorem At.of {L : Cl} {a : Addr} {g : GO} (h : (a, g) ∈ L) : At L a g := by
  induction L with
  | nil => cases h
  | cons c L ih =>
    rcases List.mem_cons.mp h with e | e
    · subst e; exact .here
    · exact .there (ih e)
theorem Up.at {L L' : Cl} {a : Addr} {g g' : GO} (h : Up L a g g' L') : At L a g := by
  induction h with
  | here => exact .here
  | there _ ih => exact .there ih
theorem Rem.perm {c : Addr × GO} {L R : Cl} (h : Rem c L R) : L.Perm (c :: R) := by
  induction h with
  | here => exact List.Perm.refl _
  | there _ ih => exact (List.Perm.cons _ ih).trans (List.Perm.swap _ _ _)
theorem Sub.app {L M : Cl} (R : Cl) (h : Sub L M) : Sub (R ++ L) (R ++ M) := by
  induction R with
  | nil => exact h
  | cons c R ih => exact .pick .here ih
theorem Sub.dropApp {L : Cl} (R : Cl) : Sub (R ++ L) L := by
  induction R with
  | nil => exact .refl
  | cons c R ih => exact .drop ih
theorem Sub.of_perm {L M : Cl} (h : L.Perm M) : Sub L M := by
  induction h with
  | nil => exact .refl
  | cons c _ ih => exact .pick .here ih
  | swap a b L => exact .pick (.there .here) .refl
  | trans _ _ i1 i2 => exact .tr i1 i2

structure Cells (K : PySem.W.Frag) (H : Hp) (L : Cl) : Prop where
  at_ : ∀ c ∈ L, ∃ h, H c.1 = some h ∧ GRel K H c.2 h
  nd : (L.map (·.1)).Nodup
theorem Cells.perm {L L' : Cl} (c : Cells K H L) (p : L.Perm L') : Cells K H L' :=
  ⟨fun x hx => c.at_ x (p.mem_iff.mpr hx), (p.map (·.1)).nodup_iff.mp c.nd⟩
theorem Cells.tail {x : Addr × GO} {L : Cl} (c : Cells K H (x :: L)) : Cells K H L :=
  ⟨fun y hy => c.at_ y (List.mem_cons_of_mem _ hy), (List.nodup_cons.mp c.nd).2⟩
theorem Cells.consOf {x : Addr × GO} {L : Cl} (h : ∃ o, H x.1 = some o ∧ GRel K H x.2 o) (n : x.1 ∉ L.map (·.1)) (c : Cells K H L) : Cells K H (x :: L) :=
  ⟨fun y hy => by
    rcases List.mem_cons.mp hy with e | e
    · subst e; exact h
    · exact c.at_ y e, List.nodup_cons.mpr ⟨n, c.nd⟩⟩
theorem Sub.keys {L M : Cl} (s : Sub L M) : ∀ a, a ∈ M.map (·.1) → a ∈ L.map (·.1) := by
  induction s with
  | refl => exact fun a h => h
  | pick r _ ih =>
    intro a h
    refine ((r.perm.map (·.1)).mem_iff).mpr ?_
    rw [List.map_cons] at h ⊢
    rcases List.mem_cons.mp h with e | e
    · rw [e]; exact List.mem_cons_self
    · exact List.mem_cons_of_mem _ (ih a e)
  | drop _ ih => intro a h; exact List.mem_cons_of_mem _ (ih a h)
  | tr _ _ i1 i2 => exact fun a h => i1 a (i2 a h)
theorem Cells.sub {L M : Cl} (s : Sub L M) : Cells K H L → Cells K H M := by
  induction s with
  | refl => exact fun c => c
  | @pick x L R L' r s ih =>
    intro c
    have c1 := c.perm r.perm
    refine Cells.consOf (c1.at_ x List.mem_cons_self) (fun m => ?_) (ih c1.tail)
    exact (List.nodup_cons.mp c1.nd).1 (s.keys _ m)
  | drop s ih => exact fun c => ih c.tail
  | tr _ _ i1 i2 => exact fun c => i2 (i1 c)
theorem Cells.mono {L : Cl} (c : Cells K H L) (e : TupExt H H') (k : ∀ x ∈ L, H' x.1 = H x.1) : Cells K H' L :=
  ⟨fun x hx => by
    obtain ⟨h, h1, h2⟩ := c.at_ x hx
    exact ⟨h, (k x hx).trans h1, h2.mono e⟩, c.nd⟩
theorem Cells.get {L : Cl} {a : Addr} {g : GO} (c : Cells K H L) (h : At L a g) : ∃ o, H a = some o ∧ GRel K H g o := c.at_ (a, g) h.mem
theorem Cells.fresh {L : Cl} (c : Cells K H L) {p : Addr} (h : H p = none) : ∀ x ∈ L, x.1 ≠ p := fun x hx e => by
  obtain ⟨o, h1, _⟩ := c.at_ x hx
  rw [e, h] at h1; cases h1
theorem Cells.new {L : Cl} {p : Addr} {g : GO} {o : HO} (c : Cells K H L) (h : H p = none) (r : GRel K H g o) : Cells K (upd H p o) ((p, g) :: L) := by
  have e : TupExt H (upd H p o) := TupExt.new h
  refine Cells.consOf ⟨o, upd_same, r.mono e⟩ (fun m => ?_) (c.mono e fun x hx => upd_ne (c.fresh h x hx))
  obtain ⟨x, hx, e⟩ := List.mem_map.mp m
  exact c.fresh h x hx e
theorem Cells.tup {L : Cl} {p : Addr} {o : HO} (c : Cells K H L) (h : H p = none) : Cells K (upd H p o) L :=
  c.mono (TupExt.new h) fun x hx => upd_ne (c.fresh h x hx)
theorem Cells.updHead {L : Cl} {a : Addr} {g g' : GO} {o' : HO} (c : Cells K H ((a, g) :: L)) (r : GRel K H g' o') : Cells K (upd H a o') ((a, g') :: L) ∧ TupExt H (upd H a o') := by
  obtain ⟨o, h1, h2⟩ := c.get At.here
  have e : TupExt H (upd H a o') := TupExt.upd fun xs z => by rw [h1] at z; exact h2.notup xs (Option.some.inj z)
  have nd := List.nodup_cons.mp c.nd
  refine ⟨Cells.consOf ⟨o', upd_same, r.mono e⟩ nd.1 (c.tail.mono e fun x hx => upd_ne fun z => nd.1 ?_), e⟩
  exact List.mem_map.mpr ⟨x, hx, z⟩
theorem Up.perm {L L' : Cl} {a : Addr} {g g' : GO} (u : Up L a g g' L') : ∃ R, L.Perm ((a, g) :: R) ∧ ((a, g') :: R).Perm L' := by
  induction u with
  | here => exact ⟨_, List.Perm.refl _, List.Perm.refl _⟩
  | there _ ih =>
    obtain ⟨R, h1, h2⟩ := ih
    exact ⟨_ :: R, (List.Perm.cons _ h1).trans (List.Perm.swap _ _ _), (List.Perm.swap _ _ _).trans (List.Perm.cons _ h2)⟩
theorem Cells.put {L L' : Cl} {a : Addr} {g g' : GO} {o' : HO} (c : Cells K H L) (u : Up L a g g' L') (r : GRel K H g' o') : Cells K (upd H a o') L' ∧ TupExt H (upd H a o') := by
  obtain ⟨R, h1, h2⟩ := u.perm
  obtain ⟨c1, e⟩ := (c.perm h1).updHead r
  exact ⟨c1.perm h2, e⟩
end

end DL
set_option Elab.async false
set_option linter.all false
set_option maxRecDepth 100000
set_option maxHeartbeats 2000000
/-! Readings over D-values and cells; the judgements. -/
namespace DL
open PySem L2
abbrev DS := List (Option D)
abbrev DV := D → Cl → Prop
/-- what is wanted of an exception: its class, the slots, the cells -/
abbrev DX := Value → DS → Cl → Prop
abbrev DE := DX → DS → Cl → DV → Prop
abbrev DT := DX → DS → Cl → (Bool → Cl → Prop) → Prop
abbrev DA := DX → DS → Cl → (List D → Cl → Prop) → Prop
structure DEnds where
  nx : DS → Cl → Prop
  rt : DV
  bk : DS → Cl → Prop
  ct : DS → Cl → Prop
  xc : DX
abbrev DTS := DEnds → DS → Cl → Prop
structure Rel (K : PySem.W.Frag) (δ : DS) (L : Cl) (σ : L2.St) (H : Hp) : Prop where
  sl : Slots K H δ σ
  ce : Cells K H L

section
variable {K : PySem.W.Frag} {H H' : Hp} {δ δ' : DS} {L L' : Cl} {σ : L2.St}
theorem Rel.wk (r : Rel K δ L σ H) (f : Fg δ δ') (s : Sub L L') : Rel K δ' L' σ H := ⟨r.sl.fg f, r.ce.sub s⟩
theorem Rel.to (r : Rel K δ L σ H) (e : TupExt H H') (c : Cells K H' L') : Rel K δ L' σ H' := ⟨r.sl.mono e, c⟩
theorem Rel.set {d : D} {v : V} (r : Rel K δ L σ H) (q : Rp K H d v) (i : Nat) : Rel K (δ.set i (some d)) L (σ.set i (some v)) H := ⟨r.sl.set q i, r.ce⟩
end

section
variable (K : PySem.W.Frag) (W : WX)
def XOk (xc : DX) (σ : L2.St) (H : Hp) (δ : DS) : Prop := ∀ c L' H', xc c δ L' → Rel K δ L' σ H' → TupExt H H' → W c none σ H'
def liftE (t : DE) : TE := fun σ H Q => ∃ δ L P xc, Rel K δ L σ H ∧ t xc δ L P ∧ (∀ d L' v H', P d L' → Rp K H' d v → Rel K δ L' σ H' → TupExt H H' → Q v H') ∧ XOk K W xc σ H δ
def liftT (t : DT) : TT := fun σ H Q => ∃ δ L P xc, Rel K δ L σ H ∧ t xc δ L P ∧ (∀ b L' H', P b L' → Rel K δ L' σ H' → TupExt H H' → Q b H') ∧ XOk K W xc σ H δ
def liftA (t : DA) : TA := fun σ H Q => ∃ δ L P xc, Rel K δ L σ H ∧ t xc δ L P ∧ (∀ ds L' vs H', P ds L' → Rps K H' ds vs → Rel K δ L' σ H' → TupExt H H' → Q vs H') ∧ XOk K W xc σ H δ
def liftS (t : DTS) : TS := fun D σ H => ∃ δ L D', Rel K δ L σ H ∧ t D' δ L ∧ (∀ δ' L' σ' H', D'.nx δ' L' → Rel K δ' L' σ' H' → TupExt H H' → D.nx σ' H') ∧
  (∀ d L' v H', D'.rt d L' → Rp K H' d v → Cells K H' L' → TupExt H H' → D.rt v H') ∧ (∀ δ' L' σ' H', D'.bk δ' L' → Rel K δ' L' σ' H' → TupExt H H' → D.bk σ' H') ∧
  (∀ δ' L' σ' H', D'.ct δ' L' → Rel K δ' L' σ' H' → TupExt H H' → D.ct σ' H') ∧ (∀ c δ' L' σ' H', D'.xc c δ' L' → Rel K δ' L' σ' H' → TupExt H H' → W c none σ' H')
end
structure GE (X : Cx) (W : WX) (e : Expr) (t : DE) : Prop where run : PE X e (liftE X.K W t)
structure GT (X : Cx) (W : WX) (e : Expr) (t : DT) : Prop where run : PT X e (liftT X.K W t)
structure GW (X : Cx) (W : WX) (e : Expr) (t : DT) : Prop where run : PW X e (liftT X.K W t)
structure GA (X : Cx) (W : WX) (es : List Expr) (t : DA) : Prop where run : PA X es (liftA X.K W t)
structure GS (X : Cx) (W : WX) (st : Stmt) (t : DTS) : Prop where run : PS X st (liftS X.K W t)
structure GB (X : Cx) (W : WX) (st : List Stmt) (t : DTS) : Prop where run : PSs X st (liftS X.K W t)

theorem PE.imp {X : Cx} {e : Expr} {t t' : TE} (h : PE X e t) (i : ∀ σ H Q, t' σ H Q → t σ H Q) : PE X e t' := ⟨fun pins s σ H Q I q => h.run pins s σ H Q I (i σ H Q q)⟩
theorem PT.imp {X : Cx} {e : Expr} {t t' : TT} (h : PT X e t) (i : ∀ σ H Q, t' σ H Q → t σ H Q) : PT X e t' := ⟨fun pins s σ H Q I q => h.run pins s σ H Q I (i σ H Q q)⟩
theorem PW.imp {X : Cx} {e : Expr} {t t' : TT} (h : PW X e t) (i : ∀ σ H Q, t' σ H Q → t σ H Q) : PW X e t' := ⟨fun wh pins s σ H Q I q => h.run wh pins s σ H Q I (i σ H Q q)⟩
theorem PA.imp {X : Cx} {e : List Expr} {t t' : TA} (h : PA X e t) (i : ∀ σ H Q, t' σ H Q → t σ H Q) : PA X e t' := ⟨fun pos pins s σ H Q I q => h.run pos pins s σ H Q I (i σ H Q q)⟩
theorem PS.imp {X : Cx} {e : Stmt} {t t' : TS} (h : PS X e t) (i : ∀ D σ H, t' D σ H → t D σ H) : PS X e t' := ⟨fun pins s σ H D I q => h.run pins s σ H D I (i D σ H q)⟩
theorem PSs.imp {X : Cx} {e : List Stmt} {t t' : TS} (h : PSs X e t) (i : ∀ D σ H, t' D σ H → t D σ H) : PSs X e t' := ⟨fun pins s σ H D I q => h.run pins s σ H D I (i D σ H q)⟩

section
variable {X : Cx} {W : WX} {a b c e o : Expr} {es : List Expr} {ta tb tc te : DE} {pos : Pos}
theorem XOk.mono {K : PySem.W.Frag} {W : WX} {xc : DX} {σ : L2.St} {H H' : Hp} {δ : DS} (x : XOk K W xc σ H δ) (e : TupExt H H') : XOk K W xc σ H' δ := fun c L' H2 h r e2 => x c L' H2 h r (e.trans e2)

/-! ### constants and names -/
def dC (d : D) : DE := fun _ _ L Q => Q d L
def dVar (i : Nat) : DE := fun _ δ L Q => ∃ d, δ[i]? = some (some d) ∧ Q d L
theorem ge_const {v : V} {d : D} (h : PE X e (tC v)) (r : ∀ H, Rp X.K H d v) : GE X W e (dC d) := ⟨PE.imp h fun σ H Q ⟨δ, L, P, xc, rel, t, k, x⟩ => k d L v H t (r H) rel (.refl H)⟩
theorem ge_int {i j pos} : GE X W (.Constant (.int i) j pos) (dC (.int i)) := ge_const pe_int fun _ => Rp.intI
theorem ge_bl {i j pos} : GE X W (.Constant (.bool i) j pos) (dC (.bl i)) := ge_const pe_bl fun _ => Rp.blI
theorem ge_non {j pos} : GE X W (.Constant .none j pos) (dC .non) := ge_const pe_non fun _ => Rp.nonI
theorem ge_str {x j pos} : GE X W (.Constant (.str x) j pos) (dC (.str x)) := ge_const pe_str fun _ => Rp.strI
theorem gv (i : Nat) {x : Str} {pos : Pos} (hN : X.N[i]? = some x := by rfl) (hv : Vis X.env.scope x := by first | exact Or.inl rfl | exact Or.inr (Or.inl rfl) | exact Or.inr (Or.inr rfl)) (hd : (x == ("__debug__" : Str)) = false := by decide)
    (hcd : (x == ("__classdict__" : Str)) = false := by decide) : GE X W (.Name x pos) (dVar i) :=
  ⟨PE.imp (pe_var hN hv hd hcd) fun σ H Q ⟨δ, L, P, xc, rel, ⟨d, hd, t⟩, k, x⟩ => by
    obtain ⟨v, h1, h2⟩ := rel.sl.get hd
    exact ⟨v, h1, k d L v H t h2 rel (.refl H)⟩⟩
/-- a constant of the module: d stands for it in every heap -/
theorem ge_glob {x : Str} {v : V} {d : D} {u : Value} {pos : Pos} (hg : Gl X x) (hm : X.mg x = some u) (r : RelV v u) (rd : ∀ H, Rp X.K H d v) (hd : (x == ("__debug__" : Str)) = false := by decide) : GE X W (.Name x pos) (dC d) :=
  ge_const (pe_glob hg hm r hd) rd

/-! ### operators -/
abbrev DR2 := D → D → Cl → DV → Prop
abbrev DR1 := D → Cl → DV → Prop
abbrev DRL := List D → Cl → DV → Prop
def dOp (r : DR2) (ta tb : DE) : DE := fun xc δ L Q => ta xc δ L fun x L1 => tb xc δ L1 fun y L2 => r x y L2 Q
def dUn (r : DR1) (ta : DE) : DE := fun xc δ L Q => ta xc δ L fun x L1 => r x L1 Q
def LOp (K : PySem.W.Frag) (r : R2) (r' : DR2) : Prop := ∀ δ L σ H d e P x y Q, Rel K δ L σ H → Rp K H d x → Rp K H e y → r' d e L P → (∀ z L' v H', P z L' → Rp K H' z v → Rel K δ L' σ H' → TupExt H H' → Q v H') → r x y H Q
def LUn (K : PySem.W.Frag) (r : V → Hp → VK → Prop) (r' : DR1) : Prop := ∀ δ L σ H d P x Q, Rel K δ L σ H → Rp K H d x → r' d L P → (∀ z L' v H', P z L' → Rp K H' z v → Rel K δ L' σ H' → TupExt H H' → Q v H') → r x H Q
def LCa (K : PySem.W.Frag) (r : List V → Hp → VK → Prop) (r' : DRL) : Prop := ∀ δ L σ H ds P xs Q, Rel K δ L σ H → Rps K H ds xs → r' ds L P → (∀ z L' v H', P z L' → Rp K H' z v → Rel K δ L' σ H' → TupExt H H' → Q v H') → r xs H Q
/-- a pair of readings, of one operator -/
def GOp (X : Cx) (f : Value → Value → Sem Value) (r' : DR2) : Prop := ∃ r, OpR X f r ∧ LOp X.K r r'
def GUn (X : Cx) (f : Value → Sem Value) (r' : DR1) : Prop := ∃ r, UnR X f r ∧ LUn X.K r r'
def GCa (X : Cx) (f : Value) (r' : DRL) : Prop := ∃ r, CallR X f r ∧ LCa X.K r r'
def GIx (X : Cx) (r' : DR2) : Prop := ∃ r, IxR X r ∧ LOp X.K r r'
def dOr (r r' : DR2) : DR2 := fun x y L Q => r x y L Q ∨ r' x y L Q
def dOr1 (r r' : DRL) : DRL := fun x L Q => r x L Q ∨ r' x L Q
theorem LOp.or {K : PySem.W.Frag} {r1 r2 : R2} {s1 s2 : DR2} (h1 : LOp K r1 s1) (h2 : LOp K r2 s2) : LOp K (fun x y H Q => r1 x y H Q ∨ r2 x y H Q) (dOr s1 s2) := by
  intro δ L σ H d e P x y Q rel ra rb h k
  rcases h with h | h
  · exact .inl (h1 δ L σ H d e P x y Q rel ra rb h k)
  · exact .inr (h2 δ L σ H d e P x y Q rel ra rb h k)
theorem LCa.or {K : PySem.W.Frag} {r1 r2 : List V → Hp → VK → Prop} {s1 s2 : DRL} (h1 : LCa K r1 s1) (h2 : LCa K r2 s2) : LCa K (fun x H Q => r1 x H Q ∨ r2 x H Q) (dOr1 s1 s2) := by
  intro δ L σ H ds P xs Q rel ra h k
  rcases h with h | h
  · exact .inl (h1 δ L σ H ds P xs Q rel ra h k)
  · exact .inr (h2 δ L σ H ds P xs Q rel ra h k)
theorem GOp.or {f : Value → Value → Sem Value} {s1 s2 : DR2} (h1 : GOp X f s1) (h2 : GOp X f s2) : GOp X f (dOr s1 s2) := by
  obtain ⟨r1, o1, l1⟩ := h1
  obtain ⟨r2, o2, l2⟩ := h2
  exact ⟨_, o1.or o2, l1.or l2⟩
theorem GIx.or {s1 s2 : DR2} (h1 : GIx X s1) (h2 : GIx X s2) : GIx X (dOr s1 s2) := by
  obtain ⟨r1, o1, l1⟩ := h1
  obtain ⟨r2, o2, l2⟩ := h2
  exact ⟨_, o1.or o2, l1.or l2⟩
theorem GCa.or {f : Value} {s1 s2 : DRL} (h1 : GCa X f s1) (h2 : GCa X f s2) : GCa X f (dOr1 s1 s2) := by
  obtain ⟨r1, o1, l1⟩ := h1
  obtain ⟨r2, o2, l2⟩ := h2
  exact ⟨_, o1.or o2, l1.or l2⟩
theorem lift_op {K : PySem.W.Frag} {r : R2} {r' : DR2} (l : LOp K r r') (σ : L2.St) (H : Hp) (Q : VK) (h : liftE K W (dOp r' ta tb) σ H Q) : tOp r (liftE K W ta) (liftE K W tb) σ H Q := by
  obtain ⟨δ, L, P, xc, rel, t, k, x⟩ := h
  refine ⟨δ, L, _, xc, rel, t, fun d L1 v H1 h1 r1 rel1 e1 => ?_, x⟩
  refine ⟨δ, L1, _, xc, rel1, h1, fun d2 L2 v2 H2 h2 r2 rel2 e2 => ?_, x.mono e1⟩
  exact l δ L2 σ H2 d d2 P v v2 Q rel2 (r1.mono e2) r2 h2 fun z L' w H' hz rz relz ez => k z L' w H' hz rz relz ((e1.trans e2).trans ez)
theorem ge_op {op : Operator} {r' : DR2} (ho : GOp X (binaryOp op) r') (ha : GE X W a ta) (hb : GE X W b tb) : GE X W (.BinOp a op b pos) (dOp r' ta tb) := by
  obtain ⟨r, o, l⟩ := ho
  exact ⟨PE.imp (pe_op o ha.run hb.run) (lift_op l)⟩
theorem ge_cmp {op : CmpOp} {r' : DR2} (ho : GOp X (compareOp op) r') (ha : GE X W a ta) (hb : GE X W b tb) (hm : behindInMarks op b = false) : GE X W (.Compare a [op] [b] pos) (dOp r' ta tb) := by
  obtain ⟨r, o, l⟩ := ho
  exact ⟨PE.imp (pe_cmpR o ha.run hb.run hm) (lift_op l)⟩
def dTest (t : DE) : DT := fun xc δ L Q => t xc δ L fun x L' => ∃ k, x = .bl k ∧ Q k L'
theorem gt_cmp {op : CmpOp} {r' : DR2} (ho : GOp X (compareOp op) r') (ha : GE X W a ta) (hb : GE X W b tb) (hm : behindInMarks op b = false) : GT X W (.Compare a [op] [b] pos) (dTest (dOp r' ta tb)) := by
  obtain ⟨r, o, l⟩ := ho
  refine ⟨PT.imp (pt_cmpR o ha.run hb.run hm) fun σ H Q ⟨δ, L, P, xc, rel, t, k, x⟩ => ?_⟩
  refine lift_op l σ H _ ⟨δ, L, _, xc, rel, t, fun d L1 v H1 h1 r1 rel1 e1 => ?_, x⟩
  obtain ⟨c, rfl, q⟩ := h1
  exact ⟨c, r1.blE, k c L1 H1 q rel1 e1⟩
theorem ge_un {op : UnaryOp} {r' : DR1} (ho : GUn X (unaryOp op) r') (ha : GE X W a ta) : GE X W (.UnaryOp op a pos) (dUn r' ta) := by
  obtain ⟨r, o, l⟩ := ho
  refine ⟨PE.imp (pe_un o ha.run) fun σ H Q ⟨δ, L, P, xc, rel, t, k, x⟩ => ?_⟩
  refine ⟨δ, L, _, xc, rel, t, fun d L1 v H1 h1 r1 rel1 e1 => ?_, x⟩
  exact l δ L1 σ H1 d P v Q rel1 r1 h1 fun z L' w H' hz rz relz ez => k z L' w H' hz rz relz (e1.trans ez)
theorem ge_ix {r' : DR2} (ho : GIx X r') (ha : GE X W a ta) (hb : GE X W b tb) (hs : PlainIx b) : GE X W (.Subscript a b pos) (dOp r' ta tb) := by
  obtain ⟨r, o, l⟩ := ho
  exact ⟨PE.imp (pe_ix o ha.run hb.run hs) (lift_op l)⟩
/-- a chain of two comparisons -/
def dChain (r r' : DR2) (ta tb tc : DE) : DE := fun xc δ L Q => ta xc δ L fun x L1 => tb xc δ L1 fun y L2 => r x y L2 fun z L3 => ∃ k, z = .bl k ∧ (if k = true then tc xc δ L3 fun w L4 => r' y w L4 Q else Q (.bl false) L3)
theorem lift_chain {K : PySem.W.Frag} {r1 r2 : R2} {s1 s2 : DR2} (l1 : LOp K r1 s1) (l2 : LOp K r2 s2) (σ : L2.St) (H : Hp) (Q : VK) (h : liftE K W (dChain s1 s2 ta tb tc) σ H Q) :
    tChain r1 r2 (liftE K W ta) (liftE K W tb) (liftE K W tc) σ H Q := by
  obtain ⟨δ, L, P, xc, rel, t, k, x⟩ := h
  refine ⟨δ, L, _, xc, rel, t, fun d L1 v H1 h1 ra rel1 e1 => ?_, x⟩
  refine ⟨δ, L1, _, xc, rel1, h1, fun d2 L2 v2 H2 h2 rb rel2 e2 => ?_, x.mono e1⟩
  refine l1 δ L2 σ H2 d d2 _ v v2 _ rel2 (ra.mono e2) rb h2 fun z L3 w H3 hz rz rel3 e3 => ?_
  obtain ⟨c, rfl, q⟩ := hz
  refine ⟨c, rz.blE, ?_⟩
  cases c with
  | true =>
    refine ⟨δ, L3, _, xc, rel3, q, fun d4 L4 v4 H4 h4 r4 rel4 e4 => ?_, ((x.mono e1).mono e2).mono e3⟩
    exact l2 δ L4 σ H4 d2 d4 P v2 v4 Q rel4 (rb.mono (e3.trans e4)) r4 h4 fun z L' w H' hz rz relz ez => k z L' w H' hz rz relz ((((e1.trans e2).trans e3).trans e4).trans ez)
  | false => exact k _ _ _ _ q Rp.blI rel3 ((e1.trans e2).trans e3)
theorem ge_chain {op op' : CmpOp} {r r' : DR2} (ho : GOp X (compareOp op) r) (ho' : GOp X (compareOp op') r') (ha : GE X W a ta) (hb : GE X W b tb) (hc : GE X W c tc) (hm : lastMarks [op, op'] [b, c] = false := by rfl) :
    GE X W (.Compare a [op, op'] [b, c] pos) (dChain r r' ta tb tc) := by
  obtain ⟨r1, o1, l1⟩ := ho
  obtain ⟨r2, o2, l2⟩ := ho'
  exact ⟨PE.imp (pe_chain o1 o2 ha.run hb.run hc.run hm) (lift_chain l1 l2)⟩
theorem gt_chain {op op' : CmpOp} {r r' : DR2} (ho : GOp X (compareOp op) r) (ho' : GOp X (compareOp op') r') (ha : GE X W a ta) (hb : GE X W b tb) (hc : GE X W c tc) (hm : lastMarks [op, op'] [b, c] = false := by rfl) :
    GT X W (.Compare a [op, op'] [b, c] pos) (dTest (dChain r r' ta tb tc)) := by
  obtain ⟨r1, o1, l1⟩ := ho
  obtain ⟨r2, o2, l2⟩ := ho'
  refine ⟨PT.imp (pt_chain o1 o2 ha.run hb.run hc.run hm) fun σ H Q ⟨δ, L, P, xc, rel, t, k, x⟩ => ?_⟩
  refine lift_chain l1 l2 σ H _ ⟨δ, L, _, xc, rel, t, fun d L1 v H1 h1 r1 rel1 e1 => ?_, x⟩
  obtain ⟨c, rfl, q⟩ := h1
  exact ⟨c, r1.blE, k c L1 H1 q rel1 e1⟩

/-! ### tests -/
theorem gt_val {t : DE} (h : GE X W e t) (he : ∀ whole, isTrue e X.env whole = (do let v ← whole; standAt e.pos; holding [v] (truthy v)) := by intro _; rfl) : GT X W e (dTest t) := by
  refine ⟨PT.imp (pt_val h.run he) fun σ H Q ⟨δ, L, P, xc, rel, t, k, x⟩ => ?_⟩
  refine ⟨δ, L, _, xc, rel, t, fun d L1 v H1 h1 r1 rel1 e1 => ?_, x⟩
  obtain ⟨c, rfl, q⟩ := h1
  exact ⟨c, r1.blE, k c L1 H1 q rel1 e1⟩
def dAnd (t u : DT) : DT := fun xc δ L Q => t xc δ L fun c L1 => if c = true then u xc δ L1 Q else Q false L1
def dOrT (t u : DT) : DT := fun xc δ L Q => t xc δ L fun c L1 => if c = true then Q true L1 else u xc δ L1 Q
def dNot (t : DT) : DT := fun xc δ L Q => t xc δ L fun c L1 => Q (!c) L1
variable {tA tB' : DT} {rest : List Expr}
theorem GW.gt {t : DT} (h : GW X W e t) : GT X W e t := ⟨h.run.pt⟩
theorem gw_and1 (ha : GT X W a tA) : GW X W (.BoolOp .And [a] pos) tA := ⟨pw_and1 ha.run⟩
theorem gw_or1 (ha : GT X W a tA) : GW X W (.BoolOp .Or [a] pos) tA := ⟨pw_or1 ha.run⟩
theorem gw_and (ha : GT X W a tA) (hb : GW X W (.BoolOp .And (b :: rest) pos) tB') : GW X W (.BoolOp .And (a :: b :: rest) pos) (dAnd tA tB') := by
  refine ⟨PW.imp (pw_and ha.run hb.run) fun σ H Q ⟨δ, L, P, xc, rel, t, k, x⟩ => ?_⟩
  refine ⟨δ, L, _, xc, rel, t, fun c L1 H1 h1 rel1 e1 => ?_, x⟩
  cases c with
  | true => exact ⟨δ, L1, P, xc, rel1, h1, fun c2 L2 H2 h2 rel2 e2 => k c2 L2 H2 h2 rel2 (e1.trans e2), x.mono e1⟩
  | false => exact k _ _ _ h1 rel1 e1
theorem gw_or (ha : GT X W a tA) (hb : GW X W (.BoolOp .Or (b :: rest) pos) tB') : GW X W (.BoolOp .Or (a :: b :: rest) pos) (dOrT tA tB') := by
  refine ⟨PW.imp (pw_or ha.run hb.run) fun σ H Q ⟨δ, L, P, xc, rel, t, k, x⟩ => ?_⟩
  refine ⟨δ, L, _, xc, rel, t, fun c L1 H1 h1 rel1 e1 => ?_, x⟩
  cases c with
  | false => exact ⟨δ, L1, P, xc, rel1, h1, fun c2 L2 H2 h2 rel2 e2 => k c2 L2 H2 h2 rel2 (e1.trans e2), x.mono e1⟩
  | true => exact k _ _ _ h1 rel1 e1
theorem gt_not (ha : GT X W a tA) : GT X W (.UnaryOp .Not a pos) (dNot tA) := by
  refine ⟨PT.imp (pt_not ha.run) fun σ H Q ⟨δ, L, P, xc, rel, t, k, x⟩ => ?_⟩
  exact ⟨δ, L, _, xc, rel, t, fun c L1 H1 h1 rel1 e1 => k _ _ _ h1 rel1 e1, x⟩
def dAndV (ta tb : DE) : DE := fun xc δ L Q => ta xc δ L fun x L1 => ∃ c, x = .bl c ∧ if c = true then tb xc δ L1 Q else Q (.bl false) L1
def dOrV (ta tb : DE) : DE := fun xc δ L Q => ta xc δ L fun x L1 => ∃ c, x = .bl c ∧ if c = true then Q (.bl true) L1 else tb xc δ L1 Q
def dNotV (t : DT) : DE := fun xc δ L Q => t xc δ L fun c L1 => Q (.bl (!c)) L1
theorem ge_one {op} {t : DE} (h : GE X W a t) : GE X W (.BoolOp op [a] pos) t := ⟨pe_one h.run⟩
theorem ge_and (ha : GE X W a ta) (hb : GE X W (.BoolOp .And (b :: rest) pos) tb) : GE X W (.BoolOp .And (a :: b :: rest) pos) (dAndV ta tb) := by
  refine ⟨PE.imp (pe_and ha.run hb.run) fun σ H Q ⟨δ, L, P, xc, rel, t, k, x⟩ => ?_⟩
  refine ⟨δ, L, _, xc, rel, t, fun d L1 v H1 h1 r1 rel1 e1 => ?_, x⟩
  obtain ⟨c, rfl, q⟩ := h1
  refine ⟨c, r1.blE, ?_⟩
  cases c with
  | true => exact ⟨δ, L1, P, xc, rel1, q, fun d2 L2 v2 H2 h2 r2 rel2 e2 => k d2 L2 v2 H2 h2 r2 rel2 (e1.trans e2), x.mono e1⟩
  | false => exact k _ _ _ _ q Rp.blI rel1 e1
theorem ge_or (ha : GE X W a ta) (hb : GE X W (.BoolOp .Or (b :: rest) pos) tb) : GE X W (.BoolOp .Or (a :: b :: rest) pos) (dOrV ta tb) := by
  refine ⟨PE.imp (pe_or ha.run hb.run) fun σ H Q ⟨δ, L, P, xc, rel, t, k, x⟩ => ?_⟩
  refine ⟨δ, L, _, xc, rel, t, fun d L1 v H1 h1 r1 rel1 e1 => ?_, x⟩
  obtain ⟨c, rfl, q⟩ := h1
  refine ⟨c, r1.blE, ?_⟩
  cases c with
  | false => exact ⟨δ, L1, P, xc, rel1, q, fun d2 L2 v2 H2 h2 r2 rel2 e2 => k d2 L2 v2 H2 h2 r2 rel2 (e1.trans e2), x.mono e1⟩
  | true => exact k _ _ _ _ q Rp.blI rel1 e1
def dNotB (ta : DE) : DE := fun xc δ L Q => ta xc δ L fun x L1 => ∃ c, x = .bl c ∧ Q (.bl (!c)) L1
theorem ge_not (ha : GE X W a ta) : GE X W (.UnaryOp .Not a pos) (dNotB ta) := by
  refine ⟨PE.imp (pe_not ha.run) fun σ H Q ⟨δ, L, P, xc, rel, t, k, x⟩ => ?_⟩
  refine ⟨δ, L, _, xc, rel, t, fun d L1 v H1 h1 r1 rel1 e1 => ?_, x⟩
  obtain ⟨c, rfl, q⟩ := h1
  exact ⟨c, r1.blE, k _ _ _ _ q Rp.blI rel1 e1⟩
def dIf (t : DT) (ta tb : DE) : DE := fun xc δ L Q => t xc δ L fun c L1 => if c = true then ta xc δ L1 Q else tb xc δ L1 Q
theorem ge_if (hc : GT X W c tA) (ha : GE X W a ta) (hb : GE X W b tb) : GE X W (.IfExp c a b pos) (dIf tA ta tb) := by
  refine ⟨PE.imp (pe_ifExp hc.run ha.run hb.run) fun σ H Q ⟨δ, L, P, xc, rel, t, k, x⟩ => ?_⟩
  refine ⟨δ, L, _, xc, rel, t, fun c L1 H1 h1 rel1 e1 => ?_, x⟩
  cases c with
  | true => exact ⟨δ, L1, P, xc, rel1, h1, fun d2 L2 v2 H2 h2 r2 rel2 e2 => k d2 L2 v2 H2 h2 r2 rel2 (e1.trans e2), x.mono e1⟩
  | false => exact ⟨δ, L1, P, xc, rel1, h1, fun d2 L2 v2 H2 h2 r2 rel2 e2 => k d2 L2 v2 H2 h2 r2 rel2 (e1.trans e2), x.mono e1⟩

/-! ### argument lists, displays -/
def dNil : DA := fun _ _ L Q => Q [] L
def dCons (ta : DE) (tr : DA) : DA := fun xc δ L Q => ta xc δ L fun x L1 => tr xc δ L1 fun xs L2 => Q (x :: xs) L2
variable {tr : DA}
theorem ga_nil : GA X W [] dNil := ⟨PA.imp pa_nil fun σ H Q ⟨δ, L, P, xc, rel, t, k, x⟩ => k [] L [] H t Rps.nil rel (.refl H)⟩
theorem ga_cons (ha : GE X W e te) (hr : GA X W es tr) (hs : starEach (e :: es) X.env = (false, eval e X.env) :: starEach es X.env := by rfl) : GA X W (e :: es) (dCons te tr) := by
  refine ⟨PA.imp (pa_cons ha.run hr.run hs) fun σ H Q ⟨δ, L, P, xc, rel, t, k, x⟩ => ?_⟩
  refine ⟨δ, L, _, xc, rel, t, fun d L1 v H1 h1 r1 rel1 e1 => ?_, x⟩
  exact ⟨δ, L1, _, xc, rel1, h1, fun ds L2 vs H2 h2 r2 rel2 e2 => k (d :: ds) L2 (v :: vs) H2 h2 (Rps.cons (r1.mono e2) r2) rel2 (e1.trans e2), x.mono e1⟩
def dTup (t : DA) : DE := fun xc δ L Q => t xc δ L fun xs L1 => xs.length ≤ sizeLine ∧ Q (.tup xs) L1
def dLst (t : DA) : DE := fun xc δ L Q => t xc δ L fun xs L1 => xs.length ≤ sizeLine ∧ ∀ p, Q (.ref p) ((p, .lst xs) :: L1)
theorem ge_tup {x1} (h : GA X W es tr) : GE X W (.Tuple es x1 pos) (dTup tr) := by
  refine ⟨PE.imp (pe_tup h.run) fun σ H Q ⟨δ, L, P, xc, rel, t, k, x⟩ => ?_⟩
  refine ⟨δ, L, _, xc, rel, t, fun ds L1 vs H1 h1 r1 rel1 e1 => ?_, x⟩
  obtain ⟨hz, q⟩ := h1
  refine ⟨by rw [r1.length]; exact hz, fun p hp => ?_⟩
  have e2 : TupExt H1 (upd H1 p (.tup vs)) := TupExt.new hp
  exact k _ _ _ _ q (Rp.tupI (.inl upd_same) (r1.mono e2)) (rel1.to e2 (rel1.ce.tup hp)) (e1.trans e2)
theorem ge_lst (h : GA X W es tr) : GE X W (.List es pos) (dLst tr) := by
  refine ⟨PE.imp (pe_lst h.run) fun σ H Q ⟨δ, L, P, xc, rel, t, k, x⟩ => ?_⟩
  refine ⟨δ, L, _, xc, rel, t, fun ds L1 vs H1 h1 r1 rel1 e1 => ?_, x⟩
  obtain ⟨hz, q⟩ := h1
  refine ⟨by rw [r1.length]; exact hz, fun p hp => ?_⟩
  have e2 : TupExt H1 (upd H1 p (.lst vs)) := TupExt.new hp
  exact k _ _ _ _ (q p) Rp.refI (rel1.to e2 (rel1.ce.new hp ⟨vs, rfl, r1⟩)) (e1.trans e2)
end
end DL
set_option Elab.async false
set_option linter.all false
set_option maxRecDepth 100000
set_option maxHeartbeats 2000000
/-! Operators, subscripts, slices, calls of built-ins over D-values. -/
namespace DL
open PySem L2
section
variable {K : PySem.W.Frag} {H H' : Hp} {L L' : Cl} {δ : DS} {σ : L2.St}
/-- a list of the module's top -/
def KL (K : PySem.W.Frag) (a : Addr) (ds : List D) : Prop :=
  ∃ vs, (∃ (o : Obj) (its : Array Value) (n : Nat), K.lookup a = some o ∧ o.cls = .type "list" ∧ o.dict = none ∧ o.data = .seq its n ∧ its.size ≤ sizeLine ∧ Vals vs its.toList) ∧ ∀ H, Rps K H ds vs
/-- a list that is read -/
class inductive LAt (K : PySem.W.Frag) (L : Cl) (a : Addr) (ds : outParam (List D)) : Prop
  | own : At L a (.lst ds) → LAt K L a ds
  | frl : At L a (.frl ds) → LAt K L a ds
  | top : KL K a ds → LAt K L a ds
theorem LAt.sq {a : Addr} {ds : List D} (h : LAt K L a ds) (c : Cells K H L) : ∃ vs, SqL K H a vs ∧ Rps K H ds vs := by
  cases h with
  | own h =>
    obtain ⟨o, h1, vs, rfl, r⟩ := c.get h
    exact ⟨vs, SqL.of h1, r⟩
  | frl h =>
    obtain ⟨o, h1, ob, vs, rfl, r⟩ := c.get h
    exact ⟨vs, .inl (.inr ⟨ob, h1⟩), r⟩
  | top h =>
    obtain ⟨vs, h1, r⟩ := h
    exact ⟨vs, .inr h1, r H⟩
/-- what a cell says -/
theorem Cells.lst {a : Addr} {ds : List D} (c : Cells K H L) (h : At L a (.lst ds)) : ∃ vs, H a = some (.lst vs) ∧ Rps K H ds vs := by
  obtain ⟨o, h1, vs, rfl, r⟩ := c.get h
  exact ⟨vs, h1, r⟩
theorem Cells.dct {a : Addr} {kvs : List (Key × D)} (c : Cells K H L) (h : At L a (.dct kvs)) : ∃ ws, H a = some (.dK ws) ∧ KRel K H kvs ws ∧ (kvs.map (·.1)).Nodup := by
  obtain ⟨o, h1, ws, rfl, r⟩ := c.get h
  exact ⟨ws, h1, r⟩
theorem Cells.ins {a C : Addr} {ns : List Str} {ds : List D} (c : Cells K H L) (h : At L a (.ins C ns ds)) : ∃ dx gs, H a = some (.ins C dx gs) ∧ gs.map (·.1) = ns ∧ Rps K H ds (gs.map (·.2)) ∧ ns.Nodup := by
  obtain ⟨o, h1, dx, gs, rfl, r⟩ := c.get h
  exact ⟨dx, gs, h1, r⟩
theorem lputX {a : Addr} {ds es : List D} {us : List V} (rel : Rel K δ L σ H) (u : Up L a (.lst ds) (.lst es) L') (r : Rps K H es us) : Rel K δ L' σ (upd H a (.lst us)) ∧ TupExt H (upd H a (.lst us)) := by
  obtain ⟨c, e⟩ := rel.ce.put u (o' := .lst us) ⟨us, rfl, r⟩
  exact ⟨rel.to e c, e⟩
theorem newX {p : Addr} {g : GO} {o : HO} (rel : Rel K δ L σ H) (h : H p = none) (r : GRel K H g o) : Rel K δ ((p, g) :: L) σ (upd H p o) ∧ TupExt H (upd H p o) :=
  ⟨rel.to (TupExt.new h) (rel.ce.new h r), TupExt.new h⟩
theorem tupX {p : Addr} {ds : List D} {vs : List V} (rel : Rel K δ L σ H) (h : H p = none) (r : Rps K H ds vs) : Rel K δ L σ (upd H p (.tup vs)) ∧ TupExt H (upd H p (.tup vs)) ∧ Rp K (upd H p (.tup vs)) (.tup ds) (.ref p) :=
  ⟨rel.to (TupExt.new h) (rel.ce.tup h), TupExt.new h, Rp.tupI (.inl upd_same) (r.mono (TupExt.new h))⟩
end

section
variable {X : Cx}
/-! ### ints -/
def dI (C : Int → Int → Prop) (g : Int → Int → D) : DR2 := fun x y L Q => ∃ i j, x = .int i ∧ y = .int j ∧ C i j ∧ Q (g i j) L
def yes2 : Int → Int → Prop := fun _ _ => True
theorem lop_I {K : PySem.W.Frag} {C : Int → Int → Prop} {g : Int → Int → V} {g' : Int → Int → D} (hg : ∀ H i j, Rp K H (g' i j) (g i j)) : LOp K (rI C g) (dI C g') := by
  intro δ L σ H d e P x y Q rel ra rb ⟨i, j, h1, h2, hc, q⟩ k
  subst h1 h2
  exact ⟨i, j, ra.intE, rb.intE, hc, k _ L _ H q (hg H i j) rel (.refl H)⟩
theorem lop_I0 {K : PySem.W.Frag} {g : Int → Int → V} {g' : Int → Int → D} (hg : ∀ H i j, Rp K H (g' i j) (g i j)) : LOp K (rI0 g) (dI yes2 g') := by
  intro δ L σ H d e P x y Q rel ra rb ⟨i, j, h1, h2, _, q⟩ k
  subst h1 h2
  exact ⟨i, j, ra.intE, rb.intE, k _ L _ H q (hg H i j) rel (.refl H)⟩
abbrev dAddI : DR2 := dI yes2 fun i j => .int (i + j)
abbrev dSubI : DR2 := dI yes2 fun i j => .int (i - j)
abbrev dMulI : DR2 := dI CMulW fun i j => .int (i * j)
abbrev dDivI : DR2 := dI CDivW fun i j => .int (i / j)
abbrev dModI : DR2 := dI (fun _ j => 0 < j) fun i j => .int (i % j)
abbrev dPowI : DR2 := dI CPow fun i j => .int (i ^ j.toNat)
abbrev dLtI : DR2 := dI yes2 fun i j => .bl (decide (i < j))
abbrev dLeI : DR2 := dI yes2 fun i j => .bl (decide (i ≤ j))
abbrev dGtI : DR2 := dI yes2 fun i j => .bl (decide (j < i))
abbrev dGeI : DR2 := dI yes2 fun i j => .bl (decide (j ≤ i))
theorem go_addI : GOp X (binaryOp .Add) dAddI := ⟨_, op_add, lop_I0 fun _ _ _ => Rp.intI⟩
theorem go_sub : GOp X (binaryOp .Sub) dSubI := ⟨_, op_sub, lop_I0 fun _ _ _ => Rp.intI⟩
theorem go_mulI : GOp X (binaryOp .Mult) dMulI := ⟨_, op_mulW, lop_I fun _ _ _ => Rp.intI⟩
theorem go_div : GOp X (binaryOp .FloorDiv) dDivI := ⟨_, op_fdivW, lop_I fun _ _ _ => Rp.intI⟩
theorem go_mod : GOp X (binaryOp .Mod) dModI := ⟨_, op_mod, lop_I fun _ _ _ => Rp.intI⟩
theorem go_pow : GOp X (binaryOp .Pow) dPowI := ⟨_, op_pow, lop_I fun _ _ _ => Rp.intI⟩
theorem go_ltI : GOp X (compareOp .Lt) dLtI := ⟨_, op_lt, lop_I0 fun _ _ _ => Rp.blI⟩
theorem go_leI : GOp X (compareOp .LtE) dLeI := ⟨_, op_le, lop_I0 fun _ _ _ => Rp.blI⟩
theorem go_gtI : GOp X (compareOp .Gt) dGtI := ⟨_, op_gt, lop_I0 fun _ _ _ => Rp.blI⟩
theorem go_geI : GOp X (compareOp .GtE) dGeI := ⟨_, op_ge, lop_I0 fun _ _ _ => Rp.blI⟩
/-! ### +, * of texts, lists, tuples -/
def dAddS : DR2 := fun x y L Q => ∃ i j, x = .str i ∧ y = .str j ∧ i.length + j.length ≤ sizeLine ∧ Q (.str (i ++ j)) L
theorem go_addS : GOp X (binaryOp .Add) dAddS := ⟨_, op_add_str, by
  intro δ L σ H d e P x y Q rel ra rb ⟨i, j, h1, h2, hc, q⟩ k
  subst h1 h2
  exact ⟨i, j, ra.strE, rb.strE, hc, k _ L _ H q Rp.strI rel (.refl H)⟩⟩
def dCat : DR2 := fun x y L Q => ∃ a b xs ys, x = .ref a ∧ y = .ref b ∧ At L a (.lst xs) ∧ At L b (.lst ys) ∧ xs.length + ys.length ≤ sizeLine ∧ ∀ p, Q (.ref p) ((p, .lst (xs ++ ys)) :: L)
theorem go_cat : GOp X (binaryOp .Add) dCat := ⟨_, op_cat, by
  intro δ L σ H d e P x y Q rel ra rb ⟨a, b, xs, ys, h1, h2, ha, hb, hz, q⟩ k
  subst h1 h2
  obtain ⟨vs, hva, rva⟩ := rel.ce.lst ha
  obtain ⟨us, hvb, rvb⟩ := rel.ce.lst hb
  refine ⟨a, b, vs, us, ra.refE, rb.refE, hva, hvb, by rw [rva.length, rvb.length]; exact hz, fun p hp => ?_⟩
  obtain ⟨r1, e1⟩ := newX rel hp (g := .lst (xs ++ ys)) (o := .lst (vs ++ us)) ⟨_, rfl, rva.append rvb⟩
  exact k _ _ _ _ (q p) Rp.refI r1 e1⟩
def dCatT : DR2 := fun x y L Q => ∃ xs ys, x = .tup xs ∧ y = .tup ys ∧ xs ≠ [] ∧ xs.length + ys.length ≤ sizeLine ∧ Q (.tup (xs ++ ys)) L
theorem go_catT : GOp X (binaryOp .Add) dCatT := ⟨_, op_catT, by
  intro δ L σ H d e P x y Q rel ra rb ⟨xs, ys, h1, h2, hn, hz, q⟩ k
  subst h1 h2
  obtain ⟨a, vs, rfl, ta, rva⟩ := ra.tupE
  obtain ⟨b, us, rfl, tb, rvb⟩ := rb.tupE
  refine ⟨a, b, vs, us, rfl, rfl, ta.sq, tb.sq, fun z => ?_, by rw [rva.length, rvb.length]; exact hz, fun z => ?_, fun z p hp => ?_⟩
  · have e := rva.length
    rw [z] at e
    exact hn (List.length_eq_zero_iff.mp e.symm)
  · subst z
    have e := rvb.length
    have e2 : ys = [] := List.length_eq_zero_iff.mp e.symm
    subst e2
    rw [List.append_nil] at q
    exact k _ L _ H q (Rp.tupI ta rva) rel (.refl H)
  · obtain ⟨r1, e1, t1⟩ := tupX rel hp (rva.append rvb)
    exact k _ _ _ _ q t1 r1 e1⟩
abbrev dAdd : DR2 := dOr dAddI (dOr dAddS (dOr dCat dCatT))
theorem go_add : GOp X (binaryOp .Add) dAdd := go_addI.or (go_addS.or (go_cat.or go_catT))
def dRep : DR2 := fun x y L Q => ∃ a k xs, x = .ref a ∧ y = .int k ∧ At L a (.lst xs) ∧ -(2 ^ 63) ≤ k ∧ k < 2 ^ 63 ∧ xs.length * k.toNat ≤ sizeLine ∧ ∀ p, Q (.ref p) ((p, .lst (List.replicate k.toNat xs).flatten) :: L)
theorem go_rep : GOp X (binaryOp .Mult) dRep := ⟨_, op_rep, by
  intro δ L σ H d e P x y Q rel ra rb ⟨a, n, xs, h1, h2, ha, hl, hh, hz, q⟩ k
  subst h1 h2
  obtain ⟨vs, hva, rva⟩ := rel.ce.lst ha
  refine ⟨a, n, vs, ra.refE, rb.intE, hva, hl, hh, by rw [rva.length]; exact hz, fun p hp => ?_⟩
  obtain ⟨r1, e1⟩ := newX rel hp (g := .lst (List.replicate n.toNat xs).flatten) (o := .lst (List.replicate n.toNat vs).flatten) ⟨_, rfl, rva.rep _⟩
  exact k _ _ _ _ (q p) Rp.refI r1 e1⟩
def dRepT : DR2 := fun x y L Q => ∃ k xs, x = .tup xs ∧ y = .int k ∧ xs ≠ [] ∧ 2 ≤ k ∧ k ≤ 1000 ∧ xs.length ≤ 1000 ∧ Q (.tup (List.replicate k.toNat xs).flatten) L
theorem go_repT : GOp X (binaryOp .Mult) dRepT := ⟨_, op_repT, by
  intro δ L σ H d e P x y Q rel ra rb ⟨n, xs, h1, h2, hn, hl, hh, hz, q⟩ k
  subst h1 h2
  obtain ⟨a, vs, rfl, ta, rva⟩ := ra.tupE
  refine ⟨a, n, vs, rfl, rb.intE, ta.sq, fun z => ?_, hl, hh, by rw [rva.length]; exact hz, fun p hp => ?_⟩
  · have e := rva.length
    rw [z] at e
    exact hn (List.length_eq_zero_iff.mp e.symm)
  · obtain ⟨r1, e1, t1⟩ := tupX rel hp (rva.rep n.toNat)
    exact k _ _ _ _ q t1 r1 e1⟩
abbrev dMul : DR2 := dOr dMulI (dOr dRep dRepT)
theorem go_mul : GOp X (binaryOp .Mult) dMul := go_mulI.or (go_rep.or go_repT)
/-! ### ==, != -/
/-- a flat value -/
def toV : D → V
  | .non => .non | .bl b => .bl b | .int i => .int i | .str x => .str x | .ref a => .ref a | .tup _ => .non
def flatD : D → Bool
  | .non => true | .bl _ => true | .int _ => true | .str _ => true | _ => false
theorem Rp.flat {K : PySem.W.Frag} {H : Hp} {d : D} {v : V} (h : Rp K H d v) (e : flatD d = true) : v = toV d := by
  cases d with
  | non => exact h.nonE
  | bl b => exact h.blE
  | int i => exact h.intE
  | str x => exact h.strE
  | ref a => exact absurd e Bool.false_ne_true
  | tup ds => exact absurd e Bool.false_ne_true
theorem Rps.flat {K : PySem.W.Frag} {H : Hp} : ∀ {ds : List D} {vs : List V}, Rps K H ds vs → ds.all flatD = true → vs = ds.map toV
  | [], _, h, _ => h.nilE
  | d :: ds, _, h, e => by
    obtain ⟨v, r, rfl, h2, h3⟩ := h.consE
    rw [List.all_cons, Bool.and_eq_true] at e
    rw [h2.flat e.1, h3.flat e.2]; rfl
theorem flatV_to {d : D} (e : flatD d = true) : flatV (toV d) = true := by
  cases d with
  | non => rfl
  | bl b => rfl
  | int i => rfl
  | str x => rfl
  | ref a => exact absurd e Bool.false_ne_true
  | tup ds => exact absurd e Bool.false_ne_true
theorem flatV_map {ds : List D} (h : ds.all flatD = true) : (ds.map toV).all flatV = true := by
  rw [List.all_eq_true] at h ⊢
  intro v hv
  obtain ⟨d, hd, rfl⟩ := List.mem_map.mp hv
  exact flatV_to (h d hd)
def scalD (x y : D) : Bool := flatD x && flatD y && scal (toV x) (toV y)
def dEqS : DR2 := fun x y L Q => scalD x y = true ∧ Q (.bl (decide (toV x = toV y))) L
def dNeS : DR2 := fun x y L Q => scalD x y = true ∧ Q (.bl (!decide (toV x = toV y))) L
theorem go_eqS : GOp X (compareOp .Eq) dEqS := ⟨_, op_eq, by
  intro δ L σ H d e P x y Q rel ra rb ⟨hs, q⟩ k
  unfold scalD at hs
  rw [Bool.and_eq_true, Bool.and_eq_true] at hs
  rw [ra.flat hs.1.1, rb.flat hs.1.2]
  exact ⟨hs.2, k _ L _ H q Rp.blI rel (.refl H)⟩⟩
theorem go_neS : GOp X (compareOp .NotEq) dNeS := ⟨_, op_ne, by
  intro δ L σ H d e P x y Q rel ra rb ⟨hs, q⟩ k
  unfold scalD at hs
  rw [Bool.and_eq_true, Bool.and_eq_true] at hs
  rw [ra.flat hs.1.1, rb.flat hs.1.2]
  exact ⟨hs.2, k _ L _ H q Rp.blI rel (.refl H)⟩⟩
/-- data: what a value is, with its lists -/
inductive Dat (K : PySem.W.Frag) (L : Cl) : D → PyData → Prop
  | non : Dat K L .non .none
  | bl (b : Bool) : Dat K L (.bl b) (.bool b)
  | int (i : Int) : Dat K L (.int i) (.int i)
  | str (x : Str) : Dat K L (.str x) (.str x)
  | tupN : Dat K L (.tup []) (.tuple [])
  | tupC {d : D} {ds : List D} {x : PyData} {xs : List PyData} : Dat K L d x → Dat K L (.tup ds) (.tuple xs) → Dat K L (.tup (d :: ds)) (.tuple (x :: xs))
  | lst {a : Addr} {ds : List D} {xs : List PyData} : LAt K L a ds → Dat K L (.tup ds) (.tuple xs) → Dat K L (.ref a) (.list xs)
theorem Dat.dp {K : PySem.W.Frag} {H : Hp} {L : Cl} (c : Cells K H L) {d : D} {x : PyData} (h : Dat K L d x) :
    (∀ v, Rp K H d v → Dp K H v x) ∧ (∀ ds xs vs, d = .tup ds → x = .tuple xs → Rps K H ds vs → DpAll K H vs xs) := by
  induction h with
  | non => exact ⟨fun v r => by rw [r.nonE]; exact .non, fun ds xs vs e => by cases e⟩
  | bl b => exact ⟨fun v r => by rw [r.blE]; exact .bl b, fun ds xs vs e => by cases e⟩
  | int i => exact ⟨fun v r => by rw [r.intE]; exact .int i, fun ds xs vs e => by cases e⟩
  | str x => exact ⟨fun v r => by rw [r.strE]; exact .str x, fun ds xs vs e => by cases e⟩
  | tupN =>
    have h2 : ∀ (ds : List D) (xs : List PyData) (vs : List V), D.tup [] = .tup ds → PyData.tuple [] = .tuple xs → Rps K H ds vs → DpAll K H vs xs := by
      intro ds xs vs e1 e2 r
      cases e1; cases e2
      rw [r.nilE]; exact .nil
    refine ⟨fun v r => ?_, h2⟩
    obtain ⟨p, vs, rfl, t, rs⟩ := r.tupE
    exact .tup t.sq (h2 _ _ _ rfl rfl rs)
  | @tupC d ds x xs h1 h2 i1 i2 =>
    have h3 : ∀ (es : List D) (ys : List PyData) (vs : List V), D.tup (d :: ds) = .tup es → PyData.tuple (x :: xs) = .tuple ys → Rps K H es vs → DpAll K H vs ys := by
      intro es ys vs e1 e2 r
      cases e1; cases e2
      obtain ⟨v, w, rfl, r1, r2⟩ := r.consE
      exact .cons (i1.1 v r1) (i2.2 _ _ _ rfl rfl r2)
    refine ⟨fun v r => ?_, h3⟩
    obtain ⟨p, vs, rfl, t, rs⟩ := r.tupE
    exact .tup t.sq (h3 _ _ _ rfl rfl rs)
  | @lst a ds xs h1 h2 i2 =>
    refine ⟨fun v r => ?_, fun ds xs vs e => by cases e⟩
    rw [r.refE]
    obtain ⟨vs, sq, rs⟩ := h1.sq c
    exact .lst sq (i2.2 _ _ _ rfl rfl rs)
def dEqD (K : PySem.W.Frag) : DR2 := fun x y L Q => ∃ u v, Dat K L x u ∧ Dat K L y v ∧ SeqAt.shaped u = true ∧ SeqAt.shaped v = true ∧ Q (.bl (PyData.eqv u v)) L
def dNeD (K : PySem.W.Frag) : DR2 := fun x y L Q => ∃ u v, Dat K L x u ∧ Dat K L y v ∧ SeqAt.shaped u = true ∧ SeqAt.shaped v = true ∧ Q (.bl (!PyData.eqv u v)) L
theorem go_eqD (hu : X.A.units + 64 < cLine) : GOp X (compareOp .Eq) (dEqD X.K) := ⟨_, op_eqD hu, by
  intro δ L σ H d e P x y Q rel ra rb ⟨u, v, h1, h2, s1, s2, q⟩ k
  exact ⟨u, v, (h1.dp rel.ce).1 x ra, (h2.dp rel.ce).1 y rb, s1, s2, k _ L _ H q Rp.blI rel (.refl H)⟩⟩
theorem go_neD (hu : X.A.units + 64 < cLine) : GOp X (compareOp .NotEq) (dNeD X.K) := ⟨_, op_neD hu, by
  intro δ L σ H d e P x y Q rel ra rb ⟨u, v, h1, h2, s1, s2, q⟩ k
  exact ⟨u, v, (h1.dp rel.ce).1 x ra, (h2.dp rel.ce).1 y rb, s1, s2, k _ L _ H q Rp.blI rel (.refl H)⟩⟩
abbrev dEq (K : PySem.W.Frag) : DR2 := dOr dEqS (dEqD K)
abbrev dNe (K : PySem.W.Frag) : DR2 := dOr dNeS (dNeD K)
theorem go_eq (hu : X.A.units + 64 < cLine) : GOp X (compareOp .Eq) (dEq X.K) := go_eqS.or (go_eqD hu)
theorem go_ne (hu : X.A.units + 64 < cLine) : GOp X (compareOp .NotEq) (dNe X.K) := go_neS.or (go_neD hu)
/-! ### <, <= of texts -/
def dLtS : DR2 := fun x y L Q => ∃ i j, x = .str i ∧ y = .str j ∧ Q (.bl (decide (i.cps.toList < j.cps.toList))) L
theorem go_ltS : GOp X (compareOp .Lt) dLtS := ⟨_, op_lt_str, by
  intro δ L σ H d e P x y Q rel ra rb ⟨i, j, h1, h2, q⟩ k
  subst h1 h2
  exact ⟨i, j, ra.strE, rb.strE, k _ L _ H q Rp.blI rel (.refl H)⟩⟩
abbrev dLt : DR2 := dOr dLtI dLtS
theorem go_lt : GOp X (compareOp .Lt) dLt := go_ltI.or go_ltS
/-! ### in, not in -/
inductive SAt (K : PySem.W.Frag) (L : Cl) : D → List D → Prop
  | lst {a : Addr} {ds : List D} : LAt K L a ds → SAt K L (.ref a) ds
  | tup {ds : List D} : SAt K L (.tup ds) ds
def dInQ (K : PySem.W.Frag) (neg : Bool) : DR2 := fun x y L Q => ∃ ds : List D, SAt K L y ds ∧ flatD x = true ∧ ds.all flatD = true ∧ Q (.bl (if neg then !inV (toV x) (ds.map toV) else inV (toV x) (ds.map toV))) L
theorem lop_inQ {K : PySem.W.Frag} (neg : Bool) : LOp K (rIn K neg) (dInQ K neg) := by
  intro δ L σ H d e P x y Q rel ra rb ⟨ds, h1, h2, h3, q⟩ k
  have core : ∀ p vs, y = .ref p → (SqL K H p vs ∨ SqT K H p vs) → Rps K H ds vs → rIn K neg x y H Q := by
    intro p vs e sq rs
    refine ⟨p, vs, e, sq, ?_, ?_, ?_⟩
    · rw [ra.flat h2]; exact flatV_to h2
    · rw [rs.flat h3]; exact flatV_map h3
    · rw [ra.flat h2, rs.flat h3]
      exact k _ L _ H q Rp.blI rel (.refl H)
  cases h1 with
  | lst h =>
    obtain ⟨vs, sq, rs⟩ := h.sq rel.ce
    exact core _ vs rb.refE (.inl sq) rs
  | tup =>
    obtain ⟨p, vs, e, t, rs⟩ := rb.tupE
    exact core p vs e (.inr t.sq) rs
theorem go_inQ : GOp X (compareOp .In) (dInQ X.K false) := ⟨_, op_in_seq, lop_inQ false⟩
theorem go_niQ : GOp X (compareOp .NotIn) (dInQ X.K true) := ⟨_, op_notIn_seq, lop_inQ true⟩
/-! dicts -/
def valD {κ : Type} [DecidableEq κ] (kvs : List (κ × D)) (k : κ) : Option D := (kvs.find? fun kv => decide (kv.1 = k)).map (·.2)
def kD : Key → D
  | .inl i => .int i
  | .inr x => .str x
theorem KRel.val {K : PySem.W.Frag} {H : Hp} {k : Key} : ∀ {a : List (Key × D)} {b : List (Key × V)}, KRel K H a b → (valD a k = none ∧ valV b k = none) ∨ ∃ d v, valD a k = some d ∧ valV b k = some v ∧ Rp K H d v
  | [], _, h => by rw [show _ = [] from h]; exact .inl ⟨rfl, rfl⟩
  | (k', d) :: r, _, ⟨v, s, h1, h2, h3⟩ => by
    subst h1
    by_cases e : k' = k
    · right
      exact ⟨d, v, by simp [valD, List.find?_cons, e], valV_pos e, h2⟩
    · have h4 := KRel.val (k := k) h3
      have e1 : valD ((k', d) :: r) k = valD r k := by simp [valD, List.find?_cons, e]
      rw [e1, valV_neg (p := (k', v)) e]
      exact h4
theorem KRel.length {K : PySem.W.Frag} {H : Hp} : ∀ {a : List (Key × D)} {b : List (Key × V)}, KRel K H a b → b.length = a.length
  | [], _, h => by rw [show _ = [] from h]; rfl
  | (k', d) :: r, _, ⟨v, s, h1, h2, h3⟩ => by subst h1; simp [KRel.length h3]
theorem Rp.key {K : PySem.W.Frag} {H : Hp} {k : Key} {v : V} (h : Rp K H (kD k) v) : v = kV k := by
  cases k with
  | inl i => exact h.intE
  | inr x => exact h.strE
def rDIn : R2 := fun y x H Q => ∃ a o, x = .ref a ∧ DGet H a y o ∧ Q (.bl o.isSome) H
def rDNi : R2 := fun y x H Q => ∃ a o, x = .ref a ∧ DGet H a y o ∧ Q (.bl (!o.isSome)) H
theorem op_din (hu : X.A.units + 1 < cLine) : OpR X (compareOp .In) rDIn := by
  intro pins s σ H y x u v Q I ry rx ⟨a, o, e, g, q⟩
  subst e
  obtain rfl : v = Value.ref a := rx
  exact d_in hu I g ry fun s' I' => ⟨.bl o.isSome, H, I', rfl, q⟩
theorem op_dni (hu : X.A.units + 1 < cLine) : OpR X (compareOp .NotIn) rDNi := by
  intro pins s σ H y x u v Q I ry rx ⟨a, o, e, g, q⟩
  subst e
  obtain rfl : v = Value.ref a := rx
  exact d_notIn hu I g ry fun s' I' => ⟨.bl (!o.isSome), H, I', rfl, q⟩
def dInK : DR2 := fun y x L Q => ∃ a k kvs, y = kD k ∧ x = .ref a ∧ At L a (.dct kvs) ∧ Q (.bl (valD kvs k).isSome) L
def dNiK : DR2 := fun y x L Q => ∃ a k kvs, y = kD k ∧ x = .ref a ∧ At L a (.dct kvs) ∧ Q (.bl (!(valD kvs k).isSome)) L
theorem dget_of {K : PySem.W.Frag} {H : Hp} {L : Cl} {a : Addr} {k : Key} {kvs : List (Key × D)} (c : Cells K H L) (h : At L a (.dct kvs)) :
    ∃ o, DGet H a (kV k) o ∧ o.isSome = (valD kvs k).isSome ∧ ∀ d, valD kvs k = some d → ∃ v, o = some v ∧ Rp K H d v := by
  obtain ⟨ws, h1, r, _⟩ := c.dct h
  refine ⟨valV ws k, DGet.k h1, ?_⟩
  rcases r.val (k := k) with ⟨e1, e2⟩ | ⟨d, v, e1, e2, rv⟩
  · rw [e1, e2]; exact ⟨rfl, fun d z => by cases z⟩
  · rw [e1, e2]; exact ⟨rfl, fun d' z => by cases z; exact ⟨v, rfl, rv⟩⟩
theorem go_inK (hu : X.A.units + 1 < cLine) : GOp X (compareOp .In) dInK := ⟨_, op_din hu, by
  intro δ L σ H d e P y x Q rel ra rb ⟨a, key, kvs, h1, h2, h3, q⟩ k
  subst h1 h2
  obtain ⟨o, g, e1, _⟩ := dget_of (k := key) rel.ce h3
  refine ⟨a, o, rb.refE, by rw [ra.key]; exact g, ?_⟩
  rw [e1]
  exact k _ L _ H q Rp.blI rel (.refl H)⟩
theorem go_niK (hu : X.A.units + 1 < cLine) : GOp X (compareOp .NotIn) dNiK := ⟨_, op_dni hu, by
  intro δ L σ H d e P y x Q rel ra rb ⟨a, key, kvs, h1, h2, h3, q⟩ k
  subst h1 h2
  obtain ⟨o, g, e1, _⟩ := dget_of (k := key) rel.ce h3
  refine ⟨a, o, rb.refE, by rw [ra.key]; exact g, ?_⟩
  rw [e1]
  exact k _ L _ H q Rp.blI rel (.refl H)⟩
abbrev dIn (K : PySem.W.Frag) : DR2 := dOr (dInQ K false) dInK
abbrev dNi (K : PySem.W.Frag) : DR2 := dOr (dInQ K true) dNiK
theorem go_in (hu : X.A.units + 1 < cLine) : GOp X (compareOp .In) (dIn X.K) := go_inQ.or (go_inK hu)
theorem go_ni (hu : X.A.units + 1 < cLine) : GOp X (compareOp .NotIn) (dNi X.K) := go_niQ.or (go_niK hu)
/-! ### is None -/
def isNoneD : D → Bool
  | .non => true
  | _ => false
theorem Rp.isNone {K : PySem.W.Frag} {H : Hp} {d : D} {v : V} (h : Rp K H d v) : decide (v = .non) = isNoneD d := by
  cases d with
  | non => rw [h.nonE]; rfl
  | bl b => rw [h.blE]; rfl
  | int b => rw [h.intE]; rfl
  | str b => rw [h.strE]; rfl
  | ref b => rw [h.refE]; rfl
  | tup ds => obtain ⟨p, vs, rfl, _⟩ := h.tupE; rfl
def dIsN : DR2 := fun x y L Q => y = .non ∧ Q (.bl (isNoneD x)) L
def dNotN : DR2 := fun x y L Q => y = .non ∧ Q (.bl (!isNoneD x)) L
theorem go_is : GOp X (compareOp .Is) dIsN := ⟨_, op_isN, by
  intro δ L σ H d e P x y Q rel ra rb ⟨h1, q⟩ k
  subst h1
  exact ⟨rb.nonE, by rw [ra.isNone]; exact k _ L _ H q Rp.blI rel (.refl H)⟩⟩
theorem go_isnot : GOp X (compareOp .IsNot) dNotN := ⟨_, op_notN, by
  intro δ L σ H d e P x y Q rel ra rb ⟨h1, q⟩ k
  subst h1
  exact ⟨rb.nonE, by rw [ra.isNone]; exact k _ L _ H q Rp.blI rel (.refl H)⟩⟩
theorem go_neg : GUn X (unaryOp .USub) (fun x L Q => ∃ i, x = .int i ∧ Q (.int (-i)) L) := ⟨_, un_neg, by
  intro δ L σ H d P x Q rel ra ⟨i, h1, q⟩ k
  subst h1
  exact ⟨i, ra.intE, k _ L _ H q Rp.intI rel (.refl H)⟩⟩
/-! ### subscripts -/
def dIxQ (K : PySem.W.Frag) : DR2 := fun x y L Q => ∃ ds i d, SAt K L x ds ∧ y = .int i ∧ atI ds i = some d ∧ Q d L
theorem atI_rps {K : PySem.W.Frag} {H : Hp} {ds : List D} {vs : List V} {i : Int} {d : D} (r : Rps K H ds vs) (h : atI ds i = some d) : ∃ v, atI vs i = some v ∧ Rp K H d v := by
  unfold atI at h ⊢
  rw [r.length]
  cases e : ixN ds.length i with
  | none => rw [e] at h; cases h
  | some j =>
    rw [e] at h
    exact r.get h
theorem gi_seq : GIx X (dIxQ X.K) := ⟨_, ix_list.or ix_tup, by
  intro δ L σ H d e P x y Q rel ra rb ⟨ds, i, z, h1, h2, h3, q⟩ k
  subst h2
  cases h1 with
  | lst h =>
    obtain ⟨vs, sq, rs⟩ := h.sq rel.ce
    obtain ⟨v, h4, h5⟩ := atI_rps rs h3
    exact .inl ⟨_, vs, i, v, ra.refE, rb.intE, sq, h4, k _ L _ H q h5 rel (.refl H)⟩
  | tup =>
    obtain ⟨p, vs, e, t, rs⟩ := ra.tupE
    obtain ⟨v, h4, h5⟩ := atI_rps rs h3
    exact .inr ⟨_, vs, i, v, e, rb.intE, t.sq, h4, k _ L _ H q h5 rel (.refl H)⟩⟩
def dIxS : DR2 := fun x y L Q => ∃ z i c, x = .str z ∧ y = .int i ∧ z.length ≤ sizeLine ∧ atI z.cps.toList i = some c ∧ Q (.str ⟨#[c]⟩) L
theorem gi_str : GIx X dIxS := ⟨_, ix_str, by
  intro δ L σ H d e P x y Q rel ra rb ⟨z, i, c, h1, h2, h3, h4, q⟩ k
  subst h1 h2
  exact ⟨z, i, c, ra.strE, rb.intE, h3, h4, k _ L _ H q Rp.strI rel (.refl H)⟩⟩
def rDIx : R2 := fun x y H Q => ∃ a v, x = .ref a ∧ DGet H a y (some v) ∧ Q v H ∧ ((∃ kvs, H a = some (.dK kvs)) ∨ ∃ kvs, H a = some (.dT kvs))
theorem ix_dict (hu : X.A.units + 1 < cLine) : IxR X rDIx := by
  intro value slice pins s σ H x y v u Q I rx ry ⟨a, w, e, g, q, hk⟩ hs
  subst e
  obtain rfl : v = Value.ref a := rx
  have z : ∃ o, s.heap.get? a = some o ∧ o.ExactDict := by
    rcases hk with ⟨kvs, hk⟩ | ⟨kvs, hk⟩
    · obtain ⟨_, _, _, _, o, _, _, e, ex, _⟩ := I.hok a _ hk
      exact ⟨o, e, ex⟩
    · obtain ⟨_, _, _, _, o, _, _, e, ex, _⟩ := I.hok a _ hk
      exact ⟨o, e, ex⟩
  obtain ⟨o, e, ex⟩ := z
  exact PyProof.Rows.tail_any ⟨o, e, ex.1⟩ PySem.F.slot_dict_getitem.lookup (d_getItem hu I g ry fun w' s' I' r' => ⟨w, H, I', r', q⟩) hs
/-- the item of a key: by the look-up, or by its place -/
class inductive KAt {κ : Type} : List (κ × D) → κ → outParam D → Prop
  | here {k : κ} {d : D} {r : List (κ × D)} : KAt ((k, d) :: r) k d
  | there {p : κ × D} {k : κ} {d : D} {r : List (κ × D)} : KAt r k d → KAt (p :: r) k d
theorem KAt.mem {κ : Type} {r : List (κ × D)} {k : κ} {d : D} (h : KAt r k d) : (k, d) ∈ r := by
  induction h with
  | here => exact List.mem_cons_self
  | there _ ih => exact List.mem_cons_of_mem _ ih
theorem KAt.val {κ : Type} [DecidableEq κ] {r : List (κ × D)} {k : κ} {d : D} (h : KAt r k d) (n : (r.map (·.1)).Nodup) : valD r k = some d := by
  induction h with
  | here => simp [valD, List.find?_cons]
  | @there p k d r h ih =>
    have n2 := List.nodup_cons.mp n
    have e : ¬ p.1 = k := fun z => n2.1 (show p.1 ∈ _ from z ▸ List.mem_map.mpr ⟨(k, d), h.mem, rfl⟩)
    have e1 : valD (p :: r) k = valD r k := by simp [valD, List.find?_cons, e]
    rw [e1]; exact ih n2.2
inductive KGet (kvs : List (Key × D)) (k : Key) (d : D) : Prop
  | val : valD kvs k = some d → KGet kvs k d
  | at_ : KAt kvs k d → KGet kvs k d
def dIxK : DR2 := fun x y L Q => ∃ a k kvs d, x = .ref a ∧ y = kD k ∧ At L a (.dct kvs) ∧ KGet kvs k d ∧ Q d L
theorem gi_dict (hu : X.A.units + 1 < cLine) : GIx X dIxK := ⟨_, ix_dict hu, by
  intro δ L σ H d e P x y Q rel ra rb ⟨a, key, kvs, z, h1, h2, h3, h4, q⟩ k
  subst h1 h2
  obtain ⟨o, g, _, e2⟩ := dget_of (k := key) rel.ce h3
  obtain ⟨ws, h5, _, nd⟩ := rel.ce.dct h3
  have h4 : valD kvs key = some z := by
    cases h4 with
    | val h => exact h
    | at_ h => exact h.val nd
  obtain ⟨v, rfl, rv⟩ := e2 z h4
  exact ⟨a, v, ra.refE, by rw [rb.key]; exact g, k _ L _ H q rv rel (.refl H), .inl ⟨ws, h5⟩⟩⟩
abbrev dIx (K : PySem.W.Frag) : DR2 := dOr (dIxQ K) (dOr dIxS dIxK)
theorem gi_any (hu : X.A.units + 1 < cLine) : GIx X (dIx X.K) := gi_seq.or (gi_str.or (gi_dict hu))
end
end DL
set_option Elab.async false
set_option linter.all false
set_option maxRecDepth 100000
set_option maxHeartbeats 2000000
/-! Statements, targets, fields, calls of defs. -/
namespace DL
open PySem L2
abbrev DG := DX → D → DS → Cl → (DS → Cl → Prop) → Prop
abbrev DGs := DX → List D → DS → Cl → (DS → Cl → Prop) → Prop
section
variable (K : PySem.W.Frag) (W : WX) (ws : List Nat)
def SlotsBut (σ σ' : L2.St) : Prop := (∀ j, j ∉ ws → σ'[j]? = σ[j]?) ∧ σ'.length = σ.length
def liftG (g : DG) : TG := fun v σ H Q => ∃ d δ L P xc, Rp K H d v ∧ Rel K δ L σ H ∧ g xc d δ L P ∧ (∀ δ' L' σ' H', P δ' L' → Rel K δ' L' σ' H' → TupExt H H' → SlotsBut ws σ σ' → Q σ' H') ∧ XOk K W xc σ H δ
def liftGs (g : DGs) : TGs := fun vs σ H Q => ∃ ds δ L P xc, Rps K H ds vs ∧ Rel K δ L σ H ∧ g xc ds δ L P ∧ (∀ δ' L' σ' H', P δ' L' → Rel K δ' L' σ' H' → TupExt H H' → SlotsBut ws σ σ' → Q σ' H') ∧ (∀ σ' H' δ', TupExt H H' → SlotsBut ws σ σ' → XOk K W xc σ' H' δ')
end
theorem SlotsBut.refl {ws : List Nat} {σ : L2.St} : SlotsBut ws σ σ := ⟨fun _ _ => rfl, rfl⟩
theorem SlotsBut.trans {ws : List Nat} {a b c : L2.St} (h : SlotsBut ws a b) (g : SlotsBut ws b c) : SlotsBut ws a c := ⟨fun j hj => (g.1 j hj).trans (h.1 j hj), g.2.trans h.2⟩
theorem SlotsBut.mono {ws vs : List Nat} {a b : L2.St} (h : SlotsBut ws a b) (s : ∀ j ∈ ws, j ∈ vs) : SlotsBut vs a b := ⟨fun j hj => h.1 j fun z => hj (s j z), h.2⟩
/-- targets: ws the slots that they store -/
structure GG (X : Cx) (W : WX) (tg : Expr) (ws : List Nat) (g : DG) : Prop where run : PG X tg (liftG X.K W ws g)
/-- targets in a row: names alone (nothing is evaluated there) -/
structure GGs (X : Cx) (tgs : List Expr) (ws : List Nat) (g : DGs) : Prop where run : PGs X tgs (liftGs X.K (fun _ _ _ _ => False) ws g)
theorem PG.imp {X : Cx} {e : Expr} {t t' : TG} (h : PG X e t) (i : ∀ v σ H Q, t' v σ H Q → t v σ H Q) : PG X e t' := ⟨fun pins s σ H v u Q I r q => h.run pins s σ H v u Q I r (i v σ H Q q)⟩
theorem PGs.imp {X : Cx} {e : List Expr} {t t' : TGs} (h : PGs X e t) (i : ∀ v σ H Q, t' v σ H Q → t v σ H Q) : PGs X e t' := ⟨fun pins s σ H v u Q I r q => h.run pins s σ H v u Q I r (i v σ H Q q)⟩
class inductive SetAt : DS → Nat → D → outParam DS → Prop
  | z {o : Option D} {r : DS} {d : D} : SetAt (o :: r) 0 d (some d :: r)
  | s {o : Option D} {r r' : DS} {i : Nat} {d : D} : SetAt r i d r' → SetAt (o :: r) (i + 1) d (o :: r')
theorem SetAt.eq {δ δ' : DS} {i : Nat} {d : D} (h : SetAt δ i d δ') : δ' = δ.set i (some d) := by
  induction h with
  | z => rfl
  | s _ ih => rw [ih]; rfl
theorem SetAt.of : ∀ {δ : DS} {i : Nat} (d : D), i < δ.length → SetAt δ i d (δ.set i (some d))
  | [], i, d, h => absurd h (Nat.not_lt_zero _)
  | o :: r, 0, d, _ => .z
  | o :: r, i + 1, d, h => .s (SetAt.of d (Nat.lt_of_succ_lt_succ h))
def dgName (i : Nat) : DG := fun _ d δ L Q => ∃ δ', SetAt δ i d δ' ∧ Q δ' L
section
variable {X : Cx} {W : WX} {pos : Pos}
theorem gg_name {i : Nat} {x : Str} (hN : X.N.Nodup) (hi : X.N[i]? = some x) (hx : Loc X.env.scope x) (hf : X.fn x = true ∨ X.env.scope.names.lookup x = some .local := by first | exact .inl rfl | exact .inr rfl | assumption) : GG X W (.Name x pos) [i] (dgName i) := by
  refine ⟨PG.imp (pg_name hN hi hx hf) fun v σ H Q ⟨d, δ, L, P, xc, r, rel, ⟨δ', sa, q⟩, k, x⟩ => ?_⟩
  refine k δ' L (σ.set i (some v)) H q (by rw [sa.eq]; exact rel.set r i) (.refl H) ⟨fun j hj => ?_, List.length_set⟩
  rw [List.getElem?_set_ne]
  intro e
  exact hj (List.mem_singleton.mpr e.symm)
def dgNil : DGs := fun _ ds δ L Q => ds = [] ∧ Q δ L
def dgCons (t : DG) (u : DGs) : DGs := fun xc ds δ L Q => ∃ d r, ds = d :: r ∧ t xc d δ L fun δ' L' => u xc r δ' L' Q
theorem ggs_nil : GGs X [] [] dgNil := ⟨PGs.imp pgs_nil fun vs σ H Q ⟨ds, δ, L, P, xc, r, rel, ⟨e, q⟩, k, x⟩ => by
  subst e
  exact ⟨r.nilE, k δ L σ H q rel (.refl H) .refl⟩⟩
theorem ggs_cons {e : Expr} {es : List Expr} {t : DG} {u : DGs} {ws vs : List Nat} (h1 : GG X (fun _ _ _ _ => False) e ws t) (h2 : GGs X es vs u)
    (hs : (assignEach (e :: es) X.env).map (·.2) = assign e X.env :: (assignEach es X.env).map (·.2) := by rfl) : GGs X (e :: es) (ws ++ vs) (dgCons t u) := by
  refine ⟨PGs.imp (pgs_cons h1.run h2.run hs) fun vl σ H Q ⟨ds, δ, L, P, xc, r, rel, ⟨d, rest, e, q⟩, k, x⟩ => ?_⟩
  subst e
  obtain ⟨v, vr, rfl, r1, r2⟩ := r.consE
  refine ⟨v, vr, rfl, d, δ, L, _, xc, r1, rel, q, fun δ1 L1 σ1 H1 q1 rel1 e1 b1 => ?_, x σ H δ (.refl H) .refl⟩
  refine ⟨rest, δ1, L1, P, xc, r2.mono e1, rel1, q1, fun δ2 L2 σ2 H2 q2 rel2 e2 b2 => ?_, fun σ' H' δ' e' b' => ?_⟩
  · exact k δ2 L2 σ2 H2 q2 rel2 (e1.trans e2) ((b1.mono fun j hj => List.mem_append_left _ hj).trans (b2.mono fun j hj => List.mem_append_right _ hj))
  · exact x σ' H' δ' (e1.trans e') ((b1.mono fun j hj => List.mem_append_left _ hj).trans (b'.mono fun j hj => List.mem_append_right _ hj))
def dgTup (K : PySem.W.Frag) (n : Nat) (t : DGs) : DG := fun _ d δ L Q => ∃ ds, SAt K L d ds ∧ ds.length = n ∧ t (fun _ _ _ => False) ds δ L Q
theorem PG.or {e : Expr} {t u : TG} (h1 : PG X e t) (h2 : PG X e u) : PG X e (fun v σ H Q => t v σ H Q ∨ u v σ H Q) := ⟨fun pins s σ H v u Q I r q => by
  rcases q with q | q
  · exact h1.run pins s σ H v u Q I r q
  · exact h2.run pins s σ H v u Q I r q⟩
theorem gg_tup {es : List Expr} {n m : Nat} {ws : List Nat} {t : DGs} (hc : X.calm = true) (h : GGs X es ws t) (hn : (assignEach es X.env).length = n := by rfl) (hst : (assignEach es X.env).findIdx? (·.1) = none := by rfl) :
    GG X W (.Tuple es m pos) ws (dgTup X.K n t) := by
  refine ⟨PG.imp (PG.or (pg_lst hc h.run hn hst) (pg_tup hc h.run hn hst)) fun v σ H Q ⟨d, δ, L, P, xc, r, rel, ⟨ds, sa, hl, q⟩, k, x⟩ => ?_⟩
  have core : ∀ vs, Rps X.K H ds vs → liftGs X.K (fun _ _ _ _ => False) ws t vs σ H Q := fun vs rs =>
    ⟨ds, δ, L, P, fun _ _ _ => False, rs, rel, q, k, fun σ' H' δ' _ _ c L' H2 z => z.elim⟩
  cases sa with
  | lst la =>
    obtain ⟨vs, sq, rs⟩ := la.sq rel.ce
    exact .inl ⟨_, vs, r.refE, sq, by rw [rs.length]; exact hl, core vs rs⟩
  | tup =>
    obtain ⟨p, vs, e, tt, rs⟩ := r.tupE
    exact .inr ⟨p, vs, e, tt.sq, by rw [rs.length]; exact hl, core vs rs⟩
end

/-! ### item stores -/
abbrev DSet := D → D → D → Cl → (Cl → Prop) → Prop
def GSt (X : Cx) (r' : DSet) : Prop := ∃ r, PSet X r ∧ ∀ δ L σ H o i v O I V' P Q, Rel X.K δ L σ H → Rp X.K H o O → Rp X.K H i I → Rp X.K H v V' → r' o i v L P → (∀ L' H', P L' → Rel X.K δ L' σ H' → TupExt H H' → Q H') → r O I V' H Q
section
variable {X : Cx} {W : WX} {pos : Pos}
def dSetL : DSet := fun o i v L Q => ∃ p xs k j L', o = .ref p ∧ i = .int k ∧ ixN xs.length k = some j ∧ Up L p (.lst xs) (.lst (xs.set j v)) L' ∧ Q L'
theorem st_lst : GSt X dSetL := ⟨_, set_list, by
  intro δ L σ H o i v O I V' P Q rel ro ri rv ⟨p, xs, k, j, L', h1, h2, h3, u, q⟩ kk
  subst h1 h2
  obtain ⟨vs, hv, rs⟩ := rel.ce.lst u.at
  obtain ⟨rel', e'⟩ := lputX rel u (rs.set rv j)
  exact ⟨p, vs, k, j, ro.refE, ri.intE, hv, by rw [rs.length]; exact h3, kk L' _ q rel' e'⟩⟩
/-- in its place, or at the end -/
def putD {κ : Type} [DecidableEq κ] (kvs : List (κ × D)) (k : κ) (d : D) : List (κ × D) :=
  if (kvs.any fun kv => decide (kv.1 = k)) = true then kvs.map (fun kv => if kv.1 = k then (kv.1, d) else kv) else kvs ++ [(k, d)]
theorem KRel.any {K : PySem.W.Frag} {H : Hp} {k : Key} : ∀ {a : List (Key × D)} {b : List (Key × V)}, KRel K H a b → (b.any fun kv => decide (kv.1 = k)) = a.any fun kv => decide (kv.1 = k)
  | [], _, h => by rw [show _ = [] from h]; rfl
  | (k', d) :: r, _, ⟨v, s, h1, h2, h3⟩ => by subst h1; simp [List.any_cons, KRel.any h3]
theorem KRel.repl {K : PySem.W.Frag} {H : Hp} {k : Key} {d : D} {v : V} (rv : Rp K H d v) : ∀ {a : List (Key × D)} {b : List (Key × V)}, KRel K H a b →
    KRel K H (a.map fun kv => if kv.1 = k then (kv.1, d) else kv) (b.map fun kv => if kv.1 = k then (kv.1, v) else kv)
  | [], _, h => by rw [show _ = [] from h]; exact rfl
  | (k', d') :: r, _, ⟨v', s, h1, h2, h3⟩ => by
    subst h1
    rw [List.map_cons, List.map_cons]
    by_cases e : k' = k
    · simp only [e, if_true]
      exact ⟨v, _, rfl, rv, KRel.repl rv h3⟩
    · simp only [e, if_false]
      exact ⟨v', _, rfl, h2, KRel.repl rv h3⟩
theorem KRel.snoc {K : PySem.W.Frag} {H : Hp} {k : Key} {d : D} {v : V} (rv : Rp K H d v) : ∀ {a : List (Key × D)} {b : List (Key × V)}, KRel K H a b → KRel K H (a ++ [(k, d)]) (b ++ [(k, v)])
  | [], _, h => by rw [show _ = [] from h]; exact ⟨v, [], rfl, rv, rfl⟩
  | (k', d') :: r, _, ⟨v', s, h1, h2, h3⟩ => by subst h1; exact ⟨v', _, rfl, h2, KRel.snoc rv h3⟩
theorem KRel.put {K : PySem.W.Frag} {H : Hp} {k : Key} {d : D} {v : V} {a : List (Key × D)} {b : List (Key × V)} (h : KRel K H a b) (rv : Rp K H d v) : KRel K H (putD a k d) (putK b k v) := by
  unfold putD putK
  rw [h.any]
  split
  · exact h.repl rv
  · exact h.snoc rv
theorem keys_put {κ : Type} [DecidableEq κ] {kvs : List (κ × D)} {k : κ} {d : D} (n : (kvs.map (·.1)).Nodup) : ((putD kvs k d).map (·.1)).Nodup := by
  unfold putD
  split
  · have e : (kvs.map fun kv => if kv.1 = k then (kv.1, d) else kv).map (·.1) = kvs.map (·.1) := by
      rw [List.map_map]
      apply List.map_congr_left
      intro p _
      show (if p.1 = k then (p.1, d) else p).1 = p.1
      split <;> rfl
    rw [e]; exact n
  · rename_i h
    rw [List.map_append, List.nodup_append]
    refine ⟨n, by simp, fun x hx y hy z => h ?_⟩
    have hy' : y = k := by simpa using hy
    obtain ⟨p, hp, e⟩ := List.mem_map.mp hx
    exact List.any_eq_true.mpr ⟨p, hp, decide_eq_true (by rw [e, z, hy'])⟩
def rSetD : TSet := fun o i v H Q => ∃ a H', o = .ref a ∧ DPut H a i v H' ∧ Q H'
theorem set_dict (hu : X.A.units + 1 < cLine) : PSet X rSetD := by
  intro pins s σ H o i v ov iv u Q I ro ri rv ⟨a, H', e, g, q⟩
  subst e
  obtain rfl : ov = Value.ref a := ro
  exact d_setItem hu I g ri rv fun s' I' => ⟨H', I', q⟩
def dSetK : DSet := fun o i v L Q => ∃ a k kvs L', o = .ref a ∧ i = kD k ∧ kvs.length < sizeLine ∧ Up L a (.dct kvs) (.dct (putD kvs k v)) L' ∧ Q L'
theorem st_dct (hu : X.A.units + 1 < cLine) : GSt X dSetK := ⟨_, set_dict hu, by
  intro δ L σ H o i v O I V' P Q rel ro ri rv ⟨a, k, kvs, L', h1, h2, h3, u, q⟩ kk
  subst h1 h2
  obtain ⟨ws, hv, rs, nd⟩ := rel.ce.dct u.at
  obtain ⟨c, e⟩ := rel.ce.put u (o' := .dK (putK ws k V')) ⟨_, rfl, rs.put rv, keys_put nd⟩
  refine ⟨a, upd H a (.dK (putK ws k V')), ro.refE, ?_, kk L' _ q (rel.to e c) e⟩
  rw [ri.key]
  exact DPut.k hv (by rw [rs.length]; exact h3)⟩
def dSetOr (r r' : DSet) : DSet := fun o i v L Q => r o i v L Q ∨ r' o i v L Q
theorem GSt.or {r r' : DSet} (h : GSt X r) (h' : GSt X r') : GSt X (dSetOr r r') := by
  obtain ⟨a, p1, l1⟩ := h
  obtain ⟨b, p2, l2⟩ := h'
  refine ⟨fun o i v H Q => a o i v H Q ∨ b o i v H Q, ?_, ?_⟩
  · intro pins s σ H o i v ov iv u Q I ro ri rv q
    rcases q with q | q
    · exact p1 pins s σ H o i v ov iv u Q I ro ri rv q
    · exact p2 pins s σ H o i v ov iv u Q I ro ri rv q
  · intro δ L σ H o i v O I V' P Q rel ro ri rv q k
    rcases q with q | q
    · exact .inl (l1 δ L σ H o i v O I V' P Q rel ro ri rv q k)
    · exact .inr (l2 δ L σ H o i v O I V' P Q rel ro ri rv q k)
abbrev dSet : DSet := dSetOr dSetL dSetK
theorem st_any (hu : X.A.units + 1 < cLine) : GSt X dSet := st_lst.or (st_dct hu)
def dgSub (to ti : DE) (t : DSet) : DG := fun xc v δ L Q => to xc δ L fun o L1 => ti xc δ L1 fun i L2 => t o i v L2 fun L3 => Q δ L3
end

section
variable {X : Cx} {W : WX} {pos : Pos} {e o i c : Expr} {te to ti : DE} {t u : DTS} {st : Stmt} {rest : List Stmt}
/-! ### statements -/
def dNext : DTS := fun D δ L => D.nx δ L
def dSeq (t u : DTS) : DTS := fun D δ L => t { D with nx := u D } δ L
theorem gb_nil : GB X W [] dNext := ⟨PSs.imp pss_nil fun D σ H ⟨δ, L, D', rel, h, nx, _⟩ => nx δ L σ H h rel (.refl H)⟩
theorem gb_cons (h1 : GS X W st t) (h2 : GB X W rest u) : GB X W (st :: rest) (dSeq t u) := by
  refine ⟨PSs.imp (pss_cons h1.run h2.run) fun D σ H ⟨δ, L, D', rel, h, nx, rt, bk, ct, xc⟩ => ?_⟩
  refine ⟨δ, L, _, rel, h, fun δ1 L1 σ1 H1 q1 rel1 e1 => ?_, rt, bk, ct, xc⟩
  exact ⟨δ1, L1, D', rel1, q1, fun δ2 L2 σ2 H2 q2 rel2 e2 => nx δ2 L2 σ2 H2 q2 rel2 (e1.trans e2), fun d L2 v H2 q2 r2 c2 e2 => rt d L2 v H2 q2 r2 c2 (e1.trans e2),
    fun δ2 L2 σ2 H2 q2 rel2 e2 => bk δ2 L2 σ2 H2 q2 rel2 (e1.trans e2), fun δ2 L2 σ2 H2 q2 rel2 e2 => ct δ2 L2 σ2 H2 q2 rel2 (e1.trans e2), fun cl δ2 L2 σ2 H2 q2 rel2 e2 => xc cl δ2 L2 σ2 H2 q2 rel2 (e1.trans e2)⟩
/-- a state weakened -/
def Wk (Pv : DS → Cl → Prop) : DS → Cl → Prop := fun δ L => ∃ δ2 L2, Fg δ δ2 ∧ Sub L L2 ∧ Pv δ2 L2
/-- a statement, then the rest; a word between them may be said -/
def dCut (t u : DTS) : DTS := fun D δ L => t { D with nx := u D } δ L ∨ ∃ Mid : DS → Cl → Prop, t { D with nx := Wk Mid } δ L ∧ ∀ δ' L', Mid δ' L' → u D δ' L'
theorem gb_cut (h1 : GS X W st t) (h2 : GB X W rest u) : GB X W (st :: rest) (dCut t u) := by
  refine ⟨PSs.imp (pss_cons h1.run h2.run) fun D σ H ⟨δ, L, D', rel, h, nx, rt, bk, ct, xc⟩ => ?_⟩
  have fin : ∀ δ1 L1 σ1 H1, u D' δ1 L1 → Rel X.K δ1 L1 σ1 H1 → TupExt H H1 → liftS X.K W u D σ1 H1 := fun δ1 L1 σ1 H1 q1 rel1 e1 =>
    ⟨δ1, L1, D', rel1, q1, fun δ2 L2 σ2 H2 q2 rel2 e2 => nx δ2 L2 σ2 H2 q2 rel2 (e1.trans e2), fun d L2 v H2 q2 r2 c2 e2 => rt d L2 v H2 q2 r2 c2 (e1.trans e2),
      fun δ2 L2 σ2 H2 q2 rel2 e2 => bk δ2 L2 σ2 H2 q2 rel2 (e1.trans e2), fun δ2 L2 σ2 H2 q2 rel2 e2 => ct δ2 L2 σ2 H2 q2 rel2 (e1.trans e2), fun cl δ2 L2 σ2 H2 q2 rel2 e2 => xc cl δ2 L2 σ2 H2 q2 rel2 (e1.trans e2)⟩
  rcases h with h | ⟨Mid, h, hm⟩
  · exact ⟨δ, L, _, rel, h, fin, rt, bk, ct, xc⟩
  · exact ⟨δ, L, _, rel, h, fun δ1 L1 σ1 H1 ⟨δ2, L2, f, s, q⟩ rel1 e1 => fin δ2 L2 σ1 H1 (hm δ2 L2 q) (rel1.wk f s) e1, rt, bk, ct, xc⟩
theorem gb_one (h1 : GS X W st t) : GB X W [st] t := ⟨pss_one h1.run⟩
def dBreak : DTS := fun D δ L => D.bk δ L
def dCont : DTS := fun D δ L => D.ct δ L
theorem gs_pass : GS X W (.Pass pos) dNext := ⟨PS.imp ps_pass fun D σ H ⟨δ, L, D', rel, h, nx, _⟩ => nx δ L σ H h rel (.refl H)⟩
theorem gs_break : GS X W (.Break pos) dBreak := ⟨PS.imp ps_break fun D σ H ⟨δ, L, D', rel, h, _, _, bk, _⟩ => bk δ L σ H h rel (.refl H)⟩
theorem gs_continue : GS X W (.Continue pos) dCont := ⟨PS.imp ps_continue fun D σ H ⟨δ, L, D', rel, h, _, _, _, ct, _⟩ => ct δ L σ H h rel (.refl H)⟩
theorem gs_doc {x j pos pos'} : GS X W (.Expr (.Constant (.str x) j pos) pos') dNext := ⟨PS.imp ps_doc fun D σ H ⟨δ, L, D', rel, h, nx, _⟩ => nx δ L σ H h rel (.refl H)⟩
def dDrop (te : DE) : DTS := fun D δ L => te D.xc δ L fun _ L1 => D.nx δ L1
theorem xok_of {K : PySem.W.Frag} {W : WX} {xc : DX} {σ : L2.St} {H : Hp} {δ : DS} (h : ∀ c δ' L' σ' H', xc c δ' L' → Rel K δ' L' σ' H' → TupExt H H' → W c none σ' H') : XOk K W xc σ H δ := fun c L' H' z r e => h c δ L' σ H' z r e
theorem gs_expr (he : GE X W e te) (hs : swapsWith e none pos.line X.env = pure false := by rfl) : GS X W (.Expr e pos) (dDrop te) := by
  refine ⟨PS.imp (ps_expr he.run hs) fun D σ H ⟨δ, L, D', rel, h, nx, rt, bk, ct, xc⟩ => ?_⟩
  exact ⟨δ, L, _, _, rel, h, fun d L1 v H1 q1 r1 rel1 e1 => nx δ L1 σ H1 q1 rel1 e1, xok_of xc⟩
def dRet (te : DE) : DTS := fun D δ L => te D.xc δ L fun d L1 => ∃ L2, Sub L1 L2 ∧ D.rt d L2
theorem gs_ret (he : GE X W e te) : GS X W (.Return (some e) pos) (dRet te) := by
  refine ⟨PS.imp (ps_ret he.run) fun D σ H ⟨δ, L, D', rel, h, nx, rt, bk, ct, xc⟩ => ?_⟩
  refine ⟨δ, L, _, _, rel, h, fun d L1 v H1 q1 r1 rel1 e1 => ?_, xok_of xc⟩
  obtain ⟨L2, s2, q2⟩ := q1
  exact rt d L2 v H1 q2 r1 (rel1.ce.sub s2) e1
def dRetN : DTS := fun D δ L => ∃ L2, Sub L L2 ∧ D.rt .non L2
theorem gs_retN : GS X W (.Return none pos) dRetN := by
  refine ⟨PS.imp ps_retN fun D σ H ⟨δ, L, D', rel, ⟨L2, s2, q2⟩, nx, rt, bk, ct, xc⟩ => ?_⟩
  exact rt .non L2 _ H q2 Rp.nonI (rel.ce.sub s2) (.refl H)
def dIfS (c : DT) (t u : DTS) : DTS := fun D δ L => c D.xc δ L fun b L1 => if b = true then t D δ L1 else u D δ L1
theorem liftS_go {K : PySem.W.Frag} {t : DTS} {D : Ends} {D' : DEnds} {σ : L2.St} {H H1 : Hp} {δ : DS} {L : Cl} (rel : Rel K δ L σ H1) (h : t D' δ L) (e1 : TupExt H H1)
    (nx : ∀ δ' L' σ' H', D'.nx δ' L' → Rel K δ' L' σ' H' → TupExt H H' → D.nx σ' H')
    (rt : ∀ d L' v H', D'.rt d L' → Rp K H' d v → Cells K H' L' → TupExt H H' → D.rt v H') (bk : ∀ δ' L' σ' H', D'.bk δ' L' → Rel K δ' L' σ' H' → TupExt H H' → D.bk σ' H')
    (ct : ∀ δ' L' σ' H', D'.ct δ' L' → Rel K δ' L' σ' H' → TupExt H H' → D.ct σ' H') (xc : ∀ c δ' L' σ' H', D'.xc c δ' L' → Rel K δ' L' σ' H' → TupExt H H' → W c none σ' H') : liftS K W t D σ H1 :=
  ⟨δ, L, D', rel, h, fun δ2 L2 σ2 H2 q2 rel2 e2 => nx δ2 L2 σ2 H2 q2 rel2 (e1.trans e2), fun d L2 v H2 q2 r2 c2 e2 => rt d L2 v H2 q2 r2 c2 (e1.trans e2),
    fun δ2 L2 σ2 H2 q2 rel2 e2 => bk δ2 L2 σ2 H2 q2 rel2 (e1.trans e2), fun δ2 L2 σ2 H2 q2 rel2 e2 => ct δ2 L2 σ2 H2 q2 rel2 (e1.trans e2), fun cl δ2 L2 σ2 H2 q2 rel2 e2 => xc cl δ2 L2 σ2 H2 q2 rel2 (e1.trans e2)⟩
theorem gs_if {a b : List Stmt} {tc : DT} (hc : GT X W c tc) (ha : GB X W a t) (hb : GB X W b u) : GS X W (.If c a b pos) (dIfS tc t u) := by
  refine ⟨PS.imp (ps_if hc.run ha.run hb.run) fun D σ H ⟨δ, L, D', rel, h, nx, rt, bk, ct, xc⟩ => ?_⟩
  refine ⟨δ, L, _, _, rel, h, fun c L1 H1 q1 rel1 e1 => ?_, xok_of xc⟩
  cases c with
  | true => exact liftS_go rel1 q1 e1 nx rt bk ct xc
  | false => exact liftS_go rel1 q1 e1 nx rt bk ct xc
def dAsg (te : DE) (g : DG) : DTS := fun D δ L => te D.xc δ L fun x L1 => g D.xc x δ L1 D.nx
theorem lift_asg {K : PySem.W.Frag} {g : DG} {ws : List Nat} {D : Ends} {σ : L2.St} {H : Hp} (h : liftS K W (dAsg te g) D σ H) : tAsg (liftE K W te) (liftG K W ws g) D σ H := by
  obtain ⟨δ, L, D', rel, h, nx, rt, bk, ct, xc⟩ := h
  refine ⟨δ, L, _, _, rel, h, fun d L1 v H1 q1 r1 rel1 e1 => ?_, xok_of xc⟩
  exact ⟨d, δ, L1, _, _, r1, rel1, q1, fun δ2 L2 σ2 H2 q2 rel2 e2 _ => nx δ2 L2 σ2 H2 q2 rel2 (e1.trans e2), (xok_of xc).mono e1⟩
theorem gs_asg {tg : Expr} {g : DG} {ws : List Nat} (he : GE X W e te) (hg : GG X W tg ws g) (hs : swapsWithSole [tg] e pos.line X.env = pure false := by rfl) (hw : swappedStores [tg] e X.env = pure none := by rfl) (h1 : (assignEach [tg] X.env).map (·.2) = [assign tg X.env] := by rfl) : GS X W (.Assign [tg] e pos) (dAsg te g) :=
  ⟨PS.imp (ps_asg he.run hg.run hs hw h1) fun D σ H h => lift_asg h⟩
theorem gs_set {i : Nat} {x : Str} {pos' : Pos} (hN : X.N.Nodup) (hi : X.N[i]? = some x) (hx : Loc X.env.scope x) (he : GE X W e te) (hs : swapsWith e (some (.Name x pos')) pos.line X.env = pure false := by rfl)
    (hf : X.fn x = true ∨ X.env.scope.names.lookup x = some .local := by first | exact .inl rfl | exact .inr rfl | assumption) : GS X W (.Assign [.Name x pos'] e pos) (dAsg te (dgName i)) := by
  refine ⟨PS.imp (ps_set hN hi hx he.run hs hf) fun D σ H ⟨δ, L, D', rel, h, nx, rt, bk, ct, xc⟩ => ?_⟩
  refine ⟨δ, L, _, _, rel, h, fun d L1 v H1 q1 r1 rel1 e1 => ?_, xok_of xc⟩
  obtain ⟨δ', sa, q⟩ := q1
  exact nx δ' L1 _ H1 q (by rw [sa.eq]; exact rel1.set r1 i) e1
abbrev SubA (X : Cx) (o i : Expr) (pos : Pos) : Prop := ∀ v, assign (.Subscript o i pos) X.env v = (holding [v] (eval o X.env) >>= fun ov => holding [v, ov] (eval i X.env) >>= fun iv => standAt pos >>= fun _ => holding [v, ov, iv] (setItem ov iv v) >>= fun _ => release [v, ov, iv] [])
theorem gg_sub {r' : DSet} (ho : GE X W o to) (hi : GE X W i ti) (hs : GSt X r')
    (ha : SubA X o i pos := by intros; rfl) : GG X W (.Subscript o i pos) [] (dgSub to ti r') := by
  obtain ⟨r, p, l⟩ := hs
  refine ⟨PG.imp (pg_sub ho.run hi.run p ha) fun v σ H Q ⟨d, δ, L, P, xc, r, rel, q, k, x⟩ => ?_⟩
  refine ⟨δ, L, _, xc, rel, q, fun d1 L1 v1 H1 q1 r1 rel1 e1 => ?_, x⟩
  refine ⟨δ, L1, _, xc, rel1, q1, fun d2 L2 v2 H2 q2 r2 rel2 e2 => ?_, x.mono e1⟩
  exact l δ L2 σ H2 d1 d2 d v1 v2 v _ _ rel2 (r1.mono e2) r2 (r.mono (e1.trans e2)) q2 fun L3 H3 q3 rel3 e3 => k δ L3 σ H3 q3 rel3 ((e1.trans e2).trans e3) .refl
/-! ### fields -/
class inductive NAt : List Str → List D → Str → outParam D → Prop
  | here {f : Str} {ns : List Str} {d : D} {ds : List D} : NAt (f :: ns) (d :: ds) f d
  | there {n f : Str} {ns : List Str} {e d : D} {ds : List D} : NAt ns ds f d → NAt (n :: ns) (e :: ds) f d
class inductive NUp : List Str → List D → Str → D → outParam (List D) → Prop
  | here {f : Str} {ns : List Str} {e d : D} {ds : List D} : NUp (f :: ns) (e :: ds) f d (d :: ds)
  | there {n f : Str} {ns : List Str} {e d : D} {ds ds' : List D} : NUp ns ds f d ds' → NUp (n :: ns) (e :: ds) f d (e :: ds')
theorem NAt.look {K : PySem.W.Frag} {H : Hp} {ns : List Str} {ds : List D} {f : Str} {d : D} (h : NAt ns ds f d) : ∀ {gs : List (Str × V)}, gs.map (·.1) = ns → Rps K H ds (gs.map (·.2)) → ns.Nodup → ∃ v, gs.lookup f = some v ∧ Rp K H d v := by
  induction h with
  | @here f ns d ds =>
    intro gs e r nd
    cases gs with
    | nil => cases e
    | cons p gs =>
      obtain ⟨v, r', e2, h2, _⟩ := r.consE
      have e1 : p.1 = f := (List.cons.inj e).1
      refine ⟨p.2, ?_, ?_⟩
      · obtain ⟨a, b⟩ := p
        have e1 : a = f := e1
        subst e1
        simp [List.lookup]
      · rw [show p.2 = v from (List.cons.inj e2).1]; exact h2
  | @there n f ns e0 d ds h ih =>
    intro gs e r nd
    cases gs with
    | nil => cases e
    | cons p gs =>
      obtain ⟨v, r', e2, h2, h3⟩ := r.consE
      have e1 : p.1 = n := (List.cons.inj e).1
      have nd2 := List.nodup_cons.mp nd
      obtain ⟨v2, g1, g2⟩ := ih (gs := gs) (List.cons.inj e).2 (by rw [(List.cons.inj e2).2]; exact h3) nd2.2
      refine ⟨v2, ?_, g2⟩
      have ne : f ≠ n := by
        intro z
        subst z
        apply nd2.1
        have : ∀ {ns ds f d}, NAt ns ds f d → f ∈ ns := by
          intro ns ds f d h
          induction h with
          | here => exact List.mem_cons_self
          | there _ ih => exact List.mem_cons_of_mem _ ih
        exact this h
      obtain ⟨a, b⟩ := p
      have e1 : a = n := e1
      subst e1
      have : (f == a) = false := by simpa using ne
      simp [List.lookup, this, g1]
theorem NAt.mem {ns : List Str} {ds : List D} {f : Str} {d : D} (h : NAt ns ds f d) : f ∈ ns := by
  induction h with
  | here => exact List.mem_cons_self
  | there _ ih => exact List.mem_cons_of_mem _ ih
theorem NUp.mem {ns : List Str} {ds ds' : List D} {f : Str} {d : D} (h : NUp ns ds f d ds') : f ∈ ns := by
  induction h with
  | here => exact List.mem_cons_self
  | there _ ih => exact List.mem_cons_of_mem _ ih
theorem NUp.put {K : PySem.W.Frag} {H : Hp} {ns : List Str} {ds ds' : List D} {f : Str} {d : D} {v : V} (h : NUp ns ds f d ds') (rv : Rp K H d v) : ∀ {gs : List (Str × V)}, gs.map (·.1) = ns → Rps K H ds (gs.map (·.2)) → ns.Nodup →
    (putF f v gs).map (·.1) = ns ∧ Rps K H ds' ((putF f v gs).map (·.2)) ∧ (putF f v gs).length = gs.length := by
  induction h with
  | @here f ns e0 d ds =>
    intro gs e r nd
    cases gs with
    | nil => cases e
    | cons p gs =>
      obtain ⟨a, b⟩ := p
      obtain ⟨v2, r', e2, h2, h3⟩ := r.consE
      have e1 : a = f := (List.cons.inj e).1
      subst e1
      have z : putF a v ((a, b) :: gs) = (a, v) :: gs := by simp [putF]
      rw [z]
      refine ⟨e, Rps.cons rv (by rw [(List.cons.inj e2).2]; exact h3), rfl⟩
  | @there n f ns e0 d ds ds' h ih =>
    intro gs e r nd
    cases gs with
    | nil => cases e
    | cons p gs =>
      obtain ⟨a, b⟩ := p
      obtain ⟨v2, r', e2, h2, h3⟩ := r.consE
      have e1 : a = n := (List.cons.inj e).1
      subst e1
      have nd2 := List.nodup_cons.mp nd
      have q : ¬ a = f := fun q => by subst q; exact nd2.1 h.mem
      have z : putF f v ((a, b) :: gs) = (a, b) :: putF f v gs := by simp [putF, q]
      obtain ⟨g1, g2, g3⟩ := ih rv (gs := gs) (List.cons.inj e).2 (by rw [(List.cons.inj e2).2]; exact h3) nd2.2
      rw [z]
      refine ⟨by rw [List.map_cons, g1], ?_, by rw [List.length_cons, List.length_cons, g3]⟩
      rw [List.map_cons]
      refine Rps.cons ?_ g2
      rw [show b = v2 from (List.cons.inj e2).1]
      exact h2
theorem put_new {K : PySem.W.Frag} {H : Hp} {f : Str} {d : D} {v : V} (rv : Rp K H d v) : ∀ {gs : List (Str × V)} {ds : List D}, f ∉ gs.map (·.1) → Rps K H ds (gs.map (·.2)) →
    (putF f v gs).map (·.1) = gs.map (·.1) ++ [f] ∧ Rps K H (ds ++ [d]) ((putF f v gs).map (·.2)) ∧ (putF f v gs).length = gs.length + 1
  | [], ds, n, r => by
    have e : ds = [] := by
      cases ds with
      | nil => rfl
      | cons d ds => obtain ⟨_, _, z, _⟩ := Rps.consE r; cases z
    subst e
    exact ⟨rfl, Rps.cons rv Rps.nil, rfl⟩
  | (a, b) :: gs, ds, n, r => by
    cases ds with
    | nil => have z := Rps.nilE r; cases z
    | cons d0 ds =>
      obtain ⟨v2, r', e2, h2, h3⟩ := Rps.consE r
      have q : ¬ a = f := fun q => n (by rw [← q]; exact List.mem_cons_self)
      have z : putF f v ((a, b) :: gs) = (a, b) :: putF f v gs := by simp [putF, q]
      obtain ⟨g1, g2, g3⟩ := put_new rv (gs := gs) (ds := ds) (fun m => n (List.mem_cons_of_mem _ m)) (by rw [(List.cons.inj e2).2]; exact h3)
      rw [z]
      refine ⟨by rw [List.map_cons, g1]; rfl, ?_, by rw [List.length_cons, List.length_cons, g3]⟩
      rw [List.map_cons]
      refine Rps.cons ?_ g2
      rw [show b = v2 from (List.cons.inj e2).1]
      exact h2
/-- a class's attribute that an instance keeps by itself -/
structure FldOk (K : PySem.W.Frag) (C : Addr) (f : Str) : Prop where
  cl : Cls K C
  na : NoAttr K C f
def dFld (K : PySem.W.Frag) (ta : DE) (f : Str) : DE := fun xc δ L Q => ta xc δ L fun x L1 => ∃ a C ns ds d, x = .ref a ∧ At L1 a (.ins C ns ds) ∧ FldOk K C f ∧ NAt ns ds f d ∧ Q d L1
theorem ge_fld {f : Str} (he : GE X W e te) (hb : attributeBase e f X.env (eval e X.env) = eval e X.env := by rfl) : GE X W (.Attribute e f pos) (dFld X.K te f) := by
  refine ⟨PE.imp (pe_fld he.run hb) fun σ H Q ⟨δ, L, P, xc, rel, t, k, x⟩ => ?_⟩
  refine ⟨δ, L, _, xc, rel, t, fun d L1 v H1 h1 r1 rel1 e1 => ?_, x⟩
  obtain ⟨a, C, ns, ds, d2, e2, h2, ok, na, q⟩ := h1
  subst e2
  obtain ⟨dx, gs, h3, h4, h5, h6⟩ := rel1.ce.ins h2
  obtain ⟨v2, g1, g2⟩ := na.look h4 h5 h6
  exact ⟨a, C, dx, gs, v2, r1.refE, h3, ok.cl, ok.na, g1, k _ _ _ _ q g2 rel1 e1⟩
/-- o.f = v: kept, or new at the end -/
def dSetF (K : PySem.W.Frag) (ta tv : DE) (f : Str) : DTS := fun D δ L => tv D.xc δ L fun y L1 => ta D.xc δ L1 fun x L2 => ∃ a C ns ds, x = .ref a ∧ FldOk K C f ∧ ns.length < 1000 ∧
  ((∃ ds' L3, NUp ns ds f y ds' ∧ Up L2 a (.ins C ns ds) (.ins C ns ds') L3 ∧ D.nx δ L3) ∨ (f ∉ ns ∧ ∃ L3, Up L2 a (.ins C ns ds) (.ins C (ns ++ [f]) (ds ++ [y])) L3 ∧ D.nx δ L3))
theorem gs_fld {f : Str} {pos' : Pos} {value : Expr} {tv : DE} (ha : GE X W o to) (hv : GE X W value tv) (hs : swapsWith value (some (.Attribute o f pos')) pos.line X.env = pure false := by rfl) :
    GS X W (.Assign [.Attribute o f pos'] value pos) (dSetF X.K to tv f) := by
  refine ⟨PS.imp (ps_fld ha.run hv.run hs) fun D σ H ⟨δ, L, D', rel, h, nx, rt, bk, ct, xc⟩ => ?_⟩
  refine ⟨δ, L, _, _, rel, h, fun d1 L1 v1 H1 q1 r1 rel1 e1 => ?_, xok_of xc⟩
  refine ⟨δ, L1, _, _, rel1, q1, fun d2 L2 v2 H2 q2 r2 rel2 e2 => ?_, (xok_of xc).mono e1⟩
  obtain ⟨a, C, ns, ds, e3, ok, hl, q⟩ := q2
  subst e3
  rcases q with ⟨ds', L3, up, u, q⟩ | ⟨nf, L3, u, q⟩
  · obtain ⟨dx, gs, h3, h4, h5, h6⟩ := rel2.ce.ins u.at
    obtain ⟨g1, g2, g3⟩ := up.put (r1.mono e2) h4 h5 h6
    have hlen : gs.length = ns.length := by rw [← h4, List.length_map]
    obtain ⟨c, e⟩ := rel2.ce.put u (o' := .ins C dx (putF f v1 gs)) ⟨dx, _, rfl, g1, g2, h6⟩
    exact ⟨a, C, dx, gs, r2.refE, h3, ok.cl, ok.na, by rw [hlen]; exact hl, nx δ L3 σ _ q (rel2.to e c) ((e1.trans e2).trans e)⟩
  · obtain ⟨dx, gs, h3, h4, h5, h6⟩ := rel2.ce.ins u.at
    obtain ⟨g1, g2, g3⟩ := put_new (f := f) (r1.mono e2) (gs := gs) (ds := ds) (by rw [h4]; exact nf) h5
    have hlen : gs.length = ns.length := by rw [← h4, List.length_map]
    have nd : (ns ++ [f]).Nodup := by
      rw [List.nodup_append]
      exact ⟨h6, by simp, fun x hx y hy z => nf (by rw [List.mem_singleton.mp hy] at z; rw [← z]; exact hx)⟩
    obtain ⟨c, e⟩ := rel2.ce.put u (o' := .ins C dx (putF f v1 gs)) ⟨dx, _, rfl, by rw [g1, h4], g2, nd⟩
    exact ⟨a, C, dx, gs, r2.refE, h3, ok.cl, ok.na, by rw [hlen]; exact hl, nx δ L3 σ _ q (rel2.to e c) ((e1.trans e2).trans e)⟩
end
end DL
set_option Elab.async false
set_option linter.all false
set_option maxRecDepth 100000
set_option maxHeartbeats 2000000
/-! Loops, comprehensions, calls, defs, raise and try. -/
namespace DL
open PySem L2
structure DIt where
  go : Nat → Cl → Prop
  yld : Nat → Cl → D → Cl → Prop
  stop : Nat → Cl → Prop
structure ItR (K : PySem.W.Frag) (H1 : Hp) (J' : DIt) (J : It) : Prop where
  go : ∀ i L H, TupExt H1 H → Cells K H L → J'.go i L → J.go i H
  stop : ∀ i L H, TupExt H1 H → Cells K H L → J'.stop i L → J.stop i H
  yld : ∀ i L H x H', TupExt H1 H → Cells K H L → J'.go i L → J.yld i H x H' → ∃ d L', J'.yld i L d L' ∧ Rp K H' d x ∧ Cells K H' L' ∧ TupExt H H'
abbrev DI := DX → DS → Cl → (DIt → Cl → Prop) → Prop
def liftI (K : PySem.W.Frag) (W : WX) (wi : DI) : TI := fun σ H R => ∃ δ L P xc, Rel K δ L σ H ∧ wi xc δ L P ∧ (∀ J' L' J H', P J' L' → ItR K H' J' J → Rel K δ L' σ H' → TupExt H H' → R J H') ∧ XOk K W xc σ H δ
structure GI (X : Cx) (W : WX) (tg iter : Expr) (wi : DI) : Prop where run : PI X tg iter (liftI X.K W wi)
theorem PI.imp {X : Cx} {tg e : Expr} {t t' : TI} (h : PI X tg e t) (i : ∀ σ H R, t' σ H R → t σ H R) : PI X tg e t' := ⟨fun pins s σ H R I q => h.run pins s σ H R I (i σ H R q)⟩
section
variable {X : Cx} {W : WX} {pos : Pos} {tg iter e c : Expr} {es : List Expr} {te : DE} {ta : DA}
/-! ### what is walked -/
def dItl (K : PySem.W.Frag) (a : Addr) (ds : List D) : DIt := ⟨fun i L => LAt K L a ds ∧ i < ds.length, fun i L d L' => L' = L ∧ ds[i]? = some d, fun i L => LAt K L a ds ∧ ds.length ≤ i⟩
def dItt (ds : List D) : DIt := ⟨fun i _ => i < ds.length, fun i L d L' => L' = L ∧ ds[i]? = some d, fun i _ => ds.length ≤ i⟩
def dItr (lo : Int) (n : Nat) : DIt := ⟨fun i _ => i < n, fun i L d L' => L' = L ∧ d = .int (lo + i), fun i _ => n ≤ i⟩
theorem itr_list {K : PySem.W.Frag} {H1 : Hp} {a : Addr} {ds : List D} : ItR K H1 (dItl K a ds) (Itl K a) where
  go := fun i L H _ c ⟨h, hi⟩ => by
    obtain ⟨vs, sq, rs⟩ := h.sq c
    have hv : i < vs.length := by rw [rs.length]; exact hi
    exact ⟨vs, vs[i], sq, List.getElem?_eq_getElem hv⟩
  stop := fun i L H _ c ⟨h, hi⟩ => by
    obtain ⟨vs, sq, rs⟩ := h.sq c
    exact ⟨vs, sq, by rw [rs.length]; exact hi⟩
  yld := fun i L H x H' _ c ⟨h, hi⟩ ⟨e, y⟩ => by
    subst e
    obtain ⟨vs, sq, rs⟩ := h.sq c
    obtain ⟨d, h1, h2⟩ := rs.getV (y vs sq)
    exact ⟨d, L, ⟨rfl, h1⟩, h2, c, .refl _⟩
theorem itr_tup {K : PySem.W.Frag} {H1 : Hp} {p : Addr} {ds : List D} {vs : List V} (t : TupAt K H1 p vs) (rs : Rps K H1 ds vs) : ItR K H1 (dItt ds) (Itt K p) where
  go := fun i L H e c hi => by
    have hv : i < vs.length := by rw [rs.length]; exact hi
    exact ⟨vs, vs[i], (t.mono e).sq, List.getElem?_eq_getElem hv⟩
  stop := fun i L H e c hi => ⟨vs, (t.mono e).sq, by rw [rs.length]; exact hi⟩
  yld := fun i L H x H' e c hi ⟨e', y⟩ => by
    subst e'
    obtain ⟨d, h1, h2⟩ := (rs.mono e).getV (y vs (t.mono e).sq)
    exact ⟨d, L, ⟨rfl, h1⟩, h2, c, .refl _⟩
theorem itr_range {K : PySem.W.Frag} {H1 : Hp} {lo : Int} {n : Nat} : ItR K H1 (dItr lo n) (Itr lo n) where
  go := fun i L H _ c h => h
  stop := fun i L H _ c h => h
  yld := fun i L H x H' _ c h ⟨e, y⟩ => by
    subst e y
    exact ⟨_, L, ⟨rfl, rfl⟩, Rp.intI, c, .refl _⟩
theorem PI.or {t t' : TI} (h : PI X tg e t) (h' : PI X tg e t') : PI X tg e (fun σ H R => t σ H R ∨ t' σ H R) := ⟨fun pins s σ H R I q => by
  rcases q with q | q
  · exact h.run pins s σ H R I q
  · exact h'.run pins s σ H R I q⟩
/-- a list | a tuple: two rules at once, told apart when the value is there -/
def iSeq2 (K : PySem.W.Frag) (tl : TE) : TI := fun σ H R => tl σ H fun x H1 => ∃ a, x = .ref a ∧ (((∃ xs, SqL K H1 a xs) ∧ R (Itl K a) H1) ∨ ((∃ xs, SqT K H1 a xs) ∧ R (Itt K a) H1))
theorem pi_seq2 {tl : TE} (hl : PE X e tl) : PI X tg e (iSeq2 X.K tl) := by
  constructor
  intro pins s σ H R I h
  apply thn (hl.run pins s σ H _ I h)
  intro v st ⟨x, Hx, J, rx, a, ex, q⟩
  subst ex
  obtain rfl : v = Value.ref a := rx
  have kp : ∀ (z : Obj) b o, st.heap.get? b = some o → (st.heap.push z).get? b = some o := fun z b o h => Heap.get?_push_of_some _ h
  have fp : ∀ b ∈ [st.heap.objs.size], FpOk X pins Hx b := fun b hb => by
    rw [List.mem_singleton.mp hb]
    exact J.fpOk (Nat.le_refl _) (J.hok.fresh (Nat.le_refl _))
  rcases q with ⟨⟨xs, sq⟩, q⟩ | ⟨⟨xs, sq⟩, q⟩
  · obtain ⟨its, _, pl, _⟩ := J.list sq
    apply wpAny_pyIter_list pl.isList
    exact ⟨_, _, _, _, Hx, rfl, J.kept (t' := st.toks) (kp _), turn_list a _, ⟨_, Heap.get?_push_size _ rfl, rfl, rfl⟩, fp, q⟩
  · obtain ⟨its, _, pt, _⟩ := J.tuple sq
    apply wpAny_pyIter_tuple (items := its.toArray) pt
    exact ⟨_, _, _, _, Hx, rfl, J.kept (t' := st.toks) (kp _), turn_tuple a _, ⟨_, Heap.get?_push_size _ rfl, rfl, rfl⟩, fp, q⟩
/-- the turns over a value: a list at an address, or the items of a tuple -/
inductive SeqIt (K : PySem.W.Frag) (L : Cl) : D → List D → DIt → Prop
  | lst {a : Addr} {ds : List D} : LAt K L a ds → SeqIt K L (.ref a) ds (dItl K a ds)
  | tup {ds : List D} : SeqIt K L (.tup ds) ds (dItt ds)
def diSeq (K : PySem.W.Frag) (te : DE) : DI := fun xc δ L R => te xc δ L fun x L1 => ∃ ds J, SeqIt K L1 x ds J ∧ R J L1
theorem gi_list (he : GE X W e te) : GI X W tg e (diSeq X.K te) := by
  refine ⟨PI.imp (pi_seq2 he.run) fun σ H R ⟨δ, L, P, xc, rel, t, k, x⟩ => ?_⟩
  refine ⟨δ, L, _, xc, rel, t, fun d L1 v H1 h1 r1 rel1 e1 => ?_, x⟩
  obtain ⟨ds, J, si, q⟩ := h1
  cases si with
  | lst la =>
    obtain ⟨vs, sq, rs⟩ := la.sq rel1.ce
    exact ⟨_, r1.refE, .inl ⟨⟨vs, sq⟩, k _ L1 _ H1 q itr_list rel1 e1⟩⟩
  | tup =>
    obtain ⟨p, vs, e, t, rs⟩ := r1.tupE
    exact ⟨p, e, .inr ⟨⟨vs, t.sq⟩, k _ L1 _ H1 q (itr_tup t rs) rel1 e1⟩⟩
def diRng1 (ta : DA) : DI := fun xc δ L R => ta xc δ L fun vs L1 => ∃ j : Int, vs = [.int j] ∧ -(2 ^ 62) ≤ j ∧ j < 2 ^ 62 ∧ R (dItr 0 j.toNat) L1
def diRng2 (ta : DA) : DI := fun xc δ L R => ta xc δ L fun vs L1 => ∃ i j : Int, vs = [.int i, .int j] ∧ (-(2 ^ 62) ≤ i ∧ i < 2 ^ 62 ∧ -(2 ^ 62) ≤ j ∧ j < 2 ^ 62) ∧ R (dItr i (j - i).toNat) L1
theorem Rps.one {K : PySem.W.Frag} {H : Hp} {i : Int} {vs : List V} (h : Rps K H [.int i] vs) : vs = [.int i] := Rps.ints (ns := [i]) h
theorem Rps.two {K : PySem.W.Frag} {H : Hp} {i j : Int} {vs : List V} (h : Rps K H [.int i, .int j] vs) : vs = [.int i, .int j] := Rps.ints (ns := [i, j]) h
theorem gi_range1 {a : Expr} {p pos : Pos} (hg : Gl X "range") (hm : X.mg "range" = none) (ha : GA X W [a] ta) (hs : starEach [a] X.env = [(false, eval a X.env)] := by rfl) : GI X W tg (.Call (.Name "range" p) [a] [] pos) (diRng1 ta) := by
  refine ⟨PI.imp (pi_range1 hg hm ha.run hs) fun σ H R ⟨δ, L, P, xc, rel, t, k, x⟩ => ?_⟩
  refine ⟨δ, L, _, xc, rel, t, fun ds L1 vs H1 h1 r1 rel1 e1 => ?_, x⟩
  obtain ⟨j, e, b1, b2, q⟩ := h1
  subst e
  exact ⟨j, r1.one, b1, b2, k _ L1 _ H1 q itr_range rel1 e1⟩
theorem gi_range2 {a b : Expr} {p pos : Pos} (hg : Gl X "range") (hm : X.mg "range" = none) (ha : GA X W [a, b] ta) (hs : starEach [a, b] X.env = [(false, eval a X.env), (false, eval b X.env)] := by rfl) (hs2 : starEach [b] X.env = [(false, eval b X.env)] := by rfl) :
    GI X W tg (.Call (.Name "range" p) [a, b] [] pos) (diRng2 ta) := by
  refine ⟨PI.imp (pi_range2 hg hm ha.run hs hs2) fun σ H R ⟨δ, L, P, xc, rel, t, k, x⟩ => ?_⟩
  refine ⟨δ, L, _, xc, rel, t, fun ds L1 vs H1 h1 r1 rel1 e1 => ?_, x⟩
  obtain ⟨i, j, e, b1, q⟩ := h1
  subst e
  exact ⟨i, j, r1.two, b1, k _ L1 _ H1 q itr_range rel1 e1⟩
/-! ### for, while -/
def dFor (wi : DI) (g : DG) (tb : DTS) : DTS := fun D δ L => wi D.xc δ L fun J L1 => ∃ W : Nat → Nat → DS → Cl → Prop, (∃ m δ2 L2, Fg δ δ2 ∧ Sub L1 L2 ∧ W 0 m δ2 L2) ∧ ∀ i m δ L, W i m δ L →
  (J.stop i L ∧ D.nx δ L) ∨ (J.go i L ∧ ∃ N : DS → Cl → Prop, (∀ δ' L', N δ' L' → ∃ m' δ2 L2, m' < m ∧ Fg δ' δ2 ∧ Sub L' L2 ∧ W (i + 1) m' δ2 L2) ∧
    ∀ d L', J.yld i L d L' → g D.xc d δ L' fun δ2 L2 => tb { D with nx := N, ct := N, bk := D.nx } δ2 L2)
theorem gs_for {body : List Stmt} {wi : DI} {g : DG} {ws : List Nat} {tb : DTS} (hp : PassesOwn (model X.prog X.w) X.A X.env X.xe) (hc : X.calm = true) (hi : GI X W tg iter wi) (hg : GG X W tg ws g) (hb : GB X W body tb)
    (hs : ∀ x, foldedSetIterable iter X.env x = pure x := by intro _; rfl) : GS X W (.For tg iter body [] pos) (dFor wi g tb) := by
  refine ⟨PS.imp (ps_for hp hc hi.run hg.run hb.run hs) fun D σ H ⟨δ, L, D', rel, h, nx, rt, bk, ct, xc⟩ => ?_⟩
  refine ⟨δ, L, _, _, rel, h, fun J' L1 J H1 q it rel1 e1 => ?_, xok_of xc⟩
  obtain ⟨Wd, ⟨m0, δ2, L2, f2, s2, w2⟩, turn⟩ := q
  refine ⟨fun i m σ H => ∃ δ L, Rel X.K δ L σ H ∧ TupExt H1 H ∧ Wd i m δ L, ⟨m0, δ2, L2, rel1.wk f2 s2, .refl H1, w2⟩, ?_⟩
  rintro i m σ3 H3 ⟨δ3, L3, rel3, e3, w3⟩
  rcases turn i m δ3 L3 w3 with ⟨st, q⟩ | ⟨go, N, hN, step⟩
  · exact .inl ⟨it.stop i L3 H3 e3 rel3.ce st, nx δ3 L3 σ3 H3 q rel3 (e1.trans e3)⟩
  · refine .inr ⟨it.go i L3 H3 e3 rel3.ce go, fun σ' H' => ∃ δ' L', Rel X.K δ' L' σ' H' ∧ TupExt H1 H' ∧ N δ' L', ?_, fun x H4 y => ?_⟩
    · rintro σ' H' ⟨δ', L', rel', e', n'⟩
      obtain ⟨m', δ5, L5, hm, f5, s5, w5⟩ := hN δ' L' n'
      exact ⟨m', hm, δ5, L5, rel'.wk f5 s5, e', w5⟩
    · obtain ⟨d, L4, y', r4, c4, e4⟩ := it.yld i L3 H3 x H4 e3 rel3.ce go y
      refine ⟨d, δ3, L4, _, _, r4, rel3.to e4 c4, step d L4 y', fun δ5 L5 σ5 H5 q5 rel5 e5 _ => ?_, (xok_of xc).mono ((e1.trans e3).trans e4)⟩
      have e15 : TupExt H1 H5 := (e3.trans e4).trans e5
      refine ⟨δ5, L5, _, rel5, q5, fun δ6 L6 σ6 H6 q6 rel6 e6 => ⟨δ6, L6, rel6, e15.trans e6, q6⟩, fun d6 L6 v6 H6 q6 r6 c6 e6 => rt d6 L6 v6 H6 q6 r6 c6 ((e1.trans e15).trans e6),
        fun δ6 L6 σ6 H6 q6 rel6 e6 => nx δ6 L6 σ6 H6 q6 rel6 ((e1.trans e15).trans e6), fun δ6 L6 σ6 H6 q6 rel6 e6 => ⟨δ6, L6, rel6, e15.trans e6, q6⟩,
        fun cl δ6 L6 σ6 H6 q6 rel6 e6 => xc cl δ6 L6 σ6 H6 q6 rel6 ((e1.trans e15).trans e6)⟩
def dWhile (c : DT) (tb : DTS) : DTS := fun D δ L => ∃ W : Nat → DS → Cl → Prop, (∃ m δ2 L2, Fg δ δ2 ∧ Sub L L2 ∧ W m δ2 L2) ∧ ∀ m δ L, W m δ L →
  c D.xc δ L fun b L1 => if b = true then ∃ N : DS → Cl → Prop, (∀ δ' L', N δ' L' → ∃ m' δ2 L2, m' < m ∧ Fg δ' δ2 ∧ Sub L' L2 ∧ W m' δ2 L2) ∧ tb { D with nx := N, ct := N, bk := D.nx } δ L1 else D.nx δ L1
theorem gs_while {body : List Stmt} {tc : DT} {tb : DTS} (hp : PassesOwn (model X.prog X.w) X.A X.env X.xe) (hc : GT X W c tc) (hb : GB X W body tb) : GS X W (.While c body [] pos) (dWhile tc tb) := by
  refine ⟨PS.imp (ps_while hp hc.run hb.run) fun D σ H ⟨δ, L, D', rel, h, nx, rt, bk, ct, xc⟩ => ?_⟩
  obtain ⟨Wd, ⟨m0, δ2, L2, f2, s2, w2⟩, turn⟩ := h
  refine ⟨fun m σ H1 => ∃ δ L, Rel X.K δ L σ H1 ∧ TupExt H H1 ∧ Wd m δ L, ⟨m0, δ2, L2, rel.wk f2 s2, .refl H, w2⟩, ?_⟩
  rintro m σ3 H3 ⟨δ3, L3, rel3, e3, w3⟩
  refine ⟨δ3, L3, _, _, rel3, turn m δ3 L3 w3, fun b L4 H4 q4 rel4 e4 => ?_, (xok_of xc).mono e3⟩
  have e34 : TupExt H H4 := e3.trans e4
  cases b with
  | true =>
    obtain ⟨N, hN, q⟩ := q4
    refine ⟨fun σ' H' => ∃ δ' L', Rel X.K δ' L' σ' H' ∧ TupExt H H' ∧ N δ' L', ?_, ?_⟩
    · rintro σ' H' ⟨δ', L', rel', e', n'⟩
      obtain ⟨m', δ5, L5, hm, f5, s5, w5⟩ := hN δ' L' n'
      exact ⟨m', hm, δ5, L5, rel'.wk f5 s5, e', w5⟩
    · refine ⟨δ3, L4, _, rel4, q, fun δ6 L6 σ6 H6 q6 rel6 e6 => ⟨δ6, L6, rel6, e34.trans e6, q6⟩, fun d6 L6 v6 H6 q6 r6 c6 e6 => rt d6 L6 v6 H6 q6 r6 c6 (e34.trans e6),
        fun δ6 L6 σ6 H6 q6 rel6 e6 => nx δ6 L6 σ6 H6 q6 rel6 (e34.trans e6), fun δ6 L6 σ6 H6 q6 rel6 e6 => ⟨δ6, L6, rel6, e34.trans e6, q6⟩, fun cl δ6 L6 σ6 H6 q6 rel6 e6 => xc cl δ6 L6 σ6 H6 q6 rel6 (e34.trans e6)⟩
  | false => exact nx δ3 L4 σ3 H4 q4 rel4 e34
/-! ### comprehensions -/
def noX : DX := fun _ _ _ => False
abbrev W0 : WX := fun _ _ _ _ => False
theorem xok_no {K : PySem.W.Frag} {W : WX} {σ : L2.St} {H : Hp} {δ : DS} : XOk K W noX σ H δ := fun _ _ _ z => z.elim
structure GTs (X : Cx) (W : WX) (ifs : List Expr) (t : DT) : Prop where run : PTs X ifs (liftT X.K W t)
def dYes : DT := fun _ _ L Q => Q true L
theorem gts_nil : GTs X W [] dYes := ⟨⟨fun pins s σ H Q I ⟨δ, L, P, xc, rel, t, k, x⟩ => pts_nil.run pins s σ H Q I (k true L H t rel (.refl H))⟩⟩
theorem gts_one {t : DT} (h : GT X W c t) : GTs X W [c] t := ⟨pts_one h.run⟩
theorem wipe_at {σ : L2.St} : ∀ {vs : List Nat} {j : Nat}, (L2.wipe σ vs)[j]? = if j ∈ vs then (if j < σ.length then some none else none) else σ[j]?
  | [], j => by simp [L2.wipe]
  | v :: vs, j => by
    show ((L2.wipe σ vs).set v none)[j]? = _
    by_cases e : v = j
    · subst e
      rw [List.getElem?_set]
      simp only [if_true, L2.wipe_length, List.mem_cons, true_or]
    · rw [List.getElem?_set_ne e, wipe_at (vs := vs)]
      have e2 : ¬ j = v := fun z => e z.symm
      simp only [List.mem_cons, e2, false_or]
theorem wipe_but {ws vs : List Nat} {σ σ2 : L2.St} (b : SlotsBut ws (L2.wipe σ vs) σ2) (h : ∀ j ∈ ws, j ∈ vs) : L2.wipe σ2 vs = L2.wipe σ vs := by
  apply List.ext_getElem?
  intro j
  rw [wipe_at, wipe_at, b.2, L2.wipe_length]
  by_cases e : j ∈ vs
  · rw [if_pos e, if_pos e]
  · rw [if_neg e, if_neg e, b.1 j fun z => e (h j z), wipe_at, if_neg e]
def dLc (wi : DI) (g : DG) (tt : DT) (te : DE) (vs : List Nat) : DE := fun xc δ L Q => wi xc δ L fun J L1 => ∀ p, ∃ W : Nat → Nat → Cl → Prop, (∃ m L2, Sub ((p, .lst []) :: L1) L2 ∧ W 0 m L2) ∧ ∀ i m L, W i m L →
  (J.stop i L ∧ Q (.ref p) L) ∨ (J.go i L ∧ ∃ Nx : Cl → Prop, (∀ L', Nx L' → ∃ m' L2, m' < m ∧ Sub L' L2 ∧ W (i + 1) m' L2) ∧ ∀ d L', J.yld i L d L' → g noX d (wipeD δ vs) L' fun δ2 L2 => tt noX δ2 L2 fun b L3 =>
    if b = true then te noX δ2 L3 fun y L4 => ∃ acc L5, acc.length < sizeLine ∧ Up L4 p (.lst acc) (.lst (acc ++ [y])) L5 ∧ Nx L5 else Nx L3)
theorem lift_lc {K : PySem.W.Frag} {wi : DI} {g : DG} {tt : DT} {te : DE} {vs ws : List Nat} (hw : ∀ j ∈ ws, j ∈ vs) (σ : L2.St) (H : Hp) (Q : VK) (h : liftE K W (dLc wi g tt te vs) σ H Q) :
    tLc (liftI K W wi) (liftG K W0 ws g) (liftT K W0 tt) (liftE K W0 te) vs σ H Q := by
  obtain ⟨δ, L, P, xc, rel, h, k, x⟩ := h
  refine ⟨δ, L, _, _, rel, h, fun J' L1 J H1 q it rel1 e1 => ?_, x⟩
  intro p hp
  obtain ⟨Wd, ⟨m0, Lz, s2, w2⟩, turn⟩ := q p
  obtain ⟨relp, ep⟩ := newX rel1 hp (g := .lst []) (o := .lst []) ⟨[], rfl, Rps.nil⟩
  refine ⟨fun i m H3 => ∃ L, Cells K H3 L ∧ TupExt H1 H3 ∧ Wd i m L, ⟨m0, Lz, relp.ce.sub s2, ep, w2⟩, ?_⟩
  rintro i m H3 ⟨L3, c3, e3, w3⟩
  have rel3 : Rel K δ L3 σ H3 := ⟨rel1.sl.mono e3, c3⟩
  rcases turn i m L3 w3 with ⟨st, q⟩ | ⟨go, N, hN, step⟩
  · exact .inl ⟨it.stop i L3 H3 e3 c3 st, k _ L3 _ H3 q Rp.refI rel3 (e1.trans e3)⟩
  · refine .inr ⟨it.go i L3 H3 e3 c3 go, fun H' => ∃ L', Cells K H' L' ∧ TupExt H1 H' ∧ N L', ?_, fun y H4 hy => ?_⟩
    · rintro H' ⟨L', c', e', n'⟩
      obtain ⟨m', L5, hm, s5, w5⟩ := hN L' n'
      exact ⟨m', hm, L5, c'.sub s5, e', w5⟩
    · obtain ⟨d, L4, y', r4, c4, e4⟩ := it.yld i L3 H3 y H4 e3 c3 go hy
      have relW : Rel K (wipeD δ vs) L4 (L2.wipe σ vs) H4 := ⟨(rel3.sl.mono e4).wipe vs, c4⟩
      refine ⟨d, wipeD δ vs, L4, _, noX, r4, relW, step d L4 y', fun δ5 L5 σ5 H5 q5 rel5 e5 b5 => ?_, xok_no⟩
      refine ⟨wipe_but b5 hw, δ5, L5, _, noX, rel5, q5, fun b L6 H6 q6 rel6 e6 => ?_, xok_no⟩
      cases b with
      | true =>
        refine ⟨δ5, L6, _, noX, rel6, q6, fun z L7 v7 H7 q7 r7 rel7 e7 => ?_, xok_no⟩
        obtain ⟨acc, L8, hz, u, n⟩ := q7
        obtain ⟨us, hu, ru⟩ := rel7.ce.lst u.at
        obtain ⟨rel8, e8⟩ := lputX rel7 u (ru.append (Rps.cons r7 Rps.nil))
        refine ⟨us, hu, by rw [ru.length]; exact hz, L8, rel8.ce, (((((e3.trans e4).trans e5).trans e6).trans e7).trans e8), n⟩
      | false => exact ⟨L6, rel6.ce, (((e3.trans e4).trans e5).trans e6), q6⟩
section
variable {elt : Expr} {ifs : List Expr} {scope : Scope} {own : List (Str × Nat)} {wi : DI} {g : DG} {tt : DT} {ws : List Nat}
theorem ge_lc (hc : X.calm = true) (hN : X.N.Nodup) (hi : GI X W tg iter wi) (ok : BlkOk X.N X.env.scope scope own)
    (hg : ∀ (s : Shared) (H : Hp) (C : Addr) (cl : List (Str × Addr)) (fp : List Addr), GG (X.blk s H scope (compEnvC scope cl C X.env) fp) W0 tg ws g)
    (ht : ∀ (s : Shared) (H : Hp) (C : Addr) (cl : List (Str × Addr)) (fp : List Addr), GTs (X.blk s H scope (compEnvC scope cl C X.env) fp) W0 ifs tt)
    (he : ∀ (s : Shared) (H : Hp) (C : Addr) (cl : List (Str × Addr)) (fp : List Addr), GE (X.blk s H scope (compEnvC scope cl C X.env) fp) W0 elt te)
    (hw : ∀ j ∈ ws, j ∈ own.map (·.2) := by decide) (hs : ∀ x, foldedSetIterable iter X.env x = pure x := by intro _; rfl) :
    GE X W (.ListComp elt [⟨tg, iter, ifs, 0⟩] scope pos) (dLc wi g tt te (own.map (·.2))) :=
  ⟨PE.imp (pe_lc hc hN hi.run ok (g := liftG X.K W0 ws g) (tt := liftT X.K W0 tt) (te := liftE X.K W0 te) (fun s H C cl fp => (hg s H C cl fp).run) (fun s H C cl fp => (ht s H C cl fp).run) (fun s H C cl fp => (he s H C cl fp).run) hs) (lift_lc hw)⟩
theorem gs_setLc {i : Nat} {y : Str} {py : Pos} {spos : Pos} (hc : X.calm = true) (hN : X.N.Nodup) (hy : X.N[i]? = some y) (hyl : X.env.scope.names.lookup y = some .local)
    (hsw : swapsWith (.ListComp elt [⟨tg, iter, ifs, 0⟩] scope pos) (some (.Name y py)) spos.line X.env = pure true) (hi : GI X W tg iter wi) (ok : BlkOk X.N X.env.scope scope own)
    (hg : ∀ (s : Shared) (H : Hp) (C : Addr) (cl : List (Str × Addr)) (fp : List Addr), GG (X.blk s H scope (compEnvC scope cl C X.env) fp) W0 tg ws g)
    (ht : ∀ (s : Shared) (H : Hp) (C : Addr) (cl : List (Str × Addr)) (fp : List Addr), GTs (X.blk s H scope (compEnvC scope cl C X.env) fp) W0 ifs tt)
    (he : ∀ (s : Shared) (H : Hp) (C : Addr) (cl : List (Str × Addr)) (fp : List Addr), GE (X.blk s H scope (compEnvC scope cl C X.env) fp) W0 elt te)
    (hw : ∀ j ∈ ws, j ∈ own.map (·.2) := by decide) (hs : ∀ x, foldedSetIterable iter X.env x = pure x := by intro _; rfl) :
    GS X W (.Assign [.Name y py] (.ListComp elt [⟨tg, iter, ifs, 0⟩] scope pos) spos) (dAsg (dLc wi g tt te (own.map (·.2))) (dgName i)) := by
  refine ⟨PS.imp (ps_setLc hc hN hy hyl hsw hi.run ok (g := liftG X.K W0 ws g) (tt := liftT X.K W0 tt) (te := liftE X.K W0 te) (fun s H C cl fp => (hg s H C cl fp).run) (fun s H C cl fp => (ht s H C cl fp).run) (fun s H C cl fp => (he s H C cl fp).run) hs) fun D σ H ⟨δ, L, D', rel, h, nx, rt, bk, ct, xc⟩ => ?_⟩
  refine lift_lc hw σ H _ ⟨δ, L, _, _, rel, h, fun d L1 v H1 q1 r1 rel1 e1 => ?_, xok_of xc⟩
  obtain ⟨δ', sa, q⟩ := q1
  exact nx δ' L1 _ H1 q (by rw [sa.eq]; exact rel1.set r1 i) e1
end
end
end DL
set_option Elab.async false
set_option linter.all false
set_option maxRecDepth 100000
set_option maxHeartbeats 2000000
/-! Calls of defs, methods, classes; what a def promises; raise, try. -/
namespace DL
open PySem L2
/-- a promise: the arguments, the cells, the wanted end, the wanted exception -/
abbrev DSp := List D → Cl → DV → (Value → Cl → Prop) → Prop
def spL (K : PySem.W.Frag) (sp : DSp) : Sp := fun vs H Q E => ∃ ds L P PE, Rps K H ds vs ∧ Cells K H L ∧ sp ds L P PE ∧ (∀ d L' v H', P d L' → Rp K H' d v → Cells K H' L' → TupExt H H' → Q v H') ∧
  (∀ c L' H', PE c L' → Cells K H' L' → TupExt H H' → E c none H')
abbrev GFn (P : Program) (w : World) (K : PySem.W.Frag) (mg : Str → Option Value) (base : Heap) (k : Nat) (f : Addr) (fd : FuncData) (ps : List Str) (sp : DSp) : Prop := FnOk P w K mg base (L2.CX P w) k f fd ps (spL K sp)
def dCall (sp : DSp) (dv : List D) (t : DA) : DE := fun xc δ L Q => t xc δ L fun ds L1 => sp (ds ++ dv) L1 Q fun c L' => xc c δ L'
def dCallK (sp : DSp) (gD : List D → List D → List D) (t tk : DA) : DE := fun xc δ L Q => t xc δ L fun ds L1 => tk xc δ L1 fun es L2 => sp (gD ds es) L2 Q fun c L' => xc c δ L'
def dMeth (C : Addr) (m : Str) (sp : DSp) (dv : List D) (to : DE) (t : DA) : DE := fun xc δ L Q => to xc δ L fun x L1 => ∃ a ns fs, x = .ref a ∧ At L1 a (.ins C ns fs) ∧ m ∉ ns ∧ t xc δ L1 fun ds L2 => sp (x :: (ds ++ dv)) L2 Q fun c L' => xc c δ L'
def dMake (C : Addr) (sp : DSp) (dv : List D) (t : DA) : DE := fun xc δ L Q => t xc δ L fun ds L1 => ∀ x, sp (.ref x :: (ds ++ dv)) ((x, .ins C [] []) :: L1) (fun d L2 => d = .non ∧ Q (.ref x) L2) fun c L' => xc c δ L'
section
variable {X : Cx} {W : WX} {pos p apos : Pos} {e o : Expr} {es : List Expr} {te to : DE} {t : DA} {k : Nat} {f C : Addr} {fd : FuncData} {ps : List Str} {sp : DSp} {dvs : List V} {dss : List Value} {dv : List D} {x m : Str}
theorem spL_of {K : PySem.W.Frag} {ds : List D} {L : Cl} {P : DV} {δ : DS} {xc : DX} {σ : L2.St} {H : Hp} {vs : List V} {Q : VK} (rs : Rps K H ds vs) (rel : Rel K δ L σ H) (h : sp ds L P fun c L' => xc c δ L')
    (k : ∀ d L' v H', P d L' → Rp K H' d v → Rel K δ L' σ H' → TupExt H H' → Q v H') (x : XOk K W xc σ H δ) : spL K sp vs H Q (WE W σ) :=
  ⟨ds, L, P, _, rs, rel.ce, h, fun d L' v H' q r c e => k d L' v H' q r (rel.to e c) e, fun c L' H' q cc e => x c L' H' q (rel.to e cc) e⟩
theorem ge_call (F : GFn X.prog X.w X.K X.mg X.base k f fd ps sp) (hr : Room k X.A) (hg : Gl X x) (hm : X.mg x = some (.ref f)) (hk : PySem.W.keepIn X.K (.ref f) = true) (hb : Binds X.K fd ps dss) (hd : Vals dvs dss) (hv : ∀ H, Rps X.K H dv dvs)
    (tk : Takes X W) (ha : GA X W (e :: es) t) (hdb : (x == ("__debug__" : Str)) = false := by decide) (he : starEach (e :: es) X.env = (false, eval e X.env) :: starEach es X.env := by rfl)
    (hpl : (backTo pos (starEach es X.env)).any (·.1) = false := by rfl) : GE X W (.Call (.Name x p) (e :: es) [] pos) (dCall sp dv t) := by
  refine ⟨PE.imp (pe_callSD F hr hg hm hk hb hd (passAt tk) ha.run hdb he hpl) fun σ H Q ⟨δ, L, P, xc, rel, h, kk, xx⟩ => ?_⟩
  refine ⟨δ, L, _, xc, rel, h, fun ds L1 vs H1 h1 r1 rel1 e1 => ?_, xx⟩
  exact spL_of (r1.append (hv H1)) rel1 h1 (fun d L' v H' q r rl ee => kk d L' v H' q r rl (e1.trans ee)) (xx.mono e1)
theorem pe_call0D {E : L2.St → XK} {sp : Sp} {CX : CXT} (F : FnOk X.prog X.w X.K X.mg X.base CX k f fd ps sp) (hr : Room k X.A) (hg : Gl X x) (hm : X.mg x = some (.ref f)) (hk : PySem.W.keepIn X.K (.ref f) = true) (hb : Binds X.K fd ps dss) (hd : Vals dvs dss)
    (hx : ∀ σ, PassesAt CX X σ (E σ)) (hdb : (x == ("__debug__" : Str)) = false := by decide) : PE X (.Call (.Name x p) [] [] pos) (tCallSD sp dvs E tNil) := by
  constructor
  intro pins s σ H Q I h
  apply wpAny_Call_Name_kw (ld_glob I hg hm ?_ hdb)
  apply PySem.W.callWith_K0 I.kIn hk
  exact run_fnSD (us := []) F hr hb hd (hx σ) I .nil h
theorem ge_call0 (F : GFn X.prog X.w X.K X.mg X.base k f fd ps sp) (hr : Room k X.A) (hg : Gl X x) (hm : X.mg x = some (.ref f)) (hk : PySem.W.keepIn X.K (.ref f) = true) (hb : Binds X.K fd ps dss) (hd : Vals dvs dss) (hv : ∀ H, Rps X.K H dv dvs)
    (tk : Takes X W) (hdb : (x == ("__debug__" : Str)) = false := by decide) : GE X W (.Call (.Name x p) [] [] pos) (dCall sp dv dNil) := by
  refine ⟨PE.imp (pe_call0D F hr hg hm hk hb hd (passAt tk) hdb) fun σ H Q ⟨δ, L, P, xc, rel, h, kk, xx⟩ => ?_⟩
  exact spL_of (ds := [] ++ dv) (by simpa using hv H) rel h (fun d L' v H' q r rl ee => kk d L' v H' q r rl ee) xx
/-- the way a method is looked up and called -/
abbrev MethT (X : Cx) (o : Expr) (m : Str) (apos pos : Pos) (es : List Expr) (pl : Sem Bool) : Prop :=
  eval (.Call (.Attribute o m apos) es [] pos) X.env = (eval o X.env >>= fun ov => standAt apos.atName >>= fun _ => holding [ov] (getMethod ov m pl) >>= fun q => callWith pos q.1 q.2 (backTo pos (starEach es X.env)) (backToKw pos (keywordEach [] X.env)))
def tMethD (C : Addr) (m : Str) (sp : Sp) (dvs : List V) (E : L2.St → XK) (ta : TE) (t : TA) : TE := fun σ H Q => ta σ H fun x H1 => ∃ a dx fs, x = .ref a ∧ H1 a = some (.ins C dx fs) ∧ fs.lookup m = none ∧ t σ H1 fun vs H2 => sp (x :: (vs ++ dvs)) H2 Q (E σ)
section
variable {E : L2.St → XK} {sp : Sp} {CX : CXT} {ta : TE} {tt : TA}
theorem pe_methD {pl : Sem Bool} (he : PE X o ta) (c : Cls X.K C) (hm : Meth X.K C m f) (F : FnOk X.prog X.w X.K X.mg X.base CX k f fd ps sp) (hr : Room k X.A) (hb : Binds X.K fd ps dss) (hd : Vals dvs dss) (hx : ∀ σ, PassesAt CX X σ (E σ)) (ha : PA X (e :: es) tt)
    (hst : starEach (e :: es) X.env = (false, eval e X.env) :: starEach es X.env := by rfl) (hpl : (backTo pos (starEach es X.env)).any (·.1) = false := by rfl) (ht : MethT X o m apos pos (e :: es) pl := by rfl) :
    PE X (.Call (.Attribute o m apos) (e :: es) [] pos) (tMethD C m sp dvs E ta tt) := by
  constructor
  intro pins s σ H Q I h
  refine PySem.W.methodCall_KW (pl := pl) (thn (he.run pins s σ H _ I h) fun u st hh => ?_) ht
  obtain ⟨x, Hx, J, rx, a, dx, fs, ex, ea, l, q⟩ := hh
  subst ex
  obtain rfl : u = Value.ref a := rx
  apply getmeth_ok J ea c hm l
  refine PySem.W.callWith_K (first := [.ref a]) (h₀ := X.base) I.ok.mod.kin hm.kp (thn (ha.run pos pins st σ Hx _ J q) fun us s2 hq => ?_) hst hpl
  obtain ⟨vs, Hy, J2, r, q2⟩ := hq
  exact ⟨J2.kIn, run_fnSD (us := .ref a :: us) (vs := .ref a :: vs) F hr hb hd (hx σ) J2 (.cons rfl r) q2⟩
theorem pe_meth0D {pl : Sem Bool} (he : PE X o ta) (c : Cls X.K C) (hm : Meth X.K C m f) (F : FnOk X.prog X.w X.K X.mg X.base CX k f fd ps sp) (hr : Room k X.A) (hb : Binds X.K fd ps dss) (hd : Vals dvs dss) (hx : ∀ σ, PassesAt CX X σ (E σ))
    (ht : MethT X o m apos pos [] pl := by rfl) : PE X (.Call (.Attribute o m apos) [] [] pos) (tMethD C m sp dvs E ta tNil) := by
  constructor
  intro pins s σ H Q I h
  refine PySem.W.methodCall_KW (pl := pl) (thn (he.run pins s σ H _ I h) fun u st hh => ?_) ht
  obtain ⟨x, Hx, J, rx, a, dx, fs, ex, ea, l, q⟩ := hh
  subst ex
  obtain rfl : u = Value.ref a := rx
  apply getmeth_ok J ea c hm l
  apply PySem.W.callWith_K0 (first := [.ref a]) J.kIn hm.kp
  exact run_fnSD (us := [.ref a]) (vs := [.ref a]) F hr hb hd (hx σ) J (.cons rfl .nil) q
def tMakeD (C : Addr) (sp : Sp) (dvs : List V) (E : L2.St → XK) (t : TA) : TE := fun σ H Q => t σ H fun vs H1 => ∀ x dx, H1 x = none → H1 dx = none → dx ≠ x →
  sp (.ref x :: (vs ++ dvs)) (upd (upd H1 dx (.own x)) x (.ins C dx [])) (fun v H2 => v = .non ∧ Q (.ref x) H2) (E σ)
theorem run_makeD {pins : List (Addr × Obj)} {σ : L2.St} {H : Hp} {s : Shared} {Q : VK} {us : List Value} {vs : List V} (M : Mk X.K C f) (F : FnOk X.prog X.w X.K X.mg X.base CX k f fd ps sp) (hr : Room (k + 1) X.A) (hb : Binds X.K fd ps dss) (hd : Vals dvs dss)
    (hx : PassesAt CX X σ (E σ)) (I : L2.Inv X pins σ H s) (r : Vals vs us)
    (h : ∀ x dx, H x = none → H dx = none → dx ≠ x → sp (.ref x :: (vs ++ dvs)) (upd (upd H dx (.own x)) x (.ins C dx [])) (fun v H2 => v = .non ∧ Q (.ref x) H2) (E σ)) :
    wpAny (model X.prog X.w) X.A (call (.ref C) us) (EP X pins σ Q) X.xe s := by
  obtain ⟨n, hn⟩ : ∃ n, n = s.heap.objs.size := ⟨_, rfl⟩
  have free : ∀ b, n ≤ b → H b = none := fun b hb => I.hok.fresh (by rw [← hn]; exact hb)
  have hq := h (n + 1) n (free _ (Nat.le_succ _)) (free _ (Nat.le_refl _)) (Nat.ne_of_lt (Nat.lt_succ_self _))
  have J := Inv.made (C := C) I
  rw [← hn] at J
  have rr : Vals (V.ref (n + 1) :: (vs ++ dvs)) (Value.ref (n + 1) :: (us ++ dss)) := .cons rfl (r.append hd)
  have hl : ((Value.ref (n + 1) :: us) ++ dss).length = ps.length := by
    have e := rr.length
    rw [F.len _ _ _ _ hq] at e
    exact e.symm
  have bd := hb _ (Value.ref (n + 1) :: us) J.kIn hl
  have run := F.run _ X.stack _ _ ⟨Value.ref (n + 1) :: us, []⟩ (Value.ref (n + 1) :: (us ++ dss)) _ _ (E σ) (hr.make C us []) (J.env0.make C us []) bd rr hq
  refine wpAny_call (make_map (f := f) I.kIn M.makes M.init (beq_iff_eq.mp M.fn) ?_)
  rw [← hn]
  refine codeAny_mono run fun res s' z => ?_
  cases res with
  | error er => exact hx pins _ _ er s' J z
  | ok fl =>
    cases fl with
    | ret u =>
      obtain ⟨v, H', J3, rv, ev, q3⟩ := J.after z
      subst ev
      exact ⟨rv, ⟨V.ref (n + 1), H', J3, rfl, q3⟩⟩
    | next => exact False.elim z
    | brk => exact False.elim z
    | cont => exact False.elim z
theorem pe_makeD (M : Mk X.K C f) (F : FnOk X.prog X.w X.K X.mg X.base CX k f fd ps sp) (hr : Room (k + 1) X.A) (hg : Gl X x) (hm : X.mg x = some (.ref C)) (hb : Binds X.K fd ps dss) (hd : Vals dvs dss) (hx : ∀ σ, PassesAt CX X σ (E σ)) (ha : PA X (e :: es) tt)
    (hdb : (x == ("__debug__" : Str)) = false := by decide) (he : starEach (e :: es) X.env = (false, eval e X.env) :: starEach es X.env := by rfl) (hpl : (backTo pos (starEach es X.env)).any (·.1) = false := by rfl) :
    PE X (.Call (.Name x p) (e :: es) [] pos) (tMakeD C sp dvs E tt) := by
  constructor
  intro pins s σ H Q I h
  apply wpAny_Call_Name_kw (ld_glob I hg hm ?_ hdb)
  refine PySem.W.callWith_K (h₀ := X.base) I.ok.mod.kin M.kp (thn (ha.run pos pins s σ H _ I h) fun us s1 hq => ?_) he hpl
  obtain ⟨vs, Hy, J, r, q⟩ := hq
  exact ⟨J.kIn, run_makeD M F hr hb hd (hx σ) J r q⟩
theorem pe_make0D (M : Mk X.K C f) (F : FnOk X.prog X.w X.K X.mg X.base CX k f fd ps sp) (hr : Room (k + 1) X.A) (hg : Gl X x) (hm : X.mg x = some (.ref C)) (hb : Binds X.K fd ps dss) (hd : Vals dvs dss) (hx : ∀ σ, PassesAt CX X σ (E σ))
    (hdb : (x == ("__debug__" : Str)) = false := by decide) : PE X (.Call (.Name x p) [] [] pos) (tMakeD C sp dvs E tNil) := by
  constructor
  intro pins s σ H Q I h
  apply wpAny_Call_Name_kw (ld_glob I hg hm ?_ hdb)
  apply PySem.W.callWith_K0 I.kIn M.kp
  exact run_makeD (us := []) M F hr hb hd (hx σ) I .nil h
end
theorem lookup_none {gs : List (Str × V)} {m : Str} (h : m ∉ gs.map (·.1)) : gs.lookup m = none := by
  induction gs with
  | nil => rfl
  | cons p gs ih =>
    obtain ⟨a, b⟩ := p
    have e : ¬ m = a := fun z => h (by rw [z]; exact List.mem_cons_self)
    have e2 : (m == a) = false := by simpa using e
    simp only [List.lookup, e2]
    exact ih fun z => h (List.mem_cons_of_mem _ z)
theorem ge_meth {pl : Sem Bool} (he : GE X W o to) (c : Cls X.K C) (hm : Meth X.K C m f) (F : GFn X.prog X.w X.K X.mg X.base k f fd ps sp) (hr : Room k X.A) (hb : Binds X.K fd ps dss) (hd : Vals dvs dss) (hv : ∀ H, Rps X.K H dv dvs) (tk : Takes X W) (ha : GA X W (e :: es) t)
    (hst : starEach (e :: es) X.env = (false, eval e X.env) :: starEach es X.env := by rfl) (hpl : (backTo pos (starEach es X.env)).any (·.1) = false := by rfl) (ht : MethT X o m apos pos (e :: es) pl := by rfl) :
    GE X W (.Call (.Attribute o m apos) (e :: es) [] pos) (dMeth C m sp dv to t) := by
  refine ⟨PE.imp (pe_methD he.run c hm F hr hb hd (passAt tk) ha.run hst hpl ht) fun σ H Q ⟨δ, L, P, xc, rel, h, kk, xx⟩ => ?_⟩
  refine ⟨δ, L, _, xc, rel, h, fun d L1 v H1 h1 r1 rel1 e1 => ?_, xx⟩
  obtain ⟨a, ns, fs, e2, h2, nm, q⟩ := h1
  subst e2
  obtain ⟨dx, gs, g1, g2, g3, g4⟩ := rel1.ce.ins h2
  refine ⟨a, dx, gs, r1.refE, g1, lookup_none (by rw [g2]; exact nm), ?_⟩
  refine ⟨δ, L1, _, xc, rel1, q, fun ds L2 vs H2 q2 rs rel2 e3 => ?_, xx.mono e1⟩
  exact spL_of (Rps.cons (r1.mono e3) (rs.append (hv H2))) rel2 q2 (fun d L' v H' q r rl ee => kk d L' v H' q r rl ((e1.trans e3).trans ee)) ((xx.mono e1).mono e3)
theorem ge_meth0 {pl : Sem Bool} (he : GE X W o to) (c : Cls X.K C) (hm : Meth X.K C m f) (F : GFn X.prog X.w X.K X.mg X.base k f fd ps sp) (hr : Room k X.A) (hb : Binds X.K fd ps dss) (hd : Vals dvs dss) (hv : ∀ H, Rps X.K H dv dvs) (tk : Takes X W)
    (ht : MethT X o m apos pos [] pl := by rfl) : GE X W (.Call (.Attribute o m apos) [] [] pos) (dMeth C m sp dv to dNil) := by
  refine ⟨PE.imp (pe_meth0D he.run c hm F hr hb hd (passAt tk) ht) fun σ H Q ⟨δ, L, P, xc, rel, h, kk, xx⟩ => ?_⟩
  refine ⟨δ, L, _, xc, rel, h, fun d L1 v H1 h1 r1 rel1 e1 => ?_, xx⟩
  obtain ⟨a, ns, fs, e2, h2, nm, q⟩ := h1
  subst e2
  obtain ⟨dx, gs, g1, g2, g3, g4⟩ := rel1.ce.ins h2
  refine ⟨a, dx, gs, r1.refE, g1, lookup_none (by rw [g2]; exact nm), ?_⟩
  exact spL_of (ds := .ref a :: ([] ++ dv)) (Rps.cons r1 (by simpa using hv H1)) rel1 q (fun d L' v H' q r rl ee => kk d L' v H' q r rl (e1.trans ee)) (xx.mono e1)
theorem made_cells {K : PySem.W.Frag} {H : Hp} {L : Cl} {a dx : Addr} (c : Cells K H L) (h1 : H a = none) (h2 : H dx = none) (hne : dx ≠ a) :
    Cells K (upd (upd H dx (.own a)) a (.ins C dx [])) ((a, .ins C [] []) :: L) ∧ TupExt H (upd (upd H dx (.own a)) a (.ins C dx [])) := by
  have e1 : TupExt H (upd H dx (.own a)) := TupExt.new h2
  have c1 := c.tup (o := .own a) h2
  have h3 : upd H dx (.own a) a = none := by rw [upd_ne (Ne.symm hne)]; exact h1
  exact ⟨c1.new h3 ⟨dx, [], rfl, rfl, Rps.nil, List.nodup_nil⟩, e1.trans (TupExt.new h3)⟩
theorem spL_make {K : PySem.W.Frag} {ds : List D} {L : Cl} {P : DV} {δ : DS} {xc : DX} {σ : L2.St} {H : Hp} {vs : List V} {Q : VK} (rs : Rps K H ds vs) (rel : Rel K δ L σ H)
    (h : ∀ x, sp (.ref x :: ds) ((x, .ins C [] []) :: L) (fun d L2 => d = .non ∧ P (.ref x) L2) fun c L' => xc c δ L')
    (k : ∀ d L' v H', P d L' → Rp K H' d v → Rel K δ L' σ H' → TupExt H H' → Q v H') (xx : XOk K W xc σ H δ) : ∀ x dx, H x = none → H dx = none → dx ≠ x →
      spL K sp (.ref x :: vs) (upd (upd H dx (.own x)) x (.ins C dx [])) (fun v H2 => v = .non ∧ Q (.ref x) H2) (WE W σ) := by
  intro a dx ha hdx hne
  obtain ⟨c, e⟩ := made_cells (C := C) rel.ce ha hdx hne
  refine ⟨_, _, _, _, Rps.cons Rp.refI (rs.mono e), c, h a, fun d L' v H' q r cc ee => ?_, fun c L' H' q cc ee => xx c L' H' q (rel.to (e.trans ee) cc) (e.trans ee)⟩
  obtain ⟨z, q⟩ := q
  subst z
  exact ⟨r.nonE, k _ L' _ H' q Rp.refI (rel.to (e.trans ee) cc) (e.trans ee)⟩
theorem ge_make (M : Mk X.K C f) (F : GFn X.prog X.w X.K X.mg X.base k f fd ps sp) (hr : Room (k + 1) X.A) (hg : Gl X x) (hm : X.mg x = some (.ref C)) (hb : Binds X.K fd ps dss) (hd : Vals dvs dss) (hv : ∀ H, Rps X.K H dv dvs) (tk : Takes X W) (ha : GA X W (e :: es) t)
    (hdb : (x == ("__debug__" : Str)) = false := by decide) (he : starEach (e :: es) X.env = (false, eval e X.env) :: starEach es X.env := by rfl) (hpl : (backTo pos (starEach es X.env)).any (·.1) = false := by rfl) :
    GE X W (.Call (.Name x p) (e :: es) [] pos) (dMake C sp dv t) := by
  refine ⟨PE.imp (pe_makeD M F hr hg hm hb hd (passAt tk) ha.run hdb he hpl) fun σ H Q ⟨δ, L, P, xc, rel, h, kk, xx⟩ => ?_⟩
  refine ⟨δ, L, _, xc, rel, h, fun ds L1 vs H1 h1 r1 rel1 e1 => ?_, xx⟩
  exact spL_make (r1.append (hv H1)) rel1 h1 (fun d L' v H' q r rl ee => kk d L' v H' q r rl (e1.trans ee)) (xx.mono e1)
theorem ge_make0 (M : Mk X.K C f) (F : GFn X.prog X.w X.K X.mg X.base k f fd ps sp) (hr : Room (k + 1) X.A) (hg : Gl X x) (hm : X.mg x = some (.ref C)) (hb : Binds X.K fd ps dss) (hd : Vals dvs dss) (hv : ∀ H, Rps X.K H dv dvs) (tk : Takes X W)
    (hdb : (x == ("__debug__" : Str)) = false := by decide) : GE X W (.Call (.Name x p) [] [] pos) (dMake C sp dv dNil) := by
  refine ⟨PE.imp (pe_make0D M F hr hg hm hb hd (passAt tk) hdb) fun σ H Q ⟨δ, L, P, xc, rel, h, kk, xx⟩ => ?_⟩
  exact spL_make (ds := [] ++ dv) (vs := [] ++ dvs) (by simpa using hv H) rel h (fun d L' v H' q r rl ee => kk d L' v H' q r rl ee) xx
end
/-! ### a def's body -/
def startD (N : List Str) (ds : List D) : DS := ds.map some ++ List.replicate (N.length - ds.length) none
def wE (E : XK) : WX := fun cls d _ H => E cls d H
section
variable {P : Program} {w : World} {K : PySem.W.Frag} {mg : Str → Option Value} {base : Heap}
theorem gfn {x qual : Str} {st : Stmt} {f : Addr} {fd : FuncData} {N ps : List Str} {k : Nat} {sp : DSp} (F : Fun K x qual st f fd) (S : FnScope N ps (defScope st)) (len : ∀ ds L Q E, sp ds L Q E → ds.length = ps.length)
    (hbody : ∀ (cdv : Value) (A : Around) (outer : List Env) (s : Shared) (H : Hp) (E : XK), Room k (A.deeper (PyProof.Rows.envOfC qual (defScope st) s.heap.objs.size f cdv)) →
      ∃ t : DTS, GB (cxOf (L2.CX P w) P w K mg base N qual (defScope st) f cdv A outer s H E) (wE E) (defBody st) t ∧
        ∀ ds L Q PE, sp ds L Q PE → ∃ δ, δ = startD N ds ∧ t ⟨fun _ L' => ∃ L2, Sub L' L2 ∧ Q .non L2, Q, fun _ _ => False, fun _ _ => False, fun c _ L' => ∃ L2, Sub L' L2 ∧ PE c L2⟩ δ L) : GFn P w K mg base (k + 1) f fd ps sp := by
  refine F.okX S (fun vs H Q E ⟨ds, L, P', PE, rs, _, h, _⟩ => by rw [rs.length]; exact len _ _ _ _ h) fun cdv A outer s H vs Q E hr hsp => ?_
  obtain ⟨t, hb, ht⟩ := hbody cdv A outer s H E hr
  obtain ⟨ds, L, P', PE, rs, c, h, kq, ke⟩ := hsp
  obtain ⟨δ, e, q⟩ := ht ds L P' PE h
  refine ⟨_, hb.run, δ, L, _, ⟨by rw [e]; exact Slots.start rs, c⟩, q, ?_, ?_, ?_, ?_, ?_⟩
  · rintro δ' L' σ' H' ⟨L2, s2, q2⟩ rel e2
    exact kq .non L2 _ H' q2 Rp.nonI (rel.ce.sub s2) e2
  · exact fun d L' v H' q2 r2 c2 e2 => kq d L' v H' q2 r2 c2 e2
  · exact fun _ _ _ _ z => z.elim
  · exact fun _ _ _ _ z => z.elim
  · rintro c δ' L' σ' H' ⟨L2, s2, q2⟩ rel e2
    exact ke c L2 H' q2 (rel.ce.sub s2) e2
theorem GFn.mono {j k : Nat} {f : Addr} {fd : FuncData} {ps : List Str} {sp : DSp} (F : GFn P w K mg base j f fd ps sp) (h : j ≤ k) : GFn P w K mg base k f fd ps sp := FnOk.mono F h
end
/-! ### raise, try -/
section
variable {X : Cx} {W : WX} {pos : Pos}
def dRaise (cls : Value) : DTS := fun D δ L => D.xc cls δ L
theorem gs_raise {cls : Value} {e : Expr} (hc : X.calm = true) (tk : Takes X W) (he : PMk X e (fun _ H Q => Q cls none H)) : GS X W (.Raise (some e) none pos) (dRaise cls) :=
  ⟨PS.imp (ps_raise hc tk he) fun D σ H ⟨δ, L, D', rel, h, nx, rt, bk, ct, xc⟩ => xc cls δ L σ H h rel (.refl H)⟩
def dTry (K : PySem.W.Frag) (c : Value) (t u : DTS) : DTS := fun D δ L => t { D with xc := fun cls δ1 L1 => ∃ b, PySem.W.exmOne K cls c = some b ∧ (b = true → u { D with xc := noX } δ1 L1) ∧ (b = false → D.xc cls δ1 L1) } δ L
theorem gs_try {x : Str} {c : Value} {body suite : List Stmt} {b₀ : Stmt} {np pos' : Pos} {t u : DTS} (hs : X.stack = X.env :: X.outer) (hf : X.env.frame = some X.env.locals) (hc : Names X x c) (tk : Takes X W)
    (hb : ∀ (W' : WX) (pn : List (Addr × Obj)) (xe : Value → Shared → Prop), Takes (X.tr pn xe) W' → PassesOwn (model X.prog X.w) X.A X.env xe → GB (X.tr pn xe) W' body t)
    (hsu : ∀ (a : Addr) (oe : Obj) (pn : List (Addr × Obj)), GB (X.suite a ((a, oe) :: pn)) W0 (b₀ :: suite) u) :
    GS X W (.Try body [.ExceptHandler (some (.Name x np)) none (b₀ :: suite) pos'] [] [] pos) (dTry X.K c t u) := by
  refine ⟨PS.imp (ps_try_only (tb := fun W' => liftS X.K W' t) (ts := fun _ _ _ => liftS X.K W0 u) hs hf hc tk (fun W' pn xe h1 h2 => (hb W' pn xe h1 h2).run) (fun a oe cls d pn _ _ => (hsu a oe pn).run)) fun D σ H ⟨δ, L, D', rel, h, nx, rt, bk, ct, xc⟩ => ?_⟩
  refine ⟨δ, L, _, rel, h, nx, rt, bk, ct, fun cls δ1 L1 σ1 H1 q rel1 e1 => ?_⟩
  obtain ⟨b, hb1, hy, hn⟩ := q
  refine ⟨b, hb1, fun z a ha => ?_, fun z => xc cls δ1 L1 σ1 H1 (hn z) rel1 e1⟩
  exact ⟨δ1, L1, _, rel1, hy z, fun δ2 L2 σ2 H2 q2 rel2 e2 => nx δ2 L2 σ2 H2 q2 rel2 (e1.trans e2), fun d L2 v H2 q2 r2 c2 e2 => rt d L2 v H2 q2 r2 c2 (e1.trans e2),
    fun δ2 L2 σ2 H2 q2 rel2 e2 => bk δ2 L2 σ2 H2 q2 rel2 (e1.trans e2), fun δ2 L2 σ2 H2 q2 rel2 e2 => ct δ2 L2 σ2 H2 q2 rel2 (e1.trans e2), fun cl δ2 L2 σ2 H2 q2 => q2.elim⟩
end
end DL
set_option Elab.async false
set_option linter.all false
set_option maxRecDepth 100000
set_option maxHeartbeats 2000000
/-! Methods of lists, built-ins, slices, displays of dicts, truth, stores in place. -/
namespace DL
open PySem L2
section
variable {X : Cx} {W : WX} {pos p apos cpos : Pos} {e o : Expr} {es : List Expr} {te to : DE} {t : DA} {x m : Str}
/-! ### built-ins by name -/
def dCB (r : DRL) (t : DA) : DE := fun xc δ L Q => t xc δ L fun ds L1 => r ds L1 Q
theorem lift_cb {K : PySem.W.Frag} {r : List V → Hp → VK → Prop} {r' : DRL} (l : LCa K r r') (σ : L2.St) (H : Hp) (Q : VK) (h : liftE K W (dCB r' t) σ H Q) : tCB r (liftA K W t) σ H Q := by
  obtain ⟨δ, L, P, xc, rel, h, k, xx⟩ := h
  refine ⟨δ, L, _, xc, rel, h, fun ds L1 vs H1 h1 r1 rel1 e1 => ?_, xx⟩
  exact l δ L1 σ H1 ds P vs Q rel1 r1 h1 fun z L' v H' q rr rl ee => k z L' v H' q rr rl (e1.trans ee)
theorem ge_callB {id : String} {r' : DRL} (hc : GCa X (.builtin id) r') (hg : Gl X x) (hm : X.mg x = none) (hv : bootBuiltins x = some (.builtin id)) (ha : GA X W (e :: es) t) (hn : x ≠ "__name__" := by decide) (hdb : (x == ("__debug__" : Str)) = false := by decide)
    (he : starEach (e :: es) X.env = (false, eval e X.env) :: starEach es X.env := by rfl) (hpl : (backTo pos (starEach es X.env)).any (·.1) = false := by rfl) : GE X W (.Call (.Name x p) (e :: es) [] pos) (dCB r' t) := by
  obtain ⟨r, c, l⟩ := hc
  exact ⟨PE.imp (pe_callB c hg hm hv ha.run hn hdb he hpl) (lift_cb l)⟩
theorem ge_callTy {T : String} {r' : DRL} (hc : GCa X (.type T) r') (hg : Gl X x) (hm : X.mg x = none) (hv : bootBuiltins x = some (.type T)) (ha : GA X W (e :: es) t) (hn : x ≠ "__name__" := by decide) (hdb : (x == ("__debug__" : Str)) = false := by decide)
    (he : starEach (e :: es) X.env = (false, eval e X.env) :: starEach es X.env := by rfl) (hpl : (backTo pos (starEach es X.env)).any (·.1) = false := by rfl) : GE X W (.Call (.Name x p) (e :: es) [] pos) (dCB r' t) := by
  obtain ⟨r, c, l⟩ := hc
  exact ⟨PE.imp (pe_callTy c hg hm hv ha.run hn hdb he hpl) (lift_cb l)⟩
def dAbs : DRL := fun ds L Q => ∃ i, ds = [.int i] ∧ Q (.int (if i < 0 then -i else i)) L
theorem gc_abs : GCa X (.builtin "abs") dAbs := ⟨_, call_abs, by
  intro δ L σ H ds P xs Q rel rs ⟨i, e, q⟩ k
  subst e
  exact ⟨i, rs.one, k _ L _ H q Rp.intI rel (.refl H)⟩⟩
def dMax2 : DRL := fun ds L Q => ∃ i j, ds = [.int i, .int j] ∧ Q (.int (if j > i then j else i)) L
def dMin2 : DRL := fun ds L Q => ∃ i j, ds = [.int i, .int j] ∧ Q (.int (if j < i then j else i)) L
theorem gc_max2 (hc : X.calm = true) : GCa X (.builtin "max") dMax2 := ⟨_, call_max2 hc, by
  intro δ L σ H ds P xs Q rel rs ⟨i, j, e, q⟩ k
  subst e
  exact ⟨i, j, rs.two, k _ L _ H q Rp.intI rel (.refl H)⟩⟩
theorem gc_min2 (hc : X.calm = true) : GCa X (.builtin "min") dMin2 := ⟨_, call_min2 hc, by
  intro δ L σ H ds P xs Q rel rs ⟨i, j, e, q⟩ k
  subst e
  exact ⟨i, j, rs.two, k _ L _ H q Rp.intI rel (.refl H)⟩⟩
def dInt : DRL := fun ds L Q => (∃ i, ds = [.int i] ∧ Q (.int i) L) ∨ ∃ k : Bool, ds = [.bl k] ∧ Q (.int (if k then 1 else 0)) L
theorem gc_int : GCa X (.type "int") dInt := ⟨_, call_int1, by
  intro δ L σ H ds P xs Q rel rs h k
  rcases h with ⟨i, e, q⟩ | ⟨b, e, q⟩
  · subst e
    exact .inl ⟨i, rs.one, k _ L _ H q Rp.intI rel (.refl H)⟩
  · subst e
    obtain ⟨v, r, rfl, h1, h2⟩ := rs.consE
    rw [h1.blE, h2.nilE]
    exact .inr ⟨b, rfl, k _ L _ H q Rp.intI rel (.refl H)⟩⟩
/-- len: a text, a list, a tuple, a dict -/
inductive LenD (K : PySem.W.Frag) (L : Cl) : D → Nat → Prop
  | str {x : Str} : x.length ≤ sizeLine → LenD K L (.str x) x.length
  | seq {d : D} {ds : List D} : SAt K L d ds → LenD K L d ds.length
  | dct {a : Addr} {kvs : List (Key × D)} : At L a (.dct kvs) → LenD K L (.ref a) kvs.length
def dLen (K : PySem.W.Frag) : DRL := fun ds L Q => ∃ d n, ds = [d] ∧ LenD K L d n ∧ Q (.int n) L
theorem gc_len : GCa X (.builtin "len") (dLen X.K) := ⟨_, CallR.or call_len call_lenD, by
  intro δ L σ H ds P xs Q rel rs ⟨d, n, e, h, q⟩ k
  subst e
  obtain ⟨v, r, rfl, h1, h2⟩ := rs.consE
  rw [h2.nilE]
  cases h with
  | str hz =>
    rw [h1.strE]
    exact .inl ⟨_, _, rfl, ⟨hz, rfl⟩, k _ L _ H q Rp.intI rel (.refl H)⟩
  | seq h =>
    cases h with
    | lst la =>
      obtain ⟨vs, sq, rr⟩ := la.sq rel.ce
      rw [h1.refE]
      exact .inl ⟨_, _, rfl, .inl ⟨vs, sq, rr.length.symm⟩, k _ L _ H q Rp.intI rel (.refl H)⟩
    | tup =>
      obtain ⟨p, vs, rfl, t, rr⟩ := h1.tupE
      exact .inl ⟨_, _, rfl, .inr ⟨vs, t.sq, rr.length.symm⟩, k _ L _ H q Rp.intI rel (.refl H)⟩
  | dct h =>
    obtain ⟨ws, hw, rr, _⟩ := rel.ce.dct h
    rw [h1.refE]
    refine .inr ⟨_, ws, rfl, hw, ?_⟩
    rw [rr.length]
    exact k _ L _ H q Rp.intI rel (.refl H)⟩
/-- list(xs), tuple(xs) of a list or tuple -/
def dListOf (K : PySem.W.Frag) : DRL := fun ds L Q => ∃ d xs, ds = [d] ∧ SAt K L d xs ∧ ∀ p, Q (.ref p) ((p, .lst xs) :: L)
theorem gc_list : GCa X (.type "list") (dListOf X.K) := ⟨_, call_list_of, by
  intro δ L σ H ds P xs Q rel rs ⟨d, ys, e, h, q⟩ k
  subst e
  obtain ⟨v, r, rfl, h1, h2⟩ := rs.consE
  rw [h2.nilE]
  have core : ∀ p us, v = .ref p → (SqL X.K H p us ∨ SqT X.K H p us) → Rps X.K H ys us → ∃ p ys, [v] = [V.ref p] ∧ (SqL X.K H p ys ∨ SqT X.K H p ys) ∧ ∀ l, H l = none → Q (.ref l) (upd H l (.lst ys)) := by
    intro p us e sq rr
    refine ⟨p, us, by rw [e], sq, fun l hl => ?_⟩
    obtain ⟨r1, e1⟩ := newX rel hl (g := .lst ys) (o := .lst us) ⟨_, rfl, rr⟩
    exact k _ _ _ _ (q l) Rp.refI r1 e1
  cases h with
  | lst la =>
    obtain ⟨vs, sq, rr⟩ := la.sq rel.ce
    exact core _ vs h1.refE (.inl sq) rr
  | tup =>
    obtain ⟨p, vs, e, t, rr⟩ := h1.tupE
    exact core p vs e (.inr t.sq) rr⟩
def dTupOf (K : PySem.W.Frag) : DRL := fun ds L Q => ∃ d xs, ds = [d] ∧ SAt K L d xs ∧ Q (.tup xs) L
theorem gc_tuple : GCa X (.type "tuple") (dTupOf X.K) := ⟨_, call_tuple_of, by
  intro δ L σ H ds P xs Q rel rs ⟨d, ys, e, h, q⟩ k
  subst e
  obtain ⟨v, r, rfl, h1, h2⟩ := rs.consE
  rw [h2.nilE]
  cases h with
  | lst la =>
    obtain ⟨vs, sq, rr⟩ := la.sq rel.ce
    refine ⟨_, vs, by rw [h1.refE], .inl ⟨sq, fun l hl => ?_⟩⟩
    obtain ⟨r1, e1, t1⟩ := tupX rel hl rr
    exact k _ _ _ _ q t1 r1 e1
  | tup =>
    obtain ⟨p, vs, e, t, rr⟩ := h1.tupE
    exact ⟨p, vs, by rw [e], .inr ⟨t.sq, k _ L _ H q (by rw [← e]; exact h1) rel (.refl H)⟩⟩⟩
/-- list(range(..)) -/
def rgD (a b : Int) : List D := (List.range (b - a).toNat).map fun (i : Nat) => D.int (a + (i : Int))
theorem rg_rel {K : PySem.W.Frag} {H : Hp} {a b : Int} : Rps K H (rgD a b) (rgV a b) := by
  unfold rgD rgV
  generalize List.range (b - a).toNat = l
  induction l with
  | nil => exact Rps.nil
  | cons n l ih => exact Rps.cons Rp.intI ih
abbrev DRg := DX → DS → Cl → (Int → Int → Cl → Prop) → Prop
def dRg1 (ta : DE) : DRg := fun xc δ L Q => ta xc δ L fun x L1 => ∃ n, x = .int n ∧ Q 0 n L1
def dRg2 (ta tb : DE) : DRg := fun xc δ L Q => ta xc δ L fun x L1 => tb xc δ L1 fun y L2 => ∃ i j, x = .int i ∧ y = .int j ∧ Q i j L2
def liftR (K : PySem.W.Frag) (W : WX) (t : DRg) : L2.St → Hp → (Int → Int → Hp → Prop) → Prop := fun σ H Q => ∃ δ L P xc, Rel K δ L σ H ∧ t xc δ L P ∧ (∀ i j L' H', P i j L' → Rel K δ L' σ H' → TupExt H H' → Q i j H') ∧ XOk K W xc σ H δ
structure GRg (X : Cx) (W : WX) (e : Expr) (t : DRg) : Prop where run : PRg X e (liftR X.K W t)
theorem PRg.imp {t t' : L2.St → Hp → (Int → Int → Hp → Prop) → Prop} (h : PRg X e t) (i : ∀ σ H Q, t' σ H Q → t σ H Q) : PRg X e t' := fun pins s σ H Q I q => h pins s σ H Q I (i σ H Q q)
theorem gr_1 {a : Expr} {ta : DE} (hg : Gl X "range") (hm : X.mg "range" = none) (ha : GE X W a ta) (na : starEach [a] X.env = (false, eval a X.env) :: starEach [] X.env := by rfl) : GRg X W (.Call (.Name "range" p) [a] [] pos) (dRg1 ta) := by
  refine ⟨PRg.imp (prg_1 hg hm ha.run na) fun σ H Q ⟨δ, L, P, xc, rel, h, k, xx⟩ => ?_⟩
  refine ⟨δ, L, _, xc, rel, h, fun d L1 v H1 h1 r1 rel1 e1 => ?_, xx⟩
  obtain ⟨n, e, q⟩ := h1
  subst e
  exact ⟨n, r1.intE, k _ _ L1 H1 q rel1 e1⟩
theorem gr_2 {a b : Expr} {ta tb : DE} (hg : Gl X "range") (hm : X.mg "range" = none) (ha : GE X W a ta) (hb : GE X W b tb) (na : starEach [a, b] X.env = (false, eval a X.env) :: starEach [b] X.env := by rfl) (nb : starEach [b] X.env = (false, eval b X.env) :: starEach [] X.env := by rfl) (hp : (backTo pos (starEach [b] X.env)).any (·.1) = false := by rfl) :
    GRg X W (.Call (.Name "range" p) [a, b] [] pos) (dRg2 ta tb) := by
  refine ⟨PRg.imp (prg_2 hg hm ha.run hb.run na nb hp) fun σ H Q ⟨δ, L, P, xc, rel, h, k, xx⟩ => ?_⟩
  refine ⟨δ, L, _, xc, rel, h, fun d L1 v H1 h1 r1 rel1 e1 => ?_, xx⟩
  refine ⟨δ, L1, _, xc, rel1, h1, fun d2 L2 v2 H2 h2 r2 rel2 e2 => ?_, xx.mono e1⟩
  obtain ⟨i, j, z1, z2, q⟩ := h2
  subst z1 z2
  exact ⟨i, j, (r1.mono e2).intE, r2.intE, k _ _ L2 H2 q rel2 (e1.trans e2)⟩
def dLstRg (t : DRg) : DE := fun xc δ L Q => t xc δ L fun a b L1 => RgOk a b ∧ ∀ p, Q (.ref p) ((p, .lst (rgD a b)) :: L1)
def dTupRg (t : DRg) : DE := fun xc δ L Q => t xc δ L fun a b L1 => RgOk a b ∧ Q (.tup (rgD a b)) L1
theorem ge_listRg {t : DRg} (hc : X.calm = true) (hg : Gl X "list") (hm : X.mg "list" = none) (he : GRg X W e t) (na : starEach [e] X.env = (false, eval e X.env) :: starEach [] X.env := by rfl) : GE X W (.Call (.Name "list" p) [e] [] pos) (dLstRg t) := by
  refine ⟨PE.imp (pe_listRg hc hg hm he.run na) fun σ H Q ⟨δ, L, P, xc, rel, h, k, xx⟩ => ?_⟩
  refine ⟨δ, L, _, xc, rel, h, fun a b L1 H1 h1 rel1 e1 => ?_, xx⟩
  obtain ⟨ok, q⟩ := h1
  refine ⟨ok, fun p hp => ?_⟩
  obtain ⟨r1, e2⟩ := newX rel1 hp (g := .lst (rgD a b)) (o := .lst (rgV a b)) ⟨_, rfl, rg_rel⟩
  exact k _ _ _ _ (q p) Rp.refI r1 (e1.trans e2)
theorem ge_tupRg {t : DRg} (hc : X.calm = true) (hg : Gl X "tuple") (hm : X.mg "tuple" = none) (he : GRg X W e t) (na : starEach [e] X.env = (false, eval e X.env) :: starEach [] X.env := by rfl) : GE X W (.Call (.Name "tuple" p) [e] [] pos) (dTupRg t) := by
  refine ⟨PE.imp (pe_tupRg hc hg hm he.run na) fun σ H Q ⟨δ, L, P, xc, rel, h, k, xx⟩ => ?_⟩
  refine ⟨δ, L, _, xc, rel, h, fun a b L1 H1 h1 rel1 e1 => ?_, xx⟩
  obtain ⟨ok, q⟩ := h1
  refine ⟨ok, fun p hp => ?_⟩
  obtain ⟨r1, e2, t1⟩ := tupX rel1 hp (rg_rel (a := a) (b := b))
  exact k _ _ _ _ q t1 r1 (e1.trans e2)
/-! ### methods of lists -/
abbrev DMr := D → List D → Cl → DV → Prop
def LMt (K : PySem.W.Frag) (r : V → List V → Hp → VK → Prop) (r' : DMr) : Prop := ∀ δ L σ H x ds P X' xs Q, Rel K δ L σ H → Rp K H x X' → Rps K H ds xs → r' x ds L P → (∀ z L' v H', P z L' → Rp K H' z v → Rel K δ L' σ H' → TupExt H H' → Q v H') → r X' xs H Q
def GMt (X : Cx) (id : String) (r' : DMr) : Prop := ∃ r, MtR X id r ∧ LMt X.K r r'
/-- the receiver's type -/
inductive TyD (K : PySem.W.Frag) (L : Cl) : String → D → Prop
  | lst {a : Addr} {ds : List D} : LAt K L a ds → TyD K L "list" (.ref a)
  | str {x : Str} : TyD K L "str" (.str x)
  | dct {a : Addr} {kvs : List (Key × D)} : At L a (.dct kvs) → TyD K L "dict" (.ref a)
theorem TyD.tyV {K : PySem.W.Frag} {L : Cl} {T : String} {d : D} {v : V} {H : Hp} (h : TyD K L T d) (c : Cells K H L) (r : Rp K H d v) : L2.tyV K T v H := by
  cases h with
  | lst la =>
    obtain ⟨vs, sq, _⟩ := la.sq c
    rw [r.refE]
    exact .inl ⟨rfl, vs, sq⟩
  | str => rw [r.strE]; exact rfl
  | dct h =>
    obtain ⟨ws, hw, _⟩ := c.dct h
    rw [r.refE]
    exact .inr (.inr (.inl ⟨rfl, .inl ⟨ws, hw⟩⟩))
def dBM (K : PySem.W.Frag) (T : String) (r : DMr) (to : DE) (t : DA) : DE := fun xc δ L Q => to xc δ L fun x L1 => TyD K L1 T x ∧ t xc δ L1 fun ds L2 => r x ds L2 Q
theorem ge_bm0 {T id : String} {r' : DMr} (pa : PlainAttrs T) (slot : Slot T m id) (hty : typeOf (.builtin id) = pure (.type "method_descriptor")) (hm : GMt X id r') (ho : GE X W o to)
    (hbase : attributeBase o m X.env (eval o X.env) = eval o X.env := by rfl) (hline : (apos.endLine == cpos.line) = true := by rfl) : GE X W (.Call (.Attribute o m apos) [] [] cpos) (dBM X.K T r' to dNil) := by
  obtain ⟨r, mr, l⟩ := hm
  refine ⟨PE.imp (pe_bm0 pa slot hty mr ho.run hbase hline) fun σ H Q ⟨δ, L, P, xc, rel, h, k, xx⟩ => ?_⟩
  refine ⟨δ, L, _, xc, rel, h, fun d L1 v H1 h1 r1 rel1 e1 => ?_, xx⟩
  obtain ⟨ty, q⟩ := h1
  exact ⟨ty.tyV rel1.ce r1, l δ L1 σ H1 d [] P v [] Q rel1 r1 Rps.nil q fun z L' v H' q rr rl ee => k z L' v H' q rr rl (e1.trans ee)⟩
abbrev FewA (X : Cx) (cpos : Pos) (es : List Expr) : Prop := ((backTo cpos (starEach es X.env)).all (fun x => !x.1) && (backToKw cpos (keywordEach [] X.env)).all (fun x => x.1.isSome) && decide (es.length + ([] : List Keyword).length + (if ([] : List Keyword).isEmpty then 0 else 1) < 30)) = true
theorem ge_bm {T id : String} {r' : DMr} (pa : PlainAttrs T) (slot : Slot T m id) (hty : typeOf (.builtin id) = pure (.type "method_descriptor")) (hm : GMt X id r') (ho : GE X W o to) (ha : GA X W (e :: es) t)
    (hbase : attributeBase o m X.env (eval o X.env) = eval o X.env := by rfl) (hfew : FewA X cpos (e :: es) := by rfl)
    (hline : (apos.endLine == cpos.line) = true := by rfl) (hs : starEach (e :: es) X.env = (false, eval e X.env) :: starEach es X.env := by rfl) (hplain : (backTo cpos (starEach es X.env)).any (·.1) = false := by rfl) :
    GE X W (.Call (.Attribute o m apos) (e :: es) [] cpos) (dBM X.K T r' to t) := by
  obtain ⟨r, mr, l⟩ := hm
  refine ⟨PE.imp (pe_bm pa slot hty mr ho.run ha.run hbase hfew hline hs hplain) fun σ H Q ⟨δ, L, P, xc, rel, h, k, xx⟩ => ?_⟩
  refine ⟨δ, L, _, xc, rel, h, fun d L1 v H1 h1 r1 rel1 e1 => ?_, xx⟩
  obtain ⟨ty, q⟩ := h1
  refine ⟨ty.tyV rel1.ce r1, δ, L1, _, xc, rel1, q, fun ds L2 vs H2 h2 r2 rel2 e2 => ?_, xx.mono e1⟩
  exact l δ L2 σ H2 d ds P v vs Q rel2 (r1.mono e2) r2 h2 fun z L' v H' q rr rl ee => k z L' v H' q rr rl ((e1.trans e2).trans ee)
def dAppend : DMr := fun x ds L Q => ∃ a xs y L', x = .ref a ∧ ds = [y] ∧ xs.length < sizeLine ∧ Up L a (.lst xs) (.lst (xs ++ [y])) L' ∧ Q .non L'
theorem gm_append : GMt X "list.append" dAppend := ⟨_, mt_append, by
  intro δ L σ H x ds P X' xs Q rel rx rs ⟨a, ys, y, L', e1, e2, hz, u, q⟩ k
  subst e1 e2
  obtain ⟨vs, hv, rr⟩ := rel.ce.lst u.at
  obtain ⟨v, r, rfl, h1, h2⟩ := rs.consE
  rw [h2.nilE]
  obtain ⟨r1, e1⟩ := lputX rel u (rr.append (Rps.cons h1 Rps.nil))
  exact ⟨a, vs, v, rx.refE, rfl, hv, by rw [rr.length]; exact hz, k _ _ _ _ q Rp.nonI r1 e1⟩⟩
def dExtend : DMr := fun x ds L Q => ∃ a b xs zs L', x = .ref a ∧ ds = [.ref b] ∧ At L b (.lst zs) ∧ xs.length + zs.length ≤ sizeLine ∧ Up L a (.lst xs) (.lst (xs ++ zs)) L' ∧ Q .non L'
theorem gm_extend : GMt X "list.extend" dExtend := ⟨_, mt_extend, by
  intro δ L σ H x ds P X' xs Q rel rx rs ⟨a, b, ys, zs, L', e1, e2, hb, hz, u, q⟩ k
  subst e1 e2
  obtain ⟨vs, hv, rr⟩ := rel.ce.lst u.at
  obtain ⟨us, hu, ru⟩ := rel.ce.lst hb
  obtain ⟨v, r, rfl, h1, h2⟩ := rs.consE
  rw [h2.nilE, h1.refE]
  obtain ⟨r1, e1⟩ := lputX rel u (rr.append ru)
  exact ⟨a, b, vs, us, rx.refE, rfl, hv, hu, by rw [rr.length, ru.length]; exact hz, k _ _ _ _ q Rp.nonI r1 e1⟩⟩
theorem Rps.last {K : PySem.W.Frag} {H : Hp} {ds : List D} {vs : List V} {d : D} (r : Rps K H ds vs) (h : ds[ds.length - 1]? = some d) : ∃ v, vs[vs.length - 1]? = some v ∧ Rp K H d v := by
  rw [r.length]; exact r.get h
def dPop : DMr := fun x ds L Q => ∃ a xs y L', x = .ref a ∧ ds = [] ∧ xs[xs.length - 1]? = some y ∧ Up L a (.lst xs) (.lst xs.dropLast) L' ∧ Q y L'
theorem gm_pop : GMt X "list.pop" dPop := ⟨_, mt_pop, by
  intro δ L σ H x ds P X' xs Q rel rx rs ⟨a, ys, y, L', e1, e2, hy, u, q⟩ k
  subst e1 e2
  obtain ⟨vs, hv, rr⟩ := rel.ce.lst u.at
  obtain ⟨v, h1, h2⟩ := rr.last hy
  obtain ⟨r1, e1⟩ := lputX rel u rr.dropLast
  exact ⟨a, vs, v, rx.refE, rs.nilE, hv, h1, k _ _ _ _ q (h2.mono e1) r1 e1⟩⟩
def dPopAt : DMr := fun x ds L Q => ∃ a xs i n y L', x = .ref a ∧ ds = [.int i] ∧ -(2 ^ 63) ≤ i ∧ i < 2 ^ 63 ∧ seqIndex? i xs.length = some n ∧ xs[n]? = some y ∧ Up L a (.lst xs) (.lst (xs.eraseIdx n)) L' ∧ Q y L'
theorem gm_popAt : GMt X "list.pop" dPopAt := ⟨_, mt_popAt, by
  intro δ L σ H x ds P X' xs Q rel rx rs ⟨a, ys, i, n, y, L', e1, e2, b1, b2, hi, hy, u, q⟩ k
  subst e1 e2
  obtain ⟨vs, hv, rr⟩ := rel.ce.lst u.at
  obtain ⟨v, h1, h2⟩ := rr.get hy
  obtain ⟨r1, e1⟩ := lputX rel u (rr.eraseIdx n)
  exact ⟨a, vs, i, n, v, rx.refE, rs.one, hv, b1, b2, by rw [rr.length]; exact hi, h1, k _ _ _ _ q (h2.mono e1) r1 e1⟩⟩
def dReverse : DMr := fun x ds L Q => ∃ a xs L', x = .ref a ∧ ds = [] ∧ Up L a (.lst xs) (.lst xs.reverse) L' ∧ Q .non L'
theorem gm_reverse : GMt X "list.reverse" dReverse := ⟨_, mt_reverse, by
  intro δ L σ H x ds P X' xs Q rel rx rs ⟨a, ys, L', e1, e2, u, q⟩ k
  subst e1 e2
  obtain ⟨vs, hv, rr⟩ := rel.ce.lst u.at
  obtain ⟨r1, e1⟩ := lputX rel u rr.reverse
  exact ⟨a, vs, rx.refE, rs.nilE, hv, k _ _ _ _ q Rp.nonI r1 e1⟩⟩
/-! ### slices -/
abbrev DO := DX → DS → Cl → (Option Int → Cl → Prop) → Prop
def dNoPart : DO := fun _ _ L Q => Q none L
def dPart (t : DE) : DO := fun xc δ L Q => t xc δ L fun x L1 => ∃ i, x = .int i ∧ Q (some i) L1
def liftO (K : PySem.W.Frag) (W : WX) (t : DO) : TO := fun σ H Q => ∃ δ L P xc, Rel K δ L σ H ∧ t xc δ L P ∧ (∀ i L' H', P i L' → Rel K δ L' σ H' → TupExt H H' → Q i H') ∧ XOk K W xc σ H δ
structure GO' (X : Cx) (W : WX) (e : Option Expr) (t : DO) : Prop where run : PO X e (liftO X.K W t)
theorem PO.imp {eo : Option Expr} {t t' : TO} (h : PO X eo t) (i : ∀ σ H Q, t' σ H Q → t σ H Q) : PO X eo t' := by
  obtain ⟨h⟩ := h
  exact ⟨fun pins s σ H Q I q => h pins s σ H Q I (i σ H Q q)⟩
theorem go_none : GO' X W none dNoPart := ⟨PO.imp po_none fun σ H Q ⟨δ, L, P, xc, rel, t, k, x⟩ => k none L H t rel (.refl H)⟩
theorem go_some (h : GE X W e te) : GO' X W (some e) (dPart te) := by
  refine ⟨PO.imp (po_some h.run) fun σ H Q ⟨δ, L, P, xc, rel, t, k, x⟩ => ?_⟩
  refine ⟨δ, L, _, xc, rel, t, fun d L1 v H1 h1 r1 rel1 e1 => ?_, x⟩
  obtain ⟨i, e, q⟩ := h1
  subst e
  exact ⟨i, r1.intE, k _ _ _ q rel1 e1⟩
def cutD (xs : List D) (lo hi : Option Int) : List D := (xs.drop (HT.sIx xs.length 0 lo)).take (HT.sIx xs.length xs.length hi - HT.sIx xs.length 0 lo)
/-- a list, a tuple (a new one, or itself where all of it is cut) -/
def dSl (K : PySem.W.Frag) (te : DE) (tl th : DO) : DE := fun xc δ L Q => te xc δ L fun x L1 => tl xc δ L1 fun lo L2 => th xc δ L2 fun hi L3 => ∃ ds, SAt K L3 x ds ∧
  (∀ a, x = .ref a → ∀ p, Q (.ref p) ((p, .lst (cutD ds lo hi)) :: L3)) ∧ ((∀ a, x ≠ .ref a) → ¬ (HT.sIx ds.length 0 lo = 0 ∧ HT.sIx ds.length ds.length hi = ds.length) ∧ Q (.tup (cutD ds lo hi)) L3)
theorem ge_slice {lo hi : Option Expr} {p2 : Pos} {tl th : DO} (he : GE X W e te) (hl : GO' X W lo tl) (hh : GO' X W hi th) : GE X W (.Subscript e (.Slice lo hi none p2) pos) (dSl X.K te tl th) := by
  refine ⟨PE.imp (pe_slice (sl_list.or sl_tup) he.run hl.run hh.run) fun σ H Q ⟨δ, L, P, xc, rel, t, k, x⟩ => ?_⟩
  refine ⟨δ, L, _, xc, rel, t, fun d L1 v H1 h1 r1 rel1 e1 => ?_, x⟩
  refine ⟨δ, L1, _, xc, rel1, h1, fun lo' L2 H2 h2 rel2 e2 => ?_, x.mono e1⟩
  refine ⟨δ, L2, _, xc, rel2, h2, fun hi' L3 H3 h3 rel3 e3 => ?_, (x.mono e1).mono e2⟩
  have r3 := (r1.mono e2).mono e3
  obtain ⟨ds, sa, q1, q2⟩ := h3
  cases sa with
  | lst la =>
    obtain ⟨vs, sq, rs⟩ := la.sq rel3.ce
    refine .inl ⟨_, vs, r3.refE, sq, fun p hp => ?_⟩
    obtain ⟨r4, e4⟩ := newX rel3 hp (g := .lst (cutD ds lo' hi')) (o := .lst (cutV vs lo' hi')) ⟨_, rfl, rs.cut lo' hi'⟩
    exact k _ _ _ _ (q1 _ rfl p) Rp.refI r4 (((e1.trans e2).trans e3).trans e4)
  | tup =>
    obtain ⟨p, vs, e, tt, rs⟩ := r3.tupE
    obtain ⟨hn, q⟩ := q2 (fun a z => by cases z)
    refine .inr ⟨p, vs, e, tt.sq, by rw [rs.length]; exact hn, fun p hp => ?_⟩
    obtain ⟨r4, e4, t4⟩ := tupX rel3 hp (rs.cut lo' hi')
    exact k _ _ _ _ q t4 r4 (((e1.trans e2).trans e3).trans e4)
/-! ### displays of dicts -/
def dPairs : List (DE × DE) → DX → DS → Cl → (List (D × D) → Cl → Prop) → Prop
  | [], _, _, L, Q => Q [] L
  | (tk, tv) :: r, xc, δ, L, Q => tk xc δ L fun x L1 => tv xc δ L1 fun y L2 => dPairs r xc δ L2 fun ps L3 => Q ((x, y) :: ps) L3
def liftPr (K : PySem.W.Frag) (W : WX) (trs : List (DE × DE)) : List (TE × TE) := trs.map fun p => (liftE K W p.1, liftE K W p.2)
structure GPs (X : Cx) (W : WX) (pos : Pos) (keys : List (Option Expr)) (values : List Expr) (trs : List (DE × DE)) : Prop where run : PPs X pos keys values (liftPr X.K W trs)
theorem gps_nil : GPs X W pos [] [] [] := ⟨pps_nil⟩
theorem gps_cons {k v : Expr} {ks : List (Option Expr)} {vs : List Expr} {tk tv : DE} {trs : List (DE × DE)} (hk : GE X W k tk) (hv : GE X W v tv) (hr : GPs X W pos ks vs trs) : GPs X W pos (some k :: ks) (v :: vs) ((tk, tv) :: trs) := ⟨pps_cons hk.run hv.run hr.run⟩
inductive PRel (K : PySem.W.Frag) (H : Hp) : List (D × D) → List (V × V) → Prop
  | nil : PRel K H [] []
  | cons {p : D × D} {q : V × V} {r : List (D × D)} {s : List (V × V)} : Rp K H p.1 q.1 → Rp K H p.2 q.2 → PRel K H r s → PRel K H (p :: r) (q :: s)
theorem PRel.mono {K : PySem.W.Frag} {H H' : Hp} {r : List (D × D)} {s : List (V × V)} (e : TupExt H H') (h : PRel K H r s) : PRel K H' r s := by
  induction h with
  | nil => exact .nil
  | cons a b _ ih => exact .cons (a.mono e) (b.mono e) ih
theorem lift_pairs {K : PySem.W.Frag} {δ : DS} {xc : DX} {σ : L2.St} : ∀ {trs : List (DE × DE)} {L : Cl} {H : Hp} {P : List (D × D) → Cl → Prop} {Q : List (V × V) → Hp → Prop}, Rel K δ L σ H → dPairs trs xc δ L P →
    (∀ ps L' qs H', P ps L' → PRel K H' ps qs → Rel K δ L' σ H' → TupExt H H' → Q qs H') → XOk K W xc σ H δ → tPairs (liftPr K W trs) σ H Q
  | [], L, H, P, Q, rel, h, k, x => k [] L [] H h .nil rel (.refl H)
  | (tk, tv) :: r, L, H, P, Q, rel, h, k, x => by
    refine ⟨δ, L, _, xc, rel, h, fun d L1 v H1 h1 r1 rel1 e1 => ?_, x⟩
    refine ⟨δ, L1, _, xc, rel1, h1, fun d2 L2 v2 H2 h2 r2 rel2 e2 => ?_, x.mono e1⟩
    refine lift_pairs rel2 h2 (fun ps L3 qs H3 h3 r3 rel3 e3 => ?_) ((x.mono e1).mono e2)
    exact k _ L3 _ H3 h3 (.cons (r1.mono (e2.trans e3)) (r2.mono e3) r3) rel3 ((e1.trans e2).trans e3)
/-- pairs whose keys are texts and ints -/
inductive KPairs : List (D × D) → List (Key × D) → Prop
  | nil : KPairs [] []
  | str {s : Str} {d : D} {ps : List (D × D)} {kvs : List (Key × D)} : KPairs ps kvs → KPairs ((.str s, d) :: ps) ((.inr s, d) :: kvs)
  | int {i : Int} {d : D} {ps : List (D × D)} {kvs : List (Key × D)} : KPairs ps kvs → KPairs ((.int i, d) :: ps) ((.inl i, d) :: kvs)
theorem KPairs.rel {K : PySem.W.Frag} {H : Hp} {ps : List (D × D)} {kvs : List (Key × D)} (h : KPairs ps kvs) : ∀ {qs : List (V × V)}, PRel K H ps qs → ∃ ws, qs = ws.map (fun kv => (kV kv.1, kv.2)) ∧ KRel K H kvs ws := by
  induction h with
  | nil => intro qs r; cases r; exact ⟨[], rfl, rfl⟩
  | @str s d ps kvs _ ih =>
    intro qs r
    cases r with
    | @cons p q r t a b c =>
      obtain ⟨ws, e, rr⟩ := ih c
      obtain ⟨q1, q2⟩ := q
      have a : q1 = .str s := Rp.strE a
      subst a
      exact ⟨(.inr s, q2) :: ws, by rw [e]; rfl, q2, ws, rfl, b, rr⟩
  | @int s d ps kvs _ ih =>
    intro qs r
    cases r with
    | @cons p q r t a b c =>
      obtain ⟨ws, e, rr⟩ := ih c
      obtain ⟨q1, q2⟩ := q
      have a : q1 = .int s := Rp.intE a
      subst a
      exact ⟨(.inl s, q2) :: ws, by rw [e]; rfl, q2, ws, rfl, b, rr⟩
theorem KRel.keys {K : PySem.W.Frag} {H : Hp} : ∀ {a : List (Key × D)} {b : List (Key × V)}, KRel K H a b → b.map (·.1) = a.map (·.1)
  | [], _, h => by rw [show _ = [] from h]; rfl
  | (k', d) :: r, _, ⟨v, s, h1, h2, h3⟩ => by subst h1; simp [KRel.keys h3]
theorem merge_nd : ∀ {more kvs : List (Key × V)}, (kvs.map (·.1) ++ more.map (·.1)).Nodup → mergeK kvs more = kvs ++ more
  | [], kvs, _ => by simp [mergeK]
  | p :: more, kvs, n => by
    have e : putK kvs p.1 p.2 = kvs ++ [p] := by
      refine putK_new p.2 ?_
      cases q : valV kvs p.1 with
      | none => rfl
      | some v =>
        have m := valV_in q
        rw [List.nodup_append] at n
        exact absurd rfl (n.2.2 _ m _ List.mem_cons_self)
    have n2 : ((kvs ++ [p]).map (·.1) ++ more.map (·.1)).Nodup := by simpa using n
    have h := merge_nd (more := more) (kvs := kvs ++ [p]) n2
    show mergeK (putK kvs p.1 p.2) more = _
    rw [e, h, List.append_assoc]; rfl
def dDisp (trs : List (DE × DE)) : DE := fun xc δ L Q => ∀ p, dPairs trs xc δ ((p, .dct []) :: L) fun ps L2 => ∃ kvs L3, KPairs ps kvs ∧ kvs.length ≤ 15 ∧ (kvs.map (·.1)).Nodup ∧ Up L2 p (.dct []) (.dct kvs) L3 ∧ Q (.ref p) L3
theorem ge_disp {keys : List (Option Expr)} {values : List Expr} {trs : List (DE × DE)} (h : GPs X W pos keys values trs) (hall : keys.all (·.isSome) = true := by rfl) (hl : keys.length = values.length := by rfl) (h0 : keys ≠ [] := by exact fun z => nomatch z)
    (h15 : keys.length ≤ 15 := by decide) : GE X W (.Dict keys values pos) (dDisp trs) := by
  refine ⟨PE.imp (pe_disp h.run hall hl h0 h15) fun σ H Q ⟨δ, L, P, xc, rel, t, k, x⟩ => ?_⟩
  intro p hp
  obtain ⟨r1, e1⟩ := newX rel hp (g := .dct []) (o := .dK []) ⟨[], rfl, rfl, List.nodup_nil⟩
  refine lift_pairs r1 (t p) (fun ps L2 qs H2 h2 pr rel2 e2 => ?_) (x.mono e1)
  obtain ⟨kvs, L3, kp, hz, nd, u, q⟩ := h2
  obtain ⟨ws, e, kr⟩ := kp.rel pr
  obtain ⟨us, hu, ru, _⟩ := rel2.ce.dct u.at
  have eu : us = [] := ru
  subst eu
  have hlen : ws.length = kvs.length := kr.length
  have em : mergeK [] ws = ws := merge_nd (by rw [kr.keys]; simpa using nd)
  refine ⟨hu, ws, e, by rw [hlen]; exact hz, ?_⟩
  rw [em]
  obtain ⟨c, ec⟩ := rel2.ce.put u (o' := .dK ws) ⟨ws, rfl, kr, nd⟩
  exact k _ _ _ _ q Rp.refI (rel2.to ec c) ((e1.trans e2).trans ec)
def dNewD : DE := fun _ _ L Q => ∀ p, Q (.ref p) ((p, .dct []) :: L)
theorem ge_newD : GE X W (.Dict [] [] pos) dNewD := ⟨PE.imp pe_dnewK fun σ H Q ⟨δ, L, P, xc, rel, t, k, x⟩ => fun p hp => by
  obtain ⟨r1, e1⟩ := newX rel hp (g := .dct []) (o := .dK []) ⟨[], rfl, rfl, List.nodup_nil⟩
  exact k _ _ _ _ (t p) Rp.refI r1 e1⟩
/-! ### truth -/
inductive TruD (K : PySem.W.Frag) (L : Cl) : D → Bool → Prop
  | non : TruD K L .non false
  | bl (b : Bool) : TruD K L (.bl b) b
  | int (i : Int) : TruD K L (.int i) (i != 0)
  | str {x : Str} : x.length ≤ sizeLine → TruD K L (.str x) ((x.length : Int) != 0)
  | seq {d : D} {ds : List D} : SAt K L d ds → TruD K L d (!ds.isEmpty)
  | dct {a : Addr} {kvs : List (Key × D)} : At L a (.dct kvs) → TruD K L (.ref a) (!kvs.isEmpty)
def dTru (K : PySem.W.Frag) (te : DE) : DT := fun xc δ L Q => te xc δ L fun x L1 => ∃ k, TruD K L1 x k ∧ Q k L1
theorem emp_len {α β : Type} {a : List α} {b : List β} (h : a.length = b.length) : (!a.isEmpty) = !b.isEmpty := by
  cases a <;> cases b <;> first | rfl | (simp at h)
theorem gt_truth (ha : GE X W e te) (he : ∀ whole, isTrue e X.env whole = (do let v ← whole; standAt e.pos; holding [v] (truthy v)) := by intro _; rfl) : GT X W e (dTru X.K te) := by
  refine ⟨PT.imp (pt_truth ha.run he) fun σ H Q ⟨δ, L, P, xc, rel, t, k, x⟩ => ?_⟩
  refine ⟨δ, L, _, xc, rel, t, fun d L1 v H1 h1 r1 rel1 e1 => ?_, x⟩
  obtain ⟨b, tr, q⟩ := h1
  refine ⟨b, ?_, k b L1 H1 q rel1 e1⟩
  cases tr with
  | non => rw [r1.nonE]; exact rfl
  | bl => rw [r1.blE]; exact rfl
  | int => rw [r1.intE]; exact rfl
  | str hz => rw [r1.strE]; exact ⟨hz, rfl⟩
  | seq sa =>
    cases sa with
    | lst la =>
      obtain ⟨vs, sq, rs⟩ := la.sq rel1.ce
      rw [r1.refE]
      exact .inl ⟨vs, sq, emp_len rs.length.symm⟩
    | tup =>
      obtain ⟨p, vs, rfl, tt, rs⟩ := r1.tupE
      exact .inr (.inl ⟨vs, tt.sq, emp_len rs.length.symm⟩)
  | dct h =>
    obtain ⟨ws, hw, rr, _⟩ := rel1.ce.dct h
    rw [r1.refE]
    exact .inr (.inr ⟨ws, hw, emp_len rr.length.symm⟩)
/-! ### stores in place, two at once -/
def GIp (X : Cx) (op : Operator) (r' : DR2) : Prop := ∃ r, PIp X op r ∧ LOp X.K r r'
theorem gip_add : GIp X .Add dAddI := ⟨_, ip_add, by
  intro δ L σ H d e P x y Q rel ra rb ⟨i, j, h1, h2, _, q⟩ k
  subst h1 h2
  exact ⟨i, j, ra.intE, rb.intE, k _ L _ H q Rp.intI rel (.refl H)⟩⟩
theorem gip_sub : GIp X .Sub dSubI := ⟨_, ip_sub, by
  intro δ L σ H d e P x y Q rel ra rb ⟨i, j, h1, h2, _, q⟩ k
  subst h1 h2
  exact ⟨i, j, ra.intE, rb.intE, k _ L _ H q Rp.intI rel (.refl H)⟩⟩
def dAug (i : Nat) (te : DE) (r : DR2) : DTS := fun D δ L => ∃ x, δ[i]? = some (some x) ∧ te D.xc δ L fun y L1 => r x y L1 fun z L2 => ∃ δ', SetAt δ i z δ' ∧ D.nx δ' L2
theorem gs_aug {i : Nat} {op : Operator} {r' : DR2} {pos' : Pos} (hN : X.N.Nodup) (hi : X.N[i]? = some x) (hx : Loc X.env.scope x) (he : GE X W e te) (ho : GIp X op r')
    (hf : X.fn x = true ∨ X.env.scope.names.lookup x = some .local := by first | exact .inl rfl | exact .inr rfl | assumption) : GS X W (.AugAssign (.Name x pos') op e pos) (dAug i te r') := by
  obtain ⟨r, pr, l⟩ := ho
  refine ⟨PS.imp (ps_aug hN hi hx he.run pr hf) fun D σ H ⟨δ, L, D', rel, h, nx, rt, bk, ct, xc⟩ => ?_⟩
  obtain ⟨d, hd, h⟩ := h
  obtain ⟨v, hv, rv⟩ := rel.sl.get hd
  refine ⟨v, hv, δ, L, _, _, rel, h, fun d1 L1 v1 H1 q1 r1 rel1 e1 => ?_, xok_of xc⟩
  refine l δ L1 σ H1 d d1 _ v v1 _ rel1 (rv.mono e1) r1 q1 fun z L2 w H2 q2 r2 rel2 e2 => ?_
  obtain ⟨δ', sa, q⟩ := q2
  exact nx δ' L2 _ H2 q (by rw [sa.eq]; exact rel2.set r2 i) (e1.trans e2)
def dPar (i j : Nat) (t : DA) : DTS := fun D δ L => t D.xc δ L fun ds L1 => ∃ v w δ1 δ2, ds = [v, w] ∧ SetAt δ i v δ1 ∧ SetAt δ1 j w δ2 ∧ D.nx δ2 L1
theorem gs_par {i j : Nat} {x y : Str} {a b : Expr} {px py pt : Pos} {kt k2 pt2} (hc : X.calm = true) (hN : X.N.Nodup) (hi : X.N[i]? = some x) (hj : X.N[j]? = some y) (hij : i ≠ j)
    (hx : X.env.scope.names.lookup x = some .local) (hy : X.env.scope.names.lookup y = some .local) (ha : GA X W [a, b] t)
    (hw : swappedStores [.Tuple [.Name x px, .Name y py] kt pt] (.Tuple [a, b] k2 pt2) X.env = pure (some [x, y]))
    (hs : swapsWithSole [.Tuple [.Name x px, .Name y py] kt pt] (.Tuple [a, b] k2 pt2) pos.line X.env = pure false := by rfl) :
    GS X W (.Assign [.Tuple [.Name x px, .Name y py] kt pt] (.Tuple [a, b] k2 pt2) pos) (dPar i j t) := by
  refine ⟨PS.imp (ps_par hc hN hi hj hij hx hy ha.run hw hs) fun D σ H ⟨δ, L, D', rel, h, nx, rt, bk, ct, xc⟩ => ?_⟩
  refine ⟨δ, L, _, _, rel, h, fun ds L1 vs H1 q1 r1 rel1 e1 => ?_, xok_of xc⟩
  obtain ⟨v, w, δ1, δ2, e, s1, s2, q⟩ := q1
  subst e
  obtain ⟨v', r', rfl, h1, h2⟩ := r1.consE
  obtain ⟨w', r'', rfl, h3, h4⟩ := h2.consE
  rw [h4.nilE]
  exact ⟨v', w', rfl, nx δ2 L1 _ H1 q (by rw [s2.eq, s1.eq]; exact (rel1.set h1 i).set h3 j) e1⟩
end
end DL
set_option Elab.async false
set_option linter.all false
set_option maxRecDepth 100000
set_option maxHeartbeats 2000000
/-! Steps through a reading; loops by an invariant. -/
namespace DL
open PySem L2
section
variable {δ δ' : DS} {L L' : Cl} {xc : DX} {Q : DV} {QB : Bool → Cl → Prop} {QA : List D → Cl → Prop} {nx : DS → Cl → Prop} {rt : DV} {bk ct : DS → Cl → Prop} {xe : DX} {K : PySem.W.Frag} {ta tb te to : DE} {tc tu : DT} {tr : DA} {t u : DTS} {g : DG} {x y : D}
theorem s_c {d : D} (k : Q d L) : dC d xc δ L Q := k
theorem s_var {i : Nat} {d : D} (h : δ[i]? = some (some d)) (k : Q d L) : dVar i xc δ L Q := ⟨d, h, k⟩
theorem s_op {r : DR2} (k : ta xc δ L fun x L1 => tb xc δ L1 fun y L2 => r x y L2 Q) : dOp r ta tb xc δ L Q := k
theorem s_un {r : DR1} (k : ta xc δ L fun x L1 => r x L1 Q) : dUn r ta xc δ L Q := k
theorem s_addI {i j : Int} (k : Q (.int (i + j)) L) : dAdd (.int i) (.int j) L Q := .inl ⟨i, j, rfl, rfl, trivial, k⟩
theorem s_addS {i j : Str} (h : i.length + j.length ≤ sizeLine) (k : Q (.str (i ++ j)) L) : dAdd (.str i) (.str j) L Q := .inr (.inl ⟨i, j, rfl, rfl, h, k⟩)
theorem s_cat {a b : Addr} {xs ys : List D} (h1 : At L a (.lst xs)) (h2 : At L b (.lst ys)) (h : xs.length + ys.length ≤ sizeLine) (k : ∀ p, Q (.ref p) ((p, .lst (xs ++ ys)) :: L)) : dAdd (.ref a) (.ref b) L Q := .inr (.inr (.inl ⟨a, b, xs, ys, rfl, rfl, h1, h2, h, k⟩))
theorem s_catT {xs ys : List D} (h1 : xs ≠ []) (h : xs.length + ys.length ≤ sizeLine) (k : Q (.tup (xs ++ ys)) L) : dAdd (.tup xs) (.tup ys) L Q := .inr (.inr (.inr ⟨xs, ys, rfl, rfl, h1, h, k⟩))
theorem s_sub {i j : Int} (k : Q (.int (i - j)) L) : dSubI (.int i) (.int j) L Q := ⟨i, j, rfl, rfl, trivial, k⟩
theorem mulW {i j : Int} (h1 : -1000000000000000000000000000000000000 ≤ i ∧ i ≤ 1000000000000000000000000000000000000) (h2 : -1000000000000000000000000000000000000 ≤ j ∧ j ≤ 1000000000000000000000000000000000000) : CMulW i j := by
  have e : ∀ z : Int, -1000000000000000000000000000000000000 ≤ z ∧ z ≤ 1000000000000000000000000000000000000 → z.natAbs < 2 ^ 120 := by
    intro z hz
    have : (2 : Nat) ^ 120 = 1329227995784915872903807060280344576 := by decide
    omega
  exact wide_mul (e i h1) (e j h2) (by decide) (by decide) (by decide)
theorem divW {j : Int} (i : Int) (h1 : 0 < j) (h2 : j ≤ 1000000000000000000000000000000000000) : CDivW i j := by
  have e : j.natAbs < 2 ^ 120 := by
    have : (2 : Nat) ^ 120 = 1329227995784915872903807060280344576 := by decide
    omega
  exact wide_div h1 e (by decide) (by decide)
theorem s_mulI {i j : Int} (h1 : -1000000000000000000000000000000000000 ≤ i ∧ i ≤ 1000000000000000000000000000000000000) (h2 : -1000000000000000000000000000000000000 ≤ j ∧ j ≤ 1000000000000000000000000000000000000) (k : Q (.int (i * j)) L) : dMul (.int i) (.int j) L Q := .inl ⟨i, j, rfl, rfl, mulW h1 h2, k⟩
theorem s_mulW {i j : Int} (h : CMulW i j) (k : Q (.int (i * j)) L) : dMul (.int i) (.int j) L Q := .inl ⟨i, j, rfl, rfl, h, k⟩
theorem s_rep {a : Addr} {n : Int} {xs : List D} (h1 : At L a (.lst xs)) (h2 : 0 ≤ n ∧ n ≤ 16777216) (h : xs.length * n.toNat ≤ sizeLine) (k : ∀ p, Q (.ref p) ((p, .lst (List.replicate n.toNat xs).flatten) :: L)) : dMul (.ref a) (.int n) L Q :=
  .inr (.inl ⟨a, n, xs, rfl, rfl, h1, by omega, by omega, h, k⟩)
theorem flat_rep {d : D} : ∀ n : Nat, (List.replicate n [d]).flatten = List.replicate n d
  | 0 => rfl
  | n + 1 => by rw [List.replicate_succ, List.flatten_cons, flat_rep n]; rfl
/-- [d] * n -/
theorem s_rep1 {a : Addr} {n : Int} {d : D} (h1 : At L a (.lst [d])) (h2 : 0 ≤ n ∧ n ≤ 16777216) (k : ∀ p, Q (.ref p) ((p, .lst (List.replicate n.toNat d)) :: L)) : dMul (.ref a) (.int n) L Q :=
  s_rep h1 h2 (by rw [sizeLine_eq]; simp only [List.length_singleton]; omega) (by rw [flat_rep]; exact k)
theorem s_repT {n : Int} {xs : List D} (h1 : xs ≠ []) (h2 : 2 ≤ n) (h3 : n ≤ 1000) (h4 : xs.length ≤ 1000) (k : Q (.tup (List.replicate n.toNat xs).flatten) L) : dMul (.tup xs) (.int n) L Q := .inr (.inr ⟨n, xs, rfl, rfl, h1, h2, h3, h4, k⟩)
theorem s_div {i j : Int} (h1 : 0 < j) (h2 : j ≤ 1000000000000000000000000000000000000) (k : Q (.int (i / j)) L) : dDivI (.int i) (.int j) L Q := ⟨i, j, rfl, rfl, divW i h1 h2, k⟩
theorem s_mod {i j : Int} (h1 : 0 < j) (k : Q (.int (i % j)) L) : dModI (.int i) (.int j) L Q := ⟨i, j, rfl, rfl, h1, k⟩
theorem s_pow {i j : Int} (h : 0 ≤ j ∧ j ≤ 1000) (h2 : -1000000000 ≤ i ∧ i ≤ 1000000000) (k : Q (.int (i ^ j.toNat)) L) : dPowI (.int i) (.int j) L Q := ⟨i, j, rfl, rfl, ⟨h.1, by omega, by
  have : (2 : Nat) ^ 64 = 18446744073709551616 := by decide
  omega⟩, k⟩
theorem s_ltI {i j : Int} (k : Q (.bl (decide (i < j))) L) : dLt (.int i) (.int j) L Q := .inl ⟨i, j, rfl, rfl, trivial, k⟩
theorem s_ltS {i j : Str} (k : Q (.bl (decide (i.cps.toList < j.cps.toList))) L) : dLt (.str i) (.str j) L Q := .inr ⟨i, j, rfl, rfl, k⟩
theorem s_leI {i j : Int} (k : Q (.bl (decide (i ≤ j))) L) : dLeI (.int i) (.int j) L Q := ⟨i, j, rfl, rfl, trivial, k⟩
theorem s_gtI {i j : Int} (k : Q (.bl (decide (j < i))) L) : dGtI (.int i) (.int j) L Q := ⟨i, j, rfl, rfl, trivial, k⟩
theorem s_geI {i j : Int} (k : Q (.bl (decide (j ≤ i))) L) : dGeI (.int i) (.int j) L Q := ⟨i, j, rfl, rfl, trivial, k⟩
theorem decVi {i j : Int} : decide (V.int i = V.int j) = decide (i = j) := by by_cases h : i = j <;> simp [h]
theorem decVs {i j : Str} : decide (V.str i = V.str j) = decide (i = j) := by by_cases h : i = j <;> simp [h]
theorem decVb {i j : Bool} : decide (V.bl i = V.bl j) = decide (i = j) := by by_cases h : i = j <;> simp [h]
theorem s_eqI {i j : Int} (k : Q (.bl (decide (i = j))) L) : dEq K (.int i) (.int j) L Q := .inl ⟨rfl, by rw [← decVi] at k; exact k⟩
theorem s_neI {i j : Int} (k : Q (.bl (!decide (i = j))) L) : dNe K (.int i) (.int j) L Q := .inl ⟨rfl, by rw [← decVi] at k; exact k⟩
theorem s_eqS {i j : Str} (k : Q (.bl (decide (i = j))) L) : dEq K (.str i) (.str j) L Q := .inl ⟨rfl, by rw [← decVs] at k; exact k⟩
theorem s_neS {i j : Str} (k : Q (.bl (!decide (i = j))) L) : dNe K (.str i) (.str j) L Q := .inl ⟨rfl, by rw [← decVs] at k; exact k⟩
theorem s_eqB {i j : Bool} (k : Q (.bl (decide (i = j))) L) : dEq K (.bl i) (.bl j) L Q := .inl ⟨rfl, by rw [← decVb] at k; exact k⟩
theorem s_neB {i j : Bool} (k : Q (.bl (!decide (i = j))) L) : dNe K (.bl i) (.bl j) L Q := .inl ⟨rfl, by rw [← decVb] at k; exact k⟩
theorem s_eqD {a b : PyData} (h1 : Dat K L x a) (h2 : Dat K L y b) (h3 : SeqAt.shaped a = true) (h4 : SeqAt.shaped b = true) (k : Q (.bl (PyData.eqv a b)) L) : dEq K x y L Q := .inr ⟨a, b, h1, h2, h3, h4, k⟩
theorem s_neD {a b : PyData} (h1 : Dat K L x a) (h2 : Dat K L y b) (h3 : SeqAt.shaped a = true) (h4 : SeqAt.shaped b = true) (k : Q (.bl (!PyData.eqv a b)) L) : dNe K x y L Q := .inr ⟨a, b, h1, h2, h3, h4, k⟩
theorem s_inQ {ds : List D} (h1 : SAt K L y ds) (h2 : flatD x = true) (h3 : ds.all flatD = true) (k : Q (.bl (inV (toV x) (ds.map toV))) L) : dIn K x y L Q := .inl ⟨ds, h1, h2, h3, k⟩
theorem s_niQ {ds : List D} (h1 : SAt K L y ds) (h2 : flatD x = true) (h3 : ds.all flatD = true) (k : Q (.bl (!inV (toV x) (ds.map toV))) L) : dNi K x y L Q := .inl ⟨ds, h1, h2, h3, k⟩
theorem s_inKs {a : Addr} {s : Str} {kvs : List (Key × D)} (h : At L a (.dct kvs)) (k : Q (.bl (valD kvs (.inr s)).isSome) L) : dIn K (.str s) (.ref a) L Q := .inr ⟨a, .inr s, kvs, rfl, rfl, h, k⟩
theorem s_inKi {a : Addr} {s : Int} {kvs : List (Key × D)} (h : At L a (.dct kvs)) (k : Q (.bl (valD kvs (.inl s)).isSome) L) : dIn K (.int s) (.ref a) L Q := .inr ⟨a, .inl s, kvs, rfl, rfl, h, k⟩
theorem s_niKs {a : Addr} {s : Str} {kvs : List (Key × D)} (h : At L a (.dct kvs)) (k : Q (.bl (!(valD kvs (.inr s)).isSome)) L) : dNi K (.str s) (.ref a) L Q := .inr ⟨a, .inr s, kvs, rfl, rfl, h, k⟩
theorem s_niKi {a : Addr} {s : Int} {kvs : List (Key × D)} (h : At L a (.dct kvs)) (k : Q (.bl (!(valD kvs (.inl s)).isSome)) L) : dNi K (.int s) (.ref a) L Q := .inr ⟨a, .inl s, kvs, rfl, rfl, h, k⟩
theorem s_isN (k : Q (.bl (isNoneD x)) L) : dIsN x .non L Q := ⟨rfl, k⟩
theorem s_notN (k : Q (.bl (!isNoneD x)) L) : dNotN x .non L Q := ⟨rfl, k⟩
theorem s_ixL {a : Addr} {ds : List D} {i : Int} {d : D} (h : LAt K L a ds) (h2 : atI ds i = some d) (k : Q d L) : dIx K (.ref a) (.int i) L Q := .inl ⟨ds, i, d, .lst h, rfl, h2, k⟩
theorem s_ixT {ds : List D} {i : Int} {d : D} (h2 : atI ds i = some d) (k : Q d L) : dIx K (.tup ds) (.int i) L Q := .inl ⟨ds, i, d, .tup, rfl, h2, k⟩
theorem s_ixS {z : Str} {i : Int} {c : Nat} (h : z.length ≤ sizeLine) (h2 : atI z.cps.toList i = some c) (k : Q (.str ⟨#[c]⟩) L) : dIx K (.str z) (.int i) L Q := .inr (.inl ⟨z, i, c, rfl, rfl, h, h2, k⟩)
theorem s_ixKs {a : Addr} {s : Str} {kvs : List (Key × D)} {d : D} (h : At L a (.dct kvs)) (h2 : KGet kvs (.inr s) d) (k : Q d L) : dIx K (.ref a) (.str s) L Q := .inr (.inr ⟨a, .inr s, kvs, d, rfl, rfl, h, h2, k⟩)
theorem s_ixKi {a : Addr} {s : Int} {kvs : List (Key × D)} {d : D} (h : At L a (.dct kvs)) (h2 : KGet kvs (.inl s) d) (k : Q d L) : dIx K (.ref a) (.int s) L Q := .inr (.inr ⟨a, .inl s, kvs, d, rfl, rfl, h, h2, k⟩)
theorem s_chain {r r' : DR2} {tz : DE} (k : ta xc δ L fun x L1 => tb xc δ L1 fun y L2 => r x y L2 fun z L3 => ∃ k, z = .bl k ∧ (if k = true then tz xc δ L3 fun w L4 => r' y w L4 Q else Q (.bl false) L3)) : dChain r r' ta tb tz xc δ L Q := k
/-! ifs -/
theorem ite_t {A B : Prop} (k : A) : if true = true then A else B := by rw [if_pos rfl]; exact k
theorem ite_f {A B : Prop} (k : B) : if false = true then A else B := by rw [if_neg Bool.false_ne_true]; exact k
theorem ite_dt {p A B : Prop} [Decidable p] (h : p) (k : A) : if decide p = true then A else B := by rw [if_pos (decide_eq_true h)]; exact k
theorem ite_df {p A B : Prop} [Decidable p] (h : ¬ p) (k : B) : if decide p = true then A else B := by rw [if_neg (by simpa using h)]; exact k
theorem ite_nt {p A B : Prop} [Decidable p] (h : ¬ p) (k : A) : if (!decide p) = true then A else B := by rw [if_pos (by simpa using h)]; exact k
theorem ite_nf {p A B : Prop} [Decidable p] (h : p) (k : B) : if (!decide p) = true then A else B := by rw [if_neg (by simpa using h)]; exact k
theorem ite_d {p A B : Prop} [Decidable p] (k1 : p → A) (k2 : ¬ p → B) : if decide p = true then A else B := by
  by_cases h : p
  · exact ite_dt h (k1 h)
  · exact ite_df h (k2 h)
theorem ite_n {p A B : Prop} [Decidable p] (k1 : ¬ p → A) (k2 : p → B) : if (!decide p) = true then A else B := by
  by_cases h : p
  · exact ite_nf h (k2 h)
  · exact ite_nt h (k1 h)
theorem ite_b {c : Bool} {A B : Prop} (k1 : c = true → A) (k2 : c = false → B) : if c = true then A else B := by
  cases c with
  | true => exact ite_t (k1 rfl)
  | false => exact ite_f (k2 rfl)
theorem ite_e {c d : Bool} {A B : Prop} (e : c = d) (k : if d = true then A else B) : if c = true then A else B := by rw [e]; exact k
theorem s_test (k : te xc δ L fun x L' => ∃ k, x = .bl k ∧ QB k L') : dTest te xc δ L QB := k
theorem s_ex {b : Bool} {R : Bool → Prop} (k : R b) : ∃ k, D.bl b = .bl k ∧ R k := ⟨b, rfl, k⟩
theorem s_and (k : tc xc δ L fun c L1 => if c = true then tu xc δ L1 QB else QB false L1) : dAnd tc tu xc δ L QB := k
theorem s_or (k : tc xc δ L fun c L1 => if c = true then QB true L1 else tu xc δ L1 QB) : dOrT tc tu xc δ L QB := k
theorem s_not (k : tc xc δ L fun c L1 => QB (!c) L1) : dNot tc xc δ L QB := k
theorem s_andV (k : ta xc δ L fun x L1 => ∃ c, x = .bl c ∧ if c = true then tb xc δ L1 Q else Q (.bl false) L1) : dAndV ta tb xc δ L Q := k
theorem s_orV (k : ta xc δ L fun x L1 => ∃ c, x = .bl c ∧ if c = true then Q (.bl true) L1 else tb xc δ L1 Q) : dOrV ta tb xc δ L Q := k
theorem s_notB (k : ta xc δ L fun x L1 => ∃ c, x = .bl c ∧ Q (.bl (!c)) L1) : dNotB ta xc δ L Q := k
theorem s_if (k : tc xc δ L fun c L1 => if c = true then ta xc δ L1 Q else tb xc δ L1 Q) : dIf tc ta tb xc δ L Q := k
theorem s_tru (k : te xc δ L fun x L1 => ∃ k, TruD K L1 x k ∧ QB k L1) : dTru K te xc δ L QB := k
theorem s_nil (k : QA [] L) : dNil xc δ L QA := k
theorem s_cons (k : ta xc δ L fun x L1 => tr xc δ L1 fun xs L2 => QA (x :: xs) L2) : dCons ta tr xc δ L QA := k
theorem s_tup (k : tr xc δ L fun xs L1 => xs.length ≤ sizeLine ∧ Q (.tup xs) L1) : dTup tr xc δ L Q := k
theorem s_lst (k : tr xc δ L fun xs L1 => xs.length ≤ sizeLine ∧ ∀ p, Q (.ref p) ((p, .lst xs) :: L1)) : dLst tr xc δ L Q := k
theorem s_fld {f : Str} (k : ta xc δ L fun x L1 => ∃ a C ns ds d, x = .ref a ∧ At L1 a (.ins C ns ds) ∧ FldOk K C f ∧ NAt ns ds f d ∧ Q d L1) : dFld K ta f xc δ L Q := k
theorem s_fldE {f : Str} {a C : Addr} {ns : List Str} {ds : List D} {d : D} {R : D → Prop} (h1 : At L a (.ins C ns ds)) (h2 : FldOk K C f) (h3 : NAt ns ds f d) (k : R d) : ∃ a' C ns ds d, D.ref a = .ref a' ∧ At L a' (.ins C ns ds) ∧ FldOk K C f ∧ NAt ns ds f d ∧ R d := ⟨a, C, ns, ds, d, rfl, h1, h2, h3, k⟩
theorem s_seq (k : t (.mk (u (.mk nx rt bk ct xe)) rt bk ct xe) δ L) : dSeq t u (.mk nx rt bk ct xe) δ L := k
theorem s_cut0 (k : t (.mk (u (.mk nx rt bk ct xe)) rt bk ct xe) δ L) : dCut t u (.mk nx rt bk ct xe) δ L := .inl k
theorem s_cut (Mid : DS → Cl → Prop) (h : t (.mk (Wk Mid) rt bk ct xe) δ L) (k : ∀ δ' L', Mid δ' L' → u (.mk nx rt bk ct xe) δ' L') : dCut t u (.mk nx rt bk ct xe) δ L := .inr ⟨Mid, h, k⟩
theorem s_next (k : nx δ L) : dNext (.mk nx rt bk ct xe) δ L := k
theorem s_break (k : bk δ L) : dBreak (.mk nx rt bk ct xe) δ L := k
theorem s_cont (k : ct δ L) : dCont (.mk nx rt bk ct xe) δ L := k
theorem s_drop (k : te xe δ L fun _ L1 => nx δ L1) : dDrop te (.mk nx rt bk ct xe) δ L := k
theorem s_ret (k : te xe δ L fun d L1 => ∃ L2, Sub L1 L2 ∧ rt d L2) : dRet te (.mk nx rt bk ct xe) δ L := k
theorem s_retN (k : ∃ L2, Sub L L2 ∧ rt .non L2) : dRetN (.mk nx rt bk ct xe) δ L := k
theorem s_ifS (k : tc xe δ L fun b L1 => if b = true then t (.mk nx rt bk ct xe) δ L1 else u (.mk nx rt bk ct xe) δ L1) : dIfS tc t u (.mk nx rt bk ct xe) δ L := k
theorem s_asg (k : te xe δ L fun x L1 => g xe x δ L1 nx) : dAsg te g (.mk nx rt bk ct xe) δ L := k
theorem s_name {i : Nat} {d : D} {R : DS → Cl → Prop} (h : SetAt δ i d δ') (k : R δ' L) : dgName i xc d δ L R := ⟨δ', h, k⟩
theorem s_tupT {n : Nat} {ts : DGs} {ds : List D} {R : DS → Cl → Prop} (h : ds.length = n) (k : ts (fun _ _ _ => False) ds δ L R) : dgTup K n ts xc (.tup ds) δ L R := ⟨ds, .tup, h, k⟩
theorem s_tupL {n : Nat} {ts : DGs} {a : Addr} {ds : List D} {R : DS → Cl → Prop} (h0 : LAt K L a ds) (h : ds.length = n) (k : ts (fun _ _ _ => False) ds δ L R) : dgTup K n ts xc (.ref a) δ L R := ⟨ds, .lst h0, h, k⟩
theorem s_gnil {R : DS → Cl → Prop} (k : R δ L) : dgNil xc [] δ L R := ⟨rfl, k⟩
theorem s_gcons {d : D} {ds : List D} {us : DGs} {R : DS → Cl → Prop} (k : g xc d δ L fun δ' L' => us xc ds δ' L' R) : dgCons g us xc (d :: ds) δ L R := ⟨d, ds, rfl, k⟩
theorem s_gsub {ti : DE} {r : DSet} {v : D} {R : DS → Cl → Prop} (k : to xc δ L fun o L1 => ti xc δ L1 fun i L2 => r o i v L2 fun L3 => R δ L3) : dgSub to ti r xc v δ L R := k
theorem s_setL {a : Addr} {i : Int} {v : D} {xs : List D} {j : Nat} {R : Cl → Prop} (h : ixN xs.length i = some j) (u : Up L a (.lst xs) (.lst (xs.set j v)) L') (k : R L') : dSet (.ref a) (.int i) v L R := .inl ⟨a, xs, i, j, L', rfl, rfl, h, u, k⟩
theorem s_setKs {a : Addr} {s : Str} {v : D} {kvs : List (Key × D)} {R : Cl → Prop} (h : kvs.length < sizeLine) (u : Up L a (.dct kvs) (.dct (putD kvs (.inr s) v)) L') (k : R L') : dSet (.ref a) (.str s) v L R := .inr ⟨a, .inr s, kvs, L', rfl, rfl, h, u, k⟩
theorem s_setKi {a : Addr} {s : Int} {v : D} {kvs : List (Key × D)} {R : Cl → Prop} (h : kvs.length < sizeLine) (u : Up L a (.dct kvs) (.dct (putD kvs (.inl s) v)) L') (k : R L') : dSet (.ref a) (.int s) v L R := .inr ⟨a, .inl s, kvs, L', rfl, rfl, h, u, k⟩
theorem s_setF {tv : DE} {f : Str} (k : tv xe δ L fun y L1 => ta xe δ L1 fun x L2 => ∃ a C ns ds, x = .ref a ∧ FldOk K C f ∧ ns.length < 1000 ∧
  ((∃ ds' L3, NUp ns ds f y ds' ∧ Up L2 a (.ins C ns ds) (.ins C ns ds') L3 ∧ nx δ L3) ∨ (f ∉ ns ∧ ∃ L3, Up L2 a (.ins C ns ds) (.ins C (ns ++ [f]) (ds ++ [y])) L3 ∧ nx δ L3))) : dSetF K ta tv f (.mk nx rt bk ct xe) δ L := k
theorem s_setFold {f : Str} {a C : Addr} {ns : List Str} {ds ds' : List D} {R : Cl → Prop} (h1 : NUp ns ds f y ds') (h2 : Up L a (.ins C ns ds) (.ins C ns ds') L') (h3 : FldOk K C f) (h4 : ns.length < 1000) (k : R L') :
  ∃ a' C ns ds, D.ref a = .ref a' ∧ FldOk K C f ∧ ns.length < 1000 ∧ ((∃ ds' L3, NUp ns ds f y ds' ∧ Up L a' (.ins C ns ds) (.ins C ns ds') L3 ∧ R L3) ∨ (f ∉ ns ∧ ∃ L3, Up L a' (.ins C ns ds) (.ins C (ns ++ [f]) (ds ++ [y])) L3 ∧ R L3)) :=
  ⟨a, C, ns, ds, rfl, h3, h4, .inl ⟨ds', L', h1, h2, k⟩⟩
theorem s_setFnew {f : Str} {a C : Addr} {ns : List Str} {ds : List D} {R : Cl → Prop} (h2 : Up L a (.ins C ns ds) (.ins C (ns ++ [f]) (ds ++ [y])) L') (h1 : f ∉ ns) (h3 : FldOk K C f) (h4 : ns.length < 1000) (k : R L') :
  ∃ a' C ns ds, D.ref a = .ref a' ∧ FldOk K C f ∧ ns.length < 1000 ∧ ((∃ ds' L3, NUp ns ds f y ds' ∧ Up L a' (.ins C ns ds) (.ins C ns ds') L3 ∧ R L3) ∨ (f ∉ ns ∧ ∃ L3, Up L a' (.ins C ns ds) (.ins C (ns ++ [f]) (ds ++ [y])) L3 ∧ R L3)) :=
  ⟨a, C, ns, ds, rfl, h3, h4, .inr ⟨h1, L', h2, k⟩⟩
theorem s_call {sp : DSp} {dv : List D} (k : tr xc δ L fun ds L1 => sp (ds ++ dv) L1 Q fun c L' => xc c δ L') : dCall sp dv tr xc δ L Q := k
theorem s_meth {C : Addr} {m : Str} {sp : DSp} {dv : List D} (k : to xc δ L fun x L1 => ∃ a ns fs, x = .ref a ∧ At L1 a (.ins C ns fs) ∧ m ∉ ns ∧ tr xc δ L1 fun ds L2 => sp (x :: (ds ++ dv)) L2 Q fun c L' => xc c δ L') : dMeth C m sp dv to tr xc δ L Q := k
theorem s_methE {C a : Addr} {m : Str} {ns : List Str} {fs : List D} {R : Prop} (h1 : At L a (.ins C ns fs)) (h2 : m ∉ ns) (k : R) : ∃ a' ns fs, D.ref a = .ref a' ∧ At L a' (.ins C ns fs) ∧ m ∉ ns ∧ R := ⟨a, ns, fs, rfl, h1, h2, k⟩
theorem s_make {C : Addr} {sp : DSp} {dv : List D} (k : tr xc δ L fun ds L1 => ∀ x, sp (.ref x :: (ds ++ dv)) ((x, .ins C [] []) :: L1) (fun d L2 => d = .non ∧ Q (.ref x) L2) fun c L' => xc c δ L') : dMake C sp dv tr xc δ L Q := k
theorem s_cb {r : DRL} (k : tr xc δ L fun ds L1 => r ds L1 Q) : dCB r tr xc δ L Q := k
theorem s_abs {i : Int} (k : Q (.int (if i < 0 then -i else i)) L) : dAbs [.int i] L Q := ⟨i, rfl, k⟩
theorem s_max2 {i j : Int} (k : Q (.int (if j > i then j else i)) L) : dMax2 [.int i, .int j] L Q := ⟨i, j, rfl, k⟩
theorem s_min2 {i j : Int} (k : Q (.int (if j < i then j else i)) L) : dMin2 [.int i, .int j] L Q := ⟨i, j, rfl, k⟩
theorem s_intI {i : Int} (k : Q (.int i) L) : dInt [.int i] L Q := .inl ⟨i, rfl, k⟩
theorem s_intB {b : Bool} (k : Q (.int (if b then 1 else 0)) L) : dInt [.bl b] L Q := .inr ⟨b, rfl, k⟩
theorem s_lenL {a : Addr} {ds : List D} (h : LAt K L a ds) (k : Q (.int ds.length) L) : dLen K [.ref a] L Q := ⟨_, _, rfl, .seq (.lst h), k⟩
theorem s_lenT {ds : List D} (k : Q (.int ds.length) L) : dLen K [.tup ds] L Q := ⟨_, _, rfl, .seq .tup, k⟩
theorem s_lenS {s : Str} (h : s.length ≤ sizeLine) (k : Q (.int s.length) L) : dLen K [.str s] L Q := ⟨_, _, rfl, .str h, k⟩
theorem s_lenK {a : Addr} {kvs : List (Key × D)} (h : At L a (.dct kvs)) (k : Q (.int kvs.length) L) : dLen K [.ref a] L Q := ⟨_, _, rfl, .dct h, k⟩
theorem s_listL {a : Addr} {ds : List D} (h : LAt K L a ds) (k : ∀ p, Q (.ref p) ((p, .lst ds) :: L)) : dListOf K [.ref a] L Q := ⟨_, ds, rfl, .lst h, k⟩
theorem s_listT {ds : List D} (k : ∀ p, Q (.ref p) ((p, .lst ds) :: L)) : dListOf K [.tup ds] L Q := ⟨_, ds, rfl, .tup, k⟩
theorem s_tupOfL {a : Addr} {ds : List D} (h : LAt K L a ds) (k : Q (.tup ds) L) : dTupOf K [.ref a] L Q := ⟨_, ds, rfl, .lst h, k⟩
theorem s_tupOfT {ds : List D} (k : Q (.tup ds) L) : dTupOf K [.tup ds] L Q := ⟨_, ds, rfl, .tup, k⟩
theorem s_lstRg {r : DRg} (k : r xc δ L fun a b L1 => RgOk a b ∧ ∀ p, Q (.ref p) ((p, .lst (rgD a b)) :: L1)) : dLstRg r xc δ L Q := k
theorem s_tupRg {r : DRg} (k : r xc δ L fun a b L1 => RgOk a b ∧ Q (.tup (rgD a b)) L1) : dTupRg r xc δ L Q := k
theorem s_rg1 {R : Int → Int → Cl → Prop} (k : ta xc δ L fun x L1 => ∃ n, x = .int n ∧ R 0 n L1) : dRg1 ta xc δ L R := k
theorem s_exI {n : Int} {R : Int → Prop} (k : R n) : ∃ m, D.int n = .int m ∧ R m := ⟨n, rfl, k⟩
theorem s_rg2 {R : Int → Int → Cl → Prop} (k : ta xc δ L fun x L1 => tb xc δ L1 fun y L2 => ∃ i j, x = .int i ∧ y = .int j ∧ R i j L2) : dRg2 ta tb xc δ L R := k
theorem s_exII {n m : Int} {R : Int → Int → Prop} (k : R n m) : ∃ i j, D.int n = .int i ∧ D.int m = .int j ∧ R i j := ⟨n, m, rfl, rfl, k⟩
theorem s_bm {T : String} {r : DMr} (k : to xc δ L fun x L1 => TyD K L1 T x ∧ tr xc δ L1 fun ds L2 => r x ds L2 Q) : dBM K T r to tr xc δ L Q := k
theorem s_append {a : Addr} {xs : List D} {y : D} (u : Up L a (.lst xs) (.lst (xs ++ [y])) L') (h : xs.length < sizeLine) (k : Q .non L') : dAppend (.ref a) [y] L Q := ⟨a, xs, y, L', rfl, rfl, h, u, k⟩
theorem s_extend {a b : Addr} {xs zs : List D} (h1 : At L b (.lst zs)) (u : Up L a (.lst xs) (.lst (xs ++ zs)) L') (h : xs.length + zs.length ≤ sizeLine) (k : Q .non L') : dExtend (.ref a) [.ref b] L Q := ⟨a, b, xs, zs, L', rfl, rfl, h1, h, u, k⟩
theorem s_pop {a : Addr} {xs : List D} {y : D} (u : Up L a (.lst xs) (.lst xs.dropLast) L') (h : xs[xs.length - 1]? = some y) (k : Q y L') : dPop (.ref a) [] L Q := ⟨a, xs, y, L', rfl, rfl, h, u, k⟩
theorem s_reverse {a : Addr} {xs : List D} (u : Up L a (.lst xs) (.lst xs.reverse) L') (k : Q .non L') : dReverse (.ref a) [] L Q := ⟨a, xs, L', rfl, rfl, u, k⟩
theorem s_disp {trs : List (DE × DE)} (k : ∀ p, dPairs trs xc δ ((p, .dct []) :: L) fun ps L2 => ∃ kvs L3, KPairs ps kvs ∧ kvs.length ≤ 15 ∧ (kvs.map (·.1)).Nodup ∧ Up L2 p (.dct []) (.dct kvs) L3 ∧ Q (.ref p) L3) : dDisp trs xc δ L Q := k
theorem s_pnil {R : List (D × D) → Cl → Prop} (k : R [] L) : dPairs [] xc δ L R := k
theorem s_pcons {tv : DE} {trs : List (DE × DE)} {R : List (D × D) → Cl → Prop} (k : ta xc δ L fun x L1 => tv xc δ L1 fun y L2 => dPairs trs xc δ L2 fun ps L3 => R ((x, y) :: ps) L3) : dPairs ((ta, tv) :: trs) xc δ L R := k
theorem s_newD (k : ∀ p, Q (.ref p) ((p, .dct []) :: L)) : dNewD xc δ L Q := k
theorem s_raise {cls : Value} (k : xe cls δ L) : dRaise cls (.mk nx rt bk ct xe) δ L := k
theorem s_par {i j : Nat} (k : tr xe δ L fun ds L1 => ∃ v w δ1 δ2, ds = [v, w] ∧ SetAt δ i v δ1 ∧ SetAt δ1 j w δ2 ∧ nx δ2 L1) : dPar i j tr (.mk nx rt bk ct xe) δ L := k
theorem s_parE {i j : Nat} {v w : D} {δ1 δ2 : DS} {R : DS → Prop} (h1 : SetAt δ i v δ1) (h2 : SetAt δ1 j w δ2) (k : R δ2) : ∃ v' w' δ1 δ2, [v, w] = [v', w'] ∧ SetAt δ i v' δ1 ∧ SetAt δ1 j w' δ2 ∧ R δ2 := ⟨v, w, δ1, δ2, rfl, h1, h2, k⟩
theorem s_aug {i : Nat} {r : DR2} {d : D} (h : δ[i]? = some (some d)) (k : te xe δ L fun y L1 => r d y L1 fun z L2 => ∃ δ', SetAt δ i z δ' ∧ nx δ' L2) : dAug i te r (.mk nx rt bk ct xe) δ L := ⟨d, h, k⟩
theorem s_augE {i : Nat} {d : D} {R : DS → Prop} (h1 : SetAt δ i d δ') (k : R δ') : ∃ δ', SetAt δ i d δ' ∧ R δ' := ⟨δ', h1, k⟩
theorem s_addI' {i j : Int} (k : Q (.int (i + j)) L) : dAddI (.int i) (.int j) L Q := ⟨i, j, rfl, rfl, trivial, k⟩
theorem s_sl {tl th : DO} (k : te xc δ L fun x L1 => tl xc δ L1 fun lo L2 => th xc δ L2 fun hi L3 => ∃ ds, SAt K L3 x ds ∧
  (∀ a, x = .ref a → ∀ p, Q (.ref p) ((p, .lst (cutD ds lo hi)) :: L3)) ∧ ((∀ a, x ≠ .ref a) → ¬ (HT.sIx ds.length 0 lo = 0 ∧ HT.sIx ds.length ds.length hi = ds.length) ∧ Q (.tup (cutD ds lo hi)) L3)) : dSl K te tl th xc δ L Q := k
theorem s_nopart {R : Option Int → Cl → Prop} (k : R none L) : dNoPart xc δ L R := k
theorem s_part {R : Option Int → Cl → Prop} (k : te xc δ L fun x L1 => ∃ i, x = .int i ∧ R (some i) L1) : dPart te xc δ L R := k
theorem s_slL {a : Addr} {ds : List D} {lo hi : Option Int} {Q : DV} (h : LAt K L a ds) (k : ∀ p, Q (.ref p) ((p, .lst (cutD ds lo hi)) :: L)) :
  ∃ ds, SAt K L (.ref a) ds ∧ (∀ a', D.ref a = .ref a' → ∀ p, Q (.ref p) ((p, .lst (cutD ds lo hi)) :: L)) ∧ ((∀ a', D.ref a ≠ .ref a') → ¬ (HT.sIx ds.length 0 lo = 0 ∧ HT.sIx ds.length ds.length hi = ds.length) ∧ Q (.tup (cutD ds lo hi)) L) :=
  ⟨ds, .lst h, fun _ _ => k, fun z => absurd rfl (z a)⟩
theorem s_slT {ds : List D} {lo hi : Option Int} {Q : DV} (h : ¬ (HT.sIx ds.length 0 lo = 0 ∧ HT.sIx ds.length ds.length hi = ds.length)) (k : Q (.tup (cutD ds lo hi)) L) :
  ∃ ds', SAt K L (.tup ds) ds' ∧ (∀ a', D.tup ds = .ref a' → ∀ p, Q (.ref p) ((p, .lst (cutD ds' lo hi)) :: L)) ∧ ((∀ a', D.tup ds ≠ .ref a') → ¬ (HT.sIx ds'.length 0 lo = 0 ∧ HT.sIx ds'.length ds'.length hi = ds'.length) ∧ Q (.tup (cutD ds' lo hi)) L) :=
  ⟨ds, .tup, (fun _ z => (by cases z)), fun _ => ⟨h, k⟩⟩
theorem LAt.push {a : Addr} {ds : List D} {c : Addr × GO} (h : LAt K L a ds) : LAt K (c :: L) a ds := by
  cases h with
  | own h => exact .own (.there h)
  | frl h => exact .frl (.there h)
  | top h => exact .top h
theorem ints_snoc {ns : List Int} {z : Int} : ns.map D.int ++ [D.int z] = (ns ++ [z]).map D.int := by rw [List.map_append]; rfl
theorem atI_ints {ns : List Int} {i : Nat} (h : i < ns.length) : atI (ns.map D.int) (i : Int) = some (.int ns[i]) := by
  apply atI_nat
  rw [List.getElem?_map, List.getElem?_eq_getElem h]; rfl
/-! ### loops -/
variable {wi : DI}
theorem s_for (k : wi xe δ L fun J L1 => ∃ W : Nat → Nat → DS → Cl → Prop, (∃ m δ2 L2, Fg δ δ2 ∧ Sub L1 L2 ∧ W 0 m δ2 L2) ∧ ∀ i m δ L, W i m δ L →
  (J.stop i L ∧ nx δ L) ∨ (J.go i L ∧ ∃ N : DS → Cl → Prop, (∀ δ' L', N δ' L' → ∃ m' δ2 L2, m' < m ∧ Fg δ' δ2 ∧ Sub L' L2 ∧ W (i + 1) m' δ2 L2) ∧
    ∀ d L', J.yld i L d L' → g xe d δ L' fun δ2 L2 => t (.mk (N) rt nx (N) xe) δ2 L2)) : dFor wi g t (.mk nx rt bk ct xe) δ L := k
theorem for_rng {lo : Int} {n : Nat} (Pv : Nat → DS → Cl → Prop) (h0 : Wk (Pv 0) δ L) (hs : ∀ (i : Nat) δ L, i < n → Pv i δ L → g xe (.int (lo + i)) δ L fun δ2 L2 => t (.mk (Wk (Pv (i + 1))) rt nx (Wk (Pv (i + 1))) xe) δ2 L2)
    (hd : ∀ δ L, Pv n δ L → nx δ L) : ∃ W : Nat → Nat → DS → Cl → Prop, (∃ m δ2 L2, Fg δ δ2 ∧ Sub L L2 ∧ W 0 m δ2 L2) ∧ ∀ i m δ L, W i m δ L →
      ((dItr lo n).stop i L ∧ nx δ L) ∨ ((dItr lo n).go i L ∧ ∃ N : DS → Cl → Prop, (∀ δ' L', N δ' L' → ∃ m' δ2 L2, m' < m ∧ Fg δ' δ2 ∧ Sub L' L2 ∧ W (i + 1) m' δ2 L2) ∧
        ∀ d L', (dItr lo n).yld i L d L' → g xe d δ L' fun δ2 L2 => t (.mk (N) rt nx (N) xe) δ2 L2) := by
  obtain ⟨δ2, L2, f, s, p⟩ := h0
  refine ⟨fun i m δ L => m = n - i ∧ i ≤ n ∧ Pv i δ L, ⟨n, δ2, L2, f, s, by omega, by omega, p⟩, ?_⟩
  rintro i m δ L ⟨rfl, hi, p⟩
  by_cases h : i < n
  · refine .inr ⟨h, Wk (Pv (i + 1)), fun δ' L' ⟨δ2, L2, f, s, q⟩ => ⟨n - (i + 1), δ2, L2, by omega, f, s, rfl, h, q⟩, fun d L' y => ?_⟩
    obtain ⟨e1, e2⟩ := y
    subst e1 e2
    exact hs i δ _ h p
  · have e : i = n := by omega
    subst e
    exact .inl ⟨Nat.le_refl _, hd δ L p⟩
theorem for_tupD {ds : List D} (Pv : Nat → DS → Cl → Prop) (h0 : Wk (Pv 0) δ L) (hs : ∀ (i : Nat) d δ L, ds[i]? = some d → Pv i δ L → g xe d δ L fun δ2 L2 => t (.mk (Wk (Pv (i + 1))) rt nx (Wk (Pv (i + 1))) xe) δ2 L2)
    (hd : ∀ δ L, Pv ds.length δ L → nx δ L) : ∃ W : Nat → Nat → DS → Cl → Prop, (∃ m δ2 L2, Fg δ δ2 ∧ Sub L L2 ∧ W 0 m δ2 L2) ∧ ∀ i m δ L, W i m δ L →
      ((dItt ds).stop i L ∧ nx δ L) ∨ ((dItt ds).go i L ∧ ∃ N : DS → Cl → Prop, (∀ δ' L', N δ' L' → ∃ m' δ2 L2, m' < m ∧ Fg δ' δ2 ∧ Sub L' L2 ∧ W (i + 1) m' δ2 L2) ∧
        ∀ d L', (dItt ds).yld i L d L' → g xe d δ L' fun δ2 L2 => t (.mk (N) rt nx (N) xe) δ2 L2) := by
  obtain ⟨δ2, L2, f, s, p⟩ := h0
  refine ⟨fun i m δ L => m = ds.length - i ∧ i ≤ ds.length ∧ Pv i δ L, ⟨ds.length, δ2, L2, f, s, by omega, by omega, p⟩, ?_⟩
  rintro i m δ L ⟨rfl, hi, p⟩
  by_cases h : i < ds.length
  · refine .inr ⟨h, Wk (Pv (i + 1)), fun δ' L' ⟨δ2, L2, f, s, q⟩ => ⟨ds.length - (i + 1), δ2, L2, by omega, f, s, rfl, h, q⟩, fun d L' y => ?_⟩
    obtain ⟨e1, e2⟩ := y
    subst e1
    exact hs i d δ _ e2 p
  · have e : i = ds.length := by omega
    subst e
    exact .inl ⟨Nat.le_refl _, hd δ L p⟩
theorem for_lstD {a : Addr} {ds : List D} (Pv : Nat → DS → Cl → Prop) (h0 : Wk (Pv 0) δ L) (hl : ∀ (i : Nat) δ L, i ≤ ds.length → Pv i δ L → LAt K L a ds) (hs : ∀ (i : Nat) d δ L, ds[i]? = some d → Pv i δ L → g xe d δ L fun δ2 L2 => t (.mk (Wk (Pv (i + 1))) rt nx (Wk (Pv (i + 1))) xe) δ2 L2)
    (hd : ∀ δ L, Pv ds.length δ L → nx δ L) : ∃ W : Nat → Nat → DS → Cl → Prop, (∃ m δ2 L2, Fg δ δ2 ∧ Sub L L2 ∧ W 0 m δ2 L2) ∧ ∀ i m δ L, W i m δ L →
      ((dItl K a ds).stop i L ∧ nx δ L) ∨ ((dItl K a ds).go i L ∧ ∃ N : DS → Cl → Prop, (∀ δ' L', N δ' L' → ∃ m' δ2 L2, m' < m ∧ Fg δ' δ2 ∧ Sub L' L2 ∧ W (i + 1) m' δ2 L2) ∧
        ∀ d L', (dItl K a ds).yld i L d L' → g xe d δ L' fun δ2 L2 => t (.mk (N) rt nx (N) xe) δ2 L2) := by
  obtain ⟨δ2, L2, f, s, p⟩ := h0
  refine ⟨fun i m δ L => m = ds.length - i ∧ i ≤ ds.length ∧ Pv i δ L, ⟨ds.length, δ2, L2, f, s, by omega, by omega, p⟩, ?_⟩
  rintro i m δ L ⟨rfl, hi, p⟩
  by_cases h : i < ds.length
  · refine .inr ⟨⟨hl i δ L hi p, h⟩, Wk (Pv (i + 1)), fun δ' L' ⟨δ2, L2, f, s, q⟩ => ⟨ds.length - (i + 1), δ2, L2, by omega, f, s, rfl, h, q⟩, fun d L' y => ?_⟩
    obtain ⟨e1, e2⟩ := y
    subst e1
    exact hs i d δ _ e2 p
  · have e : i = ds.length := by omega
    subst e
    exact .inl ⟨⟨hl _ δ L hi p, Nat.le_refl _⟩, hd δ L p⟩
theorem s_seqI {R : DIt → Cl → Prop} (k : te xc δ L fun x L1 => ∃ ds J, SeqIt K L1 x ds J ∧ R J L1) : diSeq K te xc δ L R := k
theorem s_seqL {a : Addr} {ds : List D} {R : DIt → Prop} (h : LAt K L a ds) (k : R (dItl K a ds)) : ∃ ds J, SeqIt K L (.ref a) ds J ∧ R J := ⟨ds, _, .lst h, k⟩
theorem s_seqT {ds : List D} {R : DIt → Prop} (k : R (dItt ds)) : ∃ ds' J, SeqIt K L (.tup ds) ds' J ∧ R J := ⟨ds, _, .tup, k⟩
theorem s_rng1 {R : DIt → Cl → Prop} (k : tr xc δ L fun vs L1 => ∃ j : Int, vs = [.int j] ∧ -(2 ^ 62) ≤ j ∧ j < 2 ^ 62 ∧ R (dItr 0 j.toNat) L1) : diRng1 tr xc δ L R := k
theorem s_rng1E {j : Int} {R : Int → Prop} (h : -1000000000000 ≤ j ∧ j ≤ 1000000000000) (k : R j) : ∃ i : Int, [D.int j] = [.int i] ∧ -(2 ^ 62) ≤ i ∧ i < 2 ^ 62 ∧ R i := ⟨j, rfl, by omega, by omega, k⟩
theorem s_rng2 {R : DIt → Cl → Prop} (k : tr xc δ L fun vs L1 => ∃ i j : Int, vs = [.int i, .int j] ∧ (-(2 ^ 62) ≤ i ∧ i < 2 ^ 62 ∧ -(2 ^ 62) ≤ j ∧ j < 2 ^ 62) ∧ R (dItr i (j - i).toNat) L1) : diRng2 tr xc δ L R := k
theorem s_rng2E {i j : Int} {R : Int → Int → Prop} (h : -1000000000000 ≤ i ∧ i ≤ 1000000000000) (h2 : -1000000000000 ≤ j ∧ j ≤ 1000000000000) (k : R i j) : ∃ i' j' : Int, [D.int i, D.int j] = [.int i', .int j'] ∧ (-(2 ^ 62) ≤ i' ∧ i' < 2 ^ 62 ∧ -(2 ^ 62) ≤ j' ∧ j' < 2 ^ 62) ∧ R i' j' := ⟨i, j, rfl, by omega, k⟩
theorem s_while {W : DS → Cl → Prop} (μ : DS → Cl → Nat) (h0 : Wk W δ L) (hs : ∀ δ L, W δ L → tc xe δ L fun b L1 => if b = true then t (.mk (Wk (fun δ' L' => W δ' L' ∧ μ δ' L' < μ δ L)) rt nx (Wk (fun δ' L' => W δ' L' ∧ μ δ' L' < μ δ L)) xe) δ L1 else nx δ L1)
    (mono : ∀ (xc : DX) δ L (Q Q' : Bool → Cl → Prop), (∀ b L1, Q b L1 → Q' b L1) → tc xc δ L Q → tc xc δ L Q') : dWhile tc t (.mk nx rt bk ct xe) δ L := by
  obtain ⟨δ2, L2, f, s, p⟩ := h0
  refine ⟨fun m δ L => m = μ δ L ∧ W δ L, ⟨_, δ2, L2, f, s, rfl, p⟩, ?_⟩
  rintro m δ L ⟨rfl, p⟩
  refine mono _ δ L _ _ (fun b L1 q => ?_) (hs δ L p)
  cases b with
  | true => exact ⟨_, fun δ' L' ⟨δ3, L3, f3, s3, w3, l3⟩ => ⟨_, δ3, L3, l3, f3, s3, rfl, w3⟩, q⟩
  | false => exact q
end
end DL
set_option Elab.async false
set_option linter.all false
set_option maxRecDepth 100000
set_option maxHeartbeats 2000000
/-! Ends: a def's exceptions, constants of the top, the law's own promise. -/
namespace DL
open PySem L2
section
variable {P : Program} {w : World} {K : PySem.W.Frag} {mg : Str → Option Value} {base : Heap} {N : List Str} {qual : Str} {scope : Scope} {f : Addr} {cdv : Value} {A : Around} {outer : List Env} {s : Shared} {H : Hp} {E : XK}
theorem takesF : Takes (cxOf (L2.CX P w) P w K mg base N qual scope f cdv A outer s H E) (wE E) := takes_of rfl rfl rfl rfl
theorem poF : PassesOwn (model P w) (cxOf (L2.CX P w) P w K mg base N qual scope f cdv A outer s H E).A (cxOf (L2.CX P w) P w K mg base N qual scope f cdv A outer s H E).env (cxOf (L2.CX P w) P w K mg base N qual scope f cdv A outer s H E).xe :=
  passes_of (X := cxOf (L2.CX P w) P w K mg base N qual scope f cdv A outer s H E) rfl
end
/-- a constant of the module -/
def CstD (K : PySem.W.Frag) (mg : Str → Option Value) (x : Str) (d : D) : Prop := ∃ u v, mg x = some u ∧ RelV v u ∧ ∀ H, Rp K H d v
theorem CstD.int {K : PySem.W.Frag} {mg : Str → Option Value} {x : Str} {i : Int} {t : Tok} (h : mg x = some (.int i t)) : CstD K mg x (.int i) := ⟨_, .int i, h, ⟨t, rfl⟩, fun _ => Rp.intI⟩
theorem CstD.str {K : PySem.W.Frag} {mg : Str → Option Value} {x : Str} {i : Str} {t : Tok} (h : mg x = some (.str i t)) : CstD K mg x (.str i) := ⟨_, .str i, h, ⟨t, rfl⟩, fun _ => Rp.strI⟩
theorem ge_cst {X : Cx} {W : WX} {x : Str} {d : D} {pos : Pos} (h : CstD X.K X.mg x d) (hg : Gl X x) (hd : (x == ("__debug__" : Str)) = false := by decide) : GE X W (.Name x pos) (dC d) := by
  obtain ⟨u, v, h1, h2, h3⟩ := h
  exact ge_glob hg h1 h2 h3 hd
theorem exm_of {K : PySem.W.Frag} {S : Addr} (sb : PySem.W.subIn K (.ref S) (.type "BaseException") = some true) (ic : PySem.W.isClsIn K S = true) (ty : PySem.W.typeIn K (.ref S) = some (.type "type")) (ss : PySem.W.subIn K (.ref S) (.ref S) = some true) :
    PySem.W.exmOne K (.ref S) (.ref S) = some true := by
  have a : (PySem.W.clsIn K S).isSome = true := ic
  unfold PySem.W.exmOne
  simp only [sb]
  unfold PySem.W.kitCls
  simp only [a, ty, ss]
  first | rfl | simp
/-- the law's own promise -/
def spLawD (K : PySem.W.Frag) : DSp := fun ds L Q _ => ∃ (a : Addr) (ns : List Int), ds = [.ref a] ∧ LAt K L a (ns.map .int) ∧ ns.length ≤ 63 ∧ (∀ z ∈ ns, Builtin.Int.intBits z ≤ 1048576) ∧ ∀ L', Q (.bl true) L'
theorem law_sp {K : PySem.W.Frag} {H : Hp} {a : Addr} {ns : List Int} (hl : ns.length ≤ 63) (hb : ∀ z ∈ ns, Builtin.Int.intBits z ≤ 1048576) (hS : SqL K H a (ns.map V.int)) : spL K (spLawD K) [.ref a] H (fun v _ => v = .bl true) fun _ _ _ => False := by
  have fin : ∀ L, Cells K H L → LAt K L a (ns.map .int) → spL K (spLawD K) [.ref a] H (fun v _ => v = .bl true) fun _ _ _ => False := fun L c la =>
    ⟨[.ref a], L, fun d _ => d = .bl true, fun _ _ => False, Rps.cons Rp.refI Rps.nil, c, ⟨a, ns, rfl, la, hl, hb, fun _ => rfl⟩, fun d L' v H' e r _ _ => by subst e; exact r.blE, fun _ _ _ z => z.elim⟩
  rcases hS with (h | ⟨o, h⟩) | h
  · refine fin [(a, .lst (ns.map .int))] ⟨fun c hc => ?_, by simp⟩ (.own .here)
    rw [List.mem_singleton.mp hc]
    exact ⟨_, h, _, rfl, Rps.ofInts ns⟩
  · refine fin [(a, .frl (ns.map .int))] ⟨fun c hc => ?_, by simp⟩ (.frl .here)
    rw [List.mem_singleton.mp hc]
    exact ⟨_, h, _, _, rfl, Rps.ofInts ns⟩
  · exact fin [] ⟨fun c hc => (by cases hc), List.nodup_nil⟩ (.top ⟨_, h, fun H => Rps.ofInts ns⟩)
theorem law_walk {l : PySem.W.OpenLaw} {k : Nat} {q : Program} {loose : List Str} {XP : (Str → Option Value) → Heap → Prop} {YP : World → Heap → Prop} {d : DefRec} {K : Params → PySem.W.Frag} (hn : l.most = some 63) (hdf : d.params.defaults = []) (hr : Room k callerA)
    (hY : ∀ (w : World) (h : Heap), YP w h → (K w.params).In h)
    (F : ∀ (w : World) (mg : Str → Option Value) (fa : Addr) (h : Heap), (K w.params).In h → h.Ns mainGlobals mg → mg d.name = some (.ref fa) →
      ∃ fd : FuncData, (∀ (s : Shared) (u : Value), BindsTo s fd ⟨[u], []⟩ [("script", u)]) ∧ ∀ base : Heap, (K w.params).In base → base.Ns mainGlobals mg → GFn l.prog w (K w.params) mg base k fa fd ["script"] (spLawD (K w.params))) :
    PySem.W.WalkO q loose XP YP l.row.toRowW d [] (fun f vs => PySem.call f vs) :=
  L2.walk_ofB (n := 63) (k := k) (x := "script") (CX := fun w => L2.CX l.prog w) (sp := fun w => spL (K w.params) (spLawD (K w.params))) hn (by decide) hdf hr hY F (fun w H a ns h1 h2 _ h3 => law_sp h1 h2 h3) fun _ _ _ _ _ z => by
    obtain ⟨_, _, _, _, _, _, _, _, _, _, _, _, z⟩ := z
    exact z.elim
end DL
set_option Elab.async false
set_option linter.all false
set_option maxRecDepth 100000
set_option maxHeartbeats 2000000
/-! One instance a step: made by steps.py from the lemmas s_*. -/
namespace DL
open PySem L2
class Slot (L : Cl) (a : Addr) (g : outParam GO) (put : outParam (GO → Cl)) : Prop where up : ∀ g', Up L a g g' (put g')
instance {L : Cl} {a : Addr} {g : GO} : Slot ((a, g) :: L) a g (fun g' => (a, g') :: L) := ⟨fun _ => .here⟩
instance {L : Cl} {a : Addr} {g : GO} {c : Addr × GO} {put : GO → Cl} [h : Slot L a g put] : Slot (c :: L) a g (fun g' => c :: put g') := ⟨fun g' => .there (h.up g')⟩
instance {L : Cl} {a : Addr} {g : GO} : At ((a, g) :: L) a g := .here
instance {L : Cl} {a : Addr} {g : GO} {c : Addr × GO} [h : At L a g] : At (c :: L) a g := .there h
instance {K : PySem.W.Frag} {L : Cl} {a : Addr} {ds : List D} : LAt K ((a, .lst ds) :: L) a ds := .own .here
instance {K : PySem.W.Frag} {L : Cl} {a : Addr} {ds : List D} : LAt K ((a, .frl ds) :: L) a ds := .frl .here
instance {K : PySem.W.Frag} {L : Cl} {a : Addr} {ds : List D} {c : Addr × GO} [h : LAt K L a ds] : LAt K (c :: L) a ds := h.push
instance (priority := 10) {K : PySem.W.Frag} {L : Cl} {a : Addr} {ds : List D} [h : At L a (.lst ds)] : LAt K L a ds := .own h
theorem Up.same' {L L' : Cl} {a : Addr} {g g' : GO} (h : Up L a g g' L') : g' = g → L' = L := by
  induction h with
  | here => intro e; subst e; rfl
  | there h ih => intro e; rw [ih e]
theorem Up.same {L L' : Cl} {a : Addr} {g : GO} (h : Up L a g g L') : L' = L := h.same' rfl
theorem Slot.same {L : Cl} {a : Addr} {g : GO} {put : GO → Cl} (h : Slot L a g put) : put g = L := (h.up g).same
instance {o : Option D} {r : DS} {d : D} : SetAt (o :: r) 0 d (some d :: r) := .z
instance {o : Option D} {r r' : DS} {i : Nat} {d : D} [h : SetAt r i d r'] : SetAt (o :: r) (i + 1) d (o :: r') := .s h
instance {f : Str} {ns : List Str} {d : D} {ds : List D} : NAt (f :: ns) (d :: ds) f d := .here
instance {n f : Str} {ns : List Str} {e d : D} {ds : List D} [h : NAt ns ds f d] : NAt (n :: ns) (e :: ds) f d := .there h
instance {f : Str} {ns : List Str} {e d : D} {ds : List D} : NUp (f :: ns) (e :: ds) f d (d :: ds) := .here
instance {n f : Str} {ns : List Str} {e d : D} {ds ds' : List D} [h : NUp ns ds f d ds'] : NUp (n :: ns) (e :: ds) f d (e :: ds') := .there h
instance {κ : Type} {k : κ} {d : D} {r : List (κ × D)} : KAt ((k, d) :: r) k d := .here
instance {κ : Type} {p : κ × D} {k : κ} {d : D} {r : List (κ × D)} [h : KAt r k d] : KAt (p :: r) k d := .there h
class VarAt (δ : DS) (i : Nat) (d : outParam D) : Prop where h : δ[i]? = some (some d)
instance {r : DS} {d : D} : VarAt (some d :: r) 0 d := ⟨rfl⟩
instance {o : Option D} {r : DS} {i : Nat} {d : D} [h : VarAt r i d] : VarAt (o :: r) (i + 1) d := ⟨by simpa using h.h⟩
/-- a field that may be read -/
class FO (K : PySem.W.Frag) (C : Addr) (f : Str) : Prop where h : FldOk K C f
/-- which handler takes it -/
class ExM (K : PySem.W.Frag) (c cls : Value) (b : outParam Bool) : Prop where h : PySem.W.exmOne K cls c = some b
/-- what a step asks besides -/
def Ar (P G : Prop) : Prop := P ∧ G
def Ln (P G : Prop) : Prop := P ∧ G
def Fo (P G : Prop) : Prop := P ∧ G
def Dk (P G : Prop) : Prop := P ∧ G
def Ne (P G : Prop) : Prop := P ∧ G
def Ix {α : Type} (P : α → Prop) (G : α → Prop) : Prop := ∃ d, P d ∧ G d
def Kg (P : D → Prop) (G : D → Prop) : Prop := ∃ d, P d ∧ G d
theorem Ar.mk {P G : Prop} (h : P) (k : G) : Ar P G := ⟨h, k⟩
theorem Ln.mk {P G : Prop} (h : P) (k : G) : Ln P G := ⟨h, k⟩
theorem Fo.mk {P G : Prop} (h : P) (k : G) : Fo P G := ⟨h, k⟩
theorem Dk.mk {P G : Prop} (h : P) (k : G) : Dk P G := ⟨h, k⟩
theorem Ne.mk {P G : Prop} (h : P) (k : G) : Ne P G := ⟨h, k⟩
theorem Ix.mk {α : Type} {P G : α → Prop} {d : α} (h : P d) (k : G d) : Ix P G := ⟨d, h, k⟩
theorem Kg.mk {P G : D → Prop} {d : D} (h : P d) (k : G d) : Kg P G := ⟨d, h, k⟩
/-- a step: what is to be shown instead -/
class Step (G : Prop) (G' : outParam Prop) : Prop where h : G' → G
section
variable {δ δ' : DS} {L : Cl} {xc : DX} {Q : DV} {QB : Bool → Cl → Prop} {QA : List D → Cl → Prop} {nx : DS → Cl → Prop} {rt : DV} {bk ct : DS → Cl → Prop} {xe : DX} {K : PySem.W.Frag} {ta tb te to : DE} {tc tu : DT} {tr : DA} {t u : DTS} {g : DG} {x y : D} {wi : DI}
instance {A B : Prop} : Step (if true = true then A else B) A := ⟨ite_t⟩
instance {A B : Prop} : Step (if false = true then A else B) B := ⟨ite_f⟩
instance i_s_c {d : D} : Step (dC d xc δ L Q) (Q d L) := ⟨fun k => s_c k⟩
instance i_s_var {i : Nat} {d : D} [h : VarAt δ i d] : Step (dVar i xc δ L Q) (Q d L) := ⟨fun k => s_var h.h k⟩
instance i_s_op {r : DR2} : Step (dOp r ta tb xc δ L Q) (ta xc δ L fun x L1 => tb xc δ L1 fun y L2 => r x y L2 Q) := ⟨fun k => s_op k⟩
instance i_s_un {r : DR1} : Step (dUn r ta xc δ L Q) (ta xc δ L fun x L1 => r x L1 Q) := ⟨fun k => s_un k⟩
instance i_s_addI {i j : Int} : Step (dAdd (.int i) (.int j) L Q) (Q (.int (i + j)) L) := ⟨fun k => s_addI k⟩
instance i_s_addS {i j : Str} : Step (dAdd (.str i) (.str j) L Q) (Ln (i.length + j.length ≤ sizeLine) (Q (.str (i ++ j)) L)) := ⟨fun ⟨h, k⟩ => s_addS h k⟩
instance i_s_cat {a b : Addr} {xs ys : List D} [h1 : At L a (.lst xs)] [h2 : At L b (.lst ys)] : Step (dAdd (.ref a) (.ref b) L Q) (Ln (xs.length + ys.length ≤ sizeLine) (∀ p, Q (.ref p) ((p, .lst (xs ++ ys)) :: L))) := ⟨fun ⟨h, k⟩ => s_cat h1 h2 h k⟩
instance i_s_catT {xs ys : List D} : Step (dAdd (.tup xs) (.tup ys) L Q) (Ne (xs ≠ []) (Ln (xs.length + ys.length ≤ sizeLine) (Q (.tup (xs ++ ys)) L))) := ⟨fun ⟨h1, h, k⟩ => s_catT h1 h k⟩
instance i_s_sub {i j : Int} : Step (dSubI (.int i) (.int j) L Q) (Q (.int (i - j)) L) := ⟨fun k => s_sub k⟩
instance i_s_mulI {i j : Int} : Step (dMul (.int i) (.int j) L Q) (Ar (-1000000000000000000000000000000000000 ≤ i ∧ i ≤ 1000000000000000000000000000000000000) (Ar (-1000000000000000000000000000000000000 ≤ j ∧ j ≤ 1000000000000000000000000000000000000) (Q (.int (i * j)) L))) := ⟨fun ⟨h1, h2, k⟩ => s_mulI h1 h2 k⟩
instance i_s_rep1 {a : Addr} {n : Int} {d : D} [h1 : At L a (.lst [d])] : Step (dMul (.ref a) (.int n) L Q) (Ar (0 ≤ n ∧ n ≤ 16777216) (∀ p, Q (.ref p) ((p, .lst (List.replicate n.toNat d)) :: L))) := ⟨fun ⟨h2, k⟩ => s_rep1 h1 h2 k⟩
instance i_s_repT {n : Int} {xs : List D} : Step (dMul (.tup xs) (.int n) L Q) (Ne (xs ≠ []) (Ar (2 ≤ n) (Ar (n ≤ 1000) (Ln (xs.length ≤ 1000) (Q (.tup (List.replicate n.toNat xs).flatten) L))))) := ⟨fun ⟨h1, h2, h3, h4, k⟩ => s_repT h1 h2 h3 h4 k⟩
instance i_s_div {i j : Int} : Step (dDivI (.int i) (.int j) L Q) (Ar (0 < j) (Ar (j ≤ 1000000000000000000000000000000000000) (Q (.int (i / j)) L))) := ⟨fun ⟨h1, h2, k⟩ => s_div h1 h2 k⟩
instance i_s_mod {i j : Int} : Step (dModI (.int i) (.int j) L Q) (Ar (0 < j) (Q (.int (i % j)) L)) := ⟨fun ⟨h1, k⟩ => s_mod h1 k⟩
instance i_s_pow {i j : Int} : Step (dPowI (.int i) (.int j) L Q) (Ar (0 ≤ j ∧ j ≤ 1000) (Ar (-1000000000 ≤ i ∧ i ≤ 1000000000) (Q (.int (i ^ j.toNat)) L))) := ⟨fun ⟨h, h2, k⟩ => s_pow h h2 k⟩
instance i_s_ltI {i j : Int} : Step (dLt (.int i) (.int j) L Q) (Q (.bl (decide (i < j))) L) := ⟨fun k => s_ltI k⟩
instance i_s_ltS {i j : Str} : Step (dLt (.str i) (.str j) L Q) (Q (.bl (decide (i.cps.toList < j.cps.toList))) L) := ⟨fun k => s_ltS k⟩
instance i_s_leI {i j : Int} : Step (dLeI (.int i) (.int j) L Q) (Q (.bl (decide (i ≤ j))) L) := ⟨fun k => s_leI k⟩
instance i_s_gtI {i j : Int} : Step (dGtI (.int i) (.int j) L Q) (Q (.bl (decide (j < i))) L) := ⟨fun k => s_gtI k⟩
instance i_s_geI {i j : Int} : Step (dGeI (.int i) (.int j) L Q) (Q (.bl (decide (j ≤ i))) L) := ⟨fun k => s_geI k⟩
instance i_s_eqI {i j : Int} : Step (dEq K (.int i) (.int j) L Q) (Q (.bl (decide (i = j))) L) := ⟨fun k => s_eqI k⟩
instance i_s_neI {i j : Int} : Step (dNe K (.int i) (.int j) L Q) (Q (.bl (!decide (i = j))) L) := ⟨fun k => s_neI k⟩
instance i_s_eqS {i j : Str} : Step (dEq K (.str i) (.str j) L Q) (Q (.bl (decide (i = j))) L) := ⟨fun k => s_eqS k⟩
instance i_s_neS {i j : Str} : Step (dNe K (.str i) (.str j) L Q) (Q (.bl (!decide (i = j))) L) := ⟨fun k => s_neS k⟩
instance i_s_eqB {i j : Bool} : Step (dEq K (.bl i) (.bl j) L Q) (Q (.bl (decide (i = j))) L) := ⟨fun k => s_eqB k⟩
instance i_s_neB {i j : Bool} : Step (dNe K (.bl i) (.bl j) L Q) (Q (.bl (!decide (i = j))) L) := ⟨fun k => s_neB k⟩
instance i_s_inKs {a : Addr} {s : Str} {kvs : List (Key × D)} [h : At L a (.dct kvs)] : Step (dIn K (.str s) (.ref a) L Q) (Q (.bl (valD kvs (.inr s)).isSome) L) := ⟨fun k => s_inKs h k⟩
instance i_s_inKi {a : Addr} {s : Int} {kvs : List (Key × D)} [h : At L a (.dct kvs)] : Step (dIn K (.int s) (.ref a) L Q) (Q (.bl (valD kvs (.inl s)).isSome) L) := ⟨fun k => s_inKi h k⟩
instance i_s_niKs {a : Addr} {s : Str} {kvs : List (Key × D)} [h : At L a (.dct kvs)] : Step (dNi K (.str s) (.ref a) L Q) (Q (.bl (!(valD kvs (.inr s)).isSome)) L) := ⟨fun k => s_niKs h k⟩
instance i_s_niKi {a : Addr} {s : Int} {kvs : List (Key × D)} [h : At L a (.dct kvs)] : Step (dNi K (.int s) (.ref a) L Q) (Q (.bl (!(valD kvs (.inl s)).isSome)) L) := ⟨fun k => s_niKi h k⟩
instance i_s_isN  : Step (dIsN x .non L Q) (Q (.bl (isNoneD x)) L) := ⟨fun k => s_isN k⟩
instance i_s_notN  : Step (dNotN x .non L Q) (Q (.bl (!isNoneD x)) L) := ⟨fun k => s_notN k⟩
instance i_s_ixL {a : Addr} {ds : List D} {i : Int} [h : LAt K L a ds] : Step (dIx K (.ref a) (.int i) L Q) (Ix (fun d => atI ds i = some d) (fun d => Q d L)) := ⟨fun ⟨d, h2, k⟩ => s_ixL h h2 k⟩
instance i_s_ixT {ds : List D} {i : Int} : Step (dIx K (.tup ds) (.int i) L Q) (Ix (fun d => atI ds i = some d) (fun d => Q d L)) := ⟨fun ⟨d, h2, k⟩ => s_ixT h2 k⟩
instance i_s_ixS {z : Str} {i : Int} : Step (dIx K (.str z) (.int i) L Q) (Ix (fun c => atI z.cps.toList i = some c) (fun c => Ln (z.length ≤ sizeLine) (Q (.str ⟨#[c]⟩) L))) := ⟨fun ⟨c, h2, h, k⟩ => s_ixS h h2 k⟩
instance i_s_ixKs {a : Addr} {s : Str} {kvs : List (Key × D)} [h : At L a (.dct kvs)] : Step (dIx K (.ref a) (.str s) L Q) (Kg (fun d => KGet kvs (.inr s) d) (fun d => Q d L)) := ⟨fun ⟨d, h2, k⟩ => s_ixKs h h2 k⟩
instance i_s_ixKi {a : Addr} {s : Int} {kvs : List (Key × D)} [h : At L a (.dct kvs)] : Step (dIx K (.ref a) (.int s) L Q) (Kg (fun d => KGet kvs (.inl s) d) (fun d => Q d L)) := ⟨fun ⟨d, h2, k⟩ => s_ixKi h h2 k⟩
instance i_s_chain {r r' : DR2} {tz : DE} : Step (dChain r r' ta tb tz xc δ L Q) (ta xc δ L fun x L1 => tb xc δ L1 fun y L2 => r x y L2 fun z L3 => ∃ k, z = .bl k ∧ (if k = true then tz xc δ L3 fun w L4 => r' y w L4 Q else Q (.bl false) L3)) := ⟨fun k => s_chain k⟩
instance i_s_test  : Step (dTest te xc δ L QB) (te xc δ L fun x L' => ∃ k, x = .bl k ∧ QB k L') := ⟨fun k => s_test k⟩
instance i_s_ex {b : Bool} {R : Bool → Prop} : Step (∃ k, D.bl b = .bl k ∧ R k) (R b) := ⟨fun k => s_ex k⟩
instance i_s_and  : Step (dAnd tc tu xc δ L QB) (tc xc δ L fun c L1 => if c = true then tu xc δ L1 QB else QB false L1) := ⟨fun k => s_and k⟩
instance i_s_or  : Step (dOrT tc tu xc δ L QB) (tc xc δ L fun c L1 => if c = true then QB true L1 else tu xc δ L1 QB) := ⟨fun k => s_or k⟩
instance i_s_not  : Step (dNot tc xc δ L QB) (tc xc δ L fun c L1 => QB (!c) L1) := ⟨fun k => s_not k⟩
instance i_s_andV  : Step (dAndV ta tb xc δ L Q) (ta xc δ L fun x L1 => ∃ c, x = .bl c ∧ if c = true then tb xc δ L1 Q else Q (.bl false) L1) := ⟨fun k => s_andV k⟩
instance i_s_orV  : Step (dOrV ta tb xc δ L Q) (ta xc δ L fun x L1 => ∃ c, x = .bl c ∧ if c = true then Q (.bl true) L1 else tb xc δ L1 Q) := ⟨fun k => s_orV k⟩
instance i_s_notB  : Step (dNotB ta xc δ L Q) (ta xc δ L fun x L1 => ∃ c, x = .bl c ∧ Q (.bl (!c)) L1) := ⟨fun k => s_notB k⟩
instance i_s_if  : Step (dIf tc ta tb xc δ L Q) (tc xc δ L fun c L1 => if c = true then ta xc δ L1 Q else tb xc δ L1 Q) := ⟨fun k => s_if k⟩
instance i_s_tru  : Step (dTru K te xc δ L QB) (te xc δ L fun x L1 => ∃ k, TruD K L1 x k ∧ QB k L1) := ⟨fun k => s_tru k⟩
instance i_s_nil  : Step (dNil xc δ L QA) (QA [] L) := ⟨fun k => s_nil k⟩
instance i_s_cons  : Step (dCons ta tr xc δ L QA) (ta xc δ L fun x L1 => tr xc δ L1 fun xs L2 => QA (x :: xs) L2) := ⟨fun k => s_cons k⟩
instance i_s_tup  : Step (dTup tr xc δ L Q) (tr xc δ L fun xs L1 => xs.length ≤ sizeLine ∧ Q (.tup xs) L1) := ⟨fun k => s_tup k⟩
instance i_s_lst  : Step (dLst tr xc δ L Q) (tr xc δ L fun xs L1 => xs.length ≤ sizeLine ∧ ∀ p, Q (.ref p) ((p, .lst xs) :: L1)) := ⟨fun k => s_lst k⟩
instance i_s_fld {f : Str} : Step (dFld K ta f xc δ L Q) (ta xc δ L fun x L1 => ∃ a C ns ds d, x = .ref a ∧ At L1 a (.ins C ns ds) ∧ FldOk K C f ∧ NAt ns ds f d ∧ Q d L1) := ⟨fun k => s_fld k⟩
instance i_s_fldE {f : Str} {a C : Addr} {ns : List Str} {ds : List D} {d : D} {R : D → Prop} [h1 : At L a (.ins C ns ds)] [h2 : FO K C f] [h3 : NAt ns ds f d] : Step (∃ a' C ns ds d, D.ref a = .ref a' ∧ At L a' (.ins C ns ds) ∧ FldOk K C f ∧ NAt ns ds f d ∧ R d) (R d) := ⟨fun k => s_fldE h1 h2.h h3 k⟩
instance i_s_seq  : Step (dSeq t u (.mk nx rt bk ct xe) δ L) (t (.mk (u (.mk nx rt bk ct xe)) rt bk ct xe) δ L) := ⟨fun k => s_seq k⟩
instance i_s_next  : Step (dNext (.mk nx rt bk ct xe) δ L) (nx δ L) := ⟨fun k => s_next k⟩
instance i_s_break  : Step (dBreak (.mk nx rt bk ct xe) δ L) (bk δ L) := ⟨fun k => s_break k⟩
instance i_s_cont  : Step (dCont (.mk nx rt bk ct xe) δ L) (ct δ L) := ⟨fun k => s_cont k⟩
instance i_s_drop  : Step (dDrop te (.mk nx rt bk ct xe) δ L) (te xe δ L fun _ L1 => nx δ L1) := ⟨fun k => s_drop k⟩
instance i_s_ret  : Step (dRet te (.mk nx rt bk ct xe) δ L) (te xe δ L fun d L1 => ∃ L2, Sub L1 L2 ∧ rt d L2) := ⟨fun k => s_ret k⟩
instance i_s_retN  : Step (dRetN (.mk nx rt bk ct xe) δ L) (∃ L2, Sub L L2 ∧ rt .non L2) := ⟨fun k => s_retN k⟩
instance i_s_ifS  : Step (dIfS tc t u (.mk nx rt bk ct xe) δ L) (tc xe δ L fun b L1 => if b = true then t (.mk nx rt bk ct xe) δ L1 else u (.mk nx rt bk ct xe) δ L1) := ⟨fun k => s_ifS k⟩
instance i_s_asg  : Step (dAsg te g (.mk nx rt bk ct xe) δ L) (te xe δ L fun x L1 => g xe x δ L1 nx) := ⟨fun k => s_asg k⟩
instance i_s_name {i : Nat} {d : D} {R : DS → Cl → Prop} [h : SetAt δ i d δ'] : Step (dgName i xc d δ L R) (R δ' L) := ⟨fun k => s_name h k⟩
instance i_s_tupT {n : Nat} {ts : DGs} {ds : List D} {R : DS → Cl → Prop} : Step (dgTup K n ts xc (.tup ds) δ L R) (Ln (ds.length = n) (ts (fun _ _ _ => False) ds δ L R)) := ⟨fun ⟨h, k⟩ => s_tupT h k⟩
instance i_s_tupL {n : Nat} {ts : DGs} {a : Addr} {ds : List D} {R : DS → Cl → Prop} [h0 : LAt K L a ds] : Step (dgTup K n ts xc (.ref a) δ L R) (Ln (ds.length = n) (ts (fun _ _ _ => False) ds δ L R)) := ⟨fun ⟨h, k⟩ => s_tupL h0 h k⟩
instance i_s_gnil {R : DS → Cl → Prop} : Step (dgNil xc [] δ L R) (R δ L) := ⟨fun k => s_gnil k⟩
instance i_s_gcons {d : D} {ds : List D} {us : DGs} {R : DS → Cl → Prop} : Step (dgCons g us xc (d :: ds) δ L R) (g xc d δ L fun δ' L' => us xc ds δ' L' R) := ⟨fun k => s_gcons k⟩
instance i_s_gsub {ti : DE} {r : DSet} {v : D} {R : DS → Cl → Prop} : Step (dgSub to ti r xc v δ L R) (to xc δ L fun o L1 => ti xc δ L1 fun i L2 => r o i v L2 fun L3 => R δ L3) := ⟨fun k => s_gsub k⟩
instance i_s_setL {a : Addr} {i : Int} {v : D} {xs : List D} {R : Cl → Prop} {put : GO → Cl} [u : Slot L a (.lst xs) put] : Step (dSet (.ref a) (.int i) v L R) (Ix (fun j => ixN xs.length i = some j) (fun j => R (put (.lst (xs.set j v))))) := ⟨fun ⟨j, h, k⟩ => s_setL h (u.up (.lst (xs.set j v))) k⟩
instance i_s_setKs {a : Addr} {s : Str} {v : D} {kvs : List (Key × D)} {R : Cl → Prop} {put : GO → Cl} [u : Slot L a (.dct kvs) put] : Step (dSet (.ref a) (.str s) v L R) (Ln (kvs.length < sizeLine) (R (put (.dct (putD kvs (.inr s) v))))) := ⟨fun ⟨h, k⟩ => s_setKs h (u.up (.dct (putD kvs (.inr s) v))) k⟩
instance i_s_setKi {a : Addr} {s : Int} {v : D} {kvs : List (Key × D)} {R : Cl → Prop} {put : GO → Cl} [u : Slot L a (.dct kvs) put] : Step (dSet (.ref a) (.int s) v L R) (Ln (kvs.length < sizeLine) (R (put (.dct (putD kvs (.inl s) v))))) := ⟨fun ⟨h, k⟩ => s_setKi h (u.up (.dct (putD kvs (.inl s) v))) k⟩
instance i_s_setF {tv : DE} {f : Str} : Step (dSetF K ta tv f (.mk nx rt bk ct xe) δ L) (tv xe δ L fun y L1 => ta xe δ L1 fun x L2 => ∃ a C ns ds, x = .ref a ∧ FldOk K C f ∧ ns.length < 1000 ∧
  ((∃ ds' L3, NUp ns ds f y ds' ∧ Up L2 a (.ins C ns ds) (.ins C ns ds') L3 ∧ nx δ L3) ∨ (f ∉ ns ∧ ∃ L3, Up L2 a (.ins C ns ds) (.ins C (ns ++ [f]) (ds ++ [y])) L3 ∧ nx δ L3))) := ⟨fun k => s_setF k⟩
instance i_s_setFold {f : Str} {a C : Addr} {ns : List Str} {ds ds' : List D} {R : Cl → Prop} {put : GO → Cl} [h1 : NUp ns ds f y ds'] [h2 : Slot L a (.ins C ns ds) put] [h3 : FO K C f] : Step (∃ a' C ns ds, D.ref a = .ref a' ∧ FldOk K C f ∧ ns.length < 1000 ∧ ((∃ ds' L3, NUp ns ds f y ds' ∧ Up L a' (.ins C ns ds) (.ins C ns ds') L3 ∧ R L3) ∨ (f ∉ ns ∧ ∃ L3, Up L a' (.ins C ns ds) (.ins C (ns ++ [f]) (ds ++ [y])) L3 ∧ R L3))) (Ln (ns.length < 1000) (R (put (.ins C ns ds')))) := ⟨fun ⟨h4, k⟩ => s_setFold h1 (h2.up (.ins C ns ds')) h3.h h4 k⟩
instance i_s_call {sp : DSp} {dv : List D} : Step (dCall sp dv tr xc δ L Q) (tr xc δ L fun ds L1 => sp (ds ++ dv) L1 Q fun c L' => xc c δ L') := ⟨fun k => s_call k⟩
instance i_s_meth {C : Addr} {m : Str} {sp : DSp} {dv : List D} : Step (dMeth C m sp dv to tr xc δ L Q) (to xc δ L fun x L1 => ∃ a ns fs, x = .ref a ∧ At L1 a (.ins C ns fs) ∧ m ∉ ns ∧ tr xc δ L1 fun ds L2 => sp (x :: (ds ++ dv)) L2 Q fun c L' => xc c δ L') := ⟨fun k => s_meth k⟩
instance i_s_methE {C a : Addr} {m : Str} {ns : List Str} {fs : List D} {R : Prop} [h1 : At L a (.ins C ns fs)] : Step (∃ a' ns fs, D.ref a = .ref a' ∧ At L a' (.ins C ns fs) ∧ m ∉ ns ∧ R) (Dk (m ∉ ns) (R)) := ⟨fun ⟨h2, k⟩ => s_methE h1 h2 k⟩
instance i_s_make {C : Addr} {sp : DSp} {dv : List D} : Step (dMake C sp dv tr xc δ L Q) (tr xc δ L fun ds L1 => ∀ x, sp (.ref x :: (ds ++ dv)) ((x, .ins C [] []) :: L1) (fun d L2 => d = .non ∧ Q (.ref x) L2) fun c L' => xc c δ L') := ⟨fun k => s_make k⟩
instance i_s_cb {r : DRL} : Step (dCB r tr xc δ L Q) (tr xc δ L fun ds L1 => r ds L1 Q) := ⟨fun k => s_cb k⟩
instance i_s_abs {i : Int} : Step (dAbs [.int i] L Q) (Q (.int (if i < 0 then -i else i)) L) := ⟨fun k => s_abs k⟩
instance i_s_max2 {i j : Int} : Step (dMax2 [.int i, .int j] L Q) (Q (.int (if j > i then j else i)) L) := ⟨fun k => s_max2 k⟩
instance i_s_min2 {i j : Int} : Step (dMin2 [.int i, .int j] L Q) (Q (.int (if j < i then j else i)) L) := ⟨fun k => s_min2 k⟩
instance i_s_intI {i : Int} : Step (dInt [.int i] L Q) (Q (.int i) L) := ⟨fun k => s_intI k⟩
instance i_s_intB {b : Bool} : Step (dInt [.bl b] L Q) (Q (.int (if b then 1 else 0)) L) := ⟨fun k => s_intB k⟩
instance i_s_lenL {a : Addr} {ds : List D} [h : LAt K L a ds] : Step (dLen K [.ref a] L Q) (Q (.int ds.length) L) := ⟨fun k => s_lenL h k⟩
instance i_s_lenT {ds : List D} : Step (dLen K [.tup ds] L Q) (Q (.int ds.length) L) := ⟨fun k => s_lenT k⟩
instance i_s_lenS {s : Str} : Step (dLen K [.str s] L Q) (Ln (s.length ≤ sizeLine) (Q (.int s.length) L)) := ⟨fun ⟨h, k⟩ => s_lenS h k⟩
instance i_s_lenK {a : Addr} {kvs : List (Key × D)} [h : At L a (.dct kvs)] : Step (dLen K [.ref a] L Q) (Q (.int kvs.length) L) := ⟨fun k => s_lenK h k⟩
instance i_s_listL {a : Addr} {ds : List D} [h : LAt K L a ds] : Step (dListOf K [.ref a] L Q) (∀ p, Q (.ref p) ((p, .lst ds) :: L)) := ⟨fun k => s_listL h k⟩
instance i_s_listT {ds : List D} : Step (dListOf K [.tup ds] L Q) (∀ p, Q (.ref p) ((p, .lst ds) :: L)) := ⟨fun k => s_listT k⟩
instance i_s_tupOfL {a : Addr} {ds : List D} [h : LAt K L a ds] : Step (dTupOf K [.ref a] L Q) (Q (.tup ds) L) := ⟨fun k => s_tupOfL h k⟩
instance i_s_tupOfT {ds : List D} : Step (dTupOf K [.tup ds] L Q) (Q (.tup ds) L) := ⟨fun k => s_tupOfT k⟩
instance i_s_lstRg {r : DRg} : Step (dLstRg r xc δ L Q) (r xc δ L fun a b L1 => RgOk a b ∧ ∀ p, Q (.ref p) ((p, .lst (rgD a b)) :: L1)) := ⟨fun k => s_lstRg k⟩
instance i_s_tupRg {r : DRg} : Step (dTupRg r xc δ L Q) (r xc δ L fun a b L1 => RgOk a b ∧ Q (.tup (rgD a b)) L1) := ⟨fun k => s_tupRg k⟩
instance i_s_rg1 {R : Int → Int → Cl → Prop} : Step (dRg1 ta xc δ L R) (ta xc δ L fun x L1 => ∃ n, x = .int n ∧ R 0 n L1) := ⟨fun k => s_rg1 k⟩
instance i_s_exI {n : Int} {R : Int → Prop} : Step (∃ m, D.int n = .int m ∧ R m) (R n) := ⟨fun k => s_exI k⟩
instance i_s_rg2 {R : Int → Int → Cl → Prop} : Step (dRg2 ta tb xc δ L R) (ta xc δ L fun x L1 => tb xc δ L1 fun y L2 => ∃ i j, x = .int i ∧ y = .int j ∧ R i j L2) := ⟨fun k => s_rg2 k⟩
instance i_s_exII {n m : Int} {R : Int → Int → Prop} : Step (∃ i j, D.int n = .int i ∧ D.int m = .int j ∧ R i j) (R n m) := ⟨fun k => s_exII k⟩
instance i_s_bm {T : String} {r : DMr} : Step (dBM K T r to tr xc δ L Q) (to xc δ L fun x L1 => TyD K L1 T x ∧ tr xc δ L1 fun ds L2 => r x ds L2 Q) := ⟨fun k => s_bm k⟩
instance i_s_append {a : Addr} {xs : List D} {y : D} {put : GO → Cl} [u : Slot L a (.lst xs) put] : Step (dAppend (.ref a) [y] L Q) (Ln (xs.length < sizeLine) (Q .non (put (.lst (xs ++ [y]))))) := ⟨fun ⟨h, k⟩ => s_append (u.up (.lst (xs ++ [y]))) h k⟩
instance i_s_extend {a b : Addr} {xs zs : List D} {put : GO → Cl} [h1 : At L b (.lst zs)] [u : Slot L a (.lst xs) put] : Step (dExtend (.ref a) [.ref b] L Q) (Ln (xs.length + zs.length ≤ sizeLine) (Q .non (put (.lst (xs ++ zs))))) := ⟨fun ⟨h, k⟩ => s_extend h1 (u.up (.lst (xs ++ zs))) h k⟩
instance i_s_pop {a : Addr} {xs : List D} {put : GO → Cl} [u : Slot L a (.lst xs) put] : Step (dPop (.ref a) [] L Q) (Ix (fun y => xs[xs.length - 1]? = some y) (fun y => Q y (put (.lst xs.dropLast)))) := ⟨fun ⟨y, h, k⟩ => s_pop (u.up (.lst xs.dropLast)) h k⟩
instance i_s_reverse {a : Addr} {xs : List D} {put : GO → Cl} [u : Slot L a (.lst xs) put] : Step (dReverse (.ref a) [] L Q) (Q .non (put (.lst xs.reverse))) := ⟨fun k => s_reverse (u.up (.lst xs.reverse)) k⟩
instance i_s_disp {trs : List (DE × DE)} : Step (dDisp trs xc δ L Q) (∀ p, dPairs trs xc δ ((p, .dct []) :: L) fun ps L2 => ∃ kvs L3, KPairs ps kvs ∧ kvs.length ≤ 15 ∧ (kvs.map (·.1)).Nodup ∧ Up L2 p (.dct []) (.dct kvs) L3 ∧ Q (.ref p) L3) := ⟨fun k => s_disp k⟩
instance i_s_pnil {R : List (D × D) → Cl → Prop} : Step (dPairs [] xc δ L R) (R [] L) := ⟨fun k => s_pnil k⟩
instance i_s_pcons {tv : DE} {trs : List (DE × DE)} {R : List (D × D) → Cl → Prop} : Step (dPairs ((ta, tv) :: trs) xc δ L R) (ta xc δ L fun x L1 => tv xc δ L1 fun y L2 => dPairs trs xc δ L2 fun ps L3 => R ((x, y) :: ps) L3) := ⟨fun k => s_pcons k⟩
instance i_s_newD  : Step (dNewD xc δ L Q) (∀ p, Q (.ref p) ((p, .dct []) :: L)) := ⟨fun k => s_newD k⟩
instance i_s_raise {cls : Value} : Step (dRaise cls (.mk nx rt bk ct xe) δ L) (xe cls δ L) := ⟨fun k => s_raise k⟩
instance i_s_par {i j : Nat} : Step (dPar i j tr (.mk nx rt bk ct xe) δ L) (tr xe δ L fun ds L1 => ∃ v w δ1 δ2, ds = [v, w] ∧ SetAt δ i v δ1 ∧ SetAt δ1 j w δ2 ∧ nx δ2 L1) := ⟨fun k => s_par k⟩
instance i_s_parE {i j : Nat} {v w : D} {δ1 δ2 : DS} {R : DS → Prop} [h1 : SetAt δ i v δ1] [h2 : SetAt δ1 j w δ2] : Step (∃ v' w' δ1 δ2, [v, w] = [v', w'] ∧ SetAt δ i v' δ1 ∧ SetAt δ1 j w' δ2 ∧ R δ2) (R δ2) := ⟨fun k => s_parE h1 h2 k⟩
instance i_s_aug {i : Nat} {r : DR2} {d : D} [h : VarAt δ i d] : Step (dAug i te r (.mk nx rt bk ct xe) δ L) (te xe δ L fun y L1 => r d y L1 fun z L2 => ∃ δ', SetAt δ i z δ' ∧ nx δ' L2) := ⟨fun k => s_aug h.h k⟩
instance i_s_augE {i : Nat} {d : D} {R : DS → Prop} [h1 : SetAt δ i d δ'] : Step (∃ δ', SetAt δ i d δ' ∧ R δ') (R δ') := ⟨fun k => s_augE h1 k⟩
instance i_s_addIq {i j : Int} : Step (dAddI (.int i) (.int j) L Q) (Q (.int (i + j)) L) := ⟨fun k => s_addI' k⟩
instance i_s_sl {tl th : DO} : Step (dSl K te tl th xc δ L Q) (te xc δ L fun x L1 => tl xc δ L1 fun lo L2 => th xc δ L2 fun hi L3 => ∃ ds, SAt K L3 x ds ∧
  (∀ a, x = .ref a → ∀ p, Q (.ref p) ((p, .lst (cutD ds lo hi)) :: L3)) ∧ ((∀ a, x ≠ .ref a) → ¬ (HT.sIx ds.length 0 lo = 0 ∧ HT.sIx ds.length ds.length hi = ds.length) ∧ Q (.tup (cutD ds lo hi)) L3)) := ⟨fun k => s_sl k⟩
instance i_s_nopart {R : Option Int → Cl → Prop} : Step (dNoPart xc δ L R) (R none L) := ⟨fun k => s_nopart k⟩
instance i_s_part {R : Option Int → Cl → Prop} : Step (dPart te xc δ L R) (te xc δ L fun x L1 => ∃ i, x = .int i ∧ R (some i) L1) := ⟨fun k => s_part k⟩
instance i_s_slL {a : Addr} {ds : List D} {lo hi : Option Int} {Q : DV} [h : LAt K L a ds] : Step (∃ ds, SAt K L (.ref a) ds ∧ (∀ a', D.ref a = .ref a' → ∀ p, Q (.ref p) ((p, .lst (cutD ds lo hi)) :: L)) ∧ ((∀ a', D.ref a ≠ .ref a') → ¬ (HT.sIx ds.length 0 lo = 0 ∧ HT.sIx ds.length ds.length hi = ds.length) ∧ Q (.tup (cutD ds lo hi)) L)) (∀ p, Q (.ref p) ((p, .lst (cutD ds lo hi)) :: L)) := ⟨fun k => s_slL h k⟩
instance i_s_for  : Step (dFor wi g t (.mk nx rt bk ct xe) δ L) (wi xe δ L fun J L1 => ∃ W : Nat → Nat → DS → Cl → Prop, (∃ m δ2 L2, Fg δ δ2 ∧ Sub L1 L2 ∧ W 0 m δ2 L2) ∧ ∀ i m δ L, W i m δ L →
  (J.stop i L ∧ nx δ L) ∨ (J.go i L ∧ ∃ N : DS → Cl → Prop, (∀ δ' L', N δ' L' → ∃ m' δ2 L2, m' < m ∧ Fg δ' δ2 ∧ Sub L' L2 ∧ W (i + 1) m' δ2 L2) ∧
    ∀ d L', J.yld i L d L' → g xe d δ L' fun δ2 L2 => t (.mk (N) rt nx (N) xe) δ2 L2)) := ⟨fun k => s_for k⟩
instance i_s_seqI {R : DIt → Cl → Prop} : Step (diSeq K te xc δ L R) (te xc δ L fun x L1 => ∃ ds J, SeqIt K L1 x ds J ∧ R J L1) := ⟨fun k => s_seqI k⟩
instance i_s_seqL {a : Addr} {ds : List D} {R : DIt → Prop} [h : LAt K L a ds] : Step (∃ ds J, SeqIt K L (.ref a) ds J ∧ R J) (R (dItl K a ds)) := ⟨fun k => s_seqL h k⟩
instance i_s_seqT {ds : List D} {R : DIt → Prop} : Step (∃ ds' J, SeqIt K L (.tup ds) ds' J ∧ R J) (R (dItt ds)) := ⟨fun k => s_seqT k⟩
instance i_s_rng1 {R : DIt → Cl → Prop} : Step (diRng1 tr xc δ L R) (tr xc δ L fun vs L1 => ∃ j : Int, vs = [.int j] ∧ -(2 ^ 62) ≤ j ∧ j < 2 ^ 62 ∧ R (dItr 0 j.toNat) L1) := ⟨fun k => s_rng1 k⟩
instance i_s_rng1E {j : Int} {R : Int → Prop} : Step (∃ i : Int, [D.int j] = [.int i] ∧ -(2 ^ 62) ≤ i ∧ i < 2 ^ 62 ∧ R i) (Ar (-1000000000000 ≤ j ∧ j ≤ 1000000000000) (R j)) := ⟨fun ⟨h, k⟩ => s_rng1E h k⟩
instance i_s_rng2 {R : DIt → Cl → Prop} : Step (diRng2 tr xc δ L R) (tr xc δ L fun vs L1 => ∃ i j : Int, vs = [.int i, .int j] ∧ (-(2 ^ 62) ≤ i ∧ i < 2 ^ 62 ∧ -(2 ^ 62) ≤ j ∧ j < 2 ^ 62) ∧ R (dItr i (j - i).toNat) L1) := ⟨fun k => s_rng2 k⟩
instance i_s_rng2E {i j : Int} {R : Int → Int → Prop} : Step (∃ i' j' : Int, [D.int i, D.int j] = [.int i', .int j'] ∧ (-(2 ^ 62) ≤ i' ∧ i' < 2 ^ 62 ∧ -(2 ^ 62) ≤ j' ∧ j' < 2 ^ 62) ∧ R i' j') (Ar (-1000000000000 ≤ i ∧ i ≤ 1000000000000) (Ar (-1000000000000 ≤ j ∧ j ≤ 1000000000000) (R i j))) := ⟨fun ⟨h, h2, k⟩ => s_rng2E h h2 k⟩
instance i_len {n : Nat} {G : Prop} : Step (n ≤ sizeLine ∧ G) (Ln (n ≤ sizeLine) G) := ⟨fun h => h⟩
instance i_rg {a b : Int} {G : Prop} : Step (RgOk a b ∧ G) (Ar (RgOk a b) G) := ⟨fun h => h⟩
instance i_tyL {G : Prop} {a : Addr} {ds : List D} [h : LAt K L a ds] : Step (TyD K L "list" (.ref a) ∧ G) G := ⟨fun k => ⟨.lst h, k⟩⟩
instance i_tyS {G : Prop} {x : Str} : Step (TyD K L "str" (.str x) ∧ G) G := ⟨fun k => ⟨.str, k⟩⟩
instance i_tyK {G : Prop} {a : Addr} {kvs : List (Key × D)} [h : At L a (.dct kvs)] : Step (TyD K L "dict" (.ref a) ∧ G) G := ⟨fun k => ⟨.dct h, k⟩⟩
instance i_eqNN : Step (dEq K .non .non L Q) (Q (.bl true) L) := ⟨fun k => .inl ⟨rfl, k⟩⟩
end
end DL
set_option Elab.async false
set_option linter.all false
set_option maxRecDepth 100000
set_option maxHeartbeats 2000000
/-! Comparing by what is told: tuples, lists; membership; further steps. -/
namespace DL
open PySem L2
/-! plain items -/
def pl1 : D → Bool
  | .non => true
  | .int _ => true
  | _ => false
def pl2 : D → Bool
  | .non => true
  | .int _ => true
  | .tup ds => ds.all pl1
  | _ => false
def toP1 : D → PyData
  | .int i => .int i
  | _ => .none
def toP2 : D → PyData
  | .int i => .int i
  | .tup ds => .tuple (ds.map toP1)
  | _ => .none
theorem toP1_eqv {x y : D} (hx : pl1 x = true) (hy : pl1 y = true) : PyData.eqv (toP1 x) (toP1 y) = true ↔ x = y := by
  cases x <;> first | exact absurd hx Bool.false_ne_true | (cases y <;> first | exact absurd hy Bool.false_ne_true | simp [toP1, PyData.eqv])
theorem toP1_all : ∀ {xs ys : List D}, xs.all pl1 = true → ys.all pl1 = true → (PyData.eqvAll (xs.map toP1) (ys.map toP1) = true ↔ xs = ys)
  | [], [], _, _ => by simp [PyData.eqvAll]
  | [], _ :: _, _, _ => by simp [PyData.eqvAll]
  | _ :: _, [], _, _ => by simp [PyData.eqvAll]
  | x :: xs, y :: ys, hx, hy => by
    rw [List.all_cons, Bool.and_eq_true] at hx hy
    simp only [List.map_cons, PyData.eqvAll, Bool.and_eq_true, toP1_eqv hx.1 hy.1, toP1_all hx.2 hy.2, List.cons.injEq]
theorem toP2_eqv {x y : D} (hx : pl2 x = true) (hy : pl2 y = true) : PyData.eqv (toP2 x) (toP2 y) = true ↔ x = y := by
  cases x <;> first | exact absurd hx Bool.false_ne_true | (cases y <;> first | exact absurd hy Bool.false_ne_true | (simp only [toP2, PyData.eqv]; done) | (simp [toP2, PyData.eqv]; done) | (simp only [toP2, PyData.eqv, D.tup.injEq]; exact toP1_all hx hy))
theorem toP2_all : ∀ {xs ys : List D}, xs.all pl2 = true → ys.all pl2 = true → (PyData.eqvAll (xs.map toP2) (ys.map toP2) = true ↔ xs = ys)
  | [], [], _, _ => by simp [PyData.eqvAll]
  | [], _ :: _, _, _ => by simp [PyData.eqvAll]
  | _ :: _, [], _, _ => by simp [PyData.eqvAll]
  | x :: xs, y :: ys, hx, hy => by
    rw [List.all_cons, Bool.and_eq_true] at hx hy
    simp only [List.map_cons, PyData.eqvAll, Bool.and_eq_true, toP2_eqv hx.1 hy.1, toP2_all hx.2 hy.2, List.cons.injEq]
theorem dat1 {K : PySem.W.Frag} {L : Cl} {x : D} (h : pl1 x = true) : Dat K L x (toP1 x) := by
  cases x <;> first | exact absurd h Bool.false_ne_true | constructor
theorem dat1s {K : PySem.W.Frag} {L : Cl} : ∀ {xs : List D}, xs.all pl1 = true → Dat K L (.tup xs) (.tuple (xs.map toP1))
  | [], _ => .tupN
  | x :: xs, h => by
    rw [List.all_cons, Bool.and_eq_true] at h
    exact .tupC (dat1 h.1) (dat1s h.2)
theorem dat2 {K : PySem.W.Frag} {L : Cl} {x : D} (h : pl2 x = true) : Dat K L x (toP2 x) := by
  cases x with
  | tup ds => exact dat1s h
  | non => exact .non
  | int i => exact .int i
  | bl b => exact absurd h Bool.false_ne_true
  | str b => exact absurd h Bool.false_ne_true
  | ref b => exact absurd h Bool.false_ne_true
theorem dat2s {K : PySem.W.Frag} {L : Cl} : ∀ {xs : List D}, xs.all pl2 = true → Dat K L (.tup xs) (.tuple (xs.map toP2))
  | [], _ => .tupN
  | x :: xs, h => by
    rw [List.all_cons, Bool.and_eq_true] at h
    exact .tupC (dat2 h.1) (dat2s h.2)
theorem lay1 : ∀ (xs : List D), PyData.canLayAll0 (xs.map toP1) = true ∧ PyData.depthAll (xs.map toP1) = 0
  | [] => ⟨rfl, rfl⟩
  | x :: xs => by
    have h := lay1 xs
    have e : PyData.canLay0 (toP1 x) = true ∧ PyData.depth (toP1 x) = 0 := by cases x <;> exact ⟨rfl, rfl⟩
    simp only [List.map_cons, PyData.canLayAll0, PyData.depthAll, e.1, e.2, h.1, h.2]
    exact ⟨rfl, rfl⟩
theorem lay2 : ∀ (xs : List D), PyData.canLayAll0 (xs.map toP2) = true ∧ PyData.depthAll (xs.map toP2) ≤ 1
  | [] => ⟨rfl, by decide⟩
  | x :: xs => by
    have h := lay2 xs
    have e : PyData.canLay0 (toP2 x) = true ∧ PyData.depth (toP2 x) ≤ 1 := by
      cases x with
      | tup ds =>
        have q := lay1 ds
        simp only [toP2, PyData.canLay0, PyData.depth, q.1, q.2]
        exact ⟨trivial, by decide⟩
      | non => exact ⟨rfl, Nat.zero_le _⟩
      | int i => exact ⟨rfl, Nat.zero_le _⟩
      | bl b => exact ⟨rfl, Nat.zero_le _⟩
      | str b => exact ⟨rfl, Nat.zero_le _⟩
      | ref b => exact ⟨rfl, Nat.zero_le _⟩
    refine ⟨by simp only [List.map_cons, PyData.canLayAll0, e.1, h.1]; rfl, ?_⟩
    simp only [List.map_cons, PyData.depthAll]
    exact Nat.max_le.mpr ⟨e.2, h.2⟩
class Pln (xs : List D) : Prop where h : xs.all pl2 = true
instance : Pln [] := ⟨rfl⟩
instance {i : Int} {xs : List D} [h : Pln xs] : Pln (.int i :: xs) := ⟨h.h⟩
instance {xs : List D} [h : Pln xs] : Pln (.non :: xs) := ⟨h.h⟩
instance {ns : List Int} : Pln (ns.map .int) := ⟨by simp [List.all_map, Function.comp_def, pl2]⟩
instance {xs ys : List D} [h : Pln xs] [g : Pln ys] : Pln (xs ++ ys) := ⟨by rw [List.all_append, h.h, g.h]; rfl⟩
instance {xs : List D} [h : Pln xs] : Pln xs.reverse := ⟨by rw [List.all_reverse, h.h]⟩
instance {a b : Int} : Pln (rgD a b) := ⟨by unfold rgD; simp [List.all_map, Function.comp_def, pl2]⟩
instance {n : Nat} {i : Int} : Pln (List.replicate n (.int i)) := ⟨by simp [List.all_replicate, pl2]⟩
class Pl1 (xs : List D) : Prop where h : xs.all pl1 = true
instance : Pl1 [] := ⟨rfl⟩
instance {i : Int} {xs : List D} [h : Pl1 xs] : Pl1 (.int i :: xs) := ⟨h.h⟩
instance {xs : List D} [h : Pl1 xs] : Pl1 (.non :: xs) := ⟨h.h⟩
instance {ns : List Int} : Pl1 (ns.map .int) := ⟨by simp [List.all_map, Function.comp_def, pl1]⟩
instance {xs ys : List D} [h : Pl1 xs] [g : Pl1 ys] : Pl1 (xs ++ ys) := ⟨by rw [List.all_append, h.h, g.h]; rfl⟩
instance {ds xs : List D} [h : Pl1 ds] [g : Pln xs] : Pln (.tup ds :: xs) := ⟨by rw [List.all_cons, g.h, Bool.and_true]; exact h.h⟩
/-- both sides are told, and when they are equal -/
class EqR (K : PySem.W.Frag) (L : Cl) (x y : D) (n : outParam Nat) (c p : outParam Prop) : Prop where
  h : c → ∃ u v, Dat K L x u ∧ Dat K L y v ∧ u.canLay0 = true ∧ v.canLay0 = true ∧ u.depth ≤ n ∧ v.depth ≤ n ∧ (PyData.eqv u v = true ↔ p)
class EqRs (K : PySem.W.Frag) (L : Cl) (x y : List D) (n : outParam Nat) (c p : outParam Prop) : Prop where
  h : c → ∃ u v, Dat K L (.tup x) (.tuple u) ∧ Dat K L (.tup y) (.tuple v) ∧ PyData.canLayAll0 u = true ∧ PyData.canLayAll0 v = true ∧ PyData.depthAll u ≤ n ∧ PyData.depthAll v ≤ n ∧ (PyData.eqvAll u v = true ↔ p)
section
variable {K : PySem.W.Frag} {L : Cl} {x y : D} {xs ys : List D} {n m : Nat} {c d p q : Prop}
instance : EqR K L .non .non 0 True True := ⟨fun _ => ⟨_, _, .non, .non, rfl, rfl, by decide, by decide, by simp [PyData.eqv]⟩⟩
instance {i j : Int} : EqR K L (.int i) (.int j) 0 True (i = j) := ⟨fun _ => ⟨_, _, .int i, .int j, rfl, rfl, Nat.le_refl _, Nat.le_refl _, by simp [PyData.eqv]⟩⟩
instance {i j : Bool} : EqR K L (.bl i) (.bl j) 0 True (i = j) := ⟨fun _ => ⟨_, _, .bl i, .bl j, rfl, rfl, Nat.le_refl _, Nat.le_refl _, by simp [PyData.eqv]⟩⟩
instance {i j : Str} : EqR K L (.str i) (.str j) 0 (PyData.strOk i = true ∧ PyData.strOk j = true) (i = j) := ⟨fun e => ⟨_, _, .str i, .str j, e.1, e.2, Nat.le_refl _, Nat.le_refl _, by simp [PyData.eqv]⟩⟩
instance {i : Int} : EqR K L (.int i) .non 0 True False := ⟨fun _ => ⟨_, _, .int i, .non, rfl, rfl, Nat.le_refl _, Nat.le_refl _, by simp [PyData.eqv]⟩⟩
instance {i : Int} : EqR K L .non (.int i) 0 True False := ⟨fun _ => ⟨_, _, .non, .int i, rfl, rfl, Nat.le_refl _, Nat.le_refl _, by simp [PyData.eqv]⟩⟩
instance {i : Str} : EqR K L (.str i) .non 0 (PyData.strOk i = true) False := ⟨fun e => ⟨_, _, .str i, .non, e, rfl, Nat.le_refl _, Nat.le_refl _, by simp [PyData.eqv]⟩⟩
instance {i : Str} : EqR K L .non (.str i) 0 (PyData.strOk i = true) False := ⟨fun e => ⟨_, _, .non, .str i, rfl, e, Nat.le_refl _, Nat.le_refl _, by simp [PyData.eqv]⟩⟩
instance [h : EqRs K L xs ys n c p] : EqR K L (.tup xs) (.tup ys) (n + 1) c p := ⟨fun e => by
  obtain ⟨u, v, h1, h2, h3, h4, h5, h6, h7⟩ := h.h e
  exact ⟨_, _, h1, h2, h3, h4, Nat.succ_le_succ h5, Nat.succ_le_succ h6, h7⟩⟩
instance {i : Int} [h : EqRs K L xs xs n c p] : EqR K L (.int i) (.tup xs) (n + 1) c False := ⟨fun e => by
  obtain ⟨u, v, h1, h2, h3, h4, h5, h6, h7⟩ := h.h e
  exact ⟨_, _, .int i, h2, rfl, h4, Nat.zero_le _, Nat.succ_le_succ h6, by simp [PyData.eqv]⟩⟩
instance [h : EqRs K L xs xs n c p] : EqR K L .non (.tup xs) (n + 1) c False := ⟨fun e => by
  obtain ⟨u, v, h1, h2, h3, h4, h5, h6, h7⟩ := h.h e
  exact ⟨_, _, .non, h2, rfl, h4, Nat.zero_le _, Nat.succ_le_succ h6, by simp [PyData.eqv]⟩⟩
instance [h : EqRs K L xs xs n c p] : EqR K L (.tup xs) .non (n + 1) c False := ⟨fun e => by
  obtain ⟨u, v, h1, h2, h3, h4, h5, h6, h7⟩ := h.h e
  exact ⟨_, _, h2, .non, h4, rfl, Nat.succ_le_succ h6, Nat.zero_le _, by simp [PyData.eqv]⟩⟩
instance {a b : Addr} [h1 : LAt K L a xs] [h2 : LAt K L b ys] [h : EqRs K L xs ys n c p] : EqR K L (.ref a) (.ref b) (n + 1) c p := ⟨fun e => by
  obtain ⟨u, v, g1, g2, h3, h4, h5, h6, h7⟩ := h.h e
  exact ⟨_, _, .lst h1 g1, .lst h2 g2, h3, h4, Nat.succ_le_succ h5, Nat.succ_le_succ h6, h7⟩⟩
instance {a : Addr} [h1 : LAt K L a xs] [h : EqRs K L xs xs n c p] : EqR K L (.ref a) .non (n + 1) c False := ⟨fun e => by
  obtain ⟨u, v, g1, g2, h3, h4, h5, h6, h7⟩ := h.h e
  exact ⟨_, _, .lst h1 g1, .non, h3, rfl, Nat.succ_le_succ h5, Nat.zero_le _, by simp [PyData.eqv]⟩⟩
instance (priority := 50) [h1 : Pln xs] [h2 : Pln ys] : EqRs K L xs ys 1 True (xs = ys) := ⟨fun _ =>
  ⟨_, _, dat2s h1.h, dat2s h2.h, (lay2 _).1, (lay2 _).1, (lay2 _).2, (lay2 _).2, toP2_all h1.h h2.h⟩⟩
theorem int_inj : ∀ {ns ms : List Int}, ns.map D.int = ms.map D.int ↔ ns = ms
  | [], [] => by simp
  | [], _ :: _ => by simp
  | _ :: _, [] => by simp
  | n :: ns, m :: ms => by simp only [List.map_cons, List.cons.injEq, D.int.injEq, int_inj]
instance {ns ms : List Int} : EqRs K L (ns.map .int) (ms.map .int) 1 True (ns = ms) := ⟨fun _ => by
  have h1 : Pln (ns.map D.int) := inferInstance
  have h2 : Pln (ms.map D.int) := inferInstance
  exact ⟨_, _, dat2s h1.h, dat2s h2.h, (lay2 _).1, (lay2 _).1, (lay2 _).2, (lay2 _).2, (toP2_all h1.h h2.h).trans int_inj⟩⟩
instance : EqRs K L [] [] 0 True True := ⟨fun _ => ⟨_, _, .tupN, .tupN, rfl, rfl, Nat.le_refl _, Nat.le_refl _, by simp [PyData.eqvAll]⟩⟩
instance [h : EqR K L x y n c p] : EqRs K L [x] [y] n c p := ⟨fun e => by
  obtain ⟨u, v, h1, h2, h3, h4, h5, h6, h7⟩ := h.h e
  refine ⟨_, _, .tupC h1 .tupN, .tupC h2 .tupN, ?_, ?_, ?_, ?_, ?_⟩
  · simp [PyData.canLayAll0, h3]
  · simp [PyData.canLayAll0, h4]
  · simpa [PyData.depthAll] using h5
  · simpa [PyData.depthAll] using h6
  · simp [PyData.eqvAll, h7]⟩
instance {x2 y2 : D} [h : EqR K L x y n c p] [g : EqRs K L (x2 :: xs) (y2 :: ys) m d q] : EqRs K L (x :: x2 :: xs) (y :: y2 :: ys) (n + m) (c ∧ d) (p ∧ q) := ⟨fun e => by
  obtain ⟨u, v, h1, h2, h3, h4, h5, h6, h7⟩ := h.h e.1
  obtain ⟨us, vs, g1, g2, g3, g4, g5, g6, g7⟩ := g.h e.2
  refine ⟨_, _, .tupC h1 g1, .tupC h2 g2, ?_, ?_, ?_, ?_, ?_⟩
  · simp [PyData.canLayAll0, h3, g3]
  · simp [PyData.canLayAll0, h4, g4]
  · simp only [PyData.depthAll]; exact Nat.max_le.mpr ⟨by omega, by omega⟩
  · simp only [PyData.depthAll]; exact Nat.max_le.mpr ⟨by omega, by omega⟩
  · simp only [PyData.eqvAll, Bool.and_eq_true, h7, g7]⟩
theorem shp {u : PyData} {n : Nat} (h1 : u.canLay0 = true) (h2 : u.depth ≤ n) (h3 : n ≤ 64) : SeqAt.shaped u = true := by
  unfold SeqAt.shaped
  rw [h1, Bool.true_and]
  exact decide_eq_true (Nat.le_trans h2 h3)
open Classical in
/-- is it so -/
noncomputable def dc (p : Prop) : Bool := decide p
open Classical in
theorem dc_t {p : Prop} (h : p) : dc p = true := by unfold dc; exact decide_eq_true h
open Classical in
theorem dc_f {p : Prop} (h : ¬ p) : dc p = false := by unfold dc; exact decide_eq_false h
open Classical in
theorem dc_iff {p : Prop} : dc p = true ↔ p := by unfold dc; exact decide_eq_true_iff
theorem dc_of {p : Prop} {b : Bool} (h : b = true ↔ p) : b = dc p := by
  cases b with
  | true => exact (dc_t (h.mp rfl)).symm
  | false => exact (dc_f fun z => by cases h.mpr z).symm
theorem dc_d {p : Prop} [Decidable p] : dc p = decide p := by
  by_cases h : p
  · rw [dc_t h, decide_eq_true h]
  · rw [dc_f h, decide_eq_false h]
theorem ite_c {p A B : Prop} (k1 : p → A) (k2 : ¬ p → B) : if dc p = true then A else B := by
  by_cases h : p
  · rw [dc_t h]; exact ite_t (k1 h)
  · rw [dc_f h]; exact ite_f (k2 h)
theorem ite_nc {p A B : Prop} (k1 : ¬ p → A) (k2 : p → B) : if (!dc p) = true then A else B := by
  by_cases h : p
  · rw [dc_t h]; exact ite_f (k2 h)
  · rw [dc_f h]; exact ite_t (k1 h)
theorem ite_ct {p A B : Prop} (h : p) (k : A) : if dc p = true then A else B := ite_c (fun _ => k) fun z => (z h).elim
theorem ite_cf {p A B : Prop} (h : ¬ p) (k : B) : if dc p = true then A else B := ite_c (fun z => (h z).elim) fun _ => k
theorem ite_nct {p A B : Prop} (h : ¬ p) (k : A) : if (!dc p) = true then A else B := ite_nc (fun _ => k) fun z => (h z).elim
theorem ite_ncf {p A B : Prop} (h : p) (k : B) : if (!dc p) = true then A else B := ite_nc (fun z => (z h).elim) fun _ => k
variable {Q : DV}
instance (priority := 100) i_eqR [h : EqR K L x y n c p] : Step (dEq K x y L Q) (Dk (n ≤ 64) (Dk c (Q (.bl (dc p)) L))) := ⟨fun ⟨h1, h2, k⟩ => by
  obtain ⟨u, v, g1, g2, g3, g4, g5, g6, g7⟩ := h.h h2
  refine s_eqD g1 g2 (shp g3 g5 h1) (shp g4 g6 h1) ?_
  rw [dc_of g7]; exact k⟩
instance (priority := 100) i_neR [h : EqR K L x y n c p] : Step (dNe K x y L Q) (Dk (n ≤ 64) (Dk c (Q (.bl (!dc p)) L))) := ⟨fun ⟨h1, h2, k⟩ => by
  obtain ⟨u, v, g1, g2, g3, g4, g5, g6, g7⟩ := h.h h2
  refine s_neD g1 g2 (shp g3 g5 h1) (shp g4 g6 h1) ?_
  rw [dc_of g7]; exact k⟩
/-! in -/
class InI (z : Int) (ds : List D) (p : outParam Prop) : Prop where
  f : ds.all flatD = true
  h : inV (.int z) (ds.map toV) = true ↔ p
instance {z : Int} : InI z [] False := ⟨rfl, by simp [inV]⟩
instance {z w : Int} : InI z [.int w] (z = w) := ⟨rfl, by simp only [inV, toV, eqV, List.map_cons, List.map_nil, List.any_cons, List.any_nil, Bool.or_false, beq_iff_eq]; exact eq_comm⟩
instance {z w : Int} {x : D} {ds : List D} {p : Prop} [h : InI z (x :: ds) p] : InI z (.int w :: x :: ds) (z = w ∨ p) := ⟨by rw [List.all_cons, h.f]; rfl, by
  rw [← h.h]
  simp only [inV, List.map_cons, List.any_cons, Bool.or_eq_true, toV, eqV, beq_iff_eq]
  constructor
  · rintro (q | q)
    · exact .inl q.symm
    · exact .inr q
  · rintro (q | q)
    · exact .inl q.symm
    · exact .inr q⟩
theorem inI_map {z : Int} : ∀ {ns : List Int}, inV (.int z) ((ns.map D.int).map toV) = true ↔ z ∈ ns
  | [] => by simp [inV]
  | n :: ns => by
    have := inI_map (z := z) (ns := ns)
    simp only [inV, List.map_cons, List.any_cons, Bool.or_eq_true, toV, eqV, beq_iff_eq, List.mem_cons] at this ⊢
    rw [this]
    constructor
    · rintro (q | q)
      · exact .inl q.symm
      · exact .inr q
    · rintro (q | q)
      · exact .inl q.symm
      · exact .inr q
instance {z : Int} {ns : List Int} : InI z (ns.map .int) (z ∈ ns) := ⟨by simp [List.all_map, Function.comp_def, flatD], inI_map⟩
class InS (z : Str) (ds : List D) (p : outParam Prop) : Prop where
  f : ds.all flatD = true
  h : inV (.str z) (ds.map toV) = true ↔ p
instance {z w : Str} : InS z [.str w] (z = w) := ⟨rfl, by simp only [inV, toV, eqV, List.map_cons, List.map_nil, List.any_cons, List.any_nil, Bool.or_false, beq_iff_eq]; exact eq_comm⟩
instance {z w : Str} {x : D} {ds : List D} {p : Prop} [h : InS z (x :: ds) p] : InS z (.str w :: x :: ds) (z = w ∨ p) := ⟨by rw [List.all_cons, h.f]; rfl, by
  rw [← h.h]
  simp only [inV, List.map_cons, List.any_cons, Bool.or_eq_true, toV, eqV, beq_iff_eq]
  constructor
  · rintro (q | q)
    · exact .inl q.symm
    · exact .inr q
  · rintro (q | q)
    · exact .inl q.symm
    · exact .inr q⟩
variable {ds : List D}
instance i_inT {z : Int} [h : InI z ds p] : Step (dIn K (.int z) (.tup ds) L Q) (Q (.bl (dc p)) L) := ⟨fun k => s_inQ .tup rfl h.f (by rw [show toV (.int z) = .int z from rfl, dc_of h.h]; exact k)⟩
instance i_niT {z : Int} [h : InI z ds p] : Step (dNi K (.int z) (.tup ds) L Q) (Q (.bl (!dc p)) L) := ⟨fun k => s_niQ .tup rfl h.f (by rw [show toV (.int z) = .int z from rfl, dc_of h.h]; exact k)⟩
instance i_inTs {z : Str} [h : InS z ds p] : Step (dIn K (.str z) (.tup ds) L Q) (Q (.bl (dc p)) L) := ⟨fun k => s_inQ .tup rfl h.f (by rw [show toV (.str z) = .str z from rfl, dc_of h.h]; exact k)⟩
instance i_niTs {z : Str} [h : InS z ds p] : Step (dNi K (.str z) (.tup ds) L Q) (Q (.bl (!dc p)) L) := ⟨fun k => s_niQ .tup rfl h.f (by rw [show toV (.str z) = .str z from rfl, dc_of h.h]; exact k)⟩
instance i_inL {z : Int} {a : Addr} [g : LAt K L a ds] [h : InI z ds p] : Step (dIn K (.int z) (.ref a) L Q) (Q (.bl (dc p)) L) := ⟨fun k => s_inQ (.lst g) rfl h.f (by rw [show toV (.int z) = .int z from rfl, dc_of h.h]; exact k)⟩
instance i_niL {z : Int} {a : Addr} [g : LAt K L a ds] [h : InI z ds p] : Step (dNi K (.int z) (.ref a) L Q) (Q (.bl (!dc p)) L) := ⟨fun k => s_niQ (.lst g) rfl h.f (by rw [show toV (.int z) = .int z from rfl, dc_of h.h]; exact k)⟩
end
section
variable {δ δ' : DS} {L : Cl} {xc : DX} {Q : DV} {nx : DS → Cl → Prop} {rt : DV} {bk ct : DS → Cl → Prop} {xe : DX} {K : PySem.W.Frag} {ta tb te to : DE} {tr : DA} {x : D}
instance {A B : Prop} : Step (if (!true) = true then A else B) B := ⟨fun k => ite_f k⟩
instance {A B : Prop} : Step (if (!false) = true then A else B) A := ⟨fun k => ite_t k⟩
instance {a : Addr} : Step (dIsN (.ref a) .non L Q) (Q (.bl false) L) := ⟨fun k => ⟨rfl, k⟩⟩
instance {a : Int} : Step (dIsN (.int a) .non L Q) (Q (.bl false) L) := ⟨fun k => ⟨rfl, k⟩⟩
instance {a : Str} : Step (dIsN (.str a) .non L Q) (Q (.bl false) L) := ⟨fun k => ⟨rfl, k⟩⟩
instance {a : List D} : Step (dIsN (.tup a) .non L Q) (Q (.bl false) L) := ⟨fun k => ⟨rfl, k⟩⟩
instance {a : Bool} : Step (dIsN (.bl a) .non L Q) (Q (.bl false) L) := ⟨fun k => ⟨rfl, k⟩⟩
instance : Step (dIsN .non .non L Q) (Q (.bl true) L) := ⟨fun k => ⟨rfl, k⟩⟩
instance {a : Addr} : Step (dNotN (.ref a) .non L Q) (Q (.bl true) L) := ⟨fun k => ⟨rfl, k⟩⟩
instance {a : Int} : Step (dNotN (.int a) .non L Q) (Q (.bl true) L) := ⟨fun k => ⟨rfl, k⟩⟩
instance {a : Str} : Step (dNotN (.str a) .non L Q) (Q (.bl true) L) := ⟨fun k => ⟨rfl, k⟩⟩
instance {a : List D} : Step (dNotN (.tup a) .non L Q) (Q (.bl true) L) := ⟨fun k => ⟨rfl, k⟩⟩
instance {a : Bool} : Step (dNotN (.bl a) .non L Q) (Q (.bl true) L) := ⟨fun k => ⟨rfl, k⟩⟩
instance : Step (dNotN .non .non L Q) (Q (.bl false) L) := ⟨fun k => ⟨rfl, k⟩⟩
/-! calls without defaults -/
instance {sp : DSp} : Step (dCall sp [] tr xc δ L Q) (tr xc δ L fun ds L1 => sp ds L1 Q fun c L' => xc c δ L') := ⟨fun k => by
  show tr xc δ L fun ds L1 => sp (ds ++ []) L1 Q fun c L' => xc c δ L'
  have e : (fun (ds : List D) L1 => sp (ds ++ []) L1 Q fun c L' => xc c δ L') = fun ds L1 => sp ds L1 Q fun c L' => xc c δ L' := by funext ds L1; rw [List.append_nil]
  rw [e]; exact k⟩
instance {C : Addr} {m : Str} {sp : DSp} : Step (dMeth C m sp [] to tr xc δ L Q) (to xc δ L fun x L1 => ∃ a ns fs, x = .ref a ∧ At L1 a (.ins C ns fs) ∧ m ∉ ns ∧ tr xc δ L1 fun ds L2 => sp (x :: ds) L2 Q fun c L' => xc c δ L') := ⟨fun k => by
  show to xc δ L fun x L1 => ∃ a ns fs, x = .ref a ∧ At L1 a (.ins C ns fs) ∧ m ∉ ns ∧ tr xc δ L1 fun ds L2 => sp (x :: (ds ++ [])) L2 Q fun c L' => xc c δ L'
  have e : ∀ x, (fun (ds : List D) L2 => sp (x :: (ds ++ [])) L2 Q fun c L' => xc c δ L') = fun ds L2 => sp (x :: ds) L2 Q fun c L' => xc c δ L' := by intro x; funext ds L2; rw [List.append_nil]
  simp only [e]; exact k⟩
instance {C : Addr} {sp : DSp} : Step (dMake C sp [] tr xc δ L Q) (tr xc δ L fun ds L1 => ∀ x, sp (.ref x :: ds) ((x, .ins C [] []) :: L1) (fun d L2 => d = .non ∧ Q (.ref x) L2) fun c L' => xc c δ L') := ⟨fun k => by
  show tr xc δ L fun ds L1 => ∀ x, sp (.ref x :: (ds ++ [])) ((x, .ins C [] []) :: L1) (fun d L2 => d = .non ∧ Q (.ref x) L2) fun c L' => xc c δ L'
  have e : (fun (ds : List D) L1 => ∀ x, sp (.ref x :: (ds ++ [])) ((x, .ins C [] []) :: L1) (fun d L2 => d = .non ∧ Q (.ref x) L2) fun c L' => xc c δ L') = fun ds L1 => ∀ x, sp (.ref x :: ds) ((x, .ins C [] []) :: L1) (fun d L2 => d = .non ∧ Q (.ref x) L2) fun c L' => xc c δ L' := by
    funext ds L1; rw [List.append_nil]
  rw [e]; exact k⟩
instance {d : D} {R : Prop} : Step (d = d ∧ R) R := ⟨fun k => ⟨rfl, k⟩⟩
class Snoc {α : Type} (xs : List α) (x : α) (ys : outParam (List α)) : Prop where h : ys = xs ++ [x]
instance {α : Type} {x : α} : Snoc [] x [x] := ⟨rfl⟩
instance {α : Type} {a x : α} {xs ys : List α} [h : Snoc xs x ys] : Snoc (a :: xs) x (a :: ys) := ⟨by rw [h.h]; rfl⟩
instance (priority := 100) i_setFnew {f : Str} {a C : Addr} {ns ns' : List Str} {ds ds' : List D} {y : D} {R : Cl → Prop} {put : GO → Cl} [h : Slot L a (.ins C ns ds) put] [h1 : Snoc ns f ns'] [h2 : Snoc ds y ds'] [g2 : FO K C f] :
  Step (∃ a' C ns ds, D.ref a = .ref a' ∧ FldOk K C f ∧ ns.length < 1000 ∧ ((∃ ds' L3, NUp ns ds f y ds' ∧ Up L a' (.ins C ns ds) (.ins C ns ds') L3 ∧ R L3) ∨ (f ∉ ns ∧ ∃ L3, Up L a' (.ins C ns ds) (.ins C (ns ++ [f]) (ds ++ [y])) L3 ∧ R L3)))
    (Dk (f ∉ ns) (Ln (ns.length < 1000) (R (put (.ins C ns' ds'))))) := ⟨fun ⟨g1, g3, k⟩ => s_setFnew (by rw [← h1.h, ← h2.h]; exact h.up _) g1 g2.h g3 k⟩
class KPr (ps : List (D × D)) (kvs : outParam (List (Key × D))) : Prop where h : KPairs ps kvs
instance : KPr [] [] := ⟨.nil⟩
instance {s : Str} {d : D} {ps : List (D × D)} {kvs : List (Key × D)} [h : KPr ps kvs] : KPr ((.str s, d) :: ps) ((.inr s, d) :: kvs) := ⟨.str h.h⟩
instance {s : Int} {d : D} {ps : List (D × D)} {kvs : List (Key × D)} [h : KPr ps kvs] : KPr ((.int s, d) :: ps) ((.inl s, d) :: kvs) := ⟨.int h.h⟩
instance i_kpairs {ps : List (D × D)} {kvs : List (Key × D)} {p : Addr} {put : GO → Cl} {R : Cl → Prop} [h1 : KPr ps kvs] [h2 : Slot L p (.dct []) put] :
  Step (∃ kvs L3, KPairs ps kvs ∧ kvs.length ≤ 15 ∧ (kvs.map (·.1)).Nodup ∧ Up L p (.dct []) (.dct kvs) L3 ∧ R L3) (Ln (kvs.length ≤ 15) (Dk ((kvs.map (·.1)).Nodup) (R (put (.dct kvs))))) :=
  ⟨fun ⟨g1, g2, k⟩ => ⟨kvs, _, h1.h, g1, g2, h2.up _, k⟩⟩
/-- the handler is asked -/
def Tx (K : PySem.W.Frag) (c cls : Value) (A B : Prop) : Prop := ∃ b, PySem.W.exmOne K cls c = some b ∧ (b = true → A) ∧ (b = false → B)
theorem Tx.yes {c cls : Value} {A B : Prop} (h : PySem.W.exmOne K cls c = some true) (k : A) : Tx K c cls A B := ⟨true, h, fun _ => k, fun z => by cases z⟩
theorem Tx.no {c cls : Value} {A B : Prop} (h : PySem.W.exmOne K cls c = some false) (k : B) : Tx K c cls A B := ⟨false, h, fun z => by (cases z), fun _ => k⟩
instance i_txY {c cls : Value} {A B : Prop} [h : ExM K c cls true] : Step (Tx K c cls A B) A := ⟨fun k => .yes h.h k⟩
instance i_txN {c cls : Value} {A B : Prop} [h : ExM K c cls false] : Step (Tx K c cls A B) B := ⟨fun k => .no h.h k⟩
instance i_try {c : Value} {t u : DTS} : Step (dTry K c t u (.mk nx rt bk ct xe) δ L) (t (.mk nx rt bk ct (fun cls δ1 L1 => Tx K c cls (u (.mk nx rt bk ct noX) δ1 L1) (xe cls δ1 L1))) δ L) := ⟨fun k => k⟩
/-- a comprehension's loop -/
def LcG (J : DIt) (g : DG) (tt : DT) (te : DE) (δ : DS) (p : Addr) (L1 : Cl) (Q : DV) : Prop := ∃ W : Nat → Nat → Cl → Prop, (∃ m L2, Sub L1 L2 ∧ W 0 m L2) ∧ ∀ i m L, W i m L →
  (J.stop i L ∧ Q (.ref p) L) ∨ (J.go i L ∧ ∃ Nx : Cl → Prop, (∀ L', Nx L' → ∃ m' L2, m' < m ∧ Sub L' L2 ∧ W (i + 1) m' L2) ∧ ∀ d L', J.yld i L d L' → g noX d δ L' fun δ2 L2 => tt noX δ2 L2 fun b L3 =>
    if b = true then te noX δ2 L3 fun y L4 => ∃ acc L5, acc.length < sizeLine ∧ Up L4 p (.lst acc) (.lst (acc ++ [y])) L5 ∧ Nx L5 else Nx L3)
class SetN (δ : DS) (i : Nat) (δ' : outParam DS) : Prop where h : δ' = δ.set i none
instance {o : Option D} {r : DS} : SetN (o :: r) 0 (none :: r) := ⟨rfl⟩
instance {o : Option D} {r r' : DS} {i : Nat} [h : SetN r i r'] : SetN (o :: r) (i + 1) (o :: r') := ⟨by rw [h.h]; rfl⟩
class Wip (own : List (Str × Nat)) (δ : DS) (δ' : outParam DS) : Prop where h : wipeD δ (own.map (·.2)) = δ'
instance {δ : DS} : Wip [] δ δ := ⟨rfl⟩
instance {s : Str} {v : Nat} {own : List (Str × Nat)} {δ δ1 δ2 : DS} [h : Wip own δ δ1] [g : SetN δ1 v δ2] : Wip ((s, v) :: own) δ δ2 := ⟨by rw [g.h, ← h.h]; rfl⟩
instance i_lc {wi : DI} {g : DG} {tt : DT} {own : List (Str × Nat)} [h : Wip own δ δ'] : Step (dLc wi g tt te (own.map (·.2)) xc δ L Q) (wi xc δ L fun J L1 => ∀ p, LcG J g tt te δ' p ((p, .lst []) :: L1) Q) := ⟨fun k => by
  unfold LcG at k
  rw [← h.h] at k
  exact k⟩
instance i_yes {R : Bool → Cl → Prop} : Step (dYes xc δ L R) (R true L) := ⟨fun k => k⟩
def LcN (p : Addr) (Pv : Nat → List D → Cl → Prop) (j : Nat) (L : Cl) : Prop := ∃ acc F, Sub L ((p, .lst acc) :: F) ∧ acc.length ≤ j ∧ Pv j acc F
instance i_lcy {p : Addr} {acc : List D} {y : D} {R : Cl → Prop} {put : GO → Cl} [h : Slot L p (.lst acc) put] : Step (∃ acc L5, acc.length < sizeLine ∧ Up L p (.lst acc) (.lst (acc ++ [y])) L5 ∧ R L5) (Ln (acc.length < sizeLine) (R (put (.lst (acc ++ [y]))))) := ⟨fun ⟨g, k⟩ => ⟨acc, _, g, h.up _, k⟩⟩
theorem lc_tup {g : DG} {tt : DT} {p : Addr} {F : Cl} {ds : List D} (Pv : Nat → List D → Cl → Prop) (hn : ds.length ≤ sizeLine) (h0 : Pv 0 [] F)
    (hs : ∀ (i : Nat) (d : D) acc F, ds[i]? = some d → acc.length ≤ i → acc.length < sizeLine → Pv i acc F → g noX d δ ((p, .lst acc) :: F) fun δ2 L2 => tt noX δ2 L2 fun b L3 =>
      if b = true then te noX δ2 L3 fun y L4 => ∃ acc L5, acc.length < sizeLine ∧ Up L4 p (.lst acc) (.lst (acc ++ [y])) L5 ∧ LcN p Pv (i + 1) L5 else LcN p Pv (i + 1) L3)
    (hd : ∀ acc F, acc.length ≤ ds.length → Pv (ds.length) acc F → Q (.ref p) ((p, .lst acc) :: F)) : LcG (dItt ds) g tt te δ p ((p, .lst []) :: F) Q := by
  refine ⟨fun i m L => m = ds.length - i ∧ i ≤ ds.length ∧ ∃ acc F, L = (p, .lst acc) :: F ∧ acc.length ≤ i ∧ Pv i acc F, ⟨_, _, .refl, rfl, by omega, [], F, rfl, Nat.le_refl _, h0⟩, ?_⟩
  rintro i m L ⟨rfl, hi, acc, F, rfl, ha, hp⟩
  by_cases h : i < ds.length
  · refine .inr ⟨h, LcN p Pv (i + 1), fun L' ⟨acc, F', s, hl, hp⟩ => ⟨ds.length - (i + 1), _, by omega, s, rfl, h, acc, F', rfl, hl, hp⟩, fun d L' y => ?_⟩
    obtain ⟨rfl, e2⟩ := y
    exact hs i d acc F e2 ha (by omega) hp
  · have e : i = ds.length := by omega
    subst e
    exact .inl ⟨Nat.le_refl _, hd acc F ha hp⟩
theorem lc_lst {g : DG} {tt : DT} {p : Addr} {F : Cl} {ds : List D} {a : Addr} (Pv : Nat → List D → Cl → Prop) (hn : ds.length ≤ sizeLine) (h0 : Pv 0 [] F) (hl : ∀ (i : Nat) acc F, i ≤ ds.length → Pv i acc F → LAt K ((p, .lst acc) :: F) a ds)
    (hs : ∀ (i : Nat) (d : D) acc F, ds[i]? = some d → acc.length ≤ i → acc.length < sizeLine → Pv i acc F → g noX d δ ((p, .lst acc) :: F) fun δ2 L2 => tt noX δ2 L2 fun b L3 =>
      if b = true then te noX δ2 L3 fun y L4 => ∃ acc L5, acc.length < sizeLine ∧ Up L4 p (.lst acc) (.lst (acc ++ [y])) L5 ∧ LcN p Pv (i + 1) L5 else LcN p Pv (i + 1) L3)
    (hd : ∀ acc F, acc.length ≤ ds.length → Pv (ds.length) acc F → Q (.ref p) ((p, .lst acc) :: F)) : LcG (dItl K a ds) g tt te δ p ((p, .lst []) :: F) Q := by
  refine ⟨fun i m L => m = ds.length - i ∧ i ≤ ds.length ∧ ∃ acc F, L = (p, .lst acc) :: F ∧ acc.length ≤ i ∧ Pv i acc F, ⟨_, _, .refl, rfl, by omega, [], F, rfl, Nat.le_refl _, h0⟩, ?_⟩
  rintro i m L ⟨rfl, hi, acc, F, rfl, ha, hp⟩
  by_cases h : i < ds.length
  · refine .inr ⟨⟨hl _ _ _ hi hp, h⟩, LcN p Pv (i + 1), fun L' ⟨acc, F', s, hl, hp⟩ => ⟨ds.length - (i + 1), _, by omega, s, rfl, h, acc, F', rfl, hl, hp⟩, fun d L' y => ?_⟩
    obtain ⟨rfl, e2⟩ := y
    exact hs i d acc F e2 ha (by omega) hp
  · have e : i = ds.length := by omega
    subst e
    exact .inl ⟨⟨hl _ _ _ hi hp, Nat.le_refl _⟩, hd acc F ha hp⟩
theorem lc_rng {g : DG} {tt : DT} {p : Addr} {F : Cl} {lo : Int} {n : Nat} (Pv : Nat → List D → Cl → Prop) (hn : n ≤ sizeLine) (h0 : Pv 0 [] F)
    (hs : ∀ (i : Nat) (d : D) acc F, d = .int (lo + i) → acc.length ≤ i → acc.length < sizeLine → Pv i acc F → g noX d δ ((p, .lst acc) :: F) fun δ2 L2 => tt noX δ2 L2 fun b L3 =>
      if b = true then te noX δ2 L3 fun y L4 => ∃ acc L5, acc.length < sizeLine ∧ Up L4 p (.lst acc) (.lst (acc ++ [y])) L5 ∧ LcN p Pv (i + 1) L5 else LcN p Pv (i + 1) L3)
    (hd : ∀ acc F, acc.length ≤ n → Pv (n) acc F → Q (.ref p) ((p, .lst acc) :: F)) : LcG (dItr lo n) g tt te δ p ((p, .lst []) :: F) Q := by
  refine ⟨fun i m L => m = n - i ∧ i ≤ n ∧ ∃ acc F, L = (p, .lst acc) :: F ∧ acc.length ≤ i ∧ Pv i acc F, ⟨_, _, .refl, rfl, by omega, [], F, rfl, Nat.le_refl _, h0⟩, ?_⟩
  rintro i m L ⟨rfl, hi, acc, F, rfl, ha, hp⟩
  by_cases h : i < n
  · refine .inr ⟨h, LcN p Pv (i + 1), fun L' ⟨acc, F', s, hl, hp⟩ => ⟨n - (i + 1), _, by omega, s, rfl, h, acc, F', rfl, hl, hp⟩, fun d L' y => ?_⟩
    obtain ⟨rfl, e2⟩ := y
    exact hs i d acc F e2 ha (by omega) hp
  · have e : i = n := by omega
    subst e
    exact .inl ⟨Nat.le_refl _, hd acc F ha hp⟩
instance (priority := 2000) {b : Bool} : Step (dEq K (.bl true) (.bl b) L Q) (Q (.bl b) L) := ⟨fun k => by
  refine s_eqB ?_
  cases b <;> exact k⟩
instance (priority := 2000) {b : Bool} : Step (dEq K (.bl false) (.bl b) L Q) (Q (.bl (!b)) L) := ⟨fun k => by
  refine s_eqB ?_
  cases b <;> exact k⟩
instance (priority := 2000) {b : Bool} : Step (dEq K (.bl b) (.bl true) L Q) (Q (.bl b) L) := ⟨fun k => by
  refine s_eqB ?_
  cases b <;> exact k⟩
instance (priority := 2000) {b : Bool} : Step (dEq K (.bl b) (.bl false) L Q) (Q (.bl (!b)) L) := ⟨fun k => by
  refine s_eqB ?_
  cases b <;> exact k⟩
instance (priority := 2000) {b : Bool} : Step (dNe K (.bl true) (.bl b) L Q) (Q (.bl (!b)) L) := ⟨fun k => by
  refine s_neB ?_
  cases b <;> exact k⟩
instance (priority := 2000) {b : Bool} : Step (dNe K (.bl false) (.bl b) L Q) (Q (.bl b) L) := ⟨fun k => by
  refine s_neB ?_
  cases b <;> exact k⟩
instance (priority := 2000) {b : Bool} : Step (dNe K (.bl b) (.bl true) L Q) (Q (.bl (!b)) L) := ⟨fun k => by
  refine s_neB ?_
  cases b <;> exact k⟩
instance (priority := 2000) {b : Bool} : Step (dNe K (.bl b) (.bl false) L Q) (Q (.bl b) L) := ⟨fun k => by
  refine s_neB ?_
  cases b <;> exact k⟩
section
variable {R : Bool → Prop}
theorem bne_dec {i : Int} : (i != 0) = !decide (i = 0) := by
  by_cases h : i = 0
  · rw [h]; rfl
  · rw [decide_eq_false h]; exact bne_iff_ne.mpr h
instance {b : Bool} : Step (∃ k, TruD K L (.bl b) k ∧ R k) (R b) := ⟨fun k => ⟨_, .bl b, k⟩⟩
instance : Step (∃ k, TruD K L .non k ∧ R k) (R false) := ⟨fun k => ⟨_, .non, k⟩⟩
instance {i : Int} : Step (∃ k, TruD K L (.int i) k ∧ R k) (R (!decide (i = 0))) := ⟨fun k => ⟨_, .int i, by rw [bne_dec]; exact k⟩⟩
instance {x : Str} : Step (∃ k, TruD K L (.str x) k ∧ R k) (Ln (x.length ≤ sizeLine) (R (!decide ((x.length : Int) = 0)))) := ⟨fun ⟨g, k⟩ => ⟨_, .str g, by rw [bne_dec]; exact k⟩⟩
theorem emp_dec {α : Type} (ds : List α) : (!ds.isEmpty) = !decide ((ds.length : Int) = 0) := by cases ds <;> simp <;> omega
instance {ds : List D} : Step (∃ k, TruD K L (.tup ds) k ∧ R k) (R (!decide ((ds.length : Int) = 0))) := ⟨fun k => ⟨_, .seq .tup, by rw [emp_dec]; exact k⟩⟩
instance {a : Addr} {ds : List D} [h : LAt K L a ds] : Step (∃ k, TruD K L (.ref a) k ∧ R k) (R (!decide ((ds.length : Int) = 0))) := ⟨fun k => ⟨_, .seq (.lst h), by rw [emp_dec]; exact k⟩⟩
instance {a : Addr} {ds : List (Key × D)} [h : At L a (.dct ds)] : Step (∃ k, TruD K L (.ref a) k ∧ R k) (R (!decide ((ds.length : Int) = 0))) := ⟨fun k => ⟨_, .dct h, by rw [emp_dec]; exact k⟩⟩
end
theorem Wk.by {M : DS → Cl → Prop} {δ δ2 : DS} {L L2 : Cl} (h : M δ2 L2) (f : Fg δ δ2) (s : Sub L L2) : Wk M δ L := ⟨δ2, L2, f, s, h⟩
end
end DL
namespace Own
open PySem L2 DL
local macro_rules | `(tactic| tm_at "y_at") => `(tactic| first | (with_reducible exact At.here) | assumption | (apply At.there; tm_at "y_at"))
local macro_rules | `(tactic| tm_at "y_lat") => `(tactic| first | assumption | exact LAt.own (by tm_at "y_at") | exact LAt.frl (by tm_at "y_at") | (apply LAt.push; tm_at "y_lat"))
local macro_rules | `(tactic| tm_at "y_up") => `(tactic| first | (with_reducible exact Up.here) | (apply Up.there; tm_at "y_up"))
local macro_rules | `(tactic| tm_at "y_rem") => `(tactic| first | (with_reducible exact Rem.here) | exact Rem.here | (apply Rem.there; tm_at "y_rem"))
local macro_rules | `(tactic| tm_at "y_sub") => `(tactic| first | (with_reducible exact Sub.refl) | ((with_reducible refine Sub.pick (by with_unfolding_all (tm_at "y_rem")) ?_); tm_at "y_sub") | ((with_reducible refine Sub.drop ?_); tm_at "y_sub"))
local macro_rules | `(tactic| tm_at "y_set") => `(tactic| first | exact SetAt.z | (apply SetAt.s; tm_at "y_set"))
local macro_rules | `(tactic| tm_at "y_fg") => `(tactic| first | (with_reducible exact Fg.nil) | ((with_reducible apply Fg.keep); tm_at "y_fg") | ((with_reducible apply Fg.drop); tm_at "y_fg"))
local macro_rules | `(tactic| tm_at "y_na") => `(tactic| first | (with_reducible exact NAt.here) | (apply NAt.there; tm_at "y_na"))
local macro_rules | `(tactic| tm_at "y_nu") => `(tactic| first | (with_reducible exact NUp.here) | (apply NUp.there; tm_at "y_nu"))
local macro_rules | `(tactic| tm_at "y_kat") => `(tactic| first | (with_reducible exact KAt.here) | (apply KAt.there; tm_at "y_kat"))
local macro_rules | `(tactic| tm_at "y_kget") => `(tactic| first | (exact KGet.at_ (by tm_at "y_kat")) | (exact KGet.val (by assumption)))
local macro_rules | `(tactic| tm_at "y_kp") => `(tactic| first | exact KPairs.nil | ((with_reducible apply KPairs.str); tm_at "y_kp") | ((with_reducible apply KPairs.int); tm_at "y_kp"))
local macro_rules | `(tactic| tm_at "y_len") => `(tactic| first | assumption | exact Nat.le_of_ble_eq_true rfl | exact rfl | (rw [sizeLine_eq]; omega) | (simp only [List.length_append, List.length_map, List.length_cons, List.length_nil, sizeLine_eq] at *; omega))
local macro_rules | `(tactic| tm_at "y_ar") => `(tactic| first | omega | assumption | decide)
local macro_rules | `(tactic| tm_at "y_call") => `(tactic| fail "a call")
local macro_rules | `(tactic| tm_at "y_s2") => `(tactic| first
  | ((with_reducible show Ix _ _); (with_reducible refine Ix.mk (by with_unfolding_all (first | assumption | exact rfl)) ?_))
  | ((with_reducible refine Ar.mk ?_ ?_); focus (with_unfolding_all (first | omega | assumption | decide | (exact RgOk.of_le (by omega) (by omega) (by omega) (by omega)))))
  | ((with_reducible refine Ln.mk ?_ ?_); focus (with_unfolding_all (tm_at "y_len")))
  | ((with_reducible refine Dk.mk ?_ ?_); focus (with_unfolding_all (first | exact trivial | decide +kernel | (simp only [List.map_cons, List.map_nil]; decide +kernel))))
  | ((with_reducible refine Ne.mk ?_ ?_); focus (with_unfolding_all (first | decide | exact fun z => nomatch z)))
  | ((with_reducible show Kg _ _); (with_reducible refine Kg.mk (by with_unfolding_all (tm_at "y_kget")) ?_)))
local macro_rules | `(tactic| tm_at "y_s3") => `(tactic| first
  | ((with_reducible refine ite_dt ?_ ?_); focus (omega))
  | ((with_reducible refine ite_df ?_ ?_); focus (omega))
  | ((with_reducible refine ite_nt ?_ ?_); focus (omega))
  | ((with_reducible refine ite_nf ?_ ?_); focus (omega))
  | ((with_reducible refine ite_ct ?_ ?_); focus (first | omega | trivial))
  | ((with_reducible refine ite_cf ?_ ?_); focus (omega))
  | ((with_reducible refine ite_nct ?_ ?_); focus (omega))
  | ((with_reducible refine ite_ncf ?_ ?_); focus (first | omega | trivial)))
local macro_rules | `(tactic| tm_at "y_s") => `(tactic| first | (with_reducible refine Step.h ?_) | tm_at "y_s2" | tm_at "y_call" | tm_at "y_s3")
local macro_rules | `(tactic| tm_at "y_go") => `(tactic| repeat (tm_at "y_s"))
local macro_rules | `(tactic| tm_at "y_k") => `(tactic| try dsimp only [cxOf, Cx.blk, Cx.tr, Cx.suite])
local macro_rules | `(tactic| tm_at "y_gi") => `(tactic| repeat (first | tm_at "y_s" | intro _))
local macro_rules | `(tactic| tm_at "y_if") => `(tactic| first | (with_reducible refine ite_d (fun _ => ?_) (fun _ => ?_)) | (with_reducible refine ite_n (fun _ => ?_) (fun _ => ?_)) | (with_reducible refine ite_c (fun _ => ?_) (fun _ => ?_)) | (with_reducible refine ite_nc (fun _ => ?_) (fun _ => ?_)))
local macro_rules | `(tactic| tm_at "y_sp") => `(tactic| repeat' (first | tm_at "y_s" | tm_at "y_if"))
/-! the text by places -/
def topS (i : Nat) : Stmt := PySem.Challenge.pw_segmentfs_k00_whole_layouts_and_addresse.main.body.getD i (.Pass ⟨0, 0, 0, 0⟩)
abbrev s__law_deck : Stmt := topS 17
abbrev s__law_take : Stmt := topS 18
abbrev s__law_numbers : Stmt := topS 20
abbrev s_parts_of : Stmt := topS 11
abbrev s_Layout___init__ : Stmt := inClass (topS 10) 0
abbrev s__law_made : Stmt := topS 21
abbrev s__law_layout : Stmt := topS 19
abbrev s_region_start : Stmt := topS 15
abbrev s_address_at : Stmt := topS 12
abbrev s_place_of : Stmt := topS 14
abbrev s_segment_of : Stmt := topS 13
abbrev s_law : Stmt := topS 22
structure Ad where
  f__law_deck : Addr
  d__law_deck : FuncData
  f__law_take : Addr
  d__law_take : FuncData
  f__law_numbers : Addr
  d__law_numbers : FuncData
  f_parts_of : Addr
  d_parts_of : FuncData
  f_Layout___init__ : Addr
  d_Layout___init__ : FuncData
  f__law_made : Addr
  d__law_made : FuncData
  f__law_layout : Addr
  d__law_layout : FuncData
  f_region_start : Addr
  d_region_start : FuncData
  f_address_at : Addr
  d_address_at : FuncData
  f_place_of : Addr
  d_place_of : FuncData
  f_segment_of : Addr
  d_segment_of : FuncData
  f_law : Addr
  d_law : FuncData
  c_Layout : Addr
  c_InvalidFormat : Addr
class Txt (K : PySem.W.Frag) (mg : outParam (Str → Option Value)) (A : Ad) : Prop where
  fn__law_deck : Fun K "_law_deck" "_law_deck" s__law_deck A.f__law_deck A.d__law_deck
  bd__law_deck : Binds K A.d__law_deck ["script", "cells", "each"] []
  mg__law_deck : mg "_law_deck" = some (.ref A.f__law_deck)
  fn__law_take : Fun K "_law_take" "_law_take" s__law_take A.f__law_take A.d__law_take
  bd__law_take : Binds K A.d__law_take ["deck", "many"] []
  mg__law_take : mg "_law_take" = some (.ref A.f__law_take)
  fn__law_numbers : Fun K "_law_numbers" "_law_numbers" s__law_numbers A.f__law_numbers A.d__law_numbers
  bd__law_numbers : Binds K A.d__law_numbers ["sizes"] []
  mg__law_numbers : mg "_law_numbers" = some (.ref A.f__law_numbers)
  fn_parts_of : Fun K "parts_of" "parts_of" s_parts_of A.f_parts_of A.d_parts_of
  bd_parts_of : Binds K A.d_parts_of ["number", "size"] []
  mg_parts_of : mg "parts_of" = some (.ref A.f_parts_of)
  fn_Layout___init__ : Fun K "__init__" "Layout.__init__" s_Layout___init__ A.f_Layout___init__ A.d_Layout___init__
  bd_Layout___init__ : Binds K A.d_Layout___init__ ["self", "segments", "segment_blocks", "block_size"] []
  fn__law_made : Fun K "_law_made" "_law_made" s__law_made A.f__law_made A.d__law_made
  bd__law_made : Binds K A.d__law_made ["sizes"] []
  mg__law_made : mg "_law_made" = some (.ref A.f__law_made)
  fn__law_layout : Fun K "_law_layout" "_law_layout" s__law_layout A.f__law_layout A.d__law_layout
  bd__law_layout : Binds K A.d__law_layout ["deck"] []
  mg__law_layout : mg "_law_layout" = some (.ref A.f__law_layout)
  fn_region_start : Fun K "region_start" "region_start" s_region_start A.f_region_start A.d_region_start
  bd_region_start : Binds K A.d_region_start ["layout", "region"] []
  mg_region_start : mg "region_start" = some (.ref A.f_region_start)
  fn_address_at : Fun K "address_at" "address_at" s_address_at A.f_address_at A.d_address_at
  bd_address_at : Binds K A.d_address_at ["layout", "segment", "place"] []
  mg_address_at : mg "address_at" = some (.ref A.f_address_at)
  fn_place_of : Fun K "place_of" "place_of" s_place_of A.f_place_of A.d_place_of
  bd_place_of : Binds K A.d_place_of ["layout", "address"] []
  mg_place_of : mg "place_of" = some (.ref A.f_place_of)
  fn_segment_of : Fun K "segment_of" "segment_of" s_segment_of A.f_segment_of A.d_segment_of
  bd_segment_of : Binds K A.d_segment_of ["layout", "address"] []
  mg_segment_of : mg "segment_of" = some (.ref A.f_segment_of)
  fn_law : Fun K "law" "law" s_law A.f_law A.d_law
  bd_law : Binds K A.d_law ["script"] []
  mg_law : mg "law" = some (.ref A.f_law)
  cl_Layout : Cls K A.c_Layout
  mg_Layout : mg "Layout" = some (.ref A.c_Layout)
  mk_Layout : Mk K A.c_Layout A.f_Layout___init__
  at_Layout_segments : FldOk K A.c_Layout "segments"
  at_Layout_segment_blocks : FldOk K A.c_Layout "segment_blocks"
  at_Layout_block_size : FldOk K A.c_Layout "block_size"
  at_Layout_payload : FldOk K A.c_Layout "payload"
  at_Layout_limit : FldOk K A.c_Layout "limit"
  at_Layout_last_id : FldOk K A.c_Layout "last_id"
  at_Layout_fan : FldOk K A.c_Layout "fan"
  at_Layout_region_blocks : FldOk K A.c_Layout "region_blocks"
  at_Layout_device_blocks : FldOk K A.c_Layout "device_blocks"
  mg_InvalidFormat : mg "InvalidFormat" = some (.ref A.c_InvalidFormat)
  xc_InvalidFormat : PySem.W.excIn K A.c_InvalidFormat [.type "ValueError", .type "Exception", .type "BaseException", .type "object"] "ValueError.__new__" = true
  kp_InvalidFormat : PySem.W.keepIn K (.ref A.c_InvalidFormat) = true
  sb_InvalidFormat : PySem.W.subIn K (.ref A.c_InvalidFormat) (.type "BaseException") = some true
  ty_InvalidFormat : PySem.W.typeIn K (.ref A.c_InvalidFormat) = some (.type "type")
  me_InvalidFormat : PySem.W.exmOne K (.ref A.c_InvalidFormat) (.ref A.c_InvalidFormat) = some true
  cn_LEAST_SEGMENTS : CstD K mg "LEAST_SEGMENTS" (.int (4))
  cn_MOST_SEGMENTS : CstD K mg "MOST_SEGMENTS" (.int (16))
  cn_LEAST_BLOCKS : CstD K mg "LEAST_BLOCKS" (.int (16))
  cn_MOST_BLOCKS : CstD K mg "MOST_BLOCKS" (.int (32))
  cn_HEAD_OCTETS : CstD K mg "HEAD_OCTETS" (.int (16))
  cn_SLOTS : CstD K mg "SLOTS" (.int (3))
  nb_len : mg "len" = none
  nb_range : mg "range" = none
  nb_abs : mg "abs" = none
  nb_int : mg "int" = none
  nb_list : mg "list" = none
theorem sc__law_deck : FnScope ["script", "cells", "each", "deck", "seed", "k", "cell", "rest", "at"] ["script", "cells", "each"] (defScope s__law_deck) := ⟨rfl, rfl, rfl, by decide +kernel, rfl, by decide +kernel, by decide +kernel⟩
theorem sc__law_take : FnScope ["deck", "many"] ["deck", "many"] (defScope s__law_take) := ⟨rfl, rfl, rfl, by decide +kernel, rfl, by decide +kernel, by decide +kernel⟩
theorem sc__law_numbers : FnScope ["sizes", "segments", "blocks", "size", "payload", "limit", "last", "whole", "region"] ["sizes"] (defScope s__law_numbers) := ⟨rfl, rfl, rfl, by decide +kernel, rfl, by decide +kernel, by decide +kernel⟩
theorem sc_parts_of : FnScope ["number", "size"] ["number", "size"] (defScope s_parts_of) := ⟨rfl, rfl, rfl, by decide +kernel, rfl, by decide +kernel, by decide +kernel⟩
theorem sc_Layout___init__ : FnScope ["self", "segments", "segment_blocks", "block_size", "numbers"] ["self", "segments", "segment_blocks", "block_size"] (defScope s_Layout___init__) := ⟨rfl, rfl, rfl, by decide +kernel, rfl, by decide +kernel, by decide +kernel⟩
theorem sc__law_made : FnScope ["sizes"] ["sizes"] (defScope s__law_made) := ⟨rfl, rfl, rfl, by decide +kernel, rfl, by decide +kernel, by decide +kernel⟩
theorem sc__law_layout : FnScope ["deck"] ["deck"] (defScope s__law_layout) := ⟨rfl, rfl, rfl, by decide +kernel, rfl, by decide +kernel, by decide +kernel⟩
theorem sc_region_start : FnScope ["layout", "region"] ["layout", "region"] (defScope s_region_start) := ⟨rfl, rfl, rfl, by decide +kernel, rfl, by decide +kernel, by decide +kernel⟩
theorem sc_address_at : FnScope ["layout", "segment", "place"] ["layout", "segment", "place"] (defScope s_address_at) := ⟨rfl, rfl, rfl, by decide +kernel, rfl, by decide +kernel, by decide +kernel⟩
theorem sc_place_of : FnScope ["layout", "address", "first"] ["layout", "address"] (defScope s_place_of) := ⟨rfl, rfl, rfl, by decide +kernel, rfl, by decide +kernel, by decide +kernel⟩
theorem sc_segment_of : FnScope ["layout", "address", "first"] ["layout", "address"] (defScope s_segment_of) := ⟨rfl, rfl, rfl, by decide +kernel, rfl, by decide +kernel, by decide +kernel⟩
theorem sc_law : FnScope ["script", "deck", "turn", "sizes", "layout", "told", "right", "start", "region", "seen", "segment", "place", "address", "number", "size", "parts"] ["script"] (defScope s_law) := ⟨rfl, rfl, rfl, by decide +kernel, rfl, by decide +kernel, by decide +kernel⟩
instance {K : PySem.W.Frag} {mg : Str → Option Value} {A : Ad} [T : Txt K mg A] : FO K A.c_Layout "segments" := ⟨T.at_Layout_segments⟩
instance {K : PySem.W.Frag} {mg : Str → Option Value} {A : Ad} [T : Txt K mg A] : FO K A.c_Layout "segment_blocks" := ⟨T.at_Layout_segment_blocks⟩
instance {K : PySem.W.Frag} {mg : Str → Option Value} {A : Ad} [T : Txt K mg A] : FO K A.c_Layout "block_size" := ⟨T.at_Layout_block_size⟩
instance {K : PySem.W.Frag} {mg : Str → Option Value} {A : Ad} [T : Txt K mg A] : FO K A.c_Layout "payload" := ⟨T.at_Layout_payload⟩
instance {K : PySem.W.Frag} {mg : Str → Option Value} {A : Ad} [T : Txt K mg A] : FO K A.c_Layout "limit" := ⟨T.at_Layout_limit⟩
instance {K : PySem.W.Frag} {mg : Str → Option Value} {A : Ad} [T : Txt K mg A] : FO K A.c_Layout "last_id" := ⟨T.at_Layout_last_id⟩
instance {K : PySem.W.Frag} {mg : Str → Option Value} {A : Ad} [T : Txt K mg A] : FO K A.c_Layout "fan" := ⟨T.at_Layout_fan⟩
instance {K : PySem.W.Frag} {mg : Str → Option Value} {A : Ad} [T : Txt K mg A] : FO K A.c_Layout "region_blocks" := ⟨T.at_Layout_region_blocks⟩
instance {K : PySem.W.Frag} {mg : Str → Option Value} {A : Ad} [T : Txt K mg A] : FO K A.c_Layout "device_blocks" := ⟨T.at_Layout_device_blocks⟩
instance {K : PySem.W.Frag} {mg : Str → Option Value} {A : Ad} [T : Txt K mg A] : ExM K (.ref A.c_InvalidFormat) (.ref A.c_InvalidFormat) true := ⟨T.me_InvalidFormat⟩
theorem ediv_bd {x z : Int} (h : 0 ≤ x) (h2 : 0 ≤ z) : 0 ≤ x / z ∧ x / z ≤ x := ⟨Int.ediv_nonneg h h2, Int.ediv_le_self z h⟩
def lastI (s b : Int) : Int := (s - 2) * (b - 1) + (b - 1)
def regI (s b z : Int) : Int := (2 * (4 * lastI s b + 6 + s) + z - 1) / z
def devI (s b z : Int) : Int := 2 * regI s b z + s * b
def okL (s b z : Int) : Prop := 4 ≤ s ∧ s ≤ 16 ∧ 16 ≤ b ∧ b ≤ 32 ∧ (z = 64 ∨ z = 128 ∨ z = 256) ∧ 16 + 2 * (b - 1) + (lastI s b + 7) / 8 ≤ z
abbrev Lay (A : Ad) (s b z : Int) : GO := .ins A.c_Layout ["segments", "segment_blocks", "block_size", "payload", "limit", "last_id", "fan", "region_blocks", "device_blocks"] [.int s, .int b, .int z, .int (b - 1), .int ((s - 2) * (b - 1)), .int (lastI s b), .int (z / 2), .int (regI s b z), .int (devI s b z)]
theorem lastI_bd {s b : Int} (h : 0 ≤ s ∧ s ≤ 100) (h2 : 0 ≤ b ∧ b ≤ 100) : -1000000 ≤ (s - 2) * (b - 1) ∧ (s - 2) * (b - 1) ≤ 1000000 := by
  have a : -100 ≤ s - 2 ∧ s - 2 ≤ 100 := by omega
  have c : -100 ≤ b - 1 ∧ b - 1 ≤ 100 := by omega
  have e := Int.natAbs_mul (s - 2) (b - 1)
  have f : (s - 2).natAbs * (b - 1).natAbs ≤ 100 * 100 := Nat.mul_le_mul (by omega) (by omega)
  omega
/-- a row of draws -/
def Deck (ms : List Int) : Prop := ∀ m ∈ ms, 0 ≤ m ∧ m < 1000003
theorem Deck.snoc {ms : List Int} {z : Int} (h : Deck ms) (h0 : 0 ≤ z) (h1 : z < 1000003) : Deck (ms ++ [z]) := fun m hm => by
  rcases List.mem_append.mp hm with q | q
  · exact h m q
  · rw [List.mem_singleton.mp q]; exact ⟨h0, h1⟩
abbrev nums (s b z : Int) : GO := .dct [(.inr "payload", .int (b - 1)), (.inr "limit", .int ((s - 2) * (b - 1))), (.inr "last_id", .int (lastI s b)), (.inr "fan", .int (z / 2)), (.inr "region_blocks", .int (regI s b z)), (.inr "device_blocks", .int (devI s b z))]
theorem regI_bd {s b z : Int} (h : 0 ≤ s ∧ s ≤ 100) (h2 : 0 ≤ b ∧ b ≤ 100) (h3 : 0 < z ∧ z ≤ 1000) : -20000000 ≤ regI s b z ∧ regI s b z ≤ 20000000 := by
  have e := lastI_bd h h2
  unfold regI lastI
  generalize hx : 2 * (4 * ((s - 2) * (b - 1) + (b - 1)) + 6 + s) + z - 1 = y
  have hy : -20000000 ≤ y ∧ y ≤ 20000000 := by omega
  exact ⟨Int.le_ediv_of_mul_le (by omega) (by omega), Int.ediv_le_of_le_mul (by omega) (by omega)⟩
def LaySz (s b z : Int) : Prop := (s = 4 ∧ b = 16 ∧ z = 64) ∨ (s = 5 ∧ b = 16 ∧ z = 64) ∨ (s = 6 ∧ b = 17 ∧ z = 128) ∨ (s = 4 ∧ b = 24 ∧ z = 128) ∨ (s = 16 ∧ b = 32 ∧ z = 256)
theorem rgD_nil {a : Int} : rgD a a = [] := by unfold rgD; rw [Int.sub_self]; rfl
theorem rgD_snoc {a b : Int} (h : a ≤ b) : rgD a b ++ [D.int b] = rgD a (b + 1) := by
  unfold rgD
  rw [show (b + 1 - a).toNat = (b - a).toNat + 1 from by omega, List.range_succ, List.map_append, List.map_cons, List.map_nil, show a + ((b - a).toNat : Int) = b from by omega]
theorem rgD_len {a b : Int} : (rgD a b).length = (b - a).toNat := by unfold rgD; rw [List.length_map, List.length_range]
theorem rgD_at {a b : Int} {i : Nat} {d : D} (h : (rgD a b)[i]? = some d) : d = .int (a + i) ∧ a + i < b := by
  unfold rgD at h
  rw [List.getElem?_map] at h
  by_cases q : i < (b - a).toNat
  · rw [List.getElem?_range q] at h
    simp at h
    exact ⟨h.symm, by omega⟩
  · rw [List.getElem?_eq_none (by rw [List.length_range]; omega)] at h; cases h
theorem parts_law {n s : Int} (hn : 0 ≤ n) (hs : 0 < s) : n ≤ (n + s - 1) / s * s ∧ (0 < (n + s - 1) / s → ((n + s - 1) / s - 1) * s < n) ∧ 0 ≤ (n + s - 1) / s := by
  have a1 := Int.ediv_mul_add_emod (n + s - 1) s
  have a2 := Int.emod_nonneg (n + s - 1) (b := s) (by omega)
  have a3 := Int.emod_lt_of_pos (n + s - 1) (b := s) hs
  rw [Int.sub_mul]
  refine ⟨by omega, fun h => ?_, Int.ediv_nonneg (by omega) (by omega)⟩
  omega
theorem place_law {g b p : Int} (h0 : 0 ≤ p) (h1 : p < b) : (g * b + p) / b = g ∧ (g * b + p) % b = p := by
  constructor
  · rw [Int.mul_add_ediv_right _ _ (by omega), Int.ediv_eq_zero_of_lt h0 h1]; omega
  · rw [Int.add_comm, Int.add_mul_emod_self_right]; exact Int.emod_eq_of_lt h0 h1


section
variable {P : Program} {w : World} {K : PySem.W.Frag} {mg : Str → Option Value} {base : Heap} {A : Ad}
def sp__law_deck (K : PySem.W.Frag) (_ : Ad) : DSp := fun ds L Q _ => ∃ (a : Addr) (ns : List Int) (c e : Nat), ds = [.ref a, .int c, .int e] ∧ LAt K L a (ns.map .int) ∧ ns.length ≤ 63 ∧ c ≤ 200 ∧ e ≤ 200 ∧
  ∀ p (ms : List Int), Deck ms → ms.length = c * e → Q (.ref p) ((p, .lst (ms.map .int)) :: L)
instance {K : PySem.W.Frag} {A : Ad} {a : Addr} {ns : List Int} {c e : Int} {L : Cl} {Q : DV} {E : Value → Cl → Prop} [h : LAt K L a (ns.map .int)] :
  Step (sp__law_deck K A [.ref a, .int c, .int e] L Q E) (Ln (ns.length ≤ 63) (Ar (0 ≤ c ∧ c ≤ 200) (Ar (0 ≤ e ∧ e ≤ 200) (∀ p (ms : List Int), Deck ms → Q (.ref p) ((p, .lst (ms.map .int)) :: L))))) :=
  ⟨fun ⟨h1, h2, h3, k⟩ => ⟨a, ns, c.toNat, e.toNat, by rw [Int.toNat_of_nonneg h2.1, Int.toNat_of_nonneg h3.1], h, h1, by omega, by omega, fun p ms d _ => k p ms d⟩⟩
theorem ok__law_deck (T : Txt K mg A) : GFn P w K mg base 1 A.f__law_deck A.d__law_deck ["script", "cells", "each"] (sp__law_deck K A) := by
  refine gfn T.fn__law_deck sc__law_deck ?len (fun cdv A2 outer s H E hr => ⟨_, (gb_cons (gs_set (i := 3) sc__law_deck.nd rfl (Or.inl rfl) (ge_lst ga_nil))
  (gb_cons (gs_set (i := 4) sc__law_deck.nd rfl (Or.inl rfl) (ge_op go_add ge_int (ge_callB gc_len rfl T.nb_len PySem.boot_len (ga_cons (gv 0) ga_nil))))
  (gb_cons (gs_for poF rfl (gi_range1 rfl T.nb_range (ga_cons (gv 1) ga_nil)) (gg_name (i := 5) sc__law_deck.nd rfl (Or.inl rfl)) (gb_cons (gs_set (i := 6) sc__law_deck.nd rfl (Or.inl rfl) ge_int)
  (gb_cut (gs_if (gt_cmp (go_lt) (gv 5) (ge_callB gc_len rfl T.nb_len PySem.boot_len (ga_cons (gv 0) ga_nil)) (nomark _)) (gb_one (gs_set (i := 6) sc__law_deck.nd rfl (Or.inl rfl) (ge_ix (gi_any (hu_of hr)) (gv 0) (gv 5) (fun _ _ => rfl)))) gb_nil)
  (gb_cons (gs_set (i := 7) sc__law_deck.nd rfl (Or.inl rfl) (ge_callB gc_abs rfl T.nb_abs (by decide +kernel) (ga_cons (gv 6) ga_nil)))
  (gb_one (gs_if (gt_cmp (go_geI) (gv 7) (ge_op go_pow ge_int ge_int) (nomark _)) (gb_one (gs_for poF rfl (gi_range1 rfl T.nb_range (ga_cons (gv 2) ga_nil)) (gg_name (i := 8) sc__law_deck.nd rfl (Or.inl rfl)) (gb_cons (gs_expr (ge_bm PySem.F.plainAttrs_list PySem.F.slot_list_append PySem.F.type_list_append gm_append (gv 3) (ga_cons (ge_op go_mod (ge_callTy gc_int rfl T.nb_int (by decide +kernel) (ga_cons (gv 7) ga_nil)) ge_int) ga_nil)))
  (gb_one (gs_set (i := 7) sc__law_deck.nd rfl (Or.inl rfl) (ge_op go_div (gv 7) ge_int)))))) (gb_cons (gs_set (i := 4) sc__law_deck.nd rfl (Or.inl rfl) (ge_op go_mod (ge_callTy gc_int rfl T.nb_int (by decide +kernel) (ga_cons (ge_op go_add (ge_op go_add (ge_op go_add (ge_op go_mul (gv 4) ge_int) (ge_op go_mul ge_int (gv 7))) (ge_callTy gc_int rfl T.nb_int (by decide +kernel) (ga_cons (ge_cmp (go_lt) (gv 6) ge_int (nomark _)) ga_nil))) (gv 5)) ga_nil)) ge_int))
  (gb_one (gs_for poF rfl (gi_range1 rfl T.nb_range (ga_cons (gv 2) ga_nil)) (gg_name (i := 8) sc__law_deck.nd rfl (Or.inl rfl)) (gb_cons (gs_set (i := 4) sc__law_deck.nd rfl (Or.inl rfl) (ge_op go_mod (ge_callTy gc_int rfl T.nb_int (by decide +kernel) (ga_cons (ge_op go_add (ge_op go_add (ge_op go_mul (gv 4) ge_int) (gv 8)) ge_int) ga_nil)) ge_int))
  (gb_one (gs_expr (ge_bm PySem.F.plainAttrs_list PySem.F.slot_list_append PySem.F.type_list_append gm_append (gv 3) (ga_cons (ge_op go_mod (ge_callTy gc_int rfl T.nb_int (by decide +kernel) (ga_cons (ge_op go_div (gv 4) ge_int) ga_nil)) ge_int) ga_nil))))))))))))))
  (gb_cons (gs_expr (ge_bm0 PySem.F.plainAttrs_list PySem.F.slot_list_reverse PySem.F.type_list_reverse gm_reverse (gv 3)))
  (gb_one (gs_ret (gv 3))))))), ?body⟩)
  case len => rintro ds L Q E ⟨a, ns, c, e, rfl, _⟩; rfl
  case body =>
    rintro ds L Q PE ⟨a, ns, c, e, rfl, hl, hn, hc, he, k⟩
    refine ⟨[some (.ref a), some (.int c), some (.int e), none, none, none, none, none, none], rfl, ?_⟩
    tm_at "y_k"
    tm_at "y_go"
    intro p
    tm_at "y_go"
    refine for_rng (fun i δ L' => ∃ (seed : Int) (ms : List Int), δ = [some (.ref a), some (.int c), some (.int e), some (.ref p), some (.int seed), none, none, none, none] ∧ L' = (p, .lst (ms.map .int)) :: L ∧ 0 ≤ seed ∧ seed ≤ 2147483647 ∧ Deck ms ∧ ms.length = i * e) ?_ ?_ ?_
    · exact ⟨_, _, by tm_at "y_fg", .refl, _, [], rfl, rfl, by simp; omega, by simp; omega, (fun m hm => by cases hm), by simp⟩
    · rintro i δ L' hi ⟨seed, ms, rfl, rfl, hs0, hs1, hd, hm⟩
      tm_at "y_go"
      have hi' : i < c := by omega
      have hbound : ms.length + e ≤ 40000 := by
        rw [hm]
        have : (i + 1) * e ≤ 200 * 200 := Nat.mul_le_mul (by omega) he
        rw [Nat.add_mul] at this
        omega
      refine s_cut (fun δ L' => ∃ cell : Int, δ = [some (.ref a), some (.int c), some (.int e), some (.ref p), some (.int seed), some (.int (0 + (i : Int))), some (.int cell), none, none] ∧ L' = (p, .lst (ms.map .int)) :: L) ?_ ?_
      · tm_at "y_go"
        refine ite_d (fun h => ?_) (fun h => ?_)
        · rw [List.length_map] at h
          have h' : i < ns.length := by omega
          have hz : atI (ns.map D.int) (0 + (i : Int)) = some (.int ns[i]) := by rw [Int.zero_add]; exact atI_ints h'
          tm_at "y_go"
          exact ⟨_, _, by tm_at "y_fg", by tm_at "y_sub", _, rfl, rfl⟩
        · tm_at "y_go"
          exact ⟨_, _, by tm_at "y_fg", by tm_at "y_sub", _, rfl, rfl⟩
      · rintro δ L' ⟨cell, rfl, rfl⟩
        tm_at "y_go"
        obtain ⟨rest, hrest⟩ : ∃ r : Int, r = if cell < 0 then -cell else cell := ⟨_, rfl⟩
        have hr0 : 0 ≤ rest := by rw [hrest]; split <;> omega
        rw [← hrest]
        tm_at "y_go"
        have e30 : (10 : Int) ^ (30 : Int).toNat = 1000000000000000000000000000000 := by decide
        refine ite_d (fun h => ?_) (fun h => ?_)
        · tm_at "y_go"
          refine for_rng (fun j δ L' => ∃ (rest : Int) (ms' : List Int), δ = [some (.ref a), some (.int c), some (.int e), some (.ref p), some (.int seed), some (.int (0 + (i : Int))), some (.int cell), some (.int rest), none] ∧ L' = (p, .lst (ms'.map .int)) :: L ∧ 0 ≤ rest ∧ Deck ms' ∧ ms'.length = ms.length + j) ?_ ?_ ?_
          · exact ⟨_, _, by tm_at "y_fg", by tm_at "y_sub", _, ms, rfl, rfl, hr0, hd, rfl⟩
          · rintro j δ L' hj ⟨r, ms', rfl, rfl, hr, hd', hm'⟩
            have hz : (ms'.map D.int).length < sizeLine := by rw [List.length_map, sizeLine_eq]; omega
            tm_at "y_go"
            rw [ints_snoc]
            have h1 := Int.emod_nonneg r (b := 1000003) (by omega)
            have h2 := Int.emod_lt_of_pos r (b := 1000003) (by omega)
            exact ⟨_, _, by tm_at "y_fg", by tm_at "y_sub", _, _, rfl, rfl, Int.ediv_nonneg hr (by omega), hd'.snoc h1 h2, by simp; omega⟩
          · rintro δ L' ⟨r, ms', rfl, rfl, hr, hd', hm'⟩
            exact ⟨_, _, by tm_at "y_fg", by tm_at "y_sub", _, _, rfl, rfl, hs0, hs1, hd', by rw [hm', hm, Nat.add_mul]; omega⟩
        · rw [e30] at h
          tm_at "y_go"
          obtain ⟨b, hb, hb0, hb1⟩ : ∃ b : Int, b = (if decide (cell < 0) = true then 1 else 0) ∧ 0 ≤ b ∧ b ≤ 1 := ⟨_, rfl, by split <;> omega, by split <;> omega⟩
          rw [← hb]
          tm_at "y_go"
          refine for_rng (fun j δ L' => ∃ (seed : Int) (ms' : List Int), δ = [some (.ref a), some (.int c), some (.int e), some (.ref p), some (.int seed), some (.int (0 + (i : Int))), some (.int cell), some (.int rest), none] ∧ L' = (p, .lst (ms'.map .int)) :: L ∧ 0 ≤ seed ∧ seed ≤ 2147483647 ∧ Deck ms' ∧ ms'.length = ms.length + j) ?_ ?_ ?_
          · exact ⟨_, _, by tm_at "y_fg", by tm_at "y_sub", _, ms, rfl, rfl, by omega, by omega, hd, rfl⟩
          · rintro j δ L' hj ⟨r, ms', rfl, rfl, hr, hr1, hd', hm'⟩
            have hz : (ms'.map D.int).length < sizeLine := by rw [List.length_map, sizeLine_eq]; omega
            tm_at "y_go"
            rw [ints_snoc]
            exact ⟨_, _, by tm_at "y_fg", by tm_at "y_sub", _, _, rfl, rfl, by omega, by omega, hd'.snoc (by omega) (by omega), by simp; omega⟩
          · rintro δ L' ⟨r, ms', rfl, rfl, hr, hr1, hd', hm'⟩
            exact ⟨_, _, by tm_at "y_fg", by tm_at "y_sub", _, _, rfl, rfl, hr, hr1, hd', by rw [hm', hm, Nat.add_mul]; omega⟩
    · rintro δ L' ⟨seed, ms, rfl, rfl, hs0, hs1, hd, hm⟩
      tm_at "y_go"
      rw [← List.map_reverse]
      exact ⟨_, .refl, k p ms.reverse (fun m hm => hd m (List.mem_reverse.mp hm)) (by rw [List.length_reverse, hm]; congr 1)⟩
def sp__law_take : DSp := fun ds L Q _ => ∃ (a : Addr) (ms : List Int) (m : Int) (put : GO → Cl), ds = [.ref a, .int m] ∧ Slot L a (.lst (ms.map .int)) put ∧ Deck ms ∧ (0 < m ∧ m ≤ 1000000000) ∧
  ∀ (z : Int) (ms' : List Int), Deck ms' → 0 ≤ z → z < m → Q (.int z) (put (.lst (ms'.map .int)))
instance {a : Addr} {ms : List Int} {m : Int} {L : Cl} {Q : DV} {E : Value → Cl → Prop} {put : GO → Cl} [h : Slot L a (.lst (ms.map .int)) put] :
  Step (sp__law_take [.ref a, .int m] L Q E) (Ar (Deck ms) (Ar (0 < m ∧ m ≤ 1000000000) (∀ (z : Int) (ms' : List Int), Deck ms' → 0 ≤ z → z < m → Q (.int z) (put (.lst (ms'.map .int)))))) :=
  ⟨fun ⟨h1, h2, k⟩ => ⟨a, ms, m, put, rfl, h, h1, h2, k⟩⟩
theorem ok__law_take (T : Txt K mg A) : GFn P w K mg base 1 A.f__law_take A.d__law_take ["deck", "many"] (sp__law_take) := by
  refine gfn T.fn__law_take sc__law_take ?len (fun cdv A2 outer s H E hr => ⟨_, (gb_cons (gs_if (gt_cmp (go_eq hr.units) (ge_callB gc_len rfl T.nb_len PySem.boot_len (ga_cons (gv 0) ga_nil)) ge_int (nomark _)) (gb_one (gs_ret ge_int)) gb_nil)
  (gb_one (gs_ret (ge_op go_mod (ge_callTy gc_int rfl T.nb_int (by decide +kernel) (ga_cons (ge_bm0 PySem.F.plainAttrs_list PySem.F.slot_list_pop PySem.F.type_list_pop gm_pop (gv 0)) ga_nil)) (gv 1))))), ?body⟩)
  case len => rintro ds L Q E ⟨a, ms, m, put, rfl, _⟩; rfl
  case body =>
    rintro ds L Q PE ⟨a, ms, m, put, rfl, h0, hd, hm, k⟩
    refine ⟨[some (.ref a), some (.int m)], rfl, ?_⟩
    have h1 := (h0.up (.lst [])).at
    tm_at "y_k"
    tm_at "y_go"
    rw [List.length_map]
    refine ite_d (fun h => ?_) (fun h => ?_)
    · have e : ms = [] := List.length_eq_zero_iff.mp (by omega)
      tm_at "y_go"
      have e2 : put (.lst (ms.map .int)) = L := h0.same
      have k2 := k 0 ms hd (by omega) (by omega)
      rw [e2] at k2
      exact ⟨_, .refl, k2⟩
    · obtain ⟨ms', z, rfl⟩ : ∃ ms' z, ms = ms' ++ [z] := ⟨ms.dropLast, ms.getLast (by intro e; rw [e] at h; exact h rfl), (List.dropLast_concat_getLast _).symm⟩
      have hz := hd z (by simp)
      have hd2 : Deck ms' := fun q hq => hd q (by simp [hq])
      tm_at "y_go"
      refine Ix.mk (d := .int z) (by simp) ?_
      rw [show (List.map D.int (ms' ++ [z])).dropLast = ms'.map D.int from by simp]
      tm_at "y_go"
      exact ⟨_, .refl, k (z % m) ms' hd2 (Int.emod_nonneg z (by omega)) (Int.emod_lt_of_pos z (by omega))⟩
def sp__law_numbers : DSp := fun ds L Q _ => ∃ s b z : Int, ds = [.tup [.int s, .int b, .int z]] ∧ (0 ≤ s ∧ s ≤ 100) ∧ (0 ≤ b ∧ b ≤ 100) ∧ (0 < z ∧ z ≤ 1000) ∧ ∀ p, Q (.ref p) ((p, nums s b z) :: L)
instance {s b z : Int} {L : Cl} {Q : DV} {E : Value → Cl → Prop} : Step (sp__law_numbers [.tup [.int s, .int b, .int z]] L Q E) (Ar ((0 ≤ s ∧ s ≤ 100) ∧ (0 ≤ b ∧ b ≤ 100) ∧ (0 < z ∧ z ≤ 1000)) (∀ p, Q (.ref p) ((p, nums s b z) :: L))) :=
  ⟨fun ⟨h, k⟩ => ⟨s, b, z, rfl, h.1, h.2.1, h.2.2, k⟩⟩
theorem ok__law_numbers (T : Txt K mg A) : GFn P w K mg base 1 A.f__law_numbers A.d__law_numbers ["sizes"] (sp__law_numbers) := by
  refine gfn T.fn__law_numbers sc__law_numbers ?len (fun cdv A2 outer s H E hr => ⟨_, (gb_cons (gs_asg (gv 0) (gg_tup (n := 3) rfl (ggs_cons (gg_name (i := 1) sc__law_numbers.nd rfl (Or.inl rfl)) (ggs_cons (gg_name (i := 2) sc__law_numbers.nd rfl (Or.inl rfl)) (ggs_cons (gg_name (i := 3) sc__law_numbers.nd rfl (Or.inl rfl)) ggs_nil)))))
  (gb_cons (gs_par (i := 4) (j := 5) rfl sc__law_numbers.nd rfl rfl (by decide) rfl rfl (ga_cons (ge_op go_sub (gv 2) ge_int) (ga_cons (ge_op go_mul (ge_op go_sub (gv 1) ge_int) (ge_op go_sub (gv 2) ge_int)) ga_nil)) (by rfl))
  (gb_cons (gs_set (i := 6) sc__law_numbers.nd rfl (Or.inl rfl) (ge_op go_add (gv 5) (gv 4)))
  (gb_cons (gs_set (i := 7) sc__law_numbers.nd rfl (Or.inl rfl) (ge_op go_mul ge_int (ge_op go_add (ge_op go_add (ge_op go_mul ge_int (gv 6)) ge_int) (gv 1))))
  (gb_cons (gs_set (i := 8) sc__law_numbers.nd rfl (Or.inl rfl) (ge_op go_div (ge_op go_sub (ge_op go_add (gv 7) (gv 3)) ge_int) (gv 3)))
  (gb_one (gs_ret (ge_disp (gps_cons ge_str (gv 4) (gps_cons ge_str (gv 5) (gps_cons ge_str (gv 6) (gps_cons ge_str (ge_op go_div (gv 3) ge_int) (gps_cons ge_str (gv 8) (gps_cons ge_str (ge_op go_add (ge_op go_mul ge_int (gv 8)) (ge_op go_mul (gv 1) (gv 2))) gps_nil)))))))))))))), ?body⟩)
  case len => rintro ds L Q E ⟨s, b, z, rfl, _⟩; rfl
  case body =>
    rintro ds L Q PE ⟨s, b, z, rfl, hs, hb, hz, k⟩
    refine ⟨[some (.tup [.int s, .int b, .int z]), none, none, none, none, none, none, none, none], rfl, ?_⟩
    have h1 := lastI_bd hs hb
    have h2 := regI_bd hs hb hz
    unfold regI lastI at h2
    tm_at "y_k"
    tm_at "y_go"
    intro p
    tm_at "y_go"
    have k := k p
    unfold nums devI regI lastI at k
    exact ⟨_, .refl, k⟩
def sp_parts_of : DSp := fun ds L Q _ => ∃ n s : Int, ds = [.int n, .int s] ∧ 0 < s ∧ s ≤ 1000000000000 ∧ Q (.int ((n + s - 1) / s)) L
instance {n s : Int} {L : Cl} {Q : DV} {E : Value → Cl → Prop} : Step (sp_parts_of [.int n, .int s] L Q E) (Ar (0 < s ∧ s ≤ 1000000000000) (Q (.int ((n + s - 1) / s)) L)) := ⟨fun ⟨h, k⟩ => ⟨n, s, rfl, h.1, h.2, k⟩⟩
theorem ok_parts_of (T : Txt K mg A) : GFn P w K mg base 1 A.f_parts_of A.d_parts_of ["number", "size"] (sp_parts_of) := by
  refine gfn T.fn_parts_of sc_parts_of ?len (fun cdv A2 outer s H E hr => ⟨_, (gb_one (gs_ret (ge_op go_div (ge_op go_sub (ge_op go_add (gv 0) (gv 1)) ge_int) (gv 1)))), ?body⟩)
  case len => rintro ds L Q E ⟨n, s, rfl, _⟩; rfl
  case body =>
    rintro ds L Q PE ⟨n, s, rfl, h1, h2, k⟩
    refine ⟨[some (.int n), some (.int s)], rfl, ?_⟩
    tm_at "y_k"
    tm_at "y_go"
    exact ⟨_, .refl, k⟩
def sp_Layout___init__ (K : PySem.W.Frag) (A : Ad) : DSp := fun ds L Q E => ∃ (x : Addr) (s b z : Int) (F : Cl), ds = [.ref x, .int s, .int b, .int z] ∧ L = (x, .ins A.c_Layout [] []) :: F ∧ (0 ≤ s ∧ s ≤ 100) ∧ (0 ≤ b ∧ b ≤ 100) ∧ (0 ≤ z ∧ z ≤ 1000) ∧
  (okL s b z → Q .non ((x, Lay A s b z) :: F)) ∧ (¬ okL s b z → E (.ref A.c_InvalidFormat) F)
instance {K : PySem.W.Frag} {A : Ad} {x : Addr} {s b z : Int} {F : Cl} {Q : DV} {E : Value → Cl → Prop} :
  Step (sp_Layout___init__ K A [.ref x, .int s, .int b, .int z] ((x, .ins A.c_Layout [] []) :: F) Q E) (Ar ((0 ≤ s ∧ s ≤ 100) ∧ (0 ≤ b ∧ b ≤ 100) ∧ (0 ≤ z ∧ z ≤ 1000)) ((okL s b z → Q .non ((x, Lay A s b z) :: F)) ∧ (¬ okL s b z → E (.ref A.c_InvalidFormat) F))) :=
  ⟨fun ⟨h, k⟩ => ⟨x, s, b, z, F, rfl, rfl, h.1, h.2.1, h.2.2, k.1, k.2⟩⟩
theorem ok_Layout___init__ (T : Txt K mg A) : GFn P w K mg base 2 A.f_Layout___init__ A.d_Layout___init__ ["self", "segments", "segment_blocks", "block_size"] (sp_Layout___init__ K A) := by
  refine gfn T.fn_Layout___init__ sc_Layout___init__ ?len (fun cdv A2 outer s H E hr => ⟨_, (gb_cons (gs_if (GW.gt (gw_or (gt_cmp (go_lt) (gv 1) (ge_cst T.cn_LEAST_SEGMENTS rfl) (nomark _)) (gw_or1 (gt_cmp (go_gtI) (gv 1) (ge_cst T.cn_MOST_SEGMENTS rfl) (nomark _))))) (gb_one (gs_raise rfl takesF (pmk_own PySem.F.excBase_ValueError T.xc_InvalidFormat T.mg_InvalidFormat T.kp_InvalidFormat (raises_own T.sb_InvalidFormat T.ty_InvalidFormat) rfl))) gb_nil)
  (gb_cons (gs_if (GW.gt (gw_or (gt_cmp (go_lt) (gv 2) (ge_cst T.cn_LEAST_BLOCKS rfl) (nomark _)) (gw_or1 (gt_cmp (go_gtI) (gv 2) (ge_cst T.cn_MOST_BLOCKS rfl) (nomark _))))) (gb_one (gs_raise rfl takesF (pmk_own PySem.F.excBase_ValueError T.xc_InvalidFormat T.mg_InvalidFormat T.kp_InvalidFormat (raises_own T.sb_InvalidFormat T.ty_InvalidFormat) rfl))) gb_nil)
  (gb_cons (gs_if (gt_cmp (go_ni (hu_of hr)) (gv 3) (ge_tup (ga_cons ge_int (ga_cons ge_int (ga_cons ge_int ga_nil)))) (by rfl)) (gb_one (gs_raise rfl takesF (pmk_own PySem.F.excBase_ValueError T.xc_InvalidFormat T.mg_InvalidFormat T.kp_InvalidFormat (raises_own T.sb_InvalidFormat T.ty_InvalidFormat) rfl))) gb_nil)
  (gb_cons (gs_fld (gv 0) (gv 1))
  (gb_cons (gs_fld (gv 0) (gv 2))
  (gb_cons (gs_fld (gv 0) (gv 3))
  (gb_cons (gs_fld (gv 0) (ge_op go_sub (gv 2) ge_int))
  (gb_cons (gs_fld (gv 0) (ge_op go_mul (ge_op go_sub (gv 1) ge_int) (ge_fld (gv 0))))
  (gb_cons (gs_fld (gv 0) (ge_op go_add (ge_fld (gv 0)) (ge_fld (gv 0))))
  (gb_cons (gs_fld (gv 0) (ge_op go_div (gv 3) ge_int))
  (gb_cons (gs_if (gt_cmp (go_gtI) (ge_op go_add (ge_op go_add (ge_cst T.cn_HEAD_OCTETS rfl) (ge_op go_mul ge_int (ge_fld (gv 0)))) (ge_call (ok_parts_of (P := P) (w := w) (K := K) (mg := mg) (base := base) T) (hr.mono (by decide)) rfl T.mg_parts_of T.fn_parts_of.kp T.bd_parts_of .nil (fun _ => Rps.nil) takesF (ga_cons (ge_fld (gv 0)) (ga_cons ge_int ga_nil)))) (gv 3) (nomark _)) (gb_one (gs_raise rfl takesF (pmk_own PySem.F.excBase_ValueError T.xc_InvalidFormat T.mg_InvalidFormat T.kp_InvalidFormat (raises_own T.sb_InvalidFormat T.ty_InvalidFormat) rfl))) gb_nil)
  (gb_cons (gs_set (i := 4) sc_Layout___init__.nd rfl (Or.inl rfl) (ge_op go_add (ge_op go_add (ge_op go_add (ge_op go_mul (ge_op go_add (ge_cst T.cn_SLOTS rfl) ge_int) (ge_fld (gv 0))) (ge_cst T.cn_SLOTS rfl)) ge_int) (gv 1)))
  (gb_cons (gs_fld (gv 0) (ge_call (ok_parts_of (P := P) (w := w) (K := K) (mg := mg) (base := base) T) (hr.mono (by decide)) rfl T.mg_parts_of T.fn_parts_of.kp T.bd_parts_of .nil (fun _ => Rps.nil) takesF (ga_cons (ge_op go_mul ge_int (gv 4)) (ga_cons (gv 3) ga_nil))))
  (gb_one (gs_fld (gv 0) (ge_op go_add (ge_op go_mul ge_int (ge_fld (gv 0))) (ge_op go_mul (gv 1) (gv 2)))))))))))))))))), ?body⟩)
  case len => rintro ds L Q E ⟨x, s, b, z, F, rfl, _⟩; rfl
  case body =>
    rintro ds L Q PE ⟨x, s, b, z, F, rfl, rfl, hs, hb, hz, k1, k2⟩
    refine ⟨[some (.ref x), some (.int s), some (.int b), some (.int z), none], rfl, ?_⟩
    have hm := lastI_bd hs hb
    tm_at "y_k"
    tm_at "y_go"
    refine ite_d (fun h => ?_) (fun h1 => ?_)
    · tm_at "y_go"
      exact ⟨_, by tm_at "y_sub", k2 fun z => by unfold okL at z; omega⟩
    · tm_at "y_go"
      refine ite_d (fun h => ?_) (fun h2 => ?_)
      · tm_at "y_go"
        exact ⟨_, by tm_at "y_sub", k2 fun z => by unfold okL at z; omega⟩
      · tm_at "y_go"
        refine ite_d (fun h => ?_) (fun h3 => ?_)
        · tm_at "y_go"
          exact ⟨_, by tm_at "y_sub", k2 fun z => by unfold okL at z; omega⟩
        · tm_at "y_go"
          refine ite_d (fun h => ?_) (fun h4 => ?_)
          · tm_at "y_go"
            exact ⟨_, by tm_at "y_sub", k2 fun z => by unfold okL at z; omega⟩
          · tm_at "y_go"
            refine ite_nc (fun h => ?_) (fun h5 => ?_)
            · tm_at "y_go"
              exact ⟨_, by tm_at "y_sub", k2 fun z => by unfold okL at z; omega⟩
            · tm_at "y_go"
              refine ite_d (fun h => ?_) (fun h6 => ?_)
              · tm_at "y_go"
                exact ⟨_, by tm_at "y_sub", k2 fun z => by unfold okL lastI at z; omega⟩
              · have hp := Int.mul_nonneg (a := s - 2) (b := b - 1) (by omega) (by omega)
                have hd := ediv_bd (x := 2 * ((3 + 1) * ((s - 2) * (b - 1) + (b - 1)) + 3 + 3 + s) + z - 1) (z := z) (by omega) (by omega)
                tm_at "y_go"
                have ok : okL s b z := by unfold okL lastI; omega
                have e : regI s b z = (2 * ((3 + 1) * ((s - 2) * (b - 1) + (b - 1)) + 3 + 3 + s) + z - 1) / z := by
                  unfold regI lastI; congr 1; omega
                have k := k1 ok
                unfold Lay devI at k
                rw [e] at k
                exact ⟨_, .refl, k⟩
def sp__law_made (K : PySem.W.Frag) (A : Ad) : DSp := fun ds L Q _ => ∃ s b z : Int, ds = [.tup [.int s, .int b, .int z]] ∧ (0 ≤ s ∧ s ≤ 100) ∧ (0 ≤ b ∧ b ≤ 100) ∧ (0 ≤ z ∧ z ≤ 1000) ∧ (okL s b z → ∀ p, Q (.ref p) ((p, Lay A s b z) :: L)) ∧ (¬ okL s b z → Q .non L)
instance {K : PySem.W.Frag} {A : Ad} {s b z : Int} {L : Cl} {Q : DV} {E : Value → Cl → Prop} : Step (sp__law_made K A [.tup [.int s, .int b, .int z]] L Q E) (Ar ((0 ≤ s ∧ s ≤ 100) ∧ (0 ≤ b ∧ b ≤ 100) ∧ (0 ≤ z ∧ z ≤ 1000)) ((okL s b z → ∀ p, Q (.ref p) ((p, Lay A s b z) :: L)) ∧ (¬ okL s b z → Q .non L))) :=
  ⟨fun ⟨h, k⟩ => ⟨s, b, z, rfl, h.1, h.2.1, h.2.2, k⟩⟩
theorem ok__law_made (T : Txt K mg A) : GFn P w K mg base 4 A.f__law_made A.d__law_made ["sizes"] (sp__law_made K A) := by
  refine gfn T.fn__law_made sc__law_made ?len (fun cdv A2 outer s H E hr => ⟨_, (gb_one (gs_try rfl rfl ⟨rfl, by decide, Or.inl T.mg_InvalidFormat⟩ takesF (fun W2 pn2 xe2 tk2 po2 => (gb_one (gs_ret (ge_make T.mk_Layout (ok_Layout___init__ (P := P) (w := w) (K := K) (mg := mg) (base := base) T) (hr.mono (by decide)) rfl T.mg_Layout T.bd_Layout___init__ .nil (fun _ => Rps.nil) tk2 (ga_cons (ge_ix (show GIx _ (dIx K) from (gi_any (hu_of hr))) (gv 0) ge_int (fun _ _ => rfl)) (ga_cons (ge_ix (show GIx _ (dIx K) from (gi_any (hu_of hr))) (gv 0) ge_int (fun _ _ => rfl)) (ga_cons (ge_ix (show GIx _ (dIx K) from (gi_any (hu_of hr))) (gv 0) ge_int (fun _ _ => rfl)) ga_nil))))))) (fun a2 oe2 pn2 => (gb_one (gs_ret ge_non))))), ?body⟩)
  case len => rintro ds L Q E ⟨s, b, z, rfl, _⟩; rfl
  case body =>
    rintro ds L Q PE ⟨s, b, z, rfl, hs, hb, hz, k1, k2⟩
    refine ⟨[some (.tup [.int s, .int b, .int z])], rfl, ?_⟩
    tm_at "y_k"
    tm_at "y_go"
    intro x
    tm_at "y_go"
    refine ⟨fun h => ?_, fun h => ?_⟩
    · tm_at "y_go"
      exact ⟨_, .refl, k1 h x⟩
    · tm_at "y_go"
      exact ⟨_, by tm_at "y_sub", k2 h⟩
def sp__law_layout : DSp := fun ds L Q _ => ∃ (a : Addr) (ms : List Int) (put : GO → Cl), ds = [.ref a] ∧ Slot L a (.lst (ms.map .int)) put ∧ Deck ms ∧
  ∀ (s b z : Int) (ms' : List Int), Deck ms' → LaySz s b z → Q (.tup [.int s, .int b, .int z]) (put (.lst (ms'.map .int)))
instance {a : Addr} {ms : List Int} {L : Cl} {Q : DV} {E : Value → Cl → Prop} {put : GO → Cl} [h : Slot L a (.lst (ms.map .int)) put] :
  Step (sp__law_layout [.ref a] L Q E) (Ar (Deck ms) (∀ (s b z : Int) (ms' : List Int), Deck ms' → LaySz s b z → Q (.tup [.int s, .int b, .int z]) (put (.lst (ms'.map .int))))) :=
  ⟨fun ⟨h1, k⟩ => ⟨a, ms, put, rfl, h, h1, k⟩⟩
theorem ok__law_layout (T : Txt K mg A) : GFn P w K mg base 2 A.f__law_layout A.d__law_layout ["deck"] (sp__law_layout) := by
  refine gfn T.fn__law_layout sc__law_layout ?len (fun cdv A2 outer s H E hr => ⟨_, (gb_one (gs_ret (ge_ix (gi_any (hu_of hr)) (ge_lst (ga_cons (ge_tup (ga_cons ge_int (ga_cons ge_int (ga_cons ge_int ga_nil)))) (ga_cons (ge_tup (ga_cons ge_int (ga_cons ge_int (ga_cons ge_int ga_nil)))) (ga_cons (ge_tup (ga_cons ge_int (ga_cons ge_int (ga_cons ge_int ga_nil)))) (ga_cons (ge_tup (ga_cons ge_int (ga_cons ge_int (ga_cons ge_int ga_nil)))) (ga_cons (ge_tup (ga_cons ge_int (ga_cons ge_int (ga_cons ge_int ga_nil)))) (ga_cons (ge_tup (ga_cons ge_int (ga_cons ge_int (ga_cons ge_int ga_nil)))) ga_nil))))))) (ge_call (ok__law_take (P := P) (w := w) (K := K) (mg := mg) (base := base) T) (hr.mono (by decide)) rfl T.mg__law_take T.fn__law_take.kp T.bd__law_take .nil (fun _ => Rps.nil) takesF (ga_cons (gv 0) (ga_cons ge_int ga_nil))) (fun _ _ => rfl)))), ?body⟩)
  case len => rintro ds L Q E ⟨a, ms, put, rfl, _⟩; rfl
  case body =>
    rintro ds L Q PE ⟨a, ms, put, rfl, h0, hd, k⟩
    refine ⟨[some (.ref a)], rfl, ?_⟩
    have h1 := (h0.up (.lst [])).at
    tm_at "y_k"
    tm_at "y_go"
    intro p
    tm_at "y_go"
    intro z ms' hd' z0 z1
    have : z = 0 ∨ z = 1 ∨ z = 2 ∨ z = 3 ∨ z = 4 ∨ z = 5 := by omega
    rcases this with rfl | rfl | rfl | rfl | rfl | rfl <;> (tm_at "y_go"; exact ⟨_, by tm_at "y_sub", k _ _ _ ms' hd' (by unfold LaySz; omega)⟩)
def sp_region_start (K : PySem.W.Frag) (A : Ad) : DSp := fun ds L Q _ => ∃ (x : Addr) (s b z r : Int), ds = [.ref x, .int r] ∧ At L x (Lay A s b z) ∧ (0 ≤ r ∧ r ≤ 1) ∧ (0 ≤ regI s b z ∧ regI s b z ≤ 1000000) ∧ Q (.int (r * regI s b z)) L
instance {K : PySem.W.Frag} {A : Ad} {x : Addr} {s b z r : Int} {L : Cl} {Q : DV} {E : Value → Cl → Prop} [h : At L x (Lay A s b z)] :
  Step (sp_region_start K A [.ref x, .int r] L Q E) (Ar ((0 ≤ r ∧ r ≤ 1) ∧ (0 ≤ regI s b z ∧ regI s b z ≤ 1000000)) (Q (.int (r * regI s b z)) L)) := ⟨fun ⟨g, k⟩ => ⟨x, s, b, z, r, rfl, h, g.1, g.2, k⟩⟩
theorem ok_region_start (T : Txt K mg A) : GFn P w K mg base 1 A.f_region_start A.d_region_start ["layout", "region"] (sp_region_start K A) := by
  refine gfn T.fn_region_start sc_region_start ?len (fun cdv A2 outer s H E hr => ⟨_, (gb_one (gs_ret (ge_op go_mul (gv 1) (ge_fld (gv 0))))), ?body⟩)
  case len => rintro ds L Q E ⟨x, s, b, z, r, rfl, _⟩; rfl
  case body =>
    rintro ds L Q PE ⟨x, s, b, z, r, rfl, h1, hr1, h2, k⟩
    refine ⟨[some (.ref x), some (.int r)], rfl, ?_⟩
    tm_at "y_k"
    tm_at "y_go"
    exact ⟨_, .refl, k⟩
def sp_address_at (K : PySem.W.Frag) (A : Ad) : DSp := fun ds L Q _ => ∃ (x : Addr) (s b z g p : Int), ds = [.ref x, .int g, .int p] ∧ At L x (Lay A s b z) ∧ (0 ≤ g ∧ g ≤ 100) ∧ (0 ≤ b ∧ b ≤ 1000) ∧ (0 ≤ regI s b z ∧ regI s b z ≤ 1000000) ∧ Q (.int (2 * regI s b z + g * b + p)) L
instance {K : PySem.W.Frag} {A : Ad} {x : Addr} {s b z g p : Int} {L : Cl} {Q : DV} {E : Value → Cl → Prop} [h : At L x (Lay A s b z)] :
  Step (sp_address_at K A [.ref x, .int g, .int p] L Q E) (Ar ((0 ≤ g ∧ g ≤ 100) ∧ (0 ≤ b ∧ b ≤ 1000) ∧ (0 ≤ regI s b z ∧ regI s b z ≤ 1000000)) (Q (.int (2 * regI s b z + g * b + p)) L)) := ⟨fun ⟨h1, k⟩ => ⟨x, s, b, z, g, p, rfl, h, h1.1, h1.2.1, h1.2.2, k⟩⟩
theorem ok_address_at (T : Txt K mg A) : GFn P w K mg base 1 A.f_address_at A.d_address_at ["layout", "segment", "place"] (sp_address_at K A) := by
  refine gfn T.fn_address_at sc_address_at ?len (fun cdv A2 outer s H E hr => ⟨_, (gb_one (gs_ret (ge_op go_add (ge_op go_add (ge_op go_mul ge_int (ge_fld (gv 0))) (ge_op go_mul (gv 1) (ge_fld (gv 0)))) (gv 2)))), ?body⟩)
  case len => rintro ds L Q E ⟨x, s, b, z, g, p, rfl, _⟩; rfl
  case body =>
    rintro ds L Q PE ⟨x, s, b, z, g, p, rfl, h1, hg, hb, h2, k⟩
    refine ⟨[some (.ref x), some (.int g), some (.int p)], rfl, ?_⟩
    tm_at "y_k"
    tm_at "y_go"
    exact ⟨_, .refl, k⟩
def sp_place_of (K : PySem.W.Frag) (A : Ad) : DSp := fun ds L Q _ => ∃ (x : Addr) (s b z a : Int), ds = [.ref x, .int a] ∧ At L x (Lay A s b z) ∧ (0 < b ∧ b ≤ 1000) ∧ (0 ≤ regI s b z ∧ regI s b z ≤ 1000000) ∧
  (2 * regI s b z ≤ a ∧ a < devI s b z → Q (.int ((a - 2 * regI s b z) % b)) L) ∧ (a < 2 * regI s b z ∨ devI s b z ≤ a → Q .non L)
instance {K : PySem.W.Frag} {A : Ad} {x : Addr} {s b z a : Int} {L : Cl} {Q : DV} {E : Value → Cl → Prop} [h : At L x (Lay A s b z)] :
  Step (sp_place_of K A [.ref x, .int a] L Q E) (Ar ((0 < b ∧ b ≤ 1000) ∧ (0 ≤ regI s b z ∧ regI s b z ≤ 1000000)) ((2 * regI s b z ≤ a ∧ a < devI s b z → Q (.int ((a - 2 * regI s b z) % b)) L) ∧ (a < 2 * regI s b z ∨ devI s b z ≤ a → Q .non L))) := ⟨fun ⟨g, k⟩ => ⟨x, s, b, z, a, rfl, h, g.1, g.2, k.1, k.2⟩⟩
theorem ok_place_of (T : Txt K mg A) : GFn P w K mg base 1 A.f_place_of A.d_place_of ["layout", "address"] (sp_place_of K A) := by
  refine gfn T.fn_place_of sc_place_of ?len (fun cdv A2 outer s H E hr => ⟨_, (gb_cons (gs_set (i := 2) sc_place_of.nd rfl (Or.inl rfl) (ge_op go_mul ge_int (ge_fld (gv 0))))
  (gb_cons (gs_if (GW.gt (gw_or (gt_cmp (go_lt) (gv 1) (gv 2) (nomark _)) (gw_or1 (gt_cmp (go_geI) (gv 1) (ge_fld (gv 0)) (nomark _))))) (gb_one (gs_ret ge_non)) gb_nil)
  (gb_one (gs_ret (ge_op go_mod (ge_op go_sub (gv 1) (gv 2)) (ge_fld (gv 0))))))), ?body⟩)
  case len => rintro ds L Q E ⟨x, s, b, z, a, rfl, _⟩; rfl
  case body =>
    rintro ds L Q PE ⟨x, s, b, z, a, rfl, h1, hb, h2, k1, k2⟩
    refine ⟨[some (.ref x), some (.int a), none], rfl, ?_⟩
    tm_at "y_k"
    tm_at "y_go"
    refine ite_d (fun h => ?_) (fun h => ?_)
    · tm_at "y_go"
      exact ⟨_, .refl, k2 (by omega)⟩
    · tm_at "y_go"
      refine ite_d (fun h => ?_) (fun h => ?_)
      · tm_at "y_go"
        exact ⟨_, .refl, k2 (by omega)⟩
      · tm_at "y_go"
        exact ⟨_, .refl, k1 (by omega)⟩
def sp_segment_of (K : PySem.W.Frag) (A : Ad) : DSp := fun ds L Q _ => ∃ (x : Addr) (s b z a : Int), ds = [.ref x, .int a] ∧ At L x (Lay A s b z) ∧ (0 < b ∧ b ≤ 1000) ∧ (0 ≤ regI s b z ∧ regI s b z ≤ 1000000) ∧
  (2 * regI s b z ≤ a ∧ a < devI s b z → Q (.int ((a - 2 * regI s b z) / b)) L) ∧ (a < 2 * regI s b z ∨ devI s b z ≤ a → Q .non L)
instance {K : PySem.W.Frag} {A : Ad} {x : Addr} {s b z a : Int} {L : Cl} {Q : DV} {E : Value → Cl → Prop} [h : At L x (Lay A s b z)] :
  Step (sp_segment_of K A [.ref x, .int a] L Q E) (Ar ((0 < b ∧ b ≤ 1000) ∧ (0 ≤ regI s b z ∧ regI s b z ≤ 1000000)) ((2 * regI s b z ≤ a ∧ a < devI s b z → Q (.int ((a - 2 * regI s b z) / b)) L) ∧ (a < 2 * regI s b z ∨ devI s b z ≤ a → Q .non L))) := ⟨fun ⟨g, k⟩ => ⟨x, s, b, z, a, rfl, h, g.1, g.2, k.1, k.2⟩⟩
theorem ok_segment_of (T : Txt K mg A) : GFn P w K mg base 1 A.f_segment_of A.d_segment_of ["layout", "address"] (sp_segment_of K A) := by
  refine gfn T.fn_segment_of sc_segment_of ?len (fun cdv A2 outer s H E hr => ⟨_, (gb_cons (gs_set (i := 2) sc_segment_of.nd rfl (Or.inl rfl) (ge_op go_mul ge_int (ge_fld (gv 0))))
  (gb_cons (gs_if (GW.gt (gw_or (gt_cmp (go_lt) (gv 1) (gv 2) (nomark _)) (gw_or1 (gt_cmp (go_geI) (gv 1) (ge_fld (gv 0)) (nomark _))))) (gb_one (gs_ret ge_non)) gb_nil)
  (gb_one (gs_ret (ge_op go_div (ge_op go_sub (gv 1) (gv 2)) (ge_fld (gv 0))))))), ?body⟩)
  case len => rintro ds L Q E ⟨x, s, b, z, a, rfl, _⟩; rfl
  case body =>
    rintro ds L Q PE ⟨x, s, b, z, a, rfl, h1, hb, h2, k1, k2⟩
    refine ⟨[some (.ref x), some (.int a), none], rfl, ?_⟩
    tm_at "y_k"
    tm_at "y_go"
    refine ite_d (fun h => ?_) (fun h => ?_)
    · tm_at "y_go"
      exact ⟨_, .refl, k2 (by omega)⟩
    · tm_at "y_go"
      refine ite_d (fun h => ?_) (fun h => ?_)
      · tm_at "y_go"
        exact ⟨_, .refl, k2 (by omega)⟩
      · tm_at "y_go"
        exact ⟨_, .refl, k1 (by omega)⟩
def sp_law (K : PySem.W.Frag) (_ : Ad) : DSp := spLawD K
theorem ok_law (T : Txt K mg A) : GFn P w K mg base 5 A.f_law A.d_law ["script"] (sp_law K A) := by
  refine gfn T.fn_law sc_law ?len (fun cdv A2 outer s H E hr => ⟨_, (gb_cons (gs_set (i := 1) sc_law.nd rfl (Or.inl rfl) (ge_call (ok__law_deck (P := P) (w := w) (K := K) (mg := mg) (base := base) T) (hr.mono (by decide)) rfl T.mg__law_deck T.fn__law_deck.kp T.bd__law_deck .nil (fun _ => Rps.nil) takesF (ga_cons (gv 0) (ga_cons ge_int (ga_cons ge_int ga_nil)))))
  (gb_cons (gs_for poF rfl (gi_range1 rfl T.nb_range (ga_cons ge_int ga_nil)) (gg_name (i := 2) sc_law.nd rfl (Or.inl rfl)) (gb_cons (gs_set (i := 3) sc_law.nd rfl (Or.inl rfl) (ge_tup (ga_cons (ge_op go_add ge_int (ge_call (ok__law_take (P := P) (w := w) (K := K) (mg := mg) (base := base) T) (hr.mono (by decide)) rfl T.mg__law_take T.fn__law_take.kp T.bd__law_take .nil (fun _ => Rps.nil) takesF (ga_cons (gv 1) (ga_cons ge_int ga_nil)))) (ga_cons (ge_op go_add ge_int (ge_call (ok__law_take (P := P) (w := w) (K := K) (mg := mg) (base := base) T) (hr.mono (by decide)) rfl T.mg__law_take T.fn__law_take.kp T.bd__law_take .nil (fun _ => Rps.nil) takesF (ga_cons (gv 1) (ga_cons ge_int ga_nil)))) (ga_cons (ge_ix (gi_any (hu_of hr)) (ge_lst (ga_cons ge_int (ga_cons ge_int (ga_cons ge_int (ga_cons ge_int (ga_cons ge_int (ga_cons ge_int ga_nil))))))) (ge_call (ok__law_take (P := P) (w := w) (K := K) (mg := mg) (base := base) T) (hr.mono (by decide)) rfl T.mg__law_take T.fn__law_take.kp T.bd__law_take .nil (fun _ => Rps.nil) takesF (ga_cons (gv 1) (ga_cons ge_int ga_nil))) (fun _ _ => rfl)) ga_nil)))))
  (gb_cons (gs_asg (ge_tup (ga_cons (ge_call (ok__law_made (P := P) (w := w) (K := K) (mg := mg) (base := base) T) (hr.mono (by decide)) rfl T.mg__law_made T.fn__law_made.kp T.bd__law_made .nil (fun _ => Rps.nil) takesF (ga_cons (gv 3) ga_nil)) (ga_cons (ge_call (ok__law_numbers (P := P) (w := w) (K := K) (mg := mg) (base := base) T) (hr.mono (by decide)) rfl T.mg__law_numbers T.fn__law_numbers.kp T.bd__law_numbers .nil (fun _ => Rps.nil) takesF (ga_cons (gv 3) ga_nil)) ga_nil))) (gg_tup (n := 2) rfl (ggs_cons (gg_name (i := 4) sc_law.nd rfl (Or.inr rfl)) (ggs_cons (gg_name (i := 5) sc_law.nd rfl (Or.inl rfl)) ggs_nil))))
  (gb_cons (gs_set (i := 6) sc_law.nd rfl (Or.inl rfl) (ge_and (ge_chain (go_leI) (go_leI) ge_int (ge_ix (gi_any (hu_of hr)) (gv 3) ge_int (fun _ _ => rfl)) ge_int) (ge_and (ge_chain (go_leI) (go_leI) ge_int (ge_ix (gi_any (hu_of hr)) (gv 3) ge_int (fun _ _ => rfl)) ge_int) (ge_one (ge_cmp (go_in (hu_of hr)) (ge_ix (gi_any (hu_of hr)) (gv 3) ge_int (fun _ _ => rfl)) (ge_tup (ga_cons ge_int (ga_cons ge_int (ga_cons ge_int ga_nil)))) (by rfl))))))
  (gb_cons (gs_set (i := 6) sc_law.nd rfl (Or.inl rfl) (ge_and (gv 6) (ge_one (ge_cmp (go_leI) (ge_op go_add (ge_op go_add ge_int (ge_op go_mul ge_int (ge_ix (gi_any (hu_of hr)) (gv 5) ge_str (fun _ _ => rfl)))) (ge_op go_div (ge_op go_add (ge_ix (gi_any (hu_of hr)) (gv 5) ge_str (fun _ _ => rfl)) ge_int) ge_int)) (ge_ix (gi_any (hu_of hr)) (gv 3) ge_int (fun _ _ => rfl)) (nomark _)))))
  (gb_cons (gs_if (gt_cmp (go_ne hr.units) (ge_cmp (go_isnot) (gv 4) ge_non (nomark _)) (gv 6) (nomark _)) (gb_one (gs_ret ge_bl)) gb_nil)
  (gb_one (gs_if (gt_truth (gv 6)) (gb_cons (gs_if (gt_cmp (go_ne hr.units) (ge_tup (ga_cons (ge_fld (gv 4)) (ga_cons (ge_fld (gv 4)) (ga_cons (ge_fld (gv 4)) (ga_cons (ge_fld (gv 4)) (ga_cons (ge_fld (gv 4)) ga_nil)))))) (ge_op go_add (gv 3) (ge_tup (ga_cons (ge_ix (gi_any (hu_of hr)) (gv 5) ge_str (fun _ _ => rfl)) (ga_cons (ge_ix (gi_any (hu_of hr)) (gv 5) ge_str (fun _ _ => rfl)) ga_nil)))) (nomark _)) (gb_one (gs_ret ge_bl)) gb_nil)
  (gb_one (gs_if (gt_cmp (go_ne hr.units) (ge_tup (ga_cons (ge_fld (gv 4)) (ga_cons (ge_fld (gv 4)) (ga_cons (ge_fld (gv 4)) (ga_cons (ge_fld (gv 4)) ga_nil))))) (ge_tup (ga_cons (ge_ix (gi_any (hu_of hr)) (gv 5) ge_str (fun _ _ => rfl)) (ga_cons (ge_ix (gi_any (hu_of hr)) (gv 5) ge_str (fun _ _ => rfl)) (ga_cons (ge_ix (gi_any (hu_of hr)) (gv 5) ge_str (fun _ _ => rfl)) (ga_cons (ge_ix (gi_any (hu_of hr)) (gv 5) ge_str (fun _ _ => rfl)) ga_nil))))) (nomark _)) (gb_one (gs_ret ge_bl)) gb_nil))) gb_nil))))))))
  (gb_cons (gs_set (i := 3) sc_law.nd rfl (Or.inl rfl) (ge_call (ok__law_layout (P := P) (w := w) (K := K) (mg := mg) (base := base) T) (hr.mono (by decide)) rfl T.mg__law_layout T.fn__law_layout.kp T.bd__law_layout .nil (fun _ => Rps.nil) takesF (ga_cons (gv 1) ga_nil)))
  (gb_cons (gs_asg (ge_tup (ga_cons (ge_make T.mk_Layout (ok_Layout___init__ (P := P) (w := w) (K := K) (mg := mg) (base := base) T) (hr.mono (by decide)) rfl T.mg_Layout T.bd_Layout___init__ .nil (fun _ => Rps.nil) takesF (ga_cons (ge_ix (gi_any (hu_of hr)) (gv 3) ge_int (fun _ _ => rfl)) (ga_cons (ge_ix (gi_any (hu_of hr)) (gv 3) ge_int (fun _ _ => rfl)) (ga_cons (ge_ix (gi_any (hu_of hr)) (gv 3) ge_int (fun _ _ => rfl)) ga_nil)))) (ga_cons (ge_call (ok__law_numbers (P := P) (w := w) (K := K) (mg := mg) (base := base) T) (hr.mono (by decide)) rfl T.mg__law_numbers T.fn__law_numbers.kp T.bd__law_numbers .nil (fun _ => Rps.nil) takesF (ga_cons (gv 3) ga_nil)) ga_nil))) (gg_tup (n := 2) rfl (ggs_cons (gg_name (i := 4) sc_law.nd rfl (Or.inr rfl)) (ggs_cons (gg_name (i := 5) sc_law.nd rfl (Or.inl rfl)) ggs_nil))))
  (gb_cons (gs_set (i := 7) sc_law.nd rfl (Or.inl rfl) (ge_op go_mul ge_int (ge_ix (gi_any (hu_of hr)) (gv 5) ge_str (fun _ _ => rfl))))
  (gb_cons (gs_if (gt_cmp (go_ne hr.units) (ge_lc rfl sc_law.nd (gi_list (ge_tup (ga_cons ge_int (ga_cons ge_int ga_nil)))) (blkOk_by (own := [("region", 8)]) (show blkC ["script", "deck", "turn", "sizes", "layout", "told", "right", "start", "region", "seen", "segment", "place", "address", "number", "size", "parts"] (defScope s_law) _ _ = true from by decide +kernel)) (fun _ _ _ _ _ => (gg_name (i := 8) sc_law.nd rfl (Or.inl rfl))) (fun _ _ _ _ _ => gts_nil) (fun _ _ _ _ _ => (ge_call (ok_region_start (P := P) (w := w) (K := K) (mg := mg) (base := base) T) (hr.mono (by decide)) rfl T.mg_region_start T.fn_region_start.kp T.bd_region_start .nil (fun _ => Rps.nil) takes0 (ga_cons (gv 4) (ga_cons (gv 8) ga_nil))))) (ge_lst (ga_cons ge_int (ga_cons (ge_ix (gi_any (hu_of hr)) (gv 5) ge_str (fun _ _ => rfl)) ga_nil))) (nomark _)) (gb_one (gs_ret ge_bl)) gb_nil)
  (gb_cons (gs_set (i := 9) sc_law.nd rfl (Or.inl rfl) (ge_lst ga_nil))
  (gb_cons (gs_for poF rfl (gi_range1 rfl T.nb_range (ga_cons (ge_ix (gi_any (hu_of hr)) (gv 3) ge_int (fun _ _ => rfl)) ga_nil)) (gg_name (i := 10) sc_law.nd rfl (Or.inl rfl)) (gb_one (gs_for poF rfl (gi_range1 rfl T.nb_range (ga_cons (ge_ix (gi_any (hu_of hr)) (gv 3) ge_int (fun _ _ => rfl)) ga_nil)) (gg_name (i := 11) sc_law.nd rfl (Or.inl rfl)) (gb_cons (gs_set (i := 12) sc_law.nd rfl (Or.inl rfl) (ge_call (ok_address_at (P := P) (w := w) (K := K) (mg := mg) (base := base) T) (hr.mono (by decide)) rfl T.mg_address_at T.fn_address_at.kp T.bd_address_at .nil (fun _ => Rps.nil) takesF (ga_cons (gv 4) (ga_cons (gv 10) (ga_cons (gv 11) ga_nil)))))
  (gb_cons (gs_if (GW.gt (gw_or (gt_cmp (go_ne hr.units) (gv 12) (ge_op go_add (ge_op go_add (gv 7) (ge_op go_mul (gv 10) (ge_ix (gi_any (hu_of hr)) (gv 3) ge_int (fun _ _ => rfl)))) (gv 11)) (nomark _)) (gw_or (gt_cmp (go_ne hr.units) (ge_call (ok_segment_of (P := P) (w := w) (K := K) (mg := mg) (base := base) T) (hr.mono (by decide)) rfl T.mg_segment_of T.fn_segment_of.kp T.bd_segment_of .nil (fun _ => Rps.nil) takesF (ga_cons (gv 4) (ga_cons (gv 12) ga_nil))) (gv 10) (nomark _)) (gw_or1 (gt_cmp (go_ne hr.units) (ge_call (ok_place_of (P := P) (w := w) (K := K) (mg := mg) (base := base) T) (hr.mono (by decide)) rfl T.mg_place_of T.fn_place_of.kp T.bd_place_of .nil (fun _ => Rps.nil) takesF (ga_cons (gv 4) (ga_cons (gv 12) ga_nil))) (gv 11) (nomark _)))))) (gb_one (gs_ret ge_bl)) gb_nil)
  (gb_one (gs_expr (ge_bm PySem.F.plainAttrs_list PySem.F.slot_list_append PySem.F.type_list_append gm_append (gv 9) (ga_cons (gv 12) ga_nil)))))))))
  (gb_cons (gs_if (gt_cmp (go_ne hr.units) (gv 9) (ge_listRg rfl rfl T.nb_list (gr_2 rfl T.nb_range (gv 7) (ge_ix (gi_any (hu_of hr)) (gv 5) ge_str (fun _ _ => rfl)))) (nomark _)) (gb_one (gs_ret ge_bl)) gb_nil)
  (gb_cons (gs_for poF rfl (gi_list (ge_op go_add (ge_listRg rfl rfl T.nb_list (gr_1 rfl T.nb_range (gv 7))) (ge_lst (ga_cons (ge_ix (gi_any (hu_of hr)) (gv 5) ge_str (fun _ _ => rfl)) (ga_cons (ge_op go_add (ge_ix (gi_any (hu_of hr)) (gv 5) ge_str (fun _ _ => rfl)) (ge_call (ok__law_take (P := P) (w := w) (K := K) (mg := mg) (base := base) T) (hr.mono (by decide)) rfl T.mg__law_take T.fn__law_take.kp T.bd__law_take .nil (fun _ => Rps.nil) takesF (ga_cons (gv 1) (ga_cons ge_int ga_nil)))) ga_nil))))) (gg_name (i := 13) sc_law.nd rfl (Or.inl rfl)) (gb_one (gs_if (GW.gt (gw_or (gt_cmp (go_isnot) (ge_call (ok_segment_of (P := P) (w := w) (K := K) (mg := mg) (base := base) T) (hr.mono (by decide)) rfl T.mg_segment_of T.fn_segment_of.kp T.bd_segment_of .nil (fun _ => Rps.nil) takesF (ga_cons (gv 4) (ga_cons (gv 13) ga_nil))) ge_non (nomark _)) (gw_or1 (gt_cmp (go_isnot) (ge_call (ok_place_of (P := P) (w := w) (K := K) (mg := mg) (base := base) T) (hr.mono (by decide)) rfl T.mg_place_of T.fn_place_of.kp T.bd_place_of .nil (fun _ => Rps.nil) takesF (ga_cons (gv 4) (ga_cons (gv 13) ga_nil))) ge_non (nomark _))))) (gb_one (gs_ret ge_bl)) gb_nil)))
  (gb_cons (gs_for poF rfl (gi_range1 rfl T.nb_range (ga_cons ge_int ga_nil)) (gg_name (i := 2) sc_law.nd rfl (Or.inl rfl)) (gb_cons (gs_par (i := 13) (j := 14) rfl sc_law.nd rfl rfl (by decide) rfl rfl (ga_cons (ge_call (ok__law_take (P := P) (w := w) (K := K) (mg := mg) (base := base) T) (hr.mono (by decide)) rfl T.mg__law_take T.fn__law_take.kp T.bd__law_take .nil (fun _ => Rps.nil) takesF (ga_cons (gv 1) (ga_cons ge_int ga_nil))) (ga_cons (ge_op go_add ge_int (ge_call (ok__law_take (P := P) (w := w) (K := K) (mg := mg) (base := base) T) (hr.mono (by decide)) rfl T.mg__law_take T.fn__law_take.kp T.bd__law_take .nil (fun _ => Rps.nil) takesF (ga_cons (gv 1) (ga_cons ge_int ga_nil)))) ga_nil)) (by rfl))
  (gb_cons (gs_set (i := 15) sc_law.nd rfl (Or.inl rfl) (ge_call (ok_parts_of (P := P) (w := w) (K := K) (mg := mg) (base := base) T) (hr.mono (by decide)) rfl T.mg_parts_of T.fn_parts_of.kp T.bd_parts_of .nil (fun _ => Rps.nil) takesF (ga_cons (gv 13) (ga_cons (gv 14) ga_nil))))
  (gb_one (gs_if (GW.gt (gw_or (gt_cmp (go_lt) (ge_op go_mul (gv 15) (gv 14)) (gv 13) (nomark _)) (gw_or (GW.gt (gw_and (gt_cmp (go_gtI) (gv 15) ge_int (nomark _)) (gw_and1 (gt_cmp (go_geI) (ge_op go_mul (ge_op go_sub (gv 15) ge_int) (gv 14)) (gv 13) (nomark _))))) (gw_or1 (gt_cmp (go_lt) (gv 15) ge_int (nomark _)))))) (gb_one (gs_ret ge_bl)) gb_nil)))))
  (gb_one (gs_ret (ge_and (ge_cmp (go_eq hr.units) (ge_call (ok_address_at (P := P) (w := w) (K := K) (mg := mg) (base := base) T) (hr.mono (by decide)) rfl T.mg_address_at T.fn_address_at.kp T.bd_address_at .nil (fun _ => Rps.nil) takesF (ga_cons (ge_make T.mk_Layout (ok_Layout___init__ (P := P) (w := w) (K := K) (mg := mg) (base := base) T) (hr.mono (by decide)) rfl T.mg_Layout T.bd_Layout___init__ .nil (fun _ => Rps.nil) takesF (ga_cons ge_int (ga_cons ge_int (ga_cons ge_int ga_nil)))) (ga_cons ge_int (ga_cons ge_int ga_nil)))) ge_int (nomark _)) (ge_one (ge_cmp (go_eq hr.units) (ge_call (ok_parts_of (P := P) (w := w) (K := K) (mg := mg) (base := base) T) (hr.mono (by decide)) rfl T.mg_parts_of T.fn_parts_of.kp T.bd_parts_of .nil (fun _ => Rps.nil) takesF (ga_cons ge_int (ga_cons ge_int ga_nil))) ge_int (nomark _))))))))))))))))), ?body⟩)
  case len => rintro ds L Q E ⟨a, ns, rfl, _⟩; rfl
  case body =>
    rintro ds L Q PE ⟨a, ns, rfl, hl, hn, hb, k⟩
    refine ⟨[some (.ref a), none, none, none, none, none, none, none, none, none, none, none, none, none, none, none], rfl, ?_⟩
    tm_at "y_k"
    tm_at "y_go"
    intro p ms hd
    tm_at "y_go"
    refine for_rng (fun i δ L' => ∃ ms, δ = [some (.ref a), some (.ref p), none, none, none, none, none, none, none, none, none, none, none, none, none, none] ∧ L' = (p, .lst (ms.map .int)) :: L ∧ Deck ms) ?_ ?_ ?_
    · exact ⟨_, _, by tm_at "y_fg", .refl, ms, rfl, rfl, hd⟩
    · rintro i δ L' hi ⟨ms, rfl, rfl, hd⟩
      tm_at "y_go"
      intro s0 ms1 hd1 hs0 hs1
      tm_at "y_go"
      intro b0 ms2 hd2 hb0 hb1
      tm_at "y_go"
      intro pz
      tm_at "y_go"
      intro zi ms3 hd3 hz0 hz1
      obtain ⟨z, hix, hz⟩ : ∃ z : Int, atI [D.int 64, D.int 128, D.int 256, D.int 32, D.int 512, D.int 100] zi = some (.int z) ∧ (0 < z ∧ z ≤ 1000) := by
        have : zi = 0 ∨ zi = 1 ∨ zi = 2 ∨ zi = 3 ∨ zi = 4 ∨ zi = 5 := by omega
        rcases this with rfl | rfl | rfl | rfl | rfl | rfl <;> exact ⟨_, rfl, by decide, by decide⟩
      tm_at "y_go"
      have hm := lastI_bd (s := 3 + s0) (b := 15 + b0) (by omega) (by omega)
      refine ⟨fun ok => ?_, fun nok => ?_⟩
      · intro pl
        tm_at "y_go"
        intro pt
        unfold okL lastI at ok
        have hL : lastI (3 + s0) (15 + b0) = (3 + s0 - 2) * (15 + b0 - 1) + (15 + b0 - 1) := rfl
        tm_at "y_go"
        exact ⟨_, _, by tm_at "y_fg", by tm_at "y_sub", _, rfl, rfl, hd3⟩
      · tm_at "y_go"
        intro pt
        have hL : lastI (3 + s0) (15 + b0) = (3 + s0 - 2) * (15 + b0 - 1) + (15 + b0 - 1) := rfl
        unfold okL at nok
        tm_at "y_sp"
        all_goals first | exact ⟨_, _, by tm_at "y_fg", by tm_at "y_sub", _, rfl, rfl, hd3⟩ | (exfalso; omega)
    · rintro δ L' ⟨ms, rfl, rfl, hd⟩
      tm_at "y_go"
      intro s b z ms1 hd1 hsz
      have ok : okL s b z := by unfold LaySz at hsz; unfold okL lastI; rcases hsz with ⟨rfl, rfl, rfl⟩ | ⟨rfl, rfl, rfl⟩ | ⟨rfl, rfl, rfl⟩ | ⟨rfl, rfl, rfl⟩ | ⟨rfl, rfl, rfl⟩ <;> decide
      have hR : 0 ≤ regI s b z ∧ regI s b z ≤ 10000 := by unfold LaySz at hsz; rcases hsz with ⟨rfl, rfl, rfl⟩ | ⟨rfl, rfl, rfl⟩ | ⟨rfl, rfl, rfl⟩ | ⟨rfl, rfl, rfl⟩ | ⟨rfl, rfl, rfl⟩ <;> decide
      have hsb : 0 ≤ s * b ∧ s * b ≤ 10000 := by unfold LaySz at hsz; rcases hsz with ⟨rfl, rfl, rfl⟩ | ⟨rfl, rfl, rfl⟩ | ⟨rfl, rfl, rfl⟩ | ⟨rfl, rfl, rfl⟩ | ⟨rfl, rfl, rfl⟩ <;> decide
      have hdv : devI s b z = 2 * regI s b z + s * b := rfl
      have ok2 := ok
      unfold okL lastI at ok2
      have hs' : 4 ≤ s ∧ s ≤ 16 := by omega
      have hb' : 16 ≤ b ∧ b ≤ 32 := by omega
      have hz' : 64 ≤ z ∧ z ≤ 256 := by omega
      clear ok2 hsz
      tm_at "y_go"
      intro pl
      tm_at "y_go"
      refine ⟨fun _ => ?_, fun z => (z ok).elim⟩
      tm_at "y_go"
      intro pt
      tm_at "y_go"
      intro q
      refine lc_tup (fun i acc F => F = (pt, nums s b z) :: (pl, Lay A s b z) :: (p, .lst (ms1.map .int)) :: L ∧ acc = ([.int 0, .int (regI s b z)] : List D).take i) (by decide) ⟨rfl, rfl⟩ ?_ ?_
      · rintro i d acc F hi ha1 ha2 ⟨rfl, rfl⟩
        have : i = 0 ∨ i = 1 := by
          rcases i with _ | _ | i
          · exact .inl rfl
          · exact .inr rfl
          · cases hi
        rcases this with rfl | rfl <;> cases hi
        · tm_at "y_go"
          exact ⟨_, _, by tm_at "y_sub", Nat.le_refl _, rfl, by rw [Int.zero_mul]; rfl⟩
        · tm_at "y_go"
          exact ⟨_, _, by tm_at "y_sub", Nat.le_refl _, rfl, by rw [Int.one_mul]; rfl⟩
      · rintro acc F ha ⟨rfl, rfl⟩
        clear ha
        simp only [List.length_cons, List.length_nil, List.take_succ_cons, List.take_zero, Nat.zero_add]
        tm_at "y_go"
        intro q2
        tm_at "y_go"
        intro sn
        tm_at "y_go"
        obtain ⟨st, hst, hst0, hst1⟩ : ∃ st, 2 * regI s b z = st ∧ 0 ≤ st ∧ st ≤ 20000 := ⟨_, rfl, by omega, by omega⟩
        rw [hst] at hdv ⊢
        have hmul : ∀ g : Nat, (g : Int) < s → 0 ≤ (g : Int) * b ∧ (g : Int) * b + b ≤ s * b := fun g h => by
          have h1 : ((g : Int) + 1) * b ≤ s * b := Int.mul_le_mul_of_nonneg_right (by omega) (by omega)
          rw [Int.add_mul, Int.one_mul] at h1
          exact ⟨Int.mul_nonneg (by omega) (by omega), h1⟩
        refine for_rng (fun g δ L' => δ = [some (.ref a), some (.ref p), none, some (.tup [.int s, .int b, .int z]), some (.ref pl), some (.ref pt), none, some (.int st), none, some (.ref sn), none, none, none, none, none, none] ∧
          L' = (sn, .lst (rgD st (st + g * b))) :: (pt, nums s b z) :: (pl, Lay A s b z) :: (p, .lst (ms1.map .int)) :: L) ?_ ?_ ?_
        · exact Wk.by ⟨rfl, rfl⟩ (by tm_at "y_fg") (by rw [show (st + ((0 : Nat) : Int) * b) = st from by rw [Int.natCast_zero, Int.zero_mul]; omega, rgD_nil]; tm_at "y_sub")
        · rintro g δ L' hg ⟨rfl, rfl⟩
          have hg1 := hmul g (by omega)
          tm_at "y_go"
          refine for_rng (fun q δ L' => δ = [some (.ref a), some (.ref p), none, some (.tup [.int s, .int b, .int z]), some (.ref pl), some (.ref pt), none, some (.int st), none, some (.ref sn), some (.int (0 + (g : Int))), none, none, none, none, none] ∧
            L' = (sn, .lst (rgD st (st + (g * b + q)))) :: (pt, nums s b z) :: (pl, Lay A s b z) :: (p, .lst (ms1.map .int)) :: L) ?_ ?_ ?_
          · exact Wk.by ⟨rfl, rfl⟩ (by tm_at "y_fg") (by rw [show (st + ((g : Int) * b + ((0 : Nat) : Int))) = st + g * b from by omega]; tm_at "y_sub")
          · rintro q δ L' hq ⟨rfl, rfl⟩
            have hpl := place_law (g := g) (b := b) (p := q) (by omega) (by omega)
            rw [Int.zero_add, Int.zero_add]
            have e1 : 2 * regI s b z + (g : Int) * b + q - 2 * regI s b z = (g : Int) * b + q := by omega
            tm_at "y_go"
            refine ⟨fun _ => ?_, fun h => by omega⟩
            rw [e1, hpl.1]
            tm_at "y_go"
            refine ⟨fun _ => ?_, fun h => by omega⟩
            rw [e1, hpl.2]
            have hlen : (rgD st (st + ((g : Int) * b + q))).length < sizeLine := by rw [rgD_len, sizeLine_eq]; omega
            tm_at "y_go"
            exact Wk.by ⟨rfl, rfl⟩ (by tm_at "y_fg") (by rw [show 2 * regI s b z + (g : Int) * b + q = st + ((g : Int) * b + q) from by omega, rgD_snoc (by omega), show st + ((g : Int) * b + q) + 1 = st + ((g : Int) * b + ((q + 1 : Nat) : Int)) from by omega]; tm_at "y_sub")
          · rintro δ L' ⟨rfl, rfl⟩
            tm_at "y_go"
            exact Wk.by ⟨rfl, rfl⟩ (by tm_at "y_fg") (by rw [show (st + ((g : Int) * b + (b.toNat : Int))) = st + ((g + 1 : Nat) : Int) * b from by rw [Int.natCast_add, Int.add_mul]; omega]; tm_at "y_sub")
        · rintro δ L' ⟨rfl, rfl⟩
          rw [show (st + (s.toNat : Int) * b) = devI s b z from by rw [hdv, Int.toNat_of_nonneg (by omega)]]
          tm_at "y_go"
          intro q3
          tm_at "y_go"
          intro q4
          tm_at "y_go"
          intro tk ms2 hd2 ht0 ht1
          have hlen : (rgD 0 st).length + ([D.int (devI s b z), D.int (devI s b z + tk)] : List D).length ≤ sizeLine := by rw [rgD_len, sizeLine_eq]; simp only [List.length_cons, List.length_nil]; omega
          tm_at "y_go"
          intro q5
          tm_at "y_go"
          intro q6
          tm_at "y_go"
          refine for_lstD (fun i δ L' => δ = [some (.ref a), some (.ref p), none, some (.tup [.int s, .int b, .int z]), some (.ref pl), some (.ref pt), none, some (.int st), none, none, none, none, none, none, none, none] ∧
            L' = (q6, .lst (rgD 0 st ++ [D.int (devI s b z), D.int (devI s b z + tk)])) :: (pl, Lay A s b z) :: (p, .lst (ms2.map .int)) :: L) ?_ ?_ ?_ ?_
          · exact Wk.by ⟨rfl, rfl⟩ (by tm_at "y_fg") (by tm_at "y_sub")
          · rintro i δ L' hi ⟨rfl, rfl⟩
            infer_instance
          · rintro i d δ L' hi ⟨rfl, rfl⟩
            clear hlen hsb
            have hd9 : ∃ n : Int, d = .int n ∧ (n < st ∨ devI s b z ≤ n) := by
              rcases Nat.lt_or_ge i (rgD 0 st).length with q | q
              · rw [List.getElem?_append_left q] at hi
                have e := rgD_at hi
                exact ⟨_, e.1, .inl (by omega)⟩
              · rw [List.getElem?_append_right q] at hi
                generalize i - (rgD 0 st).length = j at hi
                rcases j with _ | _ | j
                · cases hi; exact ⟨_, rfl, .inr (by omega)⟩
                · cases hi; exact ⟨_, rfl, .inr (by omega)⟩
                · cases hi
            obtain ⟨n, rfl, hn9⟩ := hd9
            tm_at "y_go"
            refine ⟨fun h => by omega, fun _ => ?_⟩
            tm_at "y_go"
            refine ⟨fun h => by omega, fun _ => ?_⟩
            tm_at "y_go"
            exact Wk.by ⟨rfl, rfl⟩ (by tm_at "y_fg") (by tm_at "y_sub")
          · rintro δ L' ⟨rfl, rfl⟩
            clear hlen hsb hmul hdv hR hst hst0 hst1
            tm_at "y_go"
            refine for_rng (fun i δ L' => ∃ ms, δ = [some (.ref a), some (.ref p), none, some (.tup [.int s, .int b, .int z]), none, none, none, none, none, none, none, none, none, none, none, none] ∧ L' = (p, .lst (ms.map .int)) :: L ∧ Deck ms) ?_ ?_ ?_
            · exact Wk.by ⟨_, rfl, rfl, hd2⟩ (by tm_at "y_fg") (by tm_at "y_sub")
            · rintro i δ L' hi ⟨ms3, rfl, rfl, hd3⟩
              tm_at "y_go"
              intro n ms4 hd4 hn0 hn1
              tm_at "y_go"
              intro m ms5 hd5 hm0 hm1
              have hp := parts_law hn0 (show 0 < 1 + m by omega)
              have hb9 := ediv_bd (x := n + (1 + m) - 1) (z := 1 + m) (by omega) (by omega)
              have hq : -1000000000000 ≤ (n + (1 + m) - 1) / (1 + m) * (1 + m) ∧ (n + (1 + m) - 1) / (1 + m) * (1 + m) ≤ 1000000000000 := by
                have a1 := Int.ediv_mul_add_emod (n + (1 + m) - 1) (1 + m)
                have a2 := Int.emod_nonneg (n + (1 + m) - 1) (b := 1 + m) (by omega)
                have a3 := Int.emod_lt_of_pos (n + (1 + m) - 1) (b := 1 + m) (by omega)
                omega
              tm_at "y_sp"
              all_goals first | exact Wk.by ⟨_, rfl, rfl, hd5⟩ (by tm_at "y_fg") (by tm_at "y_sub") | (exfalso; omega)
            · rintro δ L' ⟨ms3, rfl, rfl, hd3⟩
              tm_at "y_go"
              intro x
              tm_at "y_go"
              refine ⟨fun _ => ⟨rfl, ?_⟩, fun h => (h (by unfold okL lastI; decide)).elim⟩
              have e9 : regI 4 16 64 = 6 := by decide
              tm_at "y_go"
              exact ⟨_, .refl, by rw [show decide ((0 + 5 - 1 : Int) / 5 = 0) = true from by decide]; exact k _⟩
end
theorem all_mk {P : Program} {w : World} {K : PySem.W.Frag} {h : Heap} {mg : Str → Option Value} {fa : Addr} (X : K.In h) (G : h.Ns mainGlobals mg) (hfa : mg "law" = some (.ref fa))
    {g0 : Addr} {od0 an0 : Option Addr} {sl0 : Array (Option Value)} {oc0 kV0 dc0 pm0 cd0 ct0 : Value}
    {g1 : Addr} {od1 an1 : Option Addr} {sl1 : Array (Option Value)} {oc1 kV1 dc1 pm1 cd1 ct1 : Value}
    {g2 : Addr} {od2 an2 : Option Addr} {sl2 : Array (Option Value)} {oc2 kV2 dc2 pm2 cd2 ct2 : Value}
    {g3 : Addr} {od3 an3 : Option Addr} {sl3 : Array (Option Value)} {oc3 kV3 dc3 pm3 cd3 ct3 : Value}
    {g4 : Addr} {od4 an4 : Option Addr} {sl4 : Array (Option Value)} {oc4 kV4 dc4 pm4 cd4 ct4 : Value}
    {g5 : Addr} {od5 an5 : Option Addr} {sl5 : Array (Option Value)} {oc5 kV5 dc5 pm5 cd5 ct5 : Value}
    {g6 : Addr} {od6 an6 : Option Addr} {sl6 : Array (Option Value)} {oc6 kV6 dc6 pm6 cd6 ct6 : Value}
    {g7 : Addr} {od7 an7 : Option Addr} {sl7 : Array (Option Value)} {oc7 kV7 dc7 pm7 cd7 ct7 : Value}
    {g8 : Addr} {od8 an8 : Option Addr} {sl8 : Array (Option Value)} {oc8 kV8 dc8 pm8 cd8 ct8 : Value}
    {g9 : Addr} {od9 an9 : Option Addr} {sl9 : Array (Option Value)} {oc9 kV9 dc9 pm9 cd9 ct9 : Value}
    {g10 : Addr} {od10 an10 : Option Addr} {sl10 : Array (Option Value)} {oc10 kV10 dc10 pm10 cd10 ct10 : Value}
    {g11 : Addr} {od11 an11 : Option Addr} {sl11 : Array (Option Value)} {oc11 kV11 dc11 pm11 cd11 ct11 : Value}
    {C0 : Addr}
    {C1 : Addr}
    {tq0 : Tok}
    {tq1 : Tok}
    {tq2 : Tok}
    {tq3 : Tok}
    {tq4 : Tok}
    {tq5 : Tok}
    (aC0 : PySem.W.nsIn K mainGlobals "Layout" = some (some (.ref C0)))
    (pg0 : PySem.W.plainGet K C0 Str.empty = true)
    (hd0 : PySem.W.hasDictIn K C0 = true)
    (po0 : PySem.W.plainOver K C0 = true)
    (sa0 : PySem.W.findIn K (.ref C0) "__setattr__" = some (some (.builtin "object.__setattr__")))
    (mk0 : PySem.W.makesIn K C0 = true)
    (kc0 : PySem.W.keepIn K (.ref C0) = true)
    (n0_0 : PySem.W.findIn K (.ref C0) "segments" = some none)
    (n0_1 : PySem.W.findIn K (.ref C0) "segment_blocks" = some none)
    (n0_2 : PySem.W.findIn K (.ref C0) "block_size" = some none)
    (n0_3 : PySem.W.findIn K (.ref C0) "payload" = some none)
    (n0_4 : PySem.W.findIn K (.ref C0) "limit" = some none)
    (n0_5 : PySem.W.findIn K (.ref C0) "last_id" = some none)
    (n0_6 : PySem.W.findIn K (.ref C0) "fan" = some none)
    (n0_7 : PySem.W.findIn K (.ref C0) "region_blocks" = some none)
    (n0_8 : PySem.W.findIn K (.ref C0) "device_blocks" = some none)
    (aC1 : PySem.W.nsIn K mainGlobals "InvalidFormat" = some (some (.ref C1)))
    (xc1 : PySem.W.excIn K C1 [.type "ValueError", .type "Exception", .type "BaseException", .type "object"] "ValueError.__new__" = true)
    (kc1 : PySem.W.keepIn K (.ref C1) = true)
    (sb1 : PySem.W.subIn K (.ref C1) (.type "BaseException") = some true)
    (ty1 : PySem.W.typeIn K (.ref C1) = some (.type "type"))
    (ic1 : PySem.W.isClsIn K C1 = true)
    (ss1 : PySem.W.subIn K (.ref C1) (.ref C1) = some true)
    (a0 : PySem.W.nsIn K mainGlobals "_law_deck" = some (some (.ref g0)))
    (l0 : K.lookup g0 = some ⟨oc0, od0, .func (PySem.W.fnOf "_law_deck" "_law_deck" (defArgs s__law_deck) (defBody s__law_deck) (defScope s__law_deck) .none kV0 dc0 pm0 an0 cd0 ct0), sl0⟩)
    (c0 : PySem.W.codeIn K cd0 "_law_deck" = true)
    (k0 : PySem.W.keepIn K (.ref g0) = true)
    (a1 : PySem.W.nsIn K mainGlobals "_law_take" = some (some (.ref g1)))
    (l1 : K.lookup g1 = some ⟨oc1, od1, .func (PySem.W.fnOf "_law_take" "_law_take" (defArgs s__law_take) (defBody s__law_take) (defScope s__law_take) .none kV1 dc1 pm1 an1 cd1 ct1), sl1⟩)
    (c1 : PySem.W.codeIn K cd1 "_law_take" = true)
    (k1 : PySem.W.keepIn K (.ref g1) = true)
    (a2 : PySem.W.nsIn K mainGlobals "_law_numbers" = some (some (.ref g2)))
    (l2 : K.lookup g2 = some ⟨oc2, od2, .func (PySem.W.fnOf "_law_numbers" "_law_numbers" (defArgs s__law_numbers) (defBody s__law_numbers) (defScope s__law_numbers) .none kV2 dc2 pm2 an2 cd2 ct2), sl2⟩)
    (c2 : PySem.W.codeIn K cd2 "_law_numbers" = true)
    (k2 : PySem.W.keepIn K (.ref g2) = true)
    (a3 : PySem.W.nsIn K mainGlobals "parts_of" = some (some (.ref g3)))
    (l3 : K.lookup g3 = some ⟨oc3, od3, .func (PySem.W.fnOf "parts_of" "parts_of" (defArgs s_parts_of) (defBody s_parts_of) (defScope s_parts_of) .none kV3 dc3 pm3 an3 cd3 ct3), sl3⟩)
    (c3 : PySem.W.codeIn K cd3 "parts_of" = true)
    (k3 : PySem.W.keepIn K (.ref g3) = true)
    (a4 : PySem.W.findIn K (.ref C0) "__init__" = some (some (.ref g4)))
    (i4 : PySem.W.isFn K (.ref g4) = true)
    (l4 : K.lookup g4 = some ⟨oc4, od4, .func (PySem.W.fnOf "__init__" "Layout.__init__" (defArgs s_Layout___init__) (defBody s_Layout___init__) (defScope s_Layout___init__) .none kV4 dc4 pm4 an4 cd4 ct4), sl4⟩)
    (c4 : PySem.W.codeIn K cd4 "Layout.__init__" = true)
    (k4 : PySem.W.keepIn K (.ref g4) = true)
    (a5 : PySem.W.nsIn K mainGlobals "_law_made" = some (some (.ref g5)))
    (l5 : K.lookup g5 = some ⟨oc5, od5, .func (PySem.W.fnOf "_law_made" "_law_made" (defArgs s__law_made) (defBody s__law_made) (defScope s__law_made) .none kV5 dc5 pm5 an5 cd5 ct5), sl5⟩)
    (c5 : PySem.W.codeIn K cd5 "_law_made" = true)
    (k5 : PySem.W.keepIn K (.ref g5) = true)
    (a6 : PySem.W.nsIn K mainGlobals "_law_layout" = some (some (.ref g6)))
    (l6 : K.lookup g6 = some ⟨oc6, od6, .func (PySem.W.fnOf "_law_layout" "_law_layout" (defArgs s__law_layout) (defBody s__law_layout) (defScope s__law_layout) .none kV6 dc6 pm6 an6 cd6 ct6), sl6⟩)
    (c6 : PySem.W.codeIn K cd6 "_law_layout" = true)
    (k6 : PySem.W.keepIn K (.ref g6) = true)
    (a7 : PySem.W.nsIn K mainGlobals "region_start" = some (some (.ref g7)))
    (l7 : K.lookup g7 = some ⟨oc7, od7, .func (PySem.W.fnOf "region_start" "region_start" (defArgs s_region_start) (defBody s_region_start) (defScope s_region_start) .none kV7 dc7 pm7 an7 cd7 ct7), sl7⟩)
    (c7 : PySem.W.codeIn K cd7 "region_start" = true)
    (k7 : PySem.W.keepIn K (.ref g7) = true)
    (a8 : PySem.W.nsIn K mainGlobals "address_at" = some (some (.ref g8)))
    (l8 : K.lookup g8 = some ⟨oc8, od8, .func (PySem.W.fnOf "address_at" "address_at" (defArgs s_address_at) (defBody s_address_at) (defScope s_address_at) .none kV8 dc8 pm8 an8 cd8 ct8), sl8⟩)
    (c8 : PySem.W.codeIn K cd8 "address_at" = true)
    (k8 : PySem.W.keepIn K (.ref g8) = true)
    (a9 : PySem.W.nsIn K mainGlobals "place_of" = some (some (.ref g9)))
    (l9 : K.lookup g9 = some ⟨oc9, od9, .func (PySem.W.fnOf "place_of" "place_of" (defArgs s_place_of) (defBody s_place_of) (defScope s_place_of) .none kV9 dc9 pm9 an9 cd9 ct9), sl9⟩)
    (c9 : PySem.W.codeIn K cd9 "place_of" = true)
    (k9 : PySem.W.keepIn K (.ref g9) = true)
    (a10 : PySem.W.nsIn K mainGlobals "segment_of" = some (some (.ref g10)))
    (l10 : K.lookup g10 = some ⟨oc10, od10, .func (PySem.W.fnOf "segment_of" "segment_of" (defArgs s_segment_of) (defBody s_segment_of) (defScope s_segment_of) .none kV10 dc10 pm10 an10 cd10 ct10), sl10⟩)
    (c10 : PySem.W.codeIn K cd10 "segment_of" = true)
    (k10 : PySem.W.keepIn K (.ref g10) = true)
    (a11 : PySem.W.nsIn K mainGlobals "law" = some (some (.ref g11)))
    (l11 : K.lookup g11 = some ⟨oc11, od11, .func (PySem.W.fnOf "law" "law" (defArgs s_law) (defBody s_law) (defScope s_law) .none kV11 dc11 pm11 an11 cd11 ct11), sl11⟩)
    (c11 : PySem.W.codeIn K cd11 "law" = true)
    (k11 : PySem.W.keepIn K (.ref g11) = true)
    (z0 : PySem.W.nsIn K mainGlobals "len" = some none)
    (z1 : PySem.W.nsIn K mainGlobals "range" = some none)
    (z2 : PySem.W.nsIn K mainGlobals "abs" = some none)
    (z3 : PySem.W.nsIn K mainGlobals "int" = some none)
    (z4 : PySem.W.nsIn K mainGlobals "list" = some none)
    (cq0 : PySem.W.nsIn K mainGlobals "LEAST_SEGMENTS" = some (some (.int (4) tq0)))
    (cq1 : PySem.W.nsIn K mainGlobals "MOST_SEGMENTS" = some (some (.int (16) tq1)))
    (cq2 : PySem.W.nsIn K mainGlobals "LEAST_BLOCKS" = some (some (.int (16) tq2)))
    (cq3 : PySem.W.nsIn K mainGlobals "MOST_BLOCKS" = some (some (.int (32) tq3)))
    (cq4 : PySem.W.nsIn K mainGlobals "HEAD_OCTETS" = some (some (.int (16) tq4)))
    (cq5 : PySem.W.nsIn K mainGlobals "SLOTS" = some (some (.int (3) tq5)))
    : ∃ fd : FuncData, (∀ (s : Shared) (v : Value), BindsTo s fd ⟨[v], []⟩ [("script", v)]) ∧ ∀ base : Heap, K.In base → base.Ns mainGlobals mg → GFn P w K mg base 5 fa fd ["script"] (spLawD K) := by
  have e := hfa.symm.trans (PySem.W.mg_of X G a11)
  cases e
  obtain ⟨D0, F0, B0⟩ : ∃ d, Fun K "_law_deck" "_law_deck" s__law_deck g0 d ∧ Binds K d ["script", "cells", "each"] [] := ⟨_, fun_mk (st := s__law_deck) l0 c0 k0, (fun_mk (st := s__law_deck) l0 c0 k0).binds (ps := ["script", "cells", "each"]) fun _ _ _ _ _ _ us hl => match us, hl with | [_, _, _], _ => rfl⟩
  obtain ⟨D1, F1, B1⟩ : ∃ d, Fun K "_law_take" "_law_take" s__law_take g1 d ∧ Binds K d ["deck", "many"] [] := ⟨_, fun_mk (st := s__law_take) l1 c1 k1, (fun_mk (st := s__law_take) l1 c1 k1).binds (ps := ["deck", "many"]) fun _ _ _ _ _ _ us hl => match us, hl with | [_, _], _ => rfl⟩
  obtain ⟨D2, F2, B2⟩ : ∃ d, Fun K "_law_numbers" "_law_numbers" s__law_numbers g2 d ∧ Binds K d ["sizes"] [] := ⟨_, fun_mk (st := s__law_numbers) l2 c2 k2, (fun_mk (st := s__law_numbers) l2 c2 k2).binds (ps := ["sizes"]) fun _ _ _ _ _ _ us hl => match us, hl with | [_], _ => rfl⟩
  obtain ⟨D3, F3, B3⟩ : ∃ d, Fun K "parts_of" "parts_of" s_parts_of g3 d ∧ Binds K d ["number", "size"] [] := ⟨_, fun_mk (st := s_parts_of) l3 c3 k3, (fun_mk (st := s_parts_of) l3 c3 k3).binds (ps := ["number", "size"]) fun _ _ _ _ _ _ us hl => match us, hl with | [_, _], _ => rfl⟩
  obtain ⟨D4, F4, B4⟩ : ∃ d, Fun K "__init__" "Layout.__init__" s_Layout___init__ g4 d ∧ Binds K d ["self", "segments", "segment_blocks", "block_size"] [] := ⟨_, fun_mk (st := s_Layout___init__) l4 c4 k4, (fun_mk (st := s_Layout___init__) l4 c4 k4).binds (ps := ["self", "segments", "segment_blocks", "block_size"]) fun _ _ _ _ _ _ us hl => match us, hl with | [_, _, _, _], _ => rfl⟩
  obtain ⟨D5, F5, B5⟩ : ∃ d, Fun K "_law_made" "_law_made" s__law_made g5 d ∧ Binds K d ["sizes"] [] := ⟨_, fun_mk (st := s__law_made) l5 c5 k5, (fun_mk (st := s__law_made) l5 c5 k5).binds (ps := ["sizes"]) fun _ _ _ _ _ _ us hl => match us, hl with | [_], _ => rfl⟩
  obtain ⟨D6, F6, B6⟩ : ∃ d, Fun K "_law_layout" "_law_layout" s__law_layout g6 d ∧ Binds K d ["deck"] [] := ⟨_, fun_mk (st := s__law_layout) l6 c6 k6, (fun_mk (st := s__law_layout) l6 c6 k6).binds (ps := ["deck"]) fun _ _ _ _ _ _ us hl => match us, hl with | [_], _ => rfl⟩
  obtain ⟨D7, F7, B7⟩ : ∃ d, Fun K "region_start" "region_start" s_region_start g7 d ∧ Binds K d ["layout", "region"] [] := ⟨_, fun_mk (st := s_region_start) l7 c7 k7, (fun_mk (st := s_region_start) l7 c7 k7).binds (ps := ["layout", "region"]) fun _ _ _ _ _ _ us hl => match us, hl with | [_, _], _ => rfl⟩
  obtain ⟨D8, F8, B8⟩ : ∃ d, Fun K "address_at" "address_at" s_address_at g8 d ∧ Binds K d ["layout", "segment", "place"] [] := ⟨_, fun_mk (st := s_address_at) l8 c8 k8, (fun_mk (st := s_address_at) l8 c8 k8).binds (ps := ["layout", "segment", "place"]) fun _ _ _ _ _ _ us hl => match us, hl with | [_, _, _], _ => rfl⟩
  obtain ⟨D9, F9, B9⟩ : ∃ d, Fun K "place_of" "place_of" s_place_of g9 d ∧ Binds K d ["layout", "address"] [] := ⟨_, fun_mk (st := s_place_of) l9 c9 k9, (fun_mk (st := s_place_of) l9 c9 k9).binds (ps := ["layout", "address"]) fun _ _ _ _ _ _ us hl => match us, hl with | [_, _], _ => rfl⟩
  obtain ⟨D10, F10, B10⟩ : ∃ d, Fun K "segment_of" "segment_of" s_segment_of g10 d ∧ Binds K d ["layout", "address"] [] := ⟨_, fun_mk (st := s_segment_of) l10 c10 k10, (fun_mk (st := s_segment_of) l10 c10 k10).binds (ps := ["layout", "address"]) fun _ _ _ _ _ _ us hl => match us, hl with | [_, _], _ => rfl⟩
  obtain ⟨D11, F11, B11, BL⟩ : ∃ d, Fun K "law" "law" s_law fa d ∧ Binds K d ["script"] [] ∧ ∀ (s : Shared) (v : Value), BindsTo s d ⟨[v], []⟩ [("script", v)] := ⟨_, fun_mk (st := s_law) l11 c11 k11, (fun_mk (st := s_law) l11 c11 k11).binds (ps := ["script"]) fun _ _ _ _ _ _ us hl => match us, hl with | [_], _ => rfl, fun s v => .of_eq rfl⟩
  let A : Ad := { f__law_deck := g0, d__law_deck := D0, f__law_take := g1, d__law_take := D1, f__law_numbers := g2, d__law_numbers := D2, f_parts_of := g3, d_parts_of := D3, f_Layout___init__ := g4, d_Layout___init__ := D4, f__law_made := g5, d__law_made := D5, f__law_layout := g6, d__law_layout := D6, f_region_start := g7, d_region_start := D7, f_address_at := g8, d_address_at := D8, f_place_of := g9, d_place_of := D9, f_segment_of := g10, d_segment_of := D10, f_law := fa, d_law := D11, c_Layout := C0, c_InvalidFormat := C1 }
  have T : Txt K mg A := { fn__law_deck := F0, bd__law_deck := B0, mg__law_deck := PySem.W.mg_of X G a0, fn__law_take := F1, bd__law_take := B1, mg__law_take := PySem.W.mg_of X G a1, fn__law_numbers := F2, bd__law_numbers := B2, mg__law_numbers := PySem.W.mg_of X G a2, fn_parts_of := F3, bd_parts_of := B3, mg_parts_of := PySem.W.mg_of X G a3, fn_Layout___init__ := F4, bd_Layout___init__ := B4, fn__law_made := F5, bd__law_made := B5, mg__law_made := PySem.W.mg_of X G a5, fn__law_layout := F6, bd__law_layout := B6, mg__law_layout := PySem.W.mg_of X G a6, fn_region_start := F7, bd_region_start := B7, mg_region_start := PySem.W.mg_of X G a7, fn_address_at := F8, bd_address_at := B8, mg_address_at := PySem.W.mg_of X G a8, fn_place_of := F9, bd_place_of := B9, mg_place_of := PySem.W.mg_of X G a9, fn_segment_of := F10, bd_segment_of := B10, mg_segment_of := PySem.W.mg_of X G a10, fn_law := F11, bd_law := B11, mg_law := PySem.W.mg_of X G a11, cl_Layout := ⟨pg0, hd0, po0, sa0⟩, mg_Layout := PySem.W.mg_of X G aC0, mk_Layout := ⟨mk0, a4, i4, kc0⟩, at_Layout_segments := ⟨⟨pg0, hd0, po0, sa0⟩, n0_0⟩, at_Layout_segment_blocks := ⟨⟨pg0, hd0, po0, sa0⟩, n0_1⟩, at_Layout_block_size := ⟨⟨pg0, hd0, po0, sa0⟩, n0_2⟩, at_Layout_payload := ⟨⟨pg0, hd0, po0, sa0⟩, n0_3⟩, at_Layout_limit := ⟨⟨pg0, hd0, po0, sa0⟩, n0_4⟩, at_Layout_last_id := ⟨⟨pg0, hd0, po0, sa0⟩, n0_5⟩, at_Layout_fan := ⟨⟨pg0, hd0, po0, sa0⟩, n0_6⟩, at_Layout_region_blocks := ⟨⟨pg0, hd0, po0, sa0⟩, n0_7⟩, at_Layout_device_blocks := ⟨⟨pg0, hd0, po0, sa0⟩, n0_8⟩, mg_InvalidFormat := PySem.W.mg_of X G aC1, xc_InvalidFormat := xc1, kp_InvalidFormat := kc1, sb_InvalidFormat := sb1, ty_InvalidFormat := ty1, me_InvalidFormat := exm_of sb1 ic1 ty1 ss1, nb_len := PySem.W.mg_none_of X G z0, nb_range := PySem.W.mg_none_of X G z1, nb_abs := PySem.W.mg_none_of X G z2, nb_int := PySem.W.mg_none_of X G z3, nb_list := PySem.W.mg_none_of X G z4, cn_LEAST_SEGMENTS := CstD.int (PySem.W.mg_of X G cq0), cn_MOST_SEGMENTS := CstD.int (PySem.W.mg_of X G cq1), cn_LEAST_BLOCKS := CstD.int (PySem.W.mg_of X G cq2), cn_MOST_BLOCKS := CstD.int (PySem.W.mg_of X G cq3), cn_HEAD_OCTETS := CstD.int (PySem.W.mg_of X G cq4), cn_SLOTS := CstD.int (PySem.W.mg_of X G cq5) }
  exact ⟨_, BL, fun base _ _ => ok_law (A := A) T⟩
theorem walk {l : PySem.W.OpenLaw} {q : Program} {loose : List Str} {XP : (Str → Option Value) → Heap → Prop} {YP : World → Heap → Prop} {d : DefRec} {K : Params → PySem.W.Frag} (hn : l.most = some 63) (hdf : d.params.defaults = [])
    (hY : ∀ (w : World) (h : Heap), YP w h → (K w.params).In h)
    (F : ∀ (w : World) (mg : Str → Option Value) (fa : Addr) (h : Heap), (K w.params).In h → h.Ns mainGlobals mg → mg d.name = some (.ref fa) →
      ∃ fd : FuncData, (∀ (s : Shared) (u : Value), BindsTo s fd ⟨[u], []⟩ [("script", u)]) ∧ ∀ base : Heap, (K w.params).In base → base.Ns mainGlobals mg → GFn l.prog w (K w.params) mg base 5 fa fd ["script"] (spLawD (K w.params))) :
    PySem.W.WalkO q loose XP YP l.row.toRowW d [] (fun f vs => PySem.call f vs) := law_walk hn hdf ⟨rfl, by decide, by decide⟩ hY F
end Own
open PySem PySem.W PyProof.Rows
set_option maxRecDepth 100000 in
set_option maxHeartbeats 0 in
theorem PySem.Challenge.cw_segmentfs_k00_whole_layouts_and_addresse_holds : PySem.Challenge.rw_segmentfs_k00_whole_layouts_and_addresse.Holds := by
  w_on; o_law; k_head; (case hw => w_witness2)
  k_fill
  refine Own.walk (l := PySem.Challenge.rw_segmentfs_k00_whole_layouts_and_addresse) rfl rfl (fun w h Y => PySem.W.kIn_of Y) ?F
  case F =>
    intro w mg fa h KX G hmg
    refine' Own.all_mk KX G hmg ?aC0 ?pg0 ?hd0 ?po0 ?sa0 ?mk0 ?kc0 ?n0_0 ?n0_1 ?n0_2 ?n0_3 ?n0_4 ?n0_5 ?n0_6 ?n0_7 ?n0_8 ?aC1 ?xc1 ?kc1 ?sb1 ?ty1 ?ic1 ?ss1 ?a0 ?l0 ?c0 ?k0 ?a1 ?l1 ?c1 ?k1 ?a2 ?l2 ?c2 ?k2 ?a3 ?l3 ?c3 ?k3 ?a4 ?i4 ?l4 ?c4 ?k4 ?a5 ?l5 ?c5 ?k5 ?a6 ?l6 ?c6 ?k6 ?a7 ?l7 ?c7 ?k7 ?a8 ?l8 ?c8 ?k8 ?a9 ?l9 ?c9 ?k9 ?a10 ?l10 ?c10 ?k10 ?a11 ?l11 ?c11 ?k11 ?z0 ?z1 ?z2 ?z3 ?z4 ?cq0 ?cq1 ?cq2 ?cq3 ?cq4 ?cq5
    (case aC0 => k_is)
    (case pg0 => k_is)
    (case hd0 => k_is)
    (case po0 => k_is)
    (case sa0 => k_is)
    (case mk0 => k_is)
    (case kc0 => k_is)
    (case n0_0 => k_is)
    (case n0_1 => k_is)
    (case n0_2 => k_is)
    (case n0_3 => k_is)
    (case n0_4 => k_is)
    (case n0_5 => k_is)
    (case n0_6 => k_is)
    (case n0_7 => k_is)
    (case n0_8 => k_is)
    (case aC1 => k_is)
    (case xc1 => first | k_exc | k_is)
    (case kc1 => k_is)
    (case sb1 => k_is)
    (case ty1 => k_is)
    (case ic1 => k_is)
    (case ss1 => first | rfl | k_is)
    (case a0 => k_is)
    (case l0 => k_is)
    (case c0 => k_is)
    (case k0 => k_is)
    (case a1 => k_is)
    (case l1 => k_is)
    (case c1 => k_is)
    (case k1 => k_is)
    (case a2 => k_is)
    (case l2 => k_is)
    (case c2 => k_is)
    (case k2 => k_is)
    (case a3 => k_is)
    (case l3 => k_is)
    (case c3 => k_is)
    (case k3 => k_is)
    (case a4 => k_is)
    (case i4 => k_is)
    (case l4 => k_is)
    (case c4 => k_is)
    (case k4 => k_is)
    (case a5 => k_is)
    (case l5 => k_is)
    (case c5 => k_is)
    (case k5 => k_is)
    (case a6 => k_is)
    (case l6 => k_is)
    (case c6 => k_is)
    (case k6 => k_is)
    (case a7 => k_is)
    (case l7 => k_is)
    (case c7 => k_is)
    (case k7 => k_is)
    (case a8 => k_is)
    (case l8 => k_is)
    (case c8 => k_is)
    (case k8 => k_is)
    (case a9 => k_is)
    (case l9 => k_is)
    (case c9 => k_is)
    (case k9 => k_is)
    (case a10 => k_is)
    (case l10 => k_is)
    (case c10 => k_is)
    (case k10 => k_is)
    (case a11 => k_is)
    (case l11 => k_is)
    (case c11 => k_is)
    (case k11 => k_is)
    (case z0 => k_is)
    (case z1 => k_is)
    (case z2 => k_is)
    (case z3 => k_is)
    (case z4 => k_is)
    (case cq0 => k_is)
    (case cq1 => k_is)
    (case cq2 => k_is)
    (case cq3 => k_is)
    (case cq4 => k_is)
    (case cq5 => k_is)
