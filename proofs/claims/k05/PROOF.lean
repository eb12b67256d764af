import PyProof.Rows.All
import Wide.All
import OpenK.AllK
import Wide.FinOn
import HandS.ForMost
import HandS.Wide
import HandS.IsInst
import HandS.Walk
import HandS.Zip
import HandS.Rev
import HandS.Conv
import HandS.TupAny
import HandS.Style
import HandS.Deep
import HandS.More
import HandS.FStrTup
import KE.SortData
import PyProof.Rows.IntBool
import HandS.Words
import HandS.Ends
import HandS.WordsDict
import KE.GoesMore
import HandS.NoneIn
import HandS.Text
import HandS.StrMore
import HandS.ExcOwn
import HandS.ExcIs
import KE.RegKIsAll
import HandS.ExcValue
import HandS.ExcInit
import HandS.ExcField
import PySem.Challenge.RW_sidecut_k05_lengths_and_units
set_option Elab.async false
set_option linter.all false
set_option maxRecDepth 100000
set_option maxHeartbeats 4000000
namespace Mp
open PySem PySem.Spec PyProof.Rows L2

/-! ### pure data over a store of lists and dicts -/
inductive PV where
  | non | bl (b : Bool) | int (i : Int) | str (x : Str) | ref (a : Addr) | ty (n : String) | fz (ns : List Int) | tup (xs : List PV)
inductive SO where
  | l (xs : List PV) | d (kvs : List (Key × PV))
abbrev Sto := Addr → Option SO
def put (L : Sto) (a : Addr) (o : SO) : Sto := fun b => if b = a then some o else L b
theorem put_same {L : Sto} {a : Addr} {o : SO} : put L a o a = some o := by unfold put; rw [if_pos rfl]
theorem put_ne {L : Sto} {a b : Addr} {o : SO} (h : b ≠ a) : put L a o b = L b := by unfold put; rw [if_neg h]

def TupAt (K : PySem.W.Frag) (H : Hp) (a : Addr) (vs : List V) : Prop := H a = some (.tup vs) ∨ SqT K (fun _ => none) a vs
mutual
def RepV (K : PySem.W.Frag) (H : Hp) : PV → V → Prop
  | .non, v => v = .non
  | .bl b, v => v = .bl b
  | .int i, v => v = .int i
  | .str x, v => v = .str x
  | .ref a, v => v = .ref a
  | .ty n, v => v = .ty n
  | .fz ns, v => ∃ a, v = .ref a ∧ ((∃ o, H a = some (.frz o (.lst (ns.map V.int)))) ∨ SqL K (fun _ => none) a (ns.map V.int))
  | .tup xs, v => ∃ a vs, v = .ref a ∧ TupAt K H a vs ∧ RepVs K H xs vs
def RepVs (K : PySem.W.Frag) (H : Hp) : List PV → List V → Prop
  | [], vs => vs = []
  | x :: xs, vs => ∃ v r, vs = v :: r ∧ RepV K H x v ∧ RepVs K H xs r
end
def RepKs (K : PySem.W.Frag) (H : Hp) : List (Key × PV) → List (Key × V) → Prop
  | [], ks => ks = []
  | (k, x) :: xs, ks => ∃ v r, ks = (k, v) :: r ∧ RepV K H x v ∧ RepKs K H xs r
def RepO (K : PySem.W.Frag) (H : Hp) (a : Addr) : SO → Prop
  | .l xs => ∃ vs, H a = some (.lst vs) ∧ RepVs K H xs vs
  | .d kvs => ∃ ks, H a = some (.dK ks) ∧ RepKs K H kvs ks
def RepH (K : PySem.W.Frag) (H : Hp) (L : Sto) : Prop := ∀ a o, L a = some o → RepO K H a o
/-- what is not in the store stays -/
def Fm (H : Hp) (L : Sto) (H' : Hp) (L' : Sto) : Prop := ∀ a o, H a = some o → L a = none → H' a = some o ∧ L' a = none
abbrev Env := List (Option PV)
def RepS (K : PySem.W.Frag) (H : Hp) (σ : L2.St) (env : Env) : Prop := σ.length = env.length ∧ ∀ (i : Nat) (x : PV), env[i]? = some (some x) → ∃ v, σ[i]? = some (some v) ∧ RepV K H x v

/-- tuples and frozen lists stay -/
def Ex (H H' : Hp) : Prop := (∀ a xs, H a = some (.tup xs) → H' a = some (.tup xs)) ∧ (∀ a o xs, H a = some (.frz o (.lst xs)) → H' a = some (.frz o (.lst xs)))

section
variable {K : PySem.W.Frag} {H H' H1 H2 : Hp} {L L' La Lb : Sto}
theorem Fm.refl : Fm H L H L := fun _ _ h n => ⟨h, n⟩
theorem Fm.trans (a : Fm H L H1 La) (b : Fm H1 La H2 Lb) : Fm H L H2 Lb := fun c o h n => let ⟨x, y⟩ := a c o h n; b c o x y
theorem RepH.notTup (r : RepH K H L) {a : Addr} {xs : List V} (h : H a = some (.tup xs)) : L a = none := by
  cases e : L a with
  | none => rfl
  | some o =>
    cases o with
    | l ys => obtain ⟨vs, q, _⟩ := r a _ e; rw [h] at q; cases q
    | d ys => obtain ⟨vs, q, _⟩ := r a _ e; rw [h] at q; cases q
theorem RepH.notFrz (r : RepH K H L) {a : Addr} {o : Obj} {u : HO} (h : H a = some (.frz o u)) : L a = none := by
  cases e : L a with
  | none => rfl
  | some o =>
    cases o with
    | l ys => obtain ⟨vs, q, _⟩ := r a _ e; rw [h] at q; cases q
    | d ys => obtain ⟨vs, q, _⟩ := r a _ e; rw [h] at q; cases q
theorem RepH.fresh (r : RepH K H L) {a : Addr} (h : H a = none) : L a = none := by
  cases e : L a with
  | none => rfl
  | some o =>
    cases o with
    | l ys => obtain ⟨vs, q, _⟩ := r a _ e; rw [h] at q; cases q
    | d ys => obtain ⟨vs, q, _⟩ := r a _ e; rw [h] at q; cases q
theorem Fm.ex (f : Fm H L H' L') (r : RepH K H L) : Ex H H' := ⟨fun a xs h => (f a _ h (r.notTup h)).1, fun a o xs h => (f a _ h (r.notFrz h)).1⟩
theorem Ex.refl : Ex H H := ⟨fun _ _ h => h, fun _ _ _ h => h⟩
theorem Ex.trans (a : Ex H H1) (b : Ex H1 H2) : Ex H H2 := ⟨fun c xs h => b.1 c xs (a.1 c xs h), fun c o xs h => b.2 c o xs (a.2 c o xs h)⟩
theorem sqT_up {a : Addr} {xs : List V} (h : SqT K (fun _ => none) a xs) : SqT K H a xs := by
  rcases h with (h | ⟨o, h⟩) | h
  · cases h
  · cases h
  · exact .inr h
theorem sqL_up {a : Addr} {xs : List V} (h : SqL K (fun _ => none) a xs) : SqL K H a xs := by
  rcases h with (h | ⟨o, h⟩) | h
  · cases h
  · cases h
  · exact .inr h
theorem TupAt.sq {a : Addr} {xs : List V} (h : TupAt K H a xs) : SqT K H a xs := by
  rcases h with h | h
  · exact .inl (.inl h)
  · exact sqT_up h
theorem TupAt.ex {a : Addr} {xs : List V} (e : Ex H H') (h : TupAt K H a xs) : TupAt K H' a xs := h.elim (fun q => .inl (e.1 _ _ q)) .inr
mutual
theorem RepV.ex (e : Ex H H') : ∀ {x : PV} {v : V}, RepV K H x v → RepV K H' x v
  | .non, _, h => h
  | .bl _, _, h => h
  | .int _, _, h => h
  | .str _, _, h => h
  | .ref _, _, h => h
  | .ty _, _, h => h
  | .fz _, _, ⟨a, h1, h2⟩ => ⟨a, h1, h2.elim (fun ⟨o, q⟩ => .inl ⟨o, e.2 _ _ _ q⟩) .inr⟩
  | .tup _, _, ⟨a, vs, h1, h2, h3⟩ => ⟨a, vs, h1, h2.ex e, RepVs.ex e h3⟩
theorem RepVs.ex (e : Ex H H') : ∀ {x : List PV} {v : List V}, RepVs K H x v → RepVs K H' x v
  | [], _, h => h
  | _ :: _, _, ⟨v, r, h1, h2, h3⟩ => ⟨v, r, h1, RepV.ex e h2, RepVs.ex e h3⟩
end
theorem RepKs.ex (e : Ex H H') : ∀ {x : List (Key × PV)} {v : List (Key × V)}, RepKs K H x v → RepKs K H' x v
  | [], _, h => h
  | _ :: _, _, ⟨v, r, h1, h2, h3⟩ => ⟨v, r, h1, RepV.ex e h2, RepKs.ex e h3⟩
theorem RepVs.length : ∀ {x : List PV} {v : List V}, RepVs K H x v → x.length = v.length
  | [], _, h => by
    have h : _ = [] := h
    rw [h]
    rfl
  | _ :: _, _, ⟨v, r, h1, h2, h3⟩ => by rw [h1, List.length_cons, List.length_cons, RepVs.length h3]
theorem RepVs.get : ∀ {xs : List PV} {vs : List V} {i : Nat} {x : PV}, RepVs K H xs vs → xs[i]? = some x → ∃ v, vs[i]? = some v ∧ RepV K H x v
  | [], _, _, _, _, e => by simp at e
  | y :: ys, _, 0, x, ⟨v, r, h1, h2, h3⟩, e => by
    simp at e
    subst e
    exact ⟨v, by rw [h1]; rfl, h2⟩
  | y :: ys, _, i + 1, x, ⟨v, r, h1, h2, h3⟩, e => by
    obtain ⟨w, q1, q2⟩ := RepVs.get (i := i) h3 (by simpa using e)
    exact ⟨w, by rw [h1]; simpa using q1, q2⟩
theorem RepVs.getV : ∀ {xs : List PV} {vs : List V} {i : Nat} {v : V}, RepVs K H xs vs → vs[i]? = some v → ∃ x, xs[i]? = some x ∧ RepV K H x v
  | [], _, _, _, h, e => by
    have h : _ = [] := h
    rw [h] at e
    simp at e
  | y :: ys, _, 0, x, ⟨v, r, h1, h2, h3⟩, e => by
    subst h1
    simp at e
    subst e
    exact ⟨y, rfl, h2⟩
  | y :: ys, _, i + 1, x, ⟨v, r, h1, h2, h3⟩, e => by
    subst h1
    obtain ⟨w, q1, q2⟩ := RepVs.getV (i := i) h3 (by simpa using e)
    exact ⟨w, by simpa using q1, q2⟩
theorem RepVs.append : ∀ {xs ys : List PV} {vs ws : List V}, RepVs K H xs vs → RepVs K H ys ws → RepVs K H (xs ++ ys) (vs ++ ws)
  | [], _, _, _, h, q => by
    have h : _ = [] := h
    rw [h]
    exact q
  | _ :: _, _, _, _, ⟨v, r, h1, h2, h3⟩, q => ⟨v, r ++ _, by rw [h1]; rfl, h2, RepVs.append h3 q⟩
theorem RepVs.take : ∀ {xs : List PV} {vs : List V} (n : Nat), RepVs K H xs vs → RepVs K H (xs.take n) (vs.take n)
  | _, _, 0, _ => rfl
  | [], _, _ + 1, h => by
    have h : _ = [] := h
    rw [h]
    rfl
  | _ :: _, _, n + 1, ⟨v, r, h1, h2, h3⟩ => ⟨v, r.take n, by rw [h1]; rfl, h2, RepVs.take n h3⟩
theorem RepVs.drop : ∀ {xs : List PV} {vs : List V} (n : Nat), RepVs K H xs vs → RepVs K H (xs.drop n) (vs.drop n)
  | _, _, 0, h => h
  | [], _, _ + 1, h => by
    have h : _ = [] := h
    rw [h]
    rfl
  | _ :: _, _, n + 1, ⟨v, r, h1, h2, h3⟩ => by
    rw [h1]
    exact RepVs.drop n h3
theorem RepVs.set : ∀ {xs : List PV} {vs : List V} (n : Nat) {x : PV} {v : V}, RepVs K H xs vs → RepV K H x v → RepVs K H (xs.set n x) (vs.set n v)
  | [], _, _, _, _, h, _ => by
    have h : _ = [] := h
    rw [h]
    rfl
  | _ :: _, _, 0, _, _, ⟨v, r, h1, h2, h3⟩, q => ⟨_, r, by rw [h1]; rfl, q, h3⟩
  | _ :: _, _, n + 1, _, _, ⟨v, r, h1, h2, h3⟩, q => ⟨v, r.set n _, by rw [h1]; rfl, h2, RepVs.set n h3 q⟩
theorem RepVs.eraseIdx : ∀ {xs : List PV} {vs : List V} (n : Nat), RepVs K H xs vs → RepVs K H (xs.eraseIdx n) (vs.eraseIdx n)
  | [], _, _, h => by
    have h : _ = [] := h
    rw [h]
    rfl
  | _ :: _, _, 0, ⟨v, r, h1, h2, h3⟩ => by rw [h1]; exact h3
  | _ :: _, _, n + 1, ⟨v, r, h1, h2, h3⟩ => ⟨v, r.eraseIdx n, by rw [h1]; rfl, h2, RepVs.eraseIdx n h3⟩
theorem RepVs.reverse : ∀ {xs : List PV} {vs : List V}, RepVs K H xs vs → RepVs K H xs.reverse vs.reverse
  | [], _, h => by
    have h : _ = [] := h
    rw [h]
    rfl
  | _ :: _, _, ⟨v, r, h1, h2, h3⟩ => by
    rw [h1, List.reverse_cons, List.reverse_cons]
    exact RepVs.append (RepVs.reverse h3) ⟨v, [], rfl, h2, rfl⟩
theorem RepVs.dropLast : ∀ {xs : List PV} {vs : List V}, RepVs K H xs vs → RepVs K H xs.dropLast vs.dropLast := fun {xs vs} h => by
  rw [List.dropLast_eq_take, List.dropLast_eq_take, h.length]
  exact h.take _
theorem RepVs.rep {xs : List PV} {vs : List V} (h : RepVs K H xs vs) : ∀ k : Nat, RepVs K H (List.replicate k xs).flatten (List.replicate k vs).flatten
  | 0 => rfl
  | k + 1 => by
    rw [List.replicate_succ, List.replicate_succ, List.flatten_cons, List.flatten_cons]
    exact h.append (RepVs.rep h k)
theorem RepVs.ints : ∀ {ns : List Int} {vs : List V}, RepVs K H (ns.map PV.int) vs → vs = ns.map V.int
  | [], _, h => h
  | n :: ns, _, ⟨v, r, h1, h2, h3⟩ => by
    have h2 : v = .int n := h2
    rw [h1, h2, RepVs.ints h3]
    rfl
theorem RepVs.ofInts : ∀ {ns : List Int}, RepVs K H (ns.map PV.int) (ns.map V.int)
  | [] => rfl
  | n :: ns => ⟨.int n, _, rfl, rfl, RepVs.ofInts⟩
theorem RepVs.bls : ∀ {ns : List Bool} {vs : List V}, RepVs K H (ns.map PV.bl) vs → vs = ns.map V.bl
  | [], _, h => h
  | n :: ns, _, ⟨v, r, h1, h2, h3⟩ => by
    have h2 : v = .bl n := h2
    rw [h1, h2, RepVs.bls h3]
    rfl
theorem RepVs.strs : ∀ {ns : List Str} {vs : List V}, RepVs K H (ns.map PV.str) vs → vs = ns.map V.str
  | [], _, h => h
  | n :: ns, _, ⟨v, r, h1, h2, h3⟩ => by
    have h2 : v = .str n := h2
    rw [h1, h2, RepVs.strs h3]
    rfl
theorem RepVs.one {x : PV} {vs : List V} (h : RepVs K H [x] vs) : ∃ v, vs = [v] ∧ RepV K H x v := by
  obtain ⟨v, r, h1, h2, h3⟩ := h
  have h3 : r = [] := h3
  subst h3
  exact ⟨v, h1, h2⟩
theorem RepVs.two {x y : PV} {vs : List V} (h : RepVs K H [x, y] vs) : ∃ v w, vs = [v, w] ∧ RepV K H x v ∧ RepV K H y w := by
  obtain ⟨v, r, h1, h2, h3⟩ := h
  obtain ⟨w, h4, h5⟩ := h3.one
  subst h4
  exact ⟨v, w, h1, h2, h5⟩
theorem RepVs.three {x y z : PV} {vs : List V} (h : RepVs K H [x, y, z] vs) : ∃ v w u, vs = [v, w, u] ∧ RepV K H x v ∧ RepV K H y w ∧ RepV K H z u := by
  obtain ⟨v, r, h1, h2, h3⟩ := h
  obtain ⟨w, u, h4, h5, h6⟩ := h3.two
  subst h4
  exact ⟨v, w, u, h1, h2, h5, h6⟩
theorem RepO.ex (e : Ex H H') {a : Addr} {o : SO} (h : RepO K H a o) (k : ∀ u, H a = some u → H' a = some u) : RepO K H' a o := by
  cases o with
  | l xs => obtain ⟨vs, h1, h2⟩ := h; exact ⟨vs, k _ h1, h2.ex e⟩
  | d xs => obtain ⟨vs, h1, h2⟩ := h; exact ⟨vs, k _ h1, h2.ex e⟩
theorem RepS.ex {σ : L2.St} {env : Env} (e : Ex H H') (h : RepS K H σ env) : RepS K H' σ env := ⟨h.1, fun i x q => let ⟨v, a, b⟩ := h.2 i x q; ⟨v, a, b.ex e⟩⟩
/-- the store's entry, in the heap -/
theorem RepH.lst (r : RepH K H L) {a : Addr} {xs : List PV} (h : L a = some (.l xs)) : ∃ vs, H a = some (.lst vs) ∧ RepVs K H xs vs := r a _ h
theorem RepH.dct (r : RepH K H L) {a : Addr} {xs : List (Key × PV)} (h : L a = some (.d xs)) : ∃ vs, H a = some (.dK vs) ∧ RepKs K H xs vs := r a _ h

/-! ### a new object, an object written -/
theorem ex_new {p : Addr} {o : HO} (hp : H p = none) : Ex H (upd H p o) := ⟨fun a xs h => by rw [upd_ne (ne_of_none h hp)]; exact h, fun a o' xs h => by rw [upd_ne (ne_of_none h hp)]; exact h⟩
theorem fm_tup {p : Addr} {vs : List V} (r : RepH K H L) (hp : H p = none) : Fm H L (upd H p (.tup vs)) L := fun a o h n => ⟨by rw [upd_ne (ne_of_none h hp)]; exact h, n⟩
theorem reph_tup {p : Addr} {vs : List V} (r : RepH K H L) (hp : H p = none) : RepH K (upd H p (.tup vs)) L := fun a o h => (r a o h).ex (ex_new hp) fun u q => by rw [upd_ne (ne_of_none q hp)]; exact q
theorem repv_tup {p : Addr} {xs : List PV} {vs : List V} (h : RepVs K H xs vs) (hp : H p = none) : RepV K (upd H p (.tup vs)) (.tup xs) (.ref p) :=
  ⟨p, vs, rfl, .inl upd_same, h.ex (ex_new hp)⟩
theorem fm_new {p : Addr} {o : HO} {u : SO} (hp : H p = none) : Fm H L (upd H p o) (put L p u) := fun a o' h n => ⟨by rw [upd_ne (ne_of_none h hp)]; exact h, by rw [put_ne (ne_of_none h hp)]; exact n⟩
theorem reph_new {p : Addr} {xs : List PV} {vs : List V} (r : RepH K H L) (hp : H p = none) (h : RepVs K H xs vs) : RepH K (upd H p (.lst vs)) (put L p (.l xs)) := fun a o e => by
  by_cases q : a = p
  · subst q
    rw [put_same] at e
    cases e
    exact ⟨vs, upd_same, h.ex (ex_new hp)⟩
  · rw [put_ne q] at e
    exact (r a o e).ex (ex_new hp) fun u q' => by rw [upd_ne q]; exact q'
theorem reph_newD {p : Addr} {xs : List (Key × PV)} {vs : List (Key × V)} (r : RepH K H L) (hp : H p = none) (h : RepKs K H xs vs) : RepH K (upd H p (.dK vs)) (put L p (.d xs)) := fun a o e => by
  by_cases q : a = p
  · subst q
    rw [put_same] at e
    cases e
    exact ⟨vs, upd_same, h.ex (ex_new hp)⟩
  · rw [put_ne q] at e
    exact (r a o e).ex (ex_new hp) fun u q' => by rw [upd_ne q]; exact q'
theorem ex_put {p : Addr} {o : HO} {u : SO} (r : RepH K H L) (hp : L p = some u) : Ex H (upd H p o) :=
  ⟨fun a xs h => by
    have n := r.notTup h
    rw [upd_ne (fun z => by rw [z, hp] at n; cases n)]; exact h,
   fun a o' xs h => by
    have n := r.notFrz h
    rw [upd_ne (fun z => by rw [z, hp] at n; cases n)]; exact h⟩
theorem fm_put {p : Addr} {o : HO} {u u' : SO} (hp : L p = some u) : Fm H L (upd H p o) (put L p u') := fun a o' h n => by
  have ne : a ≠ p := fun z => by rw [z, hp] at n; cases n
  exact ⟨by rw [upd_ne ne]; exact h, by rw [put_ne ne]; exact n⟩
theorem reph_put {p : Addr} {u : SO} {xs : List PV} {vs : List V} (r : RepH K H L) (hp : L p = some u) (h : RepVs K H xs vs) : RepH K (upd H p (.lst vs)) (put L p (.l xs)) := fun a o e => by
  by_cases q : a = p
  · subst q
    rw [put_same] at e
    cases e
    exact ⟨vs, upd_same, h.ex (ex_put r hp)⟩
  · rw [put_ne q] at e
    exact (r a o e).ex (ex_put r hp) fun u q' => by rw [upd_ne q]; exact q'
theorem reph_putD {p : Addr} {u : SO} {xs : List (Key × PV)} {vs : List (Key × V)} (r : RepH K H L) (hp : L p = some u) (h : RepKs K H xs vs) : RepH K (upd H p (.dK vs)) (put L p (.d xs)) := fun a o e => by
  by_cases q : a = p
  · subst q
    rw [put_same] at e
    cases e
    exact ⟨vs, upd_same, h.ex (ex_put r hp)⟩
  · rw [put_ne q] at e
    exact (r a o e).ex (ex_put r hp) fun u q' => by rw [upd_ne q]; exact q'

/-! ### readings over pure data -/
abbrev PK := PV → Sto → Prop
abbrev WE := Env → Sto → PK → Prop
abbrev WA := Env → Sto → (List PV → Sto → Prop) → Prop
/-- what R promises reaches Q, from H, L on -/
def Kt (K : PySem.W.Frag) (H : Hp) (L : Sto) (R : PK) (Q : VK) : Prop := ∀ x L' v H', R x L' → Fm H L H' L' → RepV K H' x v → RepH K H' L' → Q v H'
def KtA (K : PySem.W.Frag) (n : Nat) (H : Hp) (L : Sto) (R : List PV → Sto → Prop) (Q : List V → Hp → Prop) : Prop := ∀ x L' v H', R x L' → x.length = n → Fm H L H' L' → RepVs K H' x v → RepH K H' L' → Q v H'
def liftE (K : PySem.W.Frag) (w : WE) : TE := fun σ H Q => ∃ env L R, RepS K H σ env ∧ RepH K H L ∧ w env L R ∧ Kt K H L R Q
def wAr : List WE → WA
  | [], _, L, R => R [] L
  | w :: ws, env, L, R => w env L fun x La => wAr ws env La fun xs Lb => R (x :: xs) Lb
def liftA (K : PySem.W.Frag) (ws : List WE) : TA := fun σ H Q => ∃ env L R, RepS K H σ env ∧ RepH K H L ∧ wAr ws env L R ∧ KtA K ws.length H L R Q
/-- a test: the value is a bool -/
def liftT (K : PySem.W.Frag) (w : WE) : TT := fun σ H Q => ∃ env L R, RepS K H σ env ∧ RepH K H L ∧ w env L R ∧ ∀ x L' H', R x L' → Fm H L H' L' → RepH K H' L' → ∃ b, x = .bl b ∧ Q b H'
theorem Kt.fm {R : PK} {Q : VK} (k : Kt K H L R Q) (f : Fm H L H1 La) : Kt K H1 La R Q := fun x L' v H' r f' => k x L' v H' r (f.trans f')
theorem _root_.L2.PE.weak {X : Cx} {e : Expr} {t t' : TE} (h : PE X e t) (w : ∀ σ H Q, t' σ H Q → t σ H Q) : PE X e t' := ⟨fun pins s σ H Q I q => h.run pins s σ H Q I (w σ H Q q)⟩
theorem _root_.L2.PT.weak {X : Cx} {e : Expr} {t t' : TT} (h : PT X e t) (w : ∀ σ H Q, t' σ H Q → t σ H Q) : PT X e t' := ⟨fun pins s σ H Q I q => h.run pins s σ H Q I (w σ H Q q)⟩
theorem _root_.L2.PA.weak {X : Cx} {e : List Expr} {t t' : TA} (h : PA X e t) (w : ∀ σ H Q, t' σ H Q → t σ H Q) : PA X e t' := ⟨fun pos pins s σ H Q I q => h.run pos pins s σ H Q I (w σ H Q q)⟩
theorem _root_.L2.PS.weak {X : Cx} {e : Stmt} {t t' : TS} (h : PS X e t) (w : ∀ D σ H, t' D σ H → t D σ H) : PS X e t' := ⟨fun pins s σ H D I q => h.run pins s σ H D I (w D σ H q)⟩
theorem _root_.L2.PSs.weak {X : Cx} {e : List Stmt} {t t' : TS} (h : PSs X e t) (w : ∀ D σ H, t' D σ H → t D σ H) : PSs X e t' := ⟨fun pins s σ H D I q => h.run pins s σ H D I (w D σ H q)⟩
end
end Mp
namespace Mp
open PySem PySem.Spec PyProof.Rows L2

/-! ### operations on data -/
abbrev Op2 := PV → PV → Sto → PK → Prop
abbrev BiF := List PV → Sto → PK → Prop
def newL (L : Sto) (xs : List PV) (R : PK) : Prop := ∀ p, L p = none → R (.ref p) (put L p (.l xs))
def oAdd : Op2 := fun x y L R => match x, y with
  | .bl k, .int j => R (.int (b2i k + j)) L
  | .int i, .int j => R (.int (i + j)) L
  | .str a, .str b => a.length + b.length ≤ sizeLine ∧ R (.str (a ++ b)) L
  | .tup xs, .tup ys => xs.length + ys.length ≤ sizeLine ∧ R (.tup (xs ++ ys)) L
  | .ref a, .ref b => ∃ xs ys, L a = some (.l xs) ∧ L b = some (.l ys) ∧ xs.length + ys.length ≤ sizeLine ∧ newL L (xs ++ ys) R
  | _, _ => False
def oSub : Op2 := fun x y L R => match x, y with
  | .bl k, .int j => R (.int (b2i k - j)) L
  | .int i, .int j => R (.int (i - j)) L
  | _, _ => False
structure MulOk (i j : Int) : Prop where
  ok : IntMulOk i j
structure PowOk (i j : Int) : Prop where
  nn : 0 ≤ j
  sz : (Builtin.Int.intBits i : Int) * j ≤ 2 ^ 27
def oMul : Op2 := fun x y L R => match x, y with
  | .int i, .bl k => R (.int (i * b2i k)) L
  | .str z, .int n => PySem.MulOk z n ∧ R (.str (Txt.mul z n)) L
  | .int i, .int j => MulOk i j ∧ R (.int (i * j)) L
  | .ref a, .int k => ∃ xs, L a = some (.l xs) ∧ -(2 ^ 63) ≤ k ∧ k < 2 ^ 63 ∧ xs.length * k.toNat ≤ sizeLine ∧ newL L (List.replicate k.toNat xs).flatten R
  | _, _ => False
structure NoPl (i j : Int) : Prop where
  ok : Builtin.divisionGoesByPylong i j = false
def oDiv : Op2 := fun x y L R => match x, y with
  | .int i, .int j => j ≠ 0 ∧ NoPl i j ∧ R (.int (i.fdiv j)) L
  | _, _ => False
def oMod : Op2 := fun x y L R => match x, y with
  | .int i, .int j => j ≠ 0 ∧ R (.int (i.fmod j)) L
  | _, _ => False
def oPow : Op2 := fun x y L R => match x, y with
  | .int i, .int j => PowOk i j ∧ R (.int (i ^ j.toNat)) L
  | _, _ => False
def oI (g : Int → Int → Bool) : Op2 := fun x y L R => match x, y with
  | .int i, .int j => R (.bl (g i j)) L
  | _, _ => False
abbrev oLt : Op2 := oI fun i j => decide (i < j)
abbrev oLe : Op2 := oI fun i j => decide (i ≤ j)
abbrev oGt : Op2 := oI fun i j => decide (j < i)
abbrev oGe : Op2 := oI fun i j => decide (j ≤ i)
def isN : PV → Bool
  | .non => true
  | _ => false
def oIs : Op2 := fun x y L R => match y with
  | .non => R (.bl (isN x)) L
  | .bl b => (match x with
    | .bl a => R (.bl (decide (a = b))) L
    | _ => False)
  | _ => False
def oIsNot : Op2 := fun x y L R => match y with
  | .non => R (.bl (!isN x)) L
  | .bl b => (match x with
    | .bl a => R (.bl (!decide (a = b))) L
    | _ => False)
  | _ => False

mutual
inductive PD (L : Sto) : PV → PyData → Prop
  | non : PD L .non .none
  | bl (b : Bool) : PD L (.bl b) (.bool b)
  | int (i : Int) : PD L (.int i) (.int i)
  | str (x : Str) : PD L (.str x) (.str x)
  | lst {a : Addr} {xs : List PV} {ds : List PyData} : L a = some (.l xs) → PDs L xs ds → PD L (.ref a) (.list ds)
  | tup {xs : List PV} {ds : List PyData} : PDs L xs ds → PD L (.tup xs) (.tuple ds)
inductive PDs (L : Sto) : List PV → List PyData → Prop
  | nil : PDs L [] []
  | cons {x : PV} {xs : List PV} {d : PyData} {ds : List PyData} : PD L x d → PDs L xs ds → PDs L (x :: xs) (d :: ds)
end
def oEq : Op2 := fun x y L R => ∃ d e, PD L x d ∧ PD L y e ∧ SeqAt.shaped d = true ∧ SeqAt.shaped e = true ∧ R (.bl (PyData.eqv d e)) L
def oNe : Op2 := fun x y L R => ∃ d e, PD L x d ∧ PD L y e ∧ SeqAt.shaped d = true ∧ SeqAt.shaped e = true ∧ R (.bl (!PyData.eqv d e)) L

section
variable {K : PySem.W.Frag} {H H' : Hp} {L : Sto}
mutual
theorem PD.dp (r : RepH K H L) : ∀ {x : PV} {d : PyData} {v : V}, PD L x d → RepV K H x v → Dp K H v d
  | _, _, _, .non, h => by cases (show _ = _ from h); exact .non
  | _, _, _, .bl b, h => by cases (show _ = _ from h); exact .bl b
  | _, _, _, .int b, h => by cases (show _ = _ from h); exact .int b
  | _, _, _, .str b, h => by cases (show _ = _ from h); exact .str b
  | _, _, _, .lst ha hs, h => by
    cases (show _ = _ from h)
    obtain ⟨vs, h1, h2⟩ := r.lst ha
    exact .lst (.inl (.inl h1)) (PDs.dp r hs h2)
  | _, _, _, .tup hs, h => by
    obtain ⟨a, vs, rfl, h1, h2⟩ := h
    exact .tup h1.sq (PDs.dp r hs h2)
theorem PDs.dp (r : RepH K H L) : ∀ {x : List PV} {d : List PyData} {v : List V}, PDs L x d → RepVs K H x v → DpAll K H v d
  | _, _, _, .nil, h => by cases (show _ = _ from h); exact .nil
  | _, _, _, .cons h1 h2, h => by
    obtain ⟨v, r', rfl, q1, q2⟩ := h
    exact .cons (PD.dp r h1 q1) (PDs.dp r h2 q2)
end
end

/-! ### soundness of the two-place operations -/
def OpS (K : PySem.W.Frag) (f : Op2) (r : R2) : Prop := ∀ (x y : PV) (v u : V) (H : Hp) (L : Sto) (R : PK) (Q : VK), RepV K H x v → RepV K H y u → RepH K H L → f x y L R → Kt K H L R Q → r v u H Q
/-- the machine's operation fn keeps to f -/
def OpOk (X : Cx) (fn : Value → Value → Sem Value) (f : Op2) : Prop := ∃ r, OpR X fn r ∧ OpS X.K f r
section
variable {X : Cx} {K : PySem.W.Frag} {H H' : Hp} {L : Sto} {R : PK} {Q : VK}
theorem Kt.here (k : Kt K H L R Q) (rh : RepH K H L) {x : PV} {v : V} (h : R x L) (rv : RepV K H x v) : Q v H := k x L v H h .refl rv rh
theorem Kt.newl (k : Kt K H L R Q) (rh : RepH K H L) {xs : List PV} {vs : List V} (h : newL L xs R) (rv : RepVs K H xs vs) : ∀ p, H p = none → Q (.ref p) (upd H p (.lst vs)) := fun p hp =>
  k _ _ _ _ (h p (rh.fresh hp)) (fm_new hp) rfl (reph_new rh hp rv)
theorem Kt.newt (k : Kt K H L R Q) (rh : RepH K H L) {xs : List PV} {vs : List V} (h : R (.tup xs) L) (rv : RepVs K H xs vs) : ∀ p, H p = none → Q (.ref p) (upd H p (.tup vs)) := fun p hp =>
  k _ _ _ _ h (fm_tup rh hp) (repv_tup rv hp) (reph_tup rh hp)
theorem op_add_bi : OpR X (binaryOp .Add) (fun x y H Q => ∃ k i, x = .bl k ∧ y = .int i ∧ Q (.int (b2i k + i)) H) := by
  intro pins s σ H x y v u Q I rx ry h
  obtain ⟨k, i, rfl, rfl, q⟩ := h
  obtain ⟨t, rfl⟩ := ry
  cases rx
  exact PySem.IntBool.add_bool_int ⟨.int (b2i k + i), H, I.tok _, ⟨_, rfl⟩, q⟩
theorem op_sub_bi : OpR X (binaryOp .Sub) (fun x y H Q => ∃ k i, x = .bl k ∧ y = .int i ∧ Q (.int (b2i k - i)) H) := by
  intro pins s σ H x y v u Q I rx ry h
  obtain ⟨k, i, rfl, rfl, q⟩ := h
  obtain ⟨t, rfl⟩ := ry
  cases rx
  exact PySem.IntBool.sub_bool_int ⟨.int (b2i k - i), H, I.tok _, ⟨_, rfl⟩, q⟩
theorem op_mul_ib : OpR X (binaryOp .Mult) (fun x y H Q => ∃ i k, x = .int i ∧ y = .bl k ∧ Q (.int (i * b2i k)) H) := by
  intro pins s σ H x y v u Q I rx ry h
  obtain ⟨i, k, rfl, rfl, q⟩ := h
  obtain ⟨t, rfl⟩ := rx
  cases ry
  exact PySem.IntBool.mul_int_bool ⟨.int (i * b2i k), H, I.tok _, ⟨_, rfl⟩, q⟩
theorem op_mul_si : OpR X (binaryOp .Mult) (fun x y H Q => ∃ z i, x = .str z ∧ y = .int i ∧ PySem.MulOk z i ∧ Q (.str (Txt.mul z i)) H) := by
  intro pins s σ H x y v u Q I rx ry h
  obtain ⟨z, i, rfl, rfl, ok, q⟩ := h
  obtain ⟨t, rfl⟩ := rx
  obtain ⟨t', rfl⟩ := ry
  exact PySem.SB.mul ok fun t' k => ⟨.str _, H, I.tok _, ⟨_, rfl⟩, q⟩
theorem un_neg_b : UnR X (unaryOp .USub) (fun x H Q => ∃ k, x = .bl k ∧ Q (.int (-b2i k)) H) := by
  intro pins s σ H x v Q I rx h
  obtain ⟨k, rfl, q⟩ := h
  cases rx
  refine unaryOp_gives (op := .USub) (T := "bool") rfl rfl PySem.F.slot_bool_neg PySem.F.entry_int_neg (PySem.F.args_int_neg_1 _) (m := .int (-b2i k)) ?_ ?_
  · cases k <;> exact .of_eq rfl
  · exact ⟨.int (-b2i k), H, I.tok _, ⟨_, rfl⟩, q⟩
theorem UnR.or {f} {r r'} (h : UnR X f r) (h' : UnR X f r') : UnR X f (fun x H Q => r x H Q ∨ r' x H Q) := by
  intro pins s σ H x v Q I rx z
  rcases z with z | z
  · exact h _ _ _ _ _ _ _ I rx z
  · exact h' _ _ _ _ _ _ _ I rx z
theorem ok_add : OpOk X (binaryOp .Add) oAdd := by
  refine ⟨_, op_add_bi.or (op_add.or (op_add_str.or (op_catA.or op_cat))), ?_⟩
  intro x y v u H L R Q rx ry rh h k
  cases x <;> cases y <;> first | exact absurd h (fun z => z) | skip
  · cases (show _ = _ from rx); cases (show _ = _ from ry)
    exact .inl ⟨_, _, rfl, rfl, k.here rh h rfl⟩
  · cases (show _ = _ from rx); cases (show _ = _ from ry)
    exact .inr (.inl ⟨_, _, rfl, rfl, k.here rh h rfl⟩)
  · cases (show _ = _ from rx); cases (show _ = _ from ry)
    exact .inr (.inr (.inl ⟨_, _, rfl, rfl, h.1, k.here rh h.2 rfl⟩))
  · cases (show _ = _ from rx); cases (show _ = _ from ry)
    obtain ⟨xs, ys, h1, h2, h3, h4⟩ := h
    obtain ⟨vs, e1, r1⟩ := rh.lst h1
    obtain ⟨ws, e2, r2⟩ := rh.lst h2
    exact .inr (.inr (.inr (.inr ⟨_, _, vs, ws, rfl, rfl, e1, e2, by rw [← r1.length, ← r2.length]; exact h3, k.newl rh h4 (r1.append r2)⟩)))
  · obtain ⟨a, vs, rfl, t1, r1⟩ := rx
    obtain ⟨b, ws, rfl, t2, r2⟩ := ry
    refine .inr (.inr (.inr (.inl ⟨a, b, vs, ws, rfl, rfl, t1.sq, t2.sq, by rw [← r1.length, ← r2.length]; exact h.1, fun z => ?_, fun z1 z2 => ?_, fun _ _ => k.newt rh h.2 (r1.append r2)⟩)))
    · subst z
      rename_i xs ys
      have e : xs = [] := List.eq_nil_of_length_eq_zero (by rw [r1.length]; rfl)
      subst e
      exact k.here rh h.2 ⟨b, ws, rfl, t2, r2⟩
    · subst z2
      rename_i xs ys
      have e : ys = [] := List.eq_nil_of_length_eq_zero (by rw [r2.length]; rfl)
      subst e
      refine k.here rh (x := .tup (xs ++ [])) h.2 ⟨a, vs, rfl, t1, ?_⟩
      rw [List.append_nil]
      exact r1
theorem ok_sub : OpOk X (binaryOp .Sub) oSub := by
  refine ⟨_, op_sub_bi.or op_sub, ?_⟩
  intro x y v u H L R Q rx ry rh h k
  cases x <;> cases y <;> first | exact absurd h (fun z => z) | skip
  · cases (show _ = _ from rx); cases (show _ = _ from ry)
    exact .inl ⟨_, _, rfl, rfl, k.here rh h rfl⟩
  · cases (show _ = _ from rx); cases (show _ = _ from ry)
    exact .inr ⟨_, _, rfl, rfl, k.here rh h rfl⟩
theorem op_mulA : OpR X (binaryOp .Mult) (rI MulOk fun i j => .int (i * j)) := opI fun _ _ _ _ _ _ _ hc q => mul_int q hc.ok
theorem op_powA : OpR X (binaryOp .Pow) (rI PowOk fun i j => .int (i ^ j.toNat)) := opI fun _ _ _ _ _ _ _ hc q => pow_int hc.nn hc.sz q
theorem op_fdivA : OpR X (binaryOp .FloorDiv) (rI (fun i j => j ≠ 0 ∧ NoPl i j) fun i j => .int (i.fdiv j)) := opI fun _ _ _ _ _ _ _ hc q => floordiv_int hc.1 q (.inl hc.2.ok)
theorem ok_mul : OpOk X (binaryOp .Mult) oMul := by
  refine ⟨_, op_mul_ib.or (op_mulA.or (op_rep.or op_mul_si)), ?_⟩
  intro x y v u H L R Q rx ry rh h k
  cases x <;> cases y <;> first | exact absurd h (fun z => z) | skip
  · cases (show _ = _ from rx); cases (show _ = _ from ry)
    exact .inl ⟨_, _, rfl, rfl, k.here rh h rfl⟩
  · cases (show _ = _ from rx); cases (show _ = _ from ry)
    exact .inr (.inl ⟨_, _, rfl, rfl, h.1, k.here rh h.2 rfl⟩)
  · cases (show _ = _ from rx); cases (show _ = _ from ry)
    exact .inr (.inr (.inr ⟨_, _, rfl, rfl, h.1, k.here rh h.2 rfl⟩))
  · cases (show _ = _ from rx); cases (show _ = _ from ry)
    obtain ⟨xs, h1, h2, h3, h4, h5⟩ := h
    obtain ⟨vs, e1, r1⟩ := rh.lst h1
    exact .inr (.inr (.inl ⟨_, _, vs, rfl, rfl, e1, h2, h3, by rw [← r1.length]; exact h4, k.newl rh h5 (r1.rep _)⟩))
theorem ok_div : OpOk X (binaryOp .FloorDiv) oDiv := by
  refine ⟨_, op_fdivA, ?_⟩
  intro x y v u H L R Q rx ry rh h k
  cases x <;> cases y <;> first | exact absurd h (fun z => z) | skip
  cases (show _ = _ from rx); cases (show _ = _ from ry)
  exact ⟨_, _, rfl, rfl, ⟨h.1, h.2.1⟩, k.here rh h.2.2 rfl⟩
theorem ok_mod : OpOk X (binaryOp .Mod) oMod := by
  refine ⟨_, op_modN, ?_⟩
  intro x y v u H L R Q rx ry rh h k
  cases x <;> cases y <;> first | exact absurd h (fun z => z) | skip
  cases (show _ = _ from rx); cases (show _ = _ from ry)
  exact ⟨_, _, rfl, rfl, h.1, k.here rh h.2 rfl⟩
theorem ok_pow : OpOk X (binaryOp .Pow) oPow := by
  refine ⟨_, op_powA, ?_⟩
  intro x y v u H L R Q rx ry rh h k
  cases x <;> cases y <;> first | exact absurd h (fun z => z) | skip
  cases (show _ = _ from rx); cases (show _ = _ from ry)
  exact ⟨_, _, rfl, rfl, h.1, k.here rh h.2 rfl⟩
theorem okI {op : CmpOp} {g : Int → Int → Bool} (ho : OpR X (compareOp op) (rI0 fun i j => .bl (g i j))) : OpOk X (compareOp op) (oI g) := by
  refine ⟨_, ho, ?_⟩
  intro x y v u H L R Q rx ry rh h k
  cases x <;> cases y <;> first | exact absurd h (fun z => z) | skip
  cases (show _ = _ from rx); cases (show _ = _ from ry)
  exact ⟨_, _, rfl, rfl, k.here rh h rfl⟩
theorem ok_lt : OpOk X (compareOp .Lt) oLt := okI op_lt
theorem ok_le : OpOk X (compareOp .LtE) oLe := okI op_le
theorem ok_gt : OpOk X (compareOp .Gt) oGt := okI op_gt
theorem ok_ge : OpOk X (compareOp .GtE) oGe := okI op_ge
theorem repv_non {x : PV} {v : V} (r : RepV K H x v) : decide (v = .non) = isN x := by
  cases x with
  | non => cases (show _ = _ from r); rfl
  | fz ns => obtain ⟨a, rfl, _⟩ := r; rfl
  | tup ns => obtain ⟨a, vs, rfl, _⟩ := r; rfl
  | _ => cases (show _ = _ from r); rfl
theorem ok_is : OpOk X (compareOp .Is) oIs := by
  refine ⟨_, op_isN.or op_isBl, ?_⟩
  intro x y v u H L R Q rx ry rh h k
  have e := repv_non rx
  unfold oIs at h
  split at h
  · cases (show _ = _ from ry)
    exact .inl ⟨rfl, by rw [e]; exact k.here rh h rfl⟩
  · cases (show _ = _ from ry)
    split at h
    · cases (show _ = _ from rx)
      exact .inr ⟨_, _, rfl, rfl, k.here rh h rfl⟩
    · exact h.elim
  · exact h.elim
theorem ok_isnot : OpOk X (compareOp .IsNot) oIsNot := by
  refine ⟨_, op_notN.or op_notBl, ?_⟩
  intro x y v u H L R Q rx ry rh h k
  have e := repv_non rx
  unfold oIsNot at h
  split at h
  · cases (show _ = _ from ry)
    exact .inl ⟨rfl, by rw [e]; exact k.here rh h rfl⟩
  · cases (show _ = _ from ry)
    split at h
    · cases (show _ = _ from rx)
      exact .inr ⟨_, _, rfl, rfl, k.here rh h rfl⟩
    · exact h.elim
  · exact h.elim
theorem ok_eq (hu : X.A.units + 64 < cLine) : OpOk X (compareOp .Eq) oEq := by
  refine ⟨_, op_eqD hu, ?_⟩
  rintro x y v u H L R Q rx ry rh ⟨d, e, h1, h2, h3, h4, h5⟩ k
  exact ⟨d, e, h1.dp rh rx, h2.dp rh ry, h3, h4, k.here rh h5 rfl⟩
theorem ok_ne (hu : X.A.units + 64 < cLine) : OpOk X (compareOp .NotEq) oNe := by
  refine ⟨_, op_neD hu, ?_⟩
  rintro x y v u H L R Q rx ry rh ⟨d, e, h1, h2, h3, h4, h5⟩ k
  exact ⟨d, e, h1.dp rh rx, h2.dp rh ry, h3, h4, k.here rh h5 rfl⟩
end

/-! ### expressions -/
def gv : Env → Nat → Option PV
  | [], _ => none
  | x :: _, 0 => x
  | _ :: r, i + 1 => gv r i
theorem gv_some : ∀ {env : Env} {i : Nat} {x : PV}, gv env i = some x → env[i]? = some (some x)
  | [], _, _, h => by cases h
  | _ :: _, 0, _, h => by
    have h : _ = _ := h
    simp only [gv] at h
    rw [h]
    rfl
  | _ :: r, i + 1, x, h => by
    have := gv_some (env := r) (i := i) h
    simpa using this
def wVar (i : Nat) : WE := fun env L R => match gv env i with
  | some x => R x L
  | none => False
def wC (x : PV) : WE := fun _ L R => R x L
def wBin (f : Op2) (a b : WE) : WE := fun env L R => a env L fun x La => b env La fun y Lb => f x y Lb R
def wUn (f : PV → Sto → PK → Prop) (a : WE) : WE := fun env L R => a env L fun x La => f x La R
def oNeg : PV → Sto → PK → Prop := fun x L R => match x with
  | .bl k => R (.int (-b2i k)) L
  | .int i => R (.int (-i)) L
  | _ => False
def bIf (x : PV) (A B : Prop) : Prop := match x with
  | .bl c => if c = true then A else B
  | _ => False
def wAnd (a b : WE) : WE := fun env L R => a env L fun x La => bIf x (b env La R) (R (.bl false) La)
def wOr (a b : WE) : WE := fun env L R => a env L fun x La => bIf x (R (.bl true) La) (b env La R)
def oNot : PV → Sto → PK → Prop := fun x L R => match x with
  | .bl c => R (.bl (!c)) L
  | _ => False
def wIfE (t a b : WE) : WE := fun env L R => t env L fun x La => bIf x (a env La R) (b env La R)
def wChain (f g : Op2) (a b c : WE) : WE := fun env L R => a env L fun x La => b env La fun y Lb => f x y Lb fun z Lc => bIf z (c env Lc fun w Ld => g y w Ld R) (R (.bl false) Lc)
def wTup (ws : List WE) : WE := fun env L R => wAr ws env L fun xs La => xs.length ≤ sizeLine ∧ R (.tup xs) La
def wLst (ws : List WE) : WE := fun env L R => wAr ws env L fun xs La => xs.length ≤ sizeLine ∧ newL La xs R
def wBi (g : BiF) (ws : List WE) : WE := fun env L R => wAr ws env L fun xs La => g xs La R

section
variable {X : Cx} {pos : Pos} {a b c : Expr} {wa wb wc : WE}
theorem lift_bin {f : Op2} {r : R2} {σ : L2.St} {H : Hp} {Q : VK} (hf : OpS X.K f r) (h : liftE X.K (wBin f wa wb) σ H Q) : tOp r (liftE X.K wa) (liftE X.K wb) σ H Q := by
  obtain ⟨env, L, R, hs, hL, hw, k⟩ := h
  refine ⟨env, L, _, hs, hL, hw, fun x La v H1 hb f1 rx r1 => ?_⟩
  refine ⟨env, La, _, hs.ex (f1.ex hL), r1, hb, fun y Lb u H2 hc f2 ry r2 => ?_⟩
  exact hf x y v u H2 Lb R Q (rx.ex (f2.ex r1)) ry r2 hc (k.fm (f1.trans f2))
theorem q_var {i : Nat} {x : Str} (hN : X.N[i]? = some x) (hv : Vis X.env.scope x) (hd : (x == ("__debug__" : Str)) = false) (hcd : (x == ("__classdict__" : Str)) = false) : PE X (.Name x pos) (liftE X.K (wVar i)) :=
  (pe_var hN hv hd hcd).weak fun σ H Q h => by
    obtain ⟨env, L, R, hs, hL, hw, k⟩ := h
    unfold wVar at hw
    cases e : gv env i with
    | none => rw [e] at hw; exact hw.elim
    | some x =>
      rw [e] at hw
      obtain ⟨v, e1, r1⟩ := hs.2 i x (gv_some e)
      exact ⟨v, e1, k.here hL hw r1⟩
theorem q_const {e : Expr} {v : V} {x : PV} (h : PE X e (tC v)) (r : ∀ H, RepV X.K H x v) : PE X e (liftE X.K (wC x)) := h.weak fun σ H Q h => by
  obtain ⟨env, L, R, hs, hL, hw, k⟩ := h
  exact k.here hL hw (r H)
theorem q_bin {op : Operator} {f : Op2} (ho : OpOk X (binaryOp op) f) (ha : PE X a (liftE X.K wa)) (hb : PE X b (liftE X.K wb)) : PE X (.BinOp a op b pos) (liftE X.K (wBin f wa wb)) := by
  obtain ⟨r, h1, h2⟩ := ho
  exact (pe_op h1 ha hb).weak fun σ H Q h => lift_bin h2 h
theorem q_cmp {op : CmpOp} {f : Op2} (ho : OpOk X (compareOp op) f) (ha : PE X a (liftE X.K wa)) (hb : PE X b (liftE X.K wb)) (hm : behindInMarks op b = false) : PE X (.Compare a [op] [b] pos) (liftE X.K (wBin f wa wb)) := by
  obtain ⟨r, h1, h2⟩ := ho
  exact (pe_cmpR h1 ha hb hm).weak fun σ H Q h => lift_bin h2 h
theorem lift_test {w : WE} {te : TE} (hw : ∀ σ H Q, liftE X.K w σ H Q → te σ H Q) {σ : L2.St} {H : Hp} {Q : Bool → Hp → Prop} (h : liftT X.K w σ H Q) : te σ H fun x H' => ∃ k, x = .bl k ∧ Q k H' := by
  obtain ⟨env, L, R, hs, hL, hw', k⟩ := h
  refine hw σ H _ ⟨env, L, R, hs, hL, hw', fun x L' v H' r f rv rh => ?_⟩
  obtain ⟨b, rfl, q⟩ := k x L' H' r f rh
  exact ⟨b, rv, q⟩
theorem t_cmp {op : CmpOp} {f : Op2} (ho : OpOk X (compareOp op) f) (ha : PE X a (liftE X.K wa)) (hb : PE X b (liftE X.K wb)) (hm : behindInMarks op b = false) : PT X (.Compare a [op] [b] pos) (liftT X.K (wBin f wa wb)) := by
  obtain ⟨r, h1, h2⟩ := ho
  exact (pt_cmpR h1 ha hb hm).weak fun σ H Q h => lift_test (fun σ H Q h => lift_bin h2 h) h
theorem t_val {e : Expr} {w : WE} (h : PE X e (liftE X.K w)) (he : ∀ whole, isTrue e X.env whole = (do let v ← whole; standAt e.pos; holding [v] (truthy v))) : PT X e (liftT X.K w) :=
  (pt_val h he).weak fun σ H Q h => lift_test (fun σ H Q h => h) h
theorem lift_chain {f g : Op2} {r r' : R2} {σ : L2.St} {H : Hp} {Q : VK} (hf : OpS X.K f r) (hg : OpS X.K g r') (h : liftE X.K (wChain f g wa wb wc) σ H Q) : tChain r r' (liftE X.K wa) (liftE X.K wb) (liftE X.K wc) σ H Q := by
  obtain ⟨env, L, R, hs, hL, hw, k⟩ := h
  refine ⟨env, L, _, hs, hL, hw, fun x La v H1 hb f1 rx r1 => ?_⟩
  refine ⟨env, La, _, hs.ex (f1.ex hL), r1, hb, fun y Lb u H2 hc f2 ry r2 => ?_⟩
  refine hf x y v u H2 Lb _ _ (rx.ex (f2.ex r1)) ry r2 hc fun z Lc zv H3 hz f3 rz r3 => ?_
  cases z <;> first | exact absurd hz (fun z => z) | skip
  rename_i k'
  cases (show _ = _ from rz)
  refine ⟨k', rfl, ?_⟩
  have hz : if k' = true then _ else _ := hz
  cases k' with
  | false =>
    rw [if_neg Bool.false_ne_true] at hz ⊢
    exact (k.fm ((f1.trans f2).trans f3)).here r3 hz rfl
  | true =>
    rw [if_pos rfl] at hz ⊢
    refine ⟨env, Lc, _, ((hs.ex (f1.ex hL)).ex (f2.ex r1)).ex (f3.ex r2), r3, hz, fun w Ld wv H4 hw4 f4 rw r4 => ?_⟩
    exact hg y w u wv H4 Ld R Q ((ry.ex (f3.ex r2)).ex (f4.ex r3)) rw r4 hw4 (k.fm (((f1.trans f2).trans f3).trans f4))
theorem q_chain {op op' : CmpOp} {f g : Op2} (ho : OpOk X (compareOp op) f) (ho' : OpOk X (compareOp op') g) (ha : PE X a (liftE X.K wa)) (hb : PE X b (liftE X.K wb)) (hc : PE X c (liftE X.K wc)) (hm : lastMarks [op, op'] [b, c] = false) :
    PE X (.Compare a [op, op'] [b, c] pos) (liftE X.K (wChain f g wa wb wc)) := by
  obtain ⟨r, h1, h2⟩ := ho
  obtain ⟨r', h1', h2'⟩ := ho'
  exact (pe_chain h1 h1' ha hb hc hm).weak fun σ H Q h => lift_chain h2 h2' h
theorem t_chain {op op' : CmpOp} {f g : Op2} (ho : OpOk X (compareOp op) f) (ho' : OpOk X (compareOp op') g) (ha : PE X a (liftE X.K wa)) (hb : PE X b (liftE X.K wb)) (hc : PE X c (liftE X.K wc)) (hm : lastMarks [op, op'] [b, c] = false) :
    PT X (.Compare a [op, op'] [b, c] pos) (liftT X.K (wChain f g wa wb wc)) := by
  obtain ⟨r, h1, h2⟩ := ho
  obtain ⟨r', h1', h2'⟩ := ho'
  exact (pt_chain h1 h1' ha hb hc hm).weak fun σ H Q h => lift_test (fun σ H Q h => lift_chain h2 h2' h) h
theorem q_neg (ha : PE X a (liftE X.K wa)) : PE X (.UnaryOp .USub a pos) (liftE X.K (wUn oNeg wa)) := (pe_un (UnR.or un_neg_b un_neg) ha).weak fun σ H Q h => by
  obtain ⟨env, L, R, hs, hL, hw, k⟩ := h
  refine ⟨env, L, _, hs, hL, hw, fun x La v H1 hb f1 rx r1 => ?_⟩
  cases x <;> first | exact absurd hb (fun z => z) | skip
  · cases (show _ = _ from rx)
    exact .inl ⟨_, rfl, (k.fm f1).here r1 hb rfl⟩
  · cases (show _ = _ from rx)
    exact .inr ⟨_, rfl, (k.fm f1).here r1 hb rfl⟩
theorem q_not (ha : PE X a (liftE X.K wa)) : PE X (.UnaryOp .Not a pos) (liftE X.K (wUn oNot wa)) := (pe_not ha).weak fun σ H Q h => by
  obtain ⟨env, L, R, hs, hL, hw, k⟩ := h
  refine ⟨env, L, _, hs, hL, hw, fun x La v H1 hb f1 rx r1 => ?_⟩
  cases x <;> first | exact absurd hb (fun z => z) | skip
  cases (show _ = _ from rx)
  exact ⟨_, rfl, (k.fm f1).here r1 hb rfl⟩
theorem t_not (ha : PT X a (liftT X.K wa)) : PT X (.UnaryOp .Not a pos) (liftT X.K (wUn oNot wa)) := (pt_not ha).weak fun σ H Q h => by
  obtain ⟨env, L, R, hs, hL, hw, k⟩ := h
  refine ⟨env, L, _, hs, hL, hw, fun x La H1 hb f1 r1 => ?_⟩
  cases x <;> first | exact absurd hb (fun z => z) | skip
  refine ⟨_, rfl, ?_⟩
  obtain ⟨b, e, q⟩ := k _ La H1 hb f1 r1
  cases e
  exact q
variable {rest : List Expr}
theorem bIf_bl {x : PV} {A B : Prop} (h : bIf x A B) : ∃ c, x = .bl c ∧ if c = true then A else B := by
  cases x <;> first | exact absurd h (fun z => z) | exact ⟨_, rfl, h⟩
theorem q_and (ha : PE X a (liftE X.K wa)) (hb : PE X (.BoolOp .And (b :: rest) pos) (liftE X.K wb)) : PE X (.BoolOp .And (a :: b :: rest) pos) (liftE X.K (wAnd wa wb)) := (pe_and ha hb).weak fun σ H Q h => by
  obtain ⟨env, L, R, hs, hL, hw, k⟩ := h
  refine ⟨env, L, _, hs, hL, hw, fun x La v H1 hb f1 rx r1 => ?_⟩
  obtain ⟨c, rfl, hc⟩ := bIf_bl hb
  cases (show _ = _ from rx)
  refine ⟨c, rfl, ?_⟩
  cases c with
  | true => exact ⟨env, La, R, hs.ex (f1.ex hL), r1, hc, k.fm f1⟩
  | false => exact (k.fm f1).here r1 hc rfl
theorem q_or (ha : PE X a (liftE X.K wa)) (hb : PE X (.BoolOp .Or (b :: rest) pos) (liftE X.K wb)) : PE X (.BoolOp .Or (a :: b :: rest) pos) (liftE X.K (wOr wa wb)) := (pe_or ha hb).weak fun σ H Q h => by
  obtain ⟨env, L, R, hs, hL, hw, k⟩ := h
  refine ⟨env, L, _, hs, hL, hw, fun x La v H1 hb f1 rx r1 => ?_⟩
  obtain ⟨c, rfl, hc⟩ := bIf_bl hb
  cases (show _ = _ from rx)
  refine ⟨c, rfl, ?_⟩
  cases c with
  | false => exact ⟨env, La, R, hs.ex (f1.ex hL), r1, hc, k.fm f1⟩
  | true => exact (k.fm f1).here r1 hc rfl
theorem q_one {op} (ha : PE X a (liftE X.K wa)) : PE X (.BoolOp op [a] pos) (liftE X.K wa) := pe_one ha
theorem w_and1 (ha : PT X a (liftT X.K wa)) : PW X (.BoolOp .And [a] pos) (liftT X.K wa) := pw_and1 ha
theorem w_or1 (ha : PT X a (liftT X.K wa)) : PW X (.BoolOp .Or [a] pos) (liftT X.K wa) := pw_or1 ha
theorem pw_weak {e : Expr} {t t' : TT} (h : PW X e t) (w : ∀ σ H Q, t' σ H Q → t σ H Q) : PW X e t' := ⟨fun wh pins s σ H Q I q => h.run wh pins s σ H Q I (w σ H Q q)⟩
theorem w_and (ha : PT X a (liftT X.K wa)) (hb : PW X (.BoolOp .And (b :: rest) pos) (liftT X.K wb)) : PW X (.BoolOp .And (a :: b :: rest) pos) (liftT X.K (wAnd wa wb)) := pw_weak (pw_and ha hb) fun σ H Q h => by
  obtain ⟨env, L, R, hs, hL, hw, k⟩ := h
  refine ⟨env, L, _, hs, hL, hw, fun x La H1 hb f1 r1 => ?_⟩
  obtain ⟨c, rfl, hc⟩ := bIf_bl hb
  refine ⟨c, rfl, ?_⟩
  cases c with
  | true => exact ⟨env, La, R, hs.ex (f1.ex hL), r1, hc, fun x L' H' r f rh => k x L' H' r (f1.trans f) rh⟩
  | false =>
    obtain ⟨b, e, q⟩ := k _ La H1 hc f1 r1
    cases e
    exact q
theorem w_or (ha : PT X a (liftT X.K wa)) (hb : PW X (.BoolOp .Or (b :: rest) pos) (liftT X.K wb)) : PW X (.BoolOp .Or (a :: b :: rest) pos) (liftT X.K (wOr wa wb)) := pw_weak (pw_or ha hb) fun σ H Q h => by
  obtain ⟨env, L, R, hs, hL, hw, k⟩ := h
  refine ⟨env, L, _, hs, hL, hw, fun x La H1 hb f1 r1 => ?_⟩
  obtain ⟨c, rfl, hc⟩ := bIf_bl hb
  refine ⟨c, rfl, ?_⟩
  cases c with
  | false => exact ⟨env, La, R, hs.ex (f1.ex hL), r1, hc, fun x L' H' r f rh => k x L' H' r (f1.trans f) rh⟩
  | true =>
    obtain ⟨b, e, q⟩ := k _ La H1 hc f1 r1
    cases e
    exact q
theorem q_ifE (hc : PT X c (liftT X.K wc)) (ha : PE X a (liftE X.K wa)) (hb : PE X b (liftE X.K wb)) : PE X (.IfExp c a b pos) (liftE X.K (wIfE wc wa wb)) := (pe_ifExp hc ha hb).weak fun σ H Q h => by
  obtain ⟨env, L, R, hs, hL, hw, k⟩ := h
  refine ⟨env, L, _, hs, hL, hw, fun x La H1 hb f1 r1 => ?_⟩
  obtain ⟨c, rfl, hc⟩ := bIf_bl hb
  refine ⟨c, rfl, ?_⟩
  cases c with
  | true => exact ⟨env, La, R, hs.ex (f1.ex hL), r1, hc, k.fm f1⟩
  | false => exact ⟨env, La, R, hs.ex (f1.ex hL), r1, hc, k.fm f1⟩
/-- arguments -/
theorem q_nil : PA X [] (liftA X.K []) := (pa_nil).weak fun σ H Q h => by
  obtain ⟨env, L, R, hs, hL, hw, k⟩ := h
  exact k [] L [] H hw rfl .refl rfl hL
theorem q_cons {es : List Expr} {ws : List WE} (ha : PE X a (liftE X.K wa)) (hr : PA X es (liftA X.K ws)) (hs : starEach (a :: es) X.env = (false, eval a X.env) :: starEach es X.env) : PA X (a :: es) (liftA X.K (wa :: ws)) := (pa_cons ha hr hs).weak fun σ H Q h => by
  obtain ⟨env, L, R, hs, hL, hw, k⟩ := h
  refine ⟨env, L, _, hs, hL, hw, fun x La v H1 hb f1 rx r1 => ?_⟩
  refine ⟨env, La, _, hs.ex (f1.ex hL), r1, hb, fun xs Lb vs H2 hc hn f2 rxs r2 => ?_⟩
  exact k (x :: xs) Lb (v :: vs) H2 hc (by rw [List.length_cons, List.length_cons, hn]) (f1.trans f2) ⟨v, vs, rfl, rx.ex (f2.ex r1), rxs⟩ r2
theorem q_tup {es : List Expr} {ws : List WE} {x1} (h : PA X es (liftA X.K ws)) : PE X (.Tuple es x1 pos) (liftE X.K (wTup ws)) := (pe_tup h).weak fun σ H Q h => by
  obtain ⟨env, L, R, hs, hL, hw, k⟩ := h
  exact ⟨env, L, _, hs, hL, hw, fun xs La vs H1 hb hn f1 rx r1 => ⟨by rw [← rx.length]; exact hb.1, (k.fm f1).newt r1 hb.2 rx⟩⟩
theorem q_lst {es : List Expr} {ws : List WE} (h : PA X es (liftA X.K ws)) : PE X (.List es pos) (liftE X.K (wLst ws)) := (pe_lst h).weak fun σ H Q h => by
  obtain ⟨env, L, R, hs, hL, hw, k⟩ := h
  exact ⟨env, L, _, hs, hL, hw, fun xs La vs H1 hb hn f1 rx r1 => ⟨by rw [← rx.length]; exact hb.1, (k.fm f1).newl r1 hb.2 rx⟩⟩
/-- a builtin's rule over data -/
def BiS (K : PySem.W.Frag) (g : BiF) (r : List V → Hp → VK → Prop) : Prop := ∀ (xs : List PV) (vs : List V) (H : Hp) (L : Sto) (R : PK) (Q : VK), RepVs K H xs vs → RepH K H L → g xs L R → Kt K H L R Q → r vs H Q
def BiOk (X : Cx) (f : Value) (g : BiF) : Prop := ∃ r, CallR X f r ∧ BiS X.K g r
theorem lift_bi {g : BiF} {r : List V → Hp → VK → Prop} {ws : List WE} {σ : L2.St} {H : Hp} {Q : VK} (hg : BiS X.K g r) (h : liftE X.K (wBi g ws) σ H Q) : tCB r (liftA X.K ws) σ H Q := by
  obtain ⟨env, L, R, hs, hL, hw, k⟩ := h
  exact ⟨env, L, _, hs, hL, hw, fun xs La vs H1 hb hn f1 rx r1 => hg xs vs H1 La R Q rx r1 hb (k.fm f1)⟩
end
end Mp
namespace HTR
open PySem PySem.Spec PyProof.Rows L2 HT
section
variable {prog : Program} {w : World} {A : Around} {E : Value → Shared → Prop} {s : Shared}
theorem adjust_rev (n : Nat) : Builtin.Slice.sliceAdjust none none (-1) (n : Int) = ((n : Int) - 1, -1) := by
  unfold Builtin.Slice.sliceAdjust
  simp
theorem places_rev (n : Nat) : Builtin.Slice.slicePlaces ((n : Int) - 1) (-1) (-1) = n := by
  unfold Builtin.Slice.slicePlaces
  have h1 : ¬ ((-1 : Int) > 0) := by omega
  rw [if_neg h1]
  split
  · rw [show (- (-1 : Int)) = 1 by omega, Int.ediv_one]
    omega
  · omega
theorem sliceApplied_rev {sl : Addr} {t : Tok} {n : Nat} {Q : Int × Int × Nat → Shared → Prop} (hs : s.heap.IsSliceOf sl .none .none (.int (-1) t))
    (h : Q ((n : Int) - 1, -1, n) s) : wpAny (model prog w) A (Builtin.Slice.sliceApplied (.ref sl) (pure (n : Int))) Q E s := by
  obtain ⟨os, hos, hcs, hds⟩ := id hs
  unfold Builtin.Slice.sliceApplied Builtin.Slice.sliceFields
  refine wpAny_bind (wpAny_bind (wpAny_field hos hds (x := .none) rfl (wpAny_bind (wpAny_field hos hds (x := .none) rfl (wpAny_bind (wpAny_field hos hds (x := .int (-1) t) rfl (wpAny_pure ?_)))))))
  refine wpAny_bind (slicePart_int ?_)
  show wpAny _ _ (if ((-1 : Int) == 0) = true then _ else _) _ _ s
  rw [if_neg (by decide)]
  refine wpAny_bind (slicePart_none (wpAny_bind (slicePart_none (wpAny_bind (wpAny_pure ?_)))))
  show wpAny _ _ (match Builtin.Slice.sliceAdjust none none (-1) (n : Int) with | (lo, hi) => pure (lo, (-1 : Int), Builtin.Slice.slicePlaces lo hi (-1))) _ _ s
  rw [adjust_rev n]
  show wpAny _ _ (pure ((n : Int) - 1, (-1 : Int), Builtin.Slice.slicePlaces ((n : Int) - 1) (-1) (-1))) _ _ s
  rw [places_rev]
  exact wpAny_pure h
theorem filterMap_some {α β : Type} {f : α → Option β} {g : α → β} : ∀ {l : List α}, (∀ m ∈ l, f m = some (g m)) → l.filterMap f = l.map g
  | [], _ => rfl
  | a :: l, h => by
    rw [List.filterMap_cons, h a List.mem_cons_self, filterMap_some fun m hm => h m (List.mem_cons_of_mem _ hm)]
    rfl
theorem pick_rev (xs : Array Value) : ((List.range xs.size).filterMap fun (m : Nat) => xs[((xs.size : Int) - 1 + (m : Int) * -1).toNat]?).toArray = xs.toList.reverse.toArray := by
  congr 1
  apply List.ext_getElem?
  intro i
  have e : (List.range xs.size).filterMap (fun (m : Nat) => xs[((xs.size : Int) - 1 + (m : Int) * -1).toNat]?) = (List.range xs.size).map (fun m => xs.toList.reverse.getD m .none) := by
    refine filterMap_some fun m hm => ?_
    have hm := List.mem_range.mp hm
    rw [show ((xs.size : Int) - 1 + (m : Int) * -1).toNat = xs.size - 1 - m by omega]
    show xs[xs.size - 1 - m]? = some (xs.toList.reverse.getD m .none)
    rw [List.getD_eq_getElem?_getD, List.getElem?_reverse (by simpa using hm)]
    simp only [Array.length_toList]
    rw [Array.getElem?_toList, Array.getElem?_eq_getElem (by omega)]
    rfl
  rw [e, List.getElem?_map]
  by_cases hi : i < xs.size
  · rw [List.getElem?_range hi]
    have : i < xs.toList.reverse.length := by simpa using hi
    rw [List.getElem?_eq_getElem this]
    simp only [Option.map_some, List.getD_eq_getElem?_getD, List.getElem?_eq_getElem this, Option.getD_some]
  · rw [List.getElem?_eq_none (by simpa using hi), List.getElem?_eq_none (by simpa using hi)]
    rfl
theorem getItem_tuple_rev {t sl : Addr} {items : Array Value} {k : Tok} {Q : Value → Shared → Prop} (ht : IsTup s.heap t items) (hs : s.heap.IsSliceOf sl .none .none (.int (-1) k))
    (h : Q (.ref s.heap.objs.size) { s with heap := s.heap.push { cls := .type "tuple", data := .seq items.toList.reverse.toArray } })
    (hsz : items.size ≤ sizeLine) : wpAny (model prog w) A (getItem (.ref t) (.ref sl)) Q E s := by
  have htake : sizeOk (.seq items.toList.reverse.toArray) := by
    show items.toList.reverse.toArray.size ≤ sizeLine
    rw [List.size_toArray, List.length_reverse, Array.length_toList]
    exact hsz
  obtain ⟨os, hos, hcs, hds⟩ := id hs
  have hTs : s.TypeIs (.ref sl) "slice" := ⟨os, hos, hcs⟩
  unfold getItem
  try with_reducible refine wpAny_holding ?_
  first | refine wpAny_bind (wpAny_pure ?_) | skip
  refine wpAny_bind (wpAny_sequenceKey ht.typeIs (by decide) ?_)
  refine wpAny_bind (wpAny_callSpecial?_slot (name := Str.ofString "__getitem__") ht.typeIs PyProof.Rows.slot_tuple_getitem
    (wpAny_call_entry PyProof.Rows.slot_tuple_getitem ht.typeIs entry_tuple_getitem ?_ (args_tuple_getitem _ _)))
  show wpAny _ _ (Builtin.Tuple.tupleItemsOf (.ref t) >>= _) _ _ s
  refine wpAny_bind (tupleItemsOf_ ht ?_)
  refine wpAny_bind (wpAny_typeOf hTs ?_)
  rw [if_pos (by decide)]
  refine wpAny_bind (sliceApplied_rev hs ?_)
  have hno : ¬ ((((items.size : Int) - 1 == 0) && ((-1 : Int) == 1) && (items.size == items.size)) = true) := by
    rw [show ((-1 : Int) == 1) = false by decide, Bool.and_false, Bool.false_and]
    exact Bool.false_ne_true
  show wpAny _ _ (if (((items.size : Int) - 1 == 0) && ((-1 : Int) == 1) && (items.size == items.size)) = true then _ else _) _ _ s
  rw [if_neg hno, pick_rev]
  first
    | exact wpAny_bind (m := Builtin.Tuple.tupleExact _) (wpAny_newObj_type (wpAny_pure ⟨_, rfl, wpAny_pure h⟩) htake)
    | exact wpAny_bind (m := Builtin.Tuple.tupleExact _) (wpAny_newObj_type (wpAny_bind (wpAny_pure (wpAny_pure ⟨_, rfl, wpAny_pure h⟩))) htake)
    | exact wpAny_bind (wpAny_bind (m := Builtin.Tuple.tupleExact _) (wpAny_newObj_type (wpAny_pure (wpAny_pure ⟨_, rfl, wpAny_pure h⟩)) htake))
    | exact wpAny_bind (wpAny_bind (m := Builtin.Tuple.tupleExact _) (wpAny_newObj_type (wpAny_pure ⟨_, rfl, wpAny_pure h⟩) htake))
end
end HTR
namespace Mp
open PySem PySem.Spec PyProof.Rows L2
/-- xs[::-1], of a list or a tuple -/
def tRevU (K : PySem.W.Frag) (te : TE) : TE := fun σ H Q => te σ H fun x H1 => (∃ a xs, x = .ref a ∧ SqL K H1 a xs ∧ ∀ p, H1 p = none → Q (.ref p) (upd H1 p (.lst xs.reverse))) ∨ (∃ a xs, x = .ref a ∧ SqT K H1 a xs ∧ ∀ p, H1 p = none → Q (.ref p) (upd H1 p (.tup xs.reverse))) ∨
  ∃ z, x = .str z ∧ z.length ≤ sizeLine ∧ ∀ z' : Str, (∀ c ∈ z'.cps.toList, c ∈ z.cps.toList) → z'.length ≤ z.length → Q (.str z') H1
theorem rev_made {z : Str} {t : Tok} {t1 : Tok} {s : Shared} {Q : Value → Shared → Prop} (hz : z.length ≤ sizeLine)
    (h : ∀ (z' : Str) (t' : Tok) (k : Nat), (∀ c ∈ z'.cps.toList, c ∈ z.cps.toList) → z'.length ≤ z.length → Q (.str z' t') { s with toks := k }) : (sliceMade z t none none (some (-1, t1))).post Q s := by
  unfold sliceMade
  rw [if_neg (by rw [show ((((some ((-1 : Int), t1)).map (·.1)).getD 1) == 1) = false from rfl, Bool.false_and]; exact Bool.false_ne_true)]
  have hl : ((slicePicked z none none (some (-1, t1))).filterMap (z.cps[·]?)).length ≤ z.length := by
    refine Nat.le_trans (List.length_filterMap_le _ _) ?_
    show (Builtin.Str.strSliceIndices none none (-1) z.length).length ≤ _
    unfold Builtin.Str.strSliceIndices sliceRange
    simp only [show ¬ ((-1 : Int) > 0) by decide, if_false, List.length_map, List.length_range]
    split
    · rw [show -(-1 : Int) = 1 by decide, Int.ediv_one]; omega
    · omega
  have hm : ∀ c ∈ ((slicePicked z none none (some (-1, t1))).filterMap (z.cps[·]?)), c ∈ z.cps.toList := fun c hc => by
    obtain ⟨i, _, hi⟩ := List.mem_filterMap.mp hc
    rw [← Array.getElem?_toList] at hi
    exact List.mem_of_getElem? hi
  refine ⟨?_, ?_⟩
  · show (List.toArray _).size ≤ sizeLine
    rw [List.size_toArray]
    exact Nat.le_trans hl hz
  · exact h _ _ _ (fun c hc => hm c (by simpa using hc)) (by show (List.toArray _).size ≤ _; rw [List.size_toArray]; exact hl)
theorem pe_revU {X : Cx} {e : Expr} {te : TE} {k : Nat} {p1 p2 p3 pos : Pos} (he : PE X e te) : PE X (.Subscript e (.Slice none none (some (.UnaryOp .USub (.Constant (.int 1) k p1) p2)) p3) pos) (tRevU X.K te) := by
  refine ⟨fun pins s σ H Q I h => ?_⟩
  refine Subscript_ (thn (he.run pins s σ H _ I h) fun v s1 ⟨x, H1, I1, r1, q1⟩ => ?_)
  have hst : PO X (some (.UnaryOp .USub (.Constant (.int 1) k p1) p2)) (tPart (tUn (rU fun i => .int (-i)) (tC (.int 1)))) := po_some (pe_un un_neg pe_int)
  refine wpAny_Slice (thn (po_none.run pins s1 σ H1 (fun o H2 => o = none ∧ H2 = H1) I1 ⟨rfl, rfl⟩) fun vl s2 ⟨l, H2, I2, pl, el, e2⟩ => ?_)
  subst el e2
  refine thn (po_none.run pins s2 σ H2 (fun o H3 => o = none ∧ H3 = H2) I2 ⟨rfl, rfl⟩) fun vu s3 ⟨u, H3, I3, pu, eu, e3⟩ => ?_
  subst eu e3
  refine thn (hst.run pins s3 σ H3 (fun o H4 => o = some (-1) ∧ H4 = H3) I3 ⟨1, rfl, -1, rfl, rfl, rfl⟩) fun vs s4 ⟨o, H4, I4, ps, eo, e4⟩ => ?_
  subst eo e4
  have I5 : Inv X pins σ H4 { s4 with heap := s4.heap.push { cls := .type "slice", data := .fields #[vl, vu, vs] } } := I4.kept (t' := s4.toks) fun b ob q => Heap.get?_push_of_some _ q
  rcases q1 with ⟨a, xs, ex, hx, q⟩ | ⟨a, xs, ex, hx, q⟩ | ⟨z, ex, hz, q⟩
  · subst ex
    cases r1
    obtain ⟨its, r, ht, hz⟩ := I5.list hx
    have hlen := r.length
    show wpAny (model X.prog X.w) X.A (subscriptTail e (.Slice none none (some (.UnaryOp .USub (.Constant (.int 1) k p1) p2)) p3) (.ref a) (.ref s4.heap.objs.size)) (EP X pins σ Q) X.xe { s4 with heap := s4.heap.push { cls := .type "slice", data := .fields #[vl, vu, vs] } }
    refine tail_any (ops := [.ref a, .ref s4.heap.objs.size]) ht.isList.typeIs (PySem.slot_list_getitem.lookup) ?_ (by with_unfolding_all rfl)
    refine wpAny_getItem_list_slice ht.isList (Heap.IsSliceOf.new _ vl vu vs) pl pu ps (by decide) ?_ (by rw [List.size_toArray]; omega)
    rw [PySem.W.krv_pick]
    refine ⟨.ref _, _, I5.laid (t' := s4.toks) (o := .lst xs.reverse) (fun b ob q => Heap.get?_push_of_some _ q) (Nat.le_refl _) ?_, rfl, q _ (I5.hok.fresh (Nat.le_refl _))⟩
    exact ⟨by rw [List.length_reverse]; exact hz, _, 0, r.reverse, Heap.get?_push_size _ rfl⟩
  · subst ex
    cases r1
    cases pl
    cases pu
    obtain ⟨its, r, ht, hz⟩ := I5.tuple hx
    have hlen := r.length
    show wpAny (model X.prog X.w) X.A (subscriptTail e (.Slice none none (some (.UnaryOp .USub (.Constant (.int 1) k p1) p2)) p3) (.ref a) (.ref s4.heap.objs.size)) (EP X pins σ Q) X.xe { s4 with heap := s4.heap.push { cls := .type "slice", data := .fields #[.none, .none, vs] } }
    refine tail_any (ops := [.ref a, .ref s4.heap.objs.size]) ht.typeIs (PyProof.Rows.slot_tuple_getitem.lookup) ?_ (by with_unfolding_all rfl)
    cases ps with
    | int i t =>
      refine HTR.getItem_tuple_rev ht (Heap.IsSliceOf.new _ .none .none (.int (-1) t)) ?_ (by rw [List.size_toArray]; omega)
      refine ⟨.ref _, _, I5.laid (t' := s4.toks) (o := .tup xs.reverse) (fun b ob q => Heap.get?_push_of_some _ q) (Nat.le_refl _) ?_, rfl, q _ (I5.hok.fresh (Nat.le_refl _))⟩
      exact ⟨by rw [List.length_reverse]; exact hz, _, r.reverse, ⟨_, Heap.get?_push_size _ rfl, rfl, 0, rfl⟩⟩
  · subst ex
    obtain ⟨t, rfl⟩ := r1
    cases pl
    cases pu
    cases ps with
    | int i t2 =>
      show wpAny (model X.prog X.w) X.A (subscriptTail e (.Slice none none (some (.UnaryOp .USub (.Constant (.int 1) k p1) p2)) p3) (.str z t) (.ref s4.heap.objs.size)) (EP X pins σ Q) X.xe { s4 with heap := s4.heap.push { cls := .type "slice", data := .fields #[.none, .none, .int (-1) t2] } }
      refine tail_any (ops := [.str z t, .ref s4.heap.objs.size]) (typeIs_str _ z t) (PySem.F.slot_str_getitem.lookup) ?_ (by with_unfolding_all rfl)
      refine wpAny_getItem_str_slice (l := none) (u := none) (st := some (-1, t2)) ⟨_, Heap.get?_push_size _ rfl, rfl, rfl⟩ rfl (rev_made hz fun z' t' kk h1 h2 => ?_)
      exact ⟨.str z', H4, I5.tok _, ⟨_, rfl⟩, q z' h1 h2⟩
/-! ### truth of things -/
def truP (x : PV) (L : Sto) (R : PK) : Prop := match x with
  | .bl b => R (.bl b) L
  | .int i => R (.bl (i != 0)) L
  | .non => R (.bl false) L
  | .tup xs => R (.bl (!xs.isEmpty)) L
  | .ref a => (match L a with
    | some (.l xs) => R (.bl (!xs.isEmpty)) L
    | _ => False)
  | .str z => z.length ≤ sizeLine ∧ R (.bl ((z.length : Int) != 0)) L
  | _ => False
def wTru (w : WE) : WE := fun env L R => w env L fun x La => truP x La R
theorem RepVs.emp {K : PySem.W.Frag} {H : Hp} {xs : List PV} {vs : List V} (r : RepVs K H xs vs) : xs.isEmpty = vs.isEmpty := by
  have := r.length
  cases xs <;> cases vs <;> first | rfl | simp at this
theorem t_tru {X : Cx} {e : Expr} {w : WE} (h : PE X e (liftE X.K w)) (he : ∀ whole, isTrue e X.env whole = (do let v ← whole; standAt e.pos; holding [v] (truthy v))) : PT X e (liftT X.K (wTru w)) :=
  (pt_truth h he).weak fun σ H Q h => by
  obtain ⟨env, L, R, hs, hL, hw, k⟩ := h
  refine ⟨env, L, _, hs, hL, hw, fun x La v H1 hb f1 rx r1 => ?_⟩
  have fin : ∀ b, R (.bl b) La → Q b H1 := fun b hR => by
    obtain ⟨b', e, q⟩ := k _ La H1 hR f1 r1
    cases e
    exact q
  unfold truP at hb
  split at hb
  · cases (show _ = _ from rx); exact ⟨_, rfl, fin _ hb⟩
  · cases (show _ = _ from rx); exact ⟨_, rfl, fin _ hb⟩
  · cases (show _ = _ from rx); exact ⟨_, rfl, fin _ hb⟩
  · obtain ⟨a, vs, rfl, t, r⟩ := rx
    exact ⟨_, .inr (.inl ⟨vs, t.sq, rfl⟩), by rw [← r.emp]; exact fin _ hb⟩
  · cases (show _ = _ from rx)
    split at hb
    · rename_i xs e
      obtain ⟨vs, h1, r⟩ := r1.lst e
      exact ⟨_, .inl ⟨vs, .of h1, rfl⟩, by rw [← r.emp]; exact fin _ hb⟩
    · exact hb.elim
  · cases (show _ = _ from rx); exact ⟨_, ⟨hb.1, rfl⟩, fin _ hb.2⟩
  · exact hb.elim
end Mp
namespace Mp
open PySem PySem.Spec PyProof.Rows L2

/-! ### subscripts, slices -/
def cutP {α : Type} (xs : List α) (lo hi : Option Int) : List α := (xs.drop (HT.sIx xs.length 0 lo)).take (HT.sIx xs.length xs.length hi - HT.sIx xs.length 0 lo)
def oIx : Op2 := fun x y L R => match x, y with
  | .tup xs, .int i => match atI xs i with
    | some v => R v L
    | none => False
  | .ref a, y => match L a with
    | some (.l xs) => (match y with
      | .int i => (match atI xs i with
        | some v => R v L
        | none => False)
      | _ => False)
    | some (.d kvs) => (match y with
      | .int i => (match kvs.find? (fun kv => decide (kv.1 = .inl i)) with
        | some kv => R kv.2 L
        | none => False)
      | .str i => (match kvs.find? (fun kv => decide (kv.1 = .inr i)) with
        | some kv => R kv.2 L
        | none => False)
      | _ => False)
    | none => False
  | .fz ns, .int i => match atI ns i with
    | some v => R (.int v) L
    | none => False
  | .str z, .int i => z.length ≤ sizeLine ∧ match atI z.cps.toList i with
    | some c => R (.str ⟨#[c]⟩) L
    | none => False
  | _, _ => False
def oSl (x : PV) (lo hi : Option Int) (L : Sto) (R : PK) : Prop := match x with
  | .tup xs => R (.tup (cutP xs lo hi)) L
  | .ref a => match L a with
    | some (.l xs) => newL L (cutP xs lo hi) R
    | _ => False
  | .fz ns => newL L ((cutP ns lo hi).map PV.int) R
  | .str z => z.length ≤ sizeLine ∧ R (.str (cutS z lo hi)) L
  | _ => False
section
variable {K : PySem.W.Frag} {H : Hp} {L : Sto}
theorem RepVs.at {xs : List PV} {vs : List V} {i : Int} {x : PV} (r : RepVs K H xs vs) (h : atI xs i = some x) : ∃ v, atI vs i = some v ∧ RepV K H x v := by
  unfold atI at h ⊢
  rw [← r.length]
  cases e : ixN xs.length i with
  | none => rw [e] at h; cases h
  | some j =>
    rw [e] at h
    obtain ⟨v, h1, h2⟩ := r.get (i := j) h
    exact ⟨v, h1, h2⟩
theorem RepVs.cut {xs : List PV} {vs : List V} (r : RepVs K H xs vs) (lo hi : Option Int) : RepVs K H (cutP xs lo hi) (cutV vs lo hi) := by
  unfold cutP cutV
  rw [r.length]
  exact (r.drop _).take _
theorem atI_map {α β : Type} (f : α → β) (xs : List α) (i : Int) : atI (xs.map f) i = (atI xs i).map f := by
  unfold atI
  rw [List.length_map]
  cases ixN xs.length i with
  | none => rfl
  | some j => exact List.getElem?_map
theorem cut_map (xs : List Int) (lo hi : Option Int) : cutV (xs.map V.int) lo hi = (cutP xs lo hi).map V.int := by
  unfold cutP cutV
  rw [List.length_map, List.map_take, List.map_drop]
theorem RepKs.find {k : Key} {kv : Key × PV} : ∀ {kvs : List (Key × PV)} {ks : List (Key × V)}, RepKs K H kvs ks → kvs.find? (fun kv => decide (kv.1 = k)) = some kv → ∃ v, valV ks k = some v ∧ RepV K H kv.2 v
  | [], _, _, e => by cases e
  | (k', x) :: r, _, ⟨v, ks, h1, h2, h3⟩, e => by
    subst h1
    rw [List.find?_cons] at e
    unfold valV
    rw [List.find?_cons]
    by_cases q : k' = k
    · rw [show decide (k' = k) = true from decide_eq_true q] at e ⊢
      cases e
      exact ⟨v, rfl, h2⟩
    · rw [show decide (k' = k) = false from decide_eq_false q] at e ⊢
      exact RepKs.find h3 e
theorem fz_sq {ns : List Int} {v : V} (h : RepV K H (.fz ns) v) : ∃ a, v = .ref a ∧ SqL K H a (ns.map V.int) := by
  obtain ⟨a, rfl, h⟩ := h
  refine ⟨a, rfl, ?_⟩
  rcases h with ⟨o, h⟩ | h
  · exact .inl (.inr ⟨o, h⟩)
  · exact sqL_up h
end
section
variable {X : Cx} {pos : Pos} {a b c : Expr} {wa wb wc : WE}
theorem ix_dict (hu : X.A.units + 1 < cLine) : IxR X (fun x y H Q => ∃ a v, x = .ref a ∧ DGet H a y (some v) ∧ Q v H) := by
  intro value slice pins s σ H x y v u Q I rx ry h hs
  obtain ⟨a, w, rfl, g, q⟩ := h
  cases rx
  exact tail_any (dict_typeIs I g) PySem.F.slot_dict_getitem.lookup (d_getItem hu I g ry fun w' s3 I3 rw' => ⟨w, H, I3, rw', q⟩) hs
def IxOk (X : Cx) (f : Op2) : Prop := ∃ r, IxR X r ∧ OpS X.K f r
theorem ok_ix (hu : X.A.units + 1 < cLine) : IxOk X oIx := by
  refine ⟨_, ix_list.or (ix_tup.or (ix_str.or (ix_dict hu))), ?_⟩
  intro x y v u H L R Q rx ry rh h k
  cases x with
  | tup xs =>
    cases y <;> first | exact absurd h (fun z => z) | skip
    rename_i i
    obtain ⟨a, vs, rfl, t, r⟩ := rx
    cases (show _ = _ from ry)
    simp only [oIx] at h
    cases e : atI xs i with
    | none => rw [e] at h; exact h.elim
    | some z =>
      rw [e] at h
      obtain ⟨w, h1, h2⟩ := r.at e
      exact .inr (.inl ⟨a, vs, i, w, rfl, rfl, t.sq, h1, k.here rh h h2⟩)
  | ref a =>
    cases (show _ = _ from rx)
    simp only [oIx] at h
    cases e : L a with
    | none => rw [e] at h; exact h.elim
    | some o =>
      rw [e] at h
      cases o with
      | d kvs =>
        obtain ⟨ks, h1, r⟩ := rh.dct e
        cases y <;> first | exact absurd h (fun z => z) | skip
        · rename_i i
          cases (show _ = _ from ry)
          simp only at h
          split at h
          · rename_i kv e2
            obtain ⟨w, h3, h4⟩ := RepKs.find r e2
            exact .inr (.inr (.inr ⟨a, w, rfl, .inl ⟨ks, .inl i, .inl h1, rfl, h3.symm⟩, k.here rh h h4⟩))
          · exact h.elim
        · rename_i i
          cases (show _ = _ from ry)
          simp only at h
          split at h
          · rename_i kv e2
            obtain ⟨w, h3, h4⟩ := RepKs.find r e2
            exact .inr (.inr (.inr ⟨a, w, rfl, .inl ⟨ks, .inr i, .inl h1, rfl, h3.symm⟩, k.here rh h h4⟩))
          · exact h.elim
      | l xs =>
        obtain ⟨vs, h1, r⟩ := rh.lst e
        cases y <;> first | exact absurd h (fun z => z) | skip
        rename_i i
        cases (show _ = _ from ry)
        simp only at h
        cases e2 : atI xs i with
        | none => rw [e2] at h; exact h.elim
        | some z =>
          rw [e2] at h
          obtain ⟨w, h3, h4⟩ := r.at e2
          exact .inl ⟨a, vs, i, w, rfl, rfl, .inl (.inl h1), h3, k.here rh h h4⟩
  | fz ns =>
    cases y <;> first | exact absurd h (fun z => z) | skip
    rename_i i
    obtain ⟨a, rfl, hq⟩ := fz_sq rx
    cases (show _ = _ from ry)
    simp only [oIx] at h
    cases e : atI ns i with
    | none => rw [e] at h; exact h.elim
    | some z =>
      rw [e] at h
      exact .inl ⟨a, _, i, .int z, rfl, rfl, hq, by rw [atI_map, e]; rfl, k.here rh h rfl⟩
  | str z =>
    cases y <;> first | exact absurd h (fun z => z) | skip
    rename_i i
    cases (show _ = _ from rx)
    cases (show _ = _ from ry)
    obtain ⟨h1, h⟩ := h
    cases e : atI z.cps.toList i with
    | none => rw [e] at h; exact h.elim
    | some c =>
      rw [e] at h
      exact .inr (.inr (.inl ⟨z, i, c, rfl, rfl, h1, e, k.here rh h rfl⟩))
  | _ => exact absurd h (by cases y <;> exact (fun z => z))
theorem q_ix (hu : X.A.units + 1 < cLine) (ha : PE X a (liftE X.K wa)) (hb : PE X b (liftE X.K wb)) (hs : PlainIx b) : PE X (.Subscript a b pos) (liftE X.K (wBin oIx wa wb)) := by
  obtain ⟨r, h1, h2⟩ := ok_ix hu
  exact (pe_ix h1 ha hb hs).weak fun σ H Q h => lift_bin h2 h

/-! slices -/
abbrev WO := Env → Sto → (Option Int → Sto → Prop) → Prop
def wNo : WO := fun _ L R => R none L
def wSo (a : WE) : WO := fun env L R => a env L fun x La => match x with
  | .int i => R (some i) La
  | _ => False
def liftO (K : PySem.W.Frag) (w : WO) : TO := fun σ H Q => ∃ env L R, RepS K H σ env ∧ RepH K H L ∧ w env L R ∧ ∀ x L' H', R x L' → Fm H L H' L' → RepH K H' L' → Q x H'
def wSl (a : WE) (lo hi : WO) : WE := fun env L R => a env L fun x La => lo env La fun l Lb => hi env Lb fun u Lc => oSl x l u Lc R
theorem po_weak {e : Option Expr} {t t' : TO} (h : PO X e t) (w : ∀ σ H Q, t' σ H Q → t σ H Q) : PO X e t' := ⟨fun pins s σ H Q I q => h.run pins s σ H Q I (w σ H Q q)⟩
theorem o_no : PO X none (liftO X.K wNo) := po_weak po_none fun σ H Q h => by
  obtain ⟨env, L, R, hs, hL, hw, k⟩ := h
  exact k none L H hw .refl hL
theorem o_so (ha : PE X a (liftE X.K wa)) : PO X (some a) (liftO X.K (wSo wa)) := po_weak (po_some ha) fun σ H Q h => by
  obtain ⟨env, L, R, hs, hL, hw, k⟩ := h
  refine ⟨env, L, _, hs, hL, hw, fun x La v H1 hb f1 rx r1 => ?_⟩
  cases x <;> first | exact absurd hb (fun z => z) | skip
  cases (show _ = _ from rx)
  exact ⟨_, rfl, k _ La H1 hb f1 r1⟩
theorem q_sl {lo hi : Option Expr} {wl wh : WO} {p2 : Pos} (ha : PE X a (liftE X.K wa)) (hl : PO X lo (liftO X.K wl)) (hh : PO X hi (liftO X.K wh)) : PE X (.Subscript a (.Slice lo hi none p2) pos) (liftE X.K (wSl wa wl wh)) :=
  (pe_slice (sl_list.or (sl_tupA.or sl_str)) ha hl hh).weak fun σ H Q h => by
  obtain ⟨env, L, R, hs, hL, hw, k⟩ := h
  refine ⟨env, L, _, hs, hL, hw, fun x La v H1 hb f1 rx r1 => ?_⟩
  refine ⟨env, La, _, hs.ex (f1.ex hL), r1, hb, fun l Lb H2 hc f2 r2 => ?_⟩
  refine ⟨env, Lb, _, (hs.ex (f1.ex hL)).ex (f2.ex r1), r2, hc, fun u Lc H3 hd f3 r3 => ?_⟩
  have kk := k.fm ((f1.trans f2).trans f3)
  have rx3 := (rx.ex (f2.ex r1)).ex (f3.ex r2)
  cases x with
  | tup xs =>
    obtain ⟨p, vs, rfl, t, r⟩ := rx3
    refine .inr (.inl ⟨p, vs, rfl, t.sq, fun z => ?_, fun _ => kk.newt r3 hd (r.cut l u)⟩)
    have e : cutP xs l u = xs := by
      unfold cutP
      rw [r.length, z.1, z.2, List.drop_zero, Nat.sub_zero, ← r.length, List.take_length]
    refine kk.here r3 (x := .tup (cutP xs l u)) hd ?_
    rw [e]
    exact ⟨p, vs, rfl, t, r⟩
  | ref p =>
    cases (show _ = _ from rx3)
    simp only [oSl] at hd
    split at hd
    · rename_i xs e
      obtain ⟨vs, h1, r⟩ := r3.lst e
      exact .inl ⟨p, vs, rfl, .inl (.inl h1), kk.newl r3 hd (r.cut l u)⟩
    · exact hd.elim
  | fz ns =>
    obtain ⟨p, rfl, hq⟩ := fz_sq rx3
    refine .inl ⟨p, _, rfl, hq, ?_⟩
    rw [cut_map]
    exact kk.newl r3 hd RepVs.ofInts
  | str z =>
    cases (show _ = _ from rx3)
    exact .inr (.inr ⟨z, rfl, hd.1, kk.here r3 hd.2 rfl⟩)
  | _ => exact absurd hd (fun z => z)
def oRev (x : PV) (L : Sto) (R : PK) : Prop := match x with
  | .ref a => match L a with
    | some (.l xs) => newL L xs.reverse R
    | _ => False
  | .tup xs => R (.tup xs.reverse) L
  | .str z => z.length ≤ sizeLine ∧ ∀ z' : Str, (∀ c ∈ z'.cps.toList, c ∈ z.cps.toList) → z'.length ≤ z.length → R (.str z') L
  | _ => False
theorem q_rev {k : Nat} {p1 p2 p3 : Pos} (ha : PE X a (liftE X.K wa)) : PE X (.Subscript a (.Slice none none (some (.UnaryOp .USub (.Constant (.int 1) k p1) p2)) p3) pos) (liftE X.K (wUn oRev wa)) := (pe_revU ha).weak fun σ H Q h => by
  obtain ⟨env, L, R, hs, hL, hw, k⟩ := h
  refine ⟨env, L, _, hs, hL, hw, fun x La v H1 hb f1 rx r1 => ?_⟩
  cases x <;> first | exact absurd hb (fun z => z) | skip
  · cases (show _ = _ from rx)
    exact .inr (.inr ⟨_, rfl, hb.1, fun z' h1 h2 => (k.fm f1).here r1 (hb.2 z' h1 h2) rfl⟩)
  · rename_i p
    cases (show _ = _ from rx)
    simp only [oRev] at hb
    split at hb
    · rename_i xs e
      obtain ⟨vs, h1, r⟩ := r1.lst e
      exact .inl ⟨p, vs, rfl, .inl (.inl h1), (k.fm f1).newl r1 hb r.reverse⟩
    · exact hb.elim
  · obtain ⟨p, vs, rfl, t, r⟩ := rx
    exact .inr (.inl ⟨p, vs, rfl, t.sq, (k.fm f1).newt r1 hb r.reverse⟩)
end

/-! ### built-ins by name -/
def gLen : BiF := fun xs L R => match xs with
  | [.tup ys] => R (.int ys.length) L
  | [.ref a] => (match L a with
    | some (.l ys) => R (.int ys.length) L
    | some (.d ys) => R (.int ys.length) L
    | none => False)
  | [.fz ns] => R (.int ns.length) L
  | [.str z] => z.length ≤ sizeLine ∧ R (.int z.length) L
  | _ => False
def gAbs : BiF := fun xs L R => match xs with
  | [.int i] => R (.int (i.natAbs : Int)) L
  | _ => False
def gMin : BiF := fun xs L R => match xs with
  | [.int i, .int j] => R (.int (min i j)) L
  | [.ref a] => ∃ ns : List Int, L a = some (.l (ns.map PV.int)) ∧ 0 < ns.length ∧ ∀ m, m ∈ ns → (∀ y, y ∈ ns → m ≤ y) → R (.int m) L
  | _ => False
def gMax : BiF := fun xs L R => match xs with
  | [.int i, .int j] => R (.int (max i j)) L
  | [.ref a] => ∃ ns : List Int, L a = some (.l (ns.map PV.int)) ∧ 0 < ns.length ∧ ∀ m, m ∈ ns → (∀ y, y ∈ ns → y ≤ m) → R (.int m) L
  | _ => False
def gInt : BiF := fun xs L R => match xs with
  | [.int i] => R (.int i) L
  | [.bl k] => R (.int (if k then 1 else 0)) L
  | [.str z] => ∃ n, PySem.intText? z = some n ∧ z.length ≤ 640 ∧ R (.int n) L
  | _ => False
def gDivmod : BiF := fun xs L R => match xs with
  | [.int i, .int j] => 0 < j ∧ NoPl i j ∧ R (.tup [.int (i / j), .int (i % j)]) L
  | _ => False
def gList : BiF := fun xs L R => match xs with
  | [.tup ys] => newL L ys R
  | [.ref a] => (match L a with
    | some (.l ys) => newL L ys R
    | _ => False)
  | [.fz ns] => newL L (ns.map PV.int) R
  | _ => False
def gTuple : BiF := fun xs L R => match xs with
  | [.tup ys] => R (.tup ys) L
  | [.ref a] => (match L a with
    | some (.l ys) => R (.tup ys) L
    | _ => False)
  | _ => False
def gAll : BiF := fun xs L R => match xs with
  | [.ref a] => ∃ bs : List Bool, L a = some (.l (bs.map PV.bl)) ∧ R (.bl (bs.all id)) L
  | _ => False
def gAny : BiF := fun xs L R => match xs with
  | [.ref a] => ∃ bs : List Bool, L a = some (.l (bs.map PV.bl)) ∧ R (.bl (bs.any id)) L
  | _ => False
def gSum : BiF := fun xs L R => match xs with
  | [.ref a] => ∃ ns : List Int, L a = some (.l (ns.map PV.int)) ∧ R (.int ns.sum) L
  | _ => False
def bLe (a b : Bool) : Bool := !a || b
def gSorted : BiF := fun xs L R => match xs with
  | [.ref a] => (∃ ns : List Int, L a = some (.l (ns.map PV.int)) ∧ ns.length < 64 ∧ ∀ ns' : List Int, ns'.Perm ns → ns'.Pairwise (· ≤ ·) → newL L (ns'.map PV.int) R) ∨
    (∃ ss : List Str, L a = some (.l (ss.map PV.str)) ∧ ss.length < 64 ∧ ∀ ys : List Str, ys.Perm ss → sortedS ys = true → newL L (ys.map PV.str) R) ∨
    ∃ bs : List Bool, L a = some (.l (bs.map PV.bl)) ∧ bs.length < 64 ∧ bs.Pairwise (fun a b => bLe a b = true) ∧ newL L (bs.map PV.bl) R
  | _ => False
def gStr : BiF := fun xs L R => match xs with
  | [.int i] => i.natAbs.log2 < 1920 ∧ R (.str (Str.ofString (toString i))) L
  | [.tup xs] => (∃ ns : List Int, xs = ns.map PV.int ∧ (∀ i ∈ ns, i.natAbs < 100000) ∧ ns.length ≤ 100 ∧ ∀ m, R (.str m) L) ∨ ∃ d, PD L (.tup xs) d ∧ d.showable = true ∧ d.hasDict = false ∧ d.depth ≤ 40 ∧ d.shown.length ≤ sizeLine ∧ R (.str d.shown) L
  | [.non] => R (.str "None") L
  | [.bl b] => R (.str (if b then "True" else "False")) L
  | [.str z] => R (.str z) L
  | [.ref a] => ∃ d, PD L (.ref a) d ∧ d.showable = true ∧ d.hasDict = false ∧ d.depth ≤ 40 ∧ d.shown.length ≤ sizeLine ∧ R (.str d.shown) L
  | _ => False
def tyName : PV → Sto → String
  | .non, _ => "NoneType"
  | .bl _, _ => "bool"
  | .int _, _ => "int"
  | .str _, _ => "str"
  | .tup _, _ => "tuple"
  | .fz _, _ => "list"
  | .ref a, L => (match L a with
    | some (.l _) => "list"
    | some (.d _) => "dict"
    | none => "")
  | .ty _, _ => ""
def isiB (t c : String) : Option Bool := match t, c with
  | "NoneType", "int" => some false | "NoneType", "bool" => some false | "NoneType", "str" => some false | "NoneType", "tuple" => some false | "NoneType", "list" => some false | "NoneType", "dict" => some false
  | "bool", "int" => some true | "bool", "bool" => some true | "bool", "str" => some false | "bool", "tuple" => some false | "bool", "list" => some false | "bool", "dict" => some false
  | "int", "int" => some true | "int", "bool" => some false | "int", "str" => some false | "int", "tuple" => some false | "int", "list" => some false | "int", "dict" => some false
  | "str", "int" => some false | "str", "bool" => some false | "str", "str" => some true | "str", "tuple" => some false | "str", "list" => some false | "str", "dict" => some false
  | "tuple", "int" => some false | "tuple", "bool" => some false | "tuple", "str" => some false | "tuple", "tuple" => some true | "tuple", "list" => some false | "tuple", "dict" => some false
  | "list", "int" => some false | "list", "bool" => some false | "list", "str" => some false | "list", "tuple" => some false | "list", "list" => some true | "list", "dict" => some false
  | "dict", "int" => some false | "dict", "bool" => some false | "dict", "str" => some false | "dict", "tuple" => some false | "dict", "list" => some false | "dict", "dict" => some true
  | _, _ => none
def isiBs (t : String) : List PV → Option Bool
  | [] => some false
  | .ty c :: r => (match isiB t c, isiBs t r with
    | some a, some b => some (a || b)
    | _, _ => none)
  | _ => none
def gIsi : BiF := fun xs L R => match xs with
  | [x, .ty c] => (match isiB (tyName x L) c with
    | some b => R (.bl b) L
    | none => False)
  | [x, .tup cs] => cs ≠ [] ∧ (match isiBs (tyName x L) cs with
    | some b => R (.bl b) L
    | none => False)
  | _ => False
end Mp
namespace Mp
open PySem PySem.Spec PyProof.Rows L2

/-! ### defs that are called where nothing is being shown -/
structure FnG (P : Program) (w : World) (K : PySem.W.Frag) (mg : Str → Option Value) (base : Heap) (k : Nat) (f : Addr) (fd : FuncData) (ps : List Str) (sp : Sp) : Prop where
  ln : ∀ vs H Q E, sp vs H Q E → vs.length = ps.length
  go : ∀ (A : Around) (fr : List PySem.Env) (s : Shared) (H : Hp) (as : Args) (us : List Value) (vs : List V) (Q : VK) (E : XK), A.guards = some [] → Room k A → Env0 P w K mg base A fr s H →
    BindsTo s fd as (ps.zip us) → Vals vs us → sp vs H Q E → codeAny (model P w) A (.call (.ref f) as) (CR CX0 fr P w H s Q E) s
section
variable {P : Program} {w : World} {K : PySem.W.Frag} {mg : Str → Option Value} {base : Heap} {k : Nat} {f : Addr} {fd : FuncData} {ps : List Str} {sp : Sp}
theorem FnG.up {j : Nat} (g : FnG P w K mg base j f fd ps sp) (h : j ≤ k) : FnG P w K mg base k f fd ps sp :=
  ⟨g.ln, fun A fr s H as us vs Q E gd room => g.go A fr s H as us vs Q E gd (room.mono h)⟩
end
section
variable {X : Cx} {k : Nat} {f : Addr} {fd : FuncData} {ps : List Str} {sp : Sp} {x : Str} {p pos : Pos} {e : Expr} {es : List Expr} {t : TA}
theorem g_runs {pins : List (Addr × Obj)} {σ : L2.St} {H : Hp} {s : Shared} {Q : VK} {us : List Value} {vs : List V} (g : FnG X.prog X.w X.K X.mg X.base k f fd ps sp) (gd : X.A.guards = some []) (room : Room k X.A) (bi : Binds X.K fd ps [])
    (I : Inv X pins σ H s) (rv : Vals vs us) (hs : sp vs H Q E0) : wpAny (model X.prog X.w) X.A (call (.ref f) us) (EP X pins σ Q) X.xe s := by
  have n1 : us.length = ps.length := by
    have := g.ln _ _ _ _ hs
    rw [rv.length] at this
    exact this
  have b1 := bi s us I.kIn (by rw [List.append_nil]; exact n1)
  rw [List.append_nil] at b1
  have c1 := g.go X.A X.stack s H ⟨us, []⟩ us vs Q E0 gd room I.env0 b1 rv hs
  refine wpAny_call (codeAny_mono c1 ?_)
  intro res s2 hres
  match res, hres with
  | .ok (.ret u), hres => exact I.after hres
  | .ok .next, hres => exact hres.elim
  | .ok .brk, hres => exact hres.elim
  | .ok .cont, hres => exact hres.elim
  | .error _, hres => exact hres.elim
theorem g_call (g : FnG X.prog X.w X.K X.mg X.base k f fd ps sp) (gd : X.A.guards = some []) (room : Room k X.A) (gl : Gl X x) (hm : X.mg x = some (.ref f)) (hk : PySem.W.keepIn X.K (.ref f) = true) (bi : Binds X.K fd ps [])
    (ha : PA X (e :: es) t) (hdb : (x == ("__debug__" : Str)) = false) (he : starEach (e :: es) X.env = (false, eval e X.env) :: starEach es X.env) (hpl : (backTo pos (starEach es X.env)).any (·.1) = false) :
    PE X (.Call (.Name x p) (e :: es) [] pos) (tCall sp [] E0 t) := by
  constructor
  intro pins s σ H Q I ht
  apply wpAny_Call_Name_kw
  apply ld_glob I gl hm _ hdb
  have a1 := ha.run pos pins s σ H _ I ht
  refine PySem.W.callWith_K (h₀ := X.base) I.ok.mod.kin hk (thn a1 ?_) he hpl
  rintro us s1 ⟨vs, H1, J, rv, q⟩
  rw [List.append_nil] at q
  exact ⟨J.kIn, g_runs g gd room bi J rv q⟩
theorem g_call0 (g : FnG X.prog X.w X.K X.mg X.base k f fd ps sp) (gd : X.A.guards = some []) (room : Room k X.A) (gl : Gl X x) (hm : X.mg x = some (.ref f)) (hk : PySem.W.keepIn X.K (.ref f) = true) (bi : Binds X.K fd ps [])
    (hdb : (x == ("__debug__" : Str)) = false) : PE X (.Call (.Name x p) [] [] pos) (tCall sp [] E0 tNil) := by
  constructor
  intro pins s σ H Q I ht
  apply wpAny_Call_Name_kw
  apply ld_glob I gl hm _ hdb
  exact PySem.W.callWith_K0 I.kIn hk (g_runs (us := []) g gd room bi I .nil ht)
end
/-- a def by its body, called where nothing is being shown -/
theorem g_def {P : Program} {w : World} {K : PySem.W.Frag} {mg : Str → Option Value} {base : Heap} {k : Nat} {f : Addr} {nm ql : Str} {pr : Arguments} {bd : List Stmt} {sc : Scope} {dV kV doc pm cdv ct oc : Value} {an od : Option Addr}
    {osl : Array (Option Value)} {N ps : List Str} {sp : Sp} (lk : K.lookup f = some ⟨oc, od, .func (PySem.W.fnOf nm ql pr bd sc dV kV doc pm an cdv ct), osl⟩) (cd : PySem.W.codeIn K cdv ql = true) (S : FnScope N ps sc)
    (ln : ∀ vs H Q E, sp vs H Q E → vs.length = ps.length)
    (hb : ∀ (A : Around) (fr : List PySem.Env) (s : Shared) (H : Hp) (vs : List V) (Q : VK) (E : XK), A.guards = some [] → Room k (A.deeper (envOfC ql sc s.heap.objs.size f cdv)) → sp vs H Q E →
      ∃ t, PSs (cxOf CX0 P w K mg base N ql sc f cdv A fr s H E) bd t ∧ t { nx := fun _ H' => Q .non H', rt := Q } (L2.start N vs) H) :
    FnG P w K mg base (k + 1) f (PySem.W.fnOf nm ql pr bd sc dV kV doc pm an cdv ct) ps sp := by
  constructor
  · exact ln
  intro A fr s H as us vs Q E gd room e0 bt rv hs
  have n1 := ln _ _ _ _ hs
  have keep : ∀ b o, base.get? b = some o → s.heap.get? b = some o := fun b o z => (e0.bs b o z).1
  have kin : K.In s.heap := e0.mod.kin.keeps keep
  have nol : s.heap.NoLimit := e0.mod.nolimit.keeps keep
  have kinds : ∀ y ∈ ps.zip us, sc.names.lookup y.1 = some .local ∨ (sc.names.lookup y.1 = some .cell ∧ ((cellsFrom (s.heap.objs.size + 1) sc.names []).lookup y.1).isSome = true) := by
    rintro ⟨y, v⟩ hy
    have hm := (List.of_mem_zip hy).1
    cases S.par y hm with
    | inl z => exact .inl z
    | inr z => exact .inr ⟨z, PySem.W.cellsFrom_some _ _ _ (.inl z)⟩
  apply codeAny_call_function room.depth (kin _ _ lk) rfl S.co S.gen rfl (PySem.W.codeRec_of kin cd)
  apply bt
  apply wpAny_newFunctionEnv_cells S.kind kinds
  rintro en rfl s1 ic
  refine ⟨nol.keeps ic.toInCall.keep, codeAny_func ?_⟩
  obtain ⟨t, pt, q⟩ := hb A fr s H vs Q E gd (room.deeper _) hs
  have J : Inv (cxOf CX0 P w K mg base N ql sc f cdv A fr s H E) [] (L2.start N vs) H s1 := inv_start S room.hd e0 n1 rv ic
  refine wpAny_mono (pt.run [] s1 _ H _ J q) ?_ (fun _ _ z => z)
  intro fl s2 z
  match fl, z with
  | .ret u, ⟨v, σ2, H2, J2, r2, q2⟩ => exact ⟨v, H2, J2.os, J2.bare, J2.base, J2.hok, r2, q2⟩
  | .next, ⟨σ2, H2, J2, q2⟩ => exact ⟨V.non, H2, J2.os, J2.bare, J2.base, J2.hok, rfl, q2⟩
  | .brk, ⟨_, _, _, q2⟩ => exact q2.elim
  | .cont, ⟨_, _, _, q2⟩ => exact q2.elim
/-- the law's call, from its promise -/
theorem g_law {P : Program} {w : World} {K : PySem.W.Frag} {mg mb : Str → Option Value} {k : Nat} {fa a : Addr} {fd : FuncData} {x : Str} {sp : Sp} {s : Shared} {its : List Value} {ns : List Int}
    (kin : K.In s.heap) (nm : s.heap.Ns mainGlobals mg) (nb : s.heap.Ns builtinsNs mb) (bb : ∀ x : Str, x ≠ "__name__" → mb x = bootBuiltins x) (nol : s.heap.NoLimit) (gn : s.gens = #[])
    (oa : s.heap.get? a = some { cls := .type "list", data := .seq its.toArray }) (ia : IntsAre its ns) (len : ns.length ≤ sizeLine) (room : Room k callerA)
    (F : ∀ base : Heap, K.In base → base.Ns mainGlobals mg → FnG P w K mg base k fa fd [x] sp) (bi : ∀ (s : Shared) (u : Value), BindsTo s fd ⟨[u], []⟩ [(x, u)])
    (hs : ∀ H : Hp, Only H → SqL K H a (ns.map V.int) → sp [.ref a] H (fun v _ => v = .bl true) fun _ _ _ => False) :
    codeAny (model P w) callerA (.call (.ref fa) ⟨[.ref a], []⟩) (fun r s' => r = .ok (.ret (.bool true)) ∧ OldK s.heap s'.heap ∧ s'.os = s.os ∧ AllBare s'.gens) s := by
  have ri := vals_ints ia
  have li := ia.length
  have from_H : ∀ H : Hp, Only H → SqL K H a (ns.map V.int) → HOk P w H s.heap → (∀ b, b ≠ a → H b = none) → (K.lookup a = none ∨ H a = none) →
      codeAny (model P w) callerA (.call (.ref fa) ⟨[.ref a], []⟩) (fun r s' => r = .ok (.ret (.bool true)) ∧ OldK s.heap s'.heap ∧ s'.os = s.os ∧ AllBare s'.gens) s := by
    intro H only sq hok off ka
    have seen : ∀ {b : Addr} {o : Obj}, s.heap.get? b = some o → H b = none → (hidT s.heap H).get? b = some o := fun h n => hidT_get h n
    have nsd : ∀ {b : Addr} {m : Str → Option Value}, s.heap.Ns b m → (hidT s.heap H).Ns b m := by
      rintro b m ⟨o, en, ep, h1, h2, h3⟩
      refine ⟨o, en, ep, seen h1 ?_, h2, h3⟩
      by_cases z : b = a
      · exfalso
        rw [z, oa] at h1
        cases h1
        cases (show Data.seq its.toArray _ = Data.dict en ep from h2)
      · exact off b z
    have kb : K.In (hidT s.heap H) := by
      intro b o h1
      refine seen (kin b o h1) ?_
      by_cases z : b = a
      · rw [z] at h1 ⊢
        rcases ka with h | h
        · rw [h] at h1; cases h1
        · exact h
      · exact off b z
    have lim : (hidT s.heap H).NoLimit := by
      obtain ⟨mc, h1, h2⟩ := nol
      exact ⟨mc, nsd h1, h2⟩
    have md : Mod K mg (hidT s.heap H) := ⟨kb, nsd nm, ⟨mb, nsd nb, bb⟩, lim⟩
    have e0 : Env0 P w K mg (hidT s.heap H) callerA [] s H :=
      ⟨rfl, md, fun b o h => of_hidT h, Nat.le_of_eq (hidT_size _ _), trivial, fun b h => absurd (show b ∈ ([] : List Addr) from h) List.not_mem_nil, hok, .of_eq gn⟩
    have run := (F _ kb (nsd nm)).go callerA [] s H ⟨[.ref a], []⟩ [.ref a] [.ref a] _ _ rfl room e0 (bi s (.ref a)) (.cons rfl .nil) (hs H only sq)
    refine codeAny_mono run ?_
    intro r s2 z
    match r, z with
    | .error _, z => exact z.elim
    | .ok .next, z => exact z.elim
    | .ok .brk, z => exact z.elim
    | .ok .cont, z => exact z.elim
    | .ok (.ret u), ⟨v, H2, os, bare, un, hok2, rv, hv⟩ =>
      have hv : v = .bl true := hv
      subst hv
      have hu : u = Value.bool true := rv
      subst hu
      refine ⟨rfl, OldK.of_keep ?_, os, bare⟩
      intro b o h1
      rcases only b with z | ⟨ob, xs, z⟩
      · exact un.keep b o h1 z (fun y => by cases (show b ∈ ([] : List Addr) from y)) (fun y => by cases y)
      · obtain ⟨y1, _⟩ := hok b _ z
        obtain ⟨y2, _⟩ := hok2 b _ (un.frzs b ob _ z)
        rw [h1] at y1
        cases y1
        exact y2
  by_cases hk : K.lookup a = none
  · let H : Hp := fun b => if b = a then some (.frz { cls := .type "list", data := .seq its.toArray } (.lst (ns.map V.int))) else none
    have Ha : H a = some (.frz { cls := .type "list", data := .seq its.toArray } (.lst (ns.map V.int))) := if_pos rfl
    have Hn : ∀ b, b ≠ a → H b = none := fun b z => if_neg z
    refine from_H H ?_ (.inl (.inr ⟨_, Ha⟩)) ?_ Hn (.inl hk)
    · intro b
      by_cases z : b = a
      · exact .inr ⟨_, _, by rw [z]; exact Ha⟩
      · exact .inl (Hn b z)
    · intro b u hu
      by_cases z : b = a
      · subst z
        rw [Ha] at hu
        cases hu
        exact ⟨oa, by rw [List.length_map]; exact len, its, _, ri, oa⟩
      · rw [Hn b z] at hu; cases hu
  · obtain ⟨o, ho⟩ := Option.ne_none_iff_exists'.mp hk
    have h1 := kin a o ho
    rw [oa] at h1
    cases h1
    refine from_H (fun _ => none) (fun _ => .inl rfl) (.inr ⟨_, its.toArray, _, ho, rfl, rfl, rfl, ?_, by simpa using ri⟩) (fun b u z => by cases (show (none : Option HO) = some u from z)) (fun _ _ => rfl) (.inr rfl)
    rw [List.size_toArray, li]
    exact len
/-- the goal that k_head leaves -/
theorem g_walk {l : PySem.W.OpenLaw} {n k : Nat} {q : Program} {loose : List Str} {XP : (Str → Option Value) → Heap → Prop} {YP : World → Heap → Prop} {d : DefRec} {K : Params → PySem.W.Frag} {sp : World → Sp} {x : Str}
    (hn : l.most = some n) (hn2 : n ≤ sizeLine) (hdf : d.params.defaults = []) (room : Room k callerA) (kin : ∀ (w : World) (h : Heap), YP w h → (K w.params).In h)
    (F : ∀ (w : World) (mg : Str → Option Value) (fa : Addr) (h : Heap), (K w.params).In h → h.Ns mainGlobals mg → mg d.name = some (.ref fa) →
      ∃ fd : FuncData, (∀ (s : Shared) (u : Value), BindsTo s fd ⟨[u], []⟩ [(x, u)]) ∧ ∀ base : Heap, (K w.params).In base → base.Ns mainGlobals mg → FnG l.prog w (K w.params) mg base k fa fd [x] (sp w))
    (hs : ∀ (w : World) (H : Hp) (a : Addr) (ns : List Int), ns.length ≤ n → Only H → SqL (K w.params) H a (ns.map V.int) → sp w [.ref a] H (fun v _ => v = .bl true) fun _ _ _ => False) :
    PySem.W.WalkO q loose XP YP l.row.toRowW d [] (fun f vs => PySem.call f vs) := by
  apply Att.attach_call hn hdf
  intro w s₀ s mg mb fa o pm cd doc a its ns G Y _ _ _ hmg oa ia len gn
  obtain ⟨fd, bi, hF⟩ := F w mg fa _ (kin w _ Y) G.T.g hmg
  exact g_law (kin w _ Y) G.T.g G.T.b G.T.builtins G.T.nolimit gn oa ia (Nat.le_trans len hn2) room hF bi fun H => hs w H a ns len
end Mp
namespace Mp
open PySem PySem.Spec PyProof.Rows L2

section
variable {X : Cx} {K : PySem.W.Frag} {H : Hp} {L : Sto}
theorem b_len : BiOk X (.builtin "len") gLen := by
  refine ⟨_, call_len.or call_lenD, ?_⟩
  intro xs vs H L R Q rx rh h k
  unfold gLen at h
  split at h
  · obtain ⟨v, rfl, p, ws, rfl, t, r⟩ := rx.one
    exact .inl ⟨_, _, rfl, .inr ⟨ws, t.sq, rfl⟩, by rw [← r.length]; exact k.here rh h rfl⟩
  · obtain ⟨v, rfl, rv⟩ := rx.one
    cases (show _ = _ from rv)
    split at h
    · rename_i ys e
      obtain ⟨ws, h1, r⟩ := rh.lst e
      exact .inl ⟨_, _, rfl, .inl ⟨ws, .inl (.inl h1), rfl⟩, by rw [← r.length]; exact k.here rh h rfl⟩
    · rename_i ys e
      obtain ⟨ws, h1, r⟩ := rh.dct e
      have len : ∀ {a : List (Key × PV)} {b : List (Key × V)}, RepKs X.K H a b → a.length = b.length := fun {a} => by
        induction a with
        | nil => intro b q; cases (show _ = _ from q); rfl
        | cons p a ih => intro b q; obtain ⟨v, r', rfl, _, q⟩ := q; rw [List.length_cons, List.length_cons, ih q]
      exact .inr ⟨_, ws, rfl, h1, by rw [← len r]; exact k.here rh h rfl⟩
    · exact h.elim
  · obtain ⟨v, rfl, rv⟩ := rx.one
    obtain ⟨a, rfl, hq⟩ := fz_sq rv
    refine .inl ⟨_, _, rfl, .inl ⟨_, hq, rfl⟩, ?_⟩
    rw [List.length_map]
    exact k.here rh h rfl
  · obtain ⟨v, rfl, rv⟩ := rx.one
    cases (show _ = _ from rv)
    exact .inl ⟨_, _, rfl, ⟨h.1, rfl⟩, k.here rh h.2 rfl⟩
  · exact h.elim
theorem b_abs : BiOk X (.builtin "abs") gAbs := by
  refine ⟨_, call_abs, ?_⟩
  intro xs vs H L R Q rx rh h k
  unfold gAbs at h
  split at h
  · rename_i i
    obtain ⟨v, rfl, rv⟩ := rx.one
    cases (show _ = _ from rv)
    refine ⟨i, rfl, ?_⟩
    rw [show (if i < 0 then -i else i) = (i.natAbs : Int) by split <;> omega]
    exact k.here rh h rfl
  · exact h.elim
theorem b_min (hc : X.calm = true) : BiOk X (.builtin "min") gMin := by
  refine ⟨_, (call_min2 hc).or (cr_min hc), ?_⟩
  intro xs vs H L R Q rx rh h k
  unfold gMin at h
  split at h
  · rename_i i j
    obtain ⟨v, w, rfl, rv, rw'⟩ := rx.two
    cases (show _ = _ from rv)
    cases (show _ = _ from rw')
    refine .inl ⟨i, j, rfl, ?_⟩
    rw [show (if j < i then j else i) = min i j by rw [Int.min_def]; split <;> split <;> omega]
    exact k.here rh h rfl
  · obtain ⟨v, rfl, rv⟩ := rx.one
    cases (show _ = _ from rv)
    obtain ⟨ns, e, h0, h1⟩ := h
    obtain ⟨ws, h2, r⟩ := rh.lst e
    have := r.ints
    subst this
    exact .inr ⟨_, ns, rfl, .inl (.inl h2), h0, fun m hm hl => k.here rh (h1 m hm hl) rfl⟩
  · exact h.elim
theorem b_max (hc : X.calm = true) : BiOk X (.builtin "max") gMax := by
  refine ⟨_, (call_max2 hc).or (cr_max hc), ?_⟩
  intro xs vs H L R Q rx rh h k
  unfold gMax at h
  split at h
  · rename_i i j
    obtain ⟨v, w, rfl, rv, rw'⟩ := rx.two
    cases (show _ = _ from rv)
    cases (show _ = _ from rw')
    refine .inl ⟨i, j, rfl, ?_⟩
    rw [show (if j > i then j else i) = max i j by rw [Int.max_def]; split <;> split <;> omega]
    exact k.here rh h rfl
  · obtain ⟨v, rfl, rv⟩ := rx.one
    cases (show _ = _ from rv)
    obtain ⟨ns, e, h0, h1⟩ := h
    obtain ⟨ws, h2, r⟩ := rh.lst e
    have := r.ints
    subst this
    exact .inr ⟨_, ns, rfl, .inl (.inl h2), h0, fun m hm hl => k.here rh (h1 m hm hl) rfl⟩
  · exact h.elim
theorem call_int_s : CallR X (.type "int") (fun xs H Q => ∃ z n, xs = [.str z] ∧ (PySem.intText? z = some n ∧ z.length ≤ 640) ∧ Q (.int n) H) := by
  intro pins s σ H xs us Q I r h
  obtain ⟨z, n, rfl, ⟨h1, h2⟩, q⟩ := h
  obtain ⟨u, rfl, t, rfl⟩ := vals1 r
  exact PySem.W.KIN.call_text h1 h2 ⟨.int n, H, I.tok _, ⟨_, rfl⟩, q⟩
theorem b_int : BiOk X (.type "int") gInt := by
  refine ⟨_, call_int1.or call_int_s, ?_⟩
  intro xs vs H L R Q rx rh h k
  unfold gInt at h
  split at h
  · obtain ⟨v, rfl, rv⟩ := rx.one
    cases (show _ = _ from rv)
    exact .inl (.inl ⟨_, rfl, k.here rh h rfl⟩)
  · obtain ⟨v, rfl, rv⟩ := rx.one
    cases (show _ = _ from rv)
    exact .inl (.inr ⟨_, rfl, k.here rh h rfl⟩)
  · obtain ⟨v, rfl, rv⟩ := rx.one
    cases (show _ = _ from rv)
    obtain ⟨n, h1, h2, h3⟩ := h
    exact .inr ⟨_, n, rfl, ⟨h1, h2⟩, k.here rh h3 rfl⟩
  · exact h.elim
theorem call_divmodA : CallR X (.builtin "divmod") (fun xs H Q => ∃ i j, xs = [.int i, .int j] ∧ (0 < j ∧ NoPl i j) ∧ ∀ p, H p = none → Q (.ref p) (upd H p (.tup [.int (i / j), .int (i % j)]))) := by
  intro pins s σ H xs us Q I r h
  obtain ⟨i, j, rfl, ⟨h1, h2⟩, q⟩ := h
  obtain ⟨u, w', rfl, ⟨t, rfl⟩, ⟨t', rfl⟩⟩ := vals2 r
  refine divmod_int (by omega) ?_ (.inl h2.ok)
  rw [Int.fdiv_eq_ediv_of_nonneg i (by omega), Int.fmod_eq_emod_of_nonneg i (by omega)]
  have hn : H s.heap.objs.size = none := I.hok.fresh (Nat.le_refl _)
  refine ⟨.ref s.heap.objs.size, _, ?_, rfl, q _ hn⟩
  refine I.laid (fun b o e => Heap.get?_push_of_some _ e) (Nat.le_refl _) ⟨by simp only [List.length_cons, List.length_nil]; rw [sizeLine_eq]; decide, [.int (i / j) s.toks, .int (i % j) (s.toks + 1)], .cons ⟨_, rfl⟩ (.cons ⟨_, rfl⟩ .nil), ?_⟩
  exact ⟨_, Heap.get?_push_size s.heap rfl, rfl, 0, rfl⟩
theorem b_divmod : BiOk X (.builtin "divmod") gDivmod := by
  refine ⟨_, call_divmodA, ?_⟩
  intro xs vs H L R Q rx rh h k
  unfold gDivmod at h
  split at h
  · obtain ⟨v, w, rfl, rv, rw'⟩ := rx.two
    cases (show _ = _ from rv)
    cases (show _ = _ from rw')
    exact ⟨_, _, rfl, ⟨h.1, h.2.1⟩, k.newt rh h.2.2 ⟨_, _, rfl, rfl, _, _, rfl, rfl, rfl⟩⟩
  · exact h.elim
theorem b_list : BiOk X (.type "list") gList := by
  refine ⟨_, call_list_of, ?_⟩
  intro xs vs H L R Q rx rh h k
  unfold gList at h
  split at h
  · obtain ⟨v, rfl, p, ws, rfl, t, r⟩ := rx.one
    exact ⟨p, ws, rfl, .inr t.sq, k.newl rh h r⟩
  · obtain ⟨v, rfl, rv⟩ := rx.one
    cases (show _ = _ from rv)
    split at h
    · rename_i ys e
      obtain ⟨ws, h1, r⟩ := rh.lst e
      exact ⟨_, ws, rfl, .inl (.inl (.inl h1)), k.newl rh h r⟩
    · exact h.elim
  · obtain ⟨v, rfl, rv⟩ := rx.one
    obtain ⟨a, rfl, hq⟩ := fz_sq rv
    exact ⟨a, _, rfl, .inl hq, k.newl rh h RepVs.ofInts⟩
  · exact h.elim
theorem b_tuple : BiOk X (.type "tuple") gTuple := by
  refine ⟨_, call_tuple_of, ?_⟩
  intro xs vs H L R Q rx rh h k
  unfold gTuple at h
  split at h
  · obtain ⟨v, rfl, p, ws, rfl, t, r⟩ := rx.one
    exact ⟨p, ws, rfl, .inr ⟨t.sq, k.here rh h ⟨p, ws, rfl, t, r⟩⟩⟩
  · obtain ⟨v, rfl, rv⟩ := rx.one
    cases (show _ = _ from rv)
    split at h
    · rename_i ys e
      obtain ⟨ws, h1, r⟩ := rh.lst e
      exact ⟨_, ws, rfl, .inl ⟨.inl (.inl h1), k.newt rh h r⟩⟩
    · exact h.elim
  · exact h.elim
theorem b_all (hc : X.calm = true) : BiOk X (.builtin "all") gAll := by
  refine ⟨_, cr_all hc, ?_⟩
  intro xs vs H L R Q rx rh h k
  unfold gAll at h
  split at h
  · obtain ⟨v, rfl, rv⟩ := rx.one
    cases (show _ = _ from rv)
    obtain ⟨bs, e, h1⟩ := h
    obtain ⟨ws, h2, r⟩ := rh.lst e
    have := r.bls
    subst this
    exact ⟨_, bs, rfl, .inl (.inl h2), k.here rh h1 rfl⟩
  · exact h.elim
theorem b_any (hc : X.calm = true) : BiOk X (.builtin "any") gAny := by
  refine ⟨_, cr_any hc, ?_⟩
  intro xs vs H L R Q rx rh h k
  unfold gAny at h
  split at h
  · obtain ⟨v, rfl, rv⟩ := rx.one
    cases (show _ = _ from rv)
    obtain ⟨bs, e, h1⟩ := h
    obtain ⟨ws, h2, r⟩ := rh.lst e
    have := r.bls
    subst this
    exact ⟨_, bs, rfl, .inl (.inl h2), k.here rh h1 rfl⟩
  · exact h.elim
theorem b_sum (hc : X.calm = true) : BiOk X (.builtin "sum") gSum := by
  refine ⟨_, cr_sum hc, ?_⟩
  intro xs vs H L R Q rx rh h k
  unfold gSum at h
  split at h
  · obtain ⟨v, rfl, rv⟩ := rx.one
    cases (show _ = _ from rv)
    obtain ⟨bs, e, h1⟩ := h
    obtain ⟨ws, h2, r⟩ := rh.lst e
    have := r.ints
    subst this
    exact ⟨_, bs, rfl, .inl (.inl h2), k.here rh h1 rfl⟩
  · exact h.elim
theorem RepVs.ofStrs' {K : PySem.W.Frag} {H : Hp} : ∀ {ns : List Str}, RepVs K H (ns.map PV.str) (ns.map V.str)
  | [] => rfl
  | n :: ns => ⟨.str n, _, rfl, rfl, RepVs.ofStrs'⟩
theorem RepVs.ofBls {K : PySem.W.Frag} {H : Hp} : ∀ {ns : List Bool}, RepVs K H (ns.map PV.bl) (ns.map V.bl)
  | [] => rfl
  | n :: ns => ⟨.bl n, _, rfl, rfl, RepVs.ofBls⟩
theorem data_ble (a b : Bool) : PySem.W.dataLe false PyData.bool a b = bLe a b := by cases a <;> cases b <;> decide +kernel
theorem each_bools : ∀ {bs : List Bool} {its : List Value}, Vals (bs.map V.bl) its → PySem.W.EachIs (fun v (b : Bool) => v = .bool b) its bs
  | [], _, r => by cases r; exact .nil
  | b :: bs, _, r => by
    cases r with
    | cons r1 r2 => exact .cons r1 (each_bools r2)
theorem vals_bools : ∀ {bs : List Bool} {its : List Value}, PySem.W.EachIs (fun v (b : Bool) => v = .bool b) its bs → Vals (bs.map V.bl) its
  | [], _, r => by cases r; exact .nil
  | b :: bs, _, r => by
    cases r with
    | cons r1 r2 => exact .cons r1 (vals_bools r2)
theorem cr_sortedB (hu : X.A.units + 2 < cLine) : CallR X (.builtin "sorted") (fun vs H Q => ∃ (a : Addr) (bs : List Bool), vs = [V.ref a] ∧ SqL X.K H a (bs.map V.bl) ∧ bs.length < 64 ∧ bs.Pairwise (fun a b => bLe a b = true) ∧
    ∀ (p : Addr), H p = none → Q (.ref p) (upd H p (.lst (bs.map V.bl)))) := by
  intro pins s σ H vs us Q I r h
  obtain ⟨a, bs, rfl, hs, h64, hp, q⟩ := h
  obtain ⟨its, rv, hl, _⟩ := I.list hs
  rw [Vals.ref1 r]
  have e := each_bools rv
  have hL : bs.length ≤ sizeLine := small64 h64
  refine PySem.W.sorted_data (enc := PyData.bool) hl.isList e (e.mono fun v b h => ⟨[], by rw [h]; exact .bool b⟩) (.of fun _ _ => rfl) (.others fun b => ⟨by simp, by simp⟩) hL (fun b _ => by show _ + 2 + 0 < _; omega) fun out ho he => ?_
  obtain ⟨ep, he'⟩ := PyProof.Rows.sortedAll_at s.heap its (List.toArray out)
  have hm : bs.mergeSort (PySem.W.dataLe false PyData.bool) = bs := List.mergeSort_of_pairwise (hp.imp fun h => by rw [data_ble]; exact h)
  rw [hm] at he
  have hlen : (bs.map V.bl).length ≤ sizeLine := by rw [List.length_map]; exact hL
  exact ⟨.ref _, upd H (s.heap.objs.size + 1) (.lst (bs.map V.bl)), I.laid (t' := s.toks) (fun _ _ => PyProof.Rows.sortedAll_old) (Nat.le_succ _) ⟨hlen, (List.toArray out).toList, ep, by rw [List.toList_toArray]; exact vals_bools he, he'⟩, rfl, q _ (I.hok.fresh (Nat.le_succ _))⟩
theorem b_sorted (hu : X.A.units + 65 < cLine) : BiOk X (.builtin "sorted") gSorted := by
  refine ⟨_, CallR.or cr_sorted (CallR.or cr_sortedS (cr_sortedB (by omega))), ?_⟩
  intro xs vs H L R Q rx rh h k
  unfold gSorted at h
  split at h
  · obtain ⟨v, rfl, rv⟩ := rx.one
    cases (show _ = _ from rv)
    rcases h with ⟨ns, e, h0, h1⟩ | ⟨ns, e, h0, h1⟩ | ⟨ns, e, h0, h1, h2⟩
    · obtain ⟨ws, h2, r⟩ := rh.lst e
      have := r.ints
      subst this
      exact .inl ⟨_, ns, rfl, .inl (.inl h2), h0, fun ns' p hp hs hn => k.newl rh (h1 ns' hp hs) RepVs.ofInts p hn⟩
    · obtain ⟨ws, h2, r⟩ := rh.lst e
      have := r.strs
      subst this
      exact .inr (.inl ⟨_, ns, rfl, .inl (.inl h2), h0, fun ns' p hp hs hn => k.newl rh (h1 ns' hp hs) RepVs.ofStrs' p hn⟩)
    · obtain ⟨ws, h3, r⟩ := rh.lst e
      have := r.bls
      subst this
      exact .inr (.inr ⟨_, ns, rfl, .inl (.inl h3), h0, h1, fun p hn => k.newl rh h2 RepVs.ofBls p hn⟩)
  · exact h.elim
theorem str_of_tup {prog : Program} {w : World} {A : Around} {E : Value → Shared → Prop} {s : Shared} {a : Addr} {o : Obj} {items : Array Value} {n : Nat} {ts : List Str} {Q : Value → Shared → Prop} (hu : A.units + 8 < cLine) (ha : s.heap.get? a = some o) (hc : o.cls = .type "tuple") (hd : o.data = .seq items n)
    (hT : ∀ (prog : Program) (w : World), ReprAll prog w items.toList ts) (hsz : (tupleText ts).length + 5 ≤ sizeLine) (h : ∀ (m : Str) (u tk : Tok), Q (.str m u) { s with toks := tk }) : wpAny (model prog w) A (call (.type "str") [.ref a]) Q E s :=
  callType_new F.called_str (by decide) (F.typeCall_str_1 _) (F.newCall_str_1 _) (fun obj => F.args_object_init_2 obj _) F.entry_str_new
    (meets_str_new (S := fun A R s => A.units + 4 < cLine ∧ s.heap.get? a = some o ∧ ∀ (m : Str) (u tk : Tok), R (.ok (.ret (.str m u))) { s with toks := tk }) fun prog w A R s hq =>
      wpAny_strOf_slot rfl (by show A.units + 1 + 1 < cLine; have := hq.1; omega) ⟨o, hq.2.1, hc⟩ F.slot_tuple_str F.slot_tuple_repr
        (fmt_tuple_repr (s := s) hq.2.1 hc hd (hT _ _) (by omega) fun m u tk hm => ⟨m, u, rfl, hq.2.2 m u tk⟩))
    ⟨by show _ + 4 < cLine; first | (show A.units + 4 < cLine; omega) | (show A.units + 1 + 4 < cLine; omega) | (show A.units + 1 + 1 + 4 < cLine; omega), ha, fun m u tk => ⟨typeIs_str _ _ _, h m u tk⟩⟩
theorem ints_repr {prog : Program} {w : World} : ∀ {ns : List Int} {its : List Value}, Vals (ns.map V.int) its → (∀ i ∈ ns, i.natAbs.log2 < 1920) → ReprAll prog w its (ns.map fun i => Str.ofString (toString i))
  | [], _, r, _ => by cases r; exact .nil
  | i :: ns, _, r, h => by
    cases r with
    | cons r1 r2 =>
      obtain ⟨t, rfl⟩ := r1
      exact .cons (ReprIs.int t (h i List.mem_cons_self)) (ints_repr r2 fun z hz => h z (List.mem_cons_of_mem _ hz))
theorem ints_piled : ∀ (ns : List Int), (∀ i ∈ ns, i.natAbs < 100000) → piled (ns.map fun i => Str.ofString (toString i)) ≤ ns.length * 100010
  | [], _ => Nat.zero_le _
  | i :: ns, h => by
    have h1 := PyProof.Rows.len_str_of_int i
    have h2 := h i List.mem_cons_self
    have h3 := ints_piled ns fun z hz => h z (List.mem_cons_of_mem _ hz)
    rw [List.map_cons, piled_cons, List.length_cons, Nat.succ_mul]
    omega
theorem log_small {i : Int} (h : i.natAbs < 100000) : i.natAbs.log2 < 1920 := by
  by_cases h0 : i.natAbs = 0
  · rw [h0]; decide
  · exact (Nat.log2_lt h0).mpr (Nat.lt_trans h (Nat.lt_trans (show 100000 < 2 ^ 20 by decide) (Nat.pow_lt_pow_right (by decide) (by decide))))
theorem call_str_tup {X : Cx} (hu : X.A.units + 64 < cLine) : CallR X (.type "str") (fun xs H Q => ∃ (a : Addr) (ns : List Int), xs = [.ref a] ∧ SqT X.K H a (ns.map V.int) ∧ (∀ i ∈ ns, i.natAbs < 100000) ∧ ns.length ≤ 100 ∧ ∀ m, Q (.str m) H) := by
  intro pins s σ H xs us Q I r h
  obtain ⟨a, ns, rfl, hs, hb, hl, q⟩ := h
  obtain ⟨u, rfl, r1⟩ := vals1 r
  cases r1
  obtain ⟨its, rv, ⟨o, ho, hcl, n, hd⟩, _⟩ := I.tuple hs
  have hp := ints_piled ns hb
  have htx := fmt_text (ns.map fun i => Str.ofString (toString i))
  refine str_of_tup (ts := ns.map fun i => Str.ofString (toString i)) (by omega) ho hcl hd (fun _ _ => ints_repr rv fun i hi => log_small (hb i hi)) ?_ fun m u tk => ⟨.str m, H, I.tok _, ⟨u, rfl⟩, q m⟩
  show _ ≤ 16777216
  omega
theorem call_str_data {X : Cx} (hu : X.A.units + 64 < cLine) (gd : X.A.guards = some []) : CallR X (.type "str") (fun xs H Q => ∃ (a : Addr) (d : PyData), xs = [.ref a] ∧ Dp X.K H (.ref a) d ∧ d.showable = true ∧ d.hasDict = false ∧ d.depth ≤ 40 ∧ d.shown.length ≤ sizeLine ∧ Q (.str d.shown) H) := by
  intro pins s σ H xs us Q I r h
  obtain ⟨a, d, rfl, hd, h1, h2, h3, h4, q⟩ := h
  obtain ⟨u, rfl, r1⟩ := vals1 r
  obtain ⟨as, rd⟩ := Dp.reads I d _ _ hd r1
  cases r1
  exact PySem.str_of_reads rd h1 (fun e => by rw [h2] at e; cases e) gd (by omega) (fun _ _ e => e) (fun h' u tk hk => ⟨.str d.shown, H, I.kept hk, ⟨u, rfl⟩, q⟩) h4
theorem call_str_non {X : Cx} : CallR X (.type "str") (fun xs H Q => xs = [.non] ∧ Q (.str "None") H) := by
  intro pins s σ H xs us Q I r h
  obtain ⟨rfl, q⟩ := h
  obtain ⟨u, rfl, r1⟩ := vals1 r
  cases r1
  exact PySem.P.str_of_none ⟨.str "None", H, I.tok _, ⟨_, rfl⟩, q⟩
theorem call_str_bl {X : Cx} : CallR X (.type "str") (fun xs H Q => ∃ b, xs = [.bl b] ∧ Q (.str (if b then "True" else "False")) H) := by
  intro pins s σ H xs us Q I r h
  obtain ⟨b, rfl, q⟩ := h
  obtain ⟨u, rfl, r1⟩ := vals1 r
  cases r1
  exact PySem.P.str_of_bool ⟨.str _, H, I.tok _, ⟨_, rfl⟩, q⟩
theorem call_str_sx {X : Cx} : CallR X (.type "str") (fun xs H Q => ∃ a, xs = [.str a] ∧ Q (.str a) H) := by
  intro pins s σ H xs us Q I r h
  obtain ⟨a, rfl, q⟩ := h
  obtain ⟨u, rfl, t, rfl⟩ := vals1 r
  exact PySem.P.str_of_str ⟨.str a, H, I, ⟨t, rfl⟩, q⟩
theorem b_str (hu : X.A.units + 65 < cLine) (gd : X.A.guards = some []) : BiOk X (.type "str") gStr := by
  refine ⟨_, ((call_str_int.or (call_str_tup (by omega))).or (call_str_data (by omega) gd)).or (call_str_non.or (call_str_bl.or call_str_sx)), ?_⟩
  intro xs vs H L R Q rx rh h k
  unfold gStr at h
  split at h
  · obtain ⟨v, rfl, rv⟩ := rx.one
    cases (show _ = _ from rv)
    exact .inl (.inl (.inl ⟨_, rfl, h.1, k.here rh h.2 rfl⟩))
  · obtain ⟨v, rfl, rv⟩ := rx.one
    rcases h with ⟨ns, rfl, h1, h2, h3⟩ | ⟨d, h1, h2, h3, h4, h5, h6⟩
    · obtain ⟨a, ws, rfl, t, r⟩ := rv
      rw [RepVs.ints r] at t
      exact .inl (.inl (.inr ⟨a, ns, rfl, t.sq, h1, h2, fun m => k.here rh (h3 m) rfl⟩))
    · have hd := h1.dp rh rv
      obtain ⟨a, ws, rfl, t, r⟩ := rv
      exact .inl (.inr ⟨a, d, rfl, hd, h2, h3, h4, h5, k.here rh h6 rfl⟩)
  · obtain ⟨v, rfl, rv⟩ := rx.one
    cases (show _ = _ from rv)
    exact .inr (.inl ⟨rfl, k.here rh h rfl⟩)
  · obtain ⟨v, rfl, rv⟩ := rx.one
    cases (show _ = _ from rv)
    exact .inr (.inr (.inl ⟨_, rfl, k.here rh h rfl⟩))
  · obtain ⟨v, rfl, rv⟩ := rx.one
    cases (show _ = _ from rv)
    exact .inr (.inr (.inr ⟨_, rfl, k.here rh h rfl⟩))
  · obtain ⟨v, rfl, rv⟩ := rx.one
    obtain ⟨d, h1, h2, h3, h4, h5, h6⟩ := h
    have hd := h1.dp rh rv
    cases (show _ = _ from rv)
    exact .inl (.inr ⟨_, d, rfl, hd, h2, h3, h4, h5, k.here rh h6 rfl⟩)
  · exact h.elim
theorem tup_ty {a : Addr} {vs : List V} (h : TupAt K H a vs) : TyX K H (.ref a) (.type "tuple") := by
  rcases h with h | (h | ⟨o, h⟩) | ⟨o, its, n, h1, h2, _⟩
  · exact .base (.tup h)
  · cases h
  · cases h
  · exact .kTuple h1 h2
theorem fz_ty {ns : List Int} {v : V} (h : RepV K H (.fz ns) v) : TyX K H v (.type "list") := by
  obtain ⟨a, rfl, h⟩ := h
  rcases h with ⟨o, h⟩ | (h | ⟨o, h⟩) | ⟨o, its, n, h1, h2, _⟩
  · exact .base (.frz h)
  · cases h
  · cases h
  · exact .kList h1 h2
theorem ty_of (rh : RepH K H L) {x : PV} {v : V} (r : RepV K H x v) {c : String} {b : Bool} (h : isiB (tyName x L) c = some b) : TyX K H v (.type (tyName x L)) := by
  cases x with
  | non => cases (show _ = _ from r); exact .base .non
  | bl => cases (show _ = _ from r); exact .base (.bl _)
  | int => cases (show _ = _ from r); exact .base (.int _)
  | str => cases (show _ = _ from r); exact .base (.str _)
  | tup => obtain ⟨a, vs, rfl, t, _⟩ := r; exact tup_ty t
  | fz => exact fz_ty r
  | ref a =>
    cases (show _ = _ from r)
    cases e : L a with
    | none => simp [tyName, e, isiB] at h
    | some o =>
      cases o with
      | l xs =>
        obtain ⟨ws, h1, _⟩ := rh.lst e
        simp only [tyName, e]
        exact .base (.lst h1)
      | d xs =>
        obtain ⟨ws, h1, _⟩ := rh.dct e
        simp only [tyName, e]
        exact .base (.dK h1)
  | ty => simp [tyName, isiB] at h
theorem isiB_ok : ∀ {t c : String} {b : Bool}, isiB t c = some b → kitB t c = some b := by
  intro t c b h
  unfold isiB at h
  split at h <;> first | (cases h; decide +kernel) | cases h
theorem isiBs_ok {t : String} : ∀ {cs : List PV} {vs : List V} {b : Bool}, RepVs K H cs vs → isiBs t cs = some b → (cs ≠ [] → ∃ c b', isiB t c = some b') ∧ ∃ us, Paired ClsV vs us ∧ PySem.W.kitAny K (.type t) us = some b
  | [], _, _, h, e => by
    cases (show _ = _ from h)
    cases e
    exact ⟨fun z => absurd rfl z, [], .nil, kitAny_nil⟩
  | c :: r, _, b, ⟨w, ws, h1, h2, h3⟩, h => by
    subst h1
    cases c <;> first | (cases h; done) | skip
    rename_i c
    cases (show _ = _ from h2)
    unfold isiBs at h
    split at h
    · rename_i x y e1 e2
      cases h
      obtain ⟨_, us, q2, q3⟩ := isiBs_ok h3 e2
      refine ⟨fun _ => ⟨c, x, e1⟩, _, .cons (.ty c) q2, kitAny_cons (kit_ty (isiB_ok e1)) (fun z => ?_) (fun z => ?_)⟩
      · rw [z, Bool.false_or]; exact q3
      · rw [z]; rfl
    · cases h
theorem b_isi : BiOk X (.builtin "isinstance") gIsi := by
  refine ⟨_, call_isi.or (call_isiT.or call_isiK), ?_⟩
  intro xs vs H L R Q rx rh h k
  unfold gIsi at h
  split at h
  · rename_i x c
    split at h
    · rename_i b e
      obtain ⟨v, w, rfl, rv, rw'⟩ := rx.two
      cases (show _ = _ from rw')
      exact .inl ⟨v, _, _, _, b, rfl, .ty c, ty_of rh rv e, kit_ty (isiB_ok e), k.here rh h rfl⟩
    · exact h.elim
  · rename_i x cs
    obtain ⟨hne, h⟩ := h
    split at h
    · rename_i b e
      obtain ⟨v, w, rfl, rv, a, ws, rfl, t, r⟩ := rx.two
      obtain ⟨q0, us, q1, q2⟩ := isiBs_ok r e
      obtain ⟨c, b', e'⟩ := q0 hne
      rcases t with t | (t | ⟨o, t⟩) | ⟨⟨oc, od, dt, sl⟩, its, n, t1, t2, t3, t4, t5⟩
      · exact .inr (.inl ⟨v, a, ws, _, us, b, rfl, t, q1, ty_of rh rv e', q2, k.here rh h rfl⟩)
      · cases t
      · cases t
      · simp only at t2 t3
        subst t2 t3
        have e3 := ClsV.all q1 t5
        refine .inr (.inr ⟨v, a, od, us, n, sl, _, b, rfl, ?_, ty_of rh rv e', q2, k.here rh h rfl⟩)
        rw [t1, ← e3]
    · exact h.elim
  · exact h.elim

/-! ### methods of lists -/
abbrev MtF := PV → BiF
def mAppend : MtF := fun x xs L R => match x, xs with
  | .ref a, [y] => ∃ ys, L a = some (.l ys) ∧ ys.length < sizeLine ∧ R .non (put L a (.l (ys ++ [y])))
  | _, _ => False
def mExtend : MtF := fun x xs L R => match x, xs with
  | .ref a, [.ref b] => ∃ ys zs, L a = some (.l ys) ∧ L b = some (.l zs) ∧ ys.length + zs.length ≤ sizeLine ∧ R .non (put L a (.l (ys ++ zs)))
  | _, _ => False
def mPop : MtF := fun x xs L R => match x, xs with
  | .ref a, [] => ∃ ys y, L a = some (.l ys) ∧ ys[ys.length - 1]? = some y ∧ R y (put L a (.l ys.dropLast))
  | .ref a, [.int i] => ∃ ys k y, L a = some (.l ys) ∧ -(2 ^ 63) ≤ i ∧ i < 2 ^ 63 ∧ seqIndex? i ys.length = some k ∧ ys[k]? = some y ∧ R y (put L a (.l (ys.eraseIdx k)))
  | _, _ => False
def mReverse : MtF := fun x xs L R => match x, xs with
  | .ref a, [] => ∃ ys, L a = some (.l ys) ∧ R .non (put L a (.l ys.reverse))
  | _, _ => False
def mClear : MtF := fun x xs L R => match x, xs with
  | .ref a, [] => ∃ ys, L a = some (.l ys) ∧ R .non (put L a (.l []))
  | _, _ => False
def mInsert : MtF := fun x xs L R => match x, xs with
  | .ref a, [.int i, y] => ∃ ys, L a = some (.l ys) ∧ ys.length < sizeLine ∧ 0 ≤ i ∧ i < 2 ^ 63 ∧ R .non (put L a (.l (ys.take i.toNat ++ [y] ++ ys.drop i.toNat)))
  | _, _ => False
def MtS (K : PySem.W.Frag) (g : MtF) (r : V → List V → Hp → VK → Prop) : Prop := ∀ (x : PV) (v : V) (xs : List PV) (vs : List V) (H : Hp) (L : Sto) (R : PK) (Q : VK), RepV K H x v → RepVs K H xs vs → RepH K H L → g x xs L R → Kt K H L R Q → r v vs H Q
theorem Kt.putl {R : PK} {Q : VK} (k : Kt K H L R Q) (rh : RepH K H L) {a : Addr} {xs : List PV} {vs : List V} {u : SO} {x : PV} {v : V} (hp : L a = some u) (h : R x (put L a (.l xs))) (rv : RepVs K H xs vs) (rx : RepV K H x v) : Q v (upd H a (.lst vs)) :=
  k _ _ _ _ h (fm_put hp) (rx.ex (ex_put rh hp)) (reph_put rh hp rv)
theorem s_append : MtS K mAppend rAppend := by
  intro x v xs vs H L R Q rx rxs rh h k
  unfold mAppend at h
  split at h
  · obtain ⟨w, rfl, rw'⟩ := rxs.one
    cases (show _ = _ from rx)
    obtain ⟨ys, e, h1, h2⟩ := h
    obtain ⟨ws, h3, r⟩ := rh.lst e
    exact ⟨_, ws, w, rfl, rfl, h3, by rw [← r.length]; exact h1, k.putl rh e h2 (r.append ⟨w, [], rfl, rw', rfl⟩) rfl⟩
  · exact h.elim
theorem s_extend : MtS K mExtend rExtend := by
  intro x v xs vs H L R Q rx rxs rh h k
  unfold mExtend at h
  split at h
  · obtain ⟨w, rfl, rw'⟩ := rxs.one
    cases (show _ = _ from rx)
    cases (show _ = _ from rw')
    obtain ⟨ys, zs, e, e2, h1, h2⟩ := h
    obtain ⟨ws, h3, r⟩ := rh.lst e
    obtain ⟨us, h4, r2⟩ := rh.lst e2
    exact ⟨_, _, ws, us, rfl, rfl, h3, h4, by rw [← r.length, ← r2.length]; exact h1, k.putl rh e h2 (r.append r2) rfl⟩
  · exact h.elim
theorem s_pop : MtS K mPop (fun x vs H Q => rPop x vs H Q ∨ rPopAt x vs H Q) := by
  intro x v xs vs H L R Q rx rxs rh h k
  unfold mPop at h
  split at h
  · cases (show _ = _ from rx)
    cases (show _ = _ from rxs)
    obtain ⟨ys, y, e, h1, h2⟩ := h
    obtain ⟨ws, h3, r⟩ := rh.lst e
    rw [r.length] at h1
    obtain ⟨z, h4, h5⟩ := r.get h1
    exact .inl ⟨_, ws, z, rfl, rfl, h3, h4, k.putl rh e h2 r.dropLast h5⟩
  · obtain ⟨w, rfl, rw'⟩ := rxs.one
    cases (show _ = _ from rx)
    cases (show _ = _ from rw')
    obtain ⟨ys, j, y, e, h0, h1, h2, h3, h4⟩ := h
    obtain ⟨ws, h5, r⟩ := rh.lst e
    rw [r.length] at h2
    obtain ⟨z, h6, h7⟩ := r.get h3
    exact .inr ⟨_, ws, _, j, z, rfl, rfl, h5, h0, h1, h2, h6, k.putl rh e h4 (r.eraseIdx j) h7⟩
  · exact h.elim
theorem s_reverse : MtS K mReverse rReverse := by
  intro x v xs vs H L R Q rx rxs rh h k
  unfold mReverse at h
  split at h
  · cases (show _ = _ from rx)
    cases (show _ = _ from rxs)
    obtain ⟨ys, e, h2⟩ := h
    obtain ⟨ws, h3, r⟩ := rh.lst e
    exact ⟨_, ws, rfl, rfl, h3, k.putl rh e h2 r.reverse rfl⟩
  · exact h.elim
theorem s_clear : MtS K mClear rClear := by
  intro x v xs vs H L R Q rx rxs rh h k
  unfold mClear at h
  split at h
  · cases (show _ = _ from rx)
    cases (show _ = _ from rxs)
    obtain ⟨ys, e, h2⟩ := h
    obtain ⟨ws, h3, r⟩ := rh.lst e
    exact ⟨_, ws, rfl, rfl, h3, k.putl rh e h2 (xs := []) rfl rfl⟩
  · exact h.elim
theorem s_insert : MtS K mInsert (fun x vs H Q => ∃ (l : Addr) (xs : List V) (i : Int) (y : V), x = .ref l ∧ vs = [.int i, y] ∧ H l = some (.lst xs) ∧ xs.length < sizeLine ∧ 0 ≤ i ∧ i < 2 ^ 63 ∧ Q .non (upd H l (.lst (xs.take i.toNat ++ [y] ++ xs.drop i.toNat)))) := by
  intro x v xs vs H L R Q rx rxs rh h k
  unfold mInsert at h
  split at h
  · cases (show _ = _ from rx)
    rename_i i y
    obtain ⟨vi, rest, rfl, ri, r2⟩ := rxs
    obtain ⟨vy, rest2, rfl, ry, r3⟩ := r2
    cases (show _ = _ from ri)
    cases (show _ = _ from r3)
    obtain ⟨ys, e, h1, h2, h3, h4⟩ := h
    obtain ⟨ws, h5, r⟩ := rh.lst e
    exact ⟨_, ws, i, vy, rfl, rfl, h5, by rw [← r.length]; exact h1, h2, h3, k.putl rh e h4 (((r.take _).append (ys := [y]) (ws := [vy]) ⟨vy, [], rfl, ry, rfl⟩).append (r.drop _)) rfl⟩
  · exact h.elim
def tyOk (T : String) (x : PV) (L : Sto) : Prop := match x with
  | .ref a => (T = "list" ∧ ∃ ys, L a = some (.l ys)) ∨ (T = "dict" ∧ ∃ ys, L a = some (.d ys))
  | .str _ => T = "str"
  | _ => False
def wMt (T : String) (g : MtF) (o : WE) (ws : List WE) : WE := fun env L R => o env L fun x La => tyOk T x La ∧ wAr ws env La fun xs Lb => g x xs Lb R
theorem tyOk_V {T : String} {x : PV} {v : V} (rh : RepH K H L) (r : RepV K H x v) (h : tyOk T x L) : tyV K T v H := by
  cases x <;> first | exact absurd h (fun z => z) | skip
  · cases (show _ = _ from r)
    exact h
  · cases (show _ = _ from r)
    rcases h with ⟨h1, ys, h2⟩ | ⟨h1, ys, h2⟩
    · obtain ⟨vs, h3, _⟩ := rh.lst h2
      exact .inl ⟨h1, vs, .inl (.inl h3)⟩
    · obtain ⟨vs, h3, _⟩ := rh.dct h2
      exact .inr (.inr (.inl ⟨h1, .inl ⟨vs, h3⟩⟩))
/-- a built-in type's method -/
structure MtOk (X : Cx) (T : String) (name : Str) (g : MtF) : Prop where
  ex : ∃ (id : String) (r : V → List V → Hp → VK → Prop), PlainAttrs T ∧ Slot T name id ∧ typeOf (.builtin id) = pure (.type "method_descriptor") ∧ MtR X id r ∧ MtS X.K g r
variable {pos apos cpos : Pos} {o e : Expr} {es : List Expr} {name : Str} {id T : String} {wo : WE} {ws : List WE}
theorem q_mt {g : MtF} (hm : MtOk X T name g) (ho : PE X o (liftE X.K wo)) (ha : PA X (e :: es) (liftA X.K ws))
    (hbase : attributeBase o name X.env (eval o X.env) = eval o X.env)
    (hfew : ((backTo cpos (starEach (e :: es) X.env)).all (fun x => !x.1) && (backToKw cpos (keywordEach [] X.env)).all (fun x => x.1.isSome)
      && decide ((e :: es).length + ([] : List Keyword).length + (if ([] : List Keyword).isEmpty then 0 else 1) < 30)) = true)
    (hline : (apos.endLine == cpos.line) = true) (hs : starEach (e :: es) X.env = (false, eval e X.env) :: starEach es X.env) (hplain : (backTo cpos (starEach es X.env)).any (·.1) = false) :
    PE X (.Call (.Attribute o name apos) (e :: es) [] cpos) (liftE X.K (wMt T g wo ws)) := by
  obtain ⟨id, r, pa, slot, hty, hr, hg⟩ := hm.ex
  refine (pe_bm pa slot hty hr ho ha hbase hfew hline hs hplain).weak fun σ H Q h => ?_
  obtain ⟨env, L, R, hs, hL, hw, k⟩ := h
  refine ⟨env, L, _, hs, hL, hw, fun x La v H1 hb f1 rx r1 => ⟨tyOk_V r1 rx hb.1, ?_⟩⟩
  refine ⟨env, La, _, hs.ex (f1.ex hL), r1, hb.2, fun xs Lb vs H2 hc hn f2 rxs r2 => ?_⟩
  exact hg x v xs vs H2 Lb R Q (rx.ex (f2.ex r1)) rxs r2 hc (k.fm (f1.trans f2))
theorem q_mt0 {g : MtF} (hm : MtOk X T name g) (ho : PE X o (liftE X.K wo)) (hbase : attributeBase o name X.env (eval o X.env) = eval o X.env) (hline : (apos.endLine == cpos.line) = true) :
    PE X (.Call (.Attribute o name apos) [] [] cpos) (liftE X.K (wMt T g wo [])) := by
  obtain ⟨id, r, pa, slot, hty, hr, hg⟩ := hm.ex
  refine (pe_bm0 pa slot hty hr ho hbase hline).weak fun σ H Q h => ?_
  obtain ⟨env, L, R, hs, hL, hw, k⟩ := h
  refine ⟨env, L, _, hs, hL, hw, fun x La v H1 hb f1 rx r1 => ⟨tyOk_V r1 rx hb.1, ?_⟩⟩
  exact hg x v [] [] H1 La R Q rx rfl r1 hb.2 (k.fm f1)
theorem k_append : MtOk X "list" "append" mAppend := ⟨_, _, PySem.F.plainAttrs_list, PySem.F.slot_list_append, PySem.F.type_list_append, mt_append, s_append⟩
theorem k_extend : MtOk X "list" "extend" mExtend := ⟨_, _, PySem.F.plainAttrs_list, PySem.F.slot_list_extend, PySem.F.type_list_extend, mt_extend, s_extend⟩
theorem k_pop : MtOk X "list" "pop" mPop := ⟨_, _, PySem.F.plainAttrs_list, PySem.F.slot_list_pop, PySem.F.type_list_pop, MtR.or mt_pop mt_popAt, s_pop⟩
theorem k_insert : MtOk X "list" "insert" mInsert := ⟨_, _, PySem.F.plainAttrs_list, PySem.F.slot_list_insert, PySem.F.type_list_insert, mt_insert, s_insert⟩
theorem k_reverse : MtOk X "list" "reverse" mReverse := ⟨_, _, PySem.F.plainAttrs_list, PySem.F.slot_list_reverse, PySem.F.type_list_reverse, mt_reverse, s_reverse⟩
theorem k_clear : MtOk X "list" "clear" mClear := ⟨_, _, PySem.F.plainAttrs_list, PySem.F.slot_list_clear, PySem.F.type_list_clear, mt_clear, s_clear⟩

/-! ### calls of defs -/
abbrev Spec := List PV → Sto → PK → Prop
/-- a def's promise over data -/
def liftSp (K : PySem.W.Frag) (n : Nat) (S : Spec) : Sp := fun vs H Q _ => vs.length = n ∧ ∃ args L R, RepVs K H args vs ∧ RepH K H L ∧ S args L R ∧ Kt K H L R Q
def wCall (S : Spec) (ws : List WE) : WE := fun env L R => wAr ws env L fun xs La => S xs La R
/-- a def of the text that keeps S -/
structure FnIs (P : Program) (w : World) (K : PySem.W.Frag) (mg : Str → Option Value) (base : Heap) (k : Nat) (x : Str) (n : Nat) (S : Spec) : Prop where
  ex : ∃ (f : Addr) (fd : FuncData) (ps : List Str), mg x = some (.ref f) ∧ PySem.W.keepIn K (.ref f) = true ∧ Binds K fd ps [] ∧ FnG P w K mg base k f fd ps (liftSp K n S)
theorem FnIs.mono {P : Program} {w : World} {K : PySem.W.Frag} {mg : Str → Option Value} {base : Heap} {k k' : Nat} {x : Str} {n : Nat} {S : Spec} (h : FnIs P w K mg base k x n S) (hk : k ≤ k') : FnIs P w K mg base k' x n S := by
  obtain ⟨f, fd, ps, h1, h2, h3, h4⟩ := h.ex
  exact ⟨f, fd, ps, h1, h2, h3, h4.up hk⟩
theorem lift_call {S : Spec} {n : Nat} {E : XK} (hn : ws.length = n) {σ : L2.St} {H : Hp} {Q : VK} (h : liftE X.K (wCall S ws) σ H Q) : tCall (liftSp X.K n S) [] E (liftA X.K ws) σ H Q := by
  obtain ⟨env, L, R, hs, hL, hw, k⟩ := h
  refine ⟨env, L, _, hs, hL, hw, fun xs La vs H1 hb hl f1 rx r1 => ?_⟩
  show liftSp X.K n S (vs ++ []) H1 Q E
  rw [List.append_nil]
  exact ⟨by rw [← rx.length, hl, hn], xs, La, R, rx, r1, hb, k.fm f1⟩
theorem q_call {x : Str} {p : Pos} {k n : Nat} {S : Spec} (F : FnIs X.prog X.w X.K X.mg X.base k x n S) (gd : X.A.guards = some []) (hr : Room k X.A) (hg : Gl X x) (hn : ws.length = n) (ha : PA X (e :: es) (liftA X.K ws))
    (hdb : (x == ("__debug__" : Str)) = false) (he : starEach (e :: es) X.env = (false, eval e X.env) :: starEach es X.env) (hpl : (backTo pos (starEach es X.env)).any (·.1) = false) :
    PE X (.Call (.Name x p) (e :: es) [] pos) (liftE X.K (wCall S ws)) := by
  obtain ⟨f, fd, ps, h1, h2, h3, h4⟩ := F.ex
  exact (g_call h4 gd hr hg h1 h2 h3 ha hdb he hpl).weak fun σ H Q h => lift_call hn h
theorem q_call0 {x : Str} {p : Pos} {k : Nat} {S : Spec} (F : FnIs X.prog X.w X.K X.mg X.base k x 0 S) (gd : X.A.guards = some []) (hr : Room k X.A) (hg : Gl X x) (hdb : (x == ("__debug__" : Str)) = false) :
    PE X (.Call (.Name x p) [] [] pos) (liftE X.K (wCall S [])) := by
  obtain ⟨f, fd, ps, h1, h2, h3, h4⟩ := F.ex
  refine (g_call0 h4 gd hr hg h1 h2 h3 hdb).weak fun σ H Q h => ?_
  obtain ⟨env, L, R, hs, hL, hw, k⟩ := h
  exact ⟨rfl, [], L, R, rfl, hL, hw, k⟩
/-- a built-in, by its name -/
theorem q_bi {x : Str} {p : Pos} {g : BiF} (hb : BiOk X (.builtin id) g) (hg : Gl X x) (hm : X.mg x = none) (hv : bootBuiltins x = some (.builtin id)) (ha : PA X (e :: es) (liftA X.K ws)) (hn : x ≠ "__name__") (hdb : (x == ("__debug__" : Str)) = false)
    (he : starEach (e :: es) X.env = (false, eval e X.env) :: starEach es X.env) (hpl : (backTo pos (starEach es X.env)).any (·.1) = false) : PE X (.Call (.Name x p) (e :: es) [] pos) (liftE X.K (wBi g ws)) := by
  obtain ⟨r, h1, h2⟩ := hb
  exact (pe_callB h1 hg hm hv ha hn hdb he hpl).weak fun σ H Q h => lift_bi h2 h
theorem q_ty {x : Str} {p : Pos} {g : BiF} (hb : BiOk X (.type id) g) (hg : Gl X x) (hm : X.mg x = none) (hv : bootBuiltins x = some (.type id)) (ha : PA X (e :: es) (liftA X.K ws)) (hn : x ≠ "__name__") (hdb : (x == ("__debug__" : Str)) = false)
    (he : starEach (e :: es) X.env = (false, eval e X.env) :: starEach es X.env) (hpl : (backTo pos (starEach es X.env)).any (·.1) = false) : PE X (.Call (.Name x p) (e :: es) [] pos) (liftE X.K (wBi g ws)) := by
  obtain ⟨r, h1, h2⟩ := hb
  exact (pe_callTy h1 hg hm hv ha hn hdb he hpl).weak fun σ H Q h => lift_bi h2 h
end
end Mp
namespace Mp
open PySem PySem.Spec PyProof.Rows L2

/-! ### what is walked by enumerate and zip: a list, a tuple, a text -/
inductive Sd where
  | l (a : Nat) | t (a : Nat) | s (x : Str)
def chV (x : Str) : List V := x.cps.toList.map fun c => V.str ⟨#[c]⟩
def Sd.At (K : PySem.W.Frag) (H : Hp) : Sd → List V → Prop
  | .l a, vs => SqL K H a vs
  | .t a, vs => SqT K H a vs
  | .s x, vs => vs = chV x
def Sd.val : Sd → V
  | .l a => .ref a
  | .t a => .ref a
  | .s x => .str x
def Sd.adr : Sd → List Nat
  | .l a => [a]
  | .t a => [a]
  | .s _ => []
/-- the iterator of it, so far on -/
def Sd.con : Sd → Addr → Nat → Heap → Prop
  | .l a, it, i, h => h.IsListIter it a i
  | .t a, it, i, h => h.IsTupleIter it a i
  | .s x, it, i, h => ∃ t, h.IsStrIter it (strIterType x) x t i
theorem Sd.con_at {d : Sd} {it : Addr} {i : Nat} {h h' : Heap} (c : d.con it i h) (k : ∀ o, h.get? it = some o → h'.get? it = some o) : d.con it i h' := by
  cases d with
  | l a => exact c.at fun o e => k o e
  | t a => exact c.at fun o e => k o e
  | s x => obtain ⟨t, o, h1, h2, h3⟩ := c; exact ⟨t, o, k o h1, h2, h3⟩
theorem Sd.con_obj {d : Sd} {it : Addr} {i : Nat} {h : Heap} (c : d.con it i h) : ∃ o, h.get? it = some o ∧ ∀ v, o.data ≠ .cell v := by
  cases d with
  | l a => obtain ⟨o, e, _, d⟩ := c; exact ⟨o, e, fun v q => by rw [d] at q; cases q⟩
  | t a => obtain ⟨o, e, _, d⟩ := c; exact ⟨o, e, fun v q => by rw [d] at q; cases q⟩
  | s x => obtain ⟨t, o, e, _, d⟩ := c; exact ⟨o, e, fun v q => by rw [d] at q; cases q⟩
section
variable {X : Cx} {pins : List (Addr × Obj)} {σ : L2.St} {H : Hp} {s : Shared}
theorem Sd.inj {d : Sd} (I : Inv X pins σ H s) {vs ws : List V} (h : d.At X.K H vs) (k : d.At X.K H ws) : vs = ws := by
  cases d with
  | l a => exact I.list_inj h k
  | t a => exact I.tuple_inj h k
  | s x => exact (show vs = chV x from h).trans (show ws = chV x from k).symm
theorem vals_getV : ∀ {vs : List V} {us : List Value} {i : Nat} {u : Value}, Vals vs us → us[i]? = some u → ∃ v, vs[i]? = some v ∧ RelV v u
  | _, _, _, _, .nil, h => by simp at h
  | _, _, 0, _, .cons r _, h => by
    simp at h
    subst h
    exact ⟨_, rfl, r⟩
  | _, _, i + 1, _, .cons _ r, h => by
    obtain ⟨v, h1, h2⟩ := vals_getV (i := i) r (by simpa using h)
    exact ⟨v, by simpa using h1, h2⟩
/-- the kit's iterator of it, as it stands now -/
structure Dr (X : Cx) (s : Shared) (d : Sd) (it : Addr) (i : Nat) (vs : List V) where
  fp : List Nat
  P : Nat → Value → Prop
  St : Nat → Heap → Prop
  D : Draws X.prog X.w X.A.in1 it fp vs.length P St
  st : St i s.heap
  mem : it ∈ fp
  only : ∀ b ∈ fp, b = it ∨ b ∈ d.adr
  con : ∀ j h, St j h → d.con it j h
  rel : ∀ j u, P j u → ∃ v, vs[j]? = some v ∧ RelV v u
theorem dr_of {d : Sd} {it : Addr} {i : Nat} {vs : List V} (hc : X.calm = true) (I : Inv X pins σ H s) (h : d.At X.K H vs) (c : d.con it i s.heap) (hne : it ∉ d.adr) : Nonempty (Dr X s d it i vs) := by
  have hh : X.A.in1.handled = none := I.ok.hd hc
  cases d with
  | l a =>
    obtain ⟨its, rv, p, _⟩ := I.list h
    have hl : vs.length = its.toArray.size := by rw [rv.length]; simp
    refine ⟨⟨[it, a], fun i v => its.toArray[i]? = some v, fun i h => h.IsListIter it a i ∧ h.IsList a its.toArray, by rw [hl]; exact Draws.list hh it a (fun z => hne (by rw [← z]; exact List.mem_singleton.mpr rfl)) its.toArray, ⟨c, p.isList⟩, by simp, fun b hb => ?_, fun j h st => st.1, fun j u hu => ?_⟩⟩
    · have e : b = it ∨ b = a := by simpa using hb
      exact e.imp id fun z => List.mem_singleton.mpr z
    · have hu : its[j]? = some u := by simpa using hu
      obtain ⟨v, h1, h2⟩ := vals_getV rv hu
      exact ⟨v, h1, h2⟩
  | t a =>
    obtain ⟨its, rv, p, _⟩ := I.tuple h
    have hl : vs.length = its.toArray.size := by rw [rv.length]; simp
    refine ⟨⟨[it, a], fun i v => its.toArray[i]? = some v, fun i h => h.IsTupleIter it a i ∧ h.IsTuple a its.toArray, by rw [hl]; exact Draws.tuple hh it a (fun z => hne (by rw [← z]; exact List.mem_singleton.mpr rfl)) its.toArray, ⟨c, p⟩, by simp, fun b hb => ?_, fun j h st => st.1, fun j u hu => ?_⟩⟩
    · have e : b = it ∨ b = a := by simpa using hb
      exact e.imp id fun z => List.mem_singleton.mpr z
    · have hu : its[j]? = some u := by simpa using hu
      obtain ⟨v, h1, h2⟩ := vals_getV rv hu
      exact ⟨v, h1, h2⟩
  | s x =>
    obtain ⟨t, c⟩ := c
    have h : vs = chV x := h
    have hl : vs.length = x.cps.size := by rw [h]; unfold chV; rw [List.length_map, Array.length_toList]
    refine ⟨⟨_, _, _, by rw [hl]; exact Draws.text hh it x t, c, by simp, fun b hb => ?_, fun j h st => ⟨t, st⟩, fun j u hu => ?_⟩⟩
    · exact .inl (by simpa using hb)
    · obtain ⟨c, w, h1, rfl⟩ := hu
      refine ⟨.str ⟨#[c]⟩, ?_, ⟨w, rfl⟩⟩
      rw [h]
      unfold chV
      rw [List.getElem?_map, Array.getElem?_toList, h1]
      rfl
end
theorem na {a b : Nat} (h : a ≠ b) : @Ne Addr a b := h
def ItE (K : PySem.W.Frag) (d : Sd) : It :=
  ⟨fun i H => ∃ vs, d.At K H vs ∧ i < vs.length, fun i H v H' => ∃ T x, v = .ref T ∧ H T = none ∧ H' = upd H T (.tup [.int (i : Nat), x]) ∧ ∀ vs, d.At K H vs → vs[i]? = some x, fun i H => ∃ vs, d.At K H vs ∧ vs.length = i⟩
def ItZ (K : PySem.W.Frag) (d1 d2 : Sd) : It :=
  ⟨fun i H => ∃ vs ws, d1.At K H vs ∧ d2.At K H ws ∧ i < vs.length ∧ i < ws.length,
   fun i H v H' => ∃ T x y, v = .ref T ∧ H T = none ∧ H' = upd H T (.tup [x, y]) ∧ (∀ vs, d1.At K H vs → vs[i]? = some x) ∧ ∀ vs, d2.At K H vs → vs[i]? = some y,
   fun i H => ∃ vs ws, d1.At K H vs ∧ d2.At K H ws ∧ i ≤ vs.length ∧ i ≤ ws.length ∧ (i = vs.length ∨ i = ws.length)⟩
def ItY (K : PySem.W.Frag) (d1 d2 d3 : Sd) : It :=
  ⟨fun i H => ∃ vs ws us, d1.At K H vs ∧ d2.At K H ws ∧ d3.At K H us ∧ i < vs.length ∧ i < ws.length ∧ i < us.length,
   fun i H v H' => ∃ T x y z, v = .ref T ∧ H T = none ∧ H' = upd H T (.tup [x, y, z]) ∧ (∀ vs, d1.At K H vs → vs[i]? = some x) ∧ (∀ vs, d2.At K H vs → vs[i]? = some y) ∧ ∀ vs, d3.At K H vs → vs[i]? = some z,
   fun i H => ∃ vs ws us, d1.At K H vs ∧ d2.At K H ws ∧ d3.At K H us ∧ i ≤ vs.length ∧ i ≤ ws.length ∧ i ≤ us.length ∧ (i = vs.length ∨ i = ws.length ∨ i = us.length)⟩
section
variable {P : Program} {w : World} {K : PySem.W.Frag} {elts : List Expr} {kk : Nat} {tpos : Pos}
theorem turn_E (d : Sd) (m : Nat) (hd : ∀ b ∈ d.adr, b < m) : Turn P w K (.Tuple elts kk tpos) (ItE K d) [m + 1, m] (m + 1) (fun i h => (∃ old, IsEnum h (m + 1) m ((i : Nat) : Int) old) ∧ d.con m i h) where
  mem := by simp
  obj := fun i h st b hb => by
    obtain ⟨⟨old, he⟩, c⟩ := st
    have e' : b = m + 1 ∨ b = m := by simpa using hb
    rcases e' with z | z
    · rw [z]; exact ⟨_, he, fun v q => nomatch q⟩
    · rw [z]; exact Sd.con_obj c
  keep := fun i h h' st k => let ⟨⟨old, he⟩, hi⟩ := st; ⟨⟨old, k (m + 1) (by simp) _ he⟩, Sd.con_at hi fun o q => k m (by simp) o q⟩
  item := by
    intro X hP hw hK hc i pins s σ H E I hf st hg
    subst hP hw hK
    obtain ⟨⟨old, he⟩, c⟩ := st
    obtain ⟨vs, hq, hx⟩ := hg
    have hne : m ∉ d.adr := fun z => Nat.lt_irrefl _ (hd m z)
    obtain ⟨D⟩ := dr_of hc I hq c hne
    have hel : m + 1 < s.heap.objs.size := Heap.lt_size he
    have hil : m < s.heap.objs.size := by omega
    have hef : m + 1 ∉ D.fp := fun z => by
      rcases D.only _ z with q | q
      · omega
      · have := hd _ q; omega
    refine wpAny_pyNext_enum_itemD D.D he D.st hx (na (by omega)) hef fun u h' tk hu ho hst' hT hsz hk => ?_
    obtain ⟨v, hv, ru⟩ := D.rel i u hu
    refine ⟨_, rfl, wpAny_letOwnedTupleGo_enum (s := { s with heap := h', toks := tk + 1 }) ho fun h'' he' sb => ?_⟩
    have hT2 : h''.get? s.heap.objs.size = some { cls := .type "tuple", data := .seq #[.int i tk, u] } := (sb.2 _ (Nat.ne_of_gt hel)).trans hT
    have new : ObjOk X.prog X.w (upd H s.heap.objs.size (.tup [.int (i : Nat), v])) h'' s.heap.objs.size (.tup [.int (i : Nat), v]) :=
      ⟨by show 2 ≤ sizeLine; decide, [.int i tk, u], .cons ⟨_, rfl⟩ (.cons ru .nil), ⟨_, hT2, rfl, _, rfl⟩⟩
    have I1 : Inv X pins σ (upd H s.heap.objs.size (.tup [.int (i : Nat), v])) { s with heap := h'', toks := tk + 1 } :=
      I.turnedNew (ch := [m + 1, m]) (fun b ob hb q => (sb.2 b (fun z => hb (by simp [z]))).trans (hk b ob (fun z => hb (by simp [z])) (fun z => hb (by simp [z])) q)) hf (Nat.le_refl _) new
    refine ⟨.ref s.heap.objs.size, _, I1, rfl, ⟨_, v, rfl, I.hok.fresh (Nat.le_refl _), rfl, fun ys hy => by rw [Sd.inj I hy hq]; exact hv⟩, ⟨⟨u, ?_⟩, Sd.con_at (D.con _ _ hst') fun o q => (sb.2 m (na (by omega))).trans q⟩, fun b hb => ?_⟩
    · have e1 : ((i + 1 : Nat) : Int) = (i : Int) + 1 := by omega
      rw [e1]; exact he'
    · have hb' : b < s.heap.objs.size := by
        have e' : b = m + 1 ∨ b = m := by simpa using hb
        rcases e' with z | z <;> (have z : @Eq Nat b _ := z; show @LT.lt Nat _ b _; omega)
      rw [upd_ne (Nat.ne_of_lt hb')]
      exact (hf b hb).1
  done := by
    intro X hP hw hK hc i pins s σ H E I hf st hg
    subst hP hw hK
    obtain ⟨⟨old, he⟩, c⟩ := st
    obtain ⟨vs, hq, hx⟩ := hg
    have hne : m ∉ d.adr := fun z => Nat.lt_irrefl _ (hd m z)
    obtain ⟨D⟩ := dr_of hc I hq c hne
    have st : D.St vs.length s.heap := hx ▸ D.st
    exact wpAny_pyNext_enum_endD D.D he st fun h' eb => ⟨rfl, I.turnedL (t' := s.toks) (ch := [m + 1, m]) (fun b o hb q => eb b o (fun z => hb (by simp [z])) q) hf⟩
  self := fun A i s Q E st h => let ⟨⟨_, he⟩, _⟩ := st; wpAny_pyIter_enum he h
theorem turn_Z (d1 d2 : Sd) (m : Nat) (hd1 : ∀ b ∈ d1.adr, b < m) (hd2 : ∀ b ∈ d2.adr, b < m) : Turn P w K (.Tuple elts kk tpos) (ItZ K d1 d2) [m + 4, m + 2, m + 3, m, m + 1] (m + 4)
    (fun i h => IsZip h (m + 4) (m + 2) (m + 3) .none ∧ IsTupOf2 h (m + 2) (.ref m) (.ref (m + 1)) ∧ (∃ x y, IsTupOf2 h (m + 3) x y) ∧ d1.con m i h ∧ d2.con (m + 1) i h) where
  mem := by simp
  obj := fun i h st c hc => by
    obtain ⟨hz, hTI, ⟨x, y, hTO⟩, c1, c2⟩ := st
    have e' : c = m + 4 ∨ c = m + 2 ∨ c = m + 3 ∨ c = m ∨ c = m + 1 := by simpa using hc
    rcases e' with q | q | q | q | q
    · rw [q]; exact ⟨_, hz, fun v q => nomatch q⟩
    · rw [q]; exact ⟨_, hTI, fun v q => nomatch q⟩
    · rw [q]; exact ⟨_, hTO, fun v q => nomatch q⟩
    · rw [q]; exact Sd.con_obj c1
    · rw [q]; exact Sd.con_obj c2
  keep := fun i h h' st k => by
    obtain ⟨hz, hTI, ⟨x, y, hTO⟩, h1, h2⟩ := st
    exact ⟨k _ (by simp) _ hz, k _ (by simp) _ hTI, ⟨x, y, k _ (by simp) _ hTO⟩, Sd.con_at h1 fun o q => k _ (by simp) o q, Sd.con_at h2 fun o q => k _ (by simp) o q⟩
  item := by
    intro X hP hw hK hc i pins s σ H E I hf st hg
    subst hP hw hK
    obtain ⟨hz, hTI, ⟨x0, y0, hTO⟩, c1, c2⟩ := st
    obtain ⟨vs, ws, hq1, hq2, hx1, hx2⟩ := hg
    obtain ⟨D1⟩ := dr_of hc I hq1 c1 fun z => Nat.lt_irrefl _ (hd1 m z)
    obtain ⟨D2⟩ := dr_of hc I hq2 c2 fun z => by have := hd2 _ z; omega
    have nf1 : ∀ b, b ≠ m → m ≤ b → b ∉ D1.fp := fun b hb hm z => by
      rcases D1.only _ z with q | q
      · exact hb q
      · have := hd1 _ q; omega
    have nf2 : ∀ b, b ≠ m + 1 → m ≤ b → b ∉ D2.fp := fun b hb hm z => by
      rcases D2.only _ z with q | q
      · exact hb q
      · have := hd2 _ q; omega
    have S : ZipSep2 (m + 4) (m + 2) (m + 3) m (m + 1) D1.fp D2.fp := ⟨na (by omega), na (by omega), na (by omega), na (by omega), D1.mem, nf1 _ (by omega) (by omega), nf1 _ (by omega) (by omega), na (by omega), D2.mem, nf2 _ (by omega) (by omega), nf2 _ (by omega) (by omega), nf2 _ (by omega) (by omega), nf1 _ (by omega) (by omega)⟩
    have hzl : m + 4 < s.heap.objs.size := Heap.lt_size hz
    refine wpAny_pyNext_zipD2_item S D1.D D2.D hz hTI hTO D1.st D2.st hx1 hx2 fun u u2 h' tk hu hu2 z' TO' st1' st2' hT hsz hk => ?_
    obtain ⟨x, hx, ru⟩ := D1.rel i u hu
    obtain ⟨y, hy, ru2⟩ := D2.rel i u2 hu2
    refine ⟨_, rfl, wpAny_letOwnedTupleGo_zip (s := { s with heap := h', toks := tk }) z' fun h'' z'' sb => ?_⟩
    have hT2 : h''.get? s.heap.objs.size = some { cls := .type "tuple", data := .seq #[u, u2] } := (sb.2 _ (Nat.ne_of_gt hzl)).trans hT
    have new : ObjOk X.prog X.w (upd H s.heap.objs.size (.tup [x, y])) h'' s.heap.objs.size (.tup [x, y]) :=
      ⟨by show 2 ≤ sizeLine; decide, [u, u2], .cons ru (.cons ru2 .nil), ⟨_, hT2, rfl, _, rfl⟩⟩
    have I1 : Inv X pins σ (upd H s.heap.objs.size (.tup [x, y])) { s with heap := h'', toks := tk } :=
      I.turnedNew (ch := [m + 4, m + 2, m + 3, m, m + 1]) (fun c o hb q => (sb.2 c (fun q' => hb (by simp [q']))).trans (hk c o (fun q' => hb (by simp [q'])) (fun q' => hb (by simp [q'])) (fun q' => hb (by simp [q'])) (fun q' => hb (by simp [q'])) q)) hf (Nat.le_refl _) new
    refine ⟨.ref s.heap.objs.size, _, I1, rfl, ⟨_, x, y, rfl, I.hok.fresh (Nat.le_refl _), rfl, fun l hl => by rw [Sd.inj I hl hq1]; exact hx, fun l hl => by rw [Sd.inj I hl hq2]; exact hy⟩, ⟨z'', ?_, ⟨u, u2, ?_⟩, ?_, ?_⟩, fun c hcm => ?_⟩
    · exact (sb.2 _ (na (by omega))).trans (hk _ _ (na (by omega)) (na (by omega)) (na (by omega)) (na (by omega)) hTI)
    · exact (sb.2 _ (na (by omega))).trans TO'
    · exact Sd.con_at (D1.con _ _ st1') fun o q => (sb.2 _ (na (by omega))).trans q
    · exact Sd.con_at (D2.con _ _ st2') fun o q => (sb.2 _ (na (by omega))).trans q
    · have hlt : c < s.heap.objs.size := by
        have e' : c = m + 4 ∨ c = m + 2 ∨ c = m + 3 ∨ c = m ∨ c = m + 1 := by simpa using hcm
        rcases e' with q | q | q | q | q <;> (have q : @Eq Nat c _ := q; show @LT.lt Nat _ c _; omega)
      rw [upd_ne (Nat.ne_of_lt hlt)]
      exact (hf c hcm).1
  done := by
    intro X hP hw hK hc i pins s σ H E I hf st hg
    subst hP hw hK
    obtain ⟨hz, hTI, ⟨x0, y0, hTO⟩, c1, c2⟩ := st
    obtain ⟨vs, ws, hq1, hq2, hx1, hx2, hend⟩ := hg
    obtain ⟨D1⟩ := dr_of hc I hq1 c1 fun z => Nat.lt_irrefl _ (hd1 m z)
    obtain ⟨D2⟩ := dr_of hc I hq2 c2 fun z => by have := hd2 _ z; omega
    have nf1 : ∀ b, b ≠ m → m ≤ b → b ∉ D1.fp := fun b hb hm z => by
      rcases D1.only _ z with q | q
      · exact hb q
      · have := hd1 _ q; omega
    have nf2 : ∀ b, b ≠ m + 1 → m ≤ b → b ∉ D2.fp := fun b hb hm z => by
      rcases D2.only _ z with q | q
      · exact hb q
      · have := hd2 _ q; omega
    have S : ZipSep2 (m + 4) (m + 2) (m + 3) m (m + 1) D1.fp D2.fp := ⟨na (by omega), na (by omega), na (by omega), na (by omega), D1.mem, nf1 _ (by omega) (by omega), nf1 _ (by omega) (by omega), na (by omega), D2.mem, nf2 _ (by omega) (by omega), nf2 _ (by omega) (by omega), nf2 _ (by omega) (by omega), nf1 _ (by omega) (by omega)⟩
    exact wpAny_pyNext_zipD2_end S D1.D D2.D hz hTI hTO D1.st D2.st hx1 hx2 hend fun h' tk hk => ⟨rfl, I.turnedL (t' := tk) (ch := [m + 4, m + 2, m + 3, m, m + 1]) (fun c o hb q =>
      hk c o (fun q' => hb (by simp [q'])) (fun q' => hb (by simp [q'])) (fun q' => hb (by simp [q'])) (fun q' => hb (by simp [q'])) q) hf⟩
  self := fun A i s Q E st h => wpAny_pyIter_zip st.1 h
theorem turn_Y (d1 d2 d3 : Sd) (m : Nat) (hd1 : ∀ b ∈ d1.adr, b < m) (hd2 : ∀ b ∈ d2.adr, b < m) (hd3 : ∀ b ∈ d3.adr, b < m) : Turn P w K (.Tuple elts kk tpos) (ItY K d1 d2 d3) [m + 5, m + 3, m + 4, m, m + 1, m + 2] (m + 5)
    (fun i h => IsZip h (m + 5) (m + 3) (m + 4) .none ∧ IsTupOf3 h (m + 3) (.ref m) (.ref (m + 1)) (.ref (m + 2)) ∧ (∃ x y z, IsTupOf3 h (m + 4) x y z) ∧ d1.con m i h ∧ d2.con (m + 1) i h ∧ d3.con (m + 2) i h) where
  mem := by simp
  obj := fun i h st c hc => by
    obtain ⟨hz, hTI, ⟨x, y, z, hTO⟩, c1, c2, c3⟩ := st
    have e' : c = m + 5 ∨ c = m + 3 ∨ c = m + 4 ∨ c = m ∨ c = m + 1 ∨ c = m + 2 := by simpa using hc
    rcases e' with q | q | q | q | q | q
    · rw [q]; exact ⟨_, hz, fun v q => nomatch q⟩
    · rw [q]; exact ⟨_, hTI, fun v q => nomatch q⟩
    · rw [q]; exact ⟨_, hTO, fun v q => nomatch q⟩
    · rw [q]; exact Sd.con_obj c1
    · rw [q]; exact Sd.con_obj c2
    · rw [q]; exact Sd.con_obj c3
  keep := fun i h h' st k => by
    obtain ⟨hz, hTI, ⟨x, y, z, hTO⟩, h1, h2, h3⟩ := st
    exact ⟨k _ (by simp) _ hz, k _ (by simp) _ hTI, ⟨x, y, z, k _ (by simp) _ hTO⟩, Sd.con_at h1 fun o q => k _ (by simp) o q, Sd.con_at h2 fun o q => k _ (by simp) o q, Sd.con_at h3 fun o q => k _ (by simp) o q⟩
  item := by
    intro X hP hw hK hc i pins s σ H E I hf st hg
    subst hP hw hK
    obtain ⟨hz, hTI, ⟨x0, y0, z0, hTO⟩, c1, c2, c3⟩ := st
    obtain ⟨vs, ws, us, hq1, hq2, hq3, hx1, hx2, hx3⟩ := hg
    obtain ⟨D1⟩ := dr_of hc I hq1 c1 fun z => Nat.lt_irrefl _ (hd1 m z)
    obtain ⟨D2⟩ := dr_of hc I hq2 c2 fun z => by have := hd2 _ z; omega
    obtain ⟨D3⟩ := dr_of hc I hq3 c3 fun z => by have := hd3 _ z; omega
    have nf1 : ∀ b, b ≠ m → m ≤ b → b ∉ D1.fp := fun b hb hm z => by
      rcases D1.only _ z with q | q
      · exact hb q
      · have := hd1 _ q; omega
    have nf2 : ∀ b, b ≠ m + 1 → m ≤ b → b ∉ D2.fp := fun b hb hm z => by
      rcases D2.only _ z with q | q
      · exact hb q
      · have := hd2 _ q; omega
    have nf3 : ∀ b, b ≠ m + 2 → m ≤ b → b ∉ D3.fp := fun b hb hm z => by
      rcases D3.only _ z with q | q
      · exact hb q
      · have := hd3 _ q; omega
    have S : ZipSep3 (m + 5) (m + 3) (m + 4) m (m + 1) (m + 2) D1.fp D2.fp D3.fp := ⟨na (by omega), na (by omega), na (by omega), na (by omega), D1.mem, nf1 _ (by omega) (by omega), nf1 _ (by omega) (by omega), na (by omega), D2.mem, nf2 _ (by omega) (by omega), nf2 _ (by omega) (by omega),
      na (by omega), D3.mem, nf3 _ (by omega) (by omega), nf3 _ (by omega) (by omega), nf2 _ (by omega) (by omega), nf3 _ (by omega) (by omega), nf1 _ (by omega) (by omega), nf3 _ (by omega) (by omega), nf1 _ (by omega) (by omega), nf2 _ (by omega) (by omega)⟩
    have hzl : m + 5 < s.heap.objs.size := Heap.lt_size hz
    refine wpAny_pyNext_zipD3_item S D1.D D2.D D3.D hz hTI hTO D1.st D2.st D3.st hx1 hx2 hx3 fun u u2 u3 h' tk hu hu2 hu3 z' TO' st1' st2' st3' hT hsz hk => ?_
    obtain ⟨x, hx, ru⟩ := D1.rel i u hu
    obtain ⟨y, hy, ru2⟩ := D2.rel i u2 hu2
    obtain ⟨z, hzz, ru3⟩ := D3.rel i u3 hu3
    refine ⟨_, rfl, wpAny_letOwnedTupleGo_zip (s := { s with heap := h', toks := tk }) z' fun h'' z'' sb => ?_⟩
    have hT2 : h''.get? s.heap.objs.size = some { cls := .type "tuple", data := .seq #[u, u2, u3] } := (sb.2 _ (Nat.ne_of_gt hzl)).trans hT
    have new : ObjOk X.prog X.w (upd H s.heap.objs.size (.tup [x, y, z])) h'' s.heap.objs.size (.tup [x, y, z]) :=
      ⟨by show 3 ≤ sizeLine; decide, [u, u2, u3], .cons ru (.cons ru2 (.cons ru3 .nil)), ⟨_, hT2, rfl, _, rfl⟩⟩
    have I1 : Inv X pins σ (upd H s.heap.objs.size (.tup [x, y, z])) { s with heap := h'', toks := tk } :=
      I.turnedNew (ch := [m + 5, m + 3, m + 4, m, m + 1, m + 2]) (fun c o hb q => (sb.2 c (fun q' => hb (by simp [q']))).trans (hk c o (fun q' => hb (by simp [q'])) (fun q' => hb (by simp [q'])) (fun q' => hb (by simp [q'])) (fun q' => hb (by simp [q'])) (fun q' => hb (by simp [q'])) q)) hf (Nat.le_refl _) new
    refine ⟨.ref s.heap.objs.size, _, I1, rfl, ⟨_, x, y, z, rfl, I.hok.fresh (Nat.le_refl _), rfl, fun l hl => by rw [Sd.inj I hl hq1]; exact hx, fun l hl => by rw [Sd.inj I hl hq2]; exact hy, fun l hl => by rw [Sd.inj I hl hq3]; exact hzz⟩, ⟨z'', ?_, ⟨u, u2, u3, ?_⟩, ?_, ?_, ?_⟩, fun c hcm => ?_⟩
    · exact (sb.2 _ (na (by omega))).trans (hk _ _ (na (by omega)) (na (by omega)) (na (by omega)) (na (by omega)) (na (by omega)) hTI)
    · exact (sb.2 _ (na (by omega))).trans TO'
    · exact Sd.con_at (D1.con _ _ st1') fun o q => (sb.2 _ (na (by omega))).trans q
    · exact Sd.con_at (D2.con _ _ st2') fun o q => (sb.2 _ (na (by omega))).trans q
    · exact Sd.con_at (D3.con _ _ st3') fun o q => (sb.2 _ (na (by omega))).trans q
    · have hlt : c < s.heap.objs.size := by
        have e' : c = m + 5 ∨ c = m + 3 ∨ c = m + 4 ∨ c = m ∨ c = m + 1 ∨ c = m + 2 := by simpa using hcm
        rcases e' with q | q | q | q | q | q <;> (have q : @Eq Nat c _ := q; show @LT.lt Nat _ c _; omega)
      rw [upd_ne (Nat.ne_of_lt hlt)]
      exact (hf c hcm).1
  done := by
    intro X hP hw hK hc i pins s σ H E I hf st hg
    subst hP hw hK
    obtain ⟨hz, hTI, ⟨x0, y0, z0, hTO⟩, c1, c2, c3⟩ := st
    obtain ⟨vs, ws, us, hq1, hq2, hq3, hx1, hx2, hx3, hend⟩ := hg
    obtain ⟨D1⟩ := dr_of hc I hq1 c1 fun z => Nat.lt_irrefl _ (hd1 m z)
    obtain ⟨D2⟩ := dr_of hc I hq2 c2 fun z => by have := hd2 _ z; omega
    obtain ⟨D3⟩ := dr_of hc I hq3 c3 fun z => by have := hd3 _ z; omega
    have nf1 : ∀ b, b ≠ m → m ≤ b → b ∉ D1.fp := fun b hb hm z => by
      rcases D1.only _ z with q | q
      · exact hb q
      · have := hd1 _ q; omega
    have nf2 : ∀ b, b ≠ m + 1 → m ≤ b → b ∉ D2.fp := fun b hb hm z => by
      rcases D2.only _ z with q | q
      · exact hb q
      · have := hd2 _ q; omega
    have nf3 : ∀ b, b ≠ m + 2 → m ≤ b → b ∉ D3.fp := fun b hb hm z => by
      rcases D3.only _ z with q | q
      · exact hb q
      · have := hd3 _ q; omega
    have S : ZipSep3 (m + 5) (m + 3) (m + 4) m (m + 1) (m + 2) D1.fp D2.fp D3.fp := ⟨na (by omega), na (by omega), na (by omega), na (by omega), D1.mem, nf1 _ (by omega) (by omega), nf1 _ (by omega) (by omega), na (by omega), D2.mem, nf2 _ (by omega) (by omega), nf2 _ (by omega) (by omega),
      na (by omega), D3.mem, nf3 _ (by omega) (by omega), nf3 _ (by omega) (by omega), nf2 _ (by omega) (by omega), nf3 _ (by omega) (by omega), nf1 _ (by omega) (by omega), nf3 _ (by omega) (by omega), nf1 _ (by omega) (by omega), nf2 _ (by omega) (by omega)⟩
    exact wpAny_pyNext_zipD3_end S D1.D D2.D D3.D hz hTI hTO D1.st D2.st D3.st hx1 hx2 hx3 hend fun h' tk hk => ⟨rfl, I.turnedL (t' := tk) (ch := [m + 5, m + 3, m + 4, m, m + 1, m + 2]) (fun c o hb q =>
      hk c o (fun q' => hb (by simp [q'])) (fun q' => hb (by simp [q'])) (fun q' => hb (by simp [q'])) (fun q' => hb (by simp [q'])) (fun q' => hb (by simp [q'])) q) hf⟩
  self := fun A i s Q E st h => wpAny_pyIter_zip st.1 h
end
/-! ### they begin -/
theorem Sd.lt {X : Cx} {pins : List (Addr × Obj)} {σ : L2.St} {H : Hp} {s : Shared} {d : Sd} {vs : List V} (I : Inv X pins σ H s) (h : d.At X.K H vs) : ∀ b ∈ d.adr, b < s.heap.objs.size := by
  intro b hb
  cases d with
  | l a =>
    rw [List.mem_singleton.mp hb]
    obtain ⟨its, rv, p, _⟩ := I.list h
    exact p.lt
  | t a =>
    rw [List.mem_singleton.mp hb]
    obtain ⟨its, rv, ⟨o, ho, _⟩, _⟩ := I.tuple h
    exact Heap.lt_size ho
  | s x => exact absurd hb List.not_mem_nil
/-- how iter(it) begins -/
structure Bg (h : Heap) (d : Sd) (u : Value) where
  o : Obj
  Hc : Heap → Prop
  B : Begins u o Hc
  ok : Hc h
  con : ∀ h' it, h'.get? it = some o → d.con it 0 h'
theorem bg_of {X : Cx} {pins : List (Addr × Obj)} {σ : L2.St} {H : Hp} {s : Shared} {d : Sd} {vs : List V} {u : Value} (I : Inv X pins σ H s) (h : d.At X.K H vs) (r : RelV d.val u) : Nonempty (Bg s.heap d u) := by
  cases d with
  | l a =>
    cases (show u = Value.ref a from r)
    obtain ⟨its, rv, p, _⟩ := I.list h
    exact ⟨⟨_, _, begins_list a its.toArray, p.isList, fun h' it e => ⟨_, e, rfl, rfl⟩⟩⟩
  | t a =>
    cases (show u = Value.ref a from r)
    obtain ⟨its, rv, p, _⟩ := I.tuple h
    exact ⟨⟨_, _, begins_tuple a its.toArray, p, fun h' it e => ⟨_, e, rfl, rfl⟩⟩⟩
  | s x =>
    obtain ⟨t, rfl⟩ := r
    exact ⟨⟨_, _, begins_text x t, trivial, fun h' it e => ⟨t, _, e, rfl, rfl⟩⟩⟩
theorem meets_enum_newB {v : Value} {o : Obj} {Hc : Heap → Prop} (B : Begins v o Hc) :
    Meets (Builtin.«enumerate.__new__» ⟨[.type "enumerate", v], []⟩) (fun _ R s => Hc s.heap ∧
      R (.ok (.ret (.ref (s.heap.push o).objs.size))) { s with heap := (s.heap.push o).push { cls := .type "enumerate", data := .fields #[.none, .bool false, .ref s.heap.objs.size, rawInt 0, .none, .none] } }) :=
  .of_wp fun prog w A R s h => by
    obtain ⟨hp, g, d, tk, os⟩ := s
    obtain ⟨h1, h⟩ := h
    have hsub := sub_enumerate
    have q1 : ∀ {A' : Around} {E : Value → Shared → Prop} {Q : Value → Shared → Prop}, Q (.ref hp.objs.size) ⟨(hp.push o), g, d, tk, os⟩ → wpAny (model prog w) A' (pyIter v) Q E ⟨hp, g, d, tk, os⟩ :=
      fun q => B.iter prog w _ _ ⟨hp, g, d, tk, os⟩ _ h1 q
    wp_walk
    refine wpAny_stack_any fun st => wpAny_pure ?_
    split
    · rename_i c _ _ _ _ _
      cases (c == Value.type "enumerate")
      · wp_walk using q1
        exact ⟨_, rfl, h⟩
      · wp_walk using q1
        exact ⟨_, rfl, h⟩
    · wp_walk using q1
      exact ⟨_, rfl, h⟩
theorem enum_begins {prog : Program} {w : World} {A : Around} {E : Value → Shared → Prop} {s : Shared} {v : Value} {o : Obj} {Hc : Heap → Prop} {Q : Value → Shared → Prop} (B : Begins v o Hc) (h1 : Hc s.heap)
    (h : ∀ h', IsEnum h' (s.heap.objs.size + 1) s.heap.objs.size 0 .none → h'.get? s.heap.objs.size = some o → h'.objs.size = s.heap.objs.size + 2 →
      (∀ b o, s.heap.get? b = some o → h'.get? b = some o) → Q (.ref (s.heap.objs.size + 1)) { s with heap := h' }) :
    wpAny (model prog w) A (call (.type "enumerate") [v]) Q E s := by
  refine callType_new F.called_enumerate (by decide) (F.typeCall_enumerate_1 _) (F.newCall_enumerate_1 _) (fun obj => F.args_object_init_2 obj _) F.entry_enumerate_new
    (meets_enum_newB B) ⟨h1, ?_⟩
  have hz : (s.heap.push o).objs.size = s.heap.objs.size + 1 := Heap.size_push ..
  show _ ∧ _
  rw [hz]
  have he : IsEnum ((s.heap.push o).push
      { cls := .type "enumerate", data := .fields #[.none, .bool false, .ref s.heap.objs.size, rawInt 0, .none, .none] }) (s.heap.objs.size + 1) s.heap.objs.size 0 .none := by
    have := Heap.get?_push_size (s.heap.push o)
      (o := { cls := .type "enumerate", data := .fields #[.none, .bool false, .ref s.heap.objs.size, rawInt 0, .none, .none] }) rfl
    rw [hz] at this; exact this
  refine ⟨⟨_, he, rfl⟩, h _ he (Heap.get?_push_of_some _ (Heap.get?_push_size _ B.free)) (by rw [Heap.size_push, hz]) fun b o y => Heap.get?_push_of_some _ (Heap.get?_push_of_some _ y)⟩
section
variable {X : Cx} {e e2 e3 : Expr} {ta : TA} {p pos tpos : Pos} {elts : List Expr} {kk : Nat}
def iEG (K : PySem.W.Frag) (ta : TA) : TI := fun σ H R => ta σ H fun vs H1 => ∃ d ws, vs = [d.val] ∧ d.At K H1 ws ∧ R (ItE K d) H1
def iZG (K : PySem.W.Frag) (ta : TA) : TI := fun σ H R => ta σ H fun vs H1 => ∃ d1 d2 ws1 ws2, vs = [d1.val, d2.val] ∧ d1.At K H1 ws1 ∧ d2.At K H1 ws2 ∧ R (ItZ K d1 d2) H1
def iYG (K : PySem.W.Frag) (ta : TA) : TI := fun σ H R => ta σ H fun vs H1 => ∃ d1 d2 d3 ws1 ws2 ws3, vs = [d1.val, d2.val, d3.val] ∧ d1.At K H1 ws1 ∧ d2.At K H1 ws2 ∧ d3.At K H1 ws3 ∧ R (ItY K d1 d2 d3) H1
theorem pi_EG (hg : Gl X "enumerate") (hm : X.mg "enumerate" = none) (ha : PA X [e] ta) (hs : starEach [e] X.env = [(false, eval e X.env)]) :
    PI X (.Tuple elts kk tpos) (.Call (.Name "enumerate" p) [e] [] pos) (iEG X.K ta) := by
  refine ⟨fun pins s σ H R I h => ?_⟩
  refine Call_ (ld_blt I hg hm boot_enumerate (PyProof.Rows.callWith_type1 (thn (ha.run pos pins s σ H _ I h) fun us s1 ⟨vs, H1, I1, r1, q1⟩ => ?_) hs rfl))
  obtain ⟨d, ws, ex, hq, q⟩ := q1
  subst ex
  obtain ⟨u, rfl, r⟩ := vals1 r1
  obtain ⟨B⟩ := bg_of I1 hq r
  refine enum_begins B.B B.ok fun h' he hit hsz hk => wpAny_pyIter_enum he ?_
  have I2 : Inv X pins σ H1 { s1 with heap := h' } := I1.kept (t' := s1.toks) hk
  refine ⟨s1.heap.objs.size + 1, [s1.heap.objs.size + 1, s1.heap.objs.size], _, _, H1, rfl, I2, turn_E d s1.heap.objs.size (Sd.lt I1 hq), ⟨⟨.none, he⟩, B.con _ _ hit⟩, fun b hb => ?_, q⟩
  have e' : b = s1.heap.objs.size + 1 ∨ b = s1.heap.objs.size := by simpa using hb
  have hle : s1.heap.objs.size ≤ b := by
    rcases e' with z | z
    · rw [z]; exact Nat.le_add_right _ _
    · rw [z]; exact Nat.le_refl _
  exact I1.fpOk hle (I1.hok.fresh hle)
theorem pi_ZG (hg : Gl X "zip") (hm : X.mg "zip" = none) (ha : PA X [e, e2] ta) (hs : starEach [e, e2] X.env = (false, eval e X.env) :: starEach [e2] X.env) (hpl : (backTo pos (starEach [e2] X.env)).any (·.1) = false) :
    PI X (.Tuple elts kk tpos) (.Call (.Name "zip" p) [e, e2] [] pos) (iZG X.K ta) := by
  refine ⟨fun pins s σ H R I h => ?_⟩
  refine Call_ (ld_blt I hg hm PyProof.Rows.boot_zip (PyProof.Rows.callWith_type1 (thn (ha.run pos pins s σ H _ I h) fun us s1 ⟨vs, H1, I1, r1, q1⟩ => ?_) hs hpl))
  obtain ⟨d1, d2, ws1, ws2, ex, hq1, hq2, q⟩ := q1
  subst ex
  obtain ⟨u1, u2, rfl, r, r'⟩ := vals2 r1
  obtain ⟨B1⟩ := bg_of I1 hq1 r
  obtain ⟨B2⟩ := bg_of I1 hq2 r'
  refine zip_begins2 B1.B B2.B B1.ok B2.ok fun h' hz hTI hTO h1 h2 hsz hk => wpAny_pyIter_zip hz ?_
  have I2 : Inv X pins σ H1 { s1 with heap := h' } := I1.kept (t' := s1.toks) hk
  refine ⟨s1.heap.objs.size + 4, [s1.heap.objs.size + 4, s1.heap.objs.size + 2, s1.heap.objs.size + 3, s1.heap.objs.size, s1.heap.objs.size + 1], _, _, H1, rfl, I2, turn_Z d1 d2 s1.heap.objs.size (Sd.lt I1 hq1) (Sd.lt I1 hq2), ⟨hz, hTI, ⟨_, _, hTO⟩, B1.con _ _ h1, B2.con _ _ h2⟩, fun c hcm => ?_, q⟩
  have e' : c = s1.heap.objs.size + 4 ∨ c = s1.heap.objs.size + 2 ∨ c = s1.heap.objs.size + 3 ∨ c = s1.heap.objs.size ∨ c = s1.heap.objs.size + 1 := by simpa using hcm
  have hle : s1.heap.objs.size ≤ c := by
    rcases e' with z | z | z | z | z <;> rw [z] <;> first | exact Nat.le_refl _ | exact Nat.le_add_right _ _
  exact I1.fpOk hle (I1.hok.fresh hle)
theorem pi_YG (hg : Gl X "zip") (hm : X.mg "zip" = none) (ha : PA X [e, e2, e3] ta) (hs : starEach [e, e2, e3] X.env = (false, eval e X.env) :: starEach [e2, e3] X.env) (hpl : (backTo pos (starEach [e2, e3] X.env)).any (·.1) = false) :
    PI X (.Tuple elts kk tpos) (.Call (.Name "zip" p) [e, e2, e3] [] pos) (iYG X.K ta) := by
  refine ⟨fun pins s σ H R I h => ?_⟩
  refine Call_ (ld_blt I hg hm PyProof.Rows.boot_zip (PyProof.Rows.callWith_type1 (thn (ha.run pos pins s σ H _ I h) fun us s1 ⟨vs, H1, I1, r1, q1⟩ => ?_) hs hpl))
  obtain ⟨d1, d2, d3, ws1, ws2, ws3, ex, hq1, hq2, hq3, q⟩ := q1
  subst ex
  obtain ⟨u1, us', rfl, r, rr⟩ : ∃ u us', us = u :: us' ∧ RelV d1.val u ∧ Vals [d2.val, d3.val] us' := by
    cases r1 with
    | cons r rr => exact ⟨_, _, rfl, r, rr⟩
  obtain ⟨u2, u3, rfl, r', r''⟩ := vals2 rr
  obtain ⟨B1⟩ := bg_of I1 hq1 r
  obtain ⟨B2⟩ := bg_of I1 hq2 r'
  obtain ⟨B3⟩ := bg_of I1 hq3 r''
  refine zip_begins3 B1.B B2.B B3.B B1.ok B2.ok B3.ok fun h' hz hTI hTO h1 h2 h3 hsz hk => wpAny_pyIter_zip hz ?_
  have I2 : Inv X pins σ H1 { s1 with heap := h' } := I1.kept (t' := s1.toks) hk
  refine ⟨s1.heap.objs.size + 5, [s1.heap.objs.size + 5, s1.heap.objs.size + 3, s1.heap.objs.size + 4, s1.heap.objs.size, s1.heap.objs.size + 1, s1.heap.objs.size + 2], _, _, H1, rfl, I2, turn_Y d1 d2 d3 s1.heap.objs.size (Sd.lt I1 hq1) (Sd.lt I1 hq2) (Sd.lt I1 hq3), ⟨hz, hTI, ⟨_, _, _, hTO⟩, B1.con _ _ h1, B2.con _ _ h2, B3.con _ _ h3⟩, fun c hcm => ?_, q⟩
  have e' : c = s1.heap.objs.size + 5 ∨ c = s1.heap.objs.size + 3 ∨ c = s1.heap.objs.size + 4 ∨ c = s1.heap.objs.size ∨ c = s1.heap.objs.size + 1 ∨ c = s1.heap.objs.size + 2 := by simpa using hcm
  have hle : s1.heap.objs.size ≤ c := by
    rcases e' with z | z | z | z | z | z <;> rw [z] <;> first | exact Nat.le_refl _ | exact Nat.le_add_right _ _
  exact I1.fpOk hle (I1.hok.fresh hle)
end
end Mp
namespace Mp
open PySem PySem.Spec PyProof.Rows L2

/-! ### what is walked -/
structure Src where
  items : List PV
  keep : Sto → Prop
abbrev WI := Env → Sto → (Src → Sto → Prop) → Prop
def WalkR (K : PySem.W.Frag) (c : Src) (J : It) (Ha : Hp) (La : Sto) : Prop := ∀ i H L, Fm Ha La H L → RepH K H L → c.keep L →
  (i < c.items.length → J.go i H ∧ ∀ v H', J.yld i H v H' → ∃ x, c.items[i]? = some x ∧ RepV K H' x v ∧ Fm H L H' L ∧ RepH K H' L) ∧ (i = c.items.length → J.stop i H)
def liftI (K : PySem.W.Frag) (w : WI) : TI := fun σ H R => ∃ env L R', RepS K H σ env ∧ RepH K H L ∧ w env L R' ∧ ∀ c L' H' J, R' c L' → Fm H L H' L' → RepH K H' L' → WalkR K c J H' L' → R J H'
theorem pi_weak {X : Cx} {tg iter : Expr} {wi wi' : TI} (h : PI X tg iter wi) (w : ∀ σ H R, wi' σ H R → wi σ H R) : PI X tg iter wi' := ⟨fun pins s σ H R I q => h.run pins s σ H R I (w σ H R q)⟩
/-- over a list -/
def iLs (e : WE) : WI := fun env L R => e env L fun x La => match x with
  | .ref a => match La a with
    | some (.l xs) => R ⟨xs, fun Lx => Lx a = some (.l xs)⟩ La
    | _ => False
  | _ => False
/-- over a tuple -/
def iTp (e : WE) : WI := fun env L R => e env L fun x La => match x with
  | .tup xs => R ⟨xs, fun _ => True⟩ La
  | _ => False
/-- over the signs of a text -/
def iSt (e : WE) : WI := fun env L R => e env L fun x La => match x with
  | .str z => R ⟨z.cps.toList.map fun c => .str ⟨#[c]⟩, fun _ => True⟩ La
  | _ => False
def rgL (lo : Int) (n : Nat) : List PV := (List.range n).map fun k => PV.int (lo + (k : Nat))
def rgLc (lo c : Int) (n : Nat) : List PV := (List.range n).map fun k => PV.int (lo + (k : Nat) * c)
def RgB (j : Int) : Prop := -(2 ^ 62) ≤ j ∧ j < 2 ^ 62
def iR1 (b : WE) : WI := fun env L R => b env L fun y La => match y with
  | .int j => RgB j ∧ R ⟨rgL 0 j.toNat, fun _ => True⟩ La
  | _ => False
def iR2 (a b : WE) : WI := fun env L R => a env L fun x La => b env La fun y Lb => match x, y with
  | .int i, .int j => RgB i ∧ RgB j ∧ R ⟨rgL i (j - i).toNat, fun _ => True⟩ Lb
  | _, _ => False
def iR3 (a b c : WE) : WI := fun env L R => a env L fun x La => b env La fun y Lb => c env Lb fun z Lc => match x, y, z with
  | .int i, .int j, .int c => ∃ n, RgC i j c n ∧ R ⟨rgLc i c n, fun _ => True⟩ Lc
  | _, _, _ => False
def enL (xs : List PV) : List PV := (List.range xs.length).map fun k => PV.tup [.int (k : Nat), xs.getD k .non]
def zipL (xs ys : List PV) : List PV := List.zipWith (fun x y => PV.tup [x, y]) xs ys
/-- a thing that enumerate and zip walk: a list, a tuple, a text -/
def srcK (x : PV) (L : Sto) (R : List PV → (Sto → Prop) → Prop) : Prop := match x with
  | .ref a => match L a with
    | some (.l xs) => R xs fun Lx => Lx a = some (.l xs)
    | _ => False
  | .tup xs => R xs fun _ => True
  | .str z => R (z.cps.toList.map fun c => .str ⟨#[c]⟩) fun _ => True
  | _ => False
def zip3L (xs ys zs : List PV) : List PV := List.zipWith (fun (f : PV → PV) z => f z) (List.zipWith (fun x y => fun z => PV.tup [x, y, z]) xs ys) zs
def iEn (e : WE) : WI := fun env L R => e env L fun x La => srcK x La fun xs kp => R ⟨enL xs, kp⟩ La
def iZp (a b : WE) : WI := fun env L R => a env L fun x La => b env La fun y Lb => srcK x Lb fun xs kx => srcK y Lb fun ys ky => R ⟨zipL xs ys, fun Lx => kx Lx ∧ ky Lx⟩ Lb
def iZ3 (a b c : WE) : WI := fun env L R => a env L fun x La => b env La fun y Lb => c env Lb fun z Lc => srcK x Lc fun xs kx => srcK y Lc fun ys ky => srcK z Lc fun zs kz => R ⟨zip3L xs ys zs, fun Lx => kx Lx ∧ ky Lx ∧ kz Lx⟩ Lc
def iRv (e : WE) : WI := fun env L R => e env L fun x La => match x with
  | .ref a => match La a with
    | some (.l xs) => R ⟨xs.reverse, fun Lx => Lx a = some (.l xs)⟩ La
    | _ => False
  | _ => False

section
variable {X : Cx} {K : PySem.W.Frag} {Ha : Hp} {La : Sto}
theorem Rd.lst_inj {H : Hp} {a : Addr} {vs ws : List V} (h : H a = some (.lst vs)) (q : SqL K H a ws) (hk : K.lookup a = none ∨ True) : True := trivial
theorem wk_range {lo : Int} {n : Nat} : WalkR K ⟨rgL lo n, fun _ => True⟩ (Itr lo n) Ha La := by
  intro i H L f r k
  have hl : (rgL lo n).length = n := by unfold rgL; rw [List.length_map, List.length_range]
  refine ⟨fun hi => ⟨by show i < n; rw [← hl]; exact hi, fun v H' y => ?_⟩, fun hi => by show n ≤ i; rw [hi]; show n ≤ (rgL lo n).length; rw [hl]; exact Nat.le_refl _⟩
  obtain ⟨rfl, rfl⟩ := y
  have hi' : i < n := by rw [← hl]; exact hi
  refine ⟨.int (lo + i), ?_, rfl, .refl, r⟩
  show (rgL lo n)[i]? = _
  unfold rgL
  rw [List.getElem?_map, List.getElem?_range hi']
  rfl
theorem wk_rangeC {lo c : Int} {n : Nat} : WalkR K ⟨rgLc lo c n, fun _ => True⟩ (Itc lo c n) Ha La := by
  intro i H L f r k
  have hl : (rgLc lo c n).length = n := by unfold rgLc; rw [List.length_map, List.length_range]
  refine ⟨fun hi => ⟨by show i < n; rw [← hl]; exact hi, fun v H' y => ?_⟩, fun hi => by show n ≤ i; rw [hi]; show n ≤ (rgLc lo c n).length; rw [hl]; exact Nat.le_refl _⟩
  obtain ⟨rfl, rfl⟩ := y
  have hi' : i < n := by rw [← hl]; exact hi
  refine ⟨.int (lo + (i : Nat) * c), ?_, rfl, .refl, r⟩
  show (rgLc lo c n)[i]? = _
  unfold rgLc
  rw [List.getElem?_map, List.getElem?_range hi']
  rfl
theorem wk_tup {a : Addr} {xs : List PV} {vs : List V} (ra : RepH K Ha La) (t : TupAt K Ha a vs) (rv : RepVs K Ha xs vs) : WalkR K ⟨xs, fun _ => True⟩ (Itt K a) Ha La := by
  intro i H L f r k
  have t' := t.ex (f.ex ra)
  have rv' := rv.ex (f.ex ra)
  refine ⟨fun hi => ?_, fun hi => ⟨vs, t'.sq, by rw [hi]; show vs.length ≤ xs.length; rw [rv.length]; exact Nat.le_refl _⟩⟩
  have hx : xs[i]? = some xs[i] := List.getElem?_eq_getElem hi
  obtain ⟨v, h1, h2⟩ := rv'.get hx
  refine ⟨⟨vs, v, t'.sq, h1⟩, fun u H' y => ?_⟩
  obtain ⟨rfl, y⟩ := y
  have e := y vs t'.sq
  rw [h1] at e
  cases e
  exact ⟨_, hx, h2, .refl, r⟩
theorem wk_list {a : Addr} {xs : List PV} : WalkR K ⟨xs, fun Lx => Lx a = some (.l xs)⟩ (Itl K a) Ha La := by
  intro i H L f r k
  obtain ⟨vs, h1, rv⟩ := r.lst k
  refine ⟨fun hi => ?_, fun hi => ⟨vs, .of h1, by rw [hi]; show vs.length ≤ xs.length; rw [rv.length]; exact Nat.le_refl _⟩⟩
  have hx : xs[i]? = some xs[i] := List.getElem?_eq_getElem hi
  obtain ⟨v, h2, h3⟩ := rv.get hx
  refine ⟨⟨vs, v, .of h1, h2⟩, fun u H' y => ?_⟩
  obtain ⟨rfl, y⟩ := y
  have e := y vs (.of h1)
  rw [h2] at e
  cases e
  exact ⟨_, hx, h3, .refl, r⟩
theorem wk_rev {a : Addr} {xs : List PV} {n : Nat} (hn : n = xs.length) : WalkR K ⟨xs.reverse, fun Lx => Lx a = some (.l xs)⟩ (Itv K a n) Ha La := by
  subst hn
  intro i H L f r k
  obtain ⟨vs, h1, rv⟩ := r.lst k
  refine ⟨fun hi => ?_, fun hi => by show xs.length ≤ i; rw [hi]; show xs.length ≤ xs.reverse.length; rw [List.length_reverse]; exact Nat.le_refl _⟩
  have hi' : i < xs.length := by
    have : i < xs.reverse.length := hi
    rw [List.length_reverse] at this
    exact this
  have hj : xs.length - 1 - i < xs.length := by omega
  have hx : xs[xs.length - 1 - i]? = some xs[xs.length - 1 - i] := List.getElem?_eq_getElem hj
  obtain ⟨v, h2, h3⟩ := rv.get hx
  refine ⟨⟨hi', vs, v, .of h1, h2⟩, fun u H' y => ?_⟩
  obtain ⟨rfl, y⟩ := y
  have e := y vs (.of h1)
  rw [h2] at e
  cases e
  refine ⟨_, ?_, h3, .refl, r⟩
  show xs.reverse[i]? = _
  rw [List.getElem?_reverse hi', hx]
theorem wk_str {z : Str} : WalkR K ⟨z.cps.toList.map fun c => .str ⟨#[c]⟩, fun _ => True⟩ (Its z) Ha La := by
  intro i H L f r k
  refine ⟨fun hi => ?_, fun hi => by show z.cps.size ≤ i; rw [hi]; show z.cps.size ≤ (z.cps.toList.map _).length; rw [List.length_map, Array.length_toList]; exact Nat.le_refl _⟩
  have hi' : i < z.cps.size := by
    have : i < (z.cps.toList.map fun c => PV.str ⟨#[c]⟩).length := hi
    rw [List.length_map, Array.length_toList] at this
    exact this
  refine ⟨hi', fun v H' y => ?_⟩
  obtain ⟨rfl, c, e, rfl⟩ := y
  refine ⟨.str ⟨#[c]⟩, ?_, rfl, .refl, r⟩
  show (z.cps.toList.map _)[i]? = _
  rw [List.getElem?_map, Array.getElem?_toList, e]
  rfl
theorem pair_ok {H : Hp} {L : Sto} (r : RepH K H L) {T : Addr} {x y : PV} {v w : V} (hT : H T = none) (rx : RepV K H x v) (ry : RepV K H y w) :
    RepV K (upd H T (.tup [v, w])) (.tup [x, y]) (.ref T) ∧ Fm H L (upd H T (.tup [v, w])) L ∧ RepH K (upd H T (.tup [v, w])) L :=
  ⟨repv_tup ⟨v, [w], rfl, rx, w, [], rfl, ry, rfl⟩ hT, fm_tup r hT, reph_tup r hT⟩
/-- what is walked, as the machine holds it -/
def SrcOk (K : PySem.W.Frag) (Ha : Hp) (La : Sto) (d : Sd) (xs : List PV) (kp : Sto → Prop) : Prop := kp La ∧ ∀ H L, Fm Ha La H L → RepH K H L → kp L → ∃ vs, d.At K H vs ∧ RepVs K H xs vs
theorem src_ok {x : PV} {v : V} {R : List PV → (Sto → Prop) → Prop} (rx : RepV K Ha x v) (rh : RepH K Ha La) (h : srcK x La R) : ∃ xs kp d, R xs kp ∧ v = d.val ∧ SrcOk K Ha La d xs kp := by
  unfold srcK at h
  split at h
  · cases (show _ = _ from rx)
    rename_i a
    split at h
    · rename_i xs e
      refine ⟨xs, _, .l a, h, rfl, e, fun H L f r k => ?_⟩
      obtain ⟨vs, h1, rv⟩ := r.lst k
      exact ⟨vs, .of h1, rv⟩
    · exact h.elim
  · obtain ⟨p, vs, rfl, t, r⟩ := rx
    exact ⟨_, _, .t p, h, rfl, trivial, fun H L f _ _ => ⟨vs, (t.ex (f.ex rh)).sq, r.ex (f.ex rh)⟩⟩
  · cases (show _ = _ from rx)
    rename_i z
    refine ⟨_, _, .s z, h, rfl, trivial, fun H L f _ _ => ⟨chV z, rfl, ?_⟩⟩
    unfold chV
    generalize z.cps.toList = cs
    induction cs with
    | nil => rfl
    | cons c cs ih => exact ⟨_, _, rfl, rfl, ih⟩
  · exact h.elim
theorem SrcOk.fm {H1 : Hp} {L1 : Sto} {d : Sd} {xs : List PV} {kp : Sto → Prop} (h : SrcOk K Ha La d xs kp) (f : Fm Ha La H1 L1) (k : kp L1) : SrcOk K H1 L1 d xs kp := ⟨k, fun H L f' r k' => h.2 H L (f.trans f') r k'⟩
theorem wk_E {d : Sd} {xs : List PV} {kp : Sto → Prop} (h : SrcOk K Ha La d xs kp) : WalkR K ⟨enL xs, kp⟩ (ItE K d) Ha La := by
  intro i H L f r k
  obtain ⟨vs, h1, rv⟩ := h.2 H L f r k
  have hl : (enL xs).length = xs.length := by unfold enL; rw [List.length_map, List.length_range]
  refine ⟨fun hi => ?_, fun hi => ⟨vs, h1, by rw [hi]; show vs.length = (enL xs).length; rw [hl, rv.length]⟩⟩
  have hi' : i < xs.length := by rw [← hl]; exact hi
  have hx : xs[i]? = some xs[i] := List.getElem?_eq_getElem hi'
  obtain ⟨v, h2, h3⟩ := rv.get hx
  refine ⟨⟨vs, h1, by rw [← rv.length]; exact hi'⟩, fun u H' y => ?_⟩
  obtain ⟨T, w, rfl, hT, rfl, y⟩ := y
  have e := y vs h1
  rw [h2] at e
  cases e
  obtain ⟨q1, q2, q3⟩ := pair_ok r (x := .int (i : Nat)) (v := .int (i : Nat)) hT rfl h3
  refine ⟨_, ?_, q1, q2, q3⟩
  show (enL xs)[i]? = _
  unfold enL
  rw [List.getElem?_map, List.getElem?_range hi']
  simp [List.getD, hx]
theorem wk_Z {d1 d2 : Sd} {xs ys : List PV} {kx ky : Sto → Prop} (hx : SrcOk K Ha La d1 xs kx) (hy : SrcOk K Ha La d2 ys ky) : WalkR K ⟨zipL xs ys, fun L => kx L ∧ ky L⟩ (ItZ K d1 d2) Ha La := by
  intro i H L f r k
  obtain ⟨vs, h1, rv⟩ := hx.2 H L f r k.1
  obtain ⟨ws, g1, rw'⟩ := hy.2 H L f r k.2
  have hl : (zipL xs ys).length = min xs.length ys.length := by unfold zipL; rw [List.length_zipWith]
  have l1 := rv.length
  have l2 := rw'.length
  refine ⟨fun hi => ?_, fun hi => ⟨vs, ws, h1, g1, ?_⟩⟩
  · have hi' : i < min xs.length ys.length := by rw [← hl]; exact hi
    have hx : xs[i]? = some xs[i] := List.getElem?_eq_getElem (by omega)
    have hy : ys[i]? = some ys[i] := List.getElem?_eq_getElem (by omega)
    obtain ⟨v, h2, h3⟩ := rv.get hx
    obtain ⟨w, g2, g3⟩ := rw'.get hy
    refine ⟨⟨vs, ws, h1, g1, by omega, by omega⟩, fun u H' y => ?_⟩
    obtain ⟨T, v', w', rfl, hT, rfl, y1, y2⟩ := y
    have e := y1 vs h1
    rw [h2] at e
    cases e
    have e := y2 ws g1
    rw [g2] at e
    cases e
    obtain ⟨q1, q2, q3⟩ := pair_ok r hT h3 g3
    refine ⟨_, ?_, q1, q2, q3⟩
    show (zipL xs ys)[i]? = _
    unfold zipL
    rw [List.getElem?_zipWith, hx, hy]
  · have e : i = min xs.length ys.length := by rw [hi]; exact hl
    omega
theorem zip3_len {xs ys zs : List PV} : (zip3L xs ys zs).length = min (min xs.length ys.length) zs.length := by unfold zip3L; rw [List.length_zipWith, List.length_zipWith]
theorem wk_Y {d1 d2 d3 : Sd} {xs ys zs : List PV} {kx ky kz : Sto → Prop} (hx : SrcOk K Ha La d1 xs kx) (hy : SrcOk K Ha La d2 ys ky) (hz : SrcOk K Ha La d3 zs kz) : WalkR K ⟨zip3L xs ys zs, fun L => kx L ∧ ky L ∧ kz L⟩ (ItY K d1 d2 d3) Ha La := by
  intro i H L f r k
  obtain ⟨vs, h1, rv⟩ := hx.2 H L f r k.1
  obtain ⟨ws, g1, rw'⟩ := hy.2 H L f r k.2.1
  obtain ⟨us, k1, ru'⟩ := hz.2 H L f r k.2.2
  have hl := zip3_len (xs := xs) (ys := ys) (zs := zs)
  have l1 := rv.length
  have l2 := rw'.length
  have l3 := ru'.length
  refine ⟨fun hi => ?_, fun hi => ⟨vs, ws, us, h1, g1, k1, ?_⟩⟩
  · have hi' : i < min (min xs.length ys.length) zs.length := by rw [← hl]; exact hi
    have hx : xs[i]? = some xs[i] := List.getElem?_eq_getElem (by omega)
    have hy : ys[i]? = some ys[i] := List.getElem?_eq_getElem (by omega)
    have hz : zs[i]? = some zs[i] := List.getElem?_eq_getElem (by omega)
    obtain ⟨v, h2, h3⟩ := rv.get hx
    obtain ⟨w, g2, g3⟩ := rw'.get hy
    obtain ⟨u, k2, k3⟩ := ru'.get hz
    refine ⟨⟨vs, ws, us, h1, g1, k1, by omega, by omega, by omega⟩, fun u H' y => ?_⟩
    obtain ⟨T, v', w', u', rfl, hT, rfl, y1, y2, y3⟩ := y
    have e := y1 vs h1
    rw [h2] at e
    cases e
    have e := y2 ws g1
    rw [g2] at e
    cases e
    have e := y3 us k1
    rw [k2] at e
    cases e
    refine ⟨.tup [xs[i], ys[i], zs[i]], ?_, repv_tup ⟨_, _, rfl, h3, _, _, rfl, g3, _, [], rfl, k3, rfl⟩ hT, fm_tup r hT, reph_tup r hT⟩
    show (zip3L xs ys zs)[i]? = _
    unfold zip3L
    rw [List.getElem?_zipWith, List.getElem?_zipWith, hx, hy, hz]
  · have e : i = min (min xs.length ys.length) zs.length := by rw [hi]; exact hl
    omega
end

section
variable {X : Cx} {pos p : Pos} {a b c tg : Expr} {wa wb wc : WE}
theorem i_ls (ha : PE X a (liftE X.K wa)) : PI X tg a (liftI X.K (iLs wa)) := pi_weak (pi_list ha) fun σ H R h => by
  obtain ⟨env, L, R', hs, hL, hw, k⟩ := h
  refine ⟨env, L, _, hs, hL, hw, fun x La v H1 hb f1 rx r1 => ?_⟩
  cases x <;> first | exact absurd hb (fun z => z) | skip
  cases (show _ = _ from rx)
  simp only at hb
  split at hb
  · rename_i xs e
    obtain ⟨vs, h1, _⟩ := r1.lst e
    exact ⟨_, rfl, ⟨vs, .of h1⟩, k _ La H1 _ hb f1 r1 wk_list⟩
  · exact hb.elim
theorem i_tp (ha : PE X a (liftE X.K wa)) : PI X tg a (liftI X.K (iTp wa)) := pi_weak (pi_tup ha) fun σ H R h => by
  obtain ⟨env, L, R', hs, hL, hw, k⟩ := h
  refine ⟨env, L, _, hs, hL, hw, fun x La v H1 hb f1 rx r1 => ?_⟩
  cases x <;> first | exact absurd hb (fun z => z) | skip
  obtain ⟨p, vs, rfl, t, r⟩ := rx
  exact ⟨p, rfl, ⟨vs, t.sq⟩, k _ La H1 _ hb f1 r1 (wk_tup r1 t r)⟩
theorem i_st (ha : PE X a (liftE X.K wa)) : PI X tg a (liftI X.K (iSt wa)) := pi_weak (pi_str ha) fun σ H R h => by
  obtain ⟨env, L, R', hs, hL, hw, k⟩ := h
  refine ⟨env, L, _, hs, hL, hw, fun x La v H1 hb f1 rx r1 => ?_⟩
  cases x <;> first | exact absurd hb (fun z => z) | skip
  cases (show _ = _ from rx)
  exact ⟨_, rfl, k _ La H1 _ hb f1 r1 wk_str⟩
theorem lift_a1 {σ : L2.St} {H : Hp} {T : List V → Hp → Prop} {env : Env} {L : Sto} {R : PK} (hs : RepS X.K H σ env) (hL : RepH X.K H L) (hw : wa env L R)
    (k : ∀ x La v H1, R x La → Fm H L H1 La → RepV X.K H1 x v → RepH X.K H1 La → T [v] H1) : liftA X.K [wa] σ H T := by
  refine ⟨env, L, fun xs La => match xs with | [x] => R x La | _ => False, hs, hL, hw, fun xs La vs H1 hb hn f1 rx r1 => ?_⟩
  match xs, hb with
  | [x], hb =>
    obtain ⟨v, rfl, rv⟩ := rx.one
    exact k x La v H1 hb f1 rv r1
theorem lift_a2 {σ : L2.St} {H : Hp} {T : List V → Hp → Prop} {env : Env} {L : Sto} {R : PV → PV → Sto → Prop} (hs : RepS X.K H σ env) (hL : RepH X.K H L) (hw : wa env L fun x La => wb env La fun y Lb => R x y Lb)
    (k : ∀ x y La v w H1, R x y La → Fm H L H1 La → RepV X.K H1 x v → RepV X.K H1 y w → RepH X.K H1 La → T [v, w] H1) : liftA X.K [wa, wb] σ H T := by
  refine ⟨env, L, fun xs La => match xs with | [x, y] => R x y La | _ => False, hs, hL, hw, fun xs La vs H1 hb hn f1 rx r1 => ?_⟩
  match xs, hb with
  | [x, y], hb =>
    obtain ⟨v, w, rfl, rv, rw'⟩ := rx.two
    exact k x y La v w H1 hb f1 rv rw' r1
theorem lift_a3 {σ : L2.St} {H : Hp} {T : List V → Hp → Prop} {env : Env} {L : Sto} {R : PV → PV → PV → Sto → Prop} (hs : RepS X.K H σ env) (hL : RepH X.K H L) (hw : wa env L fun x La => wb env La fun y Lb => wc env Lb fun z Lc => R x y z Lc)
    (k : ∀ x y z La v w u H1, R x y z La → Fm H L H1 La → RepV X.K H1 x v → RepV X.K H1 y w → RepV X.K H1 z u → RepH X.K H1 La → T [v, w, u] H1) : liftA X.K [wa, wb, wc] σ H T := by
  refine ⟨env, L, fun xs La => match xs with | [x, y, z] => R x y z La | _ => False, hs, hL, hw, fun xs La vs H1 hb hn f1 rx r1 => ?_⟩
  match xs, hb with
  | [x, y, z], hb =>
    obtain ⟨v, w, u, rfl, rv, rw', ru⟩ := rx.three
    exact k x y z La v w u H1 hb f1 rv rw' ru r1
theorem i_r1 (hg : Gl X "range") (hm : X.mg "range" = none) (ha : PA X [a] (liftA X.K [wa])) (hs : starEach [a] X.env = [(false, eval a X.env)]) : PI X tg (.Call (.Name "range" p) [a] [] pos) (liftI X.K (iR1 wa)) := pi_weak (pi_range1 hg hm ha hs) fun σ H R h => by
  obtain ⟨env, L, R', hs, hL, hw, k⟩ := h
  refine lift_a1 hs hL hw fun x La v H1 hb f1 rx r1 => ?_
  cases x <;> first | exact absurd hb (fun z => z) | skip
  cases (show _ = _ from rx)
  exact ⟨_, rfl, hb.1.1, hb.1.2, k _ La H1 _ hb.2 f1 r1 wk_range⟩
theorem i_r2 (hg : Gl X "range") (hm : X.mg "range" = none) (ha : PA X [a, b] (liftA X.K [wa, wb])) (hs : starEach [a, b] X.env = [(false, eval a X.env), (false, eval b X.env)]) (hs2 : starEach [b] X.env = [(false, eval b X.env)]) :
    PI X tg (.Call (.Name "range" p) [a, b] [] pos) (liftI X.K (iR2 wa wb)) := pi_weak (pi_range2 hg hm ha hs hs2) fun σ H R h => by
  obtain ⟨env, L, R', hs, hL, hw, k⟩ := h
  refine lift_a2 hs hL hw fun x y La v w H1 hb f1 rx ry r1 => ?_
  cases x <;> cases y <;> first | exact absurd hb (fun z => z) | skip
  cases (show _ = _ from rx)
  cases (show _ = _ from ry)
  exact ⟨_, _, rfl, ⟨hb.1.1, hb.1.2, hb.2.1.1, hb.2.1.2⟩, k _ La H1 _ hb.2.2 f1 r1 wk_range⟩
theorem i_r3 (hg : Gl X "range") (hm : X.mg "range" = none) (ha : PA X [a, b, c] (liftA X.K [wa, wb, wc])) (hs : starEach [a, b, c] X.env = (false, eval a X.env) :: starEach [b, c] X.env) (hpl : (backTo pos (starEach [b, c] X.env)).any (·.1) = false) :
    PI X tg (.Call (.Name "range" p) [a, b, c] [] pos) (liftI X.K (iR3 wa wb wc)) := pi_weak (pi_range3 hg hm ha hs hpl) fun σ H R h => by
  obtain ⟨env, L, R', hs, hL, hw, k⟩ := h
  refine lift_a3 hs hL hw fun x y z La v w u H1 hb f1 rx ry rz r1 => ?_
  cases x <;> cases y <;> cases z <;> first | exact absurd hb (fun z => z) | skip
  cases (show _ = _ from rx)
  cases (show _ = _ from ry)
  cases (show _ = _ from rz)
  obtain ⟨n, h1, h2⟩ := hb
  exact ⟨_, _, _, n, rfl, h1, k _ La H1 _ h2 f1 r1 wk_rangeC⟩
theorem i_en {elts : List Expr} {kk : Nat} {tpos : Pos} (hg : Gl X "enumerate") (hm : X.mg "enumerate" = none) (ha : PA X [a] (liftA X.K [wa])) (hs : starEach [a] X.env = [(false, eval a X.env)]) : PI X (.Tuple elts kk tpos) (.Call (.Name "enumerate" p) [a] [] pos) (liftI X.K (iEn wa)) := pi_weak (pi_EG hg hm ha hs) fun σ H R h => by
  obtain ⟨env, L, R', hs, hL, hw, k⟩ := h
  refine lift_a1 hs hL hw fun x La v H1 hb f1 rx r1 => ?_
  obtain ⟨xs, kp, d, hR, rfl, ok⟩ := src_ok rx r1 hb
  obtain ⟨vs, h1, _⟩ := ok.2 H1 La .refl r1 ok.1
  exact ⟨d, vs, rfl, h1, k _ La H1 _ hR f1 r1 (wk_E ok)⟩
theorem i_rv (hg : Gl X "reversed") (hm : X.mg "reversed" = none) (ha : PA X [a] (liftA X.K [wa])) (hs : starEach [a] X.env = [(false, eval a X.env)]) : PI X tg (.Call (.Name "reversed" p) [a] [] pos) (liftI X.K (iRv wa)) := pi_weak (pi_reversed hg hm ha hs) fun σ H R h => by
  obtain ⟨env, L, R', hs, hL, hw, k⟩ := h
  refine lift_a1 hs hL hw fun x La v H1 hb f1 rx r1 => ?_
  cases x <;> first | exact absurd hb (fun z => z) | skip
  cases (show _ = _ from rx)
  simp only at hb
  split at hb
  · rename_i xs e
    obtain ⟨vs, h1, rv⟩ := r1.lst e
    exact ⟨_, vs, rfl, .of h1, k _ La H1 _ hb f1 r1 (wk_rev rv.length.symm)⟩
  · exact hb.elim
theorem i_zp {elts : List Expr} {kk : Nat} {tpos : Pos} (hg : Gl X "zip") (hm : X.mg "zip" = none) (ha : PA X [a, b] (liftA X.K [wa, wb])) (hs : starEach [a, b] X.env = (false, eval a X.env) :: starEach [b] X.env) (hpl : (backTo pos (starEach [b] X.env)).any (·.1) = false) :
    PI X (.Tuple elts kk tpos) (.Call (.Name "zip" p) [a, b] [] pos) (liftI X.K (iZp wa wb)) := pi_weak (pi_ZG hg hm ha hs hpl) fun σ H R h => by
  obtain ⟨env, L, R', hs, hL, hw, k⟩ := h
  refine lift_a2 hs hL hw fun x y La v w H1 hb f1 rx ry r1 => ?_
  obtain ⟨xs, kx, d1, hb, rfl, ok1⟩ := src_ok rx r1 hb
  obtain ⟨ys, ky, d2, hb, rfl, ok2⟩ := src_ok ry r1 hb
  obtain ⟨vs, h1, _⟩ := ok1.2 H1 La .refl r1 ok1.1
  obtain ⟨ws, h2, _⟩ := ok2.2 H1 La .refl r1 ok2.1
  exact ⟨d1, d2, vs, ws, rfl, h1, h2, k _ La H1 _ hb f1 r1 (wk_Z ok1 ok2)⟩
theorem i_z3 {elts : List Expr} {kk : Nat} {tpos : Pos} (hg : Gl X "zip") (hm : X.mg "zip" = none) (ha : PA X [a, b, c] (liftA X.K [wa, wb, wc])) (hs : starEach [a, b, c] X.env = (false, eval a X.env) :: starEach [b, c] X.env) (hpl : (backTo pos (starEach [b, c] X.env)).any (·.1) = false) :
    PI X (.Tuple elts kk tpos) (.Call (.Name "zip" p) [a, b, c] [] pos) (liftI X.K (iZ3 wa wb wc)) := pi_weak (pi_YG hg hm ha hs hpl) fun σ H R h => by
  obtain ⟨env, L, R', hs, hL, hw, k⟩ := h
  refine lift_a3 hs hL hw fun x y z La v w u H1 hb f1 rx ry rz r1 => ?_
  obtain ⟨xs, kx, d1, hb, rfl, ok1⟩ := src_ok rx r1 hb
  obtain ⟨ys, ky, d2, hb, rfl, ok2⟩ := src_ok ry r1 hb
  obtain ⟨zs, kz, d3, hb, rfl, ok3⟩ := src_ok rz r1 hb
  obtain ⟨vs, h1, _⟩ := ok1.2 H1 La .refl r1 ok1.1
  obtain ⟨ws, h2, _⟩ := ok2.2 H1 La .refl r1 ok2.1
  obtain ⟨us, h3, _⟩ := ok3.2 H1 La .refl r1 ok3.1
  exact ⟨d1, d2, d3, vs, ws, us, rfl, h1, h2, h3, k _ La H1 _ hb f1 r1 (wk_Y ok1 ok2 ok3)⟩
end

/-! ### targets -/
abbrev WG := PV → Env → Sto → (Env → Sto → Prop) → Prop
abbrev WGs := List PV → Env → Sto → (Env → Sto → Prop) → Prop
def liftG (K : PySem.W.Frag) (g : WG) : TG := fun v σ H Q => ∃ x env L R, RepV K H x v ∧ RepS K H σ env ∧ RepH K H L ∧ g x env L R ∧ ∀ env' L' σ' H', R env' L' → Fm H L H' L' → RepS K H' σ' env' → RepH K H' L' → Q σ' H'
def liftGs (K : PySem.W.Frag) (g : WGs) : TGs := fun v σ H Q => ∃ x env L R, RepVs K H x v ∧ RepS K H σ env ∧ RepH K H L ∧ g x env L R ∧ ∀ env' L' σ' H', R env' L' → Fm H L H' L' → RepS K H' σ' env' → RepH K H' L' → Q σ' H'
def gN (i : Nat) : WG := fun x env L R => R (env.set i (some x)) L
def gsNil : WGs := fun xs env L R => match xs with
  | [] => R env L
  | _ => False
def gsCons (g : WG) (gs : WGs) : WGs := fun xs env L R => match xs with
  | x :: r => g x env L fun env' L' => gs r env' L' R
  | _ => False
def gT (n : Nat) (gs : WGs) : WG := fun x env L R => match x with
  | .tup xs => xs.length = n ∧ gs xs env L R
  | .ref a => ∃ xs, L a = some (.l xs) ∧ xs.length = n ∧ gs xs env L R
  | _ => False
def gTU (K : PySem.W.Frag) (n : Nat) (t : TGs) : TG := fun v σ H Q => gTup K n t v σ H Q ∨ gUnl K n t v σ H Q
theorem pg_tupU {X : Cx} {pos : Pos} {es : List Expr} {k n : Nat} {t : TGs} (hc : X.calm = true) (h : PGs X es t) (hn : (assignEach es X.env).length = n) (hst : (assignEach es X.env).findIdx? (·.1) = none) : PG X (.Tuple es k pos) (gTU X.K n t) :=
  ⟨fun pins s σ H v u Q I r q => q.elim (fun q => (pg_tup hc h hn hst).run pins s σ H v u Q I r q) fun q => (pg_unl hc h hn hst).run pins s σ H v u Q I r q⟩
/-- o[i] = x, of a list or a dict -/
def gS (o i : WE) : WG := fun x env L R => o env L fun y La => i env La fun z Lb => match y, z with
  | .ref a, .int k => ∃ xs j, Lb a = some (.l xs) ∧ ixN xs.length k = some j ∧ R env (put Lb a (.l (xs.set j x)))
  | _, _ => False
section
variable {X : Cx} {pos p : Pos} {a b tg : Expr} {wa wb wc : WE} {K : PySem.W.Frag} {H H' : Hp} {σ : L2.St} {env : Env} {L : Sto}
theorem RepS.set (h : RepS K H σ env) (i : Nat) {x : PV} {v : V} (r : RepV K H x v) : RepS K H (σ.set i (some v)) (env.set i (some x)) := by
  refine ⟨by rw [List.length_set, List.length_set]; exact h.1, fun j y e => ?_⟩
  by_cases hj : j = i
  · subst hj
    by_cases hl : j < env.length
    · rw [List.getElem?_set_self hl] at e
      cases e
      exact ⟨v, by rw [List.getElem?_set_self (by rw [h.1]; exact hl)], r⟩
    · rw [List.getElem?_eq_none (by rw [List.length_set]; omega)] at e
      cases e
  · rw [List.getElem?_set_ne (Ne.symm hj)] at e
    obtain ⟨w, h1, h2⟩ := h.2 j y e
    exact ⟨w, by rw [List.getElem?_set_ne (Ne.symm hj)]; exact h1, h2⟩
theorem pg_weak {t t' : TG} (h : PG X tg t) (w : ∀ v σ H Q, t' v σ H Q → t v σ H Q) : PG X tg t' := ⟨fun pins s σ H v u Q I r q => h.run pins s σ H v u Q I r (w v σ H Q q)⟩
theorem pgs_weak {tgs : List Expr} {t t' : TGs} (h : PGs X tgs t) (w : ∀ v σ H Q, t' v σ H Q → t v σ H Q) : PGs X tgs t' := ⟨fun pins s σ H v u Q I r q => h.run pins s σ H v u Q I r (w v σ H Q q)⟩
theorem g_name {i : Nat} {x : Str} (hN : X.N.Nodup) (hi : X.N[i]? = some x) (hx : Loc X.env.scope x) (hf : X.fn x = true ∨ X.env.scope.names.lookup x = some .local) : PG X (.Name x pos) (liftG X.K (gN i)) :=
  pg_weak (pg_name hN hi hx hf) fun v σ H Q h => by
    obtain ⟨x, env, L, R, rx, hs, hL, hw, k⟩ := h
    exact k _ L _ H hw .refl (hs.set i rx) hL
theorem g_nil : PGs X [] (liftGs X.K gsNil) := pgs_weak pgs_nil fun v σ H Q h => by
  obtain ⟨x, env, L, R, rx, hs, hL, hw, k⟩ := h
  match x, hw with
  | [], hw =>
    cases (show _ = _ from rx)
    exact ⟨rfl, k _ L _ H hw .refl hs hL⟩
theorem g_cons {es : List Expr} {g : WG} {gs : WGs} (h1 : PG X tg (liftG X.K g)) (h2 : PGs X es (liftGs X.K gs)) (hs : (assignEach (tg :: es) X.env).map (·.2) = assign tg X.env :: (assignEach es X.env).map (·.2)) : PGs X (tg :: es) (liftGs X.K (gsCons g gs)) :=
  pgs_weak (pgs_cons h1 h2 hs) fun v σ H Q h => by
    obtain ⟨x, env, L, R, rx, hs, hL, hw, k⟩ := h
    match x, hw with
    | x :: r, hw =>
      obtain ⟨w, ws, rfl, rw', rr⟩ := rx
      refine ⟨w, ws, rfl, x, env, L, _, rw', hs, hL, hw, fun env' L' σ' H' hb f1 hs' r1 => ?_⟩
      exact ⟨r, env', L', R, rr.ex (f1.ex hL), hs', r1, hb, fun e2 l2 s2 h2 hr f2 => k e2 l2 s2 h2 hr (f1.trans f2)⟩
theorem g_tup {es : List Expr} {kk n : Nat} {gs : WGs} (hc : X.calm = true) (h : PGs X es (liftGs X.K gs)) (hn : (assignEach es X.env).length = n) (hst : (assignEach es X.env).findIdx? (·.1) = none) : PG X (.Tuple es kk pos) (liftG X.K (gT n gs)) :=
  pg_weak (pg_tupU hc h hn hst) fun v σ H Q h => by
    obtain ⟨x, env, L, R, rx, hs, hL, hw, k⟩ := h
    match x, hw with
    | .tup xs, hw =>
      obtain ⟨a, vs, rfl, t, r⟩ := rx
      exact .inl ⟨a, vs, rfl, t.sq, by rw [← r.length]; exact hw.1, xs, env, L, R, r, hs, hL, hw.2, k⟩
    | .ref a, hw =>
      cases (show _ = _ from rx)
      obtain ⟨xs, e, h1, h2⟩ := hw
      obtain ⟨vs, h3, r⟩ := hL.lst e
      exact .inr ⟨a, vs, rfl, .of h3, by rw [← r.length]; exact h1, xs, env, L, R, r, hs, hL, h2, k⟩
theorem g_sub (ha : PE X a (liftE X.K wa)) (hb : PE X b (liftE X.K wb)) (hq : ∀ v, assign (.Subscript a b pos) X.env v = (do
      let ov ← holding [v] (eval a X.env)
      let iv ← holding [v, ov] (eval b X.env)
      standAt pos
      holding [v, ov, iv] (setItem ov iv v)
      release [v, ov, iv] [])) : PG X (.Subscript a b pos) (liftG X.K (gS wa wb)) :=
  pg_weak (pg_sub ha hb set_list hq) fun v σ H Q h => by
    obtain ⟨x, env, L, R, rx, hs, hL, hw, k⟩ := h
    refine ⟨env, L, _, hs, hL, hw, fun y La u H1 hb f1 ry r1 => ?_⟩
    refine ⟨env, La, _, hs.ex (f1.ex hL), r1, hb, fun z Lb w H2 hc f2 rz r2 => ?_⟩
    match y, z, hc with
    | .ref q, .int i, hc =>
      cases (show _ = _ from ry)
      cases (show _ = _ from rz)
      obtain ⟨xs, j, e, hj, hr⟩ := hc
      obtain ⟨vs, h1, r⟩ := r2.lst e
      have ex := (f1.ex hL).trans (f2.ex r1)
      refine ⟨q, vs, i, j, rfl, rfl, h1, by rw [← r.length]; exact hj, ?_⟩
      exact k env _ σ _ hr ((f1.trans f2).trans (fm_put e)) ((hs.ex ex).ex (ex_put r2 e)) (reph_put r2 e (r.set j (rx.ex ex)))
end
end Mp
namespace Mp
open PySem PySem.Spec PyProof.Rows L2

/-! ### comprehensions -/
def wipeE (env : Env) : List Nat → Env
  | [] => env
  | v :: vs => (wipeE env vs).set v none
def compW (keep : Sto → Prop) (g : WG) (t e : WE) (env : Env) : List PV → List PV → Sto → (List PV → Sto → Prop) → Prop
  | [], acc, L, R => keep L ∧ R acc L
  | x :: r, acc, L, R => keep L ∧ g x env L fun env' La => t env' La fun b Lb => bIf b (e env' Lb fun y Lc => acc.length < sizeLine ∧ compW keep g t e env r (acc ++ [y]) Lc R) (compW keep g t e env r acc Lb R)
def wComp (own : List Nat) (it : WI) (g : WG) (t e : WE) : WE := fun env L R => it env L fun c La => compW c.keep g t e (wipeE env own) c.items [] La fun acc Lb => newL Lb acc R
def gsN : List Nat → WGs
  | [] => gsNil
  | i :: is => gsCons (gN i) (gsN is)
/-- a comprehension's target: names of its own -/
def CtOk (K : PySem.W.Frag) (g : TG) (wg : WG) (vs : List Nat) : Prop := ∀ (v : V) (x : PV) (σ : L2.St) (env : Env) (H : Hp) (L : Sto) (R : Env → Sto → Prop) (Q : L2.St → Hp → Prop), RepV K H x v → RepS K H σ env → RepH K H L → wg x env L R →
  (∀ σ2 env2, R env2 L → RepS K H σ2 env2 → wipe σ2 vs = wipe σ vs → Q σ2 H) → g v σ H Q
def CtsOk (K : PySem.W.Frag) (g : TGs) (wg : WGs) (vs : List Nat) : Prop := ∀ (v : List V) (x : List PV) (σ : L2.St) (env : Env) (H : Hp) (L : Sto) (R : Env → Sto → Prop) (Q : L2.St → Hp → Prop), RepVs K H x v → RepS K H σ env → RepH K H L → wg x env L R →
  (∀ σ2 env2, R env2 L → RepS K H σ2 env2 → wipe σ2 vs = wipe σ vs → Q σ2 H) → g v σ H Q
section
variable {X : Cx} {K : PySem.W.Frag} {H H' : Hp} {σ : L2.St} {env : Env} {L : Sto}
theorem wipe_set {σ : L2.St} {i : Nat} {v : Option V} : ∀ {vs : List Nat}, i ∈ vs → wipe (σ.set i v) vs = wipe σ vs
  | a :: vs, h => by
    show (wipe (σ.set i v) vs).set a none = (wipe σ vs).set a none
    by_cases hi : i ∈ vs
    · rw [wipe_set hi]
    · have e : i = a := by
        rcases List.mem_cons.mp h with h | h
        · exact h
        · exact absurd h hi
      subst e
      have com : ∀ (vs : List Nat) (σ : L2.St), i ∉ vs → wipe (σ.set i v) vs = (wipe σ vs).set i v := by
        intro vs
        induction vs with
        | nil => intro σ _; rfl
        | cons b vs ih =>
          intro σ hb
          rw [List.mem_cons, not_or] at hb
          show (wipe (σ.set i v) vs).set b none = ((wipe σ vs).set b none).set i v
          rw [ih σ hb.2, List.set_comm _ _ hb.1]
      rw [com vs σ hi, List.set_set]
theorem wipe_get (σ : L2.St) (i : Nat) : ∀ vs : List Nat, (wipe σ vs)[i]? = if i ∈ vs then (if i < σ.length then some none else none) else σ[i]?
  | [] => by rw [if_neg (by simp)]; rfl
  | v :: vs => by
    show ((wipe σ vs).set v none)[i]? = _
    by_cases h : v = i
    · subst h
      rw [if_pos List.mem_cons_self]
      by_cases hl : v < σ.length
      · rw [List.getElem?_set_self (by rw [wipe_length]; exact hl), if_pos hl]
      · rw [List.getElem?_eq_none (by rw [List.length_set, wipe_length]; omega), if_neg hl]
    · rw [List.getElem?_set_ne h, wipe_get σ i vs]
      have e : (i ∈ v :: vs) = (i ∈ vs) := by
        rw [List.mem_cons]
        exact propext ⟨fun q => q.elim (fun z => absurd z.symm h) id, .inr⟩
      simp only [e]
theorem wipe_idem (σ : L2.St) (vs : List Nat) : wipe (wipe σ vs) vs = wipe σ vs := by
  refine List.ext_getElem? fun i => ?_
  rw [wipe_get (wipe σ vs) i vs, wipe_get σ i vs, wipe_length]
  split <;> rfl
theorem wipe_lenE (env : Env) : ∀ vs : List Nat, (wipeE env vs).length = env.length
  | [] => rfl
  | v :: vs => by unfold wipeE; rw [List.length_set, wipe_lenE env vs]
theorem RepS.wipe (h : RepS K H σ env) : ∀ vs : List Nat, RepS K H (L2.wipe σ vs) (wipeE env vs)
  | [] => h
  | v :: vs => by
    have ih := RepS.wipe h vs
    refine ⟨by rw [wipe_length, wipe_lenE]; exact h.1, fun i x e => ?_⟩
    unfold wipeE at e
    unfold L2.wipe
    by_cases hi : v = i
    · subst hi
      by_cases hl : v < (wipeE env vs).length
      · rw [List.getElem?_set_self hl] at e; cases e
      · rw [List.getElem?_eq_none (by rw [List.length_set]; omega)] at e; cases e
    · rw [List.getElem?_set_ne hi] at e
      obtain ⟨w, h1, h2⟩ := ih.2 i x e
      exact ⟨w, by rw [List.getElem?_set_ne hi]; exact h1, h2⟩
theorem ct_one {i : Nat} {vs : List Nat} (hi : i ∈ vs) : CtOk K (gName i) (gN i) vs := fun v x σ env H L R Q rx hs hL hw k => k _ _ hw (hs.set i rx) (wipe_set hi)
theorem cts_nil {vs : List Nat} : CtsOk K gNil gsNil vs := fun v x σ env H L R Q rx hs hL hw k => by
  match x, hw with
  | [], hw =>
    cases (show _ = _ from rx)
    exact ⟨rfl, k _ _ hw hs rfl⟩
theorem cts_cons {i : Nat} {vs : List Nat} {g : TGs} {wg : WGs} (hi : i ∈ vs) (h : CtsOk K g wg vs) : CtsOk K (gCons (gName i) g) (gsCons (gN i) wg) vs := fun v x σ env H L R Q rx hs hL hw k => by
  match x, hw with
  | x :: r, hw =>
    obtain ⟨w, ws, rfl, rw', rr⟩ := rx
    refine ⟨w, ws, rfl, ?_⟩
    exact h ws r _ _ H L R Q rr (hs.set i rw') hL hw fun σ2 env2 h1 h2 h3 => k σ2 env2 h1 h2 (h3.trans (wipe_set hi))
theorem gsN_len : ∀ {is : List Nat} {xs : List PV} {env : Env} {L : Sto} {R : Env → Sto → Prop}, gsN is xs env L R → xs.length = is.length
  | [], [], _, _, _, _ => rfl
  | [], _ :: _, _, _, _, h => h.elim
  | _ :: _, [], _, _, _, h => h.elim
  | i :: is, x :: xs, env, L, R, h => by rw [List.length_cons, List.length_cons, gsN_len (is := is) (show gsN is xs _ L R from h)]
theorem ct_many {is vs : List Nat} {n : Nat} {g : TGs} (hn : n = is.length) (h : CtsOk K g (gsN is) vs) : CtOk K (gTU K n g) (gT is.length (gsN is)) vs := fun v x σ env H L R Q rx hs hL hw k => by
  match x, hw with
  | .tup xs, hw =>
    obtain ⟨a, ws, rfl, t, r⟩ := rx
    exact .inl ⟨a, ws, rfl, t.sq, by rw [← r.length, hn]; exact hw.1, h ws xs σ env H L R Q r hs hL hw.2 k⟩
  | .ref a, hw =>
    cases (show _ = _ from rx)
    obtain ⟨xs, e, h1, h2⟩ := hw
    obtain ⟨ws, h3, r⟩ := hL.lst e
    exact .inr ⟨a, ws, rfl, .of h3, by rw [← r.length, hn]; exact h1, h ws xs σ env H L R Q r hs hL h2 k⟩
theorem compW_keep {keep : Sto → Prop} {g : WG} {t e : WE} {env : Env} {xs acc : List PV} {L : Sto} {R : List PV → Sto → Prop} (h : compW keep g t e env xs acc L R) : keep L := by
  cases xs with
  | nil => exact h.1
  | cons x r => exact h.1
theorem lift_comp {own : List Nat} {wi : WI} {g : TG} {wg : WG} {tt : TT} {wt we : WE} {σ : L2.St} {H : Hp} {Q : VK} (hg : CtOk K g wg own) (ht : ∀ σ H Q, liftT K wt σ H Q → tt σ H Q) (h : liftE K (wComp own wi wg wt we) σ H Q) :
    tLc (liftI K wi) g tt (liftE K we) own σ H Q := by
  obtain ⟨env, L, R, hs, hL, hw, k⟩ := h
  refine ⟨env, L, _, hs, hL, hw, fun c La H1 J hb f1 r1 wk => ?_⟩
  intro D hD
  have LaD := r1.fresh hD
  refine ⟨fun i m H2 => m = c.items.length - i ∧ i ≤ c.items.length ∧ ∃ Lx acc vs, RepH K H2 Lx ∧ Fm H1 La H2 Lx ∧ H2 D = some (.lst vs) ∧ Lx D = none ∧ RepVs K H2 acc vs ∧
      compW c.keep wg wt we (wipeE env own) (c.items.drop i) acc Lx fun acc Lb => newL Lb acc R, ⟨c.items.length, (Nat.sub_zero _).symm, Nat.zero_le _, La, [], [], ?_, ?_, upd_same, LaD, rfl, hb⟩, ?_⟩
  · exact fun a o e => (r1 a o e).ex (ex_new hD) fun u q => by rw [upd_ne (ne_of_none q hD)]; exact q
  · exact fun a o e n => ⟨by rw [upd_ne (ne_of_none e hD)]; exact e, n⟩
  rintro i m H2 ⟨rfl, hi, Lx, acc, vs, r2, f2, hD2, LD2, rv, hc⟩
  have q := wk i H2 Lx f2 r2 (compW_keep hc)
  by_cases hlt : i < c.items.length
  · refine .inr ⟨(q.1 hlt).1, fun H3 => i + 1 ≤ c.items.length ∧ ∃ Lx acc vs, RepH K H3 Lx ∧ Fm H1 La H3 Lx ∧ H3 D = some (.lst vs) ∧ Lx D = none ∧ RepVs K H3 acc vs ∧
      compW c.keep wg wt we (wipeE env own) (c.items.drop (i + 1)) acc Lx fun acc Lb => newL Lb acc R, fun H' hN => ⟨c.items.length - (i + 1), by omega, rfl, hN.1, hN.2⟩, fun v H' hy => ?_⟩
    obtain ⟨x, hx, rx, f3, r3⟩ := (q.1 hlt).2 v H' hy
    have hdrop : c.items.drop i = x :: c.items.drop (i + 1) := by
      rw [List.drop_eq_getElem_cons hlt]
      rw [List.getElem?_eq_getElem hlt] at hx
      rw [Option.some.inj hx]
    rw [hdrop] at hc
    obtain ⟨_, hc⟩ := hc
    have e3 := f3.ex r2
    have ex13 := (f1.ex hL).trans ((f2.ex r1).trans e3)
    obtain ⟨hD3, LD3⟩ := f3 D _ hD2 LD2
    refine hg v x _ (wipeE env own) H' Lx _ _ rx ((hs.ex ex13).wipe own) r3 hc fun σ2 env2 hc2 hs2 hw2 => ⟨by rw [hw2, wipe_idem], ?_⟩
    refine ht _ _ _ ⟨env2, Lx, _, hs2, r3, hc2, fun b Lb H4 hb4 f4 r4 => ?_⟩
    obtain ⟨b, rfl, hb6⟩ := bIf_bl hb4
    clear hb4
    have hb4 := hb6
    refine ⟨b, rfl, ?_⟩
    obtain ⟨hD4, LD4⟩ := f4 D _ hD3 LD3
    have e4 := f4.ex r3
    cases b with
    | false =>
      rw [if_neg Bool.false_ne_true] at hb4 ⊢
      exact ⟨hlt, Lb, acc, vs, r4, f2.trans (f3.trans f4), hD4, LD4, (rv.ex e3).ex e4, hb4⟩
    | true =>
      rw [if_pos rfl] at hb4 ⊢
      refine ⟨env2, Lb, _, hs2.ex e4, r4, hb4, fun y Lc w H5 hb5 f5 ry r5 => ?_⟩
      obtain ⟨hD5, LD5⟩ := f5 D _ hD4 LD4
      have e5 := f5.ex r4
      have rv5 := ((rv.ex e3).ex e4).ex e5
      have exD : Ex H5 (upd H5 D (.lst (vs ++ [w]))) :=
        ⟨fun a xs q => by rw [upd_ne (fun z => by rw [z, hD5] at q; cases q)]; exact q, fun a o xs q => by rw [upd_ne (fun z => by rw [z, hD5] at q; cases q)]; exact q⟩
      refine ⟨vs, hD5, by rw [← rv.length]; exact hb5.1, hlt, Lc, acc ++ [y], vs ++ [w], ?_, ?_, upd_same, LD5, (rv5.append (show RepVs K H5 [y] [w] from ⟨w, [], rfl, ry, rfl⟩)).ex exD, hb5.2⟩
      · intro a o e
        have ne : a ≠ D := fun z => by rw [z, LD5] at e; cases e
        exact (r5 a o e).ex exD fun u q => by rw [upd_ne ne]; exact q
      · intro a o e n
        have ne : a ≠ D := ne_of_none e hD
        obtain ⟨e1, n1⟩ := (f2.trans (f3.trans (f4.trans f5))) a o e n
        exact ⟨by rw [upd_ne ne]; exact e1, n1⟩
  · have ei : i = c.items.length := by omega
    refine .inl ⟨q.2 ei, ?_⟩
    rw [ei, List.drop_length] at hc
    obtain ⟨_, hc⟩ := hc
    -- the list enters the store
    have exS : Ex H2 H2 := .refl
    refine k _ _ _ _ (hc D LD2) ?_ rfl ?_
    · intro a o e n
      obtain ⟨e1, n1⟩ := f1 a o e n
      obtain ⟨e2, n2⟩ := f2 a o e1 n1
      have ne : a ≠ D := ne_of_none e1 hD
      exact ⟨e2, by rw [put_ne ne]; exact n2⟩
    · intro a o e
      by_cases ne : a = D
      · subst ne
        rw [put_same] at e
        cases e
        exact ⟨vs, hD2, rv⟩
      · rw [put_ne ne] at e
        exact r2 a o e
end

/-! ### statements -/
structure Nd where
  nx : Env → Sto → Prop
  rt : PK
  bk : Env → Sto → Prop := fun _ _ => False
  ct : Env → Sto → Prop := fun _ _ => False
abbrev WS := Env → Sto → Nd → Prop
structure NdK (K : PySem.W.Frag) (H : Hp) (L : Sto) (N : Nd) (D : Ends) : Prop where
  nx : ∀ env' L' σ' H', N.nx env' L' → Fm H L H' L' → RepS K H' σ' env' → RepH K H' L' → D.nx σ' H'
  rt : Kt K H L N.rt D.rt
  bk : ∀ env' L' σ' H', N.bk env' L' → Fm H L H' L' → RepS K H' σ' env' → RepH K H' L' → D.bk σ' H'
  ct : ∀ env' L' σ' H', N.ct env' L' → Fm H L H' L' → RepS K H' σ' env' → RepH K H' L' → D.ct σ' H'
theorem NdK.fm {K : PySem.W.Frag} {H H1 : Hp} {L La : Sto} {N : Nd} {D : Ends} (k : NdK K H L N D) (f : Fm H L H1 La) : NdK K H1 La N D :=
  ⟨fun a b c d h f' => k.nx a b c d h (f.trans f'), k.rt.fm f, fun a b c d h f' => k.bk a b c d h (f.trans f'), fun a b c d h f' => k.ct a b c d h (f.trans f')⟩
def liftS (K : PySem.W.Frag) (w : WS) : TS := fun D σ H => ∃ env L N, RepS K H σ env ∧ RepH K H L ∧ w env L N ∧ NdK K H L N D
def sNil : WS := fun env L N => N.nx env L
def sSeq (s t : WS) : WS := fun env L N => s env L { N with nx := fun e l => t e l N }
def sExpr (e : WE) : WS := fun env L N => e env L fun _ La => N.nx env La
def sRet (e : WE) : WS := fun env L N => e env L N.rt
def sRetN : WS := fun _ L N => N.rt .non L
def sAsg (g : WG) (e : WE) : WS := fun env L N => e env L fun x La => g x env La N.nx
def sIf (c : WE) (a b : WS) : WS := fun env L N => c env L fun x La => bIf x (a env La N) (b env La N)
def sBrk : WS := fun env L N => N.bk env L
def sCnt : WS := fun env L N => N.ct env L
def sPar (is : List Nat) (ws : List WE) : WS := fun env L N => wAr ws env L fun xs La => N.nx ((is.zip xs).foldl (fun e p => e.set p.1 (some p.2)) env) La
def sAug (i : Nat) (f : Op2) (e : WE) : WS := fun env L N => match gv env i with
  | some x => e env L fun y La => f x y La fun z Lb => N.nx (env.set i (some z)) Lb
  | none => False
def loopW (keep : Sto → Prop) (g : WG) (b : WS) : List PV → Env → Sto → Nd → Prop
  | [], env, L, N => keep L ∧ N.nx env L
  | x :: r, env, L, N => keep L ∧ g x env L fun env' La => b env' La { nx := fun e l => loopW keep g b r e l N, rt := N.rt, bk := N.nx, ct := fun e l => loopW keep g b r e l N }
def sFor (it : WI) (g : WG) (b : WS) : WS := fun env L N => it env L fun c La => loopW c.keep g b c.items env La N
def sWhile (c : WE) (b : WS) : WS := fun env L N => ∃ W : Nat → Env → Sto → Prop, (∃ m, W m env L) ∧ ∀ m env L, W m env L → c env L fun x La => bIf x (b env La { nx := fun e l => ∃ m', m' < m ∧ W m' e l, rt := N.rt, bk := N.nx, ct := fun e l => ∃ m', m' < m ∧ W m' e l }) (N.nx env La)
section
variable {X : Cx} {K : PySem.W.Frag} {pos p : Pos} {a b c e tg iter : Expr} {st : Stmt} {rest ss : List Stmt} {wa wb wc we : WE} {ws wt : WS} {g : WG}
theorem s_nil : PSs X [] (liftS X.K sNil) := pss_nil.weak fun D σ H h => by
  obtain ⟨env, L, N, hs, hL, hw, k⟩ := h
  exact k.nx env L σ H hw .refl hs hL
/-- a statement that is never reached -/
def sNever : WS := fun _ _ _ => False
theorem s_never {st : Stmt} : PS X st (liftS X.K sNever) := ⟨fun pins s σ H D I h => by
  obtain ⟨env, L, N, _, _, hw, _⟩ := h
  exact hw.elim⟩
theorem s_pass : PS X (.Pass pos) (liftS X.K sNil) := ps_pass.weak fun D σ H h => by
  obtain ⟨env, L, N, hs, hL, hw, k⟩ := h
  exact k.nx env L σ H hw .refl hs hL
theorem s_brk : PS X (.Break pos) (liftS X.K sBrk) := ps_break.weak fun D σ H h => by
  obtain ⟨env, L, N, hs, hL, hw, k⟩ := h
  exact k.bk env L σ H hw .refl hs hL
theorem s_cnt : PS X (.Continue pos) (liftS X.K sCnt) := ps_continue.weak fun D σ H h => by
  obtain ⟨env, L, N, hs, hL, hw, k⟩ := h
  exact k.ct env L σ H hw .refl hs hL
theorem s_cons (h1 : PS X st (liftS X.K ws)) (h2 : PSs X rest (liftS X.K wt)) : PSs X (st :: rest) (liftS X.K (sSeq ws wt)) := (pss_cons h1 h2).weak fun D σ H h => by
  obtain ⟨env, L, N, hs, hL, hw, k⟩ := h
  exact ⟨env, L, _, hs, hL, hw, ⟨fun env' L' σ' H' h f hs' r' => ⟨env', L', N, hs', r', h, k.fm f⟩, k.rt, k.bk, k.ct⟩⟩
theorem s_one (h1 : PS X st (liftS X.K ws)) : PSs X [st] (liftS X.K ws) := pss_one h1
theorem s_expr (he : PE X e (liftE X.K we)) (hs : swapsWith e none pos.line X.env = pure false) : PS X (.Expr e pos) (liftS X.K (sExpr we)) := (ps_expr he hs).weak fun D σ H h => by
  obtain ⟨env, L, N, hs, hL, hw, k⟩ := h
  exact ⟨env, L, _, hs, hL, hw, fun x La v H1 hb f1 rx r1 => k.nx env La σ H1 hb f1 (hs.ex (f1.ex hL)) r1⟩
theorem s_ret (he : PE X e (liftE X.K we)) : PS X (.Return (some e) pos) (liftS X.K (sRet we)) := (ps_ret he).weak fun D σ H h => by
  obtain ⟨env, L, N, hs, hL, hw, k⟩ := h
  exact ⟨env, L, _, hs, hL, hw, k.rt⟩
theorem s_retN : PS X (.Return none pos) (liftS X.K sRetN) := ps_retN.weak fun D σ H h => by
  obtain ⟨env, L, N, hs, hL, hw, k⟩ := h
  exact k.rt.here hL hw rfl
theorem s_asg (he : PE X e (liftE X.K we)) (hg : PG X tg (liftG X.K g)) (hs : swapsWithSole [tg] e pos.line X.env = pure false) (hw : swappedStores [tg] e X.env = pure none) (h1 : (assignEach [tg] X.env).map (·.2) = [assign tg X.env]) :
    PS X (.Assign [tg] e pos) (liftS X.K (sAsg g we)) := (ps_asg he hg hs hw h1).weak fun D σ H h => by
  obtain ⟨env, L, N, hs, hL, hw, k⟩ := h
  refine ⟨env, L, _, hs, hL, hw, fun x La v H1 hb f1 rx r1 => ?_⟩
  exact ⟨x, env, La, N.nx, rx, hs.ex (f1.ex hL), r1, hb, fun env' L' σ' H' h f hs' r' => k.nx env' L' σ' H' h (f1.trans f) hs' r'⟩
theorem s_if {aa bb : List Stmt} (hc : PT X c (liftT X.K wc)) (ha : PSs X aa (liftS X.K ws)) (hb : PSs X bb (liftS X.K wt)) : PS X (.If c aa bb pos) (liftS X.K (sIf wc ws wt)) := (ps_if hc ha hb).weak fun D σ H h => by
  obtain ⟨env, L, N, hs, hL, hw, k⟩ := h
  refine ⟨env, L, _, hs, hL, hw, fun x La H1 hb f1 r1 => ?_⟩
  obtain ⟨c, rfl, hc⟩ := bIf_bl hb
  refine ⟨c, rfl, ?_⟩
  cases c with
  | true => exact ⟨env, La, N, hs.ex (f1.ex hL), r1, hc, k.fm f1⟩
  | false => exact ⟨env, La, N, hs.ex (f1.ex hL), r1, hc, k.fm f1⟩
theorem s_aug {i : Nat} {x : Str} {op : Operator} {r : TIp} {f : Op2} (hN : X.N.Nodup) (hi : X.N[i]? = some x) (hx : Loc X.env.scope x) (hf : X.fn x = true ∨ X.env.scope.names.lookup x = some .local) (ho : PIp X op r) (hr : OpS X.K f r) (he : PE X e (liftE X.K we)) :
    PS X (.AugAssign (.Name x p) op e pos) (liftS X.K (sAug i f we)) := (ps_aug hN hi hx he ho hf).weak fun D σ H h => by
  obtain ⟨env, L, N, hs, hL, hw, k⟩ := h
  unfold sAug at hw
  cases e0 : gv env i with
  | none => rw [e0] at hw; exact hw.elim
  | some x0 =>
    rw [e0] at hw
    obtain ⟨v, e1, r1⟩ := hs.2 i x0 (gv_some e0)
    refine ⟨v, e1, env, L, _, hs, hL, hw, fun y La u H1 hb f1 ry r2 => ?_⟩
    refine hr x0 y v u H1 La _ _ (r1.ex (f1.ex hL)) ry r2 hb fun z Lb w H2 hz f2 rz r3 => ?_
    exact k.nx _ Lb _ H2 hz (f1.trans f2) (((hs.ex (f1.ex hL)).ex (f2.ex r2)).set i rz) r3
def oAddI : Op2 := fun x y L R => match x, y with
  | .int i, .int j => R (.int (i + j)) L
  | _, _ => False
theorem ip_addI : OpS K oAddI (ipI fun i j => i + j) := by
  intro x y v u H L R Q rx ry rh h k
  cases x <;> cases y <;> first | exact absurd h (fun z => z) | skip
  cases (show _ = _ from rx); cases (show _ = _ from ry)
  exact ⟨_, _, rfl, rfl, k.here rh h rfl⟩
theorem s_while {body : List Stmt} (hp : PassesOwn (model X.prog X.w) X.A X.env X.xe) (hc : PT X c (liftT X.K wc)) (hb : PSs X body (liftS X.K ws)) : PS X (.While c body [] pos) (liftS X.K (sWhile wc ws)) := (ps_while hp hc hb).weak fun D σ H h => by
  obtain ⟨env, L, N, hs, hL, ⟨W, ⟨m0, w0⟩, turn⟩, k⟩ := h
  refine ⟨fun m σ' H' => ∃ env' L', W m env' L' ∧ RepS X.K H' σ' env' ∧ RepH X.K H' L' ∧ Fm H L H' L', ⟨m0, env, L, w0, hs, hL, .refl⟩, ?_⟩
  rintro m σ1 H1 ⟨env1, La, w1, hs1, r1, f1⟩
  refine ⟨env1, La, _, hs1, r1, turn m env1 La w1, fun x Lb H2 hb f2 r2 => ?_⟩
  obtain ⟨c, rfl, hc⟩ := bIf_bl hb
  refine ⟨c, rfl, ?_⟩
  cases c with
  | true =>
    rw [if_pos rfl] at hc ⊢
    refine ⟨fun σ' H' => ∃ m', m' < m ∧ ∃ env' L', W m' env' L' ∧ RepS X.K H' σ' env' ∧ RepH X.K H' L' ∧ Fm H L H' L', fun σ' H' q => q, env1, Lb, _, hs1.ex (f2.ex r1), r2, hc, ?_⟩
    exact ⟨fun env' L' σ' H' ⟨m', hm, hw⟩ f hs' r' => ⟨m', hm, env', L', hw, hs', r', f1.trans (f2.trans f)⟩, k.rt.fm (f1.trans f2), fun env' L' σ' H' h f hs' r' => k.nx env' L' σ' H' h (f1.trans (f2.trans f)) hs' r',
      fun env' L' σ' H' ⟨m', hm, hw⟩ f hs' r' => ⟨m', hm, env', L', hw, hs', r', f1.trans (f2.trans f)⟩⟩
  | false =>
    rw [if_neg Bool.false_ne_true] at hc ⊢
    exact k.nx env1 Lb σ1 H2 hc (f1.trans f2) (hs1.ex (f2.ex r1)) r2
theorem loopW_keep {keep : Sto → Prop} {xs : List PV} {env : Env} {L : Sto} {N : Nd} (h : loopW keep g ws xs env L N) : keep L := by
  cases xs with
  | nil => exact h.1
  | cons x r => exact h.1
theorem s_for {body : List Stmt} {wi : WI} (hp : PassesOwn (model X.prog X.w) X.A X.env X.xe) (hc : X.calm = true) (hi : PI X tg iter (liftI X.K wi)) (hg : PG X tg (liftG X.K g)) (hb : PSs X body (liftS X.K ws))
    (hfs : ∀ x, foldedSetIterable iter X.env x = pure x) : PS X (.For tg iter body [] pos) (liftS X.K (sFor wi g ws)) := (ps_for hp hc hi hg hb hfs).weak fun D σ H h => by
  obtain ⟨env, L, N, hs, hL, hw, k⟩ := h
  refine ⟨env, L, _, hs, hL, hw, fun c La H1 J hb f1 r1 wk => ?_⟩
  refine ⟨fun i m σ2 H2 => m = c.items.length - i ∧ i ≤ c.items.length ∧ ∃ env2 Lx, RepS X.K H2 σ2 env2 ∧ RepH X.K H2 Lx ∧ Fm H1 La H2 Lx ∧ loopW c.keep g ws (c.items.drop i) env2 Lx N,
    ⟨c.items.length, (Nat.sub_zero _).symm, Nat.zero_le _, env, La, hs.ex (f1.ex hL), r1, .refl, hb⟩, ?_⟩
  rintro i m σ2 H2 ⟨rfl, hi, env2, Lx, hs2, r2, f2, hc⟩
  have q := wk i H2 Lx f2 r2 (loopW_keep hc)
  by_cases hlt : i < c.items.length
  · refine .inr ⟨(q.1 hlt).1, fun σ3 H3 => i + 1 ≤ c.items.length ∧ ∃ env2 Lx, RepS X.K H3 σ3 env2 ∧ RepH X.K H3 Lx ∧ Fm H1 La H3 Lx ∧ loopW c.keep g ws (c.items.drop (i + 1)) env2 Lx N,
      fun σ' H' hN => ⟨c.items.length - (i + 1), by omega, rfl, hN.1, hN.2⟩, fun v H' hy => ?_⟩
    obtain ⟨x, hx, rx, f3, r3⟩ := (q.1 hlt).2 v H' hy
    have hdrop : c.items.drop i = x :: c.items.drop (i + 1) := by
      rw [List.drop_eq_getElem_cons hlt]
      rw [List.getElem?_eq_getElem hlt] at hx
      rw [Option.some.inj hx]
    rw [hdrop] at hc
    obtain ⟨_, hc⟩ := hc
    refine ⟨x, env2, Lx, _, rx, hs2.ex (f3.ex r2), r3, hc, fun env3 Ly σ3 H3 hc3 f4 hs3 r4 => ?_⟩
    refine ⟨env3, Ly, _, hs3, r4, hc3, ?_⟩
    have ff := f2.trans (f3.trans f4)
    have kk := k.fm (f1.trans ff)
    exact ⟨fun env' L' σ' H' h f hs' r' => ⟨hlt, env', L', hs', r', ff.trans f, h⟩, kk.rt, kk.nx, fun env' L' σ' H' h f hs' r' => ⟨hlt, env', L', hs', r', ff.trans f, h⟩⟩
  · have ei : i = c.items.length := by omega
    refine .inl ⟨q.2 ei, ?_⟩
    rw [ei, List.drop_length] at hc
    exact k.nx env2 Lx σ2 H2 hc.2 (f1.trans f2) hs2 r2
end
end Mp
namespace Mp
open PySem PySem.Spec PyProof.Rows L2
/-! ### dict displays with constant keys -/
def kP : Key → PV
  | .inl i => .int i
  | .inr x => .str x
def wPairs : List (Key × WE) → Env → Sto → (List (Key × PV) → Sto → Prop) → Prop
  | [], _, L, R => R [] L
  | (k, w) :: r, env, L, R => w env L fun x La => wPairs r env La fun ps Lb => R ((k, x) :: ps) Lb
def wDisp (ps : List (Key × WE)) : WE := fun env L R => ∀ p, L p = none → wPairs ps env (put L p (.d [])) fun kvs L2 => L2 p = some (.d []) ∧ R (.ref p) (put L2 p (.d kvs))
section
variable {K : PySem.W.Frag}
theorem kP_V {H : Hp} {k : Key} {v : V} (h : RepV K H (kP k) v) : v = kV k := by cases k <;> exact h
theorem lift_pairs : ∀ (ps : List (Key × WE)) {σ : L2.St} {H : Hp} {env : Env} {L : Sto} {R : List (Key × PV) → Sto → Prop} {Q : List (V × V) → Hp → Prop}, RepS K H σ env → RepH K H L → wPairs ps env L R →
    (∀ kvs L' ks H', R kvs L' → Fm H L H' L' → RepKs K H' kvs ks → ks.map (·.1) = ps.map (·.1) → RepH K H' L' → Q (ks.map fun kv => (kV kv.1, kv.2)) H') → tPairs (ps.map fun p => (liftE K (wC (kP p.1)), liftE K p.2)) σ H Q
  | [], σ, H, env, L, R, Q, hs, hL, hw, k => k [] L [] H hw .refl rfl rfl hL
  | (key, w) :: r, σ, H, env, L, R, Q, hs, hL, hw, k => by
    show liftE K (wC (kP key)) σ H fun x H1 => liftE K w σ H1 fun y H2 => tPairs (r.map fun p => (liftE K (wC (kP p.1)), liftE K p.2)) σ H2 fun ps H3 => Q ((x, y) :: ps) H3
    refine ⟨env, L, fun x L' => x = kP key ∧ L' = L, hs, hL, ⟨rfl, rfl⟩, ?_⟩
    rintro x L' v H1 ⟨rfl, rfl⟩ f1 rv r1
    obtain rfl := kP_V rv
    refine ⟨env, L', _, hs.ex (f1.ex hL), r1, hw, fun y La vy H2 hb f2 ry r2 => ?_⟩
    refine lift_pairs r ((hs.ex (f1.ex hL)).ex (f2.ex r1)) r2 hb fun kvs Lb ks H3 hR f3 rk hk r3 => ?_
    exact k ((key, y) :: kvs) Lb ((key, vy) :: ks) H3 hR (f1.trans (f2.trans f3)) ⟨vy, ks, rfl, ry.ex (f3.ex r2), rk⟩ (by rw [List.map_cons, hk]; rfl) r3
theorem merge_app : ∀ (ks acc : List (Key × V)), (∀ k ∈ acc.map (·.1), k ∉ ks.map (·.1)) → (ks.map (·.1)).Nodup → mergeK acc ks = acc ++ ks
  | [], acc, _, _ => (List.append_nil acc).symm
  | (k, v) :: r, acc, h, hn => by
    rw [List.map_cons, List.nodup_cons] at hn
    have h1 : (acc.any fun kv => decide (kv.1 = k)) = false := by
      rw [List.any_eq_false]
      intro kv hkv
      have := h kv.1 (List.mem_map_of_mem hkv)
      rw [List.map_cons, List.mem_cons, not_or] at this
      simpa using this.1
    have h2 : putK acc k v = acc ++ [(k, v)] := by
      unfold putK
      rw [h1, if_neg Bool.false_ne_true]
    show mergeK (putK acc k v) r = _
    rw [h2, merge_app r (acc ++ [(k, v)]) ?_ hn.2, List.append_assoc]
    · rfl
    · intro k' hk' hm
      rw [List.map_append, List.mem_append] at hk'
      rcases hk' with hk' | hk'
      · exact h k' hk' (by rw [List.map_cons]; exact List.mem_cons_of_mem _ hm)
      · rw [List.map_singleton, List.mem_singleton] at hk'
        rw [hk'] at hm
        exact hn.1 hm
theorem lift_disp {ps : List (Key × WE)} {σ : L2.St} {H : Hp} {Q : VK} (hn : (ps.map (·.1)).Nodup) (h15 : ps.length ≤ 15) (h : liftE K (wDisp ps) σ H Q) : tDisp (ps.map fun p => (liftE K (wC (kP p.1)), liftE K p.2)) σ H Q := by
  obtain ⟨env, L, R, hs, hL, hw, k⟩ := h
  intro p hp
  refine lift_pairs ps (hs.ex (ex_new hp)) (reph_newD (xs := []) hL hp (show ([] : List (Key × V)) = [] from rfl)) (hw p (hL.fresh hp)) ?_
  rintro kvs L' ks H' ⟨e, hR⟩ f rk hk r'
  obtain ⟨ks0, e0, r0⟩ := r'.dct e
  cases (show ks0 = [] from r0)
  refine ⟨e0, ks, rfl, ?_, ?_⟩
  · have := congrArg List.length hk
    rw [List.length_map, List.length_map] at this
    omega
  · rw [merge_app ks [] (by simp) (by rw [hk]; exact hn), List.nil_append]
    exact k (.ref p) _ (.ref p) _ hR (((fm_new hp).trans f).trans (fm_put e)) rfl (reph_putD r' e rk)
end
/-! a display in the text -/
def keyC : Option Expr → Option Key
  | some (.Constant (.int i) _ _) => some (.inl i)
  | some (.Constant (.str x) _ _) => some (.inr x)
  | _ => none
section
variable {X : Cx} {pos : Pos}
theorem pps_of : ∀ {keys : List (Option Expr)} {values : List Expr} {ks : List Key} {ws : List WE}, keys.map keyC = ks.map some → ks.length = ws.length → Paired (fun v w => PE X v (liftE X.K w)) values ws → PPs X pos keys values ((ks.zip ws).map fun p => (liftE X.K (wC (kP p.1)), liftE X.K p.2))
  | [], _, [], [], _, _, .nil => pps_nil
  | k :: keys, _, key :: ks, w :: ws, h, hl, .cons hv hr => by
    rw [List.map_cons, List.map_cons] at h
    injection h with h1 h2
    have pk : ∃ e, k = some e ∧ PE X e (liftE X.K (wC (kP key))) := by
      unfold keyC at h1
      split at h1
      · cases h1; exact ⟨_, rfl, q_const pe_int fun _ => rfl⟩
      · cases h1; exact ⟨_, rfl, q_const pe_str fun _ => rfl⟩
      · cases h1
    obtain ⟨e, rfl, pe⟩ := pk
    exact pps_cons pe hv (pps_of h2 (by simpa using hl) hr)
  | [], _, key :: _, _, h, _, _ => by cases h
  | _ :: _, _, [], _, h, _, _ => by cases h
  | [], _, [], _ :: _, _, hl, _ => by cases hl
  | _ :: _, _, _ :: _, [], _, hl, _ => by cases hl
theorem q_disp {keys : List (Option Expr)} {values : List Expr} {ks : List Key} {ws : List WE} (hk : keys.map keyC = ks.map some) (hl : ks.length = ws.length) (hv : Paired (fun v w => PE X v (liftE X.K w)) values ws) (h0 : ks ≠ []) (h15 : ks.length ≤ 15) (hn : ks.Nodup) :
    PE X (.Dict keys values pos) (liftE X.K (wDisp (ks.zip ws))) := by
  have lk : keys.length = ks.length := by have := congrArg List.length hk; simpa using this
  have lz : (ks.zip ws).map (·.1) = ks := List.map_fst_zip (by omega)
  have hall : keys.all (·.isSome) = true := by
    rw [List.all_eq_true]
    intro k hm
    have : keyC k ∈ ks.map some := by rw [← hk]; exact List.mem_map_of_mem hm
    obtain ⟨key, _, e⟩ := List.mem_map.mp this
    cases k with
    | none => cases e
    | some _ => rfl
  have hn0 : keys ≠ [] := fun z => h0 (List.eq_nil_of_length_eq_zero (by rw [← lk, z]; rfl))
  refine (pe_disp (pps_of (pos := pos) hk hl hv) hall (by rw [lk, hl, ← hv.length]) hn0 (by omega)).weak fun σ H Q h => ?_
  exact lift_disp (by rw [lz]; exact hn) (by rw [List.length_zip]; omega) h
end
/-! ### methods of dicts, lists, texts -/
def keyP : PV → Option Key
  | .int i => some (.inl i)
  | .str x => some (.inr x)
  | _ => none
def dGet (kvs : List (Key × PV)) (k : Key) (d : PV) : PV := match kvs.find? fun kv => decide (kv.1 = k) with
  | some kv => kv.2
  | none => d
def mGet : MtF := fun x xs L R => match x, xs with
  | .ref a, [k] => (match L a, keyP k with
    | some (.d kvs), some key => R (dGet kvs key .non) L
    | _, _ => False)
  | .ref a, [k, d] => (match L a, keyP k with
    | some (.d kvs), some key => R (dGet kvs key d) L
    | _, _ => False)
  | _, _ => False
section
variable {X : Cx} {K : PySem.W.Frag} {H : Hp} {L : Sto}
theorem RepKs.none {k : Key} : ∀ {kvs : List (Key × PV)} {ks : List (Key × V)}, RepKs K H kvs ks → kvs.find? (fun kv => decide (kv.1 = k)) = none → valV ks k = none
  | [], _, h, _ => by cases (show _ = _ from h); rfl
  | (k', x) :: r, _, ⟨v, ks, h1, h2, h3⟩, e => by
    subst h1
    rw [List.find?_cons] at e
    unfold valV
    rw [List.find?_cons]
    by_cases q : k' = k
    · rw [show decide (k' = k) = true from decide_eq_true q] at e; cases e
    · rw [show decide (k' = k) = false from decide_eq_false q] at e ⊢
      exact RepKs.none h3 e
theorem dGet_ok {kvs : List (Key × PV)} {ks : List (Key × V)} {key : Key} {d : PV} {dv : V} (r : RepKs K H kvs ks) (rd : RepV K H d dv) : RepV K H (dGet kvs key d) ((valV ks key).getD dv) := by
  unfold dGet
  split
  · rename_i kv e
    obtain ⟨v, h1, h2⟩ := RepKs.find r e
    rw [h1]
    exact h2
  · rename_i e
    rw [RepKs.none r e]
    exact rd
theorem keyP_V {y : PV} {u : V} {key : Key} (h : keyP y = some key) (r : RepV K H y u) : u = kV key := by
  cases y <;> first | (cases h; exact r) | cases h
def rGet : V → List V → Hp → VK → Prop := fun x vs H Q => ∃ a, x = .ref a ∧ ((∃ y o, vs = [y] ∧ DGet H a y o ∧ Q (o.getD .non) H) ∨ ∃ y d o, vs = [y, d] ∧ DGet H a y o ∧ Q (o.getD d) H)
theorem mt_get (hu : X.A.units + 1 < cLine) : MtR X "dict.get" rGet := by
  intro pins s σ H x xs v us Q I rx rxs h
  obtain ⟨a, rfl, h⟩ := h
  cases (show v = Value.ref a from rx)
  rcases h with ⟨y, o, rfl, g, q⟩ | ⟨y, d, o, rfl, g, q⟩
  · obtain ⟨u, rfl, r⟩ := vals1 rxs
    exact d_get1 hu I g r fun w' s' I' rw' => ⟨_, H, I', rw', q⟩
  · obtain ⟨u, w, rfl, r, r'⟩ := vals2 rxs
    exact d_get2 hu I g r r' fun w' s' I' rw' => ⟨_, H, I', rw', q⟩
theorem s_get : MtS K mGet rGet := by
  intro x v xs vs H L R Q rx rxs rh h k
  unfold mGet at h
  split at h
  · cases (show _ = _ from rx)
    obtain ⟨u, rfl, ru⟩ := rxs.one
    split at h
    · rename_i kvs key e1 e2
      obtain ⟨ks, h1, r⟩ := rh.dct e1
      exact ⟨_, rfl, .inl ⟨u, valV ks key, rfl, .inl ⟨ks, key, .inl h1, keyP_V e2 ru, rfl⟩, k.here rh h (dGet_ok r (show RepV K H .non .non from rfl))⟩⟩
    · exact h.elim
  · cases (show _ = _ from rx)
    obtain ⟨u, w, rfl, ru, rw'⟩ := rxs.two
    split at h
    · rename_i kvs key e1 e2
      obtain ⟨ks, h1, r⟩ := rh.dct e1
      exact ⟨_, rfl, .inr ⟨u, w, valV ks key, rfl, .inl ⟨ks, key, .inl h1, keyP_V e2 ru, rfl⟩, k.here rh h (dGet_ok r rw')⟩⟩
    · exact h.elim
  · exact h.elim
theorem k_get (hu : X.A.units + 1 < cLine) : MtOk X "dict" "get" mGet := ⟨_, _, PySem.F.plainAttrs_dict, PySem.F.slot_dict_get, PySem.F.type_dict_get, mt_get hu, s_get⟩
def mIndex : MtF := fun x xs L R => match x, xs with
  | .ref a, [y] => ∃ d ds j z, PD L (.ref a) (.list ds) ∧ PD L y d ∧ SeqAt.shaped (.list ds) = true ∧ SeqAt.shaped d = true ∧ ds[j]? = some z ∧ PyData.eqv z d = true ∧ (∀ (m : Nat) (z' : PyData), m < j → ds[m]? = some z' → PyData.eqv z' d = false) ∧ R (.int (j : Nat)) L
  | _, _ => False
theorem s_index : MtS K mIndex (rIndexD K) := by
  intro x v xs vs H L R Q rx rxs rh h k
  unfold mIndex at h
  split at h
  · obtain ⟨u, rfl, ru⟩ := rxs.one
    obtain ⟨d, ds, j, z, h1, h2, h3, h4, h5, h6, h7, h8⟩ := h
    have hd := h1.dp rh rx
    cases (show _ = _ from rx)
    exact ⟨_, u, d, ds, j, z, rfl, rfl, hd, h2.dp rh ru, h3, h4, h5, h6, h7, k.here rh h8 rfl⟩
  · exact h.elim
theorem k_index (hu : X.A.units + 65 < cLine) : MtOk X "list" "index" mIndex := ⟨_, _, PySem.F.plainAttrs_list, PySem.F.slot_list_index, PySem.F.type_list_index, mt_indexD hu, s_index⟩
end
section
variable {X : Cx} {pos : Pos} {K : PySem.W.Frag} {H : Hp} {L : Sto}
theorem q_disp0 : PE X (.Dict [] [] pos) (liftE X.K (wDisp [])) := pe_dnewK.weak fun σ H Q h => by
  obtain ⟨env, L, R, hs, hL, hw, k⟩ := h
  intro p hp
  obtain ⟨_, hR⟩ := hw p (hL.fresh hp)
  have e : put (put L p (.d [])) p (.d []) = put L p (.d []) := by
    funext b
    by_cases z : b = p
    · rw [z, put_same, put_same]
    · rw [put_ne z]
  rw [e] at hR
  exact k (.ref p) _ (.ref p) _ hR (fm_new hp) rfl (reph_newD (xs := []) hL hp (show ([] : List (Key × V)) = [] from rfl))
/-- dict(xs), xs a list of pairs, no key twice -/
def gDict : BiF := fun xs L R => match xs with
  | [.ref a] => ∃ kvs : List (Key × PV), L a = some (.l (kvs.map fun kv => .tup [kP kv.1, kv.2])) ∧ (kvs.map (·.1)).Nodup ∧ ∀ p, L p = none → R (.ref p) (put L p (.d kvs))
  | _ => False
theorem rep_prs : ∀ {kvs : List (Key × PV)} {ws : List V}, RepVs K H (kvs.map fun kv => PV.tup [kP kv.1, kv.2]) ws →
    ∃ (ps : List Addr) (ks : List (Key × V)), ws = ps.map V.ref ∧ Paired (fun p kv => SqT K H p [kV kv.1, kv.2]) ps ks ∧ RepKs K H kvs ks ∧ ks.map (·.1) = kvs.map (·.1)
  | [], _, r => by
    cases (show _ = _ from r)
    exact ⟨[], [], rfl, .nil, rfl, rfl⟩
  | (key, x) :: r, _, ⟨v, vs, h1, h2, h3⟩ => by
    subst h1
    obtain ⟨ps, ks, rfl, h4, h5, h6⟩ := rep_prs h3
    obtain ⟨a, us, rfl, t, ru⟩ := h2
    obtain ⟨v1, r1, rfl, k1, k2⟩ := ru
    obtain ⟨v2, r2, rfl, k3, k4⟩ := k2
    cases (show _ = _ from k4)
    obtain rfl := kP_V k1
    exact ⟨a :: ps, (key, v2) :: ks, rfl, .cons t.sq h4, ⟨v2, ks, rfl, k3, h5⟩, by rw [List.map_cons, h6]; rfl⟩
theorem b_dict (hc : X.calm = true) : BiOk X (.type "dict") gDict := by
  refine ⟨_, call_dictP hc, ?_⟩
  intro xs vs H L R Q rx rh h k
  unfold gDict at h
  split at h
  · obtain ⟨v, rfl, rv⟩ := rx.one
    cases (show _ = _ from rv)
    obtain ⟨kvs, e, hn, hR⟩ := h
    obtain ⟨ws, h1, r⟩ := rh.lst e
    obtain ⟨ps, ks, rfl, h4, h5, h6⟩ := rep_prs r
    refine ⟨_, ps, ks, rfl, .inl (.inl h1), h4, fun p hp => ?_⟩
    rw [merge_app ks [] (by simp) (by rw [h6]; exact hn), List.nil_append]
    exact k (.ref p) _ (.ref p) _ (hR p (rh.fresh hp)) (fm_new hp) rfl (reph_newD rh hp h5)
  · exact h.elim
end
end Mp
namespace Mp
open PySem PySem.Spec PyProof.Rows L2
/-! ### methods of texts -/
def mJoin : MtF := fun x xs L R => match x, xs with
  | .str a, [.ref p] => ∃ ys : List Str, L p = some (.l (ys.map PV.str)) ∧ (ys.map (·.length)).sum + ys.length * a.length ≤ 16777216 ∧ R (.str (Txt.join a ys)) L
  | _, _ => False
def mSplit : MtF := fun x xs L R => match x, xs with
  | .str a, [.str b] => (b.length == 0) = false ∧ a.length + 2 ≤ sizeLine ∧ newL L ((Txt.split a b).map PV.str) R
  | _, _ => False
def mPart : MtF := fun x xs L R => match x, xs with
  | .str a, [.str b] => (b.length == 0) = false ∧ a.length ≤ sizeLine ∧ R (.tup [.str (Txt.partition a b).1, .str (Txt.partition a b).2.1, .str (Txt.partition a b).2.2]) L
  | _, _ => False
def mStrip : MtF := fun x xs L R => match x, xs with
  | .str a, [.str b] => a.length ≤ sizeLine ∧ R (.str (Txt.stripChars a b)) L
  | _, _ => False
def mStarts : MtF := fun x xs L R => match x, xs with
  | .str a, [.str b] => R (.bl (Txt.startswith a b)) L
  | _, _ => False
def mCount : MtF := fun x xs L R => match x, xs with
  | .str a, [.str b] => R (.int (Txt.count a b)) L
  | _, _ => False
section
variable {X : Cx} {K : PySem.W.Frag} {H : Hp} {L : Sto}
theorem RepVs.ofStrs : ∀ {ns : List Str}, RepVs K H (ns.map PV.str) (ns.map V.str)
  | [] => rfl
  | n :: ns => ⟨.str n, _, rfl, rfl, RepVs.ofStrs⟩
theorem s_join : MtS K mJoin (fun x xs H Q => ∃ a p, ∃ ys : List Str, x = .str a ∧ xs = [.ref p] ∧ (SqL K H p (ys.map V.str) ∨ SqT K H p (ys.map V.str)) ∧
    (ys.map (·.length)).sum + ys.length * a.length ≤ 16777216 ∧ Q (.str (Txt.join a ys)) H) := by
  intro x v xs vs H L R Q rx rxs rh h k
  unfold mJoin at h
  split at h
  · obtain ⟨w, rfl, rw'⟩ := rxs.one
    cases (show _ = _ from rx)
    cases (show _ = _ from rw')
    obtain ⟨ys, e, h1, h2⟩ := h
    obtain ⟨ws, h3, r⟩ := rh.lst e
    have := r.strs
    subst this
    exact ⟨_, _, ys, rfl, rfl, .inl (.inl (.inl h3)), h1, k.here rh h2 rfl⟩
  · exact h.elim
theorem k_join : MtOk X "str" "join" mJoin := ⟨_, _, PySem.F.plainAttrs_str, PySem.F.slot_str_join, PySem.F.type_str_join, mt_join, s_join⟩
theorem s_split : MtS K mSplit (fun x xs H Q => ∃ a b, x = .str a ∧ xs = [.str b] ∧ (b.length == 0) = false ∧ a.length + 2 ≤ sizeLine ∧ rNewStrs (Txt.split a b) H Q) := by
  intro x v xs vs H L R Q rx rxs rh h k
  unfold mSplit at h
  split at h
  · obtain ⟨w, rfl, rw'⟩ := rxs.one
    cases (show _ = _ from rx)
    cases (show _ = _ from rw')
    obtain ⟨h1, h2, h3⟩ := h
    exact ⟨_, _, rfl, rfl, h1, h2, fun p hp => k.newl rh h3 RepVs.ofStrs p hp⟩
  · exact h.elim
theorem k_split : MtOk X "str" "split" mSplit := ⟨_, _, PySem.F.plainAttrs_str, PySem.F.slot_str_split, PySem.F.type_str_split, mt_split, s_split⟩
theorem s_part : MtS K mPart (fun x xs H Q => ∃ a b, x = .str a ∧ xs = [.str b] ∧ (b.length == 0) = false ∧ a.length ≤ sizeLine ∧
    ∀ p, H p = none → Q (.ref p) (upd H p (.tup [.str (Txt.partition a b).1, .str (Txt.partition a b).2.1, .str (Txt.partition a b).2.2]))) := by
  intro x v xs vs H L R Q rx rxs rh h k
  unfold mPart at h
  split at h
  · obtain ⟨w, rfl, rw'⟩ := rxs.one
    cases (show _ = _ from rx)
    cases (show _ = _ from rw')
    obtain ⟨h1, h2, h3⟩ := h
    exact ⟨_, _, rfl, rfl, h1, h2, fun p hp => k _ _ _ _ h3 (fm_tup rh hp) (repv_tup ⟨_, _, rfl, rfl, _, _, rfl, rfl, _, _, rfl, rfl, rfl⟩ hp) (reph_tup rh hp)⟩
  · exact h.elim
theorem k_part : MtOk X "str" "partition" mPart := ⟨_, _, PySem.F.plainAttrs_str, PySem.F.slot_str_partition, PySem.F.type_str_partition, mt_partition, s_part⟩
theorem s_strip : MtS K mStrip (fun x xs H Q => ∃ a b, x = .str a ∧ xs = [.str b] ∧ a.length ≤ sizeLine ∧ Q (.str (Txt.stripChars a b)) H) := by
  intro x v xs vs H L R Q rx rxs rh h k
  unfold mStrip at h
  split at h
  · obtain ⟨w, rfl, rw'⟩ := rxs.one
    cases (show _ = _ from rx)
    cases (show _ = _ from rw')
    obtain ⟨h1, h2⟩ := h
    exact ⟨_, _, rfl, rfl, h1, k.here rh h2 rfl⟩
  · exact h.elim
theorem k_strip : MtOk X "str" "strip" mStrip := ⟨_, _, PySem.F.plainAttrs_str, PySem.F.slot_str_strip, PySem.F.type_str_strip, mt_stripChars, s_strip⟩
theorem s_starts : MtS K mStarts (fun x xs H Q => ∃ a b, x = .str a ∧ xs = [.str b] ∧ Q (.bl (Txt.startswith a b)) H) := by
  intro x v xs vs H L R Q rx rxs rh h k
  unfold mStarts at h
  split at h
  · obtain ⟨w, rfl, rw'⟩ := rxs.one
    cases (show _ = _ from rx)
    cases (show _ = _ from rw')
    exact ⟨_, _, rfl, rfl, k.here rh h rfl⟩
  · exact h.elim
theorem k_starts : MtOk X "str" "startswith" mStarts := ⟨_, _, PySem.F.plainAttrs_str, PySem.F.slot_str_startswith, PySem.F.type_str_startswith, mt_startswith, s_starts⟩
theorem s_count : MtS K mCount (fun x xs H Q => ∃ a b, x = .str a ∧ xs = [.str b] ∧ Q (.int (Txt.count a b)) H) := by
  intro x v xs vs H L R Q rx rxs rh h k
  unfold mCount at h
  split at h
  · obtain ⟨w, rfl, rw'⟩ := rxs.one
    cases (show _ = _ from rx)
    cases (show _ = _ from rw')
    exact ⟨_, _, rfl, rfl, k.here rh h rfl⟩
  · exact h.elim
theorem k_count : MtOk X "str" "count" mCount := ⟨_, _, PySem.F.plainAttrs_str, PySem.F.slot_str_count, PySem.F.type_str_count, mt_count, s_count⟩
end
end Mp
namespace Mp
open PySem PySem.Spec PyProof.Rows L2

/-! ### in, not in -/
def flP : PV → Bool
  | .non => true | .bl _ => true | .int _ => true | .str _ => true
  | _ => false
def toV : PV → V
  | .bl b => .bl b | .int i => .int i | .str x => .str x
  | _ => .non
def inB (x : PV) (ys : List PV) : Bool := inV (toV x) (ys.map toV)
def oInG (f : Bool → Bool) : Op2 := fun x y L R => match y with
  | .tup ys => if ys.all flP = true then flP x = true ∧ ys.all flP = true ∧ R (.bl (f (inB x ys))) L else ∃ d ds, PD L x d ∧ PDs L ys ds ∧ SeqAt.shaped d = true ∧ SeqAt.shaped (.tuple ds) = true ∧ R (.bl (f (ds.any fun z => PyData.eqv z d))) L
  | .str z => (match x with
    | .str u => R (.bl (f (!(Builtin.Str.occurrences z u 0 z.length 1).isEmpty))) L
    | _ => False)
  | .ref a => (match L a with
    | some (.l ys) => ∃ d ds, PD L x d ∧ PDs L ys ds ∧ SeqAt.shaped d = true ∧ SeqAt.shaped (.list ds) = true ∧ R (.bl (f (ds.any fun z => PyData.eqv z d))) L
    | some (.d kvs) => (match x with
      | .int i => R (.bl (f (kvs.find? (fun kv => decide (kv.1 = .inl i))).isSome)) L
      | .str i => R (.bl (f (kvs.find? (fun kv => decide (kv.1 = .inr i))).isSome)) L
      | _ => False)
    | none => False)
  | _ => False
abbrev oIn : Op2 := oInG id
abbrev oNotIn : Op2 := oInG not
section
variable {X : Cx} {K : PySem.W.Frag} {H : Hp} {L : Sto}
theorem flP_V {x : PV} {v : V} (r : RepV K H x v) (h : flP x = true) : v = toV x ∧ flatV v = true := by
  cases x <;> first | (cases (show _ = _ from r); exact ⟨rfl, rfl⟩) | cases h
theorem flP_Vs : ∀ {xs : List PV} {vs : List V}, RepVs K H xs vs → xs.all flP = true → vs = xs.map toV ∧ vs.all flatV = true
  | [], _, r, _ => by cases (show _ = _ from r); exact ⟨rfl, rfl⟩
  | x :: xs, _, ⟨v, vs, h1, h2, h3⟩, h => by
    subst h1
    rw [List.all_cons, Bool.and_eq_true] at h
    obtain ⟨e1, f1⟩ := flP_V h2 h.1
    obtain ⟨e2, f2⟩ := flP_Vs h3 h.2
    exact ⟨by rw [e1, e2]; rfl, by rw [List.all_cons, f1, f2]; rfl⟩
theorem RepKs.miss {k : Key} : ∀ {kvs : List (Key × PV)} {ks : List (Key × V)}, RepKs K H kvs ks → (valV ks k).isSome = (kvs.find? (fun kv => decide (kv.1 = k))).isSome
  | [], _, h => by cases (show _ = _ from h); rfl
  | (k', x) :: r, _, ⟨v, ks, h1, h2, h3⟩ => by
    subst h1
    unfold valV
    rw [List.find?_cons, List.find?_cons]
    by_cases q : k' = k
    · rw [show decide (k' = k) = true from decide_eq_true q]; rfl
    · rw [show decide (k' = k) = false from decide_eq_false q]
      exact RepKs.miss h3
def rInDk (f : Bool → Bool) : R2 := fun x y H Q => ∃ a o, y = .ref a ∧ DGet H a x o ∧ Q (.bl (f o.isSome)) H
theorem op_inDk (hu : X.A.units + 1 < cLine) : OpR X (compareOp .In) (rInDk id) := by
  intro pins s σ H x y v u Q I rx ry h
  obtain ⟨a, o, rfl, g, q⟩ := h
  cases ry
  exact d_in hu I g rx fun s' I' => ⟨.bl o.isSome, H, I', rfl, q⟩
theorem op_notinDk (hu : X.A.units + 1 < cLine) : OpR X (compareOp .NotIn) (rInDk not) := by
  intro pins s σ H x y v u Q I rx ry h
  obtain ⟨a, o, rfl, g, q⟩ := h
  cases ry
  exact d_notIn hu I g rx fun s' I' => ⟨.bl (!o.isSome), H, I', rfl, q⟩
def rInT (K : PySem.W.Frag) (f : Bool → Bool) : R2 := fun x y H Q => ∃ d ds, Dp K H x d ∧ Dp K H y (.tuple ds) ∧ SeqAt.shaped d = true ∧ SeqAt.shaped (.tuple ds) = true ∧ Q (.bl (f (ds.any fun z => PyData.eqv z d))) H
theorem op_inT (hu : X.A.units + 65 < cLine) : OpR X (compareOp .In) (rInT X.K id) := by
  intro pins s σ H x y v u Q I rx ry h
  obtain ⟨d, ds, hd, he, sd, se, q⟩ := h
  obtain ⟨as, r1⟩ := Dp.reads I d x v hd rx
  obtain ⟨bs, r2⟩ := Dp.reads I (.tuple ds) y u he ry
  exact SeqAt.in_tuple_reads r2 r1 (SeqAt.canLay_of_shaped se) (SeqAt.canLay_of_shaped sd) (room_in_shaped sd hu) ⟨.bl _, H, I, rfl, q⟩
theorem op_notInT (hu : X.A.units + 65 < cLine) : OpR X (compareOp .NotIn) (rInT X.K not) := by
  intro pins s σ H x y v u Q I rx ry h
  obtain ⟨d, ds, hd, he, sd, se, q⟩ := h
  obtain ⟨as, r1⟩ := Dp.reads I d x v hd rx
  obtain ⟨bs, r2⟩ := Dp.reads I (.tuple ds) y u he ry
  exact SeqAt.notIn_tuple_reads r2 r1 (SeqAt.canLay_of_shaped se) (SeqAt.canLay_of_shaped sd) (room_in_shaped sd hu) ⟨.bl _, H, I, rfl, q⟩
theorem ok_inG {op : CmpOp} {f : Bool → Bool} (h1 : OpR X (compareOp op) fun x y H Q => ∃ p xs, y = .ref p ∧ (SqL X.K H p xs ∨ SqT X.K H p xs) ∧ flatV x = true ∧ xs.all flatV = true ∧ Q (.bl (f (inV x xs))) H)
    (h2 : OpR X (compareOp op) fun x y H Q => ∃ i j, x = .str i ∧ y = .str j ∧ Q (.bl (f (!(Builtin.Str.occurrences j i 0 j.length 1).isEmpty))) H)
    (h3 : OpR X (compareOp op) fun x y H Q => ∃ d ds, Dp X.K H x d ∧ Dp X.K H y (.list ds) ∧ SeqAt.shaped d = true ∧ SeqAt.shaped (.list ds) = true ∧ Q (.bl (f (ds.any fun z => PyData.eqv z d))) H)
    (h4 : OpR X (compareOp op) (rInDk f)) (h5 : OpR X (compareOp op) (rInT X.K f)) : OpOk X (compareOp op) (oInG f) := by
  refine ⟨_, (h1.or (h2.or (h3.or h4))).or h5, ?_⟩
  intro x y v u H L R Q rx ry rh h k
  unfold oInG at h
  split at h
  · rename_i ys
    by_cases hf : ys.all flP = true
    · rw [if_pos hf] at h
      obtain ⟨a, vs, rfl, t, r⟩ := ry
      obtain ⟨g1, g2, g3⟩ := h
      obtain ⟨e1, f1⟩ := flP_V rx g1
      obtain ⟨e2, f2⟩ := flP_Vs r g2
      refine .inl (.inl ⟨a, vs, rfl, .inr t.sq, f1, f2, ?_⟩)
      rw [e1, e2]
      exact k.here rh g3 rfl
    · rw [if_neg hf] at h
      obtain ⟨d, ds, g1, g2, g3, g4, g5⟩ := h
      exact .inr ⟨d, ds, g1.dp rh rx, (PD.tup g2).dp rh ry, g3, g4, k.here rh g5 rfl⟩
  · cases (show _ = _ from ry)
    split at h
    · cases (show _ = _ from rx)
      exact .inl (.inr (.inl ⟨_, _, rfl, rfl, k.here rh h rfl⟩))
    · exact h.elim
  · cases (show _ = _ from ry)
    split at h
    · rename_i ys e
      obtain ⟨vs, e1, r⟩ := rh.lst e
      obtain ⟨d, ds, g1, g2, g3, g4, g5⟩ := h
      exact .inl (.inr (.inr (.inl ⟨d, ds, g1.dp rh rx, .lst (.inl (.inl e1)) (g2.dp rh r), g3, g4, k.here rh g5 rfl⟩)))
    · rename_i ys e
      obtain ⟨vs, e1, r⟩ := rh.dct e
      split at h
      · cases (show _ = _ from rx)
        rename_i i
        refine .inl (.inr (.inr (.inr ⟨_, valV vs (.inl i), rfl, .inl ⟨vs, .inl i, .inl e1, rfl, rfl⟩, ?_⟩)))
        rw [RepKs.miss r]
        exact k.here rh h rfl
      · cases (show _ = _ from rx)
        rename_i i
        refine .inl (.inr (.inr (.inr ⟨_, valV vs (.inr i), rfl, .inl ⟨vs, .inr i, .inl e1, rfl, rfl⟩, ?_⟩)))
        rw [RepKs.miss r]
        exact k.here rh h rfl
      · exact h.elim
    · exact h.elim
  · exact h.elim
theorem ok_in (hu : X.A.units + 65 < cLine) : OpOk X (compareOp .In) oIn := ok_inG op_in_seq op_in_str (op_inD hu) (op_inDk (by omega)) (op_inT hu)
theorem ok_notin (hu : X.A.units + 65 < cLine) : OpOk X (compareOp .NotIn) oNotIn := ok_inG op_notIn_seq L2.op_notin_str (op_notInD hu) (op_notinDk (by omega)) (op_notInT hu)
end

/-! ### a thing that is walked, whatever it is -/
def iAny (e : WE) : WI := fun env L R => e env L fun x La => match x with
  | .ref a => match La a with
    | some (.l xs) => R ⟨xs, fun Lx => Lx a = some (.l xs)⟩ La
    | _ => False
  | .tup xs => R ⟨xs, fun _ => True⟩ La
  | .str z => R ⟨z.cps.toList.map fun c => .str ⟨#[c]⟩, fun _ => True⟩ La
  | _ => False
section
variable {X : Cx} {tg l : Expr} {wl : WE}
def iAnyT (K : PySem.W.Frag) (tl : TE) : TI := fun σ H R => tl σ H fun x H1 => (∃ a, x = .ref a ∧ (∃ xs, SqL K H1 a xs) ∧ R (Itl K a) H1) ∨ (∃ a, x = .ref a ∧ (∃ xs, SqT K H1 a xs) ∧ R (Itt K a) H1) ∨ ∃ z, x = .str z ∧ R (Its z) H1
theorem pi_any {tl : TE} (hl : PE X l tl) : PI X tg l (iAnyT X.K tl) := by
  refine ⟨fun pins s σ H R I h => ?_⟩
  refine thn (hl.run pins s σ H _ I h) fun v s1 ⟨x, H1, I1, r1, q1⟩ => ?_
  rcases q1 with ⟨a, e, ⟨xs, hq⟩, q⟩ | ⟨a, e, ⟨xs, hq⟩, q⟩ | ⟨z, e, q⟩
  · subst e
    cases r1
    obtain ⟨its, rv, p, hz⟩ := I1.list hq
    refine wpAny_pyIter_list p.isList ?_
    refine ⟨s1.heap.objs.size, [s1.heap.objs.size], _, _, H1, rfl, I1.kept (t' := s1.toks) fun b o e => Heap.get?_push_of_some _ e, turn_list a _, ⟨_, Heap.get?_push_size _ rfl, rfl, rfl⟩, fun b hb => ?_, q⟩
    have e : b = s1.heap.objs.size := by simpa using hb
    subst e
    exact I1.fpOk (Nat.le_refl _) (I1.hok.fresh (Nat.le_refl _))
  · subst e
    cases r1
    obtain ⟨its, rv, p, hz⟩ := I1.tuple hq
    refine wpAny_pyIter_tuple (show s1.heap.IsTuple a its.toArray from p) ?_
    refine ⟨s1.heap.objs.size, [s1.heap.objs.size], _, _, H1, rfl, I1.kept (t' := s1.toks) fun b o e => Heap.get?_push_of_some _ e, turn_tuple a _, ⟨_, Heap.get?_push_size _ rfl, rfl, rfl⟩, fun b hb => ?_, q⟩
    have e : b = s1.heap.objs.size := by simpa using hb
    subst e
    exact I1.fpOk (Nat.le_refl _) (I1.hok.fresh (Nat.le_refl _))
  · subst e
    obtain ⟨t, rfl⟩ := r1
    cases ha : z.cps.all (· < 128)
    · exact wpAny_pyIter_wide ha (pi_one (tk := s1.toks) I1 _ (turn_str _ z t "str_iterator" (.inr rfl)) ⟨_, Heap.get?_push_size _ rfl, rfl, rfl⟩ q)
    · exact wpAny_pyIter_ascii ha (pi_one (tk := s1.toks) I1 _ (turn_str _ z t "str_ascii_iterator" (.inl rfl)) ⟨_, Heap.get?_push_size _ rfl, rfl, rfl⟩ q)
theorem i_any (ha : PE X l (liftE X.K wl)) : PI X tg l (liftI X.K (iAny wl)) := pi_weak (pi_any ha) fun σ H R h => by
  obtain ⟨env, L, R', hs, hL, hw, k⟩ := h
  refine ⟨env, L, _, hs, hL, hw, fun x La v H1 hb f1 rx r1 => ?_⟩
  cases x <;> first | exact absurd hb (fun z => z) | skip
  · cases (show _ = _ from rx)
    exact .inr (.inr ⟨_, rfl, k _ La H1 _ hb f1 r1 wk_str⟩)
  · cases (show _ = _ from rx)
    simp only at hb
    split at hb
    · rename_i xs e
      obtain ⟨vs, h1, _⟩ := r1.lst e
      exact .inl ⟨_, rfl, ⟨vs, .of h1⟩, k _ La H1 _ hb f1 r1 wk_list⟩
    · exact hb.elim
  · obtain ⟨p, vs, rfl, t, r⟩ := rx
    exact .inr (.inl ⟨p, rfl, ⟨vs, t.sq⟩, k _ La H1 _ hb f1 r1 (wk_tup r1 t r)⟩)
end

/-! ### from the text to readings -/
inductive Bk where
  | fn (id : String) (g : BiF) | ty (id : String) (g : BiF)
structure Tab where
  fns : List (Str × Nat × Spec)
  con : List (Str × PV)
  non : List Str
structure Ct where
  N : List Str
  sc : Scope
  co : Str → Bool
def ixOf : List Str → Str → Option Nat
  | [], _ => none
  | y :: r, x => if y = x then some 0 else (ixOf r x).map (· + 1)
theorem ixOf_get : ∀ {N : List Str} {x : Str} {i : Nat}, ixOf N x = some i → N[i]? = some x
  | [], _, _, h => by cases h
  | y :: r, x, i, h => by
    unfold ixOf at h
    split at h
    · rename_i e
      cases h
      rw [e]
      rfl
    · cases e : ixOf r x with
      | none => rw [e] at h; cases h
      | some j =>
        rw [e] at h
        cases h
        simpa using ixOf_get e
/-- the built-ins, by name -/
def bkTab : List (Str × Bk) := [("len", .fn "len" gLen), ("isinstance", .fn "isinstance" gIsi), ("abs", .fn "abs" gAbs), ("int", .ty "int" gInt), ("list", .ty "list" gList), ("tuple", .ty "tuple" gTuple), ("all", .fn "all" gAll), ("any", .fn "any" gAny),
  ("min", .fn "min" gMin), ("max", .fn "max" gMax), ("divmod", .fn "divmod" gDivmod), ("sum", .fn "sum" gSum), ("sorted", .fn "sorted" gSorted), ("str", .ty "str" gStr), ("dict", .ty "dict" gDict)]
def bkOf (x : Str) : Option Bk := bkTab.lookup x
def tyOf (x : Str) : Option String :=
  if x = "int" then some "int" else
  if x = "bool" then some "bool" else
  if x = "str" then some "str" else
  if x = "tuple" then some "tuple" else
  if x = "list" then some "list" else
  if x = "dict" then some "dict" else none
def mtTab : List (Str × String × MtF) := [("append", "list", mAppend), ("extend", "list", mExtend), ("pop", "list", mPop), ("reverse", "list", mReverse), ("clear", "list", mClear), ("insert", "list", mInsert), ("get", "dict", mGet), ("index", "list", mIndex), ("join", "str", mJoin), ("split", "str", mSplit), ("partition", "str", mPart), ("strip", "str", mStrip), ("startswith", "str", mStarts), ("count", "str", mCount)]
def mtOf (x : Str) : Option (String × MtF) := mtTab.lookup x
def opOf : Operator → Option Op2
  | .Add => some oAdd | .Sub => some oSub | .Mult => some oMul | .FloorDiv => some oDiv | .Mod => some oMod | .Pow => some oPow
  | _ => none
def cmOf : CmpOp → Option Op2
  | .Lt => some oLt | .LtE => some oLe | .Gt => some oGt | .GtE => some oGe | .Eq => some oEq | .NotEq => some oNe | .Is => some oIs | .IsNot => some oIsNot | .In => some oIn | .NotIn => some oNotIn
def noStar : Expr → Bool
  | .Starred _ _ => false
  | _ => true
def noSuper : Expr → Bool
  | .Call _ [] _ _ => false
  | _ => true
def noComp : Expr → Bool
  | .ListComp _ _ _ _ | .SetComp _ _ _ _ | .DictComp _ _ _ _ _ => false
  | _ => true
def noSetE : Expr → Bool
  | .Set _ _ _ => false
  | _ => true
def noSlice : Expr → Bool
  | .Slice _ _ _ _ => false
  | _ => true
def okName (x : Str) : Bool := !(x == ("__debug__" : Str)) && !(x == ("__classdict__" : Str)) && !(x == ("__name__" : Str))
def cVar (c : Ct) (x : Str) : Option Nat := match c.sc.names.lookup x with
  | some .local => ixOf c.N x
  | some .cell => ixOf c.N x
  | some .free => ixOf c.N x
  | _ => none
/-- a name that is stored -/
def cSto (c : Ct) (x : Str) : Option Nat := match c.sc.names.lookup x with
  | some .local => ixOf c.N x
  | some .cell => if c.co x = true then ixOf c.N x else none
  | _ => none
def isGl (c : Ct) (x : Str) : Bool := c.sc.names.lookup x == some .globalImplicit
def optAll {α β : Type} (f : α → Option β) : List α → Option (List β)
  | [] => some []
  | a :: r => match f a, optAll f r with
    | some b, some bs => some (b :: bs)
    | _, _ => none
def op2 {α β γ : Type} (f : α → β → γ) : Option α → Option β → Option γ
  | some a, some b => some (f a b)
  | _, _ => none
def op3 {α β γ δ : Type} (f : α → β → γ → δ) : Option α → Option β → Option γ → Option δ
  | some a, some b, some c => some (f a b c)
  | _, _, _ => none
def wName (T : Tab) (c : Ct) (x : Str) : Option WE :=
  if okName x = false then none else
  match cVar c x with
  | some i => some (wVar i)
  | none => if isGl c x = false then none else
    match T.con.lookup x with
    | some p => some (wC p)
    | none => if T.non.contains x = true then (tyOf x).map fun s => wC (.ty s) else none
def wConst : Const → Option WE
  | .int i => some (wC (.int i)) | .bool b => some (wC (.bl b)) | .str x => some (wC (.str x)) | .none => some (wC .non)
  | _ => none
def negC : Expr → Option Int
  | .Constant (.int i) _ _ => some i
  | _ => none
/-- a call by a name -/
def wCallN (T : Tab) (c : Ct) (x : Str) (n : Nat) (ws : Option (List WE)) : Option WE :=
  if okName x = false || isGl c x = false then none else
  match ws with
  | none => none
  | some ws => match T.fns.lookup x with
    | some (m, S) => if m = n then some (wCall S ws) else none
    | none => if T.non.contains x = true then (match bkOf x with
      | some (.fn _ g) => if n = 0 then none else some (wBi g ws)
      | some (.ty _ g) => if n = 0 then none else some (wBi g ws)
      | none => none) else none
def tgOne (c : Ct) : Expr → Option Nat
  | .Name x _ => if okName x = true then cSto c x else none
  | _ => none
/-- a comprehension's target -/
def cTg (c : Ct) : Expr → Option (WG × List Nat)
  | .Name x _ => (if okName x = true then cSto c x else none).map fun i => (gN i, [i])
  | .Tuple es _ _ => (optAll (tgOne c) es).map fun is => (gT is.length (gsN is), is)
  | _ => none
def ownOf (c : Ct) (scope : Scope) : List (Str × Nat) := scope.names.filterMap fun (n, k) => match k with
  | .local => (ixOf c.N n).map fun i => (n, i)
  | .cell => (ixOf c.N n).map fun i => (n, i)
  | _ => none
def blkCt (c : Ct) (scope : Scope) : Ct := { N := c.N, sc := relS scope c.sc, co := fun x => scope.names.lookup x == some .cell }
section
variable (T : Tab)
mutual
def cE : Nat → Ct → Expr → Option WE
  | 0, _, _ => none
  | n + 1, c, e => match e with
    | .Constant k _ _ => wConst k
    | .Name x _ => wName T c x
    | .BinOp a op b _ => op3 wBin (opOf op) (cE n c a) (cE n c b)
    | .UnaryOp .USub a _ => (match negC a with
      | some i => some (wC (.int (-i)))
      | none => (cE n c a).map (wUn oNeg))
    | .UnaryOp .Not a _ => (cE n c a).map (wUn oNot)
    | .BoolOp .And es _ => cAnd n c es
    | .BoolOp .Or es _ => cOr n c es
    | .Compare a [op] [b] _ => if noSetE b = true then op3 wBin (cmOf op) (cE n c a) (cE n c b) else none
    | .Compare a [op, op'] [b, d] _ => if noSetE d = true then (match op2 wChain (cmOf op) (cmOf op') with
      | some f => op3 f (cE n c a) (cE n c b) (cE n c d)
      | none => none) else none
    | .IfExp t a b _ => op3 wIfE (cT n c t) (cE n c a) (cE n c b)
    | .Tuple es _ _ => (cEs n c es).map wTup
    | .List es _ => (cEs n c es).map wLst
    | .Subscript a s _ => cSub n c a s
    | .Call f args kws pos => if kws.isEmpty = true then cCall n c f args pos else none
    | .ListComp elt [⟨tg, iter, ifs, 0⟩] scope _ => cComp n c elt tg iter ifs scope
    | .Dict keys values _ => (match optAll keyC keys, optAll (cE n c) values with
      | some ks, some ws => if ks.length = ws.length ∧ ks.length ≤ 15 ∧ ks.Nodup then some (wDisp (ks.zip ws)) else none
      | _, _ => none)
    | _ => none
def cEs : Nat → Ct → List Expr → Option (List WE)
  | 0, _, _ => none
  | n + 1, c, es => match es with
    | [] => some []
    | e :: r => if noStar e = true then op2 List.cons (cE n c e) (cEs n c r) else none
def cAnd : Nat → Ct → List Expr → Option WE
  | 0, _, _ => none
  | n + 1, c, es => match es with
    | [] => none
    | [e] => cE n c e
    | e :: r => op2 wAnd (cE n c e) (cAnd n c r)
def cOr : Nat → Ct → List Expr → Option WE
  | 0, _, _ => none
  | n + 1, c, es => match es with
    | [] => none
    | [e] => cE n c e
    | e :: r => op2 wOr (cE n c e) (cOr n c r)
/-- a test -/
def cT : Nat → Ct → Expr → Option WE
  | 0, _, _ => none
  | n + 1, c, e => match e with
    | .UnaryOp .Not a _ => (cT n c a).map (wUn oNot)
    | .BoolOp .And es _ => cTAnd n c es
    | .BoolOp .Or es _ => cTOr n c es
    | .Compare a [op] [b] _ => if noSetE b = true then op3 wBin (cmOf op) (cE n c a) (cE n c b) else none
    | .Compare a [op, op'] [b, d] _ => if noSetE d = true then (match op2 wChain (cmOf op) (cmOf op') with
      | some f => op3 f (cE n c a) (cE n c b) (cE n c d)
      | none => none) else none
    | .Name x _ => (wName T c x).map wTru
    | .Subscript a s _ => cSub n c a s
    | .Call f args kws pos => if kws.isEmpty = true then cCall n c f args pos else none
    | _ => none
def cTAnd : Nat → Ct → List Expr → Option WE
  | 0, _, _ => none
  | n + 1, c, es => match es with
    | [] => none
    | [e] => cT n c e
    | e :: r => op2 wAnd (cT n c e) (cTAnd n c r)
def cTOr : Nat → Ct → List Expr → Option WE
  | 0, _, _ => none
  | n + 1, c, es => match es with
    | [] => none
    | [e] => cT n c e
    | e :: r => op2 wOr (cT n c e) (cTOr n c r)
def cSub : Nat → Ct → Expr → Expr → Option WE
  | 0, _, _, _ => none
  | n + 1, c, a, s => match s with
    | .Slice lo hi none _ => op3 wSl (cE n c a) (cO n c lo) (cO n c hi)
    | .Slice none none (some (.UnaryOp .USub (.Constant (.int 1) _ _) _)) _ => (cE n c a).map (wUn oRev)
    | .Slice _ _ _ _ => none
    | i => op2 (wBin oIx) (cE n c a) (cE n c i)
def cO : Nat → Ct → Option Expr → Option WO
  | 0, _, _ => none
  | _ + 1, _, none => some wNo
  | n + 1, c, some e => (cE n c e).map wSo
def cCall : Nat → Ct → Expr → List Expr → Pos → Option WE
  | 0, _, _, _, _ => none
  | n + 1, c, f, args, pos => match f with
    | .Name x _ => wCallN T c x args.length (cEs n c args)
    | .Attribute o m apos => if noSuper o = true ∧ (apos.endLine == pos.line) = true ∧ args.length < 29 then (match mtOf m with
      | some (s, g) => op2 (wMt s g) (cE n c o) (cEs n c args)
      | none => none) else none
    | _ => none
def cComp : Nat → Ct → Expr → Expr → Expr → List Expr → Scope → Option WE
  | 0, _, _, _, _, _, _ => none
  | n + 1, c, elt, tg, iter, ifs, scope =>
    if blkC c.N c.sc scope (ownOf c scope) = true then
      match cI n c tg iter, cTg (blkCt c scope) tg, cE n (blkCt c scope) elt with
      | some wi, some (g, is), some we => if is.all (fun i => (ownOf c scope).any fun p => p.2 == i) = true then (match ifs with
        | [] => some (wComp ((ownOf c scope).map (·.2)) wi g (wC (.bl true)) we)
        | [t] => (cT n (blkCt c scope) t).map fun wt => wComp ((ownOf c scope).map (·.2)) wi g wt we
        | _ => none) else none
      | _, _, _ => none
    else none
/-- what is walked -/
def cI : Nat → Ct → Expr → Expr → Option WI
  | 0, _, _, _ => none
  | n + 1, c, tg, iter => match iter with
    | .Call (.Name x _) args [] _ =>
      if x = "range" then (if T.non.contains "range" = true ∧ isGl c "range" = true then (match cEs n c args with
        | some [a] => some (iR1 a)
        | some [a, b] => some (iR2 a b)
        | some [a, b, d] => some (iR3 a b d)
        | _ => none) else none)
      else if x = "enumerate" then (if T.non.contains "enumerate" = true ∧ isGl c "enumerate" = true then (match tg, cEs n c args with
        | .Tuple _ _ _, some [a] => some (iEn a)
        | _, _ => none) else none)
      else if x = "zip" then (if T.non.contains "zip" = true ∧ isGl c "zip" = true then (match tg, cEs n c args with
        | .Tuple _ _ _, some [a, b] => some (iZp a b)
        | .Tuple _ _ _, some [a, b, d] => some (iZ3 a b d)
        | _, _ => none) else none)
      else if x = "reversed" then (if T.non.contains "reversed" = true ∧ isGl c "reversed" = true then (match cEs n c args with
        | some [a] => some (iRv a)
        | _ => none) else none)
      else (cE n c iter).map iAny
    | .Set _ _ _ => none
    | e => (cE n c e).map iAny
end
end
end Mp
namespace Mp
open PySem PySem.Spec PyProof.Rows L2

structure XOk (X : Cx) (T : Tab) (c : Ct) : Prop where
  N : X.N = c.N
  nd : X.N.Nodup
  sc : X.env.scope = c.sc
  kd : c.sc.kind = .function
  co : ∀ x, c.co x = true → X.fn x = true
  calm : X.calm = true
  gd : X.A.guards = some []
  fns : ∃ k, Room k X.A ∧ ∀ x n S, T.fns.lookup x = some (n, S) → FnIs X.prog X.w X.K X.mg X.base k x n S
  non : ∀ x, T.non.contains x = true → X.mg x = none
  con : ∀ x p, T.con.lookup x = some p → ∃ u v, X.mg x = some u ∧ RelV v u ∧ ∀ H, RepV X.K H p v
section
variable {X : Cx} {T : Tab} {c : Ct}
theorem XOk.hu (h : XOk X T c) : X.A.units + 65 < cLine := by
  obtain ⟨k, hr, _⟩ := h.fns
  have := hr.un
  omega
theorem op2_some {α β γ : Type} {f : α → β → γ} {a : Option α} {b : Option β} {z : γ} (h : op2 f a b = some z) : ∃ x y, a = some x ∧ b = some y ∧ z = f x y := by
  cases a <;> cases b <;> first | (cases h; done) | exact ⟨_, _, rfl, rfl, (Option.some.inj h).symm⟩
theorem op3_some {α β γ δ : Type} {f : α → β → γ → δ} {a : Option α} {b : Option β} {d : Option γ} {z : δ} (h : op3 f a b d = some z) : ∃ x y w, a = some x ∧ b = some y ∧ d = some w ∧ z = f x y w := by
  cases a <;> cases b <;> cases d <;> first | (cases h; done) | exact ⟨_, _, _, rfl, rfl, rfl, (Option.some.inj h).symm⟩
theorem map_some' {α β : Type} {f : α → β} {a : Option α} {z : β} (h : a.map f = some z) : ∃ x, a = some x ∧ z = f x := by
  cases a <;> first | (cases h; done) | exact ⟨_, rfl, (Option.some.inj h).symm⟩
theorem opOf_ok {op : Operator} {f : Op2} (h : opOf op = some f) : OpOk X (binaryOp op) f := by
  cases op <;> first | (cases h; done) | skip
  · cases h; exact ok_add
  · cases h; exact ok_sub
  · cases h; exact ok_mul
  · cases h; exact ok_mod
  · cases h; exact ok_pow
  · cases h; exact ok_div
theorem cmOf_ok (hx : XOk X T c) {op : CmpOp} {f : Op2} (h : cmOf op = some f) : OpOk X (compareOp op) f := by
  have hu := hx.hu
  cases op <;> (cases h) <;> first | exact ok_eq (by omega) | exact ok_ne (by omega) | exact ok_lt | exact ok_le | exact ok_gt | exact ok_ge | exact ok_is | exact ok_isnot | exact ok_in hu | exact ok_notin hu
theorem setE_marks {op : CmpOp} {b : Expr} (h : noSetE b = true) : behindInMarks op b = false := by
  cases b <;> first | rfl | cases h
theorem setE_last {op op' : CmpOp} {b d : Expr} (h : noSetE d = true) : lastMarks [op, op'] [b, d] = false := setE_marks h
theorem okName_of {x : Str} (h : okName x = true) : (x == ("__debug__" : Str)) = false ∧ (x == ("__classdict__" : Str)) = false ∧ x ≠ "__name__" := by
  unfold okName at h
  simp only [Bool.and_eq_true, Bool.not_eq_true'] at h
  exact ⟨h.1.1, h.1.2, fun e => by rw [e] at h; exact absurd h.2 (by decide +kernel)⟩
theorem cVar_ok (hx : XOk X T c) {x : Str} {i : Nat} (h : cVar c x = some i) : X.N[i]? = some x ∧ Vis X.env.scope x := by
  unfold cVar at h
  rw [hx.N, hx.sc]
  split at h
  · rename_i e; exact ⟨ixOf_get h, .inl e⟩
  · rename_i e; exact ⟨ixOf_get h, .inr (.inl e)⟩
  · rename_i e; exact ⟨ixOf_get h, .inr (.inr e)⟩
  · cases h
theorem cSto_ok (hx : XOk X T c) {x : Str} {i : Nat} (h : cSto c x = some i) : X.N[i]? = some x ∧ Loc X.env.scope x ∧ (X.fn x = true ∨ X.env.scope.names.lookup x = some .local) := by
  unfold cSto at h
  rw [hx.N, hx.sc]
  split at h
  · rename_i e; exact ⟨ixOf_get h, .inl e, .inr e⟩
  · rename_i e
    split at h
    · rename_i e2
      exact ⟨ixOf_get h, .inr e, .inl (hx.co x e2)⟩
    · cases h
  · cases h
theorem isGl_ok (hx : XOk X T c) {x : Str} (h : isGl c x = true) : Gl X x := by
  unfold isGl at h
  show X.env.scope.names.lookup x = some .globalImplicit
  rw [hx.sc]
  simpa using h
theorem tyOf_ok {x : Str} {s : String} (h : tyOf x = some s) : bootBuiltins x = some (.type s) := by
  unfold tyOf at h
  repeat' (split at h; · rename_i e; cases h; rw [e]; decide +kernel)
  cases h
theorem wName_ok (hx : XOk X T c) {x : Str} {w : WE} {pos : Pos} (h : wName T c x = some w) : PE X (.Name x pos) (liftE X.K w) := by
  unfold wName at h
  split at h
  · cases h
  · rename_i hok
    have hok : okName x = true := by simpa using hok
    obtain ⟨h1, h2, h3⟩ := okName_of hok
    split at h
    · rename_i i e
      cases h
      obtain ⟨e1, e2⟩ := cVar_ok hx e
      exact q_var e1 e2 h1 h2
    · split at h
      · cases h
      · rename_i hg
        have hg := isGl_ok hx (by simpa using hg)
        split at h
        · rename_i p e
          cases h
          obtain ⟨u, v, e1, e2, e3⟩ := hx.con x p e
          exact q_const (pe_glob hg e1 e2 h1) e3
        · split at h
          · rename_i hn
            obtain ⟨s, e1, rfl⟩ := map_some' h
            exact q_const (pe_bltn hg (hx.non x hn) (tyOf_ok e1) (v := .ty s) rfl h3 h1) fun _ => rfl
          · cases h
theorem wConst_ok {k : Const} {w : WE} {j : Nat} {pos : Pos} (h : wConst k = some w) : PE X (.Constant k j pos) (liftE X.K w) := by
  cases k <;> first | (cases h; done) | skip
  all_goals cases h
  · exact q_const pe_non fun _ => rfl
  · exact q_const pe_bl fun _ => rfl
  · exact q_const pe_int fun _ => rfl
  · exact q_const pe_str fun _ => rfl
theorem star_cons {e : Expr} {es : List Expr} {env : PySem.Env} (h : noStar e = true) : starEach (e :: es) env = (false, eval e env) :: starEach es env := by
  cases e <;> first | rfl | cases h
theorem star_any {pos : Pos} {env : PySem.Env} : ∀ {es : List Expr}, es.all noStar = true → (backTo pos (starEach es env)).any (·.1) = false
  | [], _ => rfl
  | e :: r, h => by
    rw [List.all_cons, Bool.and_eq_true] at h
    rw [star_cons h.1]
    show (false || (backTo pos (starEach r env)).any (·.1)) = false
    rw [star_any h.2]
    rfl
theorem star_few {pos : Pos} {env : PySem.Env} : ∀ {es : List Expr}, es.all noStar = true → (backTo pos (starEach es env)).all (fun x => !x.1) = true
  | [], _ => rfl
  | e :: r, h => by
    rw [List.all_cons, Bool.and_eq_true] at h
    rw [star_cons h.1]
    show (!false && (backTo pos (starEach r env)).all (fun x => !x.1)) = true
    rw [star_few h.2]
    rfl
theorem super_base {o : Expr} {m : Str} {env : PySem.Env} {whole : Sem Value} (h : noSuper o = true) : attributeBase o m env whole = whole := by
  cases o <;> first | rfl | skip
  rename_i f args kws p
  cases args with
  | nil => cases h
  | cons a as => cases f <;> rfl
def BkOk (X : Cx) (x : Str) : Bk → Prop
  | .fn id g => BiOk X (.builtin id) g ∧ bootBuiltins x = some (.builtin id)
  | .ty id g => BiOk X (.type id) g ∧ bootBuiltins x = some (.type id)
theorem bkOf_ok (hx : XOk X T c) {x : Str} {b : Bk} (h : bkOf x = some b) : BkOk X x b := by
  have hc := hx.calm
  have hm := PySem.mem_of_lookup (show bkTab.lookup x = some b from h)
  unfold bkTab at hm
  rcases List.mem_cons.mp hm with e | hm
  · cases e; exact ⟨b_len, by decide +kernel⟩
  rcases List.mem_cons.mp hm with e | hm
  · cases e; exact ⟨b_isi, by decide +kernel⟩
  rcases List.mem_cons.mp hm with e | hm
  · cases e; exact ⟨b_abs, by decide +kernel⟩
  rcases List.mem_cons.mp hm with e | hm
  · cases e; exact ⟨b_int, by decide +kernel⟩
  rcases List.mem_cons.mp hm with e | hm
  · cases e; exact ⟨b_list, by decide +kernel⟩
  rcases List.mem_cons.mp hm with e | hm
  · cases e; exact ⟨b_tuple, by decide +kernel⟩
  rcases List.mem_cons.mp hm with e | hm
  · cases e; exact ⟨b_all hc, by decide +kernel⟩
  rcases List.mem_cons.mp hm with e | hm
  · cases e; exact ⟨b_any hc, by decide +kernel⟩
  rcases List.mem_cons.mp hm with e | hm
  · cases e; exact ⟨b_min hc, by decide +kernel⟩
  rcases List.mem_cons.mp hm with e | hm
  · cases e; exact ⟨b_max hc, by decide +kernel⟩
  rcases List.mem_cons.mp hm with e | hm
  · cases e; exact ⟨b_divmod, by decide +kernel⟩
  rcases List.mem_cons.mp hm with e | hm
  · cases e; exact ⟨b_sum hc, by decide +kernel⟩
  rcases List.mem_cons.mp hm with e | hm
  · cases e; exact ⟨b_sorted hx.hu, by decide +kernel⟩
  rcases List.mem_cons.mp hm with e | hm
  · cases e; exact ⟨b_str hx.hu hx.gd, by decide +kernel⟩
  rcases List.mem_cons.mp hm with e | hm
  · cases e; exact ⟨b_dict hc, by decide +kernel⟩
  cases hm
theorem mtOf_ok (hx : XOk X T c) {m : Str} {s : String} {g : MtF} (h : mtOf m = some (s, g)) : MtOk X s m g := by
  have hu := hx.hu
  have hm := PySem.mem_of_lookup (show mtTab.lookup m = some (s, g) from h)
  unfold mtTab at hm
  rcases List.mem_cons.mp hm with e | hm
  · cases e; exact k_append
  rcases List.mem_cons.mp hm with e | hm
  · cases e; exact k_extend
  rcases List.mem_cons.mp hm with e | hm
  · cases e; exact k_pop
  rcases List.mem_cons.mp hm with e | hm
  · cases e; exact k_reverse
  rcases List.mem_cons.mp hm with e | hm
  · cases e; exact k_clear
  rcases List.mem_cons.mp hm with e | hm
  · cases e; exact k_insert
  rcases List.mem_cons.mp hm with e | hm
  · cases e; exact k_get (by omega)
  rcases List.mem_cons.mp hm with e | hm
  · cases e; exact k_index hu
  rcases List.mem_cons.mp hm with e | hm
  · cases e; exact k_join
  rcases List.mem_cons.mp hm with e | hm
  · cases e; exact k_split
  rcases List.mem_cons.mp hm with e | hm
  · cases e; exact k_part
  rcases List.mem_cons.mp hm with e | hm
  · cases e; exact k_strip
  rcases List.mem_cons.mp hm with e | hm
  · cases e; exact k_starts
  rcases List.mem_cons.mp hm with e | hm
  · cases e; exact k_count
  cases hm
theorem wCallN_ok (hx : XOk X T c) {x : Str} {args : List Expr} {ws : Option (List WE)} {w : WE} {p pos : Pos} (h : wCallN T c x args.length ws = some w)
    (ha : ∀ vs, ws = some vs → PA X args (liftA X.K vs) ∧ args.all noStar = true ∧ vs.length = args.length) : PE X (.Call (.Name x p) args [] pos) (liftE X.K w) := by
  unfold wCallN at h
  split at h
  · cases h
  · rename_i hok
    rw [Bool.or_eq_true, not_or] at hok
    obtain ⟨h1, h2, h3⟩ := okName_of (x := x) (by simpa using hok.1)
    have hg := isGl_ok hx (x := x) (by simpa using hok.2)
    split at h
    · cases h
    · rename_i vs
      obtain ⟨hpa, hns, hlen⟩ := ha vs rfl
      split at h
      · rename_i m S e
        split at h
        · rename_i hm
          subst hm
          cases h
          obtain ⟨k, hr, hf⟩ := hx.fns
          have F := hf x _ S e
          cases args with
          | nil =>
            have ev : vs = [] := List.eq_nil_of_length_eq_zero hlen
            subst ev
            exact q_call0 F hx.gd hr hg h1
          | cons a as =>
            rw [List.all_cons, Bool.and_eq_true] at hns
            exact q_call F hx.gd hr hg hlen hpa h1 (star_cons hns.1) (star_any hns.2)
        · cases h
      · split at h
        · rename_i hn
          have hm := hx.non x hn
          split at h
          · rename_i id g e
            split at h
            · cases h
            · rename_i hz
              cases h
              obtain ⟨b1, b2⟩ := (show BiOk X (.builtin id) g ∧ _ from bkOf_ok hx e)
              cases args with
              | nil => exact absurd rfl hz
              | cons a as =>
                rw [List.all_cons, Bool.and_eq_true] at hns
                exact q_bi b1 hg hm b2 hpa h3 h1 (star_cons hns.1) (star_any hns.2)
          · rename_i id g e
            split at h
            · cases h
            · rename_i hz
              cases h
              obtain ⟨b1, b2⟩ := (show BiOk X (.type id) g ∧ _ from bkOf_ok hx e)
              cases args with
              | nil => exact absurd rfl hz
              | cons a as =>
                rw [List.all_cons, Bool.and_eq_true] at hns
                exact q_ty b1 hg hm b2 hpa h3 h1 (star_cons hns.1) (star_any hns.2)
          · cases h
        · cases h
theorem optAll_paired {α β : Type} {f : α → Option β} {r : α → β → Prop} (h : ∀ a b, f a = some b → r a b) : ∀ {as : List α} {bs : List β}, optAll f as = some bs → Paired r as bs
  | [], _, e => by cases e; exact .nil
  | a :: as, _, e => by
    unfold optAll at e
    split at e
    · rename_i b bs h1 h2
      cases e
      exact .cons (h a b h1) (optAll_paired h h2)
    · cases e
theorem optAll_map {α β : Type} {f : α → Option β} : ∀ {as : List α} {bs : List β}, optAll f as = some bs → as.map f = bs.map some
  | [], _, e => by cases e; rfl
  | a :: as, _, e => by
    unfold optAll at e
    split at e
    · rename_i b bs h1 h2
      cases e
      rw [List.map_cons, List.map_cons, h1, optAll_map h2]
    · cases e
theorem tgOne_ok {X : Cx} {c : Ct} (hx : XOk X T c) {e : Expr} {i : Nat} (h : tgOne c e = some i) : PG X e (gName i) ∧ noStar e = true := by
  cases e <;> first | (cases h; done) | skip
  rename_i x p
  have h : (if okName x = true then cSto c x else none) = some i := h
  split at h
  · obtain ⟨h1, h2, h3⟩ := cSto_ok hx h
    exact ⟨pg_name hx.nd h1 h2 h3, rfl⟩
  · cases h
theorem asg_len {env : PySem.Env} : ∀ {es : List Expr}, es.all noStar = true → (assignEach es env).length = es.length ∧ (assignEach es env).findIdx? (·.1) = none ∧ (assignEach es env).map (·.2) = es.map fun e => assign e env
  | [], _ => ⟨rfl, rfl, rfl⟩
  | e :: r, h => by
    rw [List.all_cons, Bool.and_eq_true] at h
    obtain ⟨h1, h2, h3⟩ := asg_len (env := env) h.2
    have e1 : assignEach (e :: r) env = (false, assign e env) :: assignEach r env := by
      have := h.1
      cases e <;> first | rfl | cases this
    rw [e1]
    refine ⟨by rw [List.length_cons, List.length_cons, h1], ?_, by rw [List.map_cons, List.map_cons, h3]⟩
    rw [List.findIdx?_cons]
    simp [h2]
theorem tgs_ok {X : Cx} {c : Ct} (hx : XOk X T c) {vs : List Nat} : ∀ {es : List Expr} {is : List Nat}, optAll (tgOne c) es = some is → (∀ i ∈ is, i ∈ vs) → es.all noStar = true ∧ is.length = es.length ∧ ∃ g, PGs X es g ∧ ∀ K, CtsOk K g (gsN is) vs
  | [], is, h, _ => by cases h; exact ⟨rfl, rfl, _, pgs_nil, fun K => cts_nil⟩
  | e :: r, is, h, hm => by
    unfold optAll at h
    split at h
    · rename_i i js h1 h2
      cases h
      obtain ⟨p1, p2⟩ := tgOne_ok hx h1
      obtain ⟨q1, q2, g, q3, q4⟩ := tgs_ok hx h2 fun j hj => hm j (List.mem_cons_of_mem _ hj)
      have hns : (e :: r).all noStar = true := by rw [List.all_cons, p2, q1]; rfl
      refine ⟨hns, by rw [List.length_cons, List.length_cons, q2], _, pgs_cons p1 q3 ?_, fun K => cts_cons (hm i List.mem_cons_self) (q4 K)⟩
      have e1 : assignEach (e :: r) X.env = (false, assign e X.env) :: assignEach r X.env := by
        cases e <;> first | rfl | cases p2
      rw [e1]
      rfl
    · cases h
theorem cTg_ok {X : Cx} {c : Ct} (hx : XOk X T c) {e : Expr} {g : WG} {is vs : List Nat} (h : cTg c e = some (g, is)) (hm : ∀ i ∈ is, i ∈ vs) : ∃ t, PG X e t ∧ CtOk X.K t g vs := by
  cases e <;> first | (cases h; done) | skip
  · rename_i x p
    obtain ⟨i, h1, h2⟩ := map_some' h
    cases h2
    have h1' : tgOne c (.Name x p) = some i := h1
    exact ⟨_, (tgOne_ok hx h1').1, ct_one (hm i (by simp))⟩
  · rename_i es k p
    obtain ⟨js, h1, h2⟩ := map_some' h
    cases h2
    obtain ⟨q1, q2, t, q3, q4⟩ := tgs_ok hx h1 hm
    obtain ⟨l1, l2, _⟩ := asg_len (env := X.env) q1
    exact ⟨_, pg_tupU (n := es.length) hx.calm q3 l1 l2, ct_many q2.symm (q4 X.K)⟩
theorem blk_ok (hx : XOk X T c) {scope : Scope} (hk : BlkOk X.N X.env.scope scope (ownOf c scope)) (s : Shared) (H : Hp) (C : Addr) (cl : List (Str × Addr)) (fp : List Addr) : XOk (X.blk s H scope (compEnvC scope cl C X.env) fp) T (blkCt c scope) := by
  refine ⟨hx.N, hx.nd, ?_, hk.kind, fun x h => h, hx.calm, hx.gd, hx.fns, hx.non, hx.con⟩
  show relS scope X.env.scope = relS scope c.sc
  rw [hx.sc]
end
end Mp
namespace Mp
open PySem PySem.Spec PyProof.Rows L2

theorem plain_ix {s : Expr} (h : noSlice s = true) : PlainIx s := fun o i => by cases s <;> first | rfl | cases h
theorem no_fold {iter : Expr} {env : PySem.Env} (h : noSetE iter = true) (x : Value) : foldedSetIterable iter env x = pure x := by cases iter <;> first | rfl | cases h
theorem cI_set {T : Tab} {n : Nat} {c : Ct} {tg iter : Expr} {w : WI} (h : cI T n c tg iter = some w) : noSetE iter = true := by
  cases n with
  | zero => simp only [cI] at h; cases h
  | succ n => cases iter <;> first | rfl | (simp only [cI] at h; cases h)
structure Sn (T : Tab) (n : Nat) : Prop where
  e : ∀ {X : Cx} {c : Ct} {e : Expr} {w : WE}, XOk X T c → cE T n c e = some w → PE X e (liftE X.K w)
  es : ∀ {X : Cx} {c : Ct} {es : List Expr} {ws : List WE}, XOk X T c → cEs T n c es = some ws → PA X es (liftA X.K ws) ∧ es.all noStar = true ∧ ws.length = es.length
  and : ∀ {X : Cx} {c : Ct} {es : List Expr} {w : WE} {pos : Pos}, XOk X T c → cAnd T n c es = some w → PE X (.BoolOp .And es pos) (liftE X.K w)
  or : ∀ {X : Cx} {c : Ct} {es : List Expr} {w : WE} {pos : Pos}, XOk X T c → cOr T n c es = some w → PE X (.BoolOp .Or es pos) (liftE X.K w)
  t : ∀ {X : Cx} {c : Ct} {e : Expr} {w : WE}, XOk X T c → cT T n c e = some w → PT X e (liftT X.K w)
  tand : ∀ {X : Cx} {c : Ct} {es : List Expr} {w : WE} {pos : Pos}, XOk X T c → cTAnd T n c es = some w → PW X (.BoolOp .And es pos) (liftT X.K w)
  tor : ∀ {X : Cx} {c : Ct} {es : List Expr} {w : WE} {pos : Pos}, XOk X T c → cTOr T n c es = some w → PW X (.BoolOp .Or es pos) (liftT X.K w)
  sub : ∀ {X : Cx} {c : Ct} {a s : Expr} {w : WE} {pos : Pos}, XOk X T c → cSub T n c a s = some w → PE X (.Subscript a s pos) (liftE X.K w)
  o : ∀ {X : Cx} {c : Ct} {o : Option Expr} {w : WO}, XOk X T c → cO T n c o = some w → PO X o (liftO X.K w)
  call : ∀ {X : Cx} {c : Ct} {f : Expr} {args : List Expr} {w : WE} {pos : Pos}, XOk X T c → cCall T n c f args pos = some w → PE X (.Call f args [] pos) (liftE X.K w)
  comp : ∀ {X : Cx} {c : Ct} {elt tg iter : Expr} {ifs : List Expr} {scope : Scope} {w : WE}, XOk X T c → cComp T n c elt tg iter ifs scope = some w →
    (∀ pos, PE X (.ListComp elt [⟨tg, iter, ifs, 0⟩] scope pos) (liftE X.K w)) ∧
    ∀ (pos spos py : Pos) (i : Nat) (y : Str), X.N[i]? = some y → X.env.scope.names.lookup y = some .local → swapsWith (.ListComp elt [⟨tg, iter, ifs, 0⟩] scope pos) (some (.Name y py)) spos.line X.env = pure true →
      PS X (.Assign [.Name y py] (.ListComp elt [⟨tg, iter, ifs, 0⟩] scope pos) spos) (liftS X.K (sAsg (gN i) w))
  i : ∀ {X : Cx} {c : Ct} {tg iter : Expr} {w : WI}, XOk X T c → cI T n c tg iter = some w → PI X tg iter (liftI X.K w)
section
variable {T : Tab}
theorem sn_zero : Sn T 0 := by
  refine ⟨?_, ?_, ?_, ?_, ?_, ?_, ?_, ?_, ?_, ?_, ?_, ?_⟩ <;> (intros; rename_i h; first | (simp only [cE] at h; cases h) | (simp only [cEs] at h; cases h) | (simp only [cAnd] at h; cases h) | (simp only [cOr] at h; cases h) | (simp only [cT] at h; cases h) | (simp only [cTAnd] at h; cases h) | (simp only [cTOr] at h; cases h) | (simp only [cSub] at h; cases h) | (simp only [cO] at h; cases h) | (simp only [cCall] at h; cases h) | (simp only [cComp] at h; cases h) | (simp only [cI] at h; cases h))
variable {n : Nat} {X : Cx} {c : Ct}
theorem sn_cmp (ih : Sn T n) (hx : XOk X T c) {a b : Expr} {op : CmpOp} {w : WE} {pos : Pos} (h : (if noSetE b = true then op3 wBin (cmOf op) (cE T n c a) (cE T n c b) else none) = some w) :
    PE X (.Compare a [op] [b] pos) (liftE X.K w) ∧ PT X (.Compare a [op] [b] pos) (liftT X.K w) := by
  split at h
  · rename_i hs
    obtain ⟨f, wa, wb, h1, h2, h3, rfl⟩ := op3_some h
    exact ⟨q_cmp (cmOf_ok hx h1) (ih.e hx h2) (ih.e hx h3) (setE_marks hs), t_cmp (cmOf_ok hx h1) (ih.e hx h2) (ih.e hx h3) (setE_marks hs)⟩
  · cases h
theorem sn_chain (ih : Sn T n) (hx : XOk X T c) {a b d : Expr} {op op' : CmpOp} {w : WE} {pos : Pos}
    (h : (if noSetE d = true then (match op2 wChain (cmOf op) (cmOf op') with | some f => op3 f (cE T n c a) (cE T n c b) (cE T n c d) | none => none) else none) = some w) :
    PE X (.Compare a [op, op'] [b, d] pos) (liftE X.K w) ∧ PT X (.Compare a [op, op'] [b, d] pos) (liftT X.K w) := by
  split at h
  · rename_i hs
    split at h
    · rename_i f e
      obtain ⟨f1, f2, g1, g2, rfl⟩ := op2_some e
      obtain ⟨wa, wb, wc, h1, h2, h3, rfl⟩ := op3_some h
      exact ⟨q_chain (cmOf_ok hx g1) (cmOf_ok hx g2) (ih.e hx h1) (ih.e hx h2) (ih.e hx h3) (setE_last hs), t_chain (cmOf_ok hx g1) (cmOf_ok hx g2) (ih.e hx h1) (ih.e hx h2) (ih.e hx h3) (setE_last hs)⟩
    · cases h
  · cases h
theorem sn_neg (ih : Sn T n) (hx : XOk X T c) {a : Expr} {w : WE} {pos : Pos} (h : (match negC a with | some i => some (wC (.int (-i))) | none => (cE T n c a).map (wUn oNeg)) = some w) : PE X (.UnaryOp .USub a pos) (liftE X.K w) := by
  split at h
  · rename_i i e
    cases h
    cases a <;> first | (cases e; done) | skip
    rename_i k j p
    cases k <;> first | (cases e; done) | skip
    cases e
    exact q_neg (wa := wC (.int i)) (q_const pe_int fun _ => rfl)
  · obtain ⟨wa, h1, rfl⟩ := map_some' h
    exact q_neg (ih.e hx h1)
theorem sn_e (ih : Sn T n) (hx : XOk X T c) {e : Expr} {w : WE} (h : cE T (n + 1) c e = some w) : PE X e (liftE X.K w) := by
  cases e with
  | Constant k j p => simp only [cE] at h; exact wConst_ok h
  | Name x p => simp only [cE] at h; exact wName_ok hx h
  | BinOp a op b p =>
    simp only [cE] at h
    obtain ⟨f, wa, wb, h1, h2, h3, rfl⟩ := op3_some h
    exact q_bin (opOf_ok h1) (ih.e hx h2) (ih.e hx h3)
  | UnaryOp op a p =>
    cases op with
    | USub => simp only [cE] at h; exact sn_neg ih hx h
    | Not =>
      simp only [cE] at h
      obtain ⟨wa, h1, rfl⟩ := map_some' h
      exact q_not (ih.e hx h1)
    | _ => simp only [cE] at h; cases h
  | BoolOp op es p =>
    cases op with
    | And => simp only [cE] at h; exact ih.and hx h
    | Or => simp only [cE] at h; exact ih.or hx h
  | Compare a ops bs p =>
    match ops, bs, h with
    | [op], [b], h => simp only [cE] at h; exact (sn_cmp ih hx h).1
    | [op, op'], [b, d], h => simp only [cE] at h; exact (sn_chain ih hx h).1
    | [], _, h => simp only [cE] at h; cases h
    | [_], [], h => simp only [cE] at h; cases h
    | [_], _ :: _ :: _, h => simp only [cE] at h; cases h
    | [_, _], [], h => simp only [cE] at h; cases h
    | [_, _], [_], h => simp only [cE] at h; cases h
    | [_, _], _ :: _ :: _ :: _, h => simp only [cE] at h; cases h
    | _ :: _ :: _ :: _, _, h => simp only [cE] at h; cases h
  | IfExp t a b p =>
    simp only [cE] at h
    obtain ⟨wt, wa, wb, h1, h2, h3, rfl⟩ := op3_some h
    exact q_ifE (ih.t hx h1) (ih.e hx h2) (ih.e hx h3)
  | Tuple es k p =>
    simp only [cE] at h
    obtain ⟨ws, h1, rfl⟩ := map_some' h
    exact q_tup (ih.es hx h1).1
  | List es p =>
    simp only [cE] at h
    obtain ⟨ws, h1, rfl⟩ := map_some' h
    exact q_lst (ih.es hx h1).1
  | Subscript a s p => simp only [cE] at h; exact ih.sub hx h
  | Call f args kws p =>
    simp only [cE] at h
    split at h
    · rename_i hk
      have : kws = [] := by simpa using hk
      subst this
      exact ih.call hx h
    · cases h
  | ListComp elt gs scope p =>
    match gs, h with
    | [⟨tg, iter, ifs, 0⟩], h => simp only [cE] at h; exact (ih.comp hx h).1 p
    | [], h => simp only [cE] at h; cases h
    | [⟨tg, iter, ifs, .ofNat (k + 1)⟩], h => simp only [cE] at h; cases h
    | [⟨tg, iter, ifs, .negSucc k⟩], h => simp only [cE] at h; cases h
    | _ :: _ :: _, h => simp only [cE] at h; cases h
  | Dict keys values p =>
    simp only [cE] at h
    split at h
    · rename_i ks ws h1 h2
      split at h
      · rename_i hc
        cases h
        by_cases h0 : ks = []
        · subst h0
          have hw : ws = [] := List.eq_nil_of_length_eq_zero hc.1.symm
          subst hw
          have hk := congrArg List.length (optAll_map h1)
          rw [List.length_map, List.length_map] at hk
          have hv := (optAll_paired (r := fun v w => PE X v (liftE X.K w)) (fun a b e => ih.e hx e) h2).length
          have hk : keys = [] := List.eq_nil_of_length_eq_zero hk
          have hv : values = [] := List.eq_nil_of_length_eq_zero hv
          subst hk hv
          exact q_disp0
        · exact q_disp (optAll_map h1) hc.1 (optAll_paired (r := fun v w => PE X v (liftE X.K w)) (fun a b e => ih.e hx e) h2) h0 hc.2.1 hc.2.2
      · cases h
    · cases h
  | _ => simp only [cE] at h; cases h
theorem sn_t (ih : Sn T n) (hx : XOk X T c) {e : Expr} {w : WE} (h : cT T (n + 1) c e = some w) : PT X e (liftT X.K w) := by
  cases e with
  | Name x p =>
    simp only [cT] at h
    obtain ⟨w', h1, rfl⟩ := map_some' h
    exact t_tru (wName_ok hx h1) fun _ => rfl
  | UnaryOp op a p =>
    cases op with
    | Not =>
      simp only [cT] at h
      obtain ⟨wa, h1, rfl⟩ := map_some' h
      exact t_not (ih.t hx h1)
    | _ => simp only [cT] at h; cases h
  | BoolOp op es p =>
    cases op with
    | And => simp only [cT] at h; exact (ih.tand hx h).pt
    | Or => simp only [cT] at h; exact (ih.tor hx h).pt
  | Compare a ops bs p =>
    match ops, bs, h with
    | [op], [b], h => simp only [cT] at h; exact (sn_cmp ih hx h).2
    | [op, op'], [b, d], h => simp only [cT] at h; exact (sn_chain ih hx h).2
    | [], _, h => simp only [cT] at h; cases h
    | [_], [], h => simp only [cT] at h; cases h
    | [_], _ :: _ :: _, h => simp only [cT] at h; cases h
    | [_, _], [], h => simp only [cT] at h; cases h
    | [_, _], [_], h => simp only [cT] at h; cases h
    | [_, _], _ :: _ :: _ :: _, h => simp only [cT] at h; cases h
    | _ :: _ :: _ :: _, _, h => simp only [cT] at h; cases h
  | Subscript a s p => simp only [cT] at h; exact t_val (ih.sub hx h) fun _ => rfl
  | Call f args kws p =>
    simp only [cT] at h
    split at h
    · rename_i hk
      have : kws = [] := by simpa using hk
      subst this
      exact t_val (ih.call hx h) fun _ => rfl
    · cases h
  | _ => simp only [cT] at h; cases h
theorem sn_es (ih : Sn T n) (hx : XOk X T c) {es : List Expr} {ws : List WE} (h : cEs T (n + 1) c es = some ws) : PA X es (liftA X.K ws) ∧ es.all noStar = true ∧ ws.length = es.length := by
  cases es with
  | nil => simp only [cEs] at h; cases h; exact ⟨q_nil, rfl, rfl⟩
  | cons e r =>
    simp only [cEs] at h
    split at h
    · rename_i hs
      obtain ⟨w, vs, h1, h2, rfl⟩ := op2_some h
      obtain ⟨p1, p2, p3⟩ := ih.es hx h2
      exact ⟨q_cons (ih.e hx h1) p1 (star_cons hs), by rw [List.all_cons, hs, p2]; rfl, by rw [List.length_cons, List.length_cons, p3]⟩
    · cases h
theorem sn_and (ih : Sn T n) (hx : XOk X T c) {es : List Expr} {w : WE} {pos : Pos} (h : cAnd T (n + 1) c es = some w) : PE X (.BoolOp .And es pos) (liftE X.K w) := by
  match es, h with
  | [], h => simp only [cAnd] at h; cases h
  | [e], h => simp only [cAnd] at h; exact q_one (ih.e hx h)
  | e :: b :: r, h =>
    simp only [cAnd] at h
    obtain ⟨wa, wb, h1, h2, rfl⟩ := op2_some h
    exact q_and (ih.e hx h1) (ih.and hx h2)
theorem sn_or (ih : Sn T n) (hx : XOk X T c) {es : List Expr} {w : WE} {pos : Pos} (h : cOr T (n + 1) c es = some w) : PE X (.BoolOp .Or es pos) (liftE X.K w) := by
  match es, h with
  | [], h => simp only [cOr] at h; cases h
  | [e], h => simp only [cOr] at h; exact q_one (ih.e hx h)
  | e :: b :: r, h =>
    simp only [cOr] at h
    obtain ⟨wa, wb, h1, h2, rfl⟩ := op2_some h
    exact q_or (ih.e hx h1) (ih.or hx h2)
theorem sn_tand (ih : Sn T n) (hx : XOk X T c) {es : List Expr} {w : WE} {pos : Pos} (h : cTAnd T (n + 1) c es = some w) : PW X (.BoolOp .And es pos) (liftT X.K w) := by
  match es, h with
  | [], h => simp only [cTAnd] at h; cases h
  | [e], h => simp only [cTAnd] at h; exact w_and1 (ih.t hx h)
  | e :: b :: r, h =>
    simp only [cTAnd] at h
    obtain ⟨wa, wb, h1, h2, rfl⟩ := op2_some h
    exact w_and (ih.t hx h1) (ih.tand hx h2)
theorem sn_tor (ih : Sn T n) (hx : XOk X T c) {es : List Expr} {w : WE} {pos : Pos} (h : cTOr T (n + 1) c es = some w) : PW X (.BoolOp .Or es pos) (liftT X.K w) := by
  match es, h with
  | [], h => simp only [cTOr] at h; cases h
  | [e], h => simp only [cTOr] at h; exact w_or1 (ih.t hx h)
  | e :: b :: r, h =>
    simp only [cTOr] at h
    obtain ⟨wa, wb, h1, h2, rfl⟩ := op2_some h
    exact w_or (ih.t hx h1) (ih.tor hx h2)
theorem sn_o (ih : Sn T n) (hx : XOk X T c) {o : Option Expr} {w : WO} (h : cO T (n + 1) c o = some w) : PO X o (liftO X.K w) := by
  cases o with
  | none => simp only [cO] at h; cases h; exact o_no
  | some e =>
    simp only [cO] at h
    obtain ⟨wa, h1, rfl⟩ := map_some' h
    exact o_so (ih.e hx h1)
theorem sn_call (ih : Sn T n) (hx : XOk X T c) {f : Expr} {args : List Expr} {w : WE} {pos : Pos} (h : cCall T (n + 1) c f args pos = some w) : PE X (.Call f args [] pos) (liftE X.K w) := by
  cases f with
  | Name x p => simp only [cCall] at h; exact wCallN_ok hx h fun vs hv => ih.es hx hv
  | Attribute o m ap =>
    simp only [cCall] at h
    split at h
    · rename_i hc
      obtain ⟨h1, h2, h3⟩ := hc
      split at h
      · rename_i s g e
        obtain ⟨wo, ws, g1, g2, rfl⟩ := op2_some h
        obtain ⟨p1, p2, p3⟩ := ih.es hx g2
        cases args with
        | nil =>
          have e2 : ws = [] := List.eq_nil_of_length_eq_zero p3
          subst e2
          exact q_mt0 (mtOf_ok hx e) (ih.e hx g1) (super_base h1) h2
        | cons a as =>
          have hst := p2
          rw [List.all_cons, Bool.and_eq_true] at p2
          refine q_mt (mtOf_ok hx e) (ih.e hx g1) p1 (super_base h1) ?_ h2 (star_cons p2.1) (star_any p2.2)
          rw [star_few hst]
          have e3 : (a :: as).length + ([] : List Keyword).length + (if ([] : List Keyword).isEmpty then 0 else 1) < 30 := by
            show (a :: as).length + 0 + 0 < 30
            omega
          rw [decide_eq_true e3]
          rfl
      · cases h
    · cases h
  | _ => simp only [cCall] at h; cases h
theorem sn_sub (ih : Sn T n) (hx : XOk X T c) {a s : Expr} {w : WE} {pos : Pos} (h : cSub T (n + 1) c a s = some w) : PE X (.Subscript a s pos) (liftE X.K w) := by
  have hu := hx.hu
  have go : ∀ {s : Expr}, noSlice s = true → op2 (wBin oIx) (cE T n c a) (cE T n c s) = some w → PE X (.Subscript a s pos) (liftE X.K w) := fun hs h => by
    obtain ⟨wa, wb, h1, h2, rfl⟩ := op2_some h
    exact q_ix (by omega) (ih.e hx h1) (ih.e hx h2) (plain_ix hs)
  cases s with
  | Slice lo hi st p =>
    cases st with
    | none =>
      simp only [cSub] at h
      obtain ⟨wa, wl, wh, h1, h2, h3, rfl⟩ := op3_some h
      exact q_sl (ih.e hx h1) (ih.o hx h2) (ih.o hx h3)
    | some st =>
      unfold cSub at h
      split at h
      · rename_i e; cases e
      · rename_i e
        cases e
        obtain ⟨wa, h1, rfl⟩ := map_some' h
        exact q_rev (ih.e hx h1)
      · cases h
      · rename_i e1 e2 e3
        exact absurd rfl (e3 _ _ _ _)
  | _ => simp only [cSub] at h; exact go rfl h
theorem sn_comp (ih : Sn T n) (hx : XOk X T c) {elt tg iter : Expr} {ifs : List Expr} {scope : Scope} {w : WE} (h : cComp T (n + 1) c elt tg iter ifs scope = some w) :
    (∀ pos, PE X (.ListComp elt [⟨tg, iter, ifs, 0⟩] scope pos) (liftE X.K w)) ∧
    ∀ (pos spos py : Pos) (i : Nat) (y : Str), X.N[i]? = some y → X.env.scope.names.lookup y = some .local → swapsWith (.ListComp elt [⟨tg, iter, ifs, 0⟩] scope pos) (some (.Name y py)) spos.line X.env = pure true →
      PS X (.Assign [.Name y py] (.ListComp elt [⟨tg, iter, ifs, 0⟩] scope pos) spos) (liftS X.K (sAsg (gN i) w)) := by
  simp only [cComp] at h
  split at h
  · rename_i hb
    have hk : BlkOk X.N X.env.scope scope (ownOf c scope) := by
      rw [hx.N, hx.sc]
      exact blkOk_by hb
    split at h
    · rename_i wi g is we h1 h2 h3
      split at h
      · rename_i hm
        have hm' : ∀ i ∈ is, i ∈ (ownOf c scope).map (·.2) := fun i hi => by
          have := List.all_eq_true.mp hm i hi
          rw [List.any_eq_true] at this
          obtain ⟨p, hp, e⟩ := this
          exact List.mem_map.mpr ⟨p, hp, by simpa using e⟩
        have hbx := fun s H C cl fp => blk_ok hx hk s H C cl fp
        -- the target's reading does not hang on the block's state
        have tg0 : ∃ t, (∀ s H C cl fp, PG (X.blk s H scope (compEnvC scope cl C X.env) fp) tg t) ∧ CtOk X.K t g ((ownOf c scope).map (·.2)) := by
          cases tg <;> first | (cases h2; done) | skip
          · rename_i x p
            obtain ⟨i, g1, g2⟩ := map_some' h2
            cases g2
            have g1' : tgOne (blkCt c scope) (.Name x p) = some i := g1
            exact ⟨_, fun s H C cl fp => (tgOne_ok (hbx s H C cl fp) g1').1, ct_one (hm' i (by simp))⟩
          · rename_i es k p
            obtain ⟨js, g1, g2⟩ := map_some' h2
            cases g2
            have main : ∀ {es : List Expr} {is : List Nat}, optAll (tgOne (blkCt c scope)) es = some is → (∀ i ∈ is, i ∈ (ownOf c scope).map (·.2)) →
                es.all noStar = true ∧ is.length = es.length ∧ ∃ g, (∀ s H C cl fp, PGs (X.blk s H scope (compEnvC scope cl C X.env) fp) es g) ∧ CtsOk X.K g (gsN is) ((ownOf c scope).map (·.2)) := by
              intro es
              induction es with
              | nil => intro is h _; cases h; exact ⟨rfl, rfl, _, fun s H C cl fp => pgs_nil, cts_nil⟩
              | cons e r ihr =>
                intro is h hm
                unfold optAll at h
                split at h
                · rename_i i js h1 h2
                  cases h
                  obtain ⟨q1, q2, t, q3, q4⟩ := ihr h2 fun j hj => hm j (List.mem_cons_of_mem _ hj)
                  have p2 : noStar e = true := by cases e <;> first | rfl | cases h1
                  have p1 : ∀ s H C cl fp, PG (X.blk s H scope (compEnvC scope cl C X.env) fp) e (gName i) := fun s H C cl fp => (tgOne_ok (hbx s H C cl fp) h1).1
                  refine ⟨by rw [List.all_cons, p2, q1]; rfl, by rw [List.length_cons, List.length_cons, q2], _, fun s H C cl fp => pgs_cons (p1 s H C cl fp) (q3 s H C cl fp) ?_, cts_cons (hm i List.mem_cons_self) q4⟩
                  have e1 : ∀ env, assignEach (e :: r) env = (false, assign e env) :: assignEach r env := fun env => by
                    cases e <;> first | rfl | cases p2
                  rw [e1]
                  rfl
                · cases h
            obtain ⟨q1, q2, t, q3, q4⟩ := main g1 hm'
            refine ⟨_, fun s H C cl fp => ?_, ct_many q2.symm q4⟩
            obtain ⟨l1, l2, _⟩ := asg_len (env := (X.blk s H scope (compEnvC scope cl C X.env) fp).env) q1
            exact pg_tupU (n := es.length) hx.calm (q3 s H C cl fp) l1 l2
        obtain ⟨t, pg, ct⟩ := tg0
        have pe : ∀ s H C cl fp, PE (X.blk s H scope (compEnvC scope cl C X.env) fp) elt (liftE X.K we) := fun s H C cl fp => ih.e (hbx s H C cl fp) h3
        have pi := ih.i hx h1
        have hset := no_fold (env := X.env) (cI_set h1)
        have fin : ∀ {tt : TT} {wt : WE}, (∀ s H C cl fp, PTs (X.blk s H scope (compEnvC scope cl C X.env) fp) ifs tt) → (∀ σ H Q, liftT X.K wt σ H Q → tt σ H Q) →
            (∀ pos, PE X (.ListComp elt [⟨tg, iter, ifs, 0⟩] scope pos) (liftE X.K (wComp ((ownOf c scope).map (·.2)) wi g wt we))) ∧
            ∀ (pos spos py : Pos) (i : Nat) (y : Str), X.N[i]? = some y → X.env.scope.names.lookup y = some .local → swapsWith (.ListComp elt [⟨tg, iter, ifs, 0⟩] scope pos) (some (.Name y py)) spos.line X.env = pure true →
              PS X (.Assign [.Name y py] (.ListComp elt [⟨tg, iter, ifs, 0⟩] scope pos) spos) (liftS X.K (sAsg (gN i) (wComp ((ownOf c scope).map (·.2)) wi g wt we))) := fun {tt wt} pt tw => by
          refine ⟨fun pos => (pe_lc hx.calm hx.nd pi hk pg pt pe hset).weak fun σ H Q q => lift_comp ct tw q, fun pos spos py i y hy hyl hsw => ?_⟩
          refine (ps_setLc hx.calm hx.nd hy hyl hsw pi hk pg pt pe hset).weak fun D σ H q => ?_
          obtain ⟨env, L, N, hs, hL, hw, k⟩ := q
          exact lift_comp ct tw ⟨env, L, _, hs, hL, hw, fun x La v H1 hb f1 rx r1 => k.nx _ La _ H1 hb f1 ((hs.ex (f1.ex hL)).set i rx) r1⟩
        match ifs, h with
        | [], h =>
          cases h
          refine fin (fun s H C cl fp => pts_nil) fun σ H Q q => ?_
          obtain ⟨env, L, R, hs, hL, hw, k⟩ := q
          obtain ⟨b, e, q⟩ := k _ L H hw .refl hL
          cases e
          exact q
        | [tst], h =>
          obtain ⟨wt, g1, rfl⟩ := map_some' h
          exact fin (fun s H C cl fp => pts_one (ih.t (hbx s H C cl fp) g1)) fun σ H Q q => q
        | _ :: _ :: _, h => cases h
      · cases h
    · cases h
  · cases h
theorem cEs_one {es : List Expr} {a : WE} (ih : Sn T n) (hx : XOk X T c) (h : cEs T n c es = some [a]) : ∃ e, es = [e] ∧ PA X [e] (liftA X.K [a]) ∧ noStar e = true := by
  obtain ⟨p1, p2, p3⟩ := ih.es hx h
  match es, p3 with
  | [e], _ => exact ⟨e, rfl, p1, by simpa using p2⟩
theorem sn_i (ih : Sn T n) (hx : XOk X T c) {tg iter : Expr} {w : WI} (h : cI T (n + 1) c tg iter = some w) : PI X tg iter (liftI X.K w) := by
  have any : ∀ {e : Expr}, (cE T n c e).map iAny = some w → PI X tg e (liftI X.K w) := fun h => by
    obtain ⟨wa, h1, rfl⟩ := map_some' h
    exact i_any (ih.e hx h1)
  have hgl : ∀ {x : Str}, isGl c x = true → Gl X x := fun h => isGl_ok hx h
  cases iter with
  | Set a b d => simp only [cI] at h; cases h
  | Call f args kws pos =>
    cases f with
    | Name x p =>
      cases kws with
      | cons k ks => simp only [cI] at h; exact any h
      | nil =>
        simp only [cI] at h
        split at h
        · rename_i ex
          subst ex
          split at h
          · rename_i hc
            obtain ⟨hn, hg⟩ := hc
            split at h
            · rename_i a ea
              cases h
              obtain ⟨e, rfl, p1, p2⟩ := cEs_one ih hx ea
              exact i_r1 (hgl hg) (hx.non _ hn) p1 (star_cons p2)
            · rename_i a b ea
              cases h
              obtain ⟨p1, p2, p3⟩ := ih.es hx ea
              match args, p3 with
              | [e, e2], _ =>
                simp only [List.all_cons, List.all_nil, Bool.and_true, Bool.and_eq_true] at p2
                have s2 : starEach [e2] X.env = [(false, eval e2 X.env)] := star_cons p2.2
                exact i_r2 (hgl hg) (hx.non _ hn) p1 (by rw [star_cons p2.1, s2]) s2
            · rename_i a b d ea
              cases h
              obtain ⟨p1, p2, p3⟩ := ih.es hx ea
              match args, p3 with
              | [e, e2, e3], _ =>
                rw [List.all_cons, Bool.and_eq_true] at p2
                exact i_r3 (hgl hg) (hx.non _ hn) p1 (star_cons p2.1) (star_any p2.2)
            · cases h
          · cases h
        · split at h
          · rename_i ex
            subst ex
            split at h
            · rename_i hc
              obtain ⟨hn, hg⟩ := hc
              split at h
              · rename_i a ea
                cases h
                obtain ⟨e, rfl, p1, p2⟩ := cEs_one ih hx ea
                exact i_en (hgl hg) (hx.non _ hn) p1 (star_cons p2)
              · cases h
            · cases h
          · split at h
            · rename_i ex
              subst ex
              split at h
              · rename_i hc
                obtain ⟨hn, hg⟩ := hc
                split at h
                · rename_i a b ea
                  cases h
                  obtain ⟨p1, p2, p3⟩ := ih.es hx ea
                  match args, p3 with
                  | [e, e2], _ =>
                    rw [List.all_cons, Bool.and_eq_true] at p2
                    exact i_zp (hgl hg) (hx.non _ hn) p1 (star_cons p2.1) (star_any p2.2)
                · rename_i a b d ea
                  cases h
                  obtain ⟨p1, p2, p3⟩ := ih.es hx ea
                  match args, p3 with
                  | [e, e2, e3], _ =>
                    rw [List.all_cons, Bool.and_eq_true] at p2
                    exact i_z3 (hgl hg) (hx.non _ hn) p1 (star_cons p2.1) (star_any p2.2)
                · cases h
              · cases h
            · split at h
              · rename_i ex
                subst ex
                split at h
                · rename_i hc
                  obtain ⟨hn, hg⟩ := hc
                  split at h
                  · rename_i a ea
                    cases h
                    obtain ⟨e, rfl, p1, p2⟩ := cEs_one ih hx ea
                    exact i_rv (hgl hg) (hx.non _ hn) p1 (star_cons p2)
                  · cases h
                · cases h
              · exact any h
    | _ => simp only [cI] at h; exact any h
  | _ => simp only [cI] at h; exact any h
theorem sn_all : ∀ n, Sn T n
  | 0 => sn_zero
  | n + 1 => have ih := sn_all n; ⟨fun hx h => sn_e ih hx h, fun hx h => sn_es ih hx h, fun hx h => sn_and ih hx h, fun hx h => sn_or ih hx h, fun hx h => sn_t ih hx h, fun hx h => sn_tand ih hx h, fun hx h => sn_tor ih hx h, fun hx h => sn_sub ih hx h, fun hx h => sn_o ih hx h, fun hx h => sn_call ih hx h, fun hx h => sn_comp ih hx h, fun hx h => sn_i ih hx h⟩
end
end Mp
namespace Mp
open PySem PySem.Spec PyProof.Rows L2

def gsL : List WG → WGs
  | [] => gsNil
  | g :: r => gsCons g (gsL r)
/-- whether a swap of a comprehension's block with the store happens -/
def swC (sc : Scope) (e tg : Expr) : Bool := match e, tg with
  | .ListComp a b s p, .Name t pos => sc.names.lookup t == some .local && pos.line == p.line && !(s.names.any fun (n, k) => n == t && (k == .local || k == .cell))
  | _, _ => false
/-- whether two or three stores are exchanged -/
def swS (sc : Scope) (ts vs : List Expr) : Option (Option (List Str)) :=
  if !(ts.length == 2 || ts.length == 3) || vs.length != ts.length then some none
  else if (vs.any fun | .Starred .. => true | _ => false) = true then some none
  else if (ts.filterMap fun
    | .Name id pos => if sc.names.lookup id == some .local && pos.line == (ts.head?.map (·.pos.line)).getD 0 then some id else none
    | _ => none).length != ts.length || (ts.filterMap fun
    | .Name id pos => if sc.names.lookup id == some .local && pos.line == (ts.head?.map (·.pos.line)).getD 0 then some id else none
    | _ => none).eraseDups.length != (ts.filterMap fun
    | .Name id pos => if sc.names.lookup id == some .local && pos.line == (ts.head?.map (·.pos.line)).getD 0 then some id else none
    | _ => none).length then some none
  else if vs.all (foldedForSure 8) then some none
  else if vs.all (constantsAlone 8) then none
  else some (some (ts.filterMap fun
    | .Name id pos => if sc.names.lookup id == some .local && pos.line == (ts.head?.map (·.pos.line)).getD 0 then some id else none
    | _ => none))
theorem swS_ok {sc : Scope} {env : PySem.Env} (hs : env.scope = sc) (hk : sc.kind = .function) {ts vs : List Expr} {k k' : Nat} {p p' : Pos} {r : Option (List Str)} (h : swS sc ts vs = some r) :
    swappedStores [.Tuple ts k p] (.Tuple vs k' p') env = pure r := by
  have hb : env.blockKind = .function := by unfold Env.blockKind; rw [hs, hk]; rfl
  have hkk : ∀ id, env.kindOf id = sc.names.lookup id := fun id => by unfold Env.kindOf; rw [hs]
  unfold swS at h
  unfold swappedStores
  simp only [hb, hkk]
  have e0 : ∀ b : Bool, (b || (ScopeKind.function != ScopeKind.function)) = b := fun b => by cases b <;> rfl
  rw [e0]
  split at h
  · rename_i q
    cases h
    exact if_pos q
  rename_i q
  refine (if_neg q).trans ?_
  split at h
  · rename_i q
    cases h
    exact if_pos q
  rename_i q
  refine (if_neg q).trans ?_
  split at h
  · rename_i q
    cases h
    exact if_pos q
  rename_i q
  refine (if_neg q).trans ?_
  split at h
  · rename_i q
    cases h
    exact if_pos q
  rename_i q
  refine (if_neg q).trans ?_
  split at h
  · cases h
  rename_i q
  refine (if_neg q).trans ?_
  cases h
  rfl
def isLC : Expr → Bool
  | .ListComp _ _ _ _ => true
  | _ => false
section
variable (T : Tab)
mutual
def cG : Nat → Ct → Expr → Option WG
  | 0, _, _ => none
  | n + 1, c, e => match e with
    | .Name x _ => if okName x = true then (cSto c x).map gN else none
    | .Tuple es _ _ => (cGs n c es).map fun gs => gT gs.length (gsL gs)
    | .Subscript o i _ => if noSlice i = true then op2 gS (cE T n c o) (cE T n c i) else none
    | _ => none
def cGs : Nat → Ct → List Expr → Option (List WG)
  | 0, _, _ => none
  | n + 1, c, es => match es with
    | [] => some []
    | e :: r => if noStar e = true then op2 List.cons (cG n c e) (cGs n c r) else none
end
def cAsg (n : Nat) (c : Ct) (tg e : Expr) : Option WS := match tg, e with
  | .Tuple ts _ _, .Tuple vs _ _ => (match swS c.sc ts vs with
    | some none => op2 sAsg (cG T n c tg) (cE T n c e)
    | some (some _) => if ts.length == 2 || ts.length == 3 then op2 sPar (optAll (tgOne c) ts) (cEs T n c vs) else none
    | none => none)
  | _, _ => if (noComp e || isLC e) = true then op2 sAsg (cG T n c tg) (cE T n c e) else none
mutual
def cS : Nat → Ct → Stmt → Option WS
  | 0, _, _ => none
  | n + 1, c, s => match s with
    | .Return (some e) _ => (cE T n c e).map sRet
    | .Return none _ => some sRetN
    | .Expr e _ => if noComp e = true then (cE T n c e).map sExpr else none
    | .Assign [tg] e _ => cAsg T n c tg e
    | .AugAssign (.Name x _) .Add e _ => if okName x = true then op2 (fun i w => sAug i oAddI w) (cSto c x) (cE T n c e) else none
    | .If t a b _ => op3 sIf (cT T n c t) (cSs n c a) (cSs n c b)
    | .While t b [] _ => op2 sWhile (cT T n c t) (cSs n c b)
    | .For tg it b [] _ => op3 sFor (cI T n c tg it) (cG T n c tg) (cSs n c b)
    | .Pass _ => some sNil
    | .Raise _ _ _ => some sNever
    | .Break _ => some sBrk
    | .Continue _ => some sCnt
    | _ => none
def cSs : Nat → Ct → List Stmt → Option WS
  | 0, _, _ => none
  | n + 1, c, ss => match ss with
    | [] => some sNil
    | [s] => cS n c s
    | s :: r => op2 sSeq (cS n c s) (cSs n c r)
end
end
section
variable {T : Tab} {X : Cx} {c : Ct}
theorem cG_ok (hx : XOk X T c) : ∀ n, (∀ {e : Expr} {g : WG}, cG T n c e = some g → PG X e (liftG X.K g) ∧ noStar e = true) ∧ ∀ {es : List Expr} {gs : List WG}, cGs T n c es = some gs → PGs X es (liftGs X.K (gsL gs)) ∧ es.all noStar = true ∧ gs.length = es.length
  | 0 => ⟨fun h => (by simp only [cG] at h; cases h), fun h => (by simp only [cGs] at h; cases h)⟩
  | n + 1 => by
    obtain ⟨ih1, ih2⟩ := cG_ok hx n
    refine ⟨fun {e g} h => ?_, fun {es gs} h => ?_⟩
    · cases e with
      | Name x p =>
        simp only [cG] at h
        split at h
        · obtain ⟨i, h1, rfl⟩ := map_some' h
          obtain ⟨e1, e2, e3⟩ := cSto_ok hx h1
          exact ⟨g_name hx.nd e1 e2 e3, rfl⟩
        · cases h
      | Tuple es k p =>
        simp only [cG] at h
        obtain ⟨gs, h1, rfl⟩ := map_some' h
        obtain ⟨p1, p2, p3⟩ := ih2 h1
        obtain ⟨l1, l2, _⟩ := asg_len (env := X.env) p2
        exact ⟨g_tup hx.calm p1 (by rw [l1, p3]) l2, rfl⟩
      | Subscript o i p =>
        simp only [cG] at h
        split at h
        · rename_i hs
          obtain ⟨wo, wi, h1, h2, rfl⟩ := op2_some h
          refine ⟨g_sub ((sn_all n).e hx h1) ((sn_all n).e hx h2) fun v => ?_, rfl⟩
          cases i <;> first | rfl | cases hs
        · cases h
      | _ => simp only [cG] at h; cases h
    · cases es with
      | nil => simp only [cGs] at h; cases h; exact ⟨g_nil, rfl, rfl⟩
      | cons e r =>
        simp only [cGs] at h
        split at h
        · rename_i hs
          obtain ⟨g, gr, h1, h2, rfl⟩ := op2_some h
          obtain ⟨p1, p2, p3⟩ := ih2 h2
          refine ⟨g_cons (ih1 h1).1 p1 ?_, by rw [List.all_cons, hs, p2]; rfl, by rw [List.length_cons, List.length_cons, p3]⟩
          have e1 : assignEach (e :: r) X.env = (false, assign e X.env) :: assignEach r X.env := by
            cases e <;> first | rfl | cases hs
          rw [e1]
          rfl
        · cases h
theorem sole_none {tg e : Expr} {l : Nat} {env : PySem.Env} (h : noComp e = true) : swapsWith e (some tg) l env = pure false := by cases e <;> first | rfl | cases h
theorem sole_expr {e : Expr} {l : Nat} {env : PySem.Env} (h : noComp e = true) : swapsWith e none l env = pure false := by cases e <;> first | rfl | cases h
theorem asg_one {tg : Expr} {env : PySem.Env} (h : noStar tg = true) : (assignEach [tg] env).map (·.2) = [assign tg env] := by
  cases tg <;> first | rfl | cases h
/-- the names of the targets, and their places -/
theorem sw_names {sc : Scope} {ts vs : List Expr} {ns : List Str} (h : swS sc ts vs = some (some ns)) : ns = (ts.filterMap fun
    | .Name id pos => if sc.names.lookup id == some .local && pos.line == (ts.head?.map (·.pos.line)).getD 0 then some id else none
    | _ => none) ∧ ns.length = ts.length ∧ vs.length = ts.length ∧ ns.eraseDups.length = ns.length := by
  unfold swS at h
  split at h
  · cases h
  rename_i q0
  split at h
  · cases h
  split at h
  · cases h
  rename_i q
  split at h
  · cases h
  split at h
  · cases h
  cases h
  rw [Bool.or_eq_true, not_or] at q q0
  exact ⟨rfl, Classical.byContradiction fun z => q.1 (bne_iff_ne.mpr z), Classical.byContradiction fun z => q0.2 (bne_iff_ne.mpr z), Classical.byContradiction fun z => q.2 (bne_iff_ne.mpr z)⟩
theorem filt2 {α β : Type} {f : α → Option β} {a b : α} (h : ([a, b].filterMap f).length = 2) : ∃ x y, f a = some x ∧ f b = some y ∧ [a, b].filterMap f = [x, y] := by
  cases ha : f a <;> cases hb : f b <;> simp [List.filterMap, ha, hb] at h ⊢
theorem filt3 {α β : Type} {f : α → Option β} {a b d : α} (h : ([a, b, d].filterMap f).length = 3) : ∃ x y z, f a = some x ∧ f b = some y ∧ f d = some z ∧ [a, b, d].filterMap f = [x, y, z] := by
  cases ha : f a <;> cases hb : f b <;> cases hd : f d <;> simp [List.filterMap, ha, hb, hd] at h ⊢
theorem name_of {sc : Scope} {l : Nat} {e : Expr} {x : Str} (h : (match e with
    | .Name id pos => if sc.names.lookup id == some .local && pos.line == l then some id else none
    | _ => none) = some x) : (∃ p, e = .Name x p) ∧ sc.names.lookup x = some .local := by
  cases e <;> first | (cases h; done) | skip
  rename_i id pos
  have h : (if (sc.names.lookup id == some .local && pos.line == l) = true then some id else none) = some x := h
  split at h
  · rename_i q
    cases h
    rw [Bool.and_eq_true] at q
    exact ⟨⟨_, rfl⟩, by simpa using q.1⟩
  · cases h
theorem tgOne_get (hx : XOk X T c) {x : Str} {p : Pos} {i : Nat} (h : tgOne c (.Name x p) = some i) : X.N[i]? = some x := by
  have h : (if okName x = true then cSto c x else none) = some i := h
  split at h
  · exact (cSto_ok hx h).1
  · cases h
theorem nodup_ne {α : Type} {l : List α} (hN : l.Nodup) {i j : Nat} {x y : α} (a : l[i]? = some x) (b : l[j]? = some y) (h : x ≠ y) : i ≠ j := fun e => by
  subst e
  rw [a] at b
  exact h (Option.some.inj b)
theorem sw_false {elt : Expr} {gs : List Comprehension} {scope : Scope} {pos py : Pos} {y : Str} {l : Nat} {env : PySem.Env} (hk : env.scope.kind = .function)
    (hb : (env.scope.names.lookup y == some .local && py.line == pos.line && !(scope.names.any fun (n, k) => n == y && (k == .local || k == .cell))) = false) : swapsWithSole [.Name y py] (.ListComp elt gs scope pos) l env = pure false := by
  have hbk : env.blockKind = .function := by unfold Env.blockKind; rw [hk]; rfl
  have hkk : env.kindOf y = env.scope.names.lookup y := rfl
  unfold swapsWithSole swapsWith
  simp only [hbk, hkk, Expr.pos]
  have e0 : ∀ b : Bool, ((ScopeKind.function == ScopeKind.function) && b) = b := fun b => by cases b <;> rfl
  rw [Bool.and_assoc, Bool.and_assoc, e0, ← Bool.and_assoc, hb]
theorem cAsg_ok (hx : XOk X T c) {n : Nat} {tg e : Expr} {w : WS} {pos : Pos} (h : cAsg T n c tg e = some w) : PS X (.Assign [tg] e pos) (liftS X.K w) := by
  have hk := hx.kd
  have hsc := hx.sc
  have plain : ∀ {g : WG} {we : WE}, cG T n c tg = some g → cE T n c e = some we → swapsWithSole [tg] e pos.line X.env = pure false → swappedStores [tg] e X.env = pure none → PS X (.Assign [tg] e pos) (liftS X.K (sAsg g we)) := fun hg he h1 h2 => by
    obtain ⟨p1, p2⟩ := (cG_ok hx n).1 hg
    exact s_asg ((sn_all n).e hx he) p1 h1 h2 (asg_one p2)
  have other : ∀ (hnt : ¬ ((∃ ts k p, tg = .Tuple ts k p) ∧ ∃ vs k p, e = .Tuple vs k p)), (if (noComp e || isLC e) = true then op2 sAsg (cG T n c tg) (cE T n c e) else none) = some w → PS X (.Assign [tg] e pos) (liftS X.K w) := fun hnt h => by
    have hst : ∀ g, cG T n c tg = some g → swappedStores [tg] e X.env = pure none := fun g hg => by
      cases n with
      | zero => simp only [cG] at hg; cases hg
      | succ n =>
        cases tg <;> first | (simp only [cG] at hg; cases hg; done) | rfl | skip
        cases e <;> first | rfl | skip
        exact absurd ⟨⟨_, _, _, rfl⟩, _, _, _, rfl⟩ hnt
    split at h
    · rename_i hc
      obtain ⟨g, we, h1, h2, rfl⟩ := op2_some h
      by_cases hn : noComp e = true
      · exact plain h1 h2 (sole_none hn) (hst g h1)
      · -- a comprehension
        have hl : isLC e = true := by
          rw [Bool.or_eq_true] at hc
          exact hc.resolve_left hn
        obtain ⟨elt, gs, scope, lp, rfl⟩ : ∃ elt gs scope lp, e = .ListComp elt gs scope lp := by
          cases e <;> first | exact ⟨_, _, _, _, rfl⟩ | cases hl
        cases n with
        | zero => simp only [cG] at h1; cases h1
        | succ n =>
          by_cases htn : ∃ y py, tg = .Name y py
          case neg =>
            refine plain h1 h2 ?_ (hst g h1)
            cases tg <;> first | rfl | exact absurd ⟨_, _, rfl⟩ htn
          obtain ⟨y, py, rfl⟩ := htn
          cases hb : (c.sc.names.lookup y == some .local && py.line == lp.line && !(scope.names.any fun (n, k) => n == y && (k == .local || k == .cell)))
          · refine plain h1 h2 ?_ (hst g h1)
            exact sw_false (by rw [hsc]; exact hk) (by rw [hsc]; exact hb)
          · rw [Bool.and_eq_true, Bool.and_eq_true] at hb
            have hloc : X.env.scope.names.lookup y = some .local := by rw [hsc]; simpa using hb.1.1
            have hsw : swapsWith (.ListComp elt gs scope lp) (some (.Name y py)) pos.line X.env = pure true := sw_true (by rw [hsc]; exact hk) hloc hb.1.2 (by simpa using hb.2)
            simp only [cG] at h1
            split at h1
            · obtain ⟨i, g1, rfl⟩ := map_some' h1
              obtain ⟨e1, e2, e3⟩ := cSto_ok hx g1
              match gs, h2, hsw with
              | [⟨tg, iter, ifs, 0⟩], h2, hsw =>
                simp only [cE] at h2
                exact ((sn_all n).comp hx h2).2 lp pos py i y e1 hloc hsw
              | [], h2, _ => simp only [cE] at h2; cases h2
              | [⟨tg, iter, ifs, .ofNat (k + 1)⟩], h2, _ => simp only [cE] at h2; cases h2
              | [⟨tg, iter, ifs, .negSucc k⟩], h2, _ => simp only [cE] at h2; cases h2
              | _ :: _ :: _, h2, _ => simp only [cE] at h2; cases h2
            · cases h1
    · cases h
  unfold cAsg at h
  split at h
  · rename_i ts k p vs k' p'
    split at h
    · rename_i hs
      obtain ⟨g, we, h1, h2, rfl⟩ := op2_some h
      exact plain h1 h2 rfl (swS_ok hsc hk hs)
    · rename_i ns hs
      split at h
      · rename_i hl
        obtain ⟨is, ws, h1, h2, rfl⟩ := op2_some h
        obtain ⟨n1, n2, n3, n4⟩ := sw_names hs
        obtain ⟨p1, p2, p3⟩ := (sn_all n).es hx h2
        have hsw := swS_ok (k := k) (k' := k') (p := p) (p' := p') hsc hk hs
        match ts, vs, n3, hl, h1 with
        | [ta, tb], [va, vb], _, _, h1 =>
          rw [n1] at n2
          obtain ⟨x, y, f1, f2, f3⟩ := filt2 n2
          obtain ⟨⟨px, rfl⟩, lx⟩ := name_of f1
          obtain ⟨⟨py, rfl⟩, ly⟩ := name_of f2
          rw [n1, f3] at hsw
          rw [n1, f3] at n4
          have hxy : x ≠ y := fun z => by
            subst z
            rw [List.eraseDups_cons] at n4
            simp at n4
          unfold optAll optAll optAll at h1
          split at h1
          · rename_i i js g1 g2
            split at g2
            · rename_i j ks g3 g4
              cases g4
              cases g2
              cases h1
              have e1 := tgOne_get hx g1
              have e2 := tgOne_get hx g3
              have hij := nodup_ne hx.nd e1 e2 hxy
              refine (ps_par hx.calm hx.nd e1 e2 hij (by rw [hsc]; exact lx) (by rw [hsc]; exact ly) p1 hsw rfl).weak fun D σ H q => ?_
              obtain ⟨env, L, N, hs, hL, hw, k⟩ := q
              refine ⟨env, L, _, hs, hL, hw, fun xs La vs H1 hb hn f1 rx r1 => ?_⟩
              rw [p3] at hn
              match xs, hn with
              | [u, v], _ =>
                obtain ⟨uu, vv, rfl, ru, rv⟩ := rx.two
                exact ⟨uu, vv, rfl, k.nx _ La _ H1 hb f1 (((hs.ex (f1.ex hL)).set i ru).set j rv) r1⟩
            · cases g2
          · cases h1
        | [ta, tb, td], [va, vb, vd], _, _, h1 =>
          rw [n1] at n2
          obtain ⟨x, y, z, f1, f2, f4, f3⟩ := filt3 n2
          obtain ⟨⟨px, rfl⟩, lx⟩ := name_of f1
          obtain ⟨⟨py, rfl⟩, ly⟩ := name_of f2
          obtain ⟨⟨pz, rfl⟩, lz⟩ := name_of f4
          rw [n1, f3] at hsw
          rw [n1, f3] at n4
          have hxy : x ≠ y := fun q => by
            subst q
            rw [List.eraseDups_cons, List.filter_cons] at n4
            simp at n4
            by_cases q : z = x
            · subst q; simp at n4
            · simp [q, List.eraseDups_cons] at n4
          have hxz : x ≠ z := fun q => by
            subst q
            rw [List.eraseDups_cons] at n4
            by_cases q : y = x
            · subst q; simp at n4
            · simp [q, List.eraseDups_cons] at n4
          have hyz : y ≠ z := fun q => by
            subst q
            rw [List.eraseDups_cons] at n4
            by_cases q : y = x
            · subst q; simp at n4
            · simp [q, List.eraseDups_cons] at n4
          unfold optAll optAll optAll optAll at h1
          split at h1
          · rename_i i js g1 g2
            split at g2
            · rename_i j ks g3 g4
              split at g4
              · rename_i l ms g5 g6
                cases g6
                cases g4
                cases g2
                cases h1
                have e1 := tgOne_get hx g1
                have e2 := tgOne_get hx g3
                have e3 := tgOne_get hx g5
                refine (ps_par3 hx.calm hx.nd e1 e2 e3 (nodup_ne hx.nd e1 e2 hxy) (nodup_ne hx.nd e1 e3 hxz) (nodup_ne hx.nd e2 e3 hyz) (by rw [hsc]; exact lx) (by rw [hsc]; exact ly) (by rw [hsc]; exact lz) p1 hsw rfl).weak fun D σ H q => ?_
                obtain ⟨env, L, N, hs, hL, hw, k⟩ := q
                refine ⟨env, L, _, hs, hL, hw, fun xs La vs H1 hb hn f1 rx r1 => ?_⟩
                rw [p3] at hn
                match xs, hn with
                | [u, v, w], _ =>
                  obtain ⟨uu, vv, ww, rfl, ru, rv, rw'⟩ := rx.three
                  exact ⟨uu, vv, ww, rfl, k.nx _ La _ H1 hb f1 ((((hs.ex (f1.ex hL)).set i ru).set j rv).set l rw') r1⟩
              · cases g4
            · cases g2
          · cases h1
        | [], vs, _, hl, _ => cases hl
        | [_], vs, _, hl, _ => cases hl
        | _ :: _ :: _ :: _ :: _, vs, _, hl, _ => simp at hl
      · cases h
    · cases h
  · rename_i hnt
    refine other (fun ⟨⟨ts, k, p, e1⟩, vs, k', p', e2⟩ => ?_) h
    exact hnt ts k p vs k' p' e1 e2
end
end Mp
namespace Mp
open PySem PySem.Spec PyProof.Rows L2

section
variable {T : Tab} {X : Cx} {c : Ct}
theorem cS_ok (hx : XOk X T c) (hp : PassesOwn (model X.prog X.w) X.A X.env X.xe) : ∀ n, (∀ {s : Stmt} {w : WS}, cS T n c s = some w → PS X s (liftS X.K w)) ∧ ∀ {ss : List Stmt} {w : WS}, cSs T n c ss = some w → PSs X ss (liftS X.K w)
  | 0 => ⟨fun h => (by simp only [cS] at h; cases h), fun h => (by simp only [cSs] at h; cases h)⟩
  | n + 1 => by
    obtain ⟨ih1, ih2⟩ := cS_ok hx hp n
    have sn := sn_all (T := T) n
    refine ⟨fun {s w} h => ?_, fun {ss w} h => ?_⟩
    · cases s with
      | Return o p =>
        cases o with
        | none => simp only [cS] at h; cases h; exact s_retN
        | some e =>
          simp only [cS] at h
          obtain ⟨we, h1, rfl⟩ := map_some' h
          exact s_ret (sn.e hx h1)
      | Expr e p =>
        simp only [cS] at h
        split at h
        · rename_i hn
          obtain ⟨we, h1, rfl⟩ := map_some' h
          exact s_expr (sn.e hx h1) (sole_expr hn)
        · cases h
      | Assign tgs e p =>
        match tgs, h with
        | [tg], h => simp only [cS] at h; exact cAsg_ok hx h
        | [], h => simp only [cS] at h; cases h
        | _ :: _ :: _, h => simp only [cS] at h; cases h
      | AugAssign tg op e p =>
        cases tg with
        | Name x p2 =>
          cases op with
          | Add =>
            simp only [cS] at h
            split at h
            · obtain ⟨i, we, h1, h2, rfl⟩ := op2_some h
              obtain ⟨e1, e2, e3⟩ := cSto_ok hx h1
              exact s_aug hx.nd e1 e2 e3 ip_add ip_addI (sn.e hx h2)
            · cases h
          | _ => simp only [cS] at h; cases h
        | _ => simp only [cS] at h; cases h
      | If t a b p =>
        simp only [cS] at h
        obtain ⟨wt, wa, wb, h1, h2, h3, rfl⟩ := op3_some h
        exact s_if (sn.t hx h1) (ih2 h2) (ih2 h3)
      | While t b o p =>
        cases o with
        | nil =>
          simp only [cS] at h
          obtain ⟨wt, wb, h1, h2, rfl⟩ := op2_some h
          exact s_while hp (sn.t hx h1) (ih2 h2)
        | cons _ _ => simp only [cS] at h; cases h
      | For tg it b o p =>
        cases o with
        | nil =>
          simp only [cS] at h
          obtain ⟨wi, g, wb, h1, h2, h3, rfl⟩ := op3_some h
          exact s_for hp hx.calm (sn.i hx h1) ((cG_ok hx n).1 h2).1 (ih2 h3) (no_fold (cI_set h1))
        | cons _ _ => simp only [cS] at h; cases h
      | Pass p => simp only [cS] at h; cases h; exact s_pass
      | Raise _ _ _ => simp only [cS] at h; cases h; exact s_never
      | Break p => simp only [cS] at h; cases h; exact s_brk
      | Continue p => simp only [cS] at h; cases h; exact s_cnt
      | _ => simp only [cS] at h; cases h
    · match ss, h with
      | [], h => simp only [cSs] at h; cases h; exact s_nil
      | [s], h => simp only [cSs] at h; exact s_one (ih1 h)
      | s :: s2 :: r, h =>
        simp only [cSs] at h
        obtain ⟨wa, wb, h1, h2, rfl⟩ := op2_some h
        exact s_cons (ih1 h1) (ih2 h2)
end

/-! ### a def of the text -/
def initE (n : Nat) (args : List PV) : Env := args.map some ++ List.replicate (n - args.length) none
structure TabOk (P : Program) (w : World) (K : PySem.W.Frag) (mg : Str → Option Value) (base : Heap) (k : Nat) (T : Tab) : Prop where
  fns : ∀ x n S, T.fns.lookup x = some (n, S) → FnIs P w K mg base k x n S
  non : ∀ x, T.non.contains x = true → mg x = none
  con : ∀ x p, T.con.lookup x = some p → ∃ u v, mg x = some u ∧ RelV v u ∧ ∀ H, RepV K H p v
section
variable {P : Program} {w : World} {K : PySem.W.Frag} {mg : Str → Option Value} {base : Heap} {k : Nat} {T : Tab}
theorem TabOk.mono {k' : Nat} (h : TabOk P w K mg base k T) (hk : k ≤ k') : TabOk P w K mg base k' T := ⟨fun x n S e => (h.fns x n S e).mono hk, h.non, h.con⟩
theorem TabOk.add (h : TabOk P w K mg base k T) {x : Str} {n : Nat} {S : Spec} (f : FnIs P w K mg base k x n S) : TabOk P w K mg base k { T with fns := (x, n, S) :: T.fns } := by
  refine ⟨fun y m S' e => ?_, h.non, h.con⟩
  have e : ((x, n, S) :: T.fns).lookup y = some (m, S') := e
  rw [List.lookup_cons] at e
  split at e
  · rename_i q
    cases e
    have q : y = x := by simpa using q
    subst q
    exact f
  · exact h.fns y m S' e
theorem start_rep {N : List Str} {H : Hp} {args : List PV} {vs : List V} (r : RepVs K H args vs) : RepS K H (L2.start N vs) (initE N.length args) := by
  have hl := r.length
  refine ⟨?_, fun i x e => ?_⟩
  · unfold L2.start initE
    rw [List.length_append, List.length_append, List.length_map, List.length_map, List.length_replicate, List.length_replicate, hl]
  · unfold initE at e
    by_cases hi : i < args.length
    · rw [List.getElem?_append_left (by rw [List.length_map]; exact hi), List.getElem?_map] at e
      cases q : args[i]? with
      | none => rw [q] at e; cases e
      | some y =>
        rw [q] at e
        cases e
        obtain ⟨v, h1, h2⟩ := r.get q
        refine ⟨v, ?_, h2⟩
        unfold L2.start
        rw [List.getElem?_append_left (by rw [List.length_map]; omega), List.getElem?_map, h1]
        rfl
    · rw [List.getElem?_append_right (by rw [List.length_map]; omega), List.getElem?_replicate] at e
      split at e <;> cases e
/-- THE RULE for a def, over data -/
theorem def_fn (hT : TabOk P w K mg base k T) {x qual : Str} {st : Stmt} {f : Addr} {fd : FuncData} {N ps : List Str} {n : Nat} {body : WS} {S : Spec} (F : Fun K x qual st f fd) (sc : FnScope N ps (defScope st)) (hc : cSs T n ⟨N, defScope st, fun _ => true⟩ (defBody st) = some body)
    (hS : ∀ args L R, args.length = ps.length → S args L R → body (initE N.length args) L { nx := fun _ L' => R .non L', rt := R }) : FnG P w K mg base (k + 1) f fd ps (liftSp K ps.length S) := by
  obtain ⟨oc, od, kV, doc, pm, an, cdv, ct, osl, rfl, lk, hcd⟩ := F.ex
  refine g_def lk hcd sc (fun vs H Q E h => h.1) fun A outer s H vs Q E gd hr h => ?_
  obtain ⟨hl, args, L, R, ra, rh, hs, kt⟩ := h
  have hx : XOk (cxOf CX0 P w K mg base N qual (defScope st) f cdv A outer s H E).nox T ⟨N, defScope st, fun _ => true⟩ :=
    ⟨rfl, sc.nd, rfl, sc.kind, fun _ _ => rfl, rfl, gd, ⟨k, hr, hT.fns⟩, hT.non, hT.con⟩
  refine ⟨_, ((cS_ok hx PassesOwn.never n).2 hc).nox, ?_⟩
  refine ⟨initE N.length args, L, _, start_rep ra, rh, hS args L R (by rw [ra.length, hl]) hs, ?_⟩
  exact ⟨fun env' L' σ' H' h f r' rh' => kt .non L' .non H' h f rfl rh', kt, fun _ _ _ _ h => h.elim, fun _ _ _ _ h => h.elim⟩
theorem def_ok (hT : TabOk P w K mg base k T) {x qual : Str} {st : Stmt} {f : Addr} {fd : FuncData} {N ps : List Str} {n : Nat} {body : WS} {S : Spec} (F : Fun K x qual st f fd) (sc : FnScope N ps (defScope st)) (hc : cSs T n ⟨N, defScope st, fun _ => true⟩ (defBody st) = some body)
    (hm : mg x = some (.ref f)) (hb : Binds K fd ps []) (hS : ∀ args L R, args.length = ps.length → S args L R → body (initE N.length args) L { nx := fun _ L' => R .non L', rt := R }) : FnIs P w K mg base (k + 1) x ps.length S :=
  ⟨f, fd, ps, hm, F.kp, hb, def_fn hT F sc hc hS⟩
/-- a def of the text of which nothing is asked -/
theorem def_no {x qual : Str} {st : Stmt} {f : Addr} {fd : FuncData} {ps : List Str} {S : Spec} (F : Fun K x qual st f fd) (hm : mg x = some (.ref f)) (hb : Binds K fd ps []) (hS : ∀ args L R, ¬ S args L R) : FnIs P w K mg base k x ps.length S :=
  ⟨f, fd, ps, hm, F.kp, hb, ⟨fun vs H Q E h => h.1, fun A outer s H args us vs Q E gd hr he hb hv h => by
    obtain ⟨_, args, L, R, _, _, h, _⟩ := h
    exact (hS _ _ _ h).elim⟩⟩
def NonOk (mg : Str → Option Value) (l : List Str) : Prop := ∀ x, l.contains x = true → mg x = none
theorem NonOk.nil : NonOk mg [] := fun x h => by cases h
theorem NonOk.cons {l : List Str} {y : Str} (hy : mg y = none) (h : NonOk mg l) : NonOk mg (y :: l) := fun x e => by
  rw [List.contains_cons, Bool.or_eq_true] at e
  rcases e with e | e
  · have : x = y := by simpa using e
    rw [this]
    exact hy
  · exact h x e
theorem TabOk.start {non : List Str} (h : NonOk mg non) : TabOk P w K mg base k ⟨[], [], non⟩ := ⟨fun x n S e => (by cases e), h, fun x p e => (by cases e)⟩
theorem TabOk.cn (h : TabOk P w K mg base k T) {x : Str} {p : PV} {u : Value} {v : V} (h1 : mg x = some u) (h2 : RelV v u) (h3 : ∀ H, RepV K H p v) : TabOk P w K mg base k { T with con := (x, p) :: T.con } := by
  refine ⟨h.fns, h.non, fun y p' e => ?_⟩
  have e : ((x, p) :: T.con).lookup y = some p' := e
  rw [List.lookup_cons] at e
  split at e
  · rename_i q
    cases e
    have q : y = x := by simpa using q
    subst q
    exact ⟨u, v, h1, h2, h3⟩
  · exact h.con y p' e
end

/-- what the law's promise asks at the entry -/
theorem law_sp {K : PySem.W.Frag} {S : Spec} {H : Hp} {a : Addr} {ns : List Int} (hO : Only H) (hS : SqL K H a (ns.map V.int)) (h : S [.fz ns] (fun _ => none) fun x _ => x = .bl true) : liftSp K 1 S [.ref a] H (fun v _ => v = .bl true) fun _ _ _ => False := by
  refine ⟨rfl, [.fz ns], fun _ => none, _, ⟨.ref a, [], rfl, ⟨a, rfl, ?_⟩, rfl⟩, fun b o e => (by cases e), h, fun x L' v H' hx f rv rh => ?_⟩
  · rcases hS with (h | ⟨o, h⟩) | h
    · rcases hO a with q | ⟨o, xs, q⟩
      · rw [q] at h; cases h
      · rw [q] at h; cases h
    · exact .inl ⟨o, h⟩
    · exact .inr (.inr h)
  · subst hx
    exact rv
end Mp
namespace Mp
open PySem PySem.Spec PyProof.Rows L2

/-! ### reckoning readings -/
section
variable {L : Sto} {R : PK} {a b c d e f g h : PV} {r : List PV}
theorem ix0 : oIx (.tup (a :: r)) (.int 0) L R = R a L := by
  show (match atI (a :: r) 0 with | some v => R v L | none => False) = _
  rw [show atI (a :: r) 0 = some a from atI_nat (j := 0) rfl]
theorem ix1 : oIx (.tup (a :: b :: r)) (.int 1) L R = R b L := by
  show (match atI (a :: b :: r) 1 with | some v => R v L | none => False) = _
  rw [show atI (a :: b :: r) 1 = some b from atI_nat (j := 1) rfl]
theorem ix2 : oIx (.tup (a :: b :: c :: r)) (.int 2) L R = R c L := by
  show (match atI (a :: b :: c :: r) 2 with | some v => R v L | none => False) = _
  rw [show atI (a :: b :: c :: r) 2 = some c from atI_nat (j := 2) rfl]
theorem ix3 : oIx (.tup (a :: b :: c :: d :: r)) (.int 3) L R = R d L := by
  show (match atI (a :: b :: c :: d :: r) 3 with | some v => R v L | none => False) = _
  rw [show atI (a :: b :: c :: d :: r) 3 = some d from atI_nat (j := 3) rfl]
theorem ix_nat {xs : List PV} {j : Nat} {x : PV} (h : xs[j]? = some x) (k : R x L) : oIx (.tup xs) (.int j) L R := by
  show (match atI xs j with | some v => R v L | none => False)
  rw [atI_nat h]
  exact k
theorem ixl_nat {p : Addr} {xs : List PV} {j : Nat} {x : PV} (e : L p = some (.l xs)) (h : xs[j]? = some x) (k : R x L) : oIx (.ref p) (.int j) L R := by
  unfold oIx
  simp only [e, atI_nat h]
  exact k
theorem ixl_at {p : Addr} {xs : List PV} {j : Int} {x : PV} (e : L p = some (.l xs)) (h : atI xs j = some x) (k : R x L) : oIx (.ref p) (.int j) L R := by
  unfold oIx
  simp only [e, h]
  exact k
theorem ix_at {xs : List PV} {j : Int} {x : PV} (h : atI xs j = some x) (k : R x L) : oIx (.tup xs) (.int j) L R := by
  unfold oIx
  simp only [h]
  exact k
theorem bIf_t {A B : Prop} : bIf (.bl true) A B = A := by show (if true = true then A else B) = A; exact if_pos rfl
theorem bIf_f {A B : Prop} : bIf (.bl false) A B = B := by show (if false = true then A else B) = B; exact if_neg Bool.false_ne_true
theorem bIf_d {p : Prop} [Decidable p] {A B : Prop} : bIf (.bl (decide p)) A B = if p then A else B := by
  show (if decide p = true then A else B) = _
  by_cases h : p <;> simp [h]
theorem bIf_n {x : Bool} {A B : Prop} : bIf (.bl (!x)) A B = bIf (.bl x) B A := by cases x <;> simp [bIf]
theorem bIf_i {A B : Prop} {x : Bool} (h1 : x = true → A) (h2 : x = false → B) : bIf (.bl x) A B := by
  cases x
  · exact h2 rfl
  · exact h1 rfl
end
/-! growing stores -/
def Le (L L' : Sto) : Prop := ∀ a o, L a = some o → L' a = some o
theorem Le.refl {L : Sto} : Le L L := fun _ _ h => h
theorem Le.trans {L La Lb : Sto} (x : Le L La) (y : Le La Lb) : Le L Lb := fun a o h => y a o (x a o h)
theorem Le.new {L : Sto} {p : Addr} {o : SO} (h : L p = none) : Le L (put L p o) := fun a u e => by
  rw [put_ne (fun z => by rw [z, h] at e; cases e)]
  exact e
theorem Le.free {L La : Sto} (x : Le L La) {p : Addr} (h : La p = none) : L p = none := by
  cases e : L p with
  | none => rfl
  | some o => rw [x p o e] at h; cases h
/-- but one list -/
def LeB (b : Addr) (L L' : Sto) : Prop := ∀ a o, a ≠ b → L a = some o → L' a = some o
theorem Le.b {L L' : Sto} (h : Le L L') (b : Addr) : LeB b L L' := fun a o _ e => h a o e
theorem LeB.trans {b : Addr} {L La Lb : Sto} (x : LeB b L La) (y : LeB b La Lb) : LeB b L Lb := fun a o n h => y a o n (x a o n h)
theorem LeB.put {b : Addr} {L : Sto} {o : SO} : LeB b L (put L b o) := fun a u n e => by rw [put_ne n]; exact e

/-! ### fractions -/
def fr (q : Rat) : PV := .tup [.int q.num, .int q.den]
theorem fr0 {q : Rat} {L : Sto} {R : PK} : oIx (fr q) (.int 0) L R = R (.int q.num) L := ix0
theorem fr1 {q : Rat} {L : Sto} {R : PK} : oIx (fr q) (.int 1) L R = R (.int q.den) L := ix1
def Sz (b : Nat) (q : Rat) : Prop := q.num.natAbs < 2 ^ b ∧ q.den < 2 ^ b
theorem mulOk {i j : Int} (a b : Nat) (ha : i.natAbs < 2 ^ a) (hb : j.natAbs < 2 ^ b) (h : a + b ≤ 134217000) : MulOk i j := by
  constructor
  have key : ∀ (x : Int) (c : Nat), x.natAbs < 2 ^ c → Builtin.Int.intBits x ≤ c := fun x c hc => by
    unfold Builtin.Int.intBits
    split
    · exact Nat.zero_le _
    · rename_i hx
      have hx' : x.natAbs ≠ 0 := fun z => hx (by simpa using z)
      have := (Nat.log2_lt hx').mpr hc
      omega
  have h1 := key i a ha
  have h2 := key j b hb
  have e : bitsLine = 134217728 := by decide
  unfold IntMulOk
  intro z
  rw [Bool.and_eq_true] at z
  have z2 := z.2
  unfold Builtin.Int.intTooBig at z2
  have z3 := of_decide_eq_true z2
  rw [e] at z3
  omega
theorem noPl {i j : Int} (h : j.natAbs < 2 ^ 9000) : NoPl i j := by
  constructor
  refine PyProof.noPylong_of_log2 ?_
  by_cases h0 : j.natAbs = 0
  · rw [h0]; decide +kernel
  · exact (Nat.log2_lt h0).mpr h

/-! ### equality -/
section
variable {L : Sto} {R : PK} {i j : Int} {x y : Str} {a : PV}
theorem oEq_ii : oEq (.int i) (.int j) L R = R (.bl (decide (i = j))) L := by
  refine propext ⟨fun h => ?_, fun h => ⟨_, _, .int i, .int j, rfl, rfl, h⟩⟩
  match h with
  | ⟨_, _, .int _, .int _, _, _, h⟩ => exact h
theorem oNe_ii : oNe (.int i) (.int j) L R = R (.bl (!decide (i = j))) L := by
  refine propext ⟨fun h => ?_, fun h => ⟨_, _, .int i, .int j, rfl, rfl, h⟩⟩
  match h with
  | ⟨_, _, .int _, .int _, _, _, h⟩ => exact h
theorem oEq_bb {i j : Bool} : oEq (.bl i) (.bl j) L R = R (.bl (decide (i = j))) L := by
  have e : PyData.eqv (.bool i) (.bool j) = decide (i = j) := by cases i <;> cases j <;> rfl
  refine propext ⟨fun h => ?_, fun h => ⟨_, _, .bl i, .bl j, rfl, rfl, by rw [e]; exact h⟩⟩
  match h with
  | ⟨_, _, .bl _, .bl _, _, _, h⟩ =>
    rw [e] at h
    exact h
theorem oNe_bb {i j : Bool} : oNe (.bl i) (.bl j) L R = R (.bl (!decide (i = j))) L := by
  have e : PyData.eqv (.bool i) (.bool j) = decide (i = j) := by cases i <;> cases j <;> rfl
  refine propext ⟨fun h => ?_, fun h => ⟨_, _, .bl i, .bl j, rfl, rfl, by rw [e]; exact h⟩⟩
  match h with
  | ⟨_, _, .bl _, .bl _, _, _, h⟩ =>
    rw [e] at h
    exact h
end
/-! ### classes -/
def tyN : PV → String
  | .non => "NoneType" | .bl _ => "bool" | .int _ => "int" | .str _ => "str" | .tup _ => "tuple" | .fz _ => "list" | .ref _ => "" | .ty _ => ""
section
variable {L : Sto} {R : PK} {x : PV} {c : String}
theorem isi_of {b : Bool} (h : isiB (tyName x L) c = some b) : gIsi [x, .ty c] L R = R (.bl b) L := by
  unfold gIsi
  simp only [h]
theorem isi_non_int  : gIsi [.non, .ty "int"] L R = R (.bl false) L := isi_of rfl
theorem isi_non_bool  : gIsi [.non, .ty "bool"] L R = R (.bl false) L := isi_of rfl
theorem isi_non_str  : gIsi [.non, .ty "str"] L R = R (.bl false) L := isi_of rfl
theorem isi_non_tuple  : gIsi [.non, .ty "tuple"] L R = R (.bl false) L := isi_of rfl
theorem isi_non_list  : gIsi [.non, .ty "list"] L R = R (.bl false) L := isi_of rfl
theorem isi_non_dict  : gIsi [.non, .ty "dict"] L R = R (.bl false) L := isi_of rfl
theorem isi_bl_int {u : Bool} : gIsi [(.bl u), .ty "int"] L R = R (.bl true) L := isi_of rfl
theorem isi_bl_bool {u : Bool} : gIsi [(.bl u), .ty "bool"] L R = R (.bl true) L := isi_of rfl
theorem isi_bl_str {u : Bool} : gIsi [(.bl u), .ty "str"] L R = R (.bl false) L := isi_of rfl
theorem isi_bl_tuple {u : Bool} : gIsi [(.bl u), .ty "tuple"] L R = R (.bl false) L := isi_of rfl
theorem isi_bl_list {u : Bool} : gIsi [(.bl u), .ty "list"] L R = R (.bl false) L := isi_of rfl
theorem isi_bl_dict {u : Bool} : gIsi [(.bl u), .ty "dict"] L R = R (.bl false) L := isi_of rfl
theorem isi_int_int {u : Int} : gIsi [(.int u), .ty "int"] L R = R (.bl true) L := isi_of rfl
theorem isi_int_bool {u : Int} : gIsi [(.int u), .ty "bool"] L R = R (.bl false) L := isi_of rfl
theorem isi_int_str {u : Int} : gIsi [(.int u), .ty "str"] L R = R (.bl false) L := isi_of rfl
theorem isi_int_tuple {u : Int} : gIsi [(.int u), .ty "tuple"] L R = R (.bl false) L := isi_of rfl
theorem isi_int_list {u : Int} : gIsi [(.int u), .ty "list"] L R = R (.bl false) L := isi_of rfl
theorem isi_int_dict {u : Int} : gIsi [(.int u), .ty "dict"] L R = R (.bl false) L := isi_of rfl
theorem isi_str_int {u : Str} : gIsi [(.str u), .ty "int"] L R = R (.bl false) L := isi_of rfl
theorem isi_str_bool {u : Str} : gIsi [(.str u), .ty "bool"] L R = R (.bl false) L := isi_of rfl
theorem isi_str_str {u : Str} : gIsi [(.str u), .ty "str"] L R = R (.bl true) L := isi_of rfl
theorem isi_str_tuple {u : Str} : gIsi [(.str u), .ty "tuple"] L R = R (.bl false) L := isi_of rfl
theorem isi_str_list {u : Str} : gIsi [(.str u), .ty "list"] L R = R (.bl false) L := isi_of rfl
theorem isi_str_dict {u : Str} : gIsi [(.str u), .ty "dict"] L R = R (.bl false) L := isi_of rfl
theorem isi_tup_int {u : List PV} : gIsi [(.tup u), .ty "int"] L R = R (.bl false) L := isi_of rfl
theorem isi_tup_bool {u : List PV} : gIsi [(.tup u), .ty "bool"] L R = R (.bl false) L := isi_of rfl
theorem isi_tup_str {u : List PV} : gIsi [(.tup u), .ty "str"] L R = R (.bl false) L := isi_of rfl
theorem isi_tup_tuple {u : List PV} : gIsi [(.tup u), .ty "tuple"] L R = R (.bl true) L := isi_of rfl
theorem isi_tup_list {u : List PV} : gIsi [(.tup u), .ty "list"] L R = R (.bl false) L := isi_of rfl
theorem isi_tup_dict {u : List PV} : gIsi [(.tup u), .ty "dict"] L R = R (.bl false) L := isi_of rfl
theorem isi_fz_int {u : List Int} : gIsi [(.fz u), .ty "int"] L R = R (.bl false) L := isi_of rfl
theorem isi_fz_bool {u : List Int} : gIsi [(.fz u), .ty "bool"] L R = R (.bl false) L := isi_of rfl
theorem isi_fz_str {u : List Int} : gIsi [(.fz u), .ty "str"] L R = R (.bl false) L := isi_of rfl
theorem isi_fz_tuple {u : List Int} : gIsi [(.fz u), .ty "tuple"] L R = R (.bl false) L := isi_of rfl
theorem isi_fz_list {u : List Int} : gIsi [(.fz u), .ty "list"] L R = R (.bl true) L := isi_of rfl
theorem isi_fz_dict {u : List Int} : gIsi [(.fz u), .ty "dict"] L R = R (.bl false) L := isi_of rfl
theorem isi_rl_int {p : Addr} {xs} (h : L p = some (.l xs)) : gIsi [.ref p, .ty "int"] L R = R (.bl false) L := isi_of (by unfold tyName; simp only [h]; rfl)
theorem isi_rl_bool {p : Addr} {xs} (h : L p = some (.l xs)) : gIsi [.ref p, .ty "bool"] L R = R (.bl false) L := isi_of (by unfold tyName; simp only [h]; rfl)
theorem isi_rl_str {p : Addr} {xs} (h : L p = some (.l xs)) : gIsi [.ref p, .ty "str"] L R = R (.bl false) L := isi_of (by unfold tyName; simp only [h]; rfl)
theorem isi_rl_tuple {p : Addr} {xs} (h : L p = some (.l xs)) : gIsi [.ref p, .ty "tuple"] L R = R (.bl false) L := isi_of (by unfold tyName; simp only [h]; rfl)
theorem isi_rl_list {p : Addr} {xs} (h : L p = some (.l xs)) : gIsi [.ref p, .ty "list"] L R = R (.bl true) L := isi_of (by unfold tyName; simp only [h]; rfl)
theorem isi_rl_dict {p : Addr} {xs} (h : L p = some (.l xs)) : gIsi [.ref p, .ty "dict"] L R = R (.bl false) L := isi_of (by unfold tyName; simp only [h]; rfl)
theorem isi_rd_int {p : Addr} {xs} (h : L p = some (.d xs)) : gIsi [.ref p, .ty "int"] L R = R (.bl false) L := isi_of (by unfold tyName; simp only [h]; rfl)
theorem isi_rd_bool {p : Addr} {xs} (h : L p = some (.d xs)) : gIsi [.ref p, .ty "bool"] L R = R (.bl false) L := isi_of (by unfold tyName; simp only [h]; rfl)
theorem isi_rd_str {p : Addr} {xs} (h : L p = some (.d xs)) : gIsi [.ref p, .ty "str"] L R = R (.bl false) L := isi_of (by unfold tyName; simp only [h]; rfl)
theorem isi_rd_tuple {p : Addr} {xs} (h : L p = some (.d xs)) : gIsi [.ref p, .ty "tuple"] L R = R (.bl false) L := isi_of (by unfold tyName; simp only [h]; rfl)
theorem isi_rd_list {p : Addr} {xs} (h : L p = some (.d xs)) : gIsi [.ref p, .ty "list"] L R = R (.bl false) L := isi_of (by unfold tyName; simp only [h]; rfl)
theorem isi_rd_dict {p : Addr} {xs} (h : L p = some (.d xs)) : gIsi [.ref p, .ty "dict"] L R = R (.bl true) L := isi_of (by unfold tyName; simp only [h]; rfl)
end
/-! ### explicit readings -/
section
variable {L : Sto} {R : PK} {i j : Int} {x y a b : PV} {xs ys : List PV} {u v : Bool} {A B : Prop} {env : Env} {N : Nd}
theorem e_add : (oAdd (.int i) (.int j) L R) = (R (.int (i + j)) L) := propext Iff.rfl
theorem e_addI : (oAddI (.int i) (.int j) L R) = (R (.int (i + j)) L) := propext Iff.rfl
theorem e_addt : (oAdd (.tup xs) (.tup ys) L R) = (xs.length + ys.length ≤ sizeLine ∧ R (.tup (xs ++ ys)) L) := propext Iff.rfl
theorem e_addl {p q : Addr} : (oAdd (.ref p) (.ref q) L R) = (∃ xs ys, L p = some (.l xs) ∧ L q = some (.l ys) ∧ xs.length + ys.length ≤ sizeLine ∧ newL L (xs ++ ys) R) := propext Iff.rfl
theorem e_sub : (oSub (.int i) (.int j) L R) = (R (.int (i - j)) L) := propext Iff.rfl
theorem e_mul : (oMul (.int i) (.int j) L R) = (MulOk i j ∧ R (.int (i * j)) L) := propext Iff.rfl
theorem e_div : (oDiv (.int i) (.int j) L R) = (j ≠ 0 ∧ NoPl i j ∧ R (.int (i.fdiv j)) L) := propext Iff.rfl
theorem e_mod : (oMod (.int i) (.int j) L R) = (j ≠ 0 ∧ R (.int (i.fmod j)) L) := propext Iff.rfl
theorem e_pow : (oPow (.int i) (.int j) L R) = (PowOk i j ∧ R (.int (i ^ j.toNat)) L) := propext Iff.rfl
theorem e_oI {g : Int → Int → Bool} : (oI g (.int i) (.int j) L R) = (R (.bl (g i j)) L) := propext Iff.rfl
theorem e_neg : (oNeg (.int i) L R) = (R (.int (-i)) L) := propext Iff.rfl
theorem e_not : (oNot (.bl u) L R) = (R (.bl (!u)) L) := propext Iff.rfl
theorem e_isn : (oIs x .non L R) = (R (.bl (isN x)) L) := propext Iff.rfl
theorem e_isnn : (oIsNot x .non L R) = (R (.bl (!isN x)) L) := propext Iff.rfl
theorem e_isb : (oIs (.bl u) (.bl v) L R) = (R (.bl (decide (u = v))) L) := propext Iff.rfl
theorem e_isnb : (oIsNot (.bl u) (.bl v) L R) = (R (.bl (!decide (u = v))) L) := propext Iff.rfl
theorem e_isN_non : isN .non = true := rfl
theorem e_isN_bl : isN (.bl u) = false := rfl
theorem e_isN_int : isN (.int i) = false := rfl
theorem e_isN_tup : isN (.tup xs) = false := rfl
theorem e_isN_ref {p : Addr} : isN (.ref p) = false := rfl
theorem e_isN_fz {q : List Int} : isN (.fz q) = false := rfl
theorem e_isN_fr {w : Rat} : isN (fr w) = false := rfl
theorem e_isN_str {z : Str} : isN (.str z) = false := rfl
theorem e_lent : (gLen [.tup xs] L R) = (R (.int xs.length) L) := propext Iff.rfl
theorem e_lenz {ns : List Int} : (gLen [.fz ns] L R) = (R (.int ns.length) L) := propext Iff.rfl
theorem e_abs : (gAbs [.int i] L R) = (R (.int (i.natAbs : Int)) L) := propext Iff.rfl
theorem e_int : (gInt [.int i] L R) = (R (.int i) L) := propext Iff.rfl
theorem e_intb : (gInt [.bl u] L R) = (R (.int (if u then 1 else 0)) L) := propext Iff.rfl
theorem e_dvm : (gDivmod [.int i, .int j] L R) = (0 < j ∧ NoPl i j ∧ R (.tup [.int (i / j), .int (i % j)]) L) := propext Iff.rfl
theorem e_min : (gMin [.int i, .int j] L R) = (R (.int (min i j)) L) := propext Iff.rfl
theorem e_max : (gMax [.int i, .int j] L R) = (R (.int (max i j)) L) := propext Iff.rfl
theorem e_listt : (gList [.tup xs] L R) = (newL L xs R) := propext Iff.rfl
theorem e_listz {ns : List Int} : (gList [.fz ns] L R) = (newL L (ns.map PV.int) R) := propext Iff.rfl
theorem e_tupt : (gTuple [.tup xs] L R) = (R (.tup xs) L) := propext Iff.rfl
theorem e_str : (gStr [.int i] L R) = (i.natAbs.log2 < 1920 ∧ R (.str (Str.ofString (toString i))) L) := propext Iff.rfl
theorem e_gv0 : (match gv (some x :: env) 0 with | some x => R x L | none => False) = (R x L) := propext Iff.rfl
theorem gv_0 {z : Option PV} : gv (z :: env) 0 = z := rfl
theorem gv_s {z : Option PV} {n : Nat} : gv (z :: env) (n + 1) = gv env n := rfl
theorem e_lenl {p : Addr} (h : L p = some (.l xs)) : gLen [.ref p] L R = R (.int xs.length) L := by
  show (match L p with | some (.l ys) => R (.int ys.length) L | some (.d ys) => R (.int ys.length) L | none => False) = _
  rw [h]
theorem e_listl {p : Addr} (h : L p = some (.l xs)) : gList [.ref p] L R = newL L xs R := by
  show (match L p with | some (.l ys) => newL L ys R | _ => False) = _
  rw [h]
theorem e_tupl {p : Addr} (h : L p = some (.l xs)) : gTuple [.ref p] L R = R (.tup xs) L := by
  show (match L p with | some (.l ys) => R (.tup ys) L | _ => False) = _
  rw [h]
theorem e_sll {p : Addr} {lo hi : Option Int} (h : L p = some (.l xs)) : oSl (.ref p) lo hi L R = newL L (cutP xs lo hi) R := by
  show (match L p with | some (.l xs) => newL L (cutP xs lo hi) R | _ => False) = _
  rw [h]
theorem e_slt {lo hi : Option Int} : (oSl (.tup xs) lo hi L R) = (R (.tup (cutP xs lo hi)) L) := propext Iff.rfl
theorem e_slz {lo hi : Option Int} {ns : List Int} : (oSl (.fz ns) lo hi L R) = (newL L ((cutP ns lo hi).map PV.int) R) := propext Iff.rfl
theorem e_var {n : Nat} : (wVar n env L R) = (match gv env n with | some x => R x L | none => False) := propext Iff.rfl
theorem e_varT : (wVar 0 (some x :: env) L R) = (R x L) := propext Iff.rfl
theorem e_v0 : wVar 0 (some x :: env) L R = R x L := propext Iff.rfl
theorem e_v1 {z0 : Option PV} : wVar 1 (z0 :: some x :: env) L R = R x L := propext Iff.rfl
theorem e_v2 {z0 : Option PV} {z1 : Option PV} : wVar 2 (z0 :: z1 :: some x :: env) L R = R x L := propext Iff.rfl
theorem e_v3 {z0 : Option PV} {z1 : Option PV} {z2 : Option PV} : wVar 3 (z0 :: z1 :: z2 :: some x :: env) L R = R x L := propext Iff.rfl
theorem e_v4 {z0 : Option PV} {z1 : Option PV} {z2 : Option PV} {z3 : Option PV} : wVar 4 (z0 :: z1 :: z2 :: z3 :: some x :: env) L R = R x L := propext Iff.rfl
theorem e_v5 {z0 : Option PV} {z1 : Option PV} {z2 : Option PV} {z3 : Option PV} {z4 : Option PV} : wVar 5 (z0 :: z1 :: z2 :: z3 :: z4 :: some x :: env) L R = R x L := propext Iff.rfl
theorem e_v6 {z0 : Option PV} {z1 : Option PV} {z2 : Option PV} {z3 : Option PV} {z4 : Option PV} {z5 : Option PV} : wVar 6 (z0 :: z1 :: z2 :: z3 :: z4 :: z5 :: some x :: env) L R = R x L := propext Iff.rfl
theorem e_v7 {z0 : Option PV} {z1 : Option PV} {z2 : Option PV} {z3 : Option PV} {z4 : Option PV} {z5 : Option PV} {z6 : Option PV} : wVar 7 (z0 :: z1 :: z2 :: z3 :: z4 :: z5 :: z6 :: some x :: env) L R = R x L := propext Iff.rfl
theorem e_v8 {z0 : Option PV} {z1 : Option PV} {z2 : Option PV} {z3 : Option PV} {z4 : Option PV} {z5 : Option PV} {z6 : Option PV} {z7 : Option PV} : wVar 8 (z0 :: z1 :: z2 :: z3 :: z4 :: z5 :: z6 :: z7 :: some x :: env) L R = R x L := propext Iff.rfl
theorem e_v9 {z0 : Option PV} {z1 : Option PV} {z2 : Option PV} {z3 : Option PV} {z4 : Option PV} {z5 : Option PV} {z6 : Option PV} {z7 : Option PV} {z8 : Option PV} : wVar 9 (z0 :: z1 :: z2 :: z3 :: z4 :: z5 :: z6 :: z7 :: z8 :: some x :: env) L R = R x L := propext Iff.rfl
theorem e_v10 {z0 : Option PV} {z1 : Option PV} {z2 : Option PV} {z3 : Option PV} {z4 : Option PV} {z5 : Option PV} {z6 : Option PV} {z7 : Option PV} {z8 : Option PV} {z9 : Option PV} : wVar 10 (z0 :: z1 :: z2 :: z3 :: z4 :: z5 :: z6 :: z7 :: z8 :: z9 :: some x :: env) L R = R x L := propext Iff.rfl
theorem e_v11 {z0 : Option PV} {z1 : Option PV} {z2 : Option PV} {z3 : Option PV} {z4 : Option PV} {z5 : Option PV} {z6 : Option PV} {z7 : Option PV} {z8 : Option PV} {z9 : Option PV} {z10 : Option PV} : wVar 11 (z0 :: z1 :: z2 :: z3 :: z4 :: z5 :: z6 :: z7 :: z8 :: z9 :: z10 :: some x :: env) L R = R x L := propext Iff.rfl
theorem e_v12 {z0 : Option PV} {z1 : Option PV} {z2 : Option PV} {z3 : Option PV} {z4 : Option PV} {z5 : Option PV} {z6 : Option PV} {z7 : Option PV} {z8 : Option PV} {z9 : Option PV} {z10 : Option PV} {z11 : Option PV} : wVar 12 (z0 :: z1 :: z2 :: z3 :: z4 :: z5 :: z6 :: z7 :: z8 :: z9 :: z10 :: z11 :: some x :: env) L R = R x L := propext Iff.rfl
theorem e_v13 {z0 : Option PV} {z1 : Option PV} {z2 : Option PV} {z3 : Option PV} {z4 : Option PV} {z5 : Option PV} {z6 : Option PV} {z7 : Option PV} {z8 : Option PV} {z9 : Option PV} {z10 : Option PV} {z11 : Option PV} {z12 : Option PV} : wVar 13 (z0 :: z1 :: z2 :: z3 :: z4 :: z5 :: z6 :: z7 :: z8 :: z9 :: z10 :: z11 :: z12 :: some x :: env) L R = R x L := propext Iff.rfl
theorem e_v14 {z0 : Option PV} {z1 : Option PV} {z2 : Option PV} {z3 : Option PV} {z4 : Option PV} {z5 : Option PV} {z6 : Option PV} {z7 : Option PV} {z8 : Option PV} {z9 : Option PV} {z10 : Option PV} {z11 : Option PV} {z12 : Option PV} {z13 : Option PV} : wVar 14 (z0 :: z1 :: z2 :: z3 :: z4 :: z5 :: z6 :: z7 :: z8 :: z9 :: z10 :: z11 :: z12 :: z13 :: some x :: env) L R = R x L := propext Iff.rfl
theorem e_v15 {z0 : Option PV} {z1 : Option PV} {z2 : Option PV} {z3 : Option PV} {z4 : Option PV} {z5 : Option PV} {z6 : Option PV} {z7 : Option PV} {z8 : Option PV} {z9 : Option PV} {z10 : Option PV} {z11 : Option PV} {z12 : Option PV} {z13 : Option PV} {z14 : Option PV} : wVar 15 (z0 :: z1 :: z2 :: z3 :: z4 :: z5 :: z6 :: z7 :: z8 :: z9 :: z10 :: z11 :: z12 :: z13 :: z14 :: some x :: env) L R = R x L := propext Iff.rfl
theorem e_v16 {z0 : Option PV} {z1 : Option PV} {z2 : Option PV} {z3 : Option PV} {z4 : Option PV} {z5 : Option PV} {z6 : Option PV} {z7 : Option PV} {z8 : Option PV} {z9 : Option PV} {z10 : Option PV} {z11 : Option PV} {z12 : Option PV} {z13 : Option PV} {z14 : Option PV} {z15 : Option PV} : wVar 16 (z0 :: z1 :: z2 :: z3 :: z4 :: z5 :: z6 :: z7 :: z8 :: z9 :: z10 :: z11 :: z12 :: z13 :: z14 :: z15 :: some x :: env) L R = R x L := propext Iff.rfl
theorem e_v17 {z0 : Option PV} {z1 : Option PV} {z2 : Option PV} {z3 : Option PV} {z4 : Option PV} {z5 : Option PV} {z6 : Option PV} {z7 : Option PV} {z8 : Option PV} {z9 : Option PV} {z10 : Option PV} {z11 : Option PV} {z12 : Option PV} {z13 : Option PV} {z14 : Option PV} {z15 : Option PV} {z16 : Option PV} : wVar 17 (z0 :: z1 :: z2 :: z3 :: z4 :: z5 :: z6 :: z7 :: z8 :: z9 :: z10 :: z11 :: z12 :: z13 :: z14 :: z15 :: z16 :: some x :: env) L R = R x L := propext Iff.rfl
theorem e_v18 {z0 : Option PV} {z1 : Option PV} {z2 : Option PV} {z3 : Option PV} {z4 : Option PV} {z5 : Option PV} {z6 : Option PV} {z7 : Option PV} {z8 : Option PV} {z9 : Option PV} {z10 : Option PV} {z11 : Option PV} {z12 : Option PV} {z13 : Option PV} {z14 : Option PV} {z15 : Option PV} {z16 : Option PV} {z17 : Option PV} : wVar 18 (z0 :: z1 :: z2 :: z3 :: z4 :: z5 :: z6 :: z7 :: z8 :: z9 :: z10 :: z11 :: z12 :: z13 :: z14 :: z15 :: z16 :: z17 :: some x :: env) L R = R x L := propext Iff.rfl
theorem e_v19 {z0 : Option PV} {z1 : Option PV} {z2 : Option PV} {z3 : Option PV} {z4 : Option PV} {z5 : Option PV} {z6 : Option PV} {z7 : Option PV} {z8 : Option PV} {z9 : Option PV} {z10 : Option PV} {z11 : Option PV} {z12 : Option PV} {z13 : Option PV} {z14 : Option PV} {z15 : Option PV} {z16 : Option PV} {z17 : Option PV} {z18 : Option PV} : wVar 19 (z0 :: z1 :: z2 :: z3 :: z4 :: z5 :: z6 :: z7 :: z8 :: z9 :: z10 :: z11 :: z12 :: z13 :: z14 :: z15 :: z16 :: z17 :: z18 :: some x :: env) L R = R x L := propext Iff.rfl
theorem e_v20 {z0 : Option PV} {z1 : Option PV} {z2 : Option PV} {z3 : Option PV} {z4 : Option PV} {z5 : Option PV} {z6 : Option PV} {z7 : Option PV} {z8 : Option PV} {z9 : Option PV} {z10 : Option PV} {z11 : Option PV} {z12 : Option PV} {z13 : Option PV} {z14 : Option PV} {z15 : Option PV} {z16 : Option PV} {z17 : Option PV} {z18 : Option PV} {z19 : Option PV} : wVar 20 (z0 :: z1 :: z2 :: z3 :: z4 :: z5 :: z6 :: z7 :: z8 :: z9 :: z10 :: z11 :: z12 :: z13 :: z14 :: z15 :: z16 :: z17 :: z18 :: z19 :: some x :: env) L R = R x L := propext Iff.rfl
theorem e_v21 {z0 : Option PV} {z1 : Option PV} {z2 : Option PV} {z3 : Option PV} {z4 : Option PV} {z5 : Option PV} {z6 : Option PV} {z7 : Option PV} {z8 : Option PV} {z9 : Option PV} {z10 : Option PV} {z11 : Option PV} {z12 : Option PV} {z13 : Option PV} {z14 : Option PV} {z15 : Option PV} {z16 : Option PV} {z17 : Option PV} {z18 : Option PV} {z19 : Option PV} {z20 : Option PV} : wVar 21 (z0 :: z1 :: z2 :: z3 :: z4 :: z5 :: z6 :: z7 :: z8 :: z9 :: z10 :: z11 :: z12 :: z13 :: z14 :: z15 :: z16 :: z17 :: z18 :: z19 :: z20 :: some x :: env) L R = R x L := propext Iff.rfl
theorem e_v22 {z0 : Option PV} {z1 : Option PV} {z2 : Option PV} {z3 : Option PV} {z4 : Option PV} {z5 : Option PV} {z6 : Option PV} {z7 : Option PV} {z8 : Option PV} {z9 : Option PV} {z10 : Option PV} {z11 : Option PV} {z12 : Option PV} {z13 : Option PV} {z14 : Option PV} {z15 : Option PV} {z16 : Option PV} {z17 : Option PV} {z18 : Option PV} {z19 : Option PV} {z20 : Option PV} {z21 : Option PV} : wVar 22 (z0 :: z1 :: z2 :: z3 :: z4 :: z5 :: z6 :: z7 :: z8 :: z9 :: z10 :: z11 :: z12 :: z13 :: z14 :: z15 :: z16 :: z17 :: z18 :: z19 :: z20 :: z21 :: some x :: env) L R = R x L := propext Iff.rfl
theorem e_v23 {z0 : Option PV} {z1 : Option PV} {z2 : Option PV} {z3 : Option PV} {z4 : Option PV} {z5 : Option PV} {z6 : Option PV} {z7 : Option PV} {z8 : Option PV} {z9 : Option PV} {z10 : Option PV} {z11 : Option PV} {z12 : Option PV} {z13 : Option PV} {z14 : Option PV} {z15 : Option PV} {z16 : Option PV} {z17 : Option PV} {z18 : Option PV} {z19 : Option PV} {z20 : Option PV} {z21 : Option PV} {z22 : Option PV} : wVar 23 (z0 :: z1 :: z2 :: z3 :: z4 :: z5 :: z6 :: z7 :: z8 :: z9 :: z10 :: z11 :: z12 :: z13 :: z14 :: z15 :: z16 :: z17 :: z18 :: z19 :: z20 :: z21 :: z22 :: some x :: env) L R = R x L := propext Iff.rfl
theorem e_v24 {z0 : Option PV} {z1 : Option PV} {z2 : Option PV} {z3 : Option PV} {z4 : Option PV} {z5 : Option PV} {z6 : Option PV} {z7 : Option PV} {z8 : Option PV} {z9 : Option PV} {z10 : Option PV} {z11 : Option PV} {z12 : Option PV} {z13 : Option PV} {z14 : Option PV} {z15 : Option PV} {z16 : Option PV} {z17 : Option PV} {z18 : Option PV} {z19 : Option PV} {z20 : Option PV} {z21 : Option PV} {z22 : Option PV} {z23 : Option PV} : wVar 24 (z0 :: z1 :: z2 :: z3 :: z4 :: z5 :: z6 :: z7 :: z8 :: z9 :: z10 :: z11 :: z12 :: z13 :: z14 :: z15 :: z16 :: z17 :: z18 :: z19 :: z20 :: z21 :: z22 :: z23 :: some x :: env) L R = R x L := propext Iff.rfl
theorem e_v25 {z0 : Option PV} {z1 : Option PV} {z2 : Option PV} {z3 : Option PV} {z4 : Option PV} {z5 : Option PV} {z6 : Option PV} {z7 : Option PV} {z8 : Option PV} {z9 : Option PV} {z10 : Option PV} {z11 : Option PV} {z12 : Option PV} {z13 : Option PV} {z14 : Option PV} {z15 : Option PV} {z16 : Option PV} {z17 : Option PV} {z18 : Option PV} {z19 : Option PV} {z20 : Option PV} {z21 : Option PV} {z22 : Option PV} {z23 : Option PV} {z24 : Option PV} : wVar 25 (z0 :: z1 :: z2 :: z3 :: z4 :: z5 :: z6 :: z7 :: z8 :: z9 :: z10 :: z11 :: z12 :: z13 :: z14 :: z15 :: z16 :: z17 :: z18 :: z19 :: z20 :: z21 :: z22 :: z23 :: z24 :: some x :: env) L R = R x L := propext Iff.rfl
theorem e_v26 {z0 : Option PV} {z1 : Option PV} {z2 : Option PV} {z3 : Option PV} {z4 : Option PV} {z5 : Option PV} {z6 : Option PV} {z7 : Option PV} {z8 : Option PV} {z9 : Option PV} {z10 : Option PV} {z11 : Option PV} {z12 : Option PV} {z13 : Option PV} {z14 : Option PV} {z15 : Option PV} {z16 : Option PV} {z17 : Option PV} {z18 : Option PV} {z19 : Option PV} {z20 : Option PV} {z21 : Option PV} {z22 : Option PV} {z23 : Option PV} {z24 : Option PV} {z25 : Option PV} : wVar 26 (z0 :: z1 :: z2 :: z3 :: z4 :: z5 :: z6 :: z7 :: z8 :: z9 :: z10 :: z11 :: z12 :: z13 :: z14 :: z15 :: z16 :: z17 :: z18 :: z19 :: z20 :: z21 :: z22 :: z23 :: z24 :: z25 :: some x :: env) L R = R x L := propext Iff.rfl
theorem e_v27 {z0 : Option PV} {z1 : Option PV} {z2 : Option PV} {z3 : Option PV} {z4 : Option PV} {z5 : Option PV} {z6 : Option PV} {z7 : Option PV} {z8 : Option PV} {z9 : Option PV} {z10 : Option PV} {z11 : Option PV} {z12 : Option PV} {z13 : Option PV} {z14 : Option PV} {z15 : Option PV} {z16 : Option PV} {z17 : Option PV} {z18 : Option PV} {z19 : Option PV} {z20 : Option PV} {z21 : Option PV} {z22 : Option PV} {z23 : Option PV} {z24 : Option PV} {z25 : Option PV} {z26 : Option PV} : wVar 27 (z0 :: z1 :: z2 :: z3 :: z4 :: z5 :: z6 :: z7 :: z8 :: z9 :: z10 :: z11 :: z12 :: z13 :: z14 :: z15 :: z16 :: z17 :: z18 :: z19 :: z20 :: z21 :: z22 :: z23 :: z24 :: z25 :: z26 :: some x :: env) L R = R x L := propext Iff.rfl
theorem e_v28 {z0 : Option PV} {z1 : Option PV} {z2 : Option PV} {z3 : Option PV} {z4 : Option PV} {z5 : Option PV} {z6 : Option PV} {z7 : Option PV} {z8 : Option PV} {z9 : Option PV} {z10 : Option PV} {z11 : Option PV} {z12 : Option PV} {z13 : Option PV} {z14 : Option PV} {z15 : Option PV} {z16 : Option PV} {z17 : Option PV} {z18 : Option PV} {z19 : Option PV} {z20 : Option PV} {z21 : Option PV} {z22 : Option PV} {z23 : Option PV} {z24 : Option PV} {z25 : Option PV} {z26 : Option PV} {z27 : Option PV} : wVar 28 (z0 :: z1 :: z2 :: z3 :: z4 :: z5 :: z6 :: z7 :: z8 :: z9 :: z10 :: z11 :: z12 :: z13 :: z14 :: z15 :: z16 :: z17 :: z18 :: z19 :: z20 :: z21 :: z22 :: z23 :: z24 :: z25 :: z26 :: z27 :: some x :: env) L R = R x L := propext Iff.rfl
theorem e_v29 {z0 : Option PV} {z1 : Option PV} {z2 : Option PV} {z3 : Option PV} {z4 : Option PV} {z5 : Option PV} {z6 : Option PV} {z7 : Option PV} {z8 : Option PV} {z9 : Option PV} {z10 : Option PV} {z11 : Option PV} {z12 : Option PV} {z13 : Option PV} {z14 : Option PV} {z15 : Option PV} {z16 : Option PV} {z17 : Option PV} {z18 : Option PV} {z19 : Option PV} {z20 : Option PV} {z21 : Option PV} {z22 : Option PV} {z23 : Option PV} {z24 : Option PV} {z25 : Option PV} {z26 : Option PV} {z27 : Option PV} {z28 : Option PV} : wVar 29 (z0 :: z1 :: z2 :: z3 :: z4 :: z5 :: z6 :: z7 :: z8 :: z9 :: z10 :: z11 :: z12 :: z13 :: z14 :: z15 :: z16 :: z17 :: z18 :: z19 :: z20 :: z21 :: z22 :: z23 :: z24 :: z25 :: z26 :: z27 :: z28 :: some x :: env) L R = R x L := propext Iff.rfl
theorem e_v30 {z0 : Option PV} {z1 : Option PV} {z2 : Option PV} {z3 : Option PV} {z4 : Option PV} {z5 : Option PV} {z6 : Option PV} {z7 : Option PV} {z8 : Option PV} {z9 : Option PV} {z10 : Option PV} {z11 : Option PV} {z12 : Option PV} {z13 : Option PV} {z14 : Option PV} {z15 : Option PV} {z16 : Option PV} {z17 : Option PV} {z18 : Option PV} {z19 : Option PV} {z20 : Option PV} {z21 : Option PV} {z22 : Option PV} {z23 : Option PV} {z24 : Option PV} {z25 : Option PV} {z26 : Option PV} {z27 : Option PV} {z28 : Option PV} {z29 : Option PV} : wVar 30 (z0 :: z1 :: z2 :: z3 :: z4 :: z5 :: z6 :: z7 :: z8 :: z9 :: z10 :: z11 :: z12 :: z13 :: z14 :: z15 :: z16 :: z17 :: z18 :: z19 :: z20 :: z21 :: z22 :: z23 :: z24 :: z25 :: z26 :: z27 :: z28 :: z29 :: some x :: env) L R = R x L := propext Iff.rfl
theorem e_v31 {z0 : Option PV} {z1 : Option PV} {z2 : Option PV} {z3 : Option PV} {z4 : Option PV} {z5 : Option PV} {z6 : Option PV} {z7 : Option PV} {z8 : Option PV} {z9 : Option PV} {z10 : Option PV} {z11 : Option PV} {z12 : Option PV} {z13 : Option PV} {z14 : Option PV} {z15 : Option PV} {z16 : Option PV} {z17 : Option PV} {z18 : Option PV} {z19 : Option PV} {z20 : Option PV} {z21 : Option PV} {z22 : Option PV} {z23 : Option PV} {z24 : Option PV} {z25 : Option PV} {z26 : Option PV} {z27 : Option PV} {z28 : Option PV} {z29 : Option PV} {z30 : Option PV} : wVar 31 (z0 :: z1 :: z2 :: z3 :: z4 :: z5 :: z6 :: z7 :: z8 :: z9 :: z10 :: z11 :: z12 :: z13 :: z14 :: z15 :: z16 :: z17 :: z18 :: z19 :: z20 :: z21 :: z22 :: z23 :: z24 :: z25 :: z26 :: z27 :: z28 :: z29 :: z30 :: some x :: env) L R = R x L := propext Iff.rfl
theorem e_v32 {z0 : Option PV} {z1 : Option PV} {z2 : Option PV} {z3 : Option PV} {z4 : Option PV} {z5 : Option PV} {z6 : Option PV} {z7 : Option PV} {z8 : Option PV} {z9 : Option PV} {z10 : Option PV} {z11 : Option PV} {z12 : Option PV} {z13 : Option PV} {z14 : Option PV} {z15 : Option PV} {z16 : Option PV} {z17 : Option PV} {z18 : Option PV} {z19 : Option PV} {z20 : Option PV} {z21 : Option PV} {z22 : Option PV} {z23 : Option PV} {z24 : Option PV} {z25 : Option PV} {z26 : Option PV} {z27 : Option PV} {z28 : Option PV} {z29 : Option PV} {z30 : Option PV} {z31 : Option PV} : wVar 32 (z0 :: z1 :: z2 :: z3 :: z4 :: z5 :: z6 :: z7 :: z8 :: z9 :: z10 :: z11 :: z12 :: z13 :: z14 :: z15 :: z16 :: z17 :: z18 :: z19 :: z20 :: z21 :: z22 :: z23 :: z24 :: z25 :: z26 :: z27 :: z28 :: z29 :: z30 :: z31 :: some x :: env) L R = R x L := propext Iff.rfl
theorem e_v33 {z0 : Option PV} {z1 : Option PV} {z2 : Option PV} {z3 : Option PV} {z4 : Option PV} {z5 : Option PV} {z6 : Option PV} {z7 : Option PV} {z8 : Option PV} {z9 : Option PV} {z10 : Option PV} {z11 : Option PV} {z12 : Option PV} {z13 : Option PV} {z14 : Option PV} {z15 : Option PV} {z16 : Option PV} {z17 : Option PV} {z18 : Option PV} {z19 : Option PV} {z20 : Option PV} {z21 : Option PV} {z22 : Option PV} {z23 : Option PV} {z24 : Option PV} {z25 : Option PV} {z26 : Option PV} {z27 : Option PV} {z28 : Option PV} {z29 : Option PV} {z30 : Option PV} {z31 : Option PV} {z32 : Option PV} : wVar 33 (z0 :: z1 :: z2 :: z3 :: z4 :: z5 :: z6 :: z7 :: z8 :: z9 :: z10 :: z11 :: z12 :: z13 :: z14 :: z15 :: z16 :: z17 :: z18 :: z19 :: z20 :: z21 :: z22 :: z23 :: z24 :: z25 :: z26 :: z27 :: z28 :: z29 :: z30 :: z31 :: z32 :: some x :: env) L R = R x L := propext Iff.rfl
theorem e_v34 {z0 : Option PV} {z1 : Option PV} {z2 : Option PV} {z3 : Option PV} {z4 : Option PV} {z5 : Option PV} {z6 : Option PV} {z7 : Option PV} {z8 : Option PV} {z9 : Option PV} {z10 : Option PV} {z11 : Option PV} {z12 : Option PV} {z13 : Option PV} {z14 : Option PV} {z15 : Option PV} {z16 : Option PV} {z17 : Option PV} {z18 : Option PV} {z19 : Option PV} {z20 : Option PV} {z21 : Option PV} {z22 : Option PV} {z23 : Option PV} {z24 : Option PV} {z25 : Option PV} {z26 : Option PV} {z27 : Option PV} {z28 : Option PV} {z29 : Option PV} {z30 : Option PV} {z31 : Option PV} {z32 : Option PV} {z33 : Option PV} : wVar 34 (z0 :: z1 :: z2 :: z3 :: z4 :: z5 :: z6 :: z7 :: z8 :: z9 :: z10 :: z11 :: z12 :: z13 :: z14 :: z15 :: z16 :: z17 :: z18 :: z19 :: z20 :: z21 :: z22 :: z23 :: z24 :: z25 :: z26 :: z27 :: z28 :: z29 :: z30 :: z31 :: z32 :: z33 :: some x :: env) L R = R x L := propext Iff.rfl
theorem e_v35 {z0 : Option PV} {z1 : Option PV} {z2 : Option PV} {z3 : Option PV} {z4 : Option PV} {z5 : Option PV} {z6 : Option PV} {z7 : Option PV} {z8 : Option PV} {z9 : Option PV} {z10 : Option PV} {z11 : Option PV} {z12 : Option PV} {z13 : Option PV} {z14 : Option PV} {z15 : Option PV} {z16 : Option PV} {z17 : Option PV} {z18 : Option PV} {z19 : Option PV} {z20 : Option PV} {z21 : Option PV} {z22 : Option PV} {z23 : Option PV} {z24 : Option PV} {z25 : Option PV} {z26 : Option PV} {z27 : Option PV} {z28 : Option PV} {z29 : Option PV} {z30 : Option PV} {z31 : Option PV} {z32 : Option PV} {z33 : Option PV} {z34 : Option PV} : wVar 35 (z0 :: z1 :: z2 :: z3 :: z4 :: z5 :: z6 :: z7 :: z8 :: z9 :: z10 :: z11 :: z12 :: z13 :: z14 :: z15 :: z16 :: z17 :: z18 :: z19 :: z20 :: z21 :: z22 :: z23 :: z24 :: z25 :: z26 :: z27 :: z28 :: z29 :: z30 :: z31 :: z32 :: z33 :: z34 :: some x :: env) L R = R x L := propext Iff.rfl
theorem e_v36 {z0 : Option PV} {z1 : Option PV} {z2 : Option PV} {z3 : Option PV} {z4 : Option PV} {z5 : Option PV} {z6 : Option PV} {z7 : Option PV} {z8 : Option PV} {z9 : Option PV} {z10 : Option PV} {z11 : Option PV} {z12 : Option PV} {z13 : Option PV} {z14 : Option PV} {z15 : Option PV} {z16 : Option PV} {z17 : Option PV} {z18 : Option PV} {z19 : Option PV} {z20 : Option PV} {z21 : Option PV} {z22 : Option PV} {z23 : Option PV} {z24 : Option PV} {z25 : Option PV} {z26 : Option PV} {z27 : Option PV} {z28 : Option PV} {z29 : Option PV} {z30 : Option PV} {z31 : Option PV} {z32 : Option PV} {z33 : Option PV} {z34 : Option PV} {z35 : Option PV} : wVar 36 (z0 :: z1 :: z2 :: z3 :: z4 :: z5 :: z6 :: z7 :: z8 :: z9 :: z10 :: z11 :: z12 :: z13 :: z14 :: z15 :: z16 :: z17 :: z18 :: z19 :: z20 :: z21 :: z22 :: z23 :: z24 :: z25 :: z26 :: z27 :: z28 :: z29 :: z30 :: z31 :: z32 :: z33 :: z34 :: z35 :: some x :: env) L R = R x L := propext Iff.rfl
theorem e_v37 {z0 : Option PV} {z1 : Option PV} {z2 : Option PV} {z3 : Option PV} {z4 : Option PV} {z5 : Option PV} {z6 : Option PV} {z7 : Option PV} {z8 : Option PV} {z9 : Option PV} {z10 : Option PV} {z11 : Option PV} {z12 : Option PV} {z13 : Option PV} {z14 : Option PV} {z15 : Option PV} {z16 : Option PV} {z17 : Option PV} {z18 : Option PV} {z19 : Option PV} {z20 : Option PV} {z21 : Option PV} {z22 : Option PV} {z23 : Option PV} {z24 : Option PV} {z25 : Option PV} {z26 : Option PV} {z27 : Option PV} {z28 : Option PV} {z29 : Option PV} {z30 : Option PV} {z31 : Option PV} {z32 : Option PV} {z33 : Option PV} {z34 : Option PV} {z35 : Option PV} {z36 : Option PV} : wVar 37 (z0 :: z1 :: z2 :: z3 :: z4 :: z5 :: z6 :: z7 :: z8 :: z9 :: z10 :: z11 :: z12 :: z13 :: z14 :: z15 :: z16 :: z17 :: z18 :: z19 :: z20 :: z21 :: z22 :: z23 :: z24 :: z25 :: z26 :: z27 :: z28 :: z29 :: z30 :: z31 :: z32 :: z33 :: z34 :: z35 :: z36 :: some x :: env) L R = R x L := propext Iff.rfl
theorem e_v38 {z0 : Option PV} {z1 : Option PV} {z2 : Option PV} {z3 : Option PV} {z4 : Option PV} {z5 : Option PV} {z6 : Option PV} {z7 : Option PV} {z8 : Option PV} {z9 : Option PV} {z10 : Option PV} {z11 : Option PV} {z12 : Option PV} {z13 : Option PV} {z14 : Option PV} {z15 : Option PV} {z16 : Option PV} {z17 : Option PV} {z18 : Option PV} {z19 : Option PV} {z20 : Option PV} {z21 : Option PV} {z22 : Option PV} {z23 : Option PV} {z24 : Option PV} {z25 : Option PV} {z26 : Option PV} {z27 : Option PV} {z28 : Option PV} {z29 : Option PV} {z30 : Option PV} {z31 : Option PV} {z32 : Option PV} {z33 : Option PV} {z34 : Option PV} {z35 : Option PV} {z36 : Option PV} {z37 : Option PV} : wVar 38 (z0 :: z1 :: z2 :: z3 :: z4 :: z5 :: z6 :: z7 :: z8 :: z9 :: z10 :: z11 :: z12 :: z13 :: z14 :: z15 :: z16 :: z17 :: z18 :: z19 :: z20 :: z21 :: z22 :: z23 :: z24 :: z25 :: z26 :: z27 :: z28 :: z29 :: z30 :: z31 :: z32 :: z33 :: z34 :: z35 :: z36 :: z37 :: some x :: env) L R = R x L := propext Iff.rfl
theorem e_v39 {z0 : Option PV} {z1 : Option PV} {z2 : Option PV} {z3 : Option PV} {z4 : Option PV} {z5 : Option PV} {z6 : Option PV} {z7 : Option PV} {z8 : Option PV} {z9 : Option PV} {z10 : Option PV} {z11 : Option PV} {z12 : Option PV} {z13 : Option PV} {z14 : Option PV} {z15 : Option PV} {z16 : Option PV} {z17 : Option PV} {z18 : Option PV} {z19 : Option PV} {z20 : Option PV} {z21 : Option PV} {z22 : Option PV} {z23 : Option PV} {z24 : Option PV} {z25 : Option PV} {z26 : Option PV} {z27 : Option PV} {z28 : Option PV} {z29 : Option PV} {z30 : Option PV} {z31 : Option PV} {z32 : Option PV} {z33 : Option PV} {z34 : Option PV} {z35 : Option PV} {z36 : Option PV} {z37 : Option PV} {z38 : Option PV} : wVar 39 (z0 :: z1 :: z2 :: z3 :: z4 :: z5 :: z6 :: z7 :: z8 :: z9 :: z10 :: z11 :: z12 :: z13 :: z14 :: z15 :: z16 :: z17 :: z18 :: z19 :: z20 :: z21 :: z22 :: z23 :: z24 :: z25 :: z26 :: z27 :: z28 :: z29 :: z30 :: z31 :: z32 :: z33 :: z34 :: z35 :: z36 :: z37 :: z38 :: some x :: env) L R = R x L := propext Iff.rfl
theorem e_ar0 {R : List PV → Sto → Prop} : wAr [] env L R = R [] L := propext Iff.rfl
theorem e_ar1 {w : WE} {ws : List WE} {R : List PV → Sto → Prop} : wAr (w :: ws) env L R = w env L fun x La => wAr ws env La fun xs Lb => R (x :: xs) Lb := propext Iff.rfl
theorem e_gN {n : Nat} {R : Env → Sto → Prop} : gN n x env L R = R (env.set n (some x)) L := propext Iff.rfl
theorem e_par {is : List Nat} {ws : List WE} : sPar is ws env L N = wAr ws env L fun xs La => N.nx ((is.zip xs).foldl (fun e p => e.set p.1 (some p.2)) env) La := propext Iff.rfl
theorem e_c : (wC x env L R) = (R x L) := propext Iff.rfl
theorem e_bin {f : Op2} {p q : WE} : (wBin f p q env L R) = (p env L fun x La => q env La fun y Lb => f x y Lb R) := propext Iff.rfl
theorem e_un {p : WE} {h : PV → Sto → PK → Prop} : (wUn h p env L R) = (p env L fun x La => h x La R) := propext Iff.rfl
theorem e_and {p q : WE} : (wAnd p q env L R) = (p env L fun x La => bIf x (q env La R) (R (.bl false) La)) := propext Iff.rfl
theorem e_or {p q : WE} : (wOr p q env L R) = (p env L fun x La => bIf x (R (.bl true) La) (q env La R)) := propext Iff.rfl
theorem e_ife {p q s : WE} : (wIfE p q s env L R) = (p env L fun x La => bIf x (q env La R) (s env La R)) := propext Iff.rfl
theorem e_chain {f : Op2} {p q s : WE} {f2 : Op2} : (wChain f f2 p q s env L R) = (p env L fun x La => q env La fun y Lb => f x y Lb fun z Lc => bIf z (s env Lc fun w Ld => f2 y w Ld R) (R (.bl false) Lc)) := propext Iff.rfl
theorem e_tup {ws : List WE} : (wTup ws env L R) = (wAr ws env L fun xs La => xs.length ≤ sizeLine ∧ R (.tup xs) La) := propext Iff.rfl
theorem e_lst {ws : List WE} : (wLst ws env L R) = (wAr ws env L fun xs La => xs.length ≤ sizeLine ∧ newL La xs R) := propext Iff.rfl
theorem e_bi {ws : List WE} {gf : BiF} : (wBi gf ws env L R) = (wAr ws env L fun xs La => gf xs La R) := propext Iff.rfl
theorem e_call {ws : List WE} {S : Spec} : (wCall S ws env L R) = (wAr ws env L fun xs La => S xs La R) := propext Iff.rfl
theorem e_sl {p : WE} {lo hi : WO} : (wSl p lo hi env L R) = (p env L fun x La => lo env La fun l Lb => hi env Lb fun u Lc => oSl x l u Lc R) := propext Iff.rfl
theorem e_no {R : Option Int → Sto → Prop} : wNo env L R = R none L := propext Iff.rfl
theorem e_so {p : WE} {R : Option Int → Sto → Prop} : wSo p env L R = p env L fun x La => match x with | .int i => R (some i) La | _ => False := propext Iff.rfl
theorem e_nil : (sNil env L N) = (N.nx env L) := propext Iff.rfl
theorem e_seq {s s2 : WS} : (sSeq s s2 env L N) = (s env L { N with nx := fun e l => s2 e l N }) := propext Iff.rfl
theorem e_expr {p : WE} : (sExpr p env L N) = (p env L fun _ La => N.nx env La) := propext Iff.rfl
theorem e_ret {p : WE} : (sRet p env L N) = (p env L N.rt) := propext Iff.rfl
theorem e_retn : (sRetN env L N) = (N.rt .non L) := propext Iff.rfl
theorem e_asg {p : WE} {g : WG} : (sAsg g p env L N) = (p env L fun x La => g x env La N.nx) := propext Iff.rfl
theorem e_if {s s2 : WS} {p : WE} : (sIf p s s2 env L N) = (p env L fun x La => bIf x (s env La N) (s2 env La N)) := propext Iff.rfl
theorem e_brk : (sBrk env L N) = (N.bk env L) := propext Iff.rfl
theorem e_cnt : (sCnt env L N) = (N.ct env L) := propext Iff.rfl
theorem sz_0 : (([] : List PV).length ≤ sizeLine) = True := eq_true (by show 0 ≤ sizeLine; decide)
theorem sz_1 {z0 : PV} : (([z0] : List PV).length ≤ sizeLine) = True := eq_true (by show 1 ≤ sizeLine; decide)
theorem sz_2 {z0 z1 : PV} : (([z0, z1] : List PV).length ≤ sizeLine) = True := eq_true (by show 2 ≤ sizeLine; decide)
theorem sz_3 {z0 z1 z2 : PV} : (([z0, z1, z2] : List PV).length ≤ sizeLine) = True := eq_true (by show 3 ≤ sizeLine; decide)
theorem sz_4 {z0 z1 z2 z3 : PV} : (([z0, z1, z2, z3] : List PV).length ≤ sizeLine) = True := eq_true (by show 4 ≤ sizeLine; decide)
theorem sz_5 {z0 z1 z2 z3 z4 : PV} : (([z0, z1, z2, z3, z4] : List PV).length ≤ sizeLine) = True := eq_true (by show 5 ≤ sizeLine; decide)
theorem sz_6 {z0 z1 z2 z3 z4 z5 : PV} : (([z0, z1, z2, z3, z4, z5] : List PV).length ≤ sizeLine) = True := eq_true (by show 6 ≤ sizeLine; decide)
theorem sz_7 {z0 z1 z2 z3 z4 z5 z6 : PV} : (([z0, z1, z2, z3, z4, z5, z6] : List PV).length ≤ sizeLine) = True := eq_true (by show 7 ≤ sizeLine; decide)
theorem sz_8 {z0 z1 z2 z3 z4 z5 z6 z7 : PV} : (([z0, z1, z2, z3, z4, z5, z6, z7] : List PV).length ≤ sizeLine) = True := eq_true (by show 8 ≤ sizeLine; decide)
theorem sz_9 {z0 z1 z2 z3 z4 z5 z6 z7 z8 : PV} : (([z0, z1, z2, z3, z4, z5, z6, z7, z8] : List PV).length ≤ sizeLine) = True := eq_true (by show 9 ≤ sizeLine; decide)
theorem sz_10 {z0 z1 z2 z3 z4 z5 z6 z7 z8 z9 : PV} : (([z0, z1, z2, z3, z4, z5, z6, z7, z8, z9] : List PV).length ≤ sizeLine) = True := eq_true (by show 10 ≤ sizeLine; decide)
theorem sz_11 {z0 z1 z2 z3 z4 z5 z6 z7 z8 z9 z10 : PV} : (([z0, z1, z2, z3, z4, z5, z6, z7, z8, z9, z10] : List PV).length ≤ sizeLine) = True := eq_true (by show 11 ≤ sizeLine; decide)
theorem sz_12 {z0 z1 z2 z3 z4 z5 z6 z7 z8 z9 z10 z11 : PV} : (([z0, z1, z2, z3, z4, z5, z6, z7, z8, z9, z10, z11] : List PV).length ≤ sizeLine) = True := eq_true (by show 12 ≤ sizeLine; decide)
theorem sz_13 {z0 z1 z2 z3 z4 z5 z6 z7 z8 z9 z10 z11 z12 : PV} : (([z0, z1, z2, z3, z4, z5, z6, z7, z8, z9, z10, z11, z12] : List PV).length ≤ sizeLine) = True := eq_true (by show 13 ≤ sizeLine; decide)
theorem sz_14 {z0 z1 z2 z3 z4 z5 z6 z7 z8 z9 z10 z11 z12 z13 : PV} : (([z0, z1, z2, z3, z4, z5, z6, z7, z8, z9, z10, z11, z12, z13] : List PV).length ≤ sizeLine) = True := eq_true (by show 14 ≤ sizeLine; decide)
theorem sz_15 {z0 z1 z2 z3 z4 z5 z6 z7 z8 z9 z10 z11 z12 z13 z14 : PV} : (([z0, z1, z2, z3, z4, z5, z6, z7, z8, z9, z10, z11, z12, z13, z14] : List PV).length ≤ sizeLine) = True := eq_true (by show 15 ≤ sizeLine; decide)
theorem sz_16 {z0 z1 z2 z3 z4 z5 z6 z7 z8 z9 z10 z11 z12 z13 z14 z15 : PV} : (([z0, z1, z2, z3, z4, z5, z6, z7, z8, z9, z10, z11, z12, z13, z14, z15] : List PV).length ≤ sizeLine) = True := eq_true (by show 16 ≤ sizeLine; decide)
theorem sz_17 {z0 z1 z2 z3 z4 z5 z6 z7 z8 z9 z10 z11 z12 z13 z14 z15 z16 : PV} : (([z0, z1, z2, z3, z4, z5, z6, z7, z8, z9, z10, z11, z12, z13, z14, z15, z16] : List PV).length ≤ sizeLine) = True := eq_true (by show 17 ≤ sizeLine; decide)
theorem sz_18 {z0 z1 z2 z3 z4 z5 z6 z7 z8 z9 z10 z11 z12 z13 z14 z15 z16 z17 : PV} : (([z0, z1, z2, z3, z4, z5, z6, z7, z8, z9, z10, z11, z12, z13, z14, z15, z16, z17] : List PV).length ≤ sizeLine) = True := eq_true (by show 18 ≤ sizeLine; decide)
theorem sz_19 {z0 z1 z2 z3 z4 z5 z6 z7 z8 z9 z10 z11 z12 z13 z14 z15 z16 z17 z18 : PV} : (([z0, z1, z2, z3, z4, z5, z6, z7, z8, z9, z10, z11, z12, z13, z14, z15, z16, z17, z18] : List PV).length ≤ sizeLine) = True := eq_true (by show 19 ≤ sizeLine; decide)
end
/-! ### end of readings -/
end Mp
namespace Mp
open PySem PySem.Spec PyProof.Rows L2
local macro_rules | `(tactic| walk_at "ev") => `(tactic| try simp only [fr0, fr1, ix0, ix1, ix2, ix3, bIf_t, bIf_f, bIf_d, bIf_n, oEq_ii, oNe_ii, oEq_bb, oNe_bb, List.set_cons_zero, List.set_cons_succ, List.zip_cons_cons, List.zip_nil_right, List.foldl_cons, List.foldl_nil, e_add, e_addI, e_addt, e_addl, e_sub, e_mul, e_div, e_mod, e_pow, e_oI, e_neg, e_not, e_isn, e_isnn, e_isb, e_isnb, e_isN_non, e_isN_bl, e_isN_int, e_isN_tup, e_isN_ref, e_isN_fz, e_isN_fr, e_isN_str, e_lent, e_lenz, e_abs, e_int, e_intb, e_dvm, e_min, e_max, e_listt, e_listz, e_tupt, e_str, gv_0, gv_s, e_slt, e_slz, e_v0, e_v1, e_v2, e_v3, e_v4, e_v5, e_v6, e_v7, e_v8, e_v9, e_v10, e_v11, e_v12, e_v13, e_v14, e_v15, e_v16, e_v17, e_v18, e_v19, e_v20, e_v21, e_v22, e_v23, e_v24, e_v25, e_v26, e_v27, e_v28, e_v29, e_v30, e_v31, e_v32, e_v33, e_v34, e_v35, e_v36, e_v37, e_v38, e_v39, e_ar0, e_ar1, e_gN, e_par, e_c, e_bin, e_un, e_and, e_or, e_ife, e_chain, e_tup, e_lst, e_bi, e_call, e_sl, e_no, e_so, e_nil, e_seq, e_expr, e_ret, e_retn, e_asg, e_if, e_brk, e_cnt, sz_0, sz_1, sz_2, sz_3, sz_4, sz_5, sz_6, sz_7, sz_8, sz_9, sz_10, sz_11, sz_12, sz_13, sz_14, sz_15, sz_16, sz_17, sz_18, sz_19, true_and, isi_non_int, isi_non_bool, isi_non_str, isi_non_tuple, isi_non_list, isi_non_dict, isi_bl_int, isi_bl_bool, isi_bl_str, isi_bl_tuple, isi_bl_list, isi_bl_dict, isi_int_int, isi_int_bool, isi_int_str, isi_int_tuple, isi_int_list, isi_int_dict, isi_str_int, isi_str_bool, isi_str_str, isi_str_tuple, isi_str_list, isi_str_dict, isi_tup_int, isi_tup_bool, isi_tup_str, isi_tup_tuple, isi_tup_list, isi_tup_dict, isi_fz_int, isi_fz_bool, isi_fz_str, isi_fz_tuple, isi_fz_list, isi_fz_dict])

def s_divisor_of : Spec := fun args L R => ∃ a b : Nat, args = [.int a, .int b] ∧ R (.int (Nat.gcd a b)) L
/-! divisor_of(one, other): 0 one, 1 other -/
def d_divisor_of_1 : WS := sRet (wVar 0)
def d_divisor_of_0w_0 : WS := sPar [0, 1] [wVar 1, wBin oMod (wVar 0) (wVar 1)]
def d_divisor_of_0 : WS := sSeq (sWhile (wBin oGt (wVar 1) (wC (.int 0))) d_divisor_of_0w_0) d_divisor_of_1
theorem ok_divisor_of : ∀ args L R, args.length = 2 → s_divisor_of args L R → d_divisor_of_0 (initE 2 args) L { nx := fun _ L' => R .non L', rt := R } := by
  rintro _ L R _ ⟨a, b, rfl, h⟩
  unfold d_divisor_of_0
  show sWhile _ _ [some (.int a), some (.int b)] L _
  refine ⟨fun m env L' => L' = L ∧ ∃ x y : Nat, env = [some (.int x), some (.int y)] ∧ Nat.gcd x y = Nat.gcd a b ∧ m = y, ⟨b, rfl, a, b, rfl, rfl, rfl⟩, ?_⟩
  rintro m env _ ⟨rfl, x, y, rfl, hg, rfl⟩
  walk_at "ev"
  split
  · rename_i hy
    unfold d_divisor_of_0w_0
    walk_at "ev"
    have hy' : 0 < m := by omega
    refine ⟨by omega, x % m, Nat.mod_lt _ hy', m, x % m, ?_, ?_, rfl⟩
    · rw [Int.fmod_eq_emod_of_nonneg _ (by omega)]; rfl
    · rw [← hg, Nat.gcd_comm m, ← Nat.gcd_rec, Nat.gcd_comm]
  · rename_i hy
    have hm : m = 0 := by omega
    subst hm
    unfold d_divisor_of_1
    walk_at "ev"
    rw [Nat.gcd_zero_right] at hg
    rw [hg]
    exact h

/-! fractions reckoned -/
theorem fdiv_num {n d : Int} (hd : d ≠ 0) : (.tup [.int (n.fdiv (if d < 0 then -((Nat.gcd n.natAbs d.natAbs : Nat) : Int) else ((Nat.gcd n.natAbs d.natAbs : Nat) : Int))), .int (d.fdiv (if d < 0 then -((Nat.gcd n.natAbs d.natAbs : Nat) : Int) else ((Nat.gcd n.natAbs d.natAbs : Nat) : Int)))] : PV) = fr ((n : Rat) / (d : Rat)) := by
  rw [← Rat.divInt_eq_div]
  unfold fr
  rw [Rat.num_divInt, Rat.den_divInt, if_neg hd]
  have hg : (Int.gcd d n) = Nat.gcd n.natAbs d.natAbs := by rw [Int.gcd, Nat.gcd_comm]
  rw [hg]
  generalize hgg : Nat.gcd n.natAbs d.natAbs = g
  have g0 : 0 < g := by
    rw [← hgg]
    exact Nat.gcd_pos_of_pos_right _ (by omega)
  have dg : g ∣ d.natAbs := by rw [← hgg]; exact Nat.gcd_dvd_right _ _
  by_cases h : d < 0
  · rw [if_pos h, Int.sign_eq_neg_one_of_neg h]
    have e1 : n.fdiv (-(g : Int)) = -1 * n / (g : Int) := by
      have : n.fdiv (-(g : Int)) = (-n).fdiv (g : Int) := by
        have := Int.neg_fdiv_neg (-n) (g : Int)
        rw [Int.neg_neg] at this
        exact this
      rw [this, Int.fdiv_eq_ediv_of_nonneg _ (by omega), Int.neg_one_mul]
    have e2 : d.fdiv (-(g : Int)) = ((d.natAbs / g : Nat) : Int) := by
      have : d.fdiv (-(g : Int)) = (-d).fdiv (g : Int) := by
        have := Int.neg_fdiv_neg (-d) (g : Int)
        rw [Int.neg_neg] at this
        exact this
      rw [this, Int.fdiv_eq_ediv_of_nonneg _ (by omega), Int.natCast_ediv]
      congr 1
      omega
    rw [e1, e2]
  · rw [if_neg h, Int.sign_eq_one_of_pos (by omega), Int.one_mul, Int.fdiv_eq_ediv_of_nonneg _ (by omega), Int.fdiv_eq_ediv_of_nonneg _ (by omega), Int.natCast_ediv]
    congr 3
    congr 2
    omega
def DenOk (d : Int) : Prop := d.natAbs < 2 ^ 9000
theorem DenOk.of {d : Int} {a : Nat} (h : d.natAbs < 2 ^ a) (ha : a ≤ 9000) : DenOk d := Nat.lt_of_lt_of_le h (Nat.pow_le_pow_right (by decide) ha)
theorem DenOk.gcd {n d : Int} (h : DenOk d) (hd : d ≠ 0) : ((Nat.gcd n.natAbs d.natAbs : Nat) : Int).natAbs < 2 ^ 9000 := by exact Nat.lt_of_le_of_lt (Nat.le_of_dvd (by omega) (Nat.gcd_dvd_right _ _)) h
theorem DenOk.gcdN {n d : Int} (h : DenOk d) (hd : d ≠ 0) : (-((Nat.gcd n.natAbs d.natAbs : Nat) : Int)).natAbs < 2 ^ 9000 := by rw [Int.natAbs_neg]; exact h.gcd hd
def s_fraction : Spec := fun args L R => ∃ n d : Int, args = [.int n, .int d] ∧ d ≠ 0 ∧ DenOk d ∧ R (fr ((n : Rat) / (d : Rat))) L
/-! fraction(n, d): 0 n, 1 d, 2 divisor -/
def d_fraction_2 : WS := sRet (wTup [wBin oDiv (wVar 0) (wVar 2), wBin oDiv (wVar 1) (wVar 2)])
def d_fraction_1a_0 : WS := sAsg (gN 2) (wUn oNeg (wVar 2))
def d_fraction_1 : WS := sSeq (sIf (wBin oLt (wVar 1) (wC (.int 0))) d_fraction_1a_0 sNil) d_fraction_2
def d_fraction_0 : WS := sSeq (sAsg (gN 2) (wCall s_divisor_of [wBi gAbs [wVar 0], wBi gAbs [wVar 1]])) d_fraction_1
theorem size2 {xs : List PV} (h : xs.length ≤ 1000) : xs.length ≤ sizeLine := Nat.le_trans h (by decide)
theorem ok_fraction : ∀ args L R, args.length = 2 → s_fraction args L R → d_fraction_0 (initE 3 args) L { nx := fun _ L' => R .non L', rt := R } := by
  rintro _ L R _ ⟨n, d, rfl, hd, hz, h⟩
  unfold d_fraction_0
  show sSeq _ _ [some (.int n), some (.int d), none] L _
  walk_at "ev"
  refine ⟨_, _, rfl, ?_⟩
  rw [← fdiv_num hd] at h
  have g0 : 0 < Nat.gcd n.natAbs d.natAbs := Nat.gcd_pos_of_pos_right _ (by omega)
  unfold d_fraction_1 d_fraction_1a_0
  walk_at "ev"
  split
  · rename_i hn
    rw [if_pos hn] at h
    unfold d_fraction_2
    walk_at "ev"
    exact ⟨by omega, noPl (hz.gcdN hd), by omega, noPl (hz.gcdN hd), h⟩
  · rename_i hn
    rw [if_neg hn] at h
    unfold d_fraction_2
    walk_at "ev"
    exact ⟨by omega, noPl (hz.gcd hd), by omega, noPl (hz.gcd hd), h⟩

/-! two fractions -/
theorem den_pos (q : Rat) : (0 : Int) < q.den := by have := q.den_nz; omega
theorem den_ne (q : Rat) : ((q.den : Int) : Rat) ≠ 0 := by
  intro h
  have := Rat.intCast_inj.mp (show ((q.den : Int) : Rat) = ((0 : Int) : Rat) from h)
  have := q.den_nz
  omega
theorem num_den (q : Rat) : q = (q.num : Rat) / ((q.den : Int) : Rat) := by rw [← Rat.divInt_eq_div]; exact (Rat.num_divInt_den q).symm
theorem num_eq (q : Rat) : (q.num : Rat) = q * ((q.den : Int) : Rat) := by
  have h := num_den q
  have hd := den_ne q
  grind
theorem add_eq (p q : Rat) : ((p.num * q.den + q.num * p.den : Int) : Rat) / ((p.den * q.den : Int) : Rat) = p + q := by
  have h1 := num_eq p
  have h2 := num_eq q
  have d1 := den_ne p
  have d2 := den_ne q
  rw [Rat.intCast_add, Rat.intCast_mul, Rat.intCast_mul, Rat.intCast_mul, h1, h2]
  grind
theorem sub_eq (p q : Rat) : ((p.num * q.den - q.num * p.den : Int) : Rat) / ((p.den * q.den : Int) : Rat) = p - q := by
  have h1 := num_eq p
  have h2 := num_eq q
  have d1 := den_ne p
  have d2 := den_ne q
  rw [Rat.intCast_sub, Rat.intCast_mul, Rat.intCast_mul, Rat.intCast_mul, h1, h2]
  grind
theorem mul_eq (p q : Rat) : ((p.num * q.num : Int) : Rat) / ((p.den * q.den : Int) : Rat) = p * q := by
  have h1 := num_eq p
  have h2 := num_eq q
  have d1 := den_ne p
  have d2 := den_ne q
  rw [Rat.intCast_mul, Rat.intCast_mul, h1, h2]
  grind
theorem div_eq (p q : Rat) (hq : q ≠ 0) : ((p.num * q.den : Int) : Rat) / ((p.den * q.num : Int) : Rat) = p / q := by
  have h1 := num_eq p
  have h2 := num_eq q
  have d1 := den_ne p
  have d2 := den_ne q
  rw [Rat.intCast_mul, Rat.intCast_mul, h1, h2]
  grind

/-! sizes -/
theorem Sz.mono {a b : Nat} {q : Rat} (h : Sz a q) (hb : a ≤ b) : Sz b q := ⟨Nat.lt_of_lt_of_le h.1 (Nat.pow_le_pow_right (by decide) hb), Nat.lt_of_lt_of_le h.2 (Nat.pow_le_pow_right (by decide) hb)⟩
theorem Sz.of {n d : Int} {b : Nat} (hd : d ≠ 0) (h1 : n.natAbs < 2 ^ b) (h2 : d.natAbs < 2 ^ b) : Sz b ((n : Rat) / (d : Rat)) := by
  rw [← Rat.divInt_eq_div]
  unfold Sz
  rw [Rat.num_divInt, Rat.den_divInt, if_neg hd]
  refine ⟨Nat.lt_of_le_of_lt ?_ h1, Nat.lt_of_le_of_lt (Nat.div_le_self _ _) h2⟩
  have e : (d.sign * n / ((Int.gcd d n : Nat) : Int)).natAbs = (d.sign * n).natAbs / Int.gcd d n := by
    rw [Int.natAbs_ediv_of_dvd]
    · rfl
    · exact Int.dvd_trans (Int.gcd_dvd_right _ _) (Int.dvd_mul_left _ _)
  rw [e]
  refine Nat.le_trans (Nat.div_le_self _ _) ?_
  rw [Int.natAbs_mul, Int.natAbs_sign_of_ne_zero hd, Nat.one_mul]
  exact Nat.le_refl _
theorem abs_mul_lt {i j : Int} {a b : Nat} (h1 : i.natAbs < 2 ^ a) (h2 : j.natAbs < 2 ^ b) : (i * j).natAbs < 2 ^ (a + b) := by
  rw [Int.natAbs_mul, Nat.pow_add]
  exact Nat.mul_lt_mul'' h1 h2
theorem abs_add_lt {i j : Int} {a : Nat} (h1 : i.natAbs < 2 ^ a) (h2 : j.natAbs < 2 ^ a) : (i + j).natAbs < 2 ^ (a + 1) := by
  rw [Nat.pow_succ]
  omega
theorem abs_sub_lt {i j : Int} {a : Nat} (h1 : i.natAbs < 2 ^ a) (h2 : j.natAbs < 2 ^ a) : (i - j).natAbs < 2 ^ (a + 1) := by
  rw [Nat.pow_succ]
  omega
theorem abs_mono {i : Int} {a b : Nat} (h : i.natAbs < 2 ^ a) (hb : a ≤ b) : i.natAbs < 2 ^ b := Nat.lt_of_lt_of_le h (Nat.pow_le_pow_right (by decide) hb)
theorem den_abs (q : Rat) : ((q.den : Int)).natAbs = q.den := Int.natAbs_natCast _
theorem mul_den_ne (p q : Rat) : (p.den : Int) * (q.den : Int) ≠ 0 := Int.mul_ne_zero (Int.ne_of_gt (den_pos p)) (Int.ne_of_gt (den_pos q))
theorem Sz.add {p q : Rat} {a b : Nat} (h1 : Sz a p) (h2 : Sz b q) : Sz (a + b + 1) (p + q) := by
  rw [← add_eq]
  refine Sz.of (mul_den_ne p q) (abs_add_lt (abs_mul_lt h1.1 (by rw [den_abs]; exact h2.2)) ?_) (abs_mono (abs_mul_lt (by rw [den_abs]; exact h1.2) (by rw [den_abs]; exact h2.2)) (by omega))
  rw [Nat.add_comm a b]
  exact abs_mul_lt h2.1 (by rw [den_abs]; exact h1.2)
theorem Sz.sub {p q : Rat} {a b : Nat} (h1 : Sz a p) (h2 : Sz b q) : Sz (a + b + 1) (p - q) := by
  rw [← sub_eq]
  refine Sz.of (mul_den_ne p q) (abs_sub_lt (abs_mul_lt h1.1 (by rw [den_abs]; exact h2.2)) ?_) (abs_mono (abs_mul_lt (by rw [den_abs]; exact h1.2) (by rw [den_abs]; exact h2.2)) (by omega))
  rw [Nat.add_comm a b]
  exact abs_mul_lt h2.1 (by rw [den_abs]; exact h1.2)
theorem Sz.mul {p q : Rat} {a b : Nat} (h1 : Sz a p) (h2 : Sz b q) : Sz (a + b) (p * q) := by
  rw [← mul_eq]
  exact Sz.of (mul_den_ne p q) (abs_mul_lt h1.1 h2.1) (abs_mul_lt (by rw [den_abs]; exact h1.2) (by rw [den_abs]; exact h2.2))
theorem num_ne {q : Rat} (h : q ≠ 0) : q.num ≠ 0 := fun e => h (Rat.num_eq_zero.mp e)
theorem Sz.div {p q : Rat} {a b : Nat} (h1 : Sz a p) (h2 : Sz b q) (hq : q ≠ 0) : Sz (a + b) (p / q) := by
  rw [← div_eq p q hq]
  exact Sz.of (Int.mul_ne_zero (Int.ne_of_gt (den_pos p)) (num_ne hq)) (abs_mul_lt h1.1 (by rw [den_abs]; exact h2.2)) (abs_mul_lt (by rw [den_abs]; exact h1.2) h2.1)
theorem Sz.neg {p : Rat} {a : Nat} (h : Sz a p) : Sz a (-p) := ⟨by rw [Rat.neg_num, Int.natAbs_neg]; exact h.1, by rw [Rat.neg_den]; exact h.2⟩
theorem Sz.int {n : Int} {a : Nat} (h : n.natAbs < 2 ^ a) (ha : 0 < a) : Sz a (n : Rat) := ⟨h, by
  show 1 < 2 ^ a
  exact Nat.one_lt_two_pow (by omega)⟩

section
variable {p q : Rat} {a b : Nat}
theorem Sz.nn (hp : Sz a p) (hq : Sz b q) (h : a + b ≤ 134217000) : MulOk p.num q.num := mulOk a b hp.1 hq.1 h
theorem Sz.nd (hp : Sz a p) (hq : Sz b q) (h : a + b ≤ 134217000) : MulOk p.num q.den := mulOk a b hp.1 (by rw [den_abs]; exact hq.2) h
theorem Sz.dn (hp : Sz a p) (hq : Sz b q) (h : a + b ≤ 134217000) : MulOk p.den q.num := mulOk a b (by rw [den_abs]; exact hp.2) hq.1 h
theorem Sz.dd (hp : Sz a p) (hq : Sz b q) (h : a + b ≤ 134217000) : MulOk p.den q.den := mulOk a b (by rw [den_abs]; exact hp.2) (by rw [den_abs]; exact hq.2) h
theorem Sz.okd (hp : Sz a p) (hq : Sz b q) (h : a + b ≤ 9000) : DenOk ((p.den : Int) * q.den) := DenOk.of (abs_mul_lt (by rw [den_abs]; exact hp.2) (by rw [den_abs]; exact hq.2)) h
theorem Sz.okn (hp : Sz a p) (hq : Sz b q) (h : a + b ≤ 9000) : DenOk ((p.den : Int) * q.num) := DenOk.of (abs_mul_lt (by rw [den_abs]; exact hp.2) hq.1) h
end

/-! the specs -/
abbrev SzB (q : Rat) : Prop := Sz 4000 q
def s_added : Spec := fun args L R => ∃ p q : Rat, args = [fr p, fr q] ∧ SzB p ∧ SzB q ∧ R (fr (p + q)) L
def s_taken : Spec := fun args L R => ∃ p q : Rat, args = [fr p, fr q] ∧ SzB p ∧ SzB q ∧ R (fr (p - q)) L
def s_times : Spec := fun args L R => ∃ p q : Rat, args = [fr p, fr q] ∧ SzB p ∧ SzB q ∧ R (fr (p * q)) L
def s_over : Spec := fun args L R => ∃ p q : Rat, args = [fr p, fr q] ∧ q ≠ 0 ∧ SzB p ∧ SzB q ∧ R (fr (p / q)) L
def cmpI (p q : Rat) : Int := if q < p then 1 else if p < q then -1 else 0
def s_compared : Spec := fun args L R => ∃ p q : Rat, args = [fr p, fr q] ∧ SzB p ∧ SzB q ∧ R (.int (cmpI p q)) L
/-! added(one, other): 0 one, 1 other -/
def d_added_0 : WS := sRet (wCall s_fraction [wBin oAdd (wBin oMul (wBin oIx (wVar 0) (wC (.int 0))) (wBin oIx (wVar 1) (wC (.int 1)))) (wBin oMul (wBin oIx (wVar 1) (wC (.int 0))) (wBin oIx (wVar 0) (wC (.int 1)))), wBin oMul (wBin oIx (wVar 0) (wC (.int 1))) (wBin oIx (wVar 1) (wC (.int 1)))])
/-! taken(one, other): 0 one, 1 other -/
def d_taken_0 : WS := sRet (wCall s_fraction [wBin oSub (wBin oMul (wBin oIx (wVar 0) (wC (.int 0))) (wBin oIx (wVar 1) (wC (.int 1)))) (wBin oMul (wBin oIx (wVar 1) (wC (.int 0))) (wBin oIx (wVar 0) (wC (.int 1)))), wBin oMul (wBin oIx (wVar 0) (wC (.int 1))) (wBin oIx (wVar 1) (wC (.int 1)))])
/-! times(one, other): 0 one, 1 other -/
def d_times_0 : WS := sRet (wCall s_fraction [wBin oMul (wBin oIx (wVar 0) (wC (.int 0))) (wBin oIx (wVar 1) (wC (.int 0))), wBin oMul (wBin oIx (wVar 0) (wC (.int 1))) (wBin oIx (wVar 1) (wC (.int 1)))])
/-! over(one, other): 0 one, 1 other -/
def d_over_0 : WS := sRet (wCall s_fraction [wBin oMul (wBin oIx (wVar 0) (wC (.int 0))) (wBin oIx (wVar 1) (wC (.int 1))), wBin oMul (wBin oIx (wVar 0) (wC (.int 1))) (wBin oIx (wVar 1) (wC (.int 0)))])
/-! compared(one, other): 0 one, 1 other, 2 left, 3 right -/
def d_compared_1 : WS := sRet (wBin oSub (wBi gInt [wBin oGt (wVar 2) (wVar 3)]) (wBi gInt [wBin oLt (wVar 2) (wVar 3)]))
def d_compared_0 : WS := sSeq (sPar [2, 3] [wBin oMul (wBin oIx (wVar 0) (wC (.int 0))) (wBin oIx (wVar 1) (wC (.int 1))), wBin oMul (wBin oIx (wVar 1) (wC (.int 0))) (wBin oIx (wVar 0) (wC (.int 1)))]) d_compared_1
theorem ok_added : ∀ args L R, args.length = 2 → s_added args L R → d_added_0 (initE 2 args) L { nx := fun _ L' => R .non L', rt := R } := by
  rintro _ L R _ ⟨p, q, rfl, hp, hq, h⟩
  unfold d_added_0
  show sRet _ [some (fr p), some (fr q)] L _
  walk_at "ev"
  refine ⟨hp.nd hq (by decide), hq.nd hp (by decide), hp.dd hq (by decide), _, _, rfl, mul_den_ne p q, ?_, ?_⟩
  · exact hp.okd hq (by decide)
  · rw [← add_eq] at h
    exact h
theorem ok_taken : ∀ args L R, args.length = 2 → s_taken args L R → d_taken_0 (initE 2 args) L { nx := fun _ L' => R .non L', rt := R } := by
  rintro _ L R _ ⟨p, q, rfl, hp, hq, h⟩
  unfold d_taken_0
  show sRet _ [some (fr p), some (fr q)] L _
  walk_at "ev"
  refine ⟨hp.nd hq (by decide), hq.nd hp (by decide), hp.dd hq (by decide), _, _, rfl, mul_den_ne p q, ?_, ?_⟩
  · exact hp.okd hq (by decide)
  · rw [← sub_eq] at h
    exact h
theorem ok_times : ∀ args L R, args.length = 2 → s_times args L R → d_times_0 (initE 2 args) L { nx := fun _ L' => R .non L', rt := R } := by
  rintro _ L R _ ⟨p, q, rfl, hp, hq, h⟩
  unfold d_times_0
  show sRet _ [some (fr p), some (fr q)] L _
  walk_at "ev"
  refine ⟨hp.nn hq (by decide), hp.dd hq (by decide), _, _, rfl, mul_den_ne p q, ?_, ?_⟩
  · exact hp.okd hq (by decide)
  · rw [← mul_eq] at h
    exact h
theorem ok_over : ∀ args L R, args.length = 2 → s_over args L R → d_over_0 (initE 2 args) L { nx := fun _ L' => R .non L', rt := R } := by
  rintro _ L R _ ⟨p, q, rfl, h0, hp, hq, h⟩
  unfold d_over_0
  show sRet _ [some (fr p), some (fr q)] L _
  walk_at "ev"
  refine ⟨hp.nd hq (by decide), hp.dn hq (by decide), _, _, rfl, Int.mul_ne_zero (Int.ne_of_gt (den_pos p)) (num_ne h0), ?_, ?_⟩
  · exact hp.okn hq (by decide)
  · rw [← div_eq p q h0] at h
    exact h
theorem lt_num (p q : Rat) : p.num * (q.den : Int) < q.num * (p.den : Int) ↔ p < q := (Rat.lt_iff p q).symm
theorem ok_compared : ∀ args L R, args.length = 2 → s_compared args L R → d_compared_0 (initE 4 args) L { nx := fun _ L' => R .non L', rt := R } := by
  rintro _ L R _ ⟨p, q, rfl, hp, hq, h⟩
  unfold d_compared_0
  show sSeq _ _ [some (fr p), some (fr q), none, none] L _
  walk_at "ev"
  refine ⟨hp.nd hq (by decide), hq.nd hp (by decide), ?_⟩
  unfold d_compared_1
  walk_at "ev"
  simp only [lt_num, decide_eq_true_eq]
  have e : (if q < p then (1 : Int) else 0) - (if p < q then (1 : Int) else 0) = cmpI p q := by
    unfold cmpI
    by_cases h1 : q < p
    · rw [if_pos h1, if_pos h1, if_neg (fun h2 => by grind)]; rfl
    · rw [if_neg h1, if_neg h1]
      split <;> rfl
  rw [e]
  exact h
end Mp
namespace Mp
open PySem PySem.Spec PyProof.Rows L2
/-! ### lists in the store -/
section
variable {L : Sto} {R : PK} {p : Addr} {x y z u : PV} {xs : List PV} {env : Env}
theorem ixl0 (e : L p = some (.l (x :: xs))) : oIx (.ref p) (.int 0) L R = R x L := by
  unfold oIx
  simp only [e, show atI (x :: xs) 0 = some x from atI_nat (j := 0) rfl]
theorem ixl1 (e : L p = some (.l (x :: y :: xs))) : oIx (.ref p) (.int 1) L R = R y L := by
  unfold oIx
  simp only [e, show atI (x :: y :: xs) 1 = some y from atI_nat (j := 1) rfl]
theorem ixl2 (e : L p = some (.l (x :: y :: z :: xs))) : oIx (.ref p) (.int 2) L R = R z L := by
  unfold oIx
  simp only [e, show atI (x :: y :: z :: xs) 2 = some z from atI_nat (j := 2) rfl]
theorem ixl3 (e : L p = some (.l (x :: y :: z :: u :: xs))) : oIx (.ref p) (.int 3) L R = R u L := by
  unfold oIx
  simp only [e, show atI (x :: y :: z :: u :: xs) 3 = some u from atI_nat (j := 3) rfl]
def gSt (y z x : PV) (env : Env) (Lb : Sto) (R : Env → Sto → Prop) : Prop := match y, z with
  | .ref a, .int k => ∃ xs j, Lb a = some (.l xs) ∧ ixN xs.length k = some j ∧ R env (put Lb a (.l (xs.set j x)))
  | _, _ => False
theorem e_gS {o i : WE} {R : Env → Sto → Prop} : gS o i x env L R = o env L fun y La => i env La fun z Lb => gSt y z x env Lb R := propext Iff.rfl
theorem e_gSt {k : Int} {j : Nat} {R : Env → Sto → Prop} (e : L p = some (.l xs)) (hj : ixN xs.length k = some j) : gSt (.ref p) (.int k) x env L R = R env (put L p (.l (xs.set j x))) := by
  refine propext ⟨?_, fun h => ⟨xs, j, e, hj, h⟩⟩
  rintro ⟨xs', j', e', hj', h⟩
  rw [e] at e'
  cases e'
  rw [hj] at hj'
  cases hj'
  exact h
theorem e_gT {n : Nat} {gs : WGs} {R : Env → Sto → Prop} : gT n gs (.tup xs) env L R = (xs.length = n ∧ gs xs env L R) := propext Iff.rfl
theorem e_gTl {n : Nat} {gs : WGs} {R : Env → Sto → Prop} (e : L p = some (.l xs)) (h : xs.length = n ∧ gs xs env L R) : gT n gs (.ref p) env L R := ⟨xs, e, h⟩
theorem e_gsL0 {R : Env → Sto → Prop} : gsL [] [] env L R = R env L := propext Iff.rfl
theorem e_gsL1 {g : WG} {gs : List WG} {R : Env → Sto → Prop} : gsL (g :: gs) (x :: xs) env L R = g x env L fun env' L' => gsL gs xs env' L' R := propext Iff.rfl
theorem e_gsN0 {R : Env → Sto → Prop} : gsN [] [] env L R = R env L := propext Iff.rfl
theorem e_gsN1 {i : Nat} {gs : List Nat} {R : Env → Sto → Prop} : gsN (i :: gs) (x :: xs) env L R = gsN gs xs (env.set i (some x)) L R := propext Iff.rfl
end
theorem mulL {i j : Int} (h : -18446744073709551616 < i ∧ i < 18446744073709551616) : MulOk i j := ⟨(CMul.ok (.inl h))⟩
theorem mulR {i j : Int} (h : -18446744073709551616 < j ∧ j < 18446744073709551616) : MulOk i j := ⟨(CMul.ok (.inr h))⟩
theorem bits_le {i : Int} {a : Nat} (h : i.natAbs < 2 ^ a) : Builtin.Int.intBits i ≤ a := by
  unfold Builtin.Int.intBits
  split
  · exact Nat.zero_le _
  · rename_i hx
    have hx' : i.natAbs ≠ 0 := fun z => hx (by simpa using z)
    have := (Nat.log2_lt hx').mpr h
    omega
theorem powOk {i j : Int} (a : Nat) (h : i.natAbs < 2 ^ a) (h0 : 0 ≤ j) (h1 : (a : Int) * j ≤ 134217728) : PowOk i j := by
  refine ⟨h0, ?_⟩
  have : (Builtin.Int.intBits i : Int) ≤ a := by exact_mod_cast bits_le h
  refine Int.le_trans (Int.mul_le_mul_of_nonneg_right this h0) ?_
  exact h1
/-! ### rules for loops -/
theorem loop_i {keep : Sto → Prop} {g : WG} {b : WS} {N : Nd} (I : Nat → Env → Sto → Prop) {xs : List PV} {env : Env} {L : Sto} (h0 : I 0 env L) (hk : ∀ i e l, I i e l → keep l)
    (hs : ∀ i x e l (K : Env → Sto → Prop), xs[i]? = some x → I i e l → (∀ e l, I (i + 1) e l → K e l) → g x e l fun e' l' => b e' l' { nx := K, rt := N.rt, bk := N.nx, ct := K })
    (he : ∀ e l, I xs.length e l → N.nx e l) : loopW keep g b xs env L N := by
  have key : ∀ ys i e l, xs.drop i = ys → i ≤ xs.length → I i e l → loopW keep g b ys e l N := by
    intro ys
    induction ys with
    | nil =>
      intro i e l hd hi hI
      have : i = xs.length := by
        have := congrArg List.length hd
        rw [List.length_drop, List.length_nil] at this
        omega
      exact ⟨hk i e l hI, he e l (this ▸ hI)⟩
    | cons y ys ih =>
      intro i e l hd hi hI
      have hl := congrArg List.length hd
      rw [List.length_drop, List.length_cons] at hl
      have hx : xs[i]? = some y := by
        have := congrArg (fun z => z[0]?) hd
        simpa using this
      have hd' : xs.drop (i + 1) = ys := by
        have := congrArg List.tail hd
        simpa using this
      exact ⟨hk i e l hI, hs i y e l (fun e l => loopW keep g b ys e l N) hx hI fun e l h => ih (i + 1) e l hd' (by omega) h⟩
  exact key xs 0 env L rfl (Nat.zero_le _) h0
theorem comp_i {keep : Sto → Prop} {g : WG} {t e : WE} {env : Env} {R : List PV → Sto → Prop} (I : Nat → List PV → Sto → Prop) {xs : List PV} {L : Sto} (h0 : I 0 [] L) (hk : ∀ i a l, I i a l → keep l) (hn : xs.length < sizeLine)
    (hs : ∀ i x acc l (K : List PV → Sto → Prop), xs[i]? = some x → I i acc l → acc.length ≤ i → (∀ acc l, acc.length ≤ i + 1 → I (i + 1) acc l → K acc l) → g x env l fun env' La => t env' La fun b Lb => bIf b (e env' Lb fun y Lc => acc.length < sizeLine ∧ K (acc ++ [y]) Lc) (K acc Lb))
    (he : ∀ acc l, I xs.length acc l → R acc l) : compW keep g t e env xs [] L R := by
  have key : ∀ ys i acc l, xs.drop i = ys → i ≤ xs.length → acc.length ≤ i → I i acc l → compW keep g t e env ys acc l R := by
    intro ys
    induction ys with
    | nil =>
      intro i acc l hd hi _ hI
      have : i = xs.length := by
        have := congrArg List.length hd
        rw [List.length_drop, List.length_nil] at this
        omega
      exact ⟨hk i acc l hI, he acc l (this ▸ hI)⟩
    | cons y ys ih =>
      intro i acc l hd hi ha hI
      have hl := congrArg List.length hd
      rw [List.length_drop, List.length_cons] at hl
      have hx : xs[i]? = some y := by
        have := congrArg (fun z => z[0]?) hd
        simpa using this
      have hd' : xs.drop (i + 1) = ys := by
        have := congrArg List.tail hd
        simpa using this
      exact ⟨hk i acc l hI, hs i y acc l (fun acc l => compW keep g t e env ys acc l R) hx hI ha fun acc l ha' h => ih (i + 1) acc l hd' (by omega) ha' h⟩
  exact key xs 0 [] L rfl (Nat.zero_le _) (Nat.le_refl _) h0

/-! ### iteration sources -/
section
variable {L : Sto} {R : Src → Sto → Prop} {p q : Addr} {xs ys : List PV} {env : Env} {a b : WE}
def r1K (y : PV) (La : Sto) (R : Src → Sto → Prop) : Prop := match y with
  | .int j => RgB j ∧ R ⟨rgL 0 j.toNat, fun _ => True⟩ La
  | _ => False
theorem e_r1 : iR1 a env L R = a env L fun y La => r1K y La R := propext Iff.rfl
theorem e_r1K {j : Int} : r1K (.int j) L R = (RgB j ∧ R ⟨rgL 0 j.toNat, fun _ => True⟩ L) := propext Iff.rfl
def r2K (x y : PV) (La : Sto) (R : Src → Sto → Prop) : Prop := match x, y with
  | .int i, .int j => RgB i ∧ RgB j ∧ R ⟨rgL i (j - i).toNat, fun _ => True⟩ La
  | _, _ => False
theorem e_r2 : iR2 a b env L R = a env L fun x La => b env La fun y Lb => r2K x y Lb R := propext Iff.rfl
theorem e_r2K {i j : Int} : r2K (.int i) (.int j) L R = (RgB i ∧ RgB j ∧ R ⟨rgL i (j - i).toNat, fun _ => True⟩ L) := propext Iff.rfl
def lsK (x : PV) (La : Sto) (R : Src → Sto → Prop) : Prop := match x with
  | .ref a => match La a with
    | some (.l xs) => R ⟨xs, fun Lx => Lx a = some (.l xs)⟩ La
    | _ => False
  | .tup xs => R ⟨xs, fun _ => True⟩ La
  | .str z => R ⟨z.cps.toList.map fun c => .str ⟨#[c]⟩, fun _ => True⟩ La
  | _ => False
theorem e_any : iAny a env L R = a env L fun x La => lsK x La R := propext Iff.rfl
theorem e_lsK (e : L p = some (.l xs)) : lsK (.ref p) L R = R ⟨xs, fun Lx => Lx p = some (.l xs)⟩ L := by
  unfold lsK
  simp only [e]
theorem e_lsT : lsK (.tup xs) L R = R ⟨xs, fun _ => True⟩ L := propext Iff.rfl
def enK (x : PV) (La : Sto) (R : Src → Sto → Prop) : Prop := srcK x La fun xs kp => R ⟨enL xs, kp⟩ La
theorem e_en : iEn a env L R = a env L fun x La => enK x La R := propext Iff.rfl
theorem e_enK (e : L p = some (.l xs)) : enK (.ref p) L R = R ⟨enL xs, fun Lx => Lx p = some (.l xs)⟩ L := by
  unfold enK srcK
  simp only [e]
theorem e_enT : enK (.tup xs) L R = R ⟨enL xs, fun _ => True⟩ L := propext Iff.rfl
def zpK (x y : PV) (Lb : Sto) (R : Src → Sto → Prop) : Prop := srcK x Lb fun xs kx => srcK y Lb fun ys ky => R ⟨zipL xs ys, fun Lx => kx Lx ∧ ky Lx⟩ Lb
theorem e_zpT : zpK (.tup xs) (.tup ys) L R = R ⟨zipL xs ys, fun _ => True⟩ L := by
  show R ⟨zipL xs ys, fun _ => True ∧ True⟩ L = _
  rw [show (fun _ : Sto => True ∧ True) = fun _ => True from funext fun _ => propext ⟨fun _ => trivial, fun _ => ⟨trivial, trivial⟩⟩]
theorem e_zp : iZp a b env L R = a env L fun x La => b env La fun y Lb => zpK x y Lb R := propext Iff.rfl
theorem e_zpK (e : L p = some (.l xs)) (f : L q = some (.l ys)) : zpK (.ref p) (.ref q) L R = R ⟨zipL xs ys, fun Lx => Lx p = some (.l xs) ∧ Lx q = some (.l ys)⟩ L := by
  unfold zpK srcK
  simp only [e, f]
def z3K (x y z : PV) (Lb : Sto) (R : Src → Sto → Prop) : Prop := srcK x Lb fun xs kx => srcK y Lb fun ys ky => srcK z Lb fun zs kz => R ⟨zip3L xs ys zs, fun Lx => kx Lx ∧ ky Lx ∧ kz Lx⟩ Lb
theorem e_z3 {c : WE} : iZ3 a b c env L R = a env L fun x La => b env La fun y Lb => c env Lb fun z Lc => z3K x y z Lc R := propext Iff.rfl
theorem e_z3K {r : Addr} {zs : List PV} (e : L p = some (.l xs)) (f : L q = some (.l ys)) (g : L r = some (.l zs)) : z3K (.ref p) (.ref q) (.ref r) L R = R ⟨zip3L xs ys zs, fun Lx => Lx p = some (.l xs) ∧ Lx q = some (.l ys) ∧ Lx r = some (.l zs)⟩ L := by
  unfold z3K srcK
  simp only [e, f, g]
def rvK (x : PV) (La : Sto) (R : Src → Sto → Prop) : Prop := match x with
  | .ref a => match La a with
    | some (.l xs) => R ⟨xs.reverse, fun Lx => Lx a = some (.l xs)⟩ La
    | _ => False
  | _ => False
theorem e_rv : iRv a env L R = a env L fun x La => rvK x La R := propext Iff.rfl
theorem e_rvK (e : L p = some (.l xs)) : rvK (.ref p) L R = R ⟨xs.reverse, fun Lx => Lx p = some (.l xs)⟩ L := by
  unfold rvK
  simp only [e]
theorem e_for {it : WI} {g : WG} {s : WS} {N : Nd} : sFor it g s env L N = it env L fun c La => loopW c.keep g s c.items env La N := propext Iff.rfl
theorem e_comp {own : List Nat} {it : WI} {g : WG} {t e : WE} {R : PK} : wComp own it g t e env L R = it env L fun c La => compW c.keep g t e (wipeE env own) c.items [] La fun acc Lb => newL Lb acc R := propext Iff.rfl
theorem e_mt {T : String} {g : MtF} {o : WE} {ws : List WE} {R : PK} : wMt T g o ws env L R = o env L fun x La => tyOk T x La ∧ wAr ws env La fun xs Lb => g x xs Lb R := propext Iff.rfl
theorem e_wipe0 : wipeE env [] = env := rfl
theorem e_wipe1 {i : Nat} {is : List Nat} : wipeE env (i :: is) = (wipeE env is).set i none := rfl
theorem e_revt {R : PK} : oRev (.tup xs) L R = R (.tup xs.reverse) L := propext Iff.rfl
theorem e_tru {w : WE} {R : PK} : wTru w env L R = w env L fun x La => truP x La R := propext Iff.rfl
theorem tru_bl {R : PK} {b : Bool} : truP (.bl b) L R = R (.bl b) L := propext Iff.rfl
theorem tru_int {R : PK} {i : Int} : truP (.int i) L R = R (.bl (i != 0)) L := propext Iff.rfl
theorem tru_non {R : PK} : truP .non L R = R (.bl false) L := propext Iff.rfl
theorem tru_tup {R : PK} : truP (.tup xs) L R = R (.bl (!xs.isEmpty)) L := propext Iff.rfl
theorem e_disp {ps : List (Key × WE)} {R : PK} : wDisp ps env L R = ∀ p, L p = none → wPairs ps env (put L p (.d [])) fun kvs L2 => L2 p = some (.d []) ∧ R (.ref p) (put L2 p (.d kvs)) := propext Iff.rfl
theorem e_prs0 {R : List (Key × PV) → Sto → Prop} : wPairs [] env L R = R [] L := propext Iff.rfl
theorem e_prs1 {k : Key} {w : WE} {ps : List (Key × WE)} {R : List (Key × PV) → Sto → Prop} : wPairs ((k, w) :: ps) env L R = w env L fun x La => wPairs ps env La fun ps Lb => R ((k, x) :: ps) Lb := propext Iff.rfl
theorem e_aug {i : Nat} {f : Op2} {N : Nd} {x : PV} (h : gv env i = some x) : sAug i f a env L N = a env L fun y La => f x y La fun z Lb => N.nx (env.set i (some z)) Lb := by
  unfold sAug
  rw [h]
end
local macro_rules | `(tactic| walk_at "ev") => `(tactic| try simp only [if_true, if_false, decide_true, decide_false, Bool.not_true, Bool.not_false, Bool.false_eq_true, reduceCtorEq, e_gS, e_gT, e_gsL0, e_gsL1, e_gsN0, e_gsN1, e_r1, e_r1K, e_r2, e_r2K, e_any, e_lsT, e_zpT, e_enT, e_en, e_zp, e_z3, e_revt, e_tru, tru_bl, tru_int, tru_non, tru_tup, e_disp, e_prs0, e_prs1, List.zip_nil_left, e_rv, e_for, e_comp, e_mt, e_wipe0, e_wipe1, fr0, fr1, ix0, ix1, ix2, ix3, bIf_t, bIf_f, bIf_d, bIf_n, oEq_ii, oNe_ii, oEq_bb, oNe_bb, List.set_cons_zero, List.set_cons_succ, List.zip_cons_cons, List.zip_nil_right, List.foldl_cons, List.foldl_nil, e_add, e_addI, e_addt, e_addl, e_sub, e_mul, e_div, e_mod, e_pow, e_oI, e_neg, e_not, e_isn, e_isnn, e_isb, e_isnb, e_isN_non, e_isN_bl, e_isN_int, e_isN_tup, e_isN_ref, e_isN_fz, e_isN_fr, e_isN_str, e_lent, e_lenz, e_abs, e_int, e_intb, e_dvm, e_min, e_max, e_listt, e_listz, e_tupt, e_str, gv_0, gv_s, e_slt, e_slz, e_v0, e_v1, e_v2, e_v3, e_v4, e_v5, e_v6, e_v7, e_v8, e_v9, e_v10, e_v11, e_v12, e_v13, e_v14, e_v15, e_v16, e_v17, e_v18, e_v19, e_v20, e_v21, e_v22, e_v23, e_v24, e_v25, e_v26, e_v27, e_v28, e_v29, e_v30, e_v31, e_v32, e_v33, e_v34, e_v35, e_v36, e_v37, e_v38, e_v39, e_ar0, e_ar1, e_gN, e_par, e_c, e_bin, e_un, e_and, e_or, e_ife, e_chain, e_tup, e_lst, e_bi, e_call, e_sl, e_no, e_so, e_nil, e_seq, e_expr, e_ret, e_retn, e_asg, e_if, e_brk, e_cnt, sz_0, sz_1, sz_2, sz_3, sz_4, sz_5, sz_6, sz_7, sz_8, sz_9, sz_10, sz_11, sz_12, sz_13, sz_14, sz_15, sz_16, sz_17, sz_18, sz_19, true_and, isi_non_int, isi_non_bool, isi_non_str, isi_non_tuple, isi_non_list, isi_non_dict, isi_bl_int, isi_bl_bool, isi_bl_str, isi_bl_tuple, isi_bl_list, isi_bl_dict, isi_int_int, isi_int_bool, isi_int_str, isi_int_tuple, isi_int_list, isi_int_dict, isi_str_int, isi_str_bool, isi_str_str, isi_str_tuple, isi_str_list, isi_str_dict, isi_tup_int, isi_tup_bool, isi_tup_str, isi_tup_tuple, isi_tup_list, isi_tup_dict, isi_fz_int, isi_fz_bool, isi_fz_str, isi_fz_tuple, isi_fz_list, isi_fz_dict])
/-! ### the law's box of chance -/
def Bx (b : Addr) (n : Int) (L : Sto) : Prop := ∃ c0 c1 c2 : Int, L b = some (.l [.int c0, .int c1, .int c2]) ∧ 0 ≤ c0 ∧ 0 ≤ c1 ∧ c1 < 2147483647 ∧ 0 ≤ c2 ∧ c2 ≤ n
theorem Bx.mono {b : Addr} {n m : Int} {L : Sto} (h : Bx b n L) (k : n ≤ m) : Bx b m L := by
  obtain ⟨c0, c1, c2, h1, h2, h3, h4, h5, h6⟩ := h
  exact ⟨c0, c1, c2, h1, h2, h3, h4, h5, Int.le_trans h6 k⟩
theorem Bx.le {b : Addr} {n : Int} {L L' : Sto} (h : Bx b n L) (k : Le L L') : Bx b n L' := by
  obtain ⟨c0, c1, c2, h1, h2⟩ := h
  exact ⟨c0, c1, c2, k _ _ h1, h2⟩
theorem Bx.leb {b p : Addr} {n : Int} {L L' : Sto} (h : Bx b n L) (hp : b ≠ p) (k : LeB p L L') : Bx b n L' := by
  obtain ⟨c0, c1, c2, h1, h2⟩ := h
  exact ⟨c0, c1, c2, k _ _ hp h1, h2⟩
def sl_take : Spec := fun args L R => ∃ (b : Addr) (m n : Int), args = [.ref b, .int m] ∧ Bx b n L ∧ n < 1152921504606846976 ∧ 0 < m ∧ DenOk m ∧ ∀ r L', 0 ≤ r → r < m → Bx b (n + 1) L' → LeB b L L' → R (.int r) L'
/-! _law_take(_law_box, _law_many): 0 _law_box, 1 _law_many, 2 _law_found, 3 _law_once -/
def l_take_3 : WS := sRet (wBin oMod (wBin oDiv (wBin oMod (wBin oAdd (wBin oMul (wVar 3) (wC (.int 48271))) (wBin oMul (wBin oMul (wBin oIx (wVar 0) (wC (.int 2))) (wBin oIx (wVar 0) (wC (.int 2)))) (wC (.int 7919)))) (wC (.int 2147483629))) (wC (.int 64))) (wVar 1))
def l_take_2 : WS := sSeq (sAsg (gN 3) (wBin oMod (wBin oPow (wBin oAdd (wBin oIx (wVar 0) (wC (.int 1))) (wBin oMul (wC (.int 39373)) (wBin oIx (wVar 0) (wC (.int 2))))) (wC (.int 5))) (wC (.int 2147483647)))) l_take_3
def l_take_1 : WS := sSeq (sAsg (gS (wVar 0) (wC (.int 2))) (wBin oAdd (wBin oIx (wVar 0) (wC (.int 2))) (wC (.int 1)))) l_take_2
def l_take_0a_1 : WS := sRet (wVar 2)
def l_take_0a_0 : WS := sSeq (sAsg (gT 2 (gsL [gS (wVar 0) (wC (.int 0)), gN 2])) (wBi gDivmod [wBin oIx (wVar 0) (wC (.int 0)), wVar 1])) l_take_0a_1
def l_take_0 : WS := sSeq (sIf (wBin oGt (wBin oIx (wVar 0) (wC (.int 0))) (wC (.int 0))) l_take_0a_0 sNil) l_take_1
theorem fm_pos {i j : Int} (h : 0 < j) : i.fmod j = i % j := Int.fmod_eq_emod_of_nonneg _ (by omega)
theorem fd_pos {i j : Int} (h : 0 < j) : i.fdiv j = i / j := Int.fdiv_eq_ediv_of_nonneg _ (by omega)
theorem noPlS {i j : Int} (h : j.natAbs < 2 ^ 64) : NoPl i j := noPl (Nat.lt_trans h (Nat.pow_lt_pow_right (by decide) (by decide)))
theorem ok_l_take : ∀ args L R, args.length = 2 → sl_take args L R → l_take_0 (initE 4 args) L { nx := fun _ L' => R .non L', rt := R } := by
  rintro _ L R _ ⟨b, m, n, rfl, ⟨c0, c1, c2, e, h0, h1, h2, h3, h4⟩, hn, hm, hd, h⟩
  unfold l_take_0
  show sSeq _ _ [some (.ref b), some (.int m), none, none] L _
  walk_at "ev"
  rw [ixl0 e]
  walk_at "ev"
  split
  · rename_i hc
    unfold l_take_0a_0
    walk_at "ev"
    rw [ixl0 e]
    walk_at "ev"
    refine ⟨hm, noPl hd, rfl, ?_⟩
    rw [e_gSt (j := 0) e rfl]
    unfold l_take_0a_1
    walk_at "ev"
    refine h _ _ (Int.emod_nonneg _ (by omega)) (Int.emod_lt_of_pos _ hm) ⟨c0 / m, c1, c2, put_same, Int.ediv_nonneg h0 (by omega), h1, h2, h3, by omega⟩ LeB.put
  · rename_i hc
    unfold l_take_1
    walk_at "ev"
    rw [ixl2 e]
    walk_at "ev"
    rw [e_gSt (j := 2) e rfl]
    unfold l_take_2
    walk_at "ev"
    rw [ixl1 put_same]
    walk_at "ev"
    rw [ixl2 put_same]
    walk_at "ev"
    refine ⟨mulL (by decide), powOk 80 ?_ (by decide) (by decide), by decide, ?_⟩
    · have : (2 : Nat) ^ 80 = 1208925819614629174706176 := by decide
      rw [this]
      omega
    unfold l_take_3
    walk_at "ev"
    refine ⟨mulR (by decide), ?_⟩
    rw [ixl2 put_same]
    rw [ixl2 put_same]
    walk_at "ev"
    refine ⟨mulL (by omega), mulR (by decide), by decide, by decide, noPlS (by decide), by omega, ?_⟩
    rw [fm_pos hm]
    exact h _ _ (Int.emod_nonneg _ (by omega)) (Int.emod_lt_of_pos _ hm) ⟨c0, c1, c2 + 1, put_same, h0, h1, h2, by omega, by omega⟩ LeB.put
def sl_box_of : Spec := fun args L R => ∃ (c : Addr) (ns : List Int) (k : Int), args = [.ref c, .int k] ∧ L c = some (.l (ns.map PV.int)) ∧ 0 ≤ k ∧ k < 1000000 ∧ ∀ b L', L b = none → Le L L' → Bx b 0 L' → R (.ref b) L'
/-! _law_box_of(_law_script, _law_k): 0 _law_script, 1 _law_k, 2 _law_cell -/
def l_box_of_2 : WS := sRet (wLst [wBin oMul (wBi gAbs [wVar 2]) (wBi gInt [wBin oGe (wBi gAbs [wVar 2]) (wBin oPow (wC (.int 10)) (wC (.int 18)))]), wBin oMod (wBin oAdd (wVar 2) (wBin oMul (wBin oMul (wC (.int 7919)) (wVar 1)) (wVar 1))) (wC (.int 2147483647)), wC (.int 0)])
def l_box_of_1a_0 : WS := sAsg (gN 2) (wBin oIx (wVar 0) (wVar 1))
def l_box_of_1 : WS := sSeq (sIf (wBin oLt (wVar 1) (wBi gLen [wVar 0])) l_box_of_1a_0 sNil) l_box_of_2
def l_box_of_0 : WS := sSeq (sAsg (gN 2) (wC (.int 0))) l_box_of_1
theorem mod_rng {i j : Int} (h : 0 < j) : 0 ≤ i.fmod j ∧ i.fmod j < j := by
  rw [fm_pos h]
  exact ⟨Int.emod_nonneg _ (by omega), Int.emod_lt_of_pos _ h⟩
theorem box_end {x k : Int} {c : Addr} {L : Sto} {N : Nd} (hk : 0 ≤ k) (hk' : k < 1000000) (h : ∀ b L', L b = none → Le L L' → Bx b 0 L' → N.rt (.ref b) L') : l_box_of_2 [some (.ref c), some (.int k), some (.int x)] L N := by
  unfold l_box_of_2
  walk_at "ev"
  refine ⟨powOk 4 (by decide) (by decide) (by decide), mulR ?_, mulL (by decide), mulR (by omega), by decide, ?_⟩
  · split <;> decide
  intro p hp
  obtain ⟨r1, r2⟩ := mod_rng (i := x + 7919 * k * k) (j := 2147483647) (by decide)
  refine h p _ hp (Le.new hp) ⟨_, _, _, put_same, Int.mul_nonneg (by omega) (by split <;> decide), r1, r2, by decide, by decide⟩
theorem ok_l_box_of : ∀ args L R, args.length = 2 → sl_box_of args L R → l_box_of_0 (initE 3 args) L { nx := fun _ L' => R .non L', rt := R } := by
  rintro _ L R _ ⟨c, ns, k, rfl, e, hk, hk', h⟩
  unfold l_box_of_0
  show sSeq _ _ [some (.ref c), some (.int k), none] L _
  walk_at "ev"
  unfold l_box_of_1
  walk_at "ev"
  rw [e_lenl e]
  walk_at "ev"
  split
  · rename_i hl
    rw [List.length_map] at hl
    unfold l_box_of_1a_0
    walk_at "ev"
    obtain ⟨j, rfl⟩ := Int.eq_ofNat_of_zero_le hk
    have hj : j < ns.length := by omega
    refine ixl_nat e (x := .int ns[j]) ?_ ?_
    · rw [List.getElem?_map, List.getElem?_eq_getElem hj]; rfl
    · show l_box_of_2 [some (.ref c), some (.int j), some (.int ns[j])] L _
      exact box_end hk hk' h
  · exact box_end hk hk' h

/-! ### the law's fractions -/
def sl_lowest : Spec := fun args L R => ∃ n d : Int, args = [.int n, .int d] ∧ d ≠ 0 ∧ DenOk d ∧ R (fr ((n : Rat) / (d : Rat))) L
/-! _law_lowest(_law_n, _law_d): 0 _law_n, 1 _law_d, 2 _law_one, 3 _law_other -/
def l_lowest_2 : WS := sRet (wIfE (wBin oGt (wVar 1) (wC (.int 0))) (wTup [wBin oDiv (wVar 0) (wVar 2), wBin oDiv (wVar 1) (wVar 2)]) (wTup [wBin oDiv (wUn oNeg (wVar 0)) (wVar 2), wBin oDiv (wUn oNeg (wVar 1)) (wVar 2)]))
def l_lowest_1w_0 : WS := sPar [2, 3] [wVar 3, wBin oMod (wVar 2) (wVar 3)]
def l_lowest_1 : WS := sSeq (sWhile (wBin oGt (wVar 3) (wC (.int 0))) l_lowest_1w_0) l_lowest_2
def l_lowest_0 : WS := sSeq (sPar [2, 3] [wBi gAbs [wVar 0], wBi gAbs [wVar 1]]) l_lowest_1
theorem fdiv_neg_neg (i j : Int) : (-i).fdiv j = i.fdiv (-j) := by
  have := Int.neg_fdiv_neg i (-j)
  rw [Int.neg_neg] at this
  exact this
theorem ok_l_lowest : ∀ args L R, args.length = 2 → sl_lowest args L R → l_lowest_0 (initE 4 args) L { nx := fun _ L' => R .non L', rt := R } := by
  rintro _ L R _ ⟨n, d, rfl, hd, hz, h⟩
  unfold l_lowest_0
  show sSeq _ _ [some (.int n), some (.int d), none, none] L _
  walk_at "ev"
  unfold l_lowest_1
  walk_at "ev"
  refine ⟨fun m env L' => L' = L ∧ ∃ x y : Nat, env = [some (.int n), some (.int d), some (.int x), some (.int y)] ∧ Nat.gcd x y = Nat.gcd n.natAbs d.natAbs ∧ m = y, ⟨d.natAbs, rfl, n.natAbs, d.natAbs, rfl, rfl, rfl⟩, ?_⟩
  rintro m env _ ⟨rfl, x, y, rfl, hg, rfl⟩
  walk_at "ev"
  split
  · rename_i hy
    unfold l_lowest_1w_0
    walk_at "ev"
    have hy' : 0 < m := by omega
    refine ⟨by omega, x % m, Nat.mod_lt _ hy', m, x % m, ?_, ?_, rfl⟩
    · rw [Int.fmod_eq_emod_of_nonneg _ (by omega)]; rfl
    · rw [← hg, Nat.gcd_comm m, ← Nat.gcd_rec, Nat.gcd_comm]
  · rename_i hy
    have hm : m = 0 := by omega
    subst hm
    rw [Nat.gcd_zero_right] at hg
    subst hg
    unfold l_lowest_2
    walk_at "ev"
    have g0 : 0 < Nat.gcd n.natAbs d.natAbs := Nat.gcd_pos_of_pos_right _ (by omega)
    rw [← fdiv_num hd] at h
    split
    · rename_i hp
      rw [if_neg (by omega)] at h
      exact ⟨by omega, noPl (hz.gcd hd), by omega, noPl (hz.gcd hd), h⟩
    · rename_i hp
      rw [if_pos (by omega)] at h
      refine ⟨by omega, noPl (hz.gcd hd), by omega, noPl (hz.gcd hd), ?_⟩
      rw [fdiv_neg_neg, fdiv_neg_neg]
      exact h
def sl_sum : Spec := fun args L R => ∃ p q : Rat, args = [fr p, fr q] ∧ SzB p ∧ SzB q ∧ R (fr (p + q)) L
def sl_less : Spec := fun args L R => ∃ p q : Rat, args = [fr p, fr q] ∧ SzB p ∧ SzB q ∧ R (fr (p - q)) L
def sl_product : Spec := fun args L R => ∃ p q : Rat, args = [fr p, fr q] ∧ SzB p ∧ SzB q ∧ R (fr (p * q)) L
/-! _law_sum(_law_p, _law_q): 0 _law_p, 1 _law_q -/
def l_sum_0 : WS := sRet (wCall sl_lowest [wBin oAdd (wBin oMul (wBin oIx (wVar 0) (wC (.int 0))) (wBin oIx (wVar 1) (wC (.int 1)))) (wBin oMul (wBin oIx (wVar 1) (wC (.int 0))) (wBin oIx (wVar 0) (wC (.int 1)))), wBin oMul (wBin oIx (wVar 0) (wC (.int 1))) (wBin oIx (wVar 1) (wC (.int 1)))])
/-! _law_less(_law_p, _law_q): 0 _law_p, 1 _law_q -/
def l_less_0 : WS := sRet (wCall sl_lowest [wBin oSub (wBin oMul (wBin oIx (wVar 0) (wC (.int 0))) (wBin oIx (wVar 1) (wC (.int 1)))) (wBin oMul (wBin oIx (wVar 1) (wC (.int 0))) (wBin oIx (wVar 0) (wC (.int 1)))), wBin oMul (wBin oIx (wVar 0) (wC (.int 1))) (wBin oIx (wVar 1) (wC (.int 1)))])
/-! _law_product(_law_p, _law_q): 0 _law_p, 1 _law_q -/
def l_product_0 : WS := sRet (wCall sl_lowest [wBin oMul (wBin oIx (wVar 0) (wC (.int 0))) (wBin oIx (wVar 1) (wC (.int 0))), wBin oMul (wBin oIx (wVar 0) (wC (.int 1))) (wBin oIx (wVar 1) (wC (.int 1)))])
theorem ok_l_sum : ∀ args L R, args.length = 2 → sl_sum args L R → l_sum_0 (initE 2 args) L { nx := fun _ L' => R .non L', rt := R } := by
  rintro _ L R _ ⟨p, q, rfl, hp, hq, h⟩
  unfold l_sum_0
  show sRet _ [some (fr p), some (fr q)] L _
  walk_at "ev"
  refine ⟨hp.nd hq (by decide), hq.nd hp (by decide), hp.dd hq (by decide), _, _, rfl, mul_den_ne p q, hp.okd hq (by decide), ?_⟩
  rw [← add_eq] at h
  exact h
theorem ok_l_less : ∀ args L R, args.length = 2 → sl_less args L R → l_less_0 (initE 2 args) L { nx := fun _ L' => R .non L', rt := R } := by
  rintro _ L R _ ⟨p, q, rfl, hp, hq, h⟩
  unfold l_less_0
  show sRet _ [some (fr p), some (fr q)] L _
  walk_at "ev"
  refine ⟨hp.nd hq (by decide), hq.nd hp (by decide), hp.dd hq (by decide), _, _, rfl, mul_den_ne p q, hp.okd hq (by decide), ?_⟩
  rw [← sub_eq] at h
  exact h
theorem ok_l_product : ∀ args L R, args.length = 2 → sl_product args L R → l_product_0 (initE 2 args) L { nx := fun _ L' => R .non L', rt := R } := by
  rintro _ L R _ ⟨p, q, rfl, hp, hq, h⟩
  unfold l_product_0
  show sRet _ [some (fr p), some (fr q)] L _
  walk_at "ev"
  refine ⟨hp.nn hq (by decide), hp.dd hq (by decide), _, _, rfl, mul_den_ne p q, hp.okd hq (by decide), ?_⟩
  rw [← mul_eq] at h
  exact h
end Mp
namespace Mp
open PySem PySem.Spec PyProof.Rows L2
local macro_rules | `(tactic| walk_at "ev") => `(tactic| try simp only [if_true, if_false, decide_true, decide_false, Bool.not_true, Bool.not_false, Bool.false_eq_true, reduceCtorEq, e_gS, e_gT, e_gsL0, e_gsL1, e_gsN0, e_gsN1, e_r1, e_r1K, e_r2, e_r2K, e_any, e_lsT, e_zpT, e_enT, e_en, e_zp, e_z3, e_revt, e_tru, tru_bl, tru_int, tru_non, tru_tup, e_disp, e_prs0, e_prs1, List.zip_nil_left, e_rv, e_for, e_comp, e_mt, e_wipe0, e_wipe1, fr0, fr1, ix0, ix1, ix2, ix3, bIf_t, bIf_f, bIf_d, bIf_n, oEq_ii, oNe_ii, oEq_bb, oNe_bb, List.set_cons_zero, List.set_cons_succ, List.zip_cons_cons, List.zip_nil_right, List.foldl_cons, List.foldl_nil, e_add, e_addI, e_addt, e_addl, e_sub, e_mul, e_div, e_mod, e_pow, e_oI, e_neg, e_not, e_isn, e_isnn, e_isb, e_isnb, e_isN_non, e_isN_bl, e_isN_int, e_isN_tup, e_isN_ref, e_isN_fz, e_isN_fr, e_isN_str, e_lent, e_lenz, e_abs, e_int, e_intb, e_dvm, e_min, e_max, e_listt, e_listz, e_tupt, e_str, gv_0, gv_s, e_slt, e_slz, e_v0, e_v1, e_v2, e_v3, e_v4, e_v5, e_v6, e_v7, e_v8, e_v9, e_v10, e_v11, e_v12, e_v13, e_v14, e_v15, e_v16, e_v17, e_v18, e_v19, e_v20, e_v21, e_v22, e_v23, e_v24, e_v25, e_v26, e_v27, e_v28, e_v29, e_v30, e_v31, e_v32, e_v33, e_v34, e_v35, e_v36, e_v37, e_v38, e_v39, e_ar0, e_ar1, e_gN, e_par, e_c, e_bin, e_un, e_and, e_or, e_ife, e_chain, e_tup, e_lst, e_bi, e_call, e_sl, e_no, e_so, e_nil, e_seq, e_expr, e_ret, e_retn, e_asg, e_if, e_brk, e_cnt, sz_0, sz_1, sz_2, sz_3, sz_4, sz_5, sz_6, sz_7, sz_8, sz_9, sz_10, sz_11, sz_12, sz_13, sz_14, sz_15, sz_16, sz_17, sz_18, sz_19, true_and, isi_non_int, isi_non_bool, isi_non_str, isi_non_tuple, isi_non_list, isi_non_dict, isi_bl_int, isi_bl_bool, isi_bl_str, isi_bl_tuple, isi_bl_list, isi_bl_dict, isi_int_int, isi_int_bool, isi_int_str, isi_int_tuple, isi_int_list, isi_int_dict, isi_str_int, isi_str_bool, isi_str_str, isi_str_tuple, isi_str_list, isi_str_dict, isi_tup_int, isi_tup_bool, isi_tup_str, isi_tup_tuple, isi_tup_list, isi_tup_dict, isi_fz_int, isi_fz_bool, isi_fz_str, isi_fz_tuple, isi_fz_list, isi_fz_dict])
/-! ### folding a script -/
def sl_folded : Spec := fun args L R => ∃ (ns : List Int) (m : Int), args = [.fz ns, .int m] ∧ 0 < m ∧ m < 1000 ∧ ∀ p L' (ms : List Int), L p = none → Le L L' → L' p = some (.l (ms.map PV.int)) → 2 ≤ ms.length → ms.length ≤ 1000 → R (.ref p) L'
/-! _law_folded(_law_script, _law_many): 0 _law_script, 1 _law_many, 2 _law_cells, 3 _law_k, 4 _law_cell -/
def l_folded_2 : WS := sRet (wBin oAdd (wVar 2) (wBin oMul (wLst [wC (.int 0)]) (wBin oSub (wC (.int 2)) (wBi gLen [wVar 2]))))
def l_folded_1f_0 : WS := sAsg (gS (wVar 2) (wBin oMod (wVar 3) (wVar 1))) (wBin oAdd (wBin oIx (wVar 2) (wBin oMod (wVar 3) (wVar 1))) (wBin oMul (wVar 4) (wBin oAdd (wVar 3) (wC (.int 2)))))
def l_folded_1 : WS := sSeq (sFor (iEn (wSl (wVar 0) (wSo (wVar 1)) (wSo (wC (.int 63))))) (gT 2 (gsL [gN 3, gN 4])) l_folded_1f_0) l_folded_2
def l_folded_0 : WS := sSeq (sAsg (gN 2) (wBi gList [wSl (wVar 0) wNo (wSo (wVar 1))])) l_folded_1
theorem enL_get {xs : List PV} {i : Nat} {x : PV} (h : (enL xs)[i]? = some x) : ∃ y, xs[i]? = some y ∧ x = .tup [.int i, y] := by
  unfold enL at h
  rw [List.getElem?_map] at h
  have hi : i < xs.length := by
    by_cases q : i < xs.length
    · exact q
    · rw [List.getElem?_eq_none (by rw [List.length_range]; omega)] at h
      cases h
  rw [List.getElem?_range hi] at h
  cases h
  exact ⟨xs[i], List.getElem?_eq_getElem hi, by show PV.tup [.int i, xs.getD i .non] = _; rw [List.getD_eq_getElem?_getD, List.getElem?_eq_getElem hi]; rfl⟩
theorem enL_len (xs : List PV) : (enL xs).length = xs.length := by unfold enL; rw [List.length_map, List.length_range]
theorem cut_to {α : Type} (xs : List α) (m : Nat) : cutP xs none (some (m : Int)) = xs.take m := by
  unfold cutP
  have h0 : HT.sIx xs.length 0 none = 0 := rfl
  have h1 : HT.sIx xs.length xs.length (some (m : Int)) = min m xs.length := HT.sIx_nat _ _ _
  rw [h0, h1, List.drop_zero, Nat.sub_zero]
  by_cases h : m ≤ xs.length
  · rw [Nat.min_eq_left h]
  · rw [Nat.min_eq_right (by omega), List.take_length, List.take_of_length_le (by omega)]
theorem cut_len {α : Type} (xs : List α) (lo hi : Nat) : cutP xs (some (lo : Int)) (some (hi : Int)) = (xs.drop lo).take (hi - lo) := by
  unfold cutP
  have h0 : HT.sIx xs.length 0 (some (lo : Int)) = min lo xs.length := HT.sIx_nat _ _ _
  have h1 : HT.sIx xs.length xs.length (some (hi : Int)) = min hi xs.length := HT.sIx_nat _ _ _
  rw [h0, h1]
  by_cases h : lo ≤ xs.length
  · rw [Nat.min_eq_left h]
    by_cases h' : hi ≤ xs.length
    · rw [Nat.min_eq_left h']
    · rw [Nat.min_eq_right (by omega), List.take_of_length_le (by rw [List.length_drop]; omega), List.take_of_length_le (by rw [List.length_drop]; omega)]
  · rw [List.drop_eq_nil_of_le (by omega), List.drop_eq_nil_of_le (by omega), List.take_nil, List.take_nil]
theorem map_take {ns : List Int} {m : Nat} : (ns.map PV.int).take m = (ns.take m).map PV.int := (List.map_take).symm
theorem set_int {ms : List Int} {j : Nat} {i : Int} : (ms.map PV.int).set j (.int i) = (ms.set j i).map PV.int := (List.map_set).symm

theorem e_rep {L : Sto} {R : PK} {p : Addr} {xs : List PV} {k : Int} (e : L p = some (.l xs)) (h : -(2 ^ 63) ≤ k ∧ k < 2 ^ 63 ∧ xs.length * k.toNat ≤ sizeLine ∧ newL L (List.replicate k.toNat xs).flatten R) : oMul (.ref p) (.int k) L R := ⟨xs, e, h⟩
theorem e_cat {L : Sto} {R : PK} {p q : Addr} {xs ys : List PV} (e : L p = some (.l xs)) (f : L q = some (.l ys)) (h : xs.length + ys.length ≤ sizeLine ∧ newL L (xs ++ ys) R) : oAdd (.ref p) (.ref q) L R := ⟨xs, ys, e, f, h⟩
theorem sizeL (n : Nat) (h : n ≤ 16777216) : n ≤ sizeLine := h
theorem ne_adr {L : Sto} {p q : Addr} {o : SO} (h : L p = none) (h' : L q = some o) : q ≠ p := fun e => by rw [e, h] at h'; cases h'
theorem Le.put {L La : Sto} (h : Le L La) {p : Addr} {o : SO} (hp : L p = none) : Le L (put La p o) := fun a u e => by
  rw [put_ne (ne_adr hp e)]
  exact h a u e
theorem folded_end {ns ms : List Int} {m : Int} {L l : Sto} {p : Addr} {z3 z4 : Option PV} {N : Nd} (hp : L p = none) (hle : Le L l) (e : l p = some (.l (ms.map PV.int))) (hl : ms.length ≤ 1000)
    (h : ∀ p L' (ms : List Int), L p = none → Le L L' → L' p = some (.l (ms.map PV.int)) → 2 ≤ ms.length → ms.length ≤ 1000 → N.rt (.ref p) L') : l_folded_2 [some (.fz ns), some (.int m), some (.ref p), z3, z4] l N := by
  unfold l_folded_2
  walk_at "ev"
  intro p1 h1
  have e1 := (Le.new (o := .l [.int 0]) h1) _ _ e
  rw [e_lenl e1]
  walk_at "ev"
  rw [List.length_map]
  refine e_rep put_same ⟨by omega, by omega, sizeL _ (by show 1 * _ ≤ _; omega), ?_⟩
  intro p2 h2
  have e2 := (Le.new (o := .l (List.replicate (2 - (ms.length : Int)).toNat [.int 0]).flatten) h2) _ _ e1
  refine e_cat e2 put_same ⟨sizeL _ (by rw [List.length_map, List.length_flatten, List.map_replicate, List.sum_replicate_nat]; show _ + _ * 1 ≤ _; omega), ?_⟩
  intro p3 h3
  have f1 : (List.replicate (2 - (ms.length : Int)).toNat [PV.int 0]).flatten = (List.replicate (2 - (ms.length : Int)).toNat (0 : Int)).map PV.int := by
    rw [List.map_replicate]
    generalize (2 - (ms.length : Int)).toNat = k
    induction k with
    | zero => rfl
    | succ k ih => rw [List.replicate_succ, List.flatten_cons, ih, List.replicate_succ]; rfl
  refine h p3 _ (ms ++ List.replicate (2 - (ms.length : Int)).toNat (0 : Int)) ?_ ?_ ?_ ?_ ?_
  · exact ((hle.trans (Le.new h1)).trans (Le.new h2)).free h3
  · exact ((hle.trans (Le.new h1)).trans (Le.new h2)).trans (Le.new h3)
  · rw [put_same, List.map_append, f1]
  · rw [List.length_append, List.length_replicate]; omega
  · rw [List.length_append, List.length_replicate]; omega
theorem ok_l_folded : ∀ args L R, args.length = 2 → sl_folded args L R → l_folded_0 (initE 5 args) L { nx := fun _ L' => R .non L', rt := R } := by
  rintro _ L R _ ⟨ns, m, rfl, hm, hm', h⟩
  obtain ⟨m, rfl⟩ := Int.eq_ofNat_of_zero_le (show 0 ≤ m by omega)
  unfold l_folded_0
  show sSeq _ _ [some (.fz ns), some (.int m), none, none, none] L _
  walk_at "ev"
  intro p0 h0
  rw [e_listl put_same]
  intro p1 h1
  rw [cut_to] at *
  unfold l_folded_1
  walk_at "ev"
  intro p2 h2
  rw [e_enK put_same, show ((63 : Int)) = ((63 : Nat) : Int) from rfl, cut_len]
  generalize hL2 : put (put (put L p0 _) p1 _) p2 _ = L2 at *
  have hp1 : L p1 = none := (Le.new h0).free h1
  have hp2 : L p2 = none := ((Le.new h0).trans (Le.new h1)).free h2
  have n12 : p2 ≠ p1 := fun e => by rw [e, put_same] at h2; cases h2
  have hle : Le L L2 := by rw [← hL2]; exact ((Le.new h0).trans (Le.new h1)).trans (Le.new h2)
  have e1 : L2 p1 = some (.l ((ns.take m).map PV.int)) := by rw [← hL2, put_ne n12.symm, put_same]
  have e2 : L2 p2 = some (.l (((ns.drop m).take (63 - m)).map PV.int)) := by rw [← hL2, put_same]
  refine loop_i (fun i e l => (∃ z3 z4, e = [some (.fz ns), some (.int m), some (.ref p1), z3, z4]) ∧ Le L l ∧ l p2 = L2 p2 ∧ ∃ ms : List Int, l p1 = some (.l (ms.map PV.int)) ∧ ms.length = (ns.take m).length)
    ⟨⟨_, _, rfl⟩, hle, rfl, _, e1, rfl⟩ ?_ ?_ ?_
  · rintro i e l ⟨_, _, h3, _⟩
    show l p2 = _
    rw [h3, e2]
  · rintro i x e l K hx ⟨⟨z3, z4, rfl⟩, hl, hp, ms, hms, hlen⟩ hK
    obtain ⟨y, hy, rfl⟩ := enL_get hx
    rw [List.getElem?_map] at hy
    cases hyy : ((ns.drop m).take (63 - m))[i]? with
    | none => rw [hyy] at hy; cases hy
    | some c =>
    rw [hyy] at hy
    cases hy
    have hi := (List.getElem?_eq_some_iff.mp hyy).1
    rw [List.length_take, List.length_drop] at hi
    rw [List.length_take, Nat.min_eq_left (by omega)] at hlen
    walk_at "ev"
    refine ⟨rfl, ?_⟩
    unfold l_folded_1f_0
    walk_at "ev"
    have hmm : ((i : Int)).fmod m = ((i % m : Nat) : Int) := by rw [fm_pos hm]; rfl
    have hlt : i % m < m := Nat.mod_lt _ (by omega)
    rw [hmm]
    refine ⟨by omega, ixl_nat hms (x := .int (ms[i % m]'(by omega))) (by rw [List.getElem?_map, List.getElem?_eq_getElem (by omega)]; rfl) ?_⟩
    walk_at "ev"
    refine ⟨mulR (by omega), by omega, ?_⟩
    rw [e_gSt (j := i % m) hms (by unfold ixN; rw [List.length_map, if_pos (by omega), if_pos (by omega), Int.toNat_natCast])]
    refine hK _ _ ⟨⟨_, _, rfl⟩, hl.put hp1, ?_, ms.set (i % m) (ms[i % m]'(by omega) + c * ((i : Int) + 2)), ?_, ?_⟩
    · rw [put_ne n12, hp]
    · rw [put_same, set_int]
    · rw [List.length_set, hlen, List.length_take, Nat.min_eq_left (by omega)]
  · rintro e l ⟨⟨z3, z4, rfl⟩, hl, hp, ms, hms, hlen⟩
    exact folded_end hp1 hl hms (by rw [hlen, List.length_take]; omega) h
/-! ### alike -/
def All2 (r : PV → PV → Prop) : List PV → List PV → Prop
  | [], [] => True
  | x :: xs, y :: ys => r x y ∧ All2 r xs ys
  | _, _ => False
def Sm (L : Sto) : Nat → PV → PV → Prop
  | 0, _, _ => False
  | n + 1, x, y => match x, y with
    | .non, .non => True
    | .bl a, .bl b => a = b
    | .int a, .int b => a = b
    | .str a, .str b => a = b ∧ SeqAt.shaped (.str a) = true
    | .tup xs, .tup ys => xs.length ≤ 1000000 ∧ All2 (Sm L n) xs ys
    | .ref a, .ref b => ∃ xs ys, L a = some (.l xs) ∧ L b = some (.l ys) ∧ xs.length ≤ 1000000 ∧ All2 (Sm L n) xs ys
    | _, _ => False
theorem All2.mono {r s : PV → PV → Prop} (h : ∀ x y, r x y → s x y) : ∀ {xs ys : List PV}, All2 r xs ys → All2 s xs ys
  | [], [], _ => trivial
  | _ :: _, _ :: _, ⟨a, b⟩ => ⟨h _ _ a, b.mono h⟩
  | [], _ :: _, h => h.elim
  | _ :: _, [], h => h.elim
theorem All2.len {r : PV → PV → Prop} : ∀ {xs ys : List PV}, All2 r xs ys → xs.length = ys.length
  | [], [], _ => rfl
  | _ :: _, _ :: _, ⟨_, b⟩ => by rw [List.length_cons, List.length_cons, b.len]
  | [], _ :: _, h => h.elim
  | _ :: _, [], h => h.elim
theorem All2.get {r : PV → PV → Prop} : ∀ {xs ys : List PV} {i : Nat} {x y : PV}, All2 r xs ys → xs[i]? = some x → ys[i]? = some y → r x y
  | _ :: _, _ :: _, 0, _, _, h, e, f => by cases e; cases f; exact h.1
  | _ :: _, _ :: _, i + 1, _, _, h, e, f => h.2.get (i := i) (by simpa using e) (by simpa using f)
  | [], _, _, _, _, _, e, _ => by simp at e
  | _ :: _, [], _, _, _, h, _, _ => h.elim
theorem All2.map {α : Type} {r : PV → PV → Prop} {f g : α → PV} (h : ∀ a, r (f a) (g a)) : ∀ xs : List α, All2 r (xs.map f) (xs.map g)
  | [] => trivial
  | a :: xs => ⟨h a, All2.map h xs⟩
theorem Sm.le {L L' : Sto} (hl : Le L L') : ∀ {n : Nat} {x y : PV}, Sm L n x y → Sm L' n x y
  | 0, _, _, h => h.elim
  | n + 1, x, y, h => by
    have ih := fun x y => Sm.le hl (n := n) (x := x) (y := y)
    cases x <;> cases y <;> first | exact h | skip
    · obtain ⟨xs, ys, h1, h2, h3, h4⟩ := h
      exact ⟨xs, ys, hl _ _ h1, hl _ _ h2, h3, h4.mono ih⟩
    · exact ⟨h.1, All2.mono ih h.2⟩
theorem Sm.fr {L : Sto} {n : Nat} {p q : Rat} (h : p = q) : Sm L (n + 2) (fr p) (fr q) := by
  subst h
  exact ⟨by show 2 ≤ 1000000; decide, rfl, rfl, trivial⟩
theorem zipL_get : ∀ {xs ys : List PV} {i : Nat} {z : PV}, (zipL xs ys)[i]? = some z → ∃ x y, xs[i]? = some x ∧ ys[i]? = some y ∧ z = .tup [x, y] := by
  intro xs ys i z h
  unfold zipL at h
  rw [List.getElem?_zipWith] at h
  cases hx : xs[i]? with
  | none => rw [hx] at h; cases h
  | some x =>
    cases hy : ys[i]? with
    | none => rw [hx, hy] at h; cases h
    | some y =>
      rw [hx, hy] at h
      cases h
      exact ⟨x, y, rfl, rfl, rfl⟩
def likeN (n : Nat) : Spec := fun args L R => ∃ x y, args = [x, y] ∧ Sm L n x y ∧ ∀ L', Le L L' → R (.bl true) L'
/-! _law_like(_law_found, _law_due): 0 _law_found, 1 _law_due, 2 _law_one, 3 _law_other -/
def l_like_3 (S : Spec) : WS := sRet (wAnd (wBi gIsi [wVar 0, wC (.ty "int")]) (wAnd (wUn oNot (wBi gIsi [wVar 0, wC (.ty "bool")])) (wBin oEq (wVar 0) (wVar 1))))
def l_like_2a_0 (S : Spec) : WS := sRet (wAnd (wBi gIsi [wVar 0, wC (.ty "bool")]) (wBin oEq (wVar 0) (wVar 1)))
def l_like_2 (S : Spec) : WS := sSeq (sIf (wBi gIsi [wVar 1, wC (.ty "bool")]) (l_like_2a_0 S) sNil) (l_like_3 S)
def l_like_1a_0 (S : Spec) : WS := sRet (wAnd (wBin oEq (wVar 0) (wVar 1)) (wBin oEq (wBi gIsi [wVar 0, wC (.ty "str")]) (wBi gIsi [wVar 1, wC (.ty "str")])))
def l_like_1 (S : Spec) : WS := sSeq (sIf (wOr (wBin oIs (wVar 1) (wC .non)) (wBi gIsi [wVar 1, wC (.ty "str")])) (l_like_1a_0 S) sNil) (l_like_2 S)
def l_like_0a_1 (S : Spec) : WS := sRet (wAnd (wBin oEq (wBi gLen [wVar 0]) (wBi gLen [wVar 1])) (wBi gAll [wComp [2, 3] (iZp (wVar 0) (wVar 1)) (gT 2 (gsN [2, 3])) (wC (.bl true)) (wCall S [wVar 2, wVar 3])]))
def l_like_0a_0a_0 (S : Spec) : WS := sRet (wC (.bl false))
def l_like_0a_0 (S : Spec) : WS := sSeq (sIf (wOr (wBin oNe (wBi gIsi [wVar 0, wC (.ty "list")]) (wBi gIsi [wVar 1, wC (.ty "list")])) (wBin oNe (wBi gIsi [wVar 0, wC (.ty "tuple")]) (wBi gIsi [wVar 1, wC (.ty "tuple")]))) (l_like_0a_0a_0 S) sNil) (l_like_0a_1 S)
def l_like_0 (S : Spec) : WS := sSeq (sIf (wBi gIsi [wVar 1, wTup [wC (.ty "list"), wC (.ty "tuple")]]) (l_like_0a_0 S) sNil) (l_like_1 S)


theorem e_isis {L : Sto} {R : PK} {x : PV} {cs : List PV} {b : Bool} (h : cs ≠ []) (hb : isiBs (tyName x L) cs = some b) : gIsi [x, .tup cs] L R = R (.bl b) L := by
  show (cs ≠ [] ∧ (match isiBs (tyName x L) cs with | some b => R (.bl b) L | none => False)) = _
  rw [hb]
  exact propext ⟨fun z => z.2, fun z => ⟨h, z⟩⟩
theorem isis_tup {L : Sto} {R : PK} {xs : List PV} : gIsi [.tup xs, .tup [.ty "list", .ty "tuple"]] L R = R (.bl true) L := e_isis (by simp) rfl
theorem isis_non {L : Sto} {R : PK} : gIsi [.non, .tup [.ty "list", .ty "tuple"]] L R = R (.bl false) L := e_isis (by simp) rfl
theorem isis_int {L : Sto} {R : PK} {i : Int} : gIsi [.int i, .tup [.ty "list", .ty "tuple"]] L R = R (.bl false) L := e_isis (by simp) rfl
theorem isis_bl {L : Sto} {R : PK} {i : Bool} : gIsi [.bl i, .tup [.ty "list", .ty "tuple"]] L R = R (.bl false) L := e_isis (by simp) rfl
theorem isis_str {L : Sto} {R : PK} {i : Str} : gIsi [.str i, .tup [.ty "list", .ty "tuple"]] L R = R (.bl false) L := e_isis (by simp) rfl
theorem isis_lst {L : Sto} {R : PK} {p : Addr} {xs : List PV} (h : L p = some (.l xs)) : gIsi [.ref p, .tup [.ty "list", .ty "tuple"]] L R = R (.bl true) L := e_isis (by simp) (by unfold tyName; simp only [h]; rfl)
theorem eqv_str (x : Str) : PyData.eqv (.str x) (.str x) = true := by unfold PyData.eqv; simp
theorem oEq_ss {L : Sto} {R : PK} {x : Str} (hx : SeqAt.shaped (.str x) = true) (h : R (.bl true) L) : oEq (.str x) (.str x) L R := ⟨_, _, .str x, .str x, hx, hx, by rw [eqv_str]; exact h⟩
theorem oEq_nn {L : Sto} {R : PK} (h : R (.bl true) L) : oEq .non .non L R := ⟨_, _, .non, .non, rfl, rfl, h⟩
theorem like_comp {keep : Sto → Prop} {n : Nat} {L : Sto} {x y : PV} {xs ys : List PV} {R : List PV → Sto → Prop} (hk : ∀ l, Le L l → keep l) (h : All2 (Sm L n) xs ys) (hn : xs.length ≤ 1000000)
    (hR : ∀ l, Le L l → R (List.replicate xs.length (.bl true)) l) : compW keep (gT 2 (gsN [2, 3])) (wC (.bl true)) (wCall (likeN n) [wVar 2, wVar 3]) [some x, some y, none, none] (zipL xs ys) [] L R := by
  have hz : (zipL xs ys).length = xs.length := by unfold zipL; rw [List.length_zipWith, h.len, Nat.min_self]
  refine comp_i (fun i acc l => Le L l ∧ acc = List.replicate i (.bl true)) ⟨.refl, rfl⟩ (fun i a l q => hk l q.1) (by rw [hz]; show _ < 16777216; omega) ?_ ?_
  · rintro i z acc l K hx ⟨hl, rfl⟩ ha hK
    obtain ⟨u, v, hu, hv, rfl⟩ := zipL_get hx
    walk_at "ev"
    refine ⟨rfl, u, v, rfl, (h.get hu hv).le hl, fun l' hl' => ⟨?_, ?_⟩⟩
    · rw [List.length_replicate]
      have := (List.getElem?_eq_some_iff.mp hu).1
      show i < 16777216
      omega
    · refine hK _ _ (by rw [List.length_append, List.length_replicate]; exact Nat.le_refl _) ⟨hl.trans hl', ?_⟩
      rw [List.replicate_succ']
  · rintro acc l ⟨hl, rfl⟩
    rw [hz]
    exact hR l hl
theorem all_true {L : Sto} {R : PK} {p : Addr} {n : Nat} (h : R (.bl true) (put L p (.l (List.replicate n (.bl true))))) : gAll [.ref p] (put L p (.l (List.replicate n (.bl true)))) R := by
  refine ⟨List.replicate n true, by rw [put_same, List.map_replicate], ?_⟩
  have : (List.replicate n true).all id = true := by
    rw [List.all_eq_true]
    intro b hb
    exact (List.mem_replicate.mp hb).2
  rw [this]
  exact h
theorem ok_l_like (n : Nat) : ∀ args L R, args.length = 2 → likeN (n + 1) args L R → l_like_0 (likeN n) (initE 4 args) L { nx := fun _ L' => R .non L', rt := R } := by
  rintro _ L R hl0 ⟨x, y, rfl, h, k⟩
  clear hl0
  unfold l_like_0
  show sSeq _ _ [some x, some y, none, none] L _
  cases x <;> cases y <;> first | exact h.elim | skip
  · walk_at "ev"
    rw [isis_non]
    walk_at "ev"
    unfold l_like_1 l_like_1a_0
    walk_at "ev"
    refine oEq_nn ?_
    walk_at "ev"
    exact k L .refl
  · rename_i a b
    have h : a = b := h
    subst h
    walk_at "ev"
    rw [isis_bl]
    walk_at "ev"
    unfold l_like_1 l_like_1a_0
    walk_at "ev"
    unfold l_like_2 l_like_2a_0
    walk_at "ev"
    exact k L .refl
  · rename_i a b
    have h : a = b := h
    subst h
    walk_at "ev"
    rw [isis_int]
    walk_at "ev"
    unfold l_like_1 l_like_1a_0
    walk_at "ev"
    unfold l_like_2 l_like_2a_0
    walk_at "ev"
    unfold l_like_3
    walk_at "ev"
    exact k L .refl
  · rename_i a b
    obtain ⟨h, hx⟩ : a = b ∧ SeqAt.shaped (.str a) = true := h
    subst h
    walk_at "ev"
    rw [isis_str]
    walk_at "ev"
    unfold l_like_1 l_like_1a_0
    walk_at "ev"
    refine oEq_ss hx ?_
    walk_at "ev"
    exact k L .refl
  · rename_i a b
    obtain ⟨xs, ys, ea, eb, hn, h⟩ := h
    walk_at "ev"
    rw [isis_lst eb]
    walk_at "ev"
    unfold l_like_0a_0 l_like_0a_0a_0
    walk_at "ev"
    rw [isi_rl_list ea, isi_rl_list eb]
    walk_at "ev"
    rw [isi_rl_tuple ea, isi_rl_tuple eb]
    walk_at "ev"
    unfold l_like_0a_1
    walk_at "ev"
    rw [e_lenl ea, e_lenl eb, h.len]
    walk_at "ev"
    rw [e_zpK ea eb]
    refine like_comp (fun l hl => ⟨hl _ _ ea, hl _ _ eb⟩) h hn fun l hl => ?_
    intro p hp
    exact all_true (k _ (hl.trans (Le.new hp)))
  · rename_i xs ys
    obtain ⟨hn, h⟩ := h
    walk_at "ev"
    rw [isis_tup]
    walk_at "ev"
    unfold l_like_0a_0 l_like_0a_0a_0
    walk_at "ev"
    unfold l_like_0a_1
    walk_at "ev"
    rw [h.len]
    walk_at "ev"
    refine like_comp (fun l hl => trivial) h hn fun l hl => ?_
    intro p hp
    exact all_true (k _ (hl.trans (Le.new hp)))
/-! ### chance fractions -/
def sl_fraction_by : Spec := fun args L R => ∃ (b : Addr) (n : Int), args = [.ref b] ∧ Bx b n L ∧ n < 1152921504606840000 ∧ ∀ q L', Sz 14 q → Bx b (n + 6) L' → LeB b L L' → R (fr q) L'
/-! _law_fraction_by(_law_box): 0 _law_box, 1 _law_way, 2 _law_hand -/
def l_fraction_by_4 : WS := sRet (wCall sl_lowest [wBin oMul (wVar 2) (wCall sl_take [wVar 0, wC (.int 10000)]), wBin oAdd (wC (.int 1)) (wCall sl_take [wVar 0, wBin oIx (wLst [wC (.int 65), wC (.int 999)]) (wBin oSub (wVar 1) (wC (.int 4)))])])
def l_fraction_by_3a_0 : WS := sRet (wCall sl_lowest [wBin oMul (wVar 2) (wC (.int 9999)), wBin oSub (wC (.int 999)) (wCall sl_take [wVar 0, wC (.int 3)])])
def l_fraction_by_3 : WS := sSeq (sIf (wBin oEq (wVar 1) (wC (.int 3))) l_fraction_by_3a_0 sNil) l_fraction_by_4
def l_fraction_by_2a_0 : WS := sRet (wCall sl_lowest [wBin oMul (wVar 2) (wCall sl_take [wVar 0, wC (.int 20)]), wBin oAdd (wC (.int 1)) (wCall sl_take [wVar 0, wC (.int 12)])])
def l_fraction_by_2 : WS := sSeq (sIf (wBin oEq (wVar 1) (wC (.int 2))) l_fraction_by_2a_0 sNil) l_fraction_by_3
def l_fraction_by_1a_0 : WS := sRet (wTup [wBin oMul (wBin oMul (wVar 2) (wCall sl_take [wVar 0, wC (.int 12)])) (wVar 1), wC (.int 1)])
def l_fraction_by_1 : WS := sSeq (sIf (wBin oLt (wVar 1) (wC (.int 2))) l_fraction_by_1a_0 sNil) l_fraction_by_2
def l_fraction_by_0 : WS := sSeq (sPar [1, 2] [wCall sl_take [wVar 0, wC (.int 6)], wBin oSub (wC (.int 1)) (wBin oMul (wC (.int 2)) (wCall sl_take [wVar 0, wC (.int 2)]))]) l_fraction_by_1
theorem fr_int {n : Int} : PV.tup [.int n, .int 1] = fr (n : Rat) := rfl
theorem denS {d : Int} (h : d.natAbs < 2 ^ 64) : DenOk d := DenOk.of h (by decide)
theorem szd {n d : Int} (hd : d ≠ 0) (h1 : n.natAbs < 16384) (h2 : d.natAbs < 16384) : Sz 14 ((n : Rat) / (d : Rat)) := Sz.of hd h1 h2
theorem LeB.le {b : Addr} {L La : Sto} (h : LeB b L La) {p : Addr} {o : SO} (hp : La p = none) : LeB b L (Mp.put La p o) := fun a u n e => by
  rw [put_ne (ne_adr hp (h a u n e))]
  exact h a u n e
theorem Bx.new {b p : Addr} {n : Int} {L : Sto} {o : SO} (h : Bx b n L) (hp : L p = none) : Bx b n (put L p o) := h.le (Le.new hp)
theorem hand_rng {r : Int} (h0 : 0 ≤ r) (h1 : r < 2) : 1 - 2 * r = 1 ∨ 1 - 2 * r = -1 := by omega
theorem hand_abs {h r : Int} {c : Nat} (hh : h = 1 ∨ h = -1) (h0 : 0 ≤ r) (h1 : r < c) : (h * r).natAbs < c := by
  rcases hh with rfl | rfl <;> omega
theorem ok_l_fraction_by : ∀ args L R, args.length = 1 → sl_fraction_by args L R → l_fraction_by_0 (initE 3 args) L { nx := fun _ L' => R .non L', rt := R } := by
  rintro _ L R _ ⟨b, n, rfl, hb, hn, h⟩
  unfold l_fraction_by_0
  show sSeq _ _ [some (.ref b), none, none] L _
  walk_at "ev"
  refine ⟨b, 6, n, rfl, hb, by omega, by decide, denS (by decide), fun w L1 w0 w1 b1 l1 => ⟨b, 2, _, rfl, b1, by omega, by decide, denS (by decide), fun r L2 r0 r1 b2 l2 => ⟨mulL (by decide), ?_⟩⟩⟩
  walk_at "ev"
  have l2 := l1.trans l2
  have hh := hand_rng r0 r1
  generalize hhd : 1 - 2 * r = hd at *
  unfold l_fraction_by_1 l_fraction_by_1a_0
  walk_at "ev"
  split
  · refine ⟨b, 12, _, rfl, b2, by omega, by decide, denS (by decide), fun s L3 s0 s1 b3 l3 => ⟨mulL (by omega), mulL (by rcases hh with rfl | rfl <;> omega), ?_⟩⟩
    walk_at "ev"
    rw [fr_int]
    refine h _ _ (Sz.int ?_ (by decide)) (b3.mono (by omega)) (l2.trans l3)
    show _ < 16384
    have e1 := hand_abs (c := 12) hh s0 (by omega)
    have e2 : w = 0 ∨ w = 1 := by omega
    rcases e2 with rfl | rfl <;> omega
  unfold l_fraction_by_2 l_fraction_by_2a_0
  walk_at "ev"
  split
  · refine ⟨b, 20, _, rfl, b2, by omega, by decide, denS (by decide), fun s L3 s0 s1 b3 l3 => ⟨mulL (by omega), b, 12, _, rfl, b3, by omega, by decide, denS (by decide), fun t L4 t0 t1 b4 l4 => ⟨_, _, rfl, by omega, denS ?_, ?_⟩⟩⟩
    · have : (2 : Nat) ^ 64 = 18446744073709551616 := by decide
      omega
    · exact h _ _ (szd (by omega) (by have := hand_abs (c := 20) hh s0 (by omega); omega) (by omega)) (b4.mono (by omega)) ((l2.trans l3).trans l4)
  unfold l_fraction_by_3 l_fraction_by_3a_0
  walk_at "ev"
  split
  · refine ⟨mulR (by decide), b, 3, _, rfl, b2, by omega, by decide, denS (by decide), fun t L4 t0 t1 b4 l4 => ⟨_, _, rfl, by omega, denS ?_, ?_⟩⟩
    · have : (2 : Nat) ^ 64 = 18446744073709551616 := by decide
      omega
    · exact h _ _ (szd (by omega) (by rcases hh with rfl | rfl <;> omega) (by omega)) (b4.mono (by omega)) (l2.trans l4)
  unfold l_fraction_by_4
  walk_at "ev"
  refine ⟨b, 10000, _, rfl, b2, by omega, by decide, denS (by decide), fun s L3 s0 s1 b3 l3 => ⟨mulL (by omega), fun p hp => ?_⟩⟩
  have b3' := b3.new (o := .l [.int 65, .int 999]) hp
  have l3' := (l2.trans l3).le (o := .l [.int 65, .int 999]) hp
  walk_at "ev"
  have hw : w - 4 = 0 ∨ w - 4 = 1 := by omega
  have fin : ∀ m : Int, 0 < m → m ≤ 999 → sl_take [.ref b, .int m] (put L3 p (.l [.int 65, .int 999])) fun x La => sl_lowest [.int (hd * s), .int (1 + match x with | .int i => i | _ => 0)] La R := fun m m0 m1 => by
    refine ⟨b, m, _, rfl, b3', by omega, m0, denS ?_, fun t L4 t0 t1 b4 l4 => ⟨_, _, rfl, ?_, denS ?_, ?_⟩⟩
    · have : (2 : Nat) ^ 64 = 18446744073709551616 := by decide
      omega
    · show (1 : Int) + t ≠ 0
      omega
    · have : (2 : Nat) ^ 64 = 18446744073709551616 := by decide
      show ((1 : Int) + t).natAbs < _
      omega
    · refine h _ _ (szd ?_ (by have := hand_abs (c := 10000) hh s0 (by omega); omega) ?_) (b4.mono (by omega)) (l3'.trans l4)
      · show (1 : Int) + t ≠ 0
        omega
      · show ((1 : Int) + t).natAbs < _
        omega
  have conv : ∀ m : Int, 0 < m → m ≤ 999 → sl_take [.ref b, .int m] (put L3 p (.l [.int 65, .int 999])) fun x La => oAdd (.int 1) x La fun x La => sl_lowest [.int (hd * s), x] La R := fun m m0 m1 => by
    obtain ⟨b', m', n', e, q1, q2, q3, q4, q5⟩ := fin m m0 m1
    cases e
    exact ⟨b, m, n', rfl, q1, q2, q3, q4, fun r L' a1 a2 a3 a4 => q5 r L' a1 a2 a3 a4⟩
  rcases hw with hw | hw
  · rw [hw, ixl0 put_same]
    exact conv 65 (by decide) (by decide)
  · rw [hw, ixl1 put_same]
    exact conv 999 (by decide) (by decide)
/-! ### is_number, is_fraction -/
def numB (L : Sto) : PV → Option Bool
  | .int _ => some true
  | .bl _ | .non | .str _ | .tup _ | .fz _ => some false
  | .ref a => (L a).map fun _ => false
  | .ty _ => none
def s_is_number : Spec := fun args L R => ∃ x b, args = [x] ∧ numB L x = some b ∧ R (.bl b) L
/-! is_number(thing): 0 thing -/
def d_is_number_0 : WS := sRet (wAnd (wBi gIsi [wVar 0, wC (.ty "int")]) (wUn oNot (wBi gIsi [wVar 0, wC (.ty "bool")])))
theorem isi_rd {L : Sto} {R : PK} {p : Addr} {o : SO} (h : L p = some o) : gIsi [.ref p, .ty "int"] L R = R (.bl false) L := by
  cases o
  · rw [isi_rl_int h]
  · rw [isi_rd_int h]
theorem ok_is_number : ∀ args L R, args.length = 1 → s_is_number args L R → d_is_number_0 (initE 1 args) L { nx := fun _ L' => R .non L', rt := R } := by
  rintro _ L R hl0 ⟨x, b, rfl, hb, h⟩
  clear hl0
  unfold d_is_number_0
  show sRet _ [some x] L _
  cases x <;> first | (cases hb; walk_at "ev"; exact h) | skip
  · rename_i a
    have hb : (L a).map (fun _ => false) = some b := hb
    cases e : L a with
    | none => rw [e] at hb; cases hb
    | some o =>
      rw [e] at hb
      cases hb
      walk_at "ev"
      rw [isi_rd e]
      exact h
  · cases hb
/-! is_fraction, of anything -/
def fracB (L : Sto) : PV → Option Bool
  | .tup [a, b] => match numB L a, numB L b, a, b with
    | some false, _, _, _ => some false
    | some true, some false, _, _ => some false
    | some true, some true, .int n, .int d => some (decide (1 ≤ d) && decide (Nat.gcd n.natAbs d.natAbs = 1))
    | _, _, _, _ => none
  | .tup _ => some false
  | .ref p => (L p).map fun _ => false
  | .ty _ => none
  | _ => some false
def s_is_fraction : Spec := fun args L R => ∃ x b, args = [x] ∧ fracB L x = some b ∧ R (.bl b) L
/-! is_fraction(thing): 0 thing -/
def d_is_fraction_1 : WS := sRet (wAnd (wBin oGe (wBin oIx (wVar 0) (wC (.int 1))) (wC (.int 1))) (wBin oEq (wCall s_divisor_of [wBi gAbs [wBin oIx (wVar 0) (wC (.int 0))], wBin oIx (wVar 0) (wC (.int 1))]) (wC (.int 1))))
def d_is_fraction_0a_0 : WS := sRet (wC (.bl false))
def d_is_fraction_0 : WS := sSeq (sIf (wOr (wUn oNot (wBi gIsi [wVar 0, wC (.ty "tuple")])) (wOr (wBin oNe (wBi gLen [wVar 0]) (wC (.int 2))) (wOr (wUn oNot (wCall s_is_number [wBin oIx (wVar 0) (wC (.int 0))])) (wUn oNot (wCall s_is_number [wBin oIx (wVar 0) (wC (.int 1))]))))) d_is_fraction_0a_0 sNil) d_is_fraction_1
theorem fracB_fr {L : Sto} {q : Rat} : fracB L (fr q) = some true := by
  show some (decide ((1 : Int) ≤ q.den) && decide (Nat.gcd q.num.natAbs ((q.den : Int)).natAbs = 1)) = some true
  have h1 : (1 : Int) ≤ q.den := den_pos q
  have h2 : Nat.gcd q.num.natAbs ((q.den : Int)).natAbs = 1 := q.reduced
  rw [decide_eq_true h1, decide_eq_true h2]; rfl
theorem isi_rt {L : Sto} {R : PK} {p : Addr} {o : SO} (h : L p = some o) : gIsi [.ref p, .ty "tuple"] L R = R (.bl false) L := by
  cases o
  · rw [isi_rl_tuple h]
  · rw [isi_rd_tuple h]
theorem ok_is_fraction : ∀ args L R, args.length = 1 → s_is_fraction args L R → d_is_fraction_0 (initE 1 args) L { nx := fun _ L' => R .non L', rt := R } := by
  rintro _ L R hl0 ⟨x, b, rfl, hb, h⟩
  clear hl0
  unfold d_is_fraction_0 d_is_fraction_0a_0
  show sSeq _ _ [some x] L _
  cases x with
  | non => cases hb; walk_at "ev"; exact h
  | bl u => cases hb; walk_at "ev"; exact h
  | int u => cases hb; walk_at "ev"; exact h
  | str u => cases hb; walk_at "ev"; exact h
  | fz u => cases hb; walk_at "ev"; exact h
  | ty u => cases hb
  | ref p =>
    have hb : (L p).map (fun _ => false) = some b := hb
    cases e : L p with
    | none => rw [e] at hb; cases hb
    | some o =>
      rw [e] at hb
      cases hb
      walk_at "ev"
      rw [isi_rt e]
      walk_at "ev"
      exact h
  | tup xs =>
    match xs, hb with
    | [], hb => cases hb; walk_at "ev"; exact h
    | [a], hb => cases hb; walk_at "ev"; exact h
    | a :: c :: d :: r, hb =>
      cases hb
      walk_at "ev"
      rw [if_neg (by rw [List.length_cons, List.length_cons, List.length_cons]; omega)]
      exact h
    | [a, c], hb =>
      walk_at "ev"
      rw [if_pos (show (([a, c] : List PV).length : Int) = 2 from rfl)]
      cases ha : numB L a with
      | none => simp only [fracB, ha] at hb; cases hb
      | some u =>
      refine ⟨a, u, rfl, ha, ?_⟩
      cases u with
      | false =>
        simp only [fracB, ha] at hb
        cases hb
        walk_at "ev"
        exact h
      | true =>
      walk_at "ev"
      cases hc : numB L c with
      | none => simp only [fracB, ha, hc] at hb; cases hb
      | some u =>
      refine ⟨c, u, rfl, hc, ?_⟩
      cases u with
      | false =>
        simp only [fracB, ha, hc] at hb
        cases hb
        walk_at "ev"
        exact h
      | true =>
        have ia : ∃ n, a = .int n := by cases a <;> first | exact ⟨_, rfl⟩ | (simp [numB] at ha)
        have ic : ∃ n, c = .int n := by cases c <;> first | exact ⟨_, rfl⟩ | (simp [numB] at hc)
        obtain ⟨n, rfl⟩ := ia
        obtain ⟨d, rfl⟩ := ic
        walk_at "ev"
        have hb : some (decide (1 ≤ d) && decide (Nat.gcd n.natAbs d.natAbs = 1)) = some b := hb
        cases hb
        unfold d_is_fraction_1
        walk_at "ev"
        by_cases hd : 1 ≤ d
        · rw [if_pos hd]
          obtain ⟨m, rfl⟩ := Int.eq_ofNat_of_zero_le (show 0 ≤ d by omega)
          refine ⟨n.natAbs, m, rfl, ?_⟩
          walk_at "ev"
          rw [decide_eq_true hd, Bool.true_and] at h
          have e : decide (((Nat.gcd n.natAbs m : Nat) : Int) = 1) = decide (Nat.gcd n.natAbs ((m : Int)).natAbs = 1) := decide_eq_decide.mpr ⟨fun z => by rw [Int.natAbs_natCast]; omega, fun z => by rw [Int.natAbs_natCast] at z; omega⟩
          rw [e]
          exact h
        · rw [if_neg hd]
          rw [decide_eq_false hd, Bool.false_and] at h
          exact h
end Mp
namespace Mp
open PySem PySem.Spec PyProof.Rows L2
local macro_rules | `(tactic| walk_at "ev") => `(tactic| try simp only [if_true, if_false, decide_true, decide_false, Bool.not_true, Bool.not_false, Bool.false_eq_true, reduceCtorEq, e_gS, e_gT, e_gsL0, e_gsL1, e_gsN0, e_gsN1, e_r1, e_r1K, e_r2, e_r2K, e_any, e_lsT, e_zpT, e_enT, e_en, e_zp, e_z3, e_revt, e_tru, tru_bl, tru_int, tru_non, tru_tup, e_disp, e_prs0, e_prs1, List.zip_nil_left, e_rv, e_for, e_comp, e_mt, e_wipe0, e_wipe1, fr0, fr1, ix0, ix1, ix2, ix3, bIf_t, bIf_f, bIf_d, bIf_n, oEq_ii, oNe_ii, oEq_bb, oNe_bb, List.set_cons_zero, List.set_cons_succ, List.zip_cons_cons, List.zip_nil_right, List.foldl_cons, List.foldl_nil, e_add, e_addI, e_addt, e_addl, e_sub, e_mul, e_div, e_mod, e_pow, e_oI, e_neg, e_not, e_isn, e_isnn, e_isb, e_isnb, e_isN_non, e_isN_bl, e_isN_int, e_isN_tup, e_isN_ref, e_isN_fz, e_isN_fr, e_isN_str, e_lent, e_lenz, e_abs, e_int, e_intb, e_dvm, e_min, e_max, e_listt, e_listz, e_tupt, e_str, gv_0, gv_s, e_slt, e_slz, e_v0, e_v1, e_v2, e_v3, e_v4, e_v5, e_v6, e_v7, e_v8, e_v9, e_v10, e_v11, e_v12, e_v13, e_v14, e_v15, e_v16, e_v17, e_v18, e_v19, e_v20, e_v21, e_v22, e_v23, e_v24, e_v25, e_v26, e_v27, e_v28, e_v29, e_v30, e_v31, e_v32, e_v33, e_v34, e_v35, e_v36, e_v37, e_v38, e_v39, e_ar0, e_ar1, e_gN, e_par, e_c, e_bin, e_un, e_and, e_or, e_ife, e_chain, e_tup, e_lst, e_bi, e_call, e_sl, e_no, e_so, e_nil, e_seq, e_expr, e_ret, e_retn, e_asg, e_if, e_brk, e_cnt, sz_0, sz_1, sz_2, sz_3, sz_4, sz_5, sz_6, sz_7, sz_8, sz_9, sz_10, sz_11, sz_12, sz_13, sz_14, sz_15, sz_16, sz_17, sz_18, sz_19, true_and, isi_non_int, isi_non_bool, isi_non_str, isi_non_tuple, isi_non_list, isi_non_dict, isi_bl_int, isi_bl_bool, isi_bl_str, isi_bl_tuple, isi_bl_list, isi_bl_dict, isi_int_int, isi_int_bool, isi_int_str, isi_int_tuple, isi_int_list, isi_int_dict, isi_str_int, isi_str_bool, isi_str_str, isi_str_tuple, isi_str_list, isi_str_dict, isi_tup_int, isi_tup_bool, isi_tup_str, isi_tup_tuple, isi_tup_list, isi_tup_dict, isi_fz_int, isi_fz_bool, isi_fz_str, isi_fz_tuple, isi_fz_list, isi_fz_dict])
/-! ### roots -/
theorem pow4k {n : Nat} (h : n < 2 ^ 4000) : ((n : Int)).natAbs < 2 ^ 4000 := by rw [Int.natAbs_natCast]; exact h
def s_whole_root : Spec := fun args L R => ∃ n b : Nat, args = [.int n] ∧ n < 2 ^ b ∧ b ≤ 60000000 ∧ ∀ r : Nat, r * r ≤ n → n < (r + 1) * (r + 1) → R (.int r) L
/-! whole_root(number): 0 number, 1 low, 2 high, 3 middle -/
def d_whole_root_2 : WS := sRet (wVar 1)
def d_whole_root_1w_1a_0 : WS := sAsg (gN 1) (wVar 3)
def d_whole_root_1w_1b_0 : WS := sAsg (gN 2) (wVar 3)
def d_whole_root_1w_1 : WS := sIf (wBin oLe (wBin oMul (wVar 3) (wVar 3)) (wVar 0)) d_whole_root_1w_1a_0 d_whole_root_1w_1b_0
def d_whole_root_1w_0 : WS := sSeq (sAsg (gN 3) (wBin oDiv (wBin oAdd (wVar 1) (wVar 2)) (wC (.int 2)))) d_whole_root_1w_1
def d_whole_root_1 : WS := sSeq (sWhile (wBin oGt (wBin oSub (wVar 2) (wVar 1)) (wC (.int 1))) d_whole_root_1w_0) d_whole_root_2
def d_whole_root_0 : WS := sSeq (sPar [1, 2] [wC (.int 0), wBin oAdd (wVar 0) (wC (.int 1))]) d_whole_root_1
/-! root_of(one): 0 one, 1 top, 2 bottom -/
def d_root_of_3 : WS := sRet (wTup [wVar 1, wVar 2])
def d_root_of_2a_0 : WS := sRet (wC .non)
def d_root_of_2 : WS := sSeq (sIf (wOr (wBin oNe (wBin oMul (wVar 1) (wVar 1)) (wBin oIx (wVar 0) (wC (.int 0)))) (wBin oNe (wBin oMul (wVar 2) (wVar 2)) (wBin oIx (wVar 0) (wC (.int 1))))) d_root_of_2a_0 sNil) d_root_of_3
def d_root_of_1 : WS := sSeq (sPar [1, 2] [wCall s_whole_root [wBin oIx (wVar 0) (wC (.int 0))], wCall s_whole_root [wBin oIx (wVar 0) (wC (.int 1))]]) d_root_of_2
def d_root_of_0a_0 : WS := sRet (wC .non)
def d_root_of_0 : WS := sSeq (sIf (wBin oLt (wBin oIx (wVar 0) (wC (.int 0))) (wC (.int 0))) d_root_of_0a_0 sNil) d_root_of_1
theorem noPl2 {i : Int} : NoPl i 2 := noPlS (by decide)
theorem half_nat (a : Nat) : ((a : Int)).fdiv 2 = ((a / 2 : Nat) : Int) := by rw [fd_pos (by decide)]; rfl
theorem mulN {a b c : Nat} (ha : a < 2 ^ c) (hb : b < 2 ^ c) (h : c ≤ 60000000) : MulOk a b := mulOk c c (by rw [Int.natAbs_natCast]; exact ha) (by rw [Int.natAbs_natCast]; exact hb) (by omega)
theorem ok_whole_root : ∀ args L R, args.length = 1 → s_whole_root args L R → d_whole_root_0 (initE 4 args) L { nx := fun _ L' => R .non L', rt := R } := by
  rintro _ L R _ ⟨n, b, rfl, hb, hb', h⟩
  unfold d_whole_root_0
  show sSeq _ _ [some (.int n), none, none, none] L _
  walk_at "ev"
  unfold d_whole_root_1
  walk_at "ev"
  refine ⟨fun m env L' => L' = L ∧ ∃ (lo hi : Nat) (z : Option PV), env = [some (.int n), some (.int lo), some (.int hi), z] ∧ lo * lo ≤ n ∧ n < hi * hi ∧ hi ≤ n + 1 ∧ lo < hi ∧ m = hi - lo, ⟨n + 1, rfl, 0, n + 1, none, rfl, Nat.zero_le _, ?_, Nat.le_refl _, by omega, by omega⟩, ?_⟩
  · exact Nat.lt_of_lt_of_le (Nat.lt_succ_self n) (Nat.le_mul_of_pos_left _ (by omega))
  rintro m env _ ⟨rfl, lo, hi, z, rfl, h1, h2, h3, h4, rfl⟩
  walk_at "ev"
  split
  · rename_i hc
    unfold d_whole_root_1w_0
    walk_at "ev"
    refine ⟨by decide, noPl2, ?_⟩
    rw [← Int.natCast_add, half_nat]
    unfold d_whole_root_1w_1 d_whole_root_1w_1a_0 d_whole_root_1w_1b_0
    walk_at "ev"
    have hm : (lo + hi) / 2 < 2 ^ b := by omega
    refine ⟨mulN hm hm hb', ?_⟩
    have ec : ((((lo + hi) / 2 : Nat) : Int) * (((lo + hi) / 2 : Nat) : Int) ≤ (n : Int)) ↔ (lo + hi) / 2 * ((lo + hi) / 2) ≤ n := by
      rw [← Int.natCast_mul]; omega
    split
    · rename_i hq
      exact ⟨hi - (lo + hi) / 2, by omega, (lo + hi) / 2, hi, _, rfl, ec.mp hq, h2, h3, by omega, rfl⟩
    · rename_i hq
      exact ⟨(lo + hi) / 2 - lo, by omega, lo, (lo + hi) / 2, _, rfl, h1, Nat.lt_of_not_le fun z => hq (ec.mpr z), by omega, by omega, rfl⟩
  · rename_i hc
    unfold d_whole_root_2
    walk_at "ev"
    have e : hi = lo + 1 := by omega
    subst e
    exact h lo h1 h2
/-! a square of fractions -/
theorem sq_num (r : Rat) : (r * r).num = r.num * r.num ∧ (r * r).den = r.den * r.den := by
  have hc : Nat.Coprime (r.num * r.num).natAbs (r.den * r.den) := by
    rw [Int.natAbs_mul]
    exact Nat.Coprime.mul_left (Nat.Coprime.mul_right r.reduced r.reduced) (Nat.Coprime.mul_right r.reduced r.reduced)
  have e : (⟨r.num * r.num, r.den * r.den, Nat.mul_ne_zero r.den_nz r.den_nz, hc⟩ : Rat) = r * r := by
    have := num_den ⟨r.num * r.num, r.den * r.den, Nat.mul_ne_zero r.den_nz r.den_nz, hc⟩
    rw [this]
    show ((r.num * r.num : Int) : Rat) / (((r.den * r.den : Nat) : Int) : Rat) = _
    rw [Int.natCast_mul]
    exact mul_eq r r
  rw [← e]
  exact ⟨rfl, rfl⟩
/-- what root_of tells of q -/
def RootIs (q : Rat) (x : PV) : Prop := (x = .non ∧ ∀ r : Rat, r * r ≠ q) ∨ ∃ r : Rat, x = fr r ∧ 0 ≤ r ∧ r * r = q
theorem root_mk {q : Rat} {a b : Nat} (ha : (a : Int) * a = q.num) (hb : b * b = q.den) : ∃ r : Rat, .tup [.int a, .int b] = fr r ∧ 0 ≤ r ∧ r * r = q := by
  have hb0 : b ≠ 0 := fun e => q.den_nz (by rw [← hb, e])
  have hc : Nat.Coprime a b := by
    have := q.reduced
    rw [← ha, ← hb, Int.natAbs_mul, Int.natAbs_natCast] at this
    have h1 : Nat.gcd a b ∣ Nat.gcd (a * a) (b * b) := Nat.dvd_gcd (Nat.dvd_trans (Nat.gcd_dvd_left _ _) (Nat.dvd_mul_left _ _)) (Nat.dvd_trans (Nat.gcd_dvd_right _ _) (Nat.dvd_mul_left _ _))
    rw [show Nat.gcd (a * a) (b * b) = 1 from this] at h1
    exact Nat.dvd_one.mp h1
  refine ⟨⟨a, b, hb0, hc⟩, rfl, ?_, ?_⟩
  · rw [← Rat.num_nonneg]
    exact Int.natCast_nonneg a
  · have h := sq_num ⟨a, b, hb0, hc⟩
    exact Rat.ext (h.1.trans ha) (h.2.trans hb)
theorem root_no {q r : Rat} (h : r * r = q) : q.num = r.num * r.num ∧ q.den = r.den * r.den := by rw [← h]; exact sq_num r
theorem sqrt_uniq {a n r : Nat} (h1 : a * a ≤ n) (h2 : n < (a + 1) * (a + 1)) (h : r * r = n) : r = a := by
  subst h
  have h3 : a ≤ r := Nat.mul_self_le_mul_self_iff.mp h1
  have h4 : r < a + 1 := Nat.mul_self_lt_mul_self_iff.mp h2
  omega
theorem natAbs_sq (i : Int) : ((i.natAbs * i.natAbs : Nat) : Int) = i * i := by rw [Int.natCast_mul]; exact Int.natAbs_mul_self' i
def s_root_of : Spec := fun args L R => ∃ q : Rat, args = [fr q] ∧ SzB q ∧ ∀ x, RootIs q x → R x L
theorem ok_root_of : ∀ args L R, args.length = 1 → s_root_of args L R → d_root_of_0 (initE 3 args) L { nx := fun _ L' => R .non L', rt := R } := by
  rintro _ L R _ ⟨q, rfl, hq, h⟩
  unfold d_root_of_0 d_root_of_0a_0
  show sSeq _ _ [some (fr q), none, none] L _
  walk_at "ev"
  split
  · rename_i hn
    refine h _ (.inl ⟨rfl, fun r hr => ?_⟩)
    have := (root_no hr).1
    have := natAbs_sq r.num
    omega
  · rename_i hn
    obtain ⟨n, hnn⟩ := Int.eq_ofNat_of_zero_le (show 0 ≤ q.num by omega)
    unfold d_root_of_1
    walk_at "ev"
    refine ⟨n, 4000, by rw [hnn], by have := hq.1; rw [hnn] at this; exact this, by decide, fun a a1 a2 => ?_⟩
    walk_at "ev"
    refine ⟨q.den, 4000, rfl, hq.2, by decide, fun b b1 b2 => ?_⟩
    walk_at "ev"
    unfold d_root_of_2 d_root_of_2a_0 d_root_of_3
    walk_at "ev"
    have ha : a < 2 ^ 4000 := Nat.lt_of_le_of_lt (Nat.le_trans (Nat.le_mul_self a) a1) (by have := hq.1; rw [hnn] at this; exact this)
    have hb : b < 2 ^ 4000 := Nat.lt_of_le_of_lt (Nat.le_trans (Nat.le_mul_self b) b1) hq.2
    refine ⟨mulN ha ha (by decide), ?_⟩
    by_cases e1 : (a : Int) * a = q.num
    · rw [if_pos e1]
      refine ⟨mulN hb hb (by decide), ?_⟩
      by_cases e2 : (b : Int) * b = q.den
      · rw [if_pos e2]
        obtain ⟨r, hr, h0, h1⟩ := root_mk e1 (by exact_mod_cast e2)
        rw [hr]
        exact h _ (.inr ⟨r, rfl, h0, h1⟩)
      · rw [if_neg e2]
        refine h _ (.inl ⟨rfl, fun r hr => e2 ?_⟩)
        have h3 := (root_no hr).2
        have := sqrt_uniq b1 b2 h3.symm
        rw [← this, h3, Int.natCast_mul]
    · rw [if_neg e1]
      refine h _ (.inl ⟨rfl, fun r hr => e1 ?_⟩)
      have h3 := (root_no hr).1
      have h4 : r.num.natAbs * r.num.natAbs = n := by
        have := natAbs_sq r.num
        rw [← h3, hnn] at this
        exact_mod_cast this
      have := sqrt_uniq a1 a2 h4
      rw [← this, h3]
      exact Int.natAbs_mul_self' _
theorem RootIs.uniq {q : Rat} {x y : PV} (hx : RootIs q x) (hy : RootIs q y) : x = y := by
  rcases hx with ⟨rfl, h1⟩ | ⟨r, rfl, h0, h1⟩ <;> rcases hy with ⟨rfl, h2⟩ | ⟨s, rfl, h3, h2⟩
  · rfl
  · exact absurd h2 (h1 s)
  · exact absurd h1 (h2 r)
  · have : r = s := by
      have h : (r - s) * (r + s) = 0 := by grind
      rcases Rat.mul_eq_zero.mp h with h | h
      · grind
      · have h5 : r = 0 := by grind
        have h6 : s = 0 := by grind
        rw [h5, h6]
    rw [this]
theorem rgL_get {lo : Int} {n i : Nat} {t : PV} (h : (rgL lo n)[i]? = some t) : t = .int (lo + (i : Nat)) ∧ i < n := by
  have hi := (List.getElem?_eq_some_iff.mp h).1
  unfold rgL at h hi
  rw [List.length_map, List.length_range] at hi
  rw [List.getElem?_map, List.getElem?_range hi] at h
  cases h
  exact ⟨rfl, hi⟩
theorem fr_unit {s d : Int} (hs : s = 1 ∨ s = -1) (hd : 0 < d) : ∃ q : Rat, .tup [.int s, .int d] = fr q ∧ q.num = s ∧ (q.den : Int) = d := by
  obtain ⟨n, rfl⟩ := Int.eq_ofNat_of_zero_le (Int.le_of_lt hd)
  have hc : s.natAbs.Coprime n := by
    rcases hs with rfl | rfl
    · exact Nat.coprime_one_left n
    · exact Nat.coprime_one_left n
  exact ⟨⟨s, n, by omega, hc⟩, rfl, rfl, rfl⟩
theorem Sz.B {a : Nat} {q : Rat} (h : Sz a q) (ha : a ≤ 4000) : SzB q := h.mono ha
end Mp
namespace Mp
open PySem PySem.Spec PyProof.Rows L2
/-! ### points and vectors -/
abbrev Vc := Rat × Rat
def vc (p : Vc) : PV := .tup [fr p.1, fr p.2]
theorem vx0 {p : Vc} {L : Sto} {R : PK} : oIx (vc p) (.int 0) L R = R (fr p.1) L := ix0
theorem vx1 {p : Vc} {L : Sto} {R : PK} : oIx (vc p) (.int 1) L R = R (fr p.2) L := ix1
theorem vc_mk {x y : Rat} : PV.tup [fr x, fr y] = vc (x, y) := rfl
theorem frz (n : Int) : .tup [.int n, .int 1] = fr (n : Rat) := rfl
def SzV (b : Nat) (p : Vc) : Prop := Sz b p.1 ∧ Sz b p.2
theorem SzV.mono {a b : Nat} {p : Vc} (h : SzV a p) (hb : a ≤ b) : SzV b p := ⟨h.1.mono hb, h.2.mono hb⟩
theorem szz {n : Int} {b : Nat} (h : n.natAbs < 4) (hb : 2 ≤ b) : Sz b (n : Rat) := (Sz.int (a := 2) h (by decide)).mono hb
def vadd (p q : Vc) : Vc := (p.1 + q.1, p.2 + q.2)
def vsub (p q : Vc) : Vc := (p.1 - q.1, p.2 - q.2)
def vscl (p : Vc) (k : Rat) : Vc := (p.1 * k, p.2 * k)
def vdot (p q : Vc) : Rat := p.1 * q.1 + p.2 * q.2
def vcrs (p q : Vc) : Rat := p.1 * q.2 - p.2 * q.1
def vlft (p : Vc) : Vc := (0 - p.2, p.1)
theorem SzV.add {a b : Nat} {p q : Vc} (h : SzV a p) (k : SzV b q) : SzV (a + b + 1) (vadd p q) := ⟨h.1.add k.1, h.2.add k.2⟩
theorem SzV.sub {a b : Nat} {p q : Vc} (h : SzV a p) (k : SzV b q) : SzV (a + b + 1) (vsub p q) := ⟨h.1.sub k.1, h.2.sub k.2⟩
theorem SzV.scl {a b : Nat} {p : Vc} {q : Rat} (h : SzV a p) (k : Sz b q) : SzV (a + b) (vscl p q) := ⟨h.1.mul k, h.2.mul k⟩
theorem SzV.dot {a b : Nat} {p q : Vc} (h : SzV a p) (k : SzV b q) : Sz (a + b + (a + b) + 1) (vdot p q) := (h.1.mul k.1).add (h.2.mul k.2)
theorem SzV.crs {a b : Nat} {p q : Vc} (h : SzV a p) (k : SzV b q) : Sz (a + b + (a + b) + 1) (vcrs p q) := (h.1.mul k.2).sub (h.2.mul k.1)
theorem Sz.zsub {a : Nat} {q : Rat} (h : Sz a q) : Sz a (0 - q) := by rw [show (0 : Rat) - q = -q by grind]; exact h.neg
theorem SzV.lft {a : Nat} {p : Vc} (h : SzV a p) : SzV a (vlft p) := ⟨h.2.zsub, h.1⟩
def s_plus : Spec := fun args L R => ∃ p q, args = [vc p, vc q] ∧ SzV 4000 p ∧ SzV 4000 q ∧ R (vc (vadd p q)) L
def s_minus : Spec := fun args L R => ∃ p q, args = [vc p, vc q] ∧ SzV 4000 p ∧ SzV 4000 q ∧ R (vc (vsub p q)) L
def s_scaled : Spec := fun args L R => ∃ p k, args = [vc p, fr k] ∧ SzV 4000 p ∧ Sz 4000 k ∧ R (vc (vscl p k)) L
def s_dot : Spec := fun args L R => ∃ p q, args = [vc p, vc q] ∧ SzV 1900 p ∧ SzV 1900 q ∧ R (fr (vdot p q)) L
def s_cross : Spec := fun args L R => ∃ p q, args = [vc p, vc q] ∧ SzV 1900 p ∧ SzV 1900 q ∧ R (fr (vcrs p q)) L
def s_left_of : Spec := fun args L R => ∃ p, args = [vc p] ∧ SzV 4000 p ∧ R (vc (vlft p)) L
/-! plus(one, other): 0 one, 1 other -/
def d_plus_0 : WS := sRet (wTup [wCall s_added [wBin oIx (wVar 0) (wC (.int 0)), wBin oIx (wVar 1) (wC (.int 0))], wCall s_added [wBin oIx (wVar 0) (wC (.int 1)), wBin oIx (wVar 1) (wC (.int 1))]])
/-! minus(one, other): 0 one, 1 other -/
def d_minus_0 : WS := sRet (wTup [wCall s_taken [wBin oIx (wVar 0) (wC (.int 0)), wBin oIx (wVar 1) (wC (.int 0))], wCall s_taken [wBin oIx (wVar 0) (wC (.int 1)), wBin oIx (wVar 1) (wC (.int 1))]])
/-! scaled(vector, by): 0 vector, 1 by -/
def d_scaled_0 : WS := sRet (wTup [wCall s_times [wBin oIx (wVar 0) (wC (.int 0)), wVar 1], wCall s_times [wBin oIx (wVar 0) (wC (.int 1)), wVar 1]])
/-! dot(one, other): 0 one, 1 other -/
def d_dot_0 : WS := sRet (wCall s_added [wCall s_times [wBin oIx (wVar 0) (wC (.int 0)), wBin oIx (wVar 1) (wC (.int 0))], wCall s_times [wBin oIx (wVar 0) (wC (.int 1)), wBin oIx (wVar 1) (wC (.int 1))]])
/-! cross(one, other): 0 one, 1 other -/
def d_cross_0 : WS := sRet (wCall s_taken [wCall s_times [wBin oIx (wVar 0) (wC (.int 0)), wBin oIx (wVar 1) (wC (.int 1))], wCall s_times [wBin oIx (wVar 0) (wC (.int 1)), wBin oIx (wVar 1) (wC (.int 0))]])
/-! left_of(vector): 0 vector -/
def d_left_of_0 : WS := sRet (wTup [wCall s_taken [wC (.tup [.int 0, .int 1]), wBin oIx (wVar 0) (wC (.int 1))], wBin oIx (wVar 0) (wC (.int 0))])
local macro_rules | `(tactic| walk_at "ev") => `(tactic| try simp only [vx0, vx1, if_true, if_false, decide_true, decide_false, Bool.not_true, Bool.not_false, Bool.false_eq_true, reduceCtorEq, e_gS, e_gT, e_gsL0, e_gsL1, e_gsN0, e_gsN1, e_r1, e_r1K, e_r2, e_r2K, e_any, e_lsT, e_zpT, e_enT, e_en, e_zp, e_z3, e_revt, e_tru, tru_bl, tru_int, tru_non, tru_tup, e_disp, e_prs0, e_prs1, List.zip_nil_left, e_rv, e_for, e_comp, e_mt, e_wipe0, e_wipe1, fr0, fr1, ix0, ix1, ix2, ix3, bIf_t, bIf_f, bIf_d, bIf_n, oEq_ii, oNe_ii, oEq_bb, oNe_bb, List.set_cons_zero, List.set_cons_succ, List.zip_cons_cons, List.zip_nil_right, List.foldl_cons, List.foldl_nil, e_add, e_addI, e_addt, e_addl, e_sub, e_mul, e_div, e_mod, e_pow, e_oI, e_neg, e_not, e_isn, e_isnn, e_isb, e_isnb, e_isN_non, e_isN_bl, e_isN_int, e_isN_tup, e_isN_ref, e_isN_fz, e_isN_fr, e_isN_str, e_lent, e_lenz, e_abs, e_int, e_intb, e_dvm, e_min, e_max, e_listt, e_listz, e_tupt, e_str, gv_0, gv_s, e_slt, e_slz, e_v0, e_v1, e_v2, e_v3, e_v4, e_v5, e_v6, e_v7, e_v8, e_v9, e_v10, e_v11, e_v12, e_v13, e_v14, e_v15, e_v16, e_v17, e_v18, e_v19, e_v20, e_v21, e_v22, e_v23, e_v24, e_v25, e_v26, e_v27, e_v28, e_v29, e_v30, e_v31, e_v32, e_v33, e_v34, e_v35, e_v36, e_v37, e_v38, e_v39, e_ar0, e_ar1, e_gN, e_par, e_c, e_bin, e_un, e_and, e_or, e_ife, e_chain, e_tup, e_lst, e_bi, e_call, e_sl, e_no, e_so, e_nil, e_seq, e_expr, e_ret, e_retn, e_asg, e_if, e_brk, e_cnt, sz_0, sz_1, sz_2, sz_3, sz_4, sz_5, sz_6, sz_7, sz_8, sz_9, sz_10, sz_11, sz_12, sz_13, sz_14, sz_15, sz_16, sz_17, sz_18, sz_19, true_and, isi_non_int, isi_non_bool, isi_non_str, isi_non_tuple, isi_non_list, isi_non_dict, isi_bl_int, isi_bl_bool, isi_bl_str, isi_bl_tuple, isi_bl_list, isi_bl_dict, isi_int_int, isi_int_bool, isi_int_str, isi_int_tuple, isi_int_list, isi_int_dict, isi_str_int, isi_str_bool, isi_str_str, isi_str_tuple, isi_str_list, isi_str_dict, isi_tup_int, isi_tup_bool, isi_tup_str, isi_tup_tuple, isi_tup_list, isi_tup_dict, isi_fz_int, isi_fz_bool, isi_fz_str, isi_fz_tuple, isi_fz_list, isi_fz_dict])
theorem ok_plus : ∀ args L R, args.length = 2 → s_plus args L R → d_plus_0 (initE 2 args) L { nx := fun _ L' => R .non L', rt := R } := by
  rintro _ L R _ ⟨p, q, rfl, hp, hq, h⟩
  unfold d_plus_0
  show sRet _ [some (vc p), some (vc q)] L _
  walk_at "ev"
  refine ⟨_, _, rfl, hp.1, hq.1, _, _, rfl, hp.2, hq.2, ?_⟩
  walk_at "ev"
  exact h
theorem ok_minus : ∀ args L R, args.length = 2 → s_minus args L R → d_minus_0 (initE 2 args) L { nx := fun _ L' => R .non L', rt := R } := by
  rintro _ L R _ ⟨p, q, rfl, hp, hq, h⟩
  unfold d_minus_0
  show sRet _ [some (vc p), some (vc q)] L _
  walk_at "ev"
  refine ⟨_, _, rfl, hp.1, hq.1, _, _, rfl, hp.2, hq.2, ?_⟩
  walk_at "ev"
  exact h
theorem ok_scaled : ∀ args L R, args.length = 2 → s_scaled args L R → d_scaled_0 (initE 2 args) L { nx := fun _ L' => R .non L', rt := R } := by
  rintro _ L R _ ⟨p, q, rfl, hp, hq, h⟩
  unfold d_scaled_0
  show sRet _ [some (vc p), some (fr q)] L _
  walk_at "ev"
  refine ⟨_, _, rfl, hp.1, hq, _, _, rfl, hp.2, hq, ?_⟩
  walk_at "ev"
  exact h
theorem ok_dot : ∀ args L R, args.length = 2 → s_dot args L R → d_dot_0 (initE 2 args) L { nx := fun _ L' => R .non L', rt := R } := by
  rintro _ L R _ ⟨p, q, rfl, hp, hq, h⟩
  unfold d_dot_0
  show sRet _ [some (vc p), some (vc q)] L _
  walk_at "ev"
  exact ⟨_, _, rfl, hp.1.B (by decide), hq.1.B (by decide), _, _, rfl, hp.2.B (by decide), hq.2.B (by decide), _, _, rfl, (hp.1.mul hq.1).B (by decide), (hp.2.mul hq.2).B (by decide), h⟩
theorem ok_cross : ∀ args L R, args.length = 2 → s_cross args L R → d_cross_0 (initE 2 args) L { nx := fun _ L' => R .non L', rt := R } := by
  rintro _ L R _ ⟨p, q, rfl, hp, hq, h⟩
  unfold d_cross_0
  show sRet _ [some (vc p), some (vc q)] L _
  walk_at "ev"
  exact ⟨_, _, rfl, hp.1.B (by decide), hq.2.B (by decide), _, _, rfl, hp.2.B (by decide), hq.1.B (by decide), _, _, rfl, (hp.1.mul hq.2).B (by decide), (hp.2.mul hq.1).B (by decide), h⟩
theorem ok_left_of : ∀ args L R, args.length = 1 → s_left_of args L R → d_left_of_0 (initE 1 args) L { nx := fun _ L' => R .non L', rt := R } := by
  rintro _ L R _ ⟨p, rfl, hp, h⟩
  unfold d_left_of_0
  show sRet _ [some (vc p)] L _
  walk_at "ev"
  rw [frz]
  refine ⟨_, _, rfl, szz (by decide) (by decide), hp.2, ?_⟩
  walk_at "ev"
  exact h
/-! the law's own -/
def sl_dot : Spec := fun args L R => ∃ p q, args = [vc p, vc q] ∧ SzV 1900 p ∧ SzV 1900 q ∧ R (fr (vdot p q)) L
def sl_cross : Spec := fun args L R => ∃ p q, args = [vc p, vc q] ∧ SzV 1900 p ∧ SzV 1900 q ∧ R (fr (vcrs p q)) L
/-! _law_dot(_law_p, _law_q): 0 _law_p, 1 _law_q -/
def l_dot_0 : WS := sRet (wCall sl_sum [wCall sl_product [wBin oIx (wVar 0) (wC (.int 0)), wBin oIx (wVar 1) (wC (.int 0))], wCall sl_product [wBin oIx (wVar 0) (wC (.int 1)), wBin oIx (wVar 1) (wC (.int 1))]])
/-! _law_cross(_law_p, _law_q): 0 _law_p, 1 _law_q -/
def l_cross_0 : WS := sRet (wCall sl_less [wCall sl_product [wBin oIx (wVar 0) (wC (.int 0)), wBin oIx (wVar 1) (wC (.int 1))], wCall sl_product [wBin oIx (wVar 0) (wC (.int 1)), wBin oIx (wVar 1) (wC (.int 0))]])
theorem ok_l_dot : ∀ args L R, args.length = 2 → sl_dot args L R → l_dot_0 (initE 2 args) L { nx := fun _ L' => R .non L', rt := R } := by
  rintro _ L R _ ⟨p, q, rfl, hp, hq, h⟩
  unfold l_dot_0
  show sRet _ [some (vc p), some (vc q)] L _
  walk_at "ev"
  exact ⟨_, _, rfl, hp.1.B (by decide), hq.1.B (by decide), _, _, rfl, hp.2.B (by decide), hq.2.B (by decide), _, _, rfl, (hp.1.mul hq.1).B (by decide), (hp.2.mul hq.2).B (by decide), h⟩
theorem ok_l_cross : ∀ args L R, args.length = 2 → sl_cross args L R → l_cross_0 (initE 2 args) L { nx := fun _ L' => R .non L', rt := R } := by
  rintro _ L R _ ⟨p, q, rfl, hp, hq, h⟩
  unfold l_cross_0
  show sRet _ [some (vc p), some (vc q)] L _
  walk_at "ev"
  exact ⟨_, _, rfl, hp.1.B (by decide), hq.2.B (by decide), _, _, rfl, hp.2.B (by decide), hq.1.B (by decide), _, _, rfl, (hp.1.mul hq.2).B (by decide), (hp.2.mul hq.1).B (by decide), h⟩
/-! lists of one kind -/
def IsF (b : Nat) (x : PV) : Prop := ∃ q : Rat, x = fr q ∧ Sz b q
def IsV (b : Nat) (x : PV) : Prop := ∃ q : Vc, x = vc q ∧ SzV b q

theorem Sm.vc {L : Sto} {n : Nat} {p q : Vc} (h : p = q) : Sm L (n + 3) (vc p) (vc q) := by
  subst h
  exact ⟨by show 2 ≤ 1000000; decide, .fr rfl, .fr rfl, trivial⟩
end Mp
namespace Mp
open PySem PySem.Spec PyProof.Rows L2
/-! ### equality of fractions and vectors -/
theorem fr_inj {p q : Rat} : (p = q) ↔ (p.num = q.num ∧ (p.den : Int) = q.den) := ⟨fun h => by rw [h]; exact ⟨rfl, rfl⟩, fun h => Rat.ext h.1 (by omega)⟩
def dfr (q : Rat) : PyData := .tuple [.int q.num, .int q.den]
def dvc (p : Vc) : PyData := .tuple [dfr p.1, dfr p.2]
theorem PD.fr {L : Sto} {q : Rat} : PD L (Mp.fr q) (dfr q) := .tup (.cons (.int _) (.cons (.int _) .nil))
theorem PD.vc {L : Sto} {p : Vc} : PD L (Mp.vc p) (dvc p) := .tup (.cons .fr (.cons .fr .nil))
theorem eqv_fr {p q : Rat} : PyData.eqv (dfr p) (dfr q) = decide (p = q) := by
  have h : PyData.eqv (dfr p) (dfr q) = (decide (p.num = q.num) && (decide ((p.den : Int) = q.den) && true)) := rfl
  rw [h, Bool.and_true, ← Bool.decide_and]
  exact decide_eq_decide.mpr fr_inj.symm
theorem eqv_vc {p q : Vc} : PyData.eqv (dvc p) (dvc q) = decide (p = q) := by
  have h : PyData.eqv (dvc p) (dvc q) = (PyData.eqv (dfr p.1) (dfr q.1) && (PyData.eqv (dfr p.2) (dfr q.2) && true)) := rfl
  rw [h, eqv_fr, eqv_fr, Bool.and_true, ← Bool.decide_and]
  exact decide_eq_decide.mpr (Prod.ext_iff.symm)
section
variable {L : Sto} {R : PK} {p q : Rat} {u v : Vc}
theorem PD_fr_uniq {d : PyData} (h : PD L (Mp.fr p) d) : d = dfr p := by
  match h with
  | .tup (.cons (.int _) (.cons (.int _) .nil)) => rfl
theorem PD_vc_uniq {d : PyData} (h : PD L (Mp.vc u) d) : d = dvc u := by
  match h with
  | .tup (.cons a (.cons b .nil)) => rw [PD_fr_uniq a, PD_fr_uniq b]; rfl
theorem oEq_ff : oEq (fr p) (fr q) L R = R (.bl (decide (p = q))) L := by
  refine propext ⟨?_, fun h => ⟨_, _, .fr, .fr, rfl, rfl, by rw [eqv_fr]; exact h⟩⟩
  rintro ⟨d, e, h1, h2, _, _, h⟩
  rw [PD_fr_uniq h1, PD_fr_uniq h2, eqv_fr] at h
  exact h
theorem oNe_ff : oNe (fr p) (fr q) L R = R (.bl (!decide (p = q))) L := by
  refine propext ⟨?_, fun h => ⟨_, _, .fr, .fr, rfl, rfl, by rw [eqv_fr]; exact h⟩⟩
  rintro ⟨d, e, h1, h2, _, _, h⟩
  rw [PD_fr_uniq h1, PD_fr_uniq h2, eqv_fr] at h
  exact h
theorem oEq_vv : oEq (vc u) (vc v) L R = R (.bl (decide (u = v))) L := by
  refine propext ⟨?_, fun h => ⟨_, _, .vc, .vc, rfl, rfl, by rw [eqv_vc]; exact h⟩⟩
  rintro ⟨d, e, h1, h2, _, _, h⟩
  rw [PD_vc_uniq h1, PD_vc_uniq h2, eqv_vc] at h
  exact h
theorem oNe_vv : oNe (vc u) (vc v) L R = R (.bl (!decide (u = v))) L := by
  refine propext ⟨?_, fun h => ⟨_, _, .vc, .vc, rfl, rfl, by rw [eqv_vc]; exact h⟩⟩
  rintro ⟨d, e, h1, h2, _, _, h⟩
  rw [PD_vc_uniq h1, PD_vc_uniq h2, eqv_vc] at h
  exact h
end
theorem e_gTv {p : Vc} {env : Env} {L : Sto} {gs : WGs} {R : Env → Sto → Prop} : gT 2 gs (vc p) env L R = gs [fr p.1, fr p.2] env L R := propext ⟨fun h => h.2, fun h => ⟨rfl, h⟩⟩
theorem fr_zero : PV.tup [.int 0, .int 1] = fr 0 := rfl
theorem fr_one : PV.tup [.int 1, .int 1] = fr 1 := rfl
theorem sz0 {b : Nat} (hb : 1 ≤ b) : Sz b (0 : Rat) := Sz.mono (a := 1) ⟨by decide, by decide⟩ hb
theorem sz1 {b : Nat} (hb : 1 ≤ b) : Sz b (1 : Rat) := Sz.mono (a := 1) ⟨by decide, by decide⟩ hb
local macro_rules | `(tactic| walk_at "ev") => `(tactic| try simp only [oEq_ff, oNe_ff, oEq_vv, oNe_vv, e_gTv, vc_mk, vx0, vx1, if_true, if_false, decide_true, decide_false, Bool.not_true, Bool.not_false, Bool.false_eq_true, reduceCtorEq, e_gS, e_gT, e_gsL0, e_gsL1, e_gsN0, e_gsN1, e_r1, e_r1K, e_r2, e_r2K, e_any, e_lsT, e_zpT, e_enT, e_en, e_zp, e_z3, e_revt, e_tru, tru_bl, tru_int, tru_non, tru_tup, e_disp, e_prs0, e_prs1, List.zip_nil_left, e_rv, e_for, e_comp, e_mt, e_wipe0, e_wipe1, fr0, fr1, ix0, ix1, ix2, ix3, bIf_t, bIf_f, bIf_d, bIf_n, oEq_ii, oNe_ii, oEq_bb, oNe_bb, List.set_cons_zero, List.set_cons_succ, List.zip_cons_cons, List.zip_nil_right, List.foldl_cons, List.foldl_nil, e_add, e_addI, e_addt, e_addl, e_sub, e_mul, e_div, e_mod, e_pow, e_oI, e_neg, e_not, e_isn, e_isnn, e_isb, e_isnb, e_isN_non, e_isN_bl, e_isN_int, e_isN_tup, e_isN_ref, e_isN_fz, e_isN_fr, e_isN_str, e_lent, e_lenz, e_abs, e_int, e_intb, e_dvm, e_min, e_max, e_listt, e_listz, e_tupt, e_str, gv_0, gv_s, e_slt, e_slz, e_v0, e_v1, e_v2, e_v3, e_v4, e_v5, e_v6, e_v7, e_v8, e_v9, e_v10, e_v11, e_v12, e_v13, e_v14, e_v15, e_v16, e_v17, e_v18, e_v19, e_v20, e_v21, e_v22, e_v23, e_v24, e_v25, e_v26, e_v27, e_v28, e_v29, e_v30, e_v31, e_v32, e_v33, e_v34, e_v35, e_v36, e_v37, e_v38, e_v39, e_ar0, e_ar1, e_gN, e_par, e_c, e_bin, e_un, e_and, e_or, e_ife, e_chain, e_tup, e_lst, e_bi, e_call, e_sl, e_no, e_so, e_nil, e_seq, e_expr, e_ret, e_retn, e_asg, e_if, e_brk, e_cnt, sz_0, sz_1, sz_2, sz_3, sz_4, sz_5, sz_6, sz_7, sz_8, sz_9, sz_10, sz_11, sz_12, sz_13, sz_14, sz_15, sz_16, sz_17, sz_18, sz_19, true_and, isi_non_int, isi_non_bool, isi_non_str, isi_non_tuple, isi_non_list, isi_non_dict, isi_bl_int, isi_bl_bool, isi_bl_str, isi_bl_tuple, isi_bl_list, isi_bl_dict, isi_int_int, isi_int_bool, isi_int_str, isi_int_tuple, isi_int_list, isi_int_dict, isi_str_int, isi_str_bool, isi_str_str, isi_str_tuple, isi_str_list, isi_str_dict, isi_tup_int, isi_tup_bool, isi_tup_str, isi_tup_tuple, isi_tup_list, isi_tup_dict, isi_fz_int, isi_fz_bool, isi_fz_str, isi_fz_tuple, isi_fz_list, isi_fz_dict])
/-! ### turns -/
def rot (u b : Vc) : Vc := (u.1 * b.1 - u.2 * b.2, u.1 * b.2 + u.2 * b.1)
def tb (h : Rat) : Vc := ((1 - h * h) / (1 + h * h), (h + h) / (1 + h * h))
def Un (u : Vc) : Prop := u.1 * u.1 + u.2 * u.2 = 1
theorem sq_nn (h : Rat) : 0 ≤ h * h := by
  rcases Rat.le_total (a := 0) (b := h) with q | q
  · exact Rat.mul_nonneg q q
  · have : 0 ≤ -h := by grind
    have := Rat.mul_nonneg this this
    grind
theorem one_sq (h : Rat) : 1 + h * h ≠ 0 := by
  have := sq_nn h
  grind
theorem SzV.rot {a b : Nat} {u c : Vc} (h : SzV a u) (k : SzV b c) : SzV (a + b + (a + b) + 1) (rot u c) := ⟨(h.1.mul k.1).sub (h.2.mul k.2), (h.1.mul k.2).add (h.2.mul k.1)⟩
theorem SzV.tb {a : Nat} {h : Rat} (k : Sz a h) : SzV (a + a + a + a + 4) (tb h) := by
  have s := k.mul k
  have u := (sz1 (Nat.le_refl 1)).add s
  refine ⟨(((sz1 (Nat.le_refl 1)).sub s).div u (one_sq h)).mono (by omega), ((k.add k).div u (one_sq h)).mono (by omega)⟩
def s_turned : Spec := fun args L R => ∃ u c a b, args = [vc u, vc c] ∧ SzV a u ∧ SzV b c ∧ a + b ≤ 4000 ∧ R (vc (rot u c)) L
def s_turn_by : Spec := fun args L R => ∃ h, args = [fr h] ∧ Sz 1900 h ∧ R (vc (tb h)) L
/-! turned(unit, by): 0 unit, 1 by, 2 x, 3 y, 4 c, 5 s -/
def d_turned_2 : WS := sRet (wTup [wCall s_taken [wCall s_times [wVar 2, wVar 4], wCall s_times [wVar 3, wVar 5]], wCall s_added [wCall s_times [wVar 2, wVar 5], wCall s_times [wVar 3, wVar 4]]])
def d_turned_1 : WS := sSeq (sAsg (gT 2 (gsL [gN 4, gN 5])) (wVar 1)) d_turned_2
def d_turned_0 : WS := sSeq (sAsg (gT 2 (gsL [gN 2, gN 3])) (wVar 0)) d_turned_1
/-! turn_by(part): 0 part, 1 square, 2 under -/
def d_turn_by_2 : WS := sRet (wTup [wCall s_over [wCall s_taken [wC (.tup [.int 1, .int 1]), wVar 1], wVar 2], wCall s_over [wCall s_added [wVar 0, wVar 0], wVar 2]])
def d_turn_by_1 : WS := sSeq (sAsg (gN 2) (wCall s_added [wC (.tup [.int 1, .int 1]), wVar 1])) d_turn_by_2
def d_turn_by_0 : WS := sSeq (sAsg (gN 1) (wCall s_times [wVar 0, wVar 0])) d_turn_by_1
theorem ok_turned : ∀ args L R, args.length = 2 → s_turned args L R → d_turned_0 (initE 6 args) L { nx := fun _ L' => R .non L', rt := R } := by
  rintro _ L R _ ⟨u, c, a, b, rfl, hu, hc, hab, h⟩
  unfold d_turned_0
  show sSeq _ _ [some (vc u), some (vc c), none, none, none, none] L _
  walk_at "ev"
  unfold d_turned_1
  walk_at "ev"
  unfold d_turned_2
  walk_at "ev"
  have u1 := hu.1.B (by omega)
  have u2 := hu.2.B (by omega)
  have c1 := hc.1.B (by omega)
  have c2 := hc.2.B (by omega)
  refine ⟨_, _, rfl, u1, c1, _, _, rfl, u2, c2, _, _, rfl, (hu.1.mul hc.1).B hab, (hu.2.mul hc.2).B hab, ?_⟩
  walk_at "ev"
  refine ⟨_, _, rfl, u1, c2, _, _, rfl, u2, c1, _, _, rfl, (hu.1.mul hc.2).B hab, (hu.2.mul hc.1).B hab, ?_⟩
  walk_at "ev"
  exact h
theorem ok_turn_by : ∀ args L R, args.length = 1 → s_turn_by args L R → d_turn_by_0 (initE 3 args) L { nx := fun _ L' => R .non L', rt := R } := by
  rintro _ L R _ ⟨h, rfl, hh, k⟩
  unfold d_turn_by_0
  show sSeq _ _ [some (fr h), none, none] L _
  walk_at "ev"
  refine ⟨_, _, rfl, hh.B (by decide), hh.B (by decide), ?_⟩
  unfold d_turn_by_1
  walk_at "ev"
  rw [fr_one]
  have s := hh.mul hh
  have s1 := sz1 (Nat.le_refl 1)
  refine ⟨_, _, rfl, s1.B (by decide), s.B (by decide), ?_⟩
  unfold d_turn_by_2
  walk_at "ev"
  rw [fr_one]
  refine ⟨_, _, rfl, s1.B (by decide), s.B (by decide), _, _, rfl, one_sq h, (s1.sub s).B (by decide), (s1.add s).B (by decide), ?_⟩
  walk_at "ev"
  refine ⟨_, _, rfl, hh.B (by decide), hh.B (by decide), _, _, rfl, one_sq h, (hh.add hh).B (by decide), (s1.add s).B (by decide), ?_⟩
  walk_at "ev"
  exact k
/-! steps -/
def prt (h : Rat) (n k : Nat) : Rat := h * (((k : Int) : Rat) / ((n : Int) : Rat))
def stepsL (u : Vc) (h : Rat) (n : Nat) : List Vc := (List.range n).map fun k => rot u (tb (prt h n (k + 1)))
/-- all of a list made afresh -/
def Fresh (L : Sto) (R : PK) (xs : List PV) : Prop := ∀ p L', L p = none → Le L L' → L' p = some (.l xs) → R (.ref p) L'
def s_steps_on : Spec := fun args L R => ∃ (u : Vc) (h : Rat) (n a b : Nat), args = [vc u, fr h, .int n] ∧ SzV a u ∧ Sz b h ∧ 0 < n ∧ n < 1024 ∧ b ≤ 900 ∧ a + 4 * b ≤ 3900 ∧ Fresh L R ((stepsL u h n).map vc)
/-! steps_on(unit, part, steps): 0 unit, 1 part, 2 steps, 3 k -/
def d_steps_on_0 : WS := sRet (wComp [3] (iR2 (wC (.int 1)) (wBin oAdd (wVar 2) (wC (.int 1)))) (gN 3) (wC (.bl true)) (wCall s_turned [wVar 0, wCall s_turn_by [wCall s_times [wVar 1, wCall s_fraction [wVar 3, wVar 2]]]]))
theorem sz_kn {k n : Nat} (h0 : 0 < n) (hk : k ≤ n) (hn : n < 1024) : Sz 10 (((k : Int) : Rat) / ((n : Int) : Rat)) := Sz.of (by omega) (by show _ < 1024; omega) (by show _ < 1024; omega)
theorem ok_steps_on : ∀ args L R, args.length = 3 → s_steps_on args L R → d_steps_on_0 (initE 4 args) L { nx := fun _ L' => R .non L', rt := R } := by
  rintro _ L R _ ⟨u, h, n, a, b, rfl, hu, hh, hn0, hn, hb, hab, k⟩
  unfold d_steps_on_0
  show sRet _ [some (vc u), some (fr h), some (.int n), none] L _
  walk_at "ev"
  refine ⟨⟨by decide, by decide⟩, ⟨by omega, by omega⟩, ?_⟩
  rw [show ((n : Int) + 1 - 1).toNat = n by omega]
  have hrl : (rgL 1 n).length = n := by unfold rgL; rw [List.length_map, List.length_range]
  refine comp_i (fun i acc l => l = L ∧ acc = ((List.range i).map fun k => vc (rot u (tb (prt h n (k + 1)))))) ⟨rfl, rfl⟩ (fun _ _ _ _ => trivial) (by show (rgL 1 n).length < 16777216; omega) ?_ ?_
  · rintro i t acc l K hx ⟨rfl, rfl⟩ hi hK
    obtain ⟨rfl, hin⟩ := rgL_get hx
    walk_at "ev"
    have e1 : (1 : Int) + (i : Nat) = ((i + 1 : Nat) : Int) := by omega
    rw [e1]
    have skn := sz_kn (k := i + 1) hn0 (by omega) hn
    refine ⟨_, _, rfl, by omega, DenOk.of (a := 10) (by show _ < 1024; omega) (by decide), _, _, rfl, hh.B (by omega), skn.B (by decide), ?_⟩
    have sp := hh.mul skn
    refine ⟨_, rfl, sp.mono (by omega), ?_⟩
    refine ⟨_, _, _, _, rfl, hu, SzV.tb sp, by omega, ?_⟩
    walk_at "ev"
    refine ⟨?_, ?_⟩
    · rw [List.length_map, List.length_range]; show i < 16777216; omega
    · refine hK _ _ ?_ ⟨rfl, ?_⟩
      · rw [List.length_append, List.length_map, List.length_range]; exact Nat.le_refl _
      · rw [List.range_succ, List.map_append]; rfl
  · rintro acc l ⟨rfl, rfl⟩ p hp
    refine k p _ hp (Le.new hp) ?_
    rw [put_same, hrl]
    unfold stepsL
    rw [List.map_map]
    rfl
end Mp
namespace Mp
open PySem PySem.Spec PyProof.Rows L2
local macro_rules | `(tactic| walk_at "ev") => `(tactic| try simp only [oEq_ff, oNe_ff, oEq_vv, oNe_vv, e_gTv, vc_mk, vx0, vx1, if_true, if_false, decide_true, decide_false, Bool.not_true, Bool.not_false, Bool.false_eq_true, reduceCtorEq, e_gS, e_gT, e_gsL0, e_gsL1, e_gsN0, e_gsN1, e_r1, e_r1K, e_r2, e_r2K, e_any, e_lsT, e_zpT, e_enT, e_en, e_zp, e_z3, e_revt, e_tru, tru_bl, tru_int, tru_non, tru_tup, e_disp, e_prs0, e_prs1, List.zip_nil_left, e_rv, e_for, e_comp, e_mt, e_wipe0, e_wipe1, fr0, fr1, ix0, ix1, ix2, ix3, bIf_t, bIf_f, bIf_d, bIf_n, oEq_ii, oNe_ii, oEq_bb, oNe_bb, List.set_cons_zero, List.set_cons_succ, List.zip_cons_cons, List.zip_nil_right, List.foldl_cons, List.foldl_nil, e_add, e_addI, e_addt, e_addl, e_sub, e_mul, e_div, e_mod, e_pow, e_oI, e_neg, e_not, e_isn, e_isnn, e_isb, e_isnb, e_isN_non, e_isN_bl, e_isN_int, e_isN_tup, e_isN_ref, e_isN_fz, e_isN_fr, e_isN_str, e_lent, e_lenz, e_abs, e_int, e_intb, e_dvm, e_min, e_max, e_listt, e_listz, e_tupt, e_str, gv_0, gv_s, e_slt, e_slz, e_v0, e_v1, e_v2, e_v3, e_v4, e_v5, e_v6, e_v7, e_v8, e_v9, e_v10, e_v11, e_v12, e_v13, e_v14, e_v15, e_v16, e_v17, e_v18, e_v19, e_v20, e_v21, e_v22, e_v23, e_v24, e_v25, e_v26, e_v27, e_v28, e_v29, e_v30, e_v31, e_v32, e_v33, e_v34, e_v35, e_v36, e_v37, e_v38, e_v39, e_ar0, e_ar1, e_gN, e_par, e_c, e_bin, e_un, e_and, e_or, e_ife, e_chain, e_tup, e_lst, e_bi, e_call, e_sl, e_no, e_so, e_nil, e_seq, e_expr, e_ret, e_retn, e_asg, e_if, e_brk, e_cnt, sz_0, sz_1, sz_2, sz_3, sz_4, sz_5, sz_6, sz_7, sz_8, sz_9, sz_10, sz_11, sz_12, sz_13, sz_14, sz_15, sz_16, sz_17, sz_18, sz_19, true_and, isi_non_int, isi_non_bool, isi_non_str, isi_non_tuple, isi_non_list, isi_non_dict, isi_bl_int, isi_bl_bool, isi_bl_str, isi_bl_tuple, isi_bl_list, isi_bl_dict, isi_int_int, isi_int_bool, isi_int_str, isi_int_tuple, isi_int_list, isi_int_dict, isi_str_int, isi_str_bool, isi_str_str, isi_str_tuple, isi_str_list, isi_str_dict, isi_tup_int, isi_tup_bool, isi_tup_str, isi_tup_tuple, isi_tup_list, isi_tup_dict, isi_fz_int, isi_fz_bool, isi_fz_str, isi_fz_tuple, isi_fz_list, isi_fz_dict])
theorem cmp_pos {p q : Rat} : (0 < cmpI p q) ↔ q < p := by
  unfold cmpI
  by_cases h : q < p
  · rw [if_pos h]; exact ⟨fun _ => h, fun _ => by decide⟩
  · rw [if_neg h]
    refine ⟨fun z => ?_, fun z => absurd z h⟩
    split at z
    · exact absurd z (by decide)
    · exact absurd z (by decide)
/-! quarters -/
def InQ (u v : Vc) : Prop := 0 < vcrs u v ∧ 0 < vdot u v
instance {u v : Vc} : Decidable (InQ u v) := inferInstanceAs (Decidable (_ ∧ _))
def s_is_in_quarter : Spec := fun args L R => ∃ u v, args = [vc u, vc v] ∧ SzV 900 u ∧ SzV 900 v ∧ R (.bl (decide (InQ u v))) L
/-! is_in_quarter(one, other): 0 one, 1 other -/
def d_is_in_quarter_0 : WS := sRet (wAnd (wBin oGt (wCall s_compared [wCall s_cross [wVar 0, wVar 1], wC (.tup [.int 0, .int 1])]) (wC (.int 0))) (wBin oGt (wCall s_compared [wCall s_dot [wVar 0, wVar 1], wC (.tup [.int 0, .int 1])]) (wC (.int 0))))
theorem ok_is_in_quarter : ∀ args L R, args.length = 2 → s_is_in_quarter args L R → d_is_in_quarter_0 (initE 2 args) L { nx := fun _ L' => R .non L', rt := R } := by
  rintro _ L R _ ⟨u, v, rfl, hu, hv, h⟩
  unfold d_is_in_quarter_0
  show sRet _ [some (vc u), some (vc v)] L _
  walk_at "ev"
  rw [fr_zero]
  refine ⟨_, _, rfl, hu.mono (by decide), hv.mono (by decide), _, _, rfl, (hu.crs hv).B (by decide), sz0 (by decide), ?_⟩
  walk_at "ev"
  simp only [cmp_pos]
  by_cases h1 : 0 < vcrs u v
  · rw [if_pos h1]
    refine ⟨_, _, rfl, hu.mono (by decide), hv.mono (by decide), _, _, rfl, (hu.dot hv).B (by decide), sz0 (by decide), ?_⟩
    walk_at "ev"
    simp only [cmp_pos]
    rw [show decide (0 < vdot u v) = decide (InQ u v) from decide_eq_decide.mpr ⟨fun z => ⟨h1, z⟩, fun z => z.2⟩]
    exact h
  · rw [if_neg h1]
    rw [show decide (InQ u v) = false from decide_eq_false (fun z => h1 z.1)] at h
    exact h
def Stp (v u : Vc) : Prop := u = v ∨ InQ u v
instance {u v : Vc} : Decidable (Stp v u) := inferInstanceAs (Decidable (_ ∨ _))
def qv (one other : Vc) : Nat → Vc
  | 0 => one
  | j + 1 => if Stp other (qv one other j) then qv one other j else vlft (qv one other j)
def qf (one other : Vc) (n : Nat) : Nat → List Vc
  | 0 => [one]
  | j + 1 => if Stp other (qv one other j) then qf one other n j else qf one other n j ++ stepsL (qv one other j) 1 n
def prtQ (u v : Vc) : Rat := vcrs u v / (1 + vdot u v)
def qres (one other : Vc) (n : Nat) : List Vc := if qv one other 4 = other then qf one other n 4 else qf one other n 4 ++ stepsL (qv one other 4) (prtQ (qv one other 4) other) n
theorem Un.lft {u : Vc} (h : Un u) : Un (vlft u) := by
  unfold Un vlft at *
  show (0 - u.2) * (0 - u.2) + u.1 * u.1 = 1
  grind
theorem un_id {u v : Vc} (hu : Un u) (hv : Un v) : vdot u v * vdot u v + vcrs u v * vcrs u v = 1 := by
  unfold Un vdot vcrs at *
  have : (u.1 * v.1 + u.2 * v.2) * (u.1 * v.1 + u.2 * v.2) + (u.1 * v.2 - u.2 * v.1) * (u.1 * v.2 - u.2 * v.1) = (u.1 * u.1 + u.2 * u.2) * (v.1 * v.1 + v.2 * v.2) := by grind
  rw [this, hu, hv]
  grind
theorem dot_lft {u v : Vc} : vdot (vlft u) v = vcrs u v := by
  unfold vdot vcrs vlft
  show (0 - u.2) * v.1 + u.1 * v.2 = _
  grind
theorem crs_lft {u v : Vc} : vcrs (vlft u) v = - vdot u v := by
  unfold vdot vcrs vlft
  show (0 - u.2) * v.2 - u.1 * v.1 = _
  grind
theorem un_eq {u v : Vc} (hu : Un u) (hv : Un v) (hc : vcrs u v = 0) (hd : 0 < vdot u v) : u = v := by
  have h1 := un_id hu hv
  rw [hc] at h1
  have h2 : (vdot u v - 1) * (vdot u v + 1) = 0 := by grind
  have h3 : vdot u v = 1 := by
    rcases Rat.mul_eq_zero.mp h2 with h | h
    · grind
    · grind
  unfold Un vdot vcrs at *
  have e1 : u.1 = v.1 := by
    have : u.1 = (u.1 * v.1 + u.2 * v.2) * v.1 - (u.2 * v.1 - u.1 * v.2) * v.2 - (v.1 * v.1 + v.2 * v.2 - 1) * u.1 := by grind
    rw [this, h3]
    grind
  have e2 : u.2 = v.2 := by
    have : u.2 = (u.1 * v.1 + u.2 * v.2) * v.2 - (u.1 * v.2 - u.2 * v.1) * v.1 - (v.1 * v.1 + v.2 * v.2 - 1) * u.2 := by grind
    rw [this, h3]
    grind
  exact Prod.ext e1 e2
theorem stp_of {u v : Vc} (hu : Un u) (hv : Un v) (h1 : 0 < vdot u v) (h2 : 0 ≤ vcrs u v) : Stp v u := by
  by_cases h : vcrs u v = 0
  · exact .inl (un_eq hu hv h h1)
  · exact .inr ⟨by grind, h1⟩
theorem qv_un {one other : Vc} (h : Un one) : ∀ j, Un (qv one other j)
  | 0 => h
  | j + 1 => by
    unfold qv
    split
    · exact qv_un h j
    · exact (qv_un h j).lft
theorem qv_sz {one other : Vc} {a : Nat} (h : SzV a one) : ∀ j, SzV a (qv one other j)
  | 0 => h
  | j + 1 => by
    unfold qv
    split
    · exact qv_sz h j
    · exact (qv_sz h j).lft
theorem qv_stay {one other : Vc} {n : Nat} {j : Nat} (h : Stp other (qv one other j)) : ∀ k, Stp other (qv one other (j + k)) ∧ qv one other (j + k) = qv one other j ∧ qf one other n (j + k) = qf one other n j
  | 0 => ⟨h, rfl, rfl⟩
  | k + 1 => by
    obtain ⟨h1, h2, h3⟩ := qv_stay (n := n) h k
    have e1 : qv one other (j + (k + 1)) = qv one other (j + k) := by
      show (if Stp other (qv one other (j + k)) then _ else _) = _
      rw [if_pos h1]; rfl
    have e2 : qf one other n (j + (k + 1)) = qf one other n (j + k) := by
      show (if Stp other (qv one other (j + k)) then _ else _) = _
      rw [if_pos h1]; rfl
    exact ⟨by rw [e1]; exact h1, by rw [e1, h2], by rw [e2, h3]⟩
theorem qv_stop {one other : Vc} (h1 : Un one) (h2 : Un other) : Stp other (qv one other 4) := by
  have key : ∀ u, Un u → Stp other u ∨ Stp other (vlft u) ∨ Stp other (vlft (vlft u)) ∨ Stp other (vlft (vlft (vlft u))) := by
    intro u hu
    have id := un_id hu h2
    have a1 := hu.lft
    have a2 := a1.lft
    have a3 := a2.lft
    have d1 := dot_lft (u := u) (v := other)
    have c1 := crs_lft (u := u) (v := other)
    have d2 : vdot (vlft (vlft u)) other = - vdot u other := by rw [dot_lft, crs_lft]
    have c2 : vcrs (vlft (vlft u)) other = - vcrs u other := by rw [crs_lft, dot_lft]
    have d3 : vdot (vlft (vlft (vlft u))) other = - vcrs u other := by rw [dot_lft, c2]
    have c3 : vcrs (vlft (vlft (vlft u))) other = vdot u other := by rw [crs_lft, d2]; grind
    by_cases p1 : 0 < vdot u other ∧ 0 ≤ vcrs u other
    · exact .inl (stp_of hu h2 p1.1 p1.2)
    · by_cases p2 : 0 < vcrs u other
      · refine .inr (.inl (stp_of a1 h2 (by rw [d1]; exact p2) ?_))
        rw [c1]
        have : ¬ 0 < vdot u other := fun z => p1 ⟨z, by grind⟩
        grind
      · by_cases p3 : vdot u other < 0
        · refine .inr (.inr (.inl (stp_of a2 h2 (by rw [d2]; grind) (by rw [c2]; grind))))
        · have hc : vcrs u other < 0 := by
            by_cases z : vcrs u other = 0
            · rw [z] at id
              have hd : vdot u other = 0 ∨ 0 < vdot u other := by grind
              rcases hd with hd | hd
              · rw [hd] at id; grind
              · exact absurd ⟨hd, by grind⟩ p1
            · grind
          exact .inr (.inr (.inr (stp_of a3 h2 (by rw [d3]; grind) (by rw [c3]; grind))))
  by_cases s0 : Stp other (qv one other 0)
  · exact (qv_stay (n := 1) s0 4).1
  by_cases s1 : Stp other (qv one other 1)
  · exact (qv_stay (n := 1) s1 3).1
  by_cases s2 : Stp other (qv one other 2)
  · exact (qv_stay (n := 1) s2 2).1
  by_cases s3 : Stp other (qv one other 3)
  · exact (qv_stay (n := 1) s3 1).1
  have e1 : qv one other 1 = vlft one := by
    show (if Stp other (qv one other 0) then _ else _) = _
    rw [if_neg s0]; rfl
  have e2 : qv one other 2 = vlft (vlft one) := by
    show (if Stp other (qv one other 1) then _ else _) = _
    rw [if_neg s1, e1]
  have e3 : qv one other 3 = vlft (vlft (vlft one)) := by
    show (if Stp other (qv one other 2) then _ else _) = _
    rw [if_neg s2, e2]
  rw [e3] at s3
  rw [e2] at s2
  rw [e1] at s1
  rcases key one h1 with h | h | h | h
  · exact absurd h s0
  · exact absurd h s1
  · exact absurd h s2
  · exact absurd h s3
theorem tb_one : tb 1 = (0, 1) := by
  unfold tb
  exact Prod.ext (by show ((1 : Rat) - 1 * 1) / (1 + 1 * 1) = 0; grind) (by show ((1 : Rat) + 1) / (1 + 1 * 1) = 1; grind)
theorem prt_n {h : Rat} {n : Nat} (hn : 0 < n) : prt h n n = h := by
  have : ((n : Int) : Rat) ≠ 0 := fun e => by
    have := Rat.intCast_inj.mp (show ((n : Int) : Rat) = ((0 : Int) : Rat) from e)
    omega
  unfold prt
  grind
theorem rot_q {u : Vc} : rot u (0, 1) = vlft u := Prod.ext (by show u.1 * 0 - u.2 * 1 = 0 - u.2; grind) (by show u.1 * 1 + u.2 * 0 = u.1; grind)
theorem steps_last {u : Vc} {h : Rat} {n : Nat} (hn : 0 < n) (xs : List Vc) : (xs ++ stepsL u h n).getLast? = some (rot u (tb h)) := by
  unfold stepsL
  obtain ⟨m, rfl⟩ : ∃ m, n = m + 1 := ⟨n - 1, by omega⟩
  rw [List.range_succ, List.map_append, ← List.append_assoc]
  rw [List.map_singleton, List.getLast?_concat, prt_n hn]
theorem qf_last {one other : Vc} {n : Nat} (hn : 0 < n) : ∀ j, (qf one other n j).getLast? = some (qv one other j)
  | 0 => rfl
  | j + 1 => by
    show (if Stp other (qv one other j) then qf one other n j else qf one other n j ++ stepsL (qv one other j) 1 n).getLast? = some (if Stp other (qv one other j) then qv one other j else vlft (qv one other j))
    split
    · exact qf_last hn j
    · rw [steps_last hn, tb_one, rot_q]
theorem vlast {L : Sto} {R : PK} {p : Addr} {xs : List Vc} {v : Vc} (e : L p = some (.l (xs.map vc))) (h : xs.getLast? = some v) : oIx (.ref p) (.int (-1)) L R = R (vc v) L := by
  unfold oIx
  have hx : xs ≠ [] := fun z => by rw [z] at h; cases h
  have h1 : xs.map vc = (xs.map vc).dropLast ++ [vc v] := by
    have h2 : xs = xs.dropLast ++ [v] := by
      have := List.dropLast_concat_getLast hx
      rw [List.getLast?_eq_some_getLast hx] at h
      cases h
      exact this.symm
    conv => lhs; rw [h2]
    rw [List.map_append, ← List.map_dropLast]; rfl
  have h3 : atI (xs.map vc) (-1) = some (vc v) := by rw [h1]; exact atI_last _ _
  simp only [e, h3]
theorem qf_len {one other : Vc} {n : Nat} : ∀ j, (qf one other n j).length ≤ 1 + j * n
  | 0 => by show 1 ≤ _; omega
  | j + 1 => by
    have ih := qf_len (one := one) (other := other) (n := n) j
    rw [Nat.succ_mul]
    unfold qf
    split
    · omega
    · rw [List.length_append]
      unfold stepsL
      rw [List.length_map, List.length_range]
      omega
theorem SzV.prtQ {a b : Nat} {u v : Vc} (hu : SzV a u) (hv : SzV b v) (h : 1 + vdot u v ≠ 0) : Sz (a + b + (a + b) + 1 + (1 + (a + b + (a + b) + 1) + 1)) (prtQ u v) := (hu.crs hv).div ((sz1 (Nat.le_refl 1)).add (hu.dot hv)) h
theorem dot_ne {u v : Vc} (hs : Stp v u) (hn : u ≠ v) : 1 + vdot u v ≠ 0 := by
  rcases hs with h | h
  · exact absurd h hn
  · have := h.2
    grind
def s_quarters_between : Spec := fun args L R => ∃ (u v : Vc) (n a b : Nat), args = [vc u, vc v, .int n] ∧ Un u ∧ Un v ∧ SzV a u ∧ SzV b v ∧ a + b ≤ 200 ∧ 0 < n ∧ n < 1024 ∧ Fresh L R ((qres u v n).map vc)
/-! quarters_between(one, other, steps): 0 one, 1 other, 2 steps, 3 found, 4 last, 5 part -/
def d_quarters_between_3 : WS := sRet (wVar 3)
def d_quarters_between_2a_2 : WS := sExpr (wMt "list" mExtend (wVar 3) [wCall s_steps_on [wVar 4, wVar 5, wVar 2]])
def d_quarters_between_2a_1 : WS := sSeq (sAsg (gN 5) (wCall s_over [wCall s_cross [wVar 4, wVar 1], wCall s_added [wC (.tup [.int 1, .int 1]), wCall s_dot [wVar 4, wVar 1]]])) d_quarters_between_2a_2
def d_quarters_between_2a_0 : WS := sSeq (sAsg (gN 4) (wBin oIx (wVar 3) (wC (.int (-1))))) d_quarters_between_2a_1
def d_quarters_between_2 : WS := sSeq (sIf (wBin oNe (wBin oIx (wVar 3) (wC (.int (-1)))) (wVar 1)) d_quarters_between_2a_0 sNil) d_quarters_between_3
def d_quarters_between_1w_0 : WS := sExpr (wMt "list" mExtend (wVar 3) [wCall s_steps_on [wBin oIx (wVar 3) (wC (.int (-1))), wC (.tup [.int 1, .int 1]), wVar 2]])
def d_quarters_between_1 : WS := sSeq (sWhile (wAnd (wBin oNe (wBin oIx (wVar 3) (wC (.int (-1)))) (wVar 1)) (wUn oNot (wCall s_is_in_quarter [wBin oIx (wVar 3) (wC (.int (-1))), wVar 1]))) d_quarters_between_1w_0) d_quarters_between_2
def d_quarters_between_0 : WS := sSeq (sAsg (gN 3) (wLst [wVar 0])) d_quarters_between_1
theorem mext {L : Sto} {R : PK} {p q : Addr} {xs ys : List PV} (e : L p = some (.l xs)) (f : L q = some (.l ys)) (h : xs.length + ys.length ≤ sizeLine ∧ R .non (put L p (.l (xs ++ ys)))) : mExtend (.ref p) [.ref q] L R := ⟨xs, ys, e, f, h⟩
theorem ok_quarters_between : ∀ args L R, args.length = 3 → s_quarters_between args L R → d_quarters_between_0 (initE 6 args) L { nx := fun _ L' => R .non L', rt := R } := by
  rintro _ L R _ ⟨u, v, n, a, b, rfl, hu, hv, su, sv, hab, hn0, hn, k⟩
  unfold d_quarters_between_0
  show sSeq _ _ [some (vc u), some (vc v), some (.int n), none, none, none] L _
  walk_at "ev"
  intro p hp
  unfold d_quarters_between_1
  walk_at "ev"
  refine ⟨fun m env l => ∃ j, env = [some (vc u), some (vc v), some (.int n), some (.ref p), none, none] ∧ j ≤ 4 ∧ m = 4 - j ∧ Le L l ∧ l p = some (.l ((qf u v n j).map vc)), ⟨4, 0, rfl, by omega, rfl, Le.new hp, put_same⟩, ?_⟩
  rintro m env l ⟨j, rfl, hj, rfl, hl, e⟩
  have sq := qv_sz (other := v) su j
  have szq := sq.mono (b := 900) (by omega)
  have szv := sv.mono (b := 900) (by omega)
  walk_at "ev"
  rw [vlast e (qf_last hn0 j)]
  walk_at "ev"
  -- the end of the walk
  have fin : Stp v (qv u v j) → d_quarters_between_2 [some (vc u), some (vc v), some (.int n), some (.ref p), none, none] l { nx := fun _ L' => R .non L', rt := R } := by
    intro hs
    have st := qv_stay (n := n) hs (4 - j)
    rw [show j + (4 - j) = 4 by omega] at st
    unfold d_quarters_between_2
    walk_at "ev"
    rw [vlast e (qf_last hn0 j)]
    walk_at "ev"
    by_cases hq : qv u v j = v
    · rw [if_pos hq]
      unfold d_quarters_between_3
      walk_at "ev"
      refine k p l hp hl ?_
      rw [e]
      unfold qres
      rw [if_pos (by rw [st.2.1]; exact hq), st.2.2]
    · rw [if_neg hq]
      unfold d_quarters_between_2a_0
      walk_at "ev"
      rw [vlast e (qf_last hn0 j)]
      walk_at "ev"
      unfold d_quarters_between_2a_1
      walk_at "ev"
      rw [fr_one]
      have hne := dot_ne hs hq
      refine ⟨_, _, rfl, szq.mono (by decide), szv.mono (by decide), _, _, rfl, szq.mono (by decide), szv.mono (by decide), ?_⟩
      have sc := (sq.crs sv)
      have sd := (sq.dot sv)
      have s1 := sz1 (Nat.le_refl 1)
      refine ⟨_, _, rfl, s1.B (by decide), sd.B (by omega), _, _, rfl, hne, sc.B (by omega), (s1.add sd).B (by omega), ?_⟩
      unfold d_quarters_between_2a_2
      walk_at "ev"
      refine ⟨.inl ⟨rfl, _, e⟩, ?_⟩
      refine ⟨_, _, _, _, _, rfl, sq, SzV.prtQ sq sv hne, hn0, hn, by omega, by omega, ?_⟩
      intro q l2 hq2 hl2 e2
      refine mext (hl2 _ _ e) e2 ⟨?_, ?_⟩
      · rw [List.length_map, List.length_map]
        have := qf_len (one := u) (other := v) (n := n) j
        unfold stepsL
        rw [List.length_map, List.length_range]
        have : j * n ≤ 4 * n := Nat.mul_le_mul_right n hj
        show _ ≤ 16777216
        omega
      · unfold d_quarters_between_3
        walk_at "ev"
        refine k p _ hp ((hl.trans hl2).put hp) ?_
        rw [put_same, ← List.map_append]
        unfold qres
        rw [if_neg (by rw [st.2.1]; exact hq), st.2.2, st.2.1]
        rfl
  by_cases hq : qv u v j = v
  · rw [if_pos hq]
    exact fin (.inl hq)
  · rw [if_neg hq, vlast e (qf_last hn0 j)]
    refine ⟨_, _, rfl, szq, szv, ?_⟩
    walk_at "ev"
    by_cases hi : InQ (qv u v j) v
    · rw [if_pos hi]
      exact fin (.inr hi)
    · rw [if_neg hi]
      have hns : ¬ Stp v (qv u v j) := fun z => z.elim hq hi
      have hj4 : j < 4 := by
        rcases Nat.lt_or_ge j 4 with h | h
        · exact h
        · have : j = 4 := by omega
          subst this
          exact absurd (qv_stop hu hv) hns
      unfold d_quarters_between_1w_0
      walk_at "ev"
      refine ⟨.inl ⟨rfl, _, e⟩, ?_⟩
      rw [vlast e (qf_last hn0 j)]
      rw [fr_one]
      refine ⟨_, _, _, _, _, rfl, sq, sz1 (Nat.le_refl 1), hn0, hn, by omega, by omega, ?_⟩
      intro q l2 hq2 hl2 e2
      refine mext (hl2 _ _ e) e2 ⟨?_, ?_⟩
      · rw [List.length_map, List.length_map]
        have := qf_len (one := u) (other := v) (n := n) j
        unfold stepsL
        rw [List.length_map, List.length_range]
        have : j * n ≤ 4 * n := Nat.mul_le_mul_right n hj
        show _ ≤ 16777216
        omega
      · refine ⟨4 - (j + 1), by omega, j + 1, by omega, rfl, (hl.trans hl2).put hp, ?_⟩
        rw [put_same, ← List.map_append]
        conv => rhs; unfold qf
        rw [if_neg hns]
end Mp
namespace Mp
open PySem PySem.Spec PyProof.Rows L2
local macro_rules | `(tactic| walk_at "ev") => `(tactic| try simp only [oEq_ff, oNe_ff, oEq_vv, oNe_vv, e_gTv, vc_mk, vx0, vx1, if_true, if_false, decide_true, decide_false, Bool.not_true, Bool.not_false, Bool.false_eq_true, reduceCtorEq, e_gS, e_gT, e_gsL0, e_gsL1, e_gsN0, e_gsN1, e_r1, e_r1K, e_r2, e_r2K, e_any, e_lsT, e_zpT, e_enT, e_en, e_zp, e_z3, e_revt, e_tru, tru_bl, tru_int, tru_non, tru_tup, e_disp, e_prs0, e_prs1, List.zip_nil_left, e_rv, e_for, e_comp, e_mt, e_wipe0, e_wipe1, fr0, fr1, ix0, ix1, ix2, ix3, bIf_t, bIf_f, bIf_d, bIf_n, oEq_ii, oNe_ii, oEq_bb, oNe_bb, List.set_cons_zero, List.set_cons_succ, List.zip_cons_cons, List.zip_nil_right, List.foldl_cons, List.foldl_nil, e_add, e_addI, e_addt, e_addl, e_sub, e_mul, e_div, e_mod, e_pow, e_oI, e_neg, e_not, e_isn, e_isnn, e_isb, e_isnb, e_isN_non, e_isN_bl, e_isN_int, e_isN_tup, e_isN_ref, e_isN_fz, e_isN_fr, e_isN_str, e_lent, e_lenz, e_abs, e_int, e_intb, e_dvm, e_min, e_max, e_listt, e_listz, e_tupt, e_str, gv_0, gv_s, e_slt, e_slz, e_v0, e_v1, e_v2, e_v3, e_v4, e_v5, e_v6, e_v7, e_v8, e_v9, e_v10, e_v11, e_v12, e_v13, e_v14, e_v15, e_v16, e_v17, e_v18, e_v19, e_v20, e_v21, e_v22, e_v23, e_v24, e_v25, e_v26, e_v27, e_v28, e_v29, e_v30, e_v31, e_v32, e_v33, e_v34, e_v35, e_v36, e_v37, e_v38, e_v39, e_ar0, e_ar1, e_gN, e_par, e_c, e_bin, e_un, e_and, e_or, e_ife, e_chain, e_tup, e_lst, e_bi, e_call, e_sl, e_no, e_so, e_nil, e_seq, e_expr, e_ret, e_retn, e_asg, e_if, e_brk, e_cnt, sz_0, sz_1, sz_2, sz_3, sz_4, sz_5, sz_6, sz_7, sz_8, sz_9, sz_10, sz_11, sz_12, sz_13, sz_14, sz_15, sz_16, sz_17, sz_18, sz_19, true_and, isi_non_int, isi_non_bool, isi_non_str, isi_non_tuple, isi_non_list, isi_non_dict, isi_bl_int, isi_bl_bool, isi_bl_str, isi_bl_tuple, isi_bl_list, isi_bl_dict, isi_int_int, isi_int_bool, isi_int_str, isi_int_tuple, isi_int_list, isi_int_dict, isi_str_int, isi_str_bool, isi_str_str, isi_str_tuple, isi_str_list, isi_str_dict, isi_tup_int, isi_tup_bool, isi_tup_str, isi_tup_tuple, isi_tup_list, isi_tup_dict, isi_fz_int, isi_fz_bool, isi_fz_str, isi_fz_tuple, isi_fz_list, isi_fz_dict])
/-! ### the walk of quarters, in numbers -/
def Nxt (u v : Vc) : Prop := Un v ∧ 0 < vcrs u v ∧ 0 ≤ vdot u v
def Chn (r : Vc → Vc → Prop) : Vc → List Vc → Prop
  | _, [] => True
  | u, v :: t => r u v ∧ Chn r v t
theorem Chn.app {r : Vc → Vc → Prop} : ∀ {xs : List Vc} {u w : Vc} {ys : List Vc}, Chn r u xs → (u :: xs).getLast? = some w → Chn r w ys → Chn r u (xs ++ ys)
  | [], u, w, ys, _, e, k => by cases e; exact k
  | x :: xs, u, w, ys, h, e, k => ⟨h.1, Chn.app (xs := xs) h.2 (by rw [List.getLast?_cons_cons] at e; exact e) k⟩
theorem Chn.get {r : Vc → Vc → Prop} : ∀ {t : List Vc} {u x y : Vc} {i : Nat}, Chn r u t → (u :: t)[i]? = some x → t[i]? = some y → r x y
  | v :: t, u, x, y, 0, h, e, f => by cases e; cases f; exact h.1
  | v :: t, u, x, y, i + 1, h, e, f => Chn.get (t := t) h.2 (by simpa using e) (by simpa using f)
  | [], _, _, _, _, _, _, f => by simp at f
theorem rot_un {u b : Vc} (hu : Un u) (hb : Un b) : Un (rot u b) := by
  unfold Un rot at *
  have : (u.1 * b.1 - u.2 * b.2) * (u.1 * b.1 - u.2 * b.2) + (u.1 * b.2 + u.2 * b.1) * (u.1 * b.2 + u.2 * b.1) = (u.1 * u.1 + u.2 * u.2) * (b.1 * b.1 + b.2 * b.2) := by grind
  show (u.1 * b.1 - u.2 * b.2) * (u.1 * b.1 - u.2 * b.2) + (u.1 * b.2 + u.2 * b.1) * (u.1 * b.2 + u.2 * b.1) = 1
  rw [this, hu, hb]
  grind
theorem tb_un (h : Rat) : Un (tb h) := by
  have k := one_sq h
  unfold Un tb
  show (1 - h * h) / (1 + h * h) * ((1 - h * h) / (1 + h * h)) + (h + h) / (1 + h * h) * ((h + h) / (1 + h * h)) = 1
  grind
theorem rot_crs {u a b : Vc} (hu : Un u) : vcrs (rot u a) (rot u b) = vcrs a b := by
  unfold Un rot vcrs at *
  show (u.1 * a.1 - u.2 * a.2) * (u.1 * b.2 + u.2 * b.1) - (u.1 * a.2 + u.2 * a.1) * (u.1 * b.1 - u.2 * b.2) = a.1 * b.2 - a.2 * b.1
  have : (u.1 * a.1 - u.2 * a.2) * (u.1 * b.2 + u.2 * b.1) - (u.1 * a.2 + u.2 * a.1) * (u.1 * b.1 - u.2 * b.2) = (u.1 * u.1 + u.2 * u.2) * (a.1 * b.2 - a.2 * b.1) := by grind
  rw [this, hu]
  grind
theorem rot_dot {u a b : Vc} (hu : Un u) : vdot (rot u a) (rot u b) = vdot a b := by
  unfold Un rot vdot at *
  show (u.1 * a.1 - u.2 * a.2) * (u.1 * b.1 - u.2 * b.2) + (u.1 * a.2 + u.2 * a.1) * (u.1 * b.2 + u.2 * b.1) = a.1 * b.1 + a.2 * b.2
  have : (u.1 * a.1 - u.2 * a.2) * (u.1 * b.1 - u.2 * b.2) + (u.1 * a.2 + u.2 * a.1) * (u.1 * b.2 + u.2 * b.1) = (u.1 * u.1 + u.2 * u.2) * (a.1 * b.1 + a.2 * b.2) := by grind
  rw [this, hu]
  grind
theorem div_pos {x y : Rat} (h : 0 < x) (k : 0 < y) : 0 < x / y := by
  rw [Rat.div_def]
  exact Rat.mul_pos h (Rat.inv_pos.mpr k)
theorem div_nn {x y : Rat} (h : 0 ≤ x) (k : 0 < y) : 0 ≤ x / y := by
  rw [Rat.div_def]
  exact Rat.mul_nonneg h (Rat.le_of_lt (Rat.inv_pos.mpr k))
theorem pos_sq (h : Rat) : 0 < 1 + h * h := by
  have := sq_nn h
  grind
theorem div2 {x y A B : Rat} (hA : A ≠ 0) (hB : B ≠ 0) : x / A * (y / B) = x * y / (A * B) := by
  rw [Rat.div_def, Rat.div_def, Rat.div_def, Rat.inv_mul_rev]
  grind
theorem div_s {x y C : Rat} : x / C - y / C = (x - y) / C := by
  rw [Rat.div_def, Rat.div_def, Rat.div_def]; grind
theorem div_a {x y C : Rat} : x / C + y / C = (x + y) / C := by
  rw [Rat.div_def, Rat.div_def, Rat.div_def]; grind
theorem tb_crs {a b : Rat} (h0 : 0 ≤ a) (h1 : a < b) : 0 < vcrs (tb a) (tb b) := by
  have ka := one_sq a
  have kb := one_sq b
  have : vcrs (tb a) (tb b) = 2 * ((b - a) * (1 + a * b)) / ((1 + a * a) * (1 + b * b)) := by
    unfold vcrs tb
    show (1 - a * a) / (1 + a * a) * ((b + b) / (1 + b * b)) - (a + a) / (1 + a * a) * ((1 - b * b) / (1 + b * b)) = _
    rw [div2 ka kb, div2 ka kb, div_s]
    congr 1
    grind
  rw [this]
  refine div_pos ?_ (Rat.mul_pos (pos_sq a) (pos_sq b))
  have hb : 0 ≤ b := by grind
  have := Rat.mul_nonneg h0 hb
  have h2 : 0 < (b - a) * (1 + a * b) := Rat.mul_pos (by grind) (by grind)
  grind
theorem tb_dot {a b : Rat} (h0 : 0 ≤ a) (h1 : a ≤ b) (h2 : b ≤ 1) : 0 ≤ vdot (tb a) (tb b) := by
  have ka := one_sq a
  have kb := one_sq b
  have : vdot (tb a) (tb b) = ((1 - a * a) * (1 - b * b) + 4 * (a * b)) / ((1 + a * a) * (1 + b * b)) := by
    unfold vdot tb
    show (1 - a * a) / (1 + a * a) * ((1 - b * b) / (1 + b * b)) + (a + a) / (1 + a * a) * ((b + b) / (1 + b * b)) = _
    rw [div2 ka kb, div2 ka kb, div_a]
    congr 1
    grind
  rw [this]
  refine div_nn ?_ (Rat.mul_pos (pos_sq a) (pos_sq b))
  have hb : 0 ≤ b := by grind
  have q1 := Rat.mul_nonneg h0 hb
  have q2 : 0 ≤ (1 - a) * (1 + a) := Rat.mul_nonneg (by grind) (by grind)
  have q3 : 0 ≤ (1 - b) * (1 + b) := Rat.mul_nonneg (by grind) (by grind)
  have q4 := Rat.mul_nonneg q2 q3
  have e : (1 - a * a) * (1 - b * b) = (1 - a) * (1 + a) * ((1 - b) * (1 + b)) := by grind
  rw [e]
  grind
theorem natRat_pos {n : Nat} (h : 0 < n) : (0 : Rat) < ((n : Int) : Rat) := by
  have := Rat.intCast_lt_intCast.mpr (show (0 : Int) < (n : Int) by omega)
  exact this
theorem prt_lt {h : Rat} {n k : Nat} (hh : 0 < h) (hn : 0 < n) : prt h n k < prt h n (k + 1) := by
  have hp := natRat_pos hn
  have e : prt h n (k + 1) - prt h n k = h / ((n : Int) : Rat) := by
    unfold prt
    have : (((k + 1 : Nat) : Int) : Rat) = ((k : Int) : Rat) + 1 := by
      rw [show ((k + 1 : Nat) : Int) = (k : Int) + 1 by omega, Rat.intCast_add]; rfl
    rw [this]
    grind
  have := div_pos hh hp
  grind
theorem prt_zero {h : Rat} {n : Nat} : prt h n 0 = 0 := by
  unfold prt
  rw [show (((0 : Nat) : Int) : Rat) = 0 from rfl, Rat.div_def]
  grind
theorem prt_nn {h : Rat} {n : Nat} (hh : 0 < h) (hn : 0 < n) : ∀ k, 0 ≤ prt h n k
  | 0 => by rw [prt_zero]; exact Rat.le_refl
  | k + 1 => by
    have := prt_nn hh hn k
    have := prt_lt (k := k) hh hn
    grind
theorem prt_le {h : Rat} {n : Nat} (hh : 0 < h) (hn : 0 < n) : ∀ d k, k + d = n → prt h n k ≤ h
  | 0, k, e => by
    rw [show k = n by omega, prt_n hn]; exact Rat.le_refl
  | d + 1, k, e => by
    have := prt_le hh hn d (k + 1) (by omega)
    have := prt_lt (k := k) hh hn
    grind
theorem tb_zero : tb 0 = (1, 0) := by
  unfold tb
  exact Prod.ext (by show ((1 : Rat) - 0 * 0) / (1 + 0 * 0) = 1; grind) (by show ((0 : Rat) + 0) / (1 + 0 * 0) = 0; grind)
theorem rot_id {u : Vc} : rot u (1, 0) = u := Prod.ext (by show u.1 * 1 - u.2 * 0 = u.1; grind) (by show u.1 * 0 + u.2 * 1 = u.2; grind)
theorem chn_range {r : Vc → Vc → Prop} {f : Nat → Vc} (n : Nat) (h : ∀ k, k < n → r (f k) (f (k + 1))) : ∀ m, m ≤ n → Chn r (f 0) ((List.range m).map fun k => f (k + 1)) ∧ (f 0 :: (List.range m).map fun k => f (k + 1)).getLast? = some (f m)
  | 0, _ => ⟨trivial, rfl⟩
  | m + 1, hm => by
    obtain ⟨h1, h2⟩ := chn_range n h m (by omega)
    rw [List.range_succ, List.map_append]
    refine ⟨h1.app h2 ⟨h m (by omega), trivial⟩, ?_⟩
    rw [List.map_singleton, ← List.cons_append, List.getLast?_concat]
theorem steps_chn {u : Vc} {h : Rat} {n : Nat} (hu : Un u) (hh : 0 < h) (h1 : h ≤ 1) (hn : 0 < n) : Chn Nxt u (stepsL u h n) := by
  have e0 : rot u (tb (prt h n 0)) = u := by rw [prt_zero, tb_zero, rot_id]
  have := (chn_range (r := Nxt) (f := fun k => rot u (tb (prt h n k))) n (fun k hk => ⟨rot_un hu (tb_un _), by
    show 0 < vcrs (rot u (tb (prt h n k))) (rot u (tb (prt h n (k + 1))))
    rw [rot_crs hu]
    exact tb_crs (prt_nn hh hn k) (prt_lt hh hn), by
    show 0 ≤ vdot (rot u (tb (prt h n k))) (rot u (tb (prt h n (k + 1))))
    rw [rot_dot hu]
    exact tb_dot (prt_nn hh hn k) (Rat.le_of_lt (prt_lt hh hn)) (Rat.le_trans (prt_le hh hn (n - (k + 1)) (k + 1) (by omega)) h1)⟩) n (Nat.le_refl n)).1
  rw [e0] at this
  exact this
theorem q_part {u v : Vc} (hu : Un u) (hv : Un v) (hi : InQ u v) : 0 < prtQ u v ∧ prtQ u v ≤ 1 ∧ rot u (tb (prtQ u v)) = v := by
  obtain ⟨hc, hd⟩ := hi
  have id := un_id hu hv
  unfold prtQ
  have e1 : u.1 * vdot u v - u.2 * vcrs u v = v.1 := by
    unfold vdot vcrs
    have : u.1 * (u.1 * v.1 + u.2 * v.2) - u.2 * (u.1 * v.2 - u.2 * v.1) = (u.1 * u.1 + u.2 * u.2) * v.1 := by grind
    rw [this, hu]
    grind
  have e2 : u.1 * vcrs u v + u.2 * vdot u v = v.2 := by
    unfold vdot vcrs
    have : u.1 * (u.1 * v.2 - u.2 * v.1) + u.2 * (u.1 * v.1 + u.2 * v.2) = (u.1 * u.1 + u.2 * u.2) * v.2 := by grind
    rw [this, hu]
    grind
  generalize vdot u v = c at *
  generalize vcrs u v = s at *
  have hc1 : 0 < 1 + c := by grind
  have hle : s ≤ 1 + c := by
    rcases Rat.le_total (a := s) (b := 1 + c) with h | h
    · exact h
    · have h1 : 0 ≤ (s - (1 + c)) * (s + (1 + c)) := Rat.mul_nonneg (by grind) (by grind)
      have h2 : 0 < c * (1 + c) := Rat.mul_pos hd hc1
      have h3 : (s - (1 + c)) * (s + (1 + c)) = (c * c + s * s - 1) - 2 * (c * (1 + c)) := by grind
      rw [h3, id] at h1
      grind
  refine ⟨div_pos hc hc1, ?_, ?_⟩
  · have h3 : 0 ≤ ((1 + c) - s) / (1 + c) := div_nn (by grind) hc1
    have h4 : ((1 + c) - s) / (1 + c) = 1 - s / (1 + c) := by grind
    rw [h4] at h3
    grind
  · have ne : 1 + c ≠ 0 := by grind
    have k := one_sq (s / (1 + c))
    have t1 : (1 - s / (1 + c) * (s / (1 + c))) / (1 + s / (1 + c) * (s / (1 + c))) = c := by
      have m : 1 - s / (1 + c) * (s / (1 + c)) = c * (1 + s / (1 + c) * (s / (1 + c))) := by
        have : s * s = (1 - c) * (1 + c) := by grind
        grind
      rw [m]
      grind
    have t2 : (s / (1 + c) + s / (1 + c)) / (1 + s / (1 + c) * (s / (1 + c))) = s := by
      have m : s / (1 + c) + s / (1 + c) = s * (1 + s / (1 + c) * (s / (1 + c))) := by
        have : s * s = (1 - c) * (1 + c) := by grind
        grind
      rw [m]
      grind
    unfold rot tb
    rw [t1, t2]
    exact Prod.ext e1 e2
theorem qf_cons {one other : Vc} {n : Nat} (h1 : Un one) (hn : 0 < n) : ∀ j, ∃ t, qf one other n j = one :: t ∧ Chn Nxt one t
  | 0 => ⟨[], rfl, trivial⟩
  | j + 1 => by
    obtain ⟨t, e, h⟩ := qf_cons (other := other) h1 hn j
    show ∃ t, (if Stp other (qv one other j) then qf one other n j else qf one other n j ++ stepsL (qv one other j) 1 n) = one :: t ∧ _
    split
    · exact ⟨t, e, h⟩
    · refine ⟨t ++ stepsL (qv one other j) 1 n, by rw [e]; rfl, ?_⟩
      have hl := qf_last (one := one) (other := other) hn j
      rw [e] at hl
      exact h.app hl (steps_chn (qv_un h1 j) (by decide) Rat.le_refl hn)
theorem qres_ok {one other : Vc} {n : Nat} (h1 : Un one) (h2 : Un other) (hn : 0 < n) : ∃ t, qres one other n = one :: t ∧ Chn Nxt one t ∧ (qres one other n).getLast? = some other := by
  obtain ⟨t, e, h⟩ := qf_cons (other := other) h1 hn 4
  have hl := qf_last (one := one) (other := other) hn 4
  unfold qres
  by_cases hq : qv one other 4 = other
  · rw [if_pos hq]
    exact ⟨t, e, h, by rw [hl, hq]⟩
  · rw [if_neg hq]
    have hi : InQ (qv one other 4) other := (qv_stop h1 h2).elim (fun z => absurd z hq) id
    obtain ⟨p1, p2, p3⟩ := q_part (qv_un h1 4) h2 hi
    refine ⟨t ++ stepsL (qv one other 4) (prtQ (qv one other 4) other) n, by rw [e]; rfl, ?_, ?_⟩
    · rw [e] at hl
      exact h.app hl (steps_chn (qv_un h1 4) p1 p2 hn)
    · rw [steps_last hn, p3]
theorem steps_sz {u : Vc} {h : Rat} {n a b : Nat} (hu : SzV a u) (hh : Sz b h) (hn : 0 < n) (hn' : n < 1024) : ∀ x ∈ stepsL u h n, SzV (2 * a + 8 * b + 90) x := by
  intro x hx
  unfold stepsL at hx
  obtain ⟨k, hk, rfl⟩ := List.mem_map.mp hx
  have hk := List.mem_range.mp hk
  exact (hu.rot (SzV.tb (hh.mul (sz_kn (k := k + 1) hn (by omega) hn')))).mono (by omega)
theorem qres_sz {u v : Vc} {n a b : Nat} (hu : SzV a u) (hv : SzV b v) (h1 : Un u) (h2 : Un v) (hn : 0 < n) (hn' : n < 1024) : ∀ x ∈ qres u v n, SzV (2 * a + 32 * (a + b) + 140) x := by
  have key : ∀ j, ∀ x ∈ qf u v n j, SzV (2 * a + 32 * (a + b) + 140) x := by
    intro j
    induction j with
    | zero =>
      intro x hx
      rw [List.mem_singleton.mp hx]
      exact hu.mono (by omega)
    | succ j ih =>
      intro x hx
      have hx : x ∈ (if Stp v (qv u v j) then qf u v n j else qf u v n j ++ stepsL (qv u v j) 1 n) := hx
      split at hx
      · exact ih x hx
      · rcases List.mem_append.mp hx with h | h
        · exact ih x h
        · exact (steps_sz (qv_sz hu j) (sz1 (Nat.le_refl 1)) hn hn' x h).mono (by omega)
  intro x hx
  unfold qres at hx
  split at hx
  · exact key 4 x hx
  · rename_i hq
    rcases List.mem_append.mp hx with h | h
    · exact key 4 x h
    · exact (steps_sz (qv_sz hu 4) (SzV.prtQ (qv_sz hu 4) hv (dot_ne (qv_stop h1 h2) hq)) hn hn' x h).mono (by omega)
end Mp
namespace Mp
open PySem PySem.Spec PyProof.Rows L2
/-- the turn of three units -/
def D3 (a u v : Vc) : Rat := vcrs a u + vcrs u v + vcrs v a
def A1 (a u : Vc) : Rat := 1 - vdot a u
theorem d3_as {a u v : Vc} (ha : Un a) : D3 a u v = A1 a v * vcrs a u - A1 a u * vcrs a v := by
  unfold D3 A1 vcrs vdot Un at *
  grind
theorem d3_trans {a u v w : Vc} (ha : Un a) : D3 a u v * A1 a w + D3 a v w * A1 a u = D3 a u w * A1 a v := by
  rw [d3_as ha, d3_as ha, d3_as ha]
  grind
theorem d3_vdm {a u v w : Vc} (ha : Un a) (hu : Un u) (hv : Un v) (hw : Un w) : D3 a u v * D3 a v w * D3 a u w = 2 * (A1 a u * A1 a v * A1 a w) * D3 u v w := by
  unfold D3 A1 vcrs vdot Un at *
  grind
theorem rat_tri (a b : Rat) : a < b ∨ a = b ∨ b < a := by
  rcases Rat.le_total (a := a) (b := b) with q | q
  · by_cases h : a = b
    · exact .inr (.inl h)
    · exact .inl (by grind)
  · by_cases h : a = b
    · exact .inr (.inl h)
    · exact .inr (.inr (by grind))
theorem pos_of_mul {x y : Rat} (h : 0 < x * y) (k : 0 < y) : 0 < x := by
  rcases rat_tri x 0 with q | q | q
  · have := Rat.mul_pos (show 0 < -x by grind) k
    grind
  · rw [q] at h; grind
  · exact q
theorem a1_nn {u v : Vc} (hu : Un u) (hv : Un v) : 0 ≤ A1 u v := by
  have h := un_id hu hv
  unfold A1
  have := sq_nn (vcrs u v)
  rcases Rat.le_total (a := vdot u v) (b := 1) with q | q
  · grind
  · have : 0 ≤ (vdot u v - 1) * (vdot u v + 1) := Rat.mul_nonneg (by grind) (by grind)
    have : vdot u v * vdot u v = 1 := by grind
    have : 0 ≤ (vdot u v - 1) * vdot u v := Rat.mul_nonneg (by grind) (by grind)
    grind
theorem un_inj {a u v : Vc} (ha : Un a) (hd : vdot a u = vdot a v) (hc : vcrs a u = vcrs a v) : u = v := by
  unfold Un vdot vcrs at *
  exact Prod.ext (by grind) (by grind)
theorem a1_zero {u v : Vc} (hu : Un u) (hv : Un v) : A1 u v = 0 ↔ v = u := by
  refine ⟨fun h => ?_, fun h => ?_⟩
  · have hd : vdot u v = 1 := by unfold A1 at h; grind
    have h2 := un_id hu hv
    have hc : vcrs u v = 0 := by
      rw [hd] at h2
      have : vcrs u v * vcrs u v = 0 := by grind
      rcases Rat.mul_eq_zero.mp this with q | q <;> exact q
    refine un_inj hu (by rw [hd]; exact hu.symm) (by rw [hc]; unfold vcrs; grind)
  · subst h
    unfold A1
    have : vdot v v = 1 := hu
    grind
theorem a1_pos {u v : Vc} (hu : Un u) (hv : Un v) (h : v ≠ u) : 0 < A1 u v := by
  have h1 := a1_nn hu hv
  have h2 : A1 u v ≠ 0 := fun z => h ((a1_zero hu hv).mp z)
  grind
/-- met ahead, going to the left from a -/
def Bf (a u v : Vc) : Prop := (u = a ∧ v ≠ a) ∨ 0 < D3 a u v
theorem d3_l {a v : Vc} : D3 a a v = 0 := by unfold D3 vcrs; grind
theorem d3_r {a u : Vc} : D3 a u a = 0 := by unfold D3 vcrs; grind
theorem d3_m {a u : Vc} : D3 a u u = 0 := by unfold D3 vcrs; grind
theorem d3_cyc {a u v : Vc} : D3 a u v = D3 u v a := by unfold D3; grind
theorem d3_neg {a u v : Vc} : D3 a v u = - D3 a u v := by unfold D3 vcrs; grind
theorem Bf.ne_r {a u v : Vc} (h : Bf a u v) : v ≠ a := by
  rcases h with h | h
  · exact h.2
  · intro e; subst e; rw [d3_r] at h; grind
theorem Bf.irr {a u : Vc} (h : Bf a u u) : False := by
  rcases h with h | h
  · exact h.2 h.1
  · rw [d3_m] at h; grind
theorem Bf.trans {a u v w : Vc} (ha : Un a) (hu : Un u) (hv : Un v) (hw : Un w) (h : Bf a u v) (k : Bf a v w) : Bf a u w := by
  have hva := h.ne_r
  have hwa := k.ne_r
  rcases h with h | h
  · exact .inl ⟨h.1, hwa⟩
  · rcases k with k | k
    · exact absurd k.1 hva
    · by_cases hua : u = a
      · exact .inl ⟨hua, hwa⟩
      · refine .inr ?_
        have e := d3_trans (u := u) (v := v) (w := w) ha
        have p1 := Rat.mul_pos h (a1_pos ha hw hwa)
        have p2 := Rat.mul_pos k (a1_pos ha hu hua)
        exact pos_of_mul (y := A1 a v) (by grind) (a1_pos ha hv hva)
theorem Bf.asym {a u v : Vc} (ha : Un a) (hu : Un u) (hv : Un v) (h : Bf a u v) (k : Bf a v u) : False := (h.trans ha hu hv hu k).irr
theorem Bf.tri {a u v : Vc} (ha : Un a) (hu : Un u) (hv : Un v) (h : u ≠ v) : Bf a u v ∨ Bf a v u := by
  by_cases h1 : u = a
  · exact .inl (.inl ⟨h1, fun z => h (h1.trans z.symm)⟩)
  by_cases h2 : v = a
  · exact .inr (.inl ⟨h2, h1⟩)
  have hz : D3 a u v ≠ 0 := by
    intro z
    have p1 := a1_pos ha hu h1
    have p2 := a1_pos ha hv h2
    have i1 := un_id ha hu
    have i2 := un_id ha hv
    rw [d3_as ha] at z
    -- the same share
    have e1 : A1 a u = A1 a v := by
      unfold A1 at *
      generalize vdot a u = c at *
      generalize vdot a v = d at *
      generalize vcrs a u = s at *
      generalize vcrs a v = t at *
      have q1 : s * s = (1 - c) * (1 + c) := by grind
      have q2 : t * t = (1 - d) * (1 + d) := by grind
      have q3 : (1 - d) * (1 - d) * (s * s) = (1 - c) * (1 - c) * (t * t) := by grind
      rw [q1, q2] at q3
      have q4 : (1 - c) * (1 - d) * ((1 - d) * (1 + c) - (1 - c) * (1 + d)) = 0 := by grind
      have q5 := Rat.mul_pos p1 p2
      rcases Rat.mul_eq_zero.mp q4 with q | q
      · grind
      · grind
    refine h (un_inj ha (by unfold A1 at e1; grind) ?_)
    rw [e1] at z
    have : A1 a v * (vcrs a u - vcrs a v) = 0 := by grind
    rcases Rat.mul_eq_zero.mp this with q | q
    · grind
    · grind
  rcases rat_tri (D3 a u v) 0 with q | q | q
  · exact .inr (.inr (by rw [d3_neg]; grind))
  · exact absurd q hz
  · exact .inl (.inr q)

/-- in which half, from a first one -/
def hf (a u : Vc) : Nat := if 0 < vcrs a u then 1 else if vcrs a u < 0 then 3 else if u = a then 0 else 2
def Ahd (a u v : Vc) : Prop := if hf a u = hf a v then 0 < vcrs u v else hf a u < hf a v
theorem crs_rel {a u v : Vc} (ha : Un a) : vcrs u v = vdot a u * vcrs a v - vcrs a u * vdot a v := by
  unfold Un vdot vcrs at *
  grind
theorem dot_rel {a u v : Vc} (ha : Un a) : vdot u v = vdot a u * vdot a v + vcrs a u * vcrs a v := by
  unfold Un vdot vcrs at *
  grind
theorem crs_zero {a u : Vc} (ha : Un a) (hu : Un u) (h : vcrs a u = 0) (n : u ≠ a) : vdot a u = -1 := by
  have i := un_id ha hu
  rw [h] at i
  have p := a1_pos ha hu n
  unfold A1 at p
  have : (vdot a u - 1) * (vdot a u + 1) = 0 := by grind
  rcases Rat.mul_eq_zero.mp this with q | q <;> grind
theorem d3_dot {a u v : Vc} (ha : Un a) (hu : Un u) (hv : Un v) : D3 a u v * (1 + vdot u v) = vcrs u v * (1 + vdot u v - vdot a u - vdot a v) := by
  unfold D3 vcrs vdot Un at *
  grind
theorem same_side {a u v : Vc} (ha : Un a) (hu : Un u) (hv : Un v) (h : 0 < vcrs a u * vcrs a v) : (0 < vcrs u v ↔ 0 < D3 a u v) := by
  have e := d3_dot ha hu hv
  have d := dot_rel (u := u) (v := v) ha
  have n1 : u ≠ a := by intro z; subst z; have : vcrs u u = 0 := by unfold vcrs; grind
                        rw [this] at h; grind
  have n2 : v ≠ a := by intro z; subst z; have : vcrs v v = 0 := by unfold vcrs; grind
                        rw [this] at h; grind
  have p1 := a1_pos ha hu n1
  have p2 := a1_pos ha hv n2
  have p3 := Rat.mul_pos p1 p2
  have q1 : 0 < 1 + vdot u v - vdot a u - vdot a v := by
    unfold A1 at p3
    grind
  have q2 : 0 < 1 + vdot u v := by
    have i := un_id hu hv
    have nn : 0 ≤ 1 + vdot u v := by
      rcases Rat.le_total (a := -1) (b := vdot u v) with q | q
      · grind
      · have : 0 ≤ (-1 - vdot u v) * (1 - vdot u v) := Rat.mul_nonneg (by grind) (by grind)
        have := sq_nn (vcrs u v)
        have : (vdot u v - 1) * (vdot u v + 1) = 0 := by grind
        rcases Rat.mul_eq_zero.mp this with q | q <;> grind
    rcases rat_tri 0 (1 + vdot u v) with q | q | q
    · exact q
    · exfalso
      have hd : vdot u v = -1 := by grind
      have hc : vcrs u v = 0 := by
        rw [hd] at i
        have : vcrs u v * vcrs u v = 0 := by grind
        rcases Rat.mul_eq_zero.mp this with q | q <;> exact q
      have : vcrs a v = - vcrs a u := by
        unfold Un vdot vcrs at *
        grind
      rw [this] at h
      have := sq_nn (vcrs a u)
      grind
    · grind
  constructor
  · intro k
    exact pos_of_mul (y := 1 + vdot u v) (by rw [e]; exact Rat.mul_pos k q1) q2
  · intro k
    exact pos_of_mul (y := 1 + vdot u v - vdot a u - vdot a v) (by rw [← e]; exact Rat.mul_pos k q2) q1
theorem neg_mul_pos {x y : Rat} (h : x < 0) (k : y < 0) : 0 < x * y := by
  have := Rat.mul_pos (show 0 < -x by grind) (show 0 < -y by grind)
  grind
theorem ahd_bf {a u v : Vc} (ha : Un a) (hu : Un u) (hv : Un v) : Ahd a u v ↔ Bf a u v := by
  have cs : ∀ w : Vc, Un w → (0 < vcrs a w ∧ hf a w = 1 ∧ w ≠ a ∧ 0 < A1 a w) ∨ (vcrs a w < 0 ∧ hf a w = 3 ∧ w ≠ a ∧ 0 < A1 a w) ∨ (w = a ∧ hf a w = 0) ∨ (vcrs a w = 0 ∧ hf a w = 2 ∧ w ≠ a ∧ A1 a w = 2) := by
    intro w hw
    have self : w = a → vcrs a w = 0 := by intro z; subst z; unfold vcrs; grind
    by_cases e : w = a
    · have := self e
      refine .inr (.inr (.inl ⟨e, ?_⟩))
      unfold hf
      rw [this, if_neg (by grind), if_neg (by grind), if_pos e]
    have p := a1_pos ha hw e
    rcases rat_tri (vcrs a w) 0 with q | q | q
    · refine .inr (.inl ⟨q, ?_, e, p⟩)
      unfold hf
      rw [if_neg (by grind), if_pos q]
    · refine .inr (.inr (.inr ⟨q, ?_, e, ?_⟩))
      · unfold hf
        rw [if_neg (by grind), if_neg (by grind), if_neg e]
      · unfold A1
        rw [crs_zero ha hw q e]
        grind
    · refine .inl ⟨q, ?_, e, p⟩
      unfold hf
      rw [if_pos q]
  have hd := d3_as (u := u) (v := v) ha
  have hc := crs_rel (u := u) (v := v) ha
  unfold Ahd Bf
  rcases cs u hu with ⟨q1, q2, q3, q4⟩ | ⟨q1, q2, q3, q4⟩ | ⟨q1, q2⟩ | ⟨q1, q2, q3, q4⟩ <;> rcases cs v hv with ⟨k1, k2, k3, k4⟩ | ⟨k1, k2, k3, k4⟩ | ⟨k1, k2⟩ | ⟨k1, k2, k3, k4⟩ <;> rw [q2, k2]
  · have := same_side ha hu hv (Rat.mul_pos q1 k1)
    simp [q3]; exact this
  · have := Rat.mul_pos k4 q1
    have := Rat.mul_pos q4 (show 0 < -vcrs a v by grind)
    simp [q3]; grind
  · subst k1; simp [q3, d3_r, Rat.lt_irrefl]
  · simp [q3]; rw [hd, k1, k4]; grind
  · have := Rat.mul_pos q4 k1
    have := Rat.mul_pos k4 (show 0 < -vcrs a u by grind)
    simp [q3]; grind
  · have := same_side ha hu hv (neg_mul_pos q1 k1)
    simp [q3]; exact this
  · subst k1; simp [q3, d3_r, Rat.lt_irrefl]
  · simp [q3]; rw [hd, k1, k4]; grind
  · simp [q1, k3]
  · simp [q1, k3]
  · subst q1 k1; simp [d3_r, Rat.lt_irrefl]; unfold vcrs; grind
  · simp [q1, k3]
  · simp [q3]; rw [hd, q1, q4]; grind
  · simp [q3]; rw [hd, q1, q4]; grind
  · subst k1; simp [q3, d3_r, Rat.lt_irrefl]
  · simp [q3]; rw [hd, hc, q1, k1]; grind

/-! ### units, ahead of one another -/
theorem un_vdm {a u v w : Vc} (ha : Un a) (hu : Un u) (hv : Un v) (hw : Un w) (h : Bf a u v) (k : Bf a v w) : 0 < D3 u v w := by
  have hva := h.ne_r
  have hwa := k.ne_r
  have k' : 0 < D3 a v w := k.elim (fun z => absurd z.1 hva) id
  by_cases hua : u = a
  · rw [hua]; exact k'
  have h' : 0 < D3 a u v := h.elim (fun z => absurd z.1 hua) id
  have t := h.trans ha hu hv hw k
  have t' : 0 < D3 a u w := t.elim (fun z => absurd z.1 hua) id
  have e := d3_vdm ha hu hv hw
  have p := Rat.mul_pos (Rat.mul_pos h' k') t'
  rw [e] at p
  have q := Rat.mul_pos (Rat.mul_pos (a1_pos ha hu hua) (a1_pos ha hv hva)) (a1_pos ha hw hwa)
  exact pos_of_mul (y := 2 * (A1 a u * A1 a v * A1 a w)) (by grind) (by grind)
/-- a unit with its x turned about -/
def mir (u : Vc) : Vc := (-u.1, u.2)
theorem mir_mir {u : Vc} : mir (mir u) = u := Prod.ext (by show - -u.1 = u.1; grind) rfl
theorem mir_un {u : Vc} (h : Un u) : Un (mir u) := by
  unfold Un mir at *
  show -u.1 * -u.1 + u.2 * u.2 = 1
  grind
theorem mir_crs {u v : Vc} : vcrs (mir u) (mir v) = - vcrs u v := by unfold vcrs mir; grind
theorem mir_dot {u v : Vc} : vdot (mir u) (mir v) = vdot u v := by unfold vdot mir; grind
theorem mir_inj {u v : Vc} (h : mir u = mir v) : u = v := by rw [← mir_mir (u := u), h, mir_mir]
theorem mir_d3 {a u v : Vc} : D3 (mir a) (mir u) (mir v) = - D3 a u v := by
  unfold D3
  rw [mir_crs, mir_crs, mir_crs]
  grind
/-- from the other end -/
theorem mir_bf {f e u v : Vc} (hf : Un f) (he : Un e) (hu : Un u) (hv : Un v) (h : Bf f u v) (k : v = e ∨ Bf f v e) : Bf (mir e) (mir v) (mir u) := by
  rcases k with k | k
  · subst k
    exact .inl ⟨rfl, fun z => by have e := mir_inj z; rw [e] at h; exact h.irr⟩
  · refine .inr ?_
    rw [mir_d3, ← d3_neg, d3_cyc]
    exact un_vdm hf hu hv he h k
/-- rising lists of units -/
def Asc (a : Vc) (xs : List Vc) : Prop := xs.Pairwise (Bf a) ∧ ∀ x ∈ xs, Un x
theorem Asc.uniq {a : Vc} (ha : Un a) : ∀ {xs ys : List Vc}, Asc a xs → Asc a ys → (∀ z, z ∈ xs ↔ z ∈ ys) → xs = ys
  | [], [], _, _, _ => rfl
  | [], y :: ys, _, _, h => absurd ((h y).mpr List.mem_cons_self) List.not_mem_nil
  | x :: xs, [], _, _, h => absurd ((h x).mp List.mem_cons_self) List.not_mem_nil
  | x :: xs, y :: ys, ⟨h1, u1⟩, ⟨h2, u2⟩, h => by
    rw [List.pairwise_cons] at h1 h2
    have e : x = y := by
      by_cases e : x = y
      · exact e
      exfalso
      have m1 : x ∈ ys := (List.mem_cons.mp ((h x).mp List.mem_cons_self)).resolve_left e
      have m2 : y ∈ xs := (List.mem_cons.mp ((h y).mpr List.mem_cons_self)).resolve_left fun z => e z.symm
      exact (h1.1 y m2).asym ha (u1 x List.mem_cons_self) (u1 y (List.mem_cons_of_mem _ m2)) (h2.1 x m1)
    subst e
    congr 1
    refine Asc.uniq ha ⟨h1.2, fun z hz => u1 z (List.mem_cons_of_mem _ hz)⟩ ⟨h2.2, fun z hz => u2 z (List.mem_cons_of_mem _ hz)⟩ fun z => ⟨fun hz => ?_, fun hz => ?_⟩
    · refine (List.mem_cons.mp ((h z).mp (List.mem_cons_of_mem _ hz))).resolve_left fun q => ?_
      subst q
      exact (h1.1 z hz).irr
    · refine (List.mem_cons.mp ((h z).mpr (List.mem_cons_of_mem _ hz))).resolve_left fun q => ?_
      subst q
      exact (h2.1 z hz).irr
instance {a u v : Vc} : Decidable (Ahd a u v) := by unfold Ahd; infer_instance
/-- two rising lists as one -/
def mrg (a : Vc) : List Vc → List Vc → List Vc
  | [], ys => ys
  | x :: xs, [] => x :: xs
  | x :: xs, y :: ys => if x = y then x :: mrg a xs ys else if Ahd a x y then x :: mrg a xs (y :: ys) else y :: mrg a (x :: xs) ys
termination_by xs ys => xs.length + ys.length
theorem mrg_mem {a z : Vc} : ∀ {xs ys : List Vc}, z ∈ mrg a xs ys ↔ (z ∈ xs ∨ z ∈ ys)
  | [], ys => by rw [mrg]; simp
  | x :: xs, [] => by rw [mrg]; simp
  | x :: xs, y :: ys => by
    rw [mrg]
    have i1 := mrg_mem (a := a) (z := z) (xs := xs) (ys := ys)
    have i2 := mrg_mem (a := a) (z := z) (xs := xs) (ys := y :: ys)
    have i3 := mrg_mem (a := a) (z := z) (xs := x :: xs) (ys := ys)
    split
    · rename_i e
      subst e
      simp only [List.mem_cons, i1]
      grind
    · split
      · simp only [List.mem_cons, i2]; grind
      · simp only [List.mem_cons, i3]; grind
termination_by xs ys => xs.length + ys.length
theorem Asc.tail {a x : Vc} {xs : List Vc} (h : Asc a (x :: xs)) : Asc a xs := ⟨(List.pairwise_cons.mp h.1).2, fun z hz => h.2 z (List.mem_cons_of_mem _ hz)⟩
theorem Asc.head {a x z : Vc} {xs : List Vc} (h : Asc a (x :: xs)) (hz : z ∈ xs) : Bf a x z := (List.pairwise_cons.mp h.1).1 z hz
theorem Asc.mrg {a : Vc} (ha : Un a) : ∀ {xs ys : List Vc}, Asc a xs → Asc a ys → Asc a (mrg a xs ys)
  | [], ys, _, h => by rw [Mp.mrg]; exact h
  | x :: xs, [], h, _ => by rw [Mp.mrg]; exact h
  | x :: xs, y :: ys, hx, hy => by
    rw [Mp.mrg]
    have ux := hx.2 x List.mem_cons_self
    have uy := hy.2 y List.mem_cons_self
    split
    · rename_i e
      subst e
      have i := Asc.mrg ha hx.tail hy.tail
      refine ⟨List.pairwise_cons.mpr ⟨fun z hz => ?_, i.1⟩, fun z hz => ?_⟩
      · rcases mrg_mem.mp hz with q | q
        · exact hx.head q
        · exact hy.head q
      · rcases List.mem_cons.mp hz with q | q
        · rw [q]; exact ux
        · exact i.2 z q
    · rename_i hne
      split
      · rename_i h
        have h := (ahd_bf ha ux uy).mp h
        have i := Asc.mrg ha hx.tail hy
        refine ⟨List.pairwise_cons.mpr ⟨fun z hz => ?_, i.1⟩, fun z hz => ?_⟩
        · rcases mrg_mem.mp hz with q | q
          · exact hx.head q
          · rcases List.mem_cons.mp q with q | q
            · rw [q]; exact h
            · exact h.trans ha ux uy (hy.2 z (List.mem_cons_of_mem _ q)) (hy.head q)
        · rcases List.mem_cons.mp hz with q | q
          · rw [q]; exact ux
          · exact i.2 z q
      · rename_i h
        have h : Bf a y x := (Bf.tri ha ux uy hne).elim (fun z => absurd ((ahd_bf ha ux uy).mpr z) h) id
        have i := Asc.mrg ha hx hy.tail
        refine ⟨List.pairwise_cons.mpr ⟨fun z hz => ?_, i.1⟩, fun z hz => ?_⟩
        · rcases mrg_mem.mp hz with q | q
          · rcases List.mem_cons.mp q with q | q
            · rw [q]; exact h
            · exact h.trans ha uy ux (hx.2 z (List.mem_cons_of_mem _ q)) (hx.head q)
          · exact hy.head q
        · rcases List.mem_cons.mp hz with q | q
          · rw [q]; exact uy
          · exact i.2 z q
termination_by xs ys => xs.length + ys.length
/-- put into a rising list, where it is none of it -/
def insA (a : Vc) (F : List Vc) (u : Vc) : List Vc := if u ∈ F then F else F.take (F.filter fun v => decide (Ahd a v u)).length ++ [u] ++ F.drop (F.filter fun v => decide (Ahd a v u)).length
theorem ins_mem {a z u : Vc} {F : List Vc} : z ∈ insA a F u ↔ (z ∈ F ∨ z = u) := by
  unfold insA
  split
  · rename_i h
    exact ⟨.inl, fun q => q.elim id fun q => q ▸ h⟩
  · generalize (F.filter fun v => decide (Ahd a v u)).length = k
    have : z ∈ F ↔ (z ∈ F.take k ∨ z ∈ F.drop k) := by rw [← List.mem_append, List.take_append_drop]
    rw [List.mem_append, List.mem_append, List.mem_singleton, this]
    grind
theorem Asc.ins {a u : Vc} (ha : Un a) (hu : Un u) : ∀ {F : List Vc}, Asc a F → Asc a (insA a F u)
  | F, hF => by
    unfold insA
    split
    · exact hF
    rename_i hm
    refine ⟨?_, fun z hz => ?_⟩
    · induction F with
      | nil => simp
      | cons x F ih =>
        have ux := hF.2 x List.mem_cons_self
        have hxu : x ≠ u := fun z => hm (z ▸ List.mem_cons_self)
        rw [List.filter_cons]
        split
        · rename_i h
          have h : Bf a x u := (ahd_bf ha ux hu).mp (by simpa using h)
          rw [List.length_cons, List.take_succ_cons, List.drop_succ_cons]
          have i := ih hF.tail fun z => hm (List.mem_cons_of_mem _ z)
          refine List.pairwise_cons.mpr ⟨fun z hz => ?_, i⟩
          have hz : z ∈ F.take (F.filter fun v => decide (Ahd a v u)).length ++ [u] ++ F.drop (F.filter fun v => decide (Ahd a v u)).length := hz
          rw [List.append_assoc, List.mem_append, List.mem_append, List.mem_singleton] at hz
          rcases hz with q | q | q
          · exact hF.head (List.mem_of_mem_take q)
          · rw [q]; exact h
          · exact hF.head (List.mem_of_mem_drop q)
        · rename_i h
          have h : Bf a u x := (Bf.tri ha ux hu hxu).elim (fun z => absurd ((ahd_bf ha ux hu).mpr z) (by simpa using h)) id
          have e : F.filter (fun v => decide (Ahd a v u)) = [] := by
            rw [List.filter_eq_nil_iff]
            intro z hz q
            have q : Bf a z u := (ahd_bf ha (hF.2 z (List.mem_cons_of_mem _ hz)) hu).mp (by simpa using q)
            exact q.asym ha (hF.2 z (List.mem_cons_of_mem _ hz)) hu (h.trans ha hu ux (hF.2 z (List.mem_cons_of_mem _ hz)) (hF.head hz))
          rw [e]
          show (u :: x :: F).Pairwise (Bf a)
          refine List.pairwise_cons.mpr ⟨fun z hz => ?_, hF.1⟩
          rcases List.mem_cons.mp hz with q | q
          · rw [q]; exact h
          · exact h.trans ha hu ux (hF.2 z (List.mem_cons_of_mem _ q)) (hF.head q)
    · rw [List.append_assoc, List.mem_append, List.mem_append, List.mem_singleton] at hz
      rcases hz with q | q | q
      · exact hF.2 z (List.mem_of_mem_take q)
      · rw [q]; exact hu
      · exact hF.2 z (List.mem_of_mem_drop q)
/-! ### the walk of quarters rises -/
theorem d3_rot {b a u v : Vc} (hb : Un b) : D3 (rot b a) (rot b u) (rot b v) = D3 a u v := by
  unfold D3
  rw [rot_crs hb, rot_crs hb, rot_crs hb]
/-- quarter turns from a -/
def Qd (a b : Vc) (i : Nat) : Prop := vdot a b = (match i with | 0 => 1 | 1 => 0 | 2 => -1 | _ => 0) ∧ vcrs a b = (match i with | 0 => 0 | 1 => 1 | 2 => 0 | _ => -1)
theorem Qd.zero {a : Vc} (h : Un a) : Qd a a 0 := ⟨h, by unfold vcrs; grind⟩
theorem Qd.lft {a b : Vc} {i : Nat} (h : Qd a b i) (hi : i < 3) : Qd a (vlft b) (i + 1) := by
  have e1 : vdot a (vlft b) = - vcrs a b := by unfold vdot vcrs vlft; grind
  have e2 : vcrs a (vlft b) = vdot a b := by unfold vdot vcrs vlft; grind
  unfold Qd
  rw [e1, e2, h.1, h.2]
  match i, hi with
  | 0, _ => exact ⟨by decide, rfl⟩
  | 1, _ => exact ⟨by decide, rfl⟩
  | 2, _ => exact ⟨by decide, rfl⟩
theorem d3_tb {a b : Vc} {g h : Rat} (hb : Un b) : D3 a (rot b (tb g)) (rot b (tb h)) * ((1 + g * g) * (1 + h * h)) = 2 * (h - g) * ((1 - vdot a b) + (g + h) * vcrs a b + g * h * (1 + vdot a b)) := by
  have kg := one_sq g
  have kh := one_sq h
  have e1 : ∀ t : Vc, vcrs a (rot b t) = vcrs a b * t.1 + vdot a b * t.2 := fun t => by unfold vcrs vdot rot; grind
  have e2 : ∀ t : Vc, vcrs (rot b t) a = - (vcrs a b * t.1 + vdot a b * t.2) := fun t => by unfold vcrs vdot rot; grind
  unfold D3
  rw [e1, e2, rot_crs hb]
  generalize vcrs a b = s
  generalize vdot a b = c
  unfold vcrs tb
  show ((s * ((1 - g * g) / (1 + g * g)) + c * ((g + g) / (1 + g * g))) + ((1 - g * g) / (1 + g * g) * ((h + h) / (1 + h * h)) - (g + g) / (1 + g * g) * ((1 - h * h) / (1 + h * h))) + -(s * ((1 - h * h) / (1 + h * h)) + c * ((h + h) / (1 + h * h)))) * ((1 + g * g) * (1 + h * h)) = _
  have x1 : (1 - g * g) / (1 + g * g) * (1 + g * g) = 1 - g * g := by grind
  have x2 : (g + g) / (1 + g * g) * (1 + g * g) = g + g := by grind
  have x3 : (1 - h * h) / (1 + h * h) * (1 + h * h) = 1 - h * h := by grind
  have x4 : (h + h) / (1 + h * h) * (1 + h * h) = h + h := by grind
  generalize (1 - g * g) / (1 + g * g) = A at *
  generalize (g + g) / (1 + g * g) = B at *
  generalize (1 - h * h) / (1 + h * h) = C at *
  generalize (h + h) / (1 + h * h) = D at *
  grind
theorem tb_ne {a : Vc} {h : Rat} (ha : Un a) (hh : 0 < h) : rot a (tb h) ≠ a := by
  intro e
  have : vcrs a (rot a (tb h)) = (tb h).2 := by
    have : vcrs a (rot a (tb h)) = vcrs (rot a (1, 0)) (rot a (tb h)) := by rw [rot_id]
    rw [this, rot_crs ha]
    unfold vcrs
    grind
  rw [e] at this
  have z : vcrs a a = 0 := by unfold vcrs; grind
  rw [z] at this
  have p : 0 < (tb h).2 := div_pos (by grind) (pos_sq h)
  grind
theorem step_bf {a b : Vc} {i : Nat} {g h : Rat} (ha : Un a) (hb : Un b) (hq : Qd a b i) (hi : i ≤ 3) (h0 : 0 ≤ g) (h1 : g < h) (h2 : h ≤ 1) (h3 : i = 3 → h < 1) : Bf a (rot b (tb g)) (rot b (tb h)) := by
  have e := d3_tb (a := a) (g := g) (h := h) hb
  have pp := Rat.mul_pos (pos_sq g) (pos_sq h)
  have fin : 0 < (1 - vdot a b) + (g + h) * vcrs a b + g * h * (1 + vdot a b) → Bf a (rot b (tb g)) (rot b (tb h)) := fun k => by
    refine .inr (pos_of_mul (y := (1 + g * g) * (1 + h * h)) ?_ pp)
    rw [e]
    exact Rat.mul_pos (by grind) k
  rw [hq.1, hq.2] at fin
  match i, hi with
  | 0, _ =>
    by_cases hg : g = 0
    · -- from a itself
      have eb : b = a := un_inj ha (by rw [hq.1]; exact ha.symm) (by rw [hq.2]; unfold vcrs; grind)
      rw [hg, tb_zero, rot_id, eb]
      exact .inl ⟨rfl, tb_ne ha (by grind)⟩
    · have := Rat.mul_pos (show 0 < g by grind) (show 0 < h by grind)
      exact fin (by show (0 : Rat) < (1 - 1) + (g + h) * 0 + g * h * (1 + 1); grind)
  | 1, _ =>
    have := Rat.mul_nonneg h0 (show 0 ≤ h by grind)
    exact fin (by show (0 : Rat) < (1 - 0) + (g + h) * 1 + g * h * (1 + 0); grind)
  | 2, _ =>
    exact fin (by show (0 : Rat) < (1 - -1) + (g + h) * 0 + g * h * (1 + -1); grind)
  | 3, _ =>
    have := Rat.mul_pos (show 0 < 1 - g by have := h3 rfl; grind) (show 0 < 1 - h by have := h3 rfl; grind)
    exact fin (by show (0 : Rat) < (1 - 0) + (g + h) * -1 + g * h * (1 + 0); grind)
theorem steps_bf {a u : Vc} {h : Rat} {n i : Nat} (ha : Un a) (hu : Un u) (hq : Qd a u i) (hi : i ≤ 3) (hh : 0 < h) (h1 : h ≤ 1) (h3 : i = 3 → h < 1) (hn : 0 < n) : Chn (Bf a) u (stepsL u h n) := by
  have e0 : rot u (tb (prt h n 0)) = u := by rw [prt_zero, tb_zero, rot_id]
  have := (chn_range (r := Bf a) (f := fun k => rot u (tb (prt h n k))) n (fun k hk => by
    have l := prt_le hh hn (n - (k + 1)) (k + 1) (by omega)
    exact step_bf ha hu hq hi (prt_nn hh hn k) (prt_lt hh hn) (Rat.le_trans l h1) fun z => by have := h3 z; grind) n (Nat.le_refl n)).1
  rw [e0] at this
  exact this
theorem qf_bf {one other : Vc} {n : Nat} (h1 : Un one) (hn : 0 < n) : ∀ j, j ≤ 3 → (∀ k, k < j → ¬ Stp other (qv one other k)) → Qd one (qv one other j) j ∧ ∃ t, qf one other n j = one :: t ∧ Chn (Bf one) one t
  | 0, _, _ => ⟨Qd.zero h1, [], rfl, trivial⟩
  | j + 1, hj, hs => by
    obtain ⟨hq, t, e, hc⟩ := qf_bf (other := other) h1 hn j (by omega) fun k hk => hs k (by omega)
    have ef : qf one other n (j + 1) = if Stp other (qv one other j) then qf one other n j else qf one other n j ++ stepsL (qv one other j) 1 n := rfl
    have ev : qv one other (j + 1) = if Stp other (qv one other j) then qv one other j else vlft (qv one other j) := rfl
    have ns := hs j (by omega)
    rw [if_neg ns] at ef ev
    rw [ev, ef]
    refine ⟨hq.lft (by omega), t ++ stepsL (qv one other j) 1 n, by rw [e]; rfl, ?_⟩
    have hl := qf_last (one := one) (other := other) hn j
    rw [e] at hl
    exact hc.app hl (steps_bf h1 (qv_un h1 j) hq (by omega) (by decide) Rat.le_refl (fun z => by omega) hn)
theorem qf_end {one other : Vc} {n : Nat} (h1 : Un one) (h2 : Un other) (hn : 0 < n) : ∃ i, i ≤ 3 ∧ Qd one (qv one other 4) i ∧ ∃ t, qf one other n 4 = one :: t ∧ Chn (Bf one) one t := by
  have st : ∃ m, m ≤ 3 ∧ Stp other (qv one other m) ∧ ∀ k, k < m → ¬ Stp other (qv one other k) := by
    by_cases s0 : Stp other (qv one other 0)
    · exact ⟨0, by omega, s0, fun k h => by omega⟩
    by_cases s1 : Stp other (qv one other 1)
    · exact ⟨1, by omega, s1, fun k h => by rw [show k = 0 by omega]; exact s0⟩
    by_cases s2 : Stp other (qv one other 2)
    · exact ⟨2, by omega, s2, fun k h => by
        match k, h with
        | 0, _ => exact s0
        | 1, _ => exact s1⟩
    refine ⟨3, by omega, ?_, fun k h => by
        match k, h with
        | 0, _ => exact s0
        | 1, _ => exact s1
        | 2, _ => exact s2⟩
    have s4 := qv_stop h1 h2
    have e1 : qv one other 1 = vlft one := by
      show (if Stp other (qv one other 0) then _ else _) = _
      rw [if_neg s0]; rfl
    have e2 : qv one other 2 = vlft (vlft one) := by
      show (if Stp other (qv one other 1) then _ else _) = _
      rw [if_neg s1, e1]
    have e3 : qv one other 3 = vlft (vlft (vlft one)) := by
      show (if Stp other (qv one other 2) then _ else _) = _
      rw [if_neg s2, e2]
    by_cases s3 : Stp other (qv one other 3)
    · exact s3
    exfalso
    have e4 : qv one other 4 = vlft (vlft (vlft (vlft one))) := by
      show (if Stp other (qv one other 3) then _ else _) = _
      rw [if_neg s3, e3]
    have e5 : vlft (vlft (vlft (vlft one))) = one := Prod.ext (by show 0 - (0 - one.1) = one.1; grind) (by show 0 - (0 - one.2) = one.2; grind)
    rw [e4, e5] at s4
    exact s0 s4
  obtain ⟨m, hm, hs, hf⟩ := st
  obtain ⟨hq, t, e, hc⟩ := qf_bf (n := n) h1 hn m hm hf
  have y := qv_stay (n := n) hs (4 - m)
  rw [show m + (4 - m) = 4 by omega] at y
  rw [y.2.1, y.2.2]
  exact ⟨m, hm, hq, t, e, hc⟩
theorem chn_pw {a : Vc} (ha : Un a) : ∀ {t : List Vc} {u : Vc}, Un u → (∀ x ∈ t, Un x) → Chn (Bf a) u t → (u :: t).Pairwise (Bf a)
  | [], u, _, _, _ => List.pairwise_cons.mpr ⟨fun _ h => absurd h List.not_mem_nil, List.Pairwise.nil⟩
  | v :: t, u, hu, hx, hc => by
    have hv := hx v List.mem_cons_self
    have ht : ∀ x ∈ t, Un x := fun x h => hx x (List.mem_cons_of_mem _ h)
    have i := chn_pw ha hv ht hc.2
    refine List.pairwise_cons.mpr ⟨fun z hz => ?_, i⟩
    rcases List.mem_cons.mp hz with q | q
    · rw [q]; exact hc.1
    · exact hc.1.trans ha hu hv (ht z q) ((List.pairwise_cons.mp i).1 z q)
theorem chn_un : ∀ {t : List Vc} {u : Vc}, Chn Nxt u t → ∀ x ∈ t, Un x
  | [], _, _, x, h => absurd h List.not_mem_nil
  | v :: t, u, hc, x, h => by
    rcases List.mem_cons.mp h with q | q
    · rw [q]; exact hc.1.1
    · exact chn_un hc.2 x q
/-- what quarters_between tells rises -/
theorem qres_asc {one other : Vc} {n : Nat} (h1 : Un one) (h2 : Un other) (hn : 0 < n) : Asc one (qres one other n) := by
  obtain ⟨t0, e0, hc0, _⟩ := qres_ok (n := n) h1 h2 hn
  have hun : ∀ x ∈ t0, Un x := chn_un hc0
  have main : ∃ t, qres one other n = one :: t ∧ Chn (Bf one) one t := by
    obtain ⟨i, hi, hq, t, e, hc⟩ := qf_end (n := n) h1 h2 hn
    unfold qres
    by_cases hz : qv one other 4 = other
    · rw [if_pos hz]
      exact ⟨t, e, hc⟩
    · rw [if_neg hz]
      have hin : InQ (qv one other 4) other := (qv_stop h1 h2).elim (fun z => absurd z hz) id
      obtain ⟨p1, p2, p3⟩ := q_part (qv_un h1 4) h2 hin
      have p4 : prtQ (qv one other 4) other ≠ 1 := by
        intro z
        rw [z, tb_one, rot_q] at p3
        have y := hin.2
        generalize qv one other 4 = w at *
        rw [← p3] at y
        have z : vdot w (vlft w) = 0 := by unfold vdot vlft; grind
        rw [z] at y
        grind
      refine ⟨t ++ stepsL (qv one other 4) (prtQ (qv one other 4) other) n, by rw [e]; rfl, ?_⟩
      have hl := qf_last (one := one) (other := other) hn 4
      rw [e] at hl
      exact hc.app hl (steps_bf h1 (qv_un h1 4) hq hi p1 p2 (fun _ => by grind) hn)
  obtain ⟨t, e, hc⟩ := main
  have et : t = t0 := by rw [e] at e0; injection e0
  subst et
  rw [e]
  exact ⟨chn_pw h1 h1 hun hc, fun x hx => by
    rcases List.mem_cons.mp hx with q | q
    · rw [q]; exact h1
    · exact hun x q⟩
theorem last_bf {a e : Vc} : ∀ {xs : List Vc}, xs.Pairwise (Bf a) → xs.getLast? = some e → ∀ x ∈ xs, x = e ∨ Bf a x e
  | [], _, h, _, _ => by cases h
  | [x], _, h, z, hz => by
    cases h
    exact .inl (List.mem_singleton.mp hz)
  | x :: y :: r, hp, h, z, hz => by
    rw [List.getLast?_cons_cons] at h
    rw [List.pairwise_cons] at hp
    rcases List.mem_cons.mp hz with q | q
    · subst q
      exact .inr (hp.1 e (List.mem_of_getLast? h))
    · exact last_bf hp.2 h z q
/-- from the other end, mirrored -/
theorem asc_mir {f e : Vc} {xs : List Vc} (hf : Un f) (he : Un e) (h : Asc f xs) (hl : xs.getLast? = some e) : Asc (mir e) (xs.map mir).reverse := by
  refine ⟨?_, fun z hz => ?_⟩
  · rw [List.pairwise_reverse, List.pairwise_map]
    have hb := last_bf h.1 hl
    have : ∀ {ys : List Vc}, ys.Pairwise (Bf f) → (∀ y ∈ ys, Un y) → (∀ y ∈ ys, y = e ∨ Bf f y e) → ys.Pairwise fun u v => Bf (mir e) (mir v) (mir u) := by
      intro ys hy hu hx
      induction hy with
      | nil => exact .nil
      | @cons y ys p1 p2 ih =>
        refine List.pairwise_cons.mpr ⟨fun z hz => ?_, ih (fun z hz => hu z (List.mem_cons_of_mem _ hz)) fun z hz => hx z (List.mem_cons_of_mem _ hz)⟩
        exact mir_bf hf he (hu y List.mem_cons_self) (hu z (List.mem_cons_of_mem _ hz)) (p1 z hz) (hx z (List.mem_cons_of_mem _ hz))
    exact this h.1 h.2 hb
  · rw [List.mem_reverse, List.mem_map] at hz
    obtain ⟨w, hw, rfl⟩ := hz
    exact mir_un (h.2 w hw)
/-! ### units_between -/
def bck (one other : Vc) (n : Nat) : List Vc := ((qres (mir other) (mir one) n).map mir).reverse
def uni (one other : Vc) (n : Nat) : List Vc := mrg one (qres one other n) (bck one other n)
theorem bck_asc {one other : Vc} {n : Nat} (h1 : Un one) (h2 : Un other) (hn : 0 < n) : Asc one (bck one other n) := by
  obtain ⟨t, e, hc, hl⟩ := qres_ok (n := n) (mir_un h2) (mir_un h1) hn
  have := asc_mir (mir_un h2) (mir_un h1) (qres_asc (n := n) (mir_un h2) (mir_un h1) hn) hl
  rw [mir_mir] at this
  exact this
theorem uni_asc {one other : Vc} {n : Nat} (h1 : Un one) (h2 : Un other) (hn : 0 < n) : Asc one (uni one other n) := Asc.mrg h1 (qres_asc h1 h2 hn) (bck_asc h1 h2 hn)
theorem mem_bck {one other z : Vc} {n : Nat} : z ∈ bck one other n ↔ mir z ∈ qres (mir other) (mir one) n := by
  unfold bck
  rw [List.mem_reverse, List.mem_map]
  exact ⟨fun ⟨w, h, e⟩ => by rw [← e, mir_mir]; exact h, fun h => ⟨_, h, mir_mir⟩⟩
theorem mem_uni {one other z : Vc} {n : Nat} : z ∈ uni one other n ↔ (z ∈ qres one other n ∨ mir z ∈ qres (mir other) (mir one) n) := by
  unfold uni
  rw [mrg_mem, mem_bck]
theorem one_mem {one other : Vc} {n : Nat} (h1 : Un one) (h2 : Un other) (hn : 0 < n) : one ∈ qres one other n := by
  obtain ⟨t, e, hc, hl⟩ := qres_ok (n := n) h1 h2 hn
  rw [e]
  exact List.mem_cons_self
theorem oth_mem {one other : Vc} {n : Nat} (h1 : Un one) (h2 : Un other) (hn : 0 < n) : other ∈ qres one other n := by
  obtain ⟨t, e, hc, hl⟩ := qres_ok (n := n) h1 h2 hn
  exact List.mem_of_getLast? hl
theorem uni_last {one other : Vc} {n : Nat} (h1 : Un one) (h2 : Un other) (hn : 0 < n) : ∀ x ∈ uni one other n, x = other ∨ Bf one x other := by
  intro x hx
  unfold uni at hx
  obtain ⟨t, e, hc, hl⟩ := qres_ok (n := n) h1 h2 hn
  rcases mrg_mem.mp hx with q | q
  · exact last_bf (qres_asc h1 h2 hn).1 hl x q
  · refine last_bf (bck_asc h1 h2 hn).1 ?_ x q
    obtain ⟨t, e, hc, hl⟩ := qres_ok (n := n) (mir_un h2) (mir_un h1) hn
    unfold bck
    rw [e, List.map_cons, List.reverse_cons, List.getLast?_concat, mir_mir]
theorem asc_last {a e : Vc} (ha : Un a) (he : Un e) : ∀ {xs : List Vc}, Asc a xs → e ∈ xs → (∀ x ∈ xs, x = e ∨ Bf a x e) → xs.getLast? = some e
  | [], _, h, _ => absurd h List.not_mem_nil
  | [x], _, h, _ => by rw [List.mem_singleton.mp h]; rfl
  | x :: y :: r, hx, h, hl => by
    rw [List.getLast?_cons_cons]
    refine asc_last ha he hx.tail ?_ fun z hz => hl z (List.mem_cons_of_mem _ hz)
    refine (List.mem_cons.mp h).resolve_left fun z => ?_
    have h1 := hx.head (z := y) List.mem_cons_self
    rw [← z] at h1
    rcases hl y (List.mem_cons_of_mem _ List.mem_cons_self) with q | q
    · rw [q] at h1; exact h1.irr
    · exact h1.asym ha he (hx.2 y (List.mem_cons_of_mem _ List.mem_cons_self)) q
theorem uni_end {one other : Vc} {n : Nat} (h1 : Un one) (h2 : Un other) (hn : 0 < n) : (uni one other n).getLast? = some other :=
  asc_last h1 h2 (uni_asc h1 h2 hn) (mem_uni.mpr (.inl (oth_mem h1 h2 hn))) (uni_last h1 h2 hn)
theorem asc_first {a : Vc} (ha : Un a) {xs : List Vc} (h : Asc a xs) (hm : a ∈ xs) : ∃ t, xs = a :: t := by
  match xs, hm, h with
  | x :: r, hm, h =>
    rcases List.mem_cons.mp hm with q | q
    · exact ⟨r, by rw [q]⟩
    · exact absurd rfl (h.head q).ne_r
theorem uni_head {one other : Vc} {n : Nat} (h1 : Un one) (h2 : Un other) (hn : 0 < n) : ∃ t, uni one other n = one :: t :=
  asc_first h1 (uni_asc h1 h2 hn) (mem_uni.mpr (.inl (one_mem h1 h2 hn)))
/-- the same from either end -/
theorem uni_mir {one other : Vc} {n : Nat} (h1 : Un one) (h2 : Un other) (hn : 0 < n) : ((uni (mir other) (mir one) n).map mir).reverse = uni one other n := by
  have m1 := mir_un h1
  have m2 := mir_un h2
  have := asc_mir m2 m1 (uni_asc m2 m1 hn) (uni_end m2 m1 hn)
  rw [mir_mir] at this
  refine this.uniq h1 (uni_asc h1 h2 hn) fun z => ?_
  rw [List.mem_reverse, List.mem_map, mem_uni]
  constructor
  · rintro ⟨w, hw, rfl⟩
    rw [mem_uni, mir_mir, mir_mir] at hw
    rw [mir_mir]
    exact hw.symm
  · intro h
    refine ⟨mir z, ?_, mir_mir⟩
    rw [mem_uni, mir_mir, mir_mir, mir_mir]
    exact h.symm
/-- what is left by putting in one by one -/
theorem ins_all {one other : Vc} {n : Nat} (h1 : Un one) (h2 : Un other) (hn : 0 < n) : (qres one other n ++ (qres (mir other) (mir one) n).map mir).foldl (insA one) [] = uni one other n := by
  have key : ∀ (xs F : List Vc), Asc one F → (∀ x ∈ xs, Un x) → Asc one (xs.foldl (insA one) F) ∧ ∀ z, z ∈ xs.foldl (insA one) F ↔ (z ∈ F ∨ z ∈ xs) := by
    intro xs
    induction xs with
    | nil => intro F hF _; exact ⟨hF, fun z => ⟨.inl, fun h => h.elim id fun q => absurd q List.not_mem_nil⟩⟩
    | cons x xs ih =>
      intro F hF hx
      rw [List.foldl_cons]
      obtain ⟨i1, i2⟩ := ih (insA one F x) (Asc.ins h1 (hx x List.mem_cons_self) hF) fun z hz => hx z (List.mem_cons_of_mem _ hz)
      refine ⟨i1, fun z => ?_⟩
      rw [i2 z, ins_mem, List.mem_cons]
      grind
  have a1 := qres_asc (n := n) h1 h2 hn
  have a2 := qres_asc (n := n) (mir_un h2) (mir_un h1) hn
  obtain ⟨i1, i2⟩ := key (qres one other n ++ (qres (mir other) (mir one) n).map mir) [] ⟨.nil, fun x h => absurd h List.not_mem_nil⟩ fun x hx => by
    rcases List.mem_append.mp hx with q | q
    · exact a1.2 x q
    · obtain ⟨w, hw, rfl⟩ := List.mem_map.mp q
      exact mir_un (a2.2 w hw)
  refine i1.uniq h1 (uni_asc h1 h2 hn) fun z => ?_
  rw [i2 z, mem_uni, List.mem_append, List.mem_map]
  constructor
  · rintro (q | q | ⟨w, hw, rfl⟩)
    · exact absurd q List.not_mem_nil
    · exact .inl q
    · rw [mir_mir]; exact .inr hw
  · rintro (q | q)
    · exact .inr (.inl q)
    · exact .inr (.inr ⟨_, q, mir_mir⟩)
/-! ### units turned alike -/
theorem rot_comm {u b : Vc} : rot u b = rot b u := Prod.ext (by show u.1 * b.1 - u.2 * b.2 = b.1 * u.1 - b.2 * u.2; grind) (by show u.1 * b.2 + u.2 * b.1 = b.1 * u.2 + b.2 * u.1; grind)
theorem rot_rot {u b c : Vc} : rot (rot u b) c = rot (rot u c) b := by
  unfold rot
  exact Prod.ext (by show (u.1 * b.1 - u.2 * b.2) * c.1 - (u.1 * b.2 + u.2 * b.1) * c.2 = (u.1 * c.1 - u.2 * c.2) * b.1 - (u.1 * c.2 + u.2 * c.1) * b.2; grind) (by show (u.1 * b.1 - u.2 * b.2) * c.2 + (u.1 * b.2 + u.2 * b.1) * c.1 = (u.1 * c.1 - u.2 * c.2) * b.2 + (u.1 * c.2 + u.2 * c.1) * b.1; grind)
theorem rot_lft {u b : Vc} : rot (vlft u) b = vlft (rot u b) := Prod.ext (by show (0 - u.2) * b.1 - u.1 * b.2 = 0 - (u.1 * b.2 + u.2 * b.1); grind) (by show (0 - u.2) * b.2 + u.1 * b.1 = u.1 * b.1 - u.2 * b.2; grind)
theorem rotr_crs {b u v : Vc} (hb : Un b) : vcrs (rot u b) (rot v b) = vcrs u v := by rw [rot_comm, rot_comm (u := v), rot_crs hb]
theorem rotr_dot {b u v : Vc} (hb : Un b) : vdot (rot u b) (rot v b) = vdot u v := by rw [rot_comm, rot_comm (u := v), rot_dot hb]
theorem rot_back {b u : Vc} (hb : Un b) : rot (rot u b) (b.1, -b.2) = u := by
  unfold Un rot at *
  exact Prod.ext (by show (u.1 * b.1 - u.2 * b.2) * b.1 - (u.1 * b.2 + u.2 * b.1) * -b.2 = u.1; grind) (by show (u.1 * b.1 - u.2 * b.2) * -b.2 + (u.1 * b.2 + u.2 * b.1) * b.1 = u.2; grind)
theorem rotr_inj {b u v : Vc} (hb : Un b) : rot u b = rot v b ↔ u = v := ⟨fun h => by rw [← rot_back (u := u) hb, h, rot_back hb], fun h => by rw [h]⟩
theorem rotr_d3 {b a u v : Vc} (hb : Un b) : D3 (rot a b) (rot u b) (rot v b) = D3 a u v := by
  unfold D3
  rw [rotr_crs hb, rotr_crs hb, rotr_crs hb]
theorem rotr_bf {b a u v : Vc} (hb : Un b) : Bf (rot a b) (rot u b) (rot v b) ↔ Bf a u v := by
  unfold Bf
  rw [rotr_d3 hb, rotr_inj hb, ne_eq, rotr_inj hb]
theorem rotr_stp {b u v : Vc} (hb : Un b) : Stp (rot v b) (rot u b) ↔ Stp v u := by
  unfold Stp InQ
  rw [rotr_inj hb, rotr_crs hb, rotr_dot hb]
theorem rotr_qv {b one other : Vc} (hb : Un b) : ∀ j, qv (rot one b) (rot other b) j = rot (qv one other j) b
  | 0 => rfl
  | j + 1 => by
    show (if Stp (rot other b) (qv (rot one b) (rot other b) j) then qv (rot one b) (rot other b) j else vlft (qv (rot one b) (rot other b) j)) = rot (if Stp other (qv one other j) then qv one other j else vlft (qv one other j)) b
    rw [rotr_qv hb j]
    by_cases h : Stp other (qv one other j)
    · rw [if_pos h, if_pos ((rotr_stp hb).mpr h)]
    · rw [if_neg h, if_neg fun z => h ((rotr_stp hb).mp z), rot_lft]
theorem rotr_steps {b u : Vc} {h : Rat} {n : Nat} : stepsL (rot u b) h n = (stepsL u h n).map fun x => rot x b := by
  unfold stepsL
  rw [List.map_map]
  exact List.map_congr_left fun k _ => rot_rot
theorem rotr_qf {b one other : Vc} {n : Nat} (hb : Un b) : ∀ j, qf (rot one b) (rot other b) n j = (qf one other n j).map fun x => rot x b
  | 0 => rfl
  | j + 1 => by
    show (if Stp (rot other b) (qv (rot one b) (rot other b) j) then qf (rot one b) (rot other b) n j else qf (rot one b) (rot other b) n j ++ stepsL (qv (rot one b) (rot other b) j) 1 n) = (if Stp other (qv one other j) then qf one other n j else qf one other n j ++ stepsL (qv one other j) 1 n).map fun x => rot x b
    rw [rotr_qv hb j, rotr_qf hb j]
    by_cases h : Stp other (qv one other j)
    · rw [if_pos h, if_pos ((rotr_stp hb).mpr h)]
    · rw [if_neg h, if_neg fun z => h ((rotr_stp hb).mp z), List.map_append, rotr_steps]
theorem rotr_qres {b one other : Vc} {n : Nat} (hb : Un b) : qres (rot one b) (rot other b) n = (qres one other n).map fun x => rot x b := by
  unfold qres
  rw [rotr_qv hb, rotr_qf hb]
  by_cases h : qv one other 4 = other
  · rw [if_pos h, if_pos ((rotr_inj hb).mpr h)]
  · rw [if_neg h, if_neg fun z => h ((rotr_inj hb).mp z), List.map_append]
    unfold prtQ
    rw [rotr_crs hb, rotr_dot hb, rotr_steps]
theorem mir_rot {u b : Vc} : mir (rot u b) = rot (mir u) (b.1, -b.2) := Prod.ext (by show -(u.1 * b.1 - u.2 * b.2) = -u.1 * b.1 - u.2 * -b.2; grind) (by show u.1 * b.2 + u.2 * b.1 = -u.1 * -b.2 + u.2 * b.1; grind)
theorem cj_un {u : Vc} (h : Un u) : Un (u.1, -u.2) := by
  unfold Un at *
  show u.1 * u.1 + -u.2 * -u.2 = 1
  grind
/-- both turned alike, the same turned -/
theorem uni_rot {one other b : Vc} {n : Nat} (h1 : Un one) (h2 : Un other) (hb : Un b) (hn : 0 < n) : uni (rot one b) (rot other b) n = (uni one other n).map fun x => rot x b := by
  have r1 := rot_un h1 hb
  have r2 := rot_un h2 hb
  have hc := cj_un hb
  refine (uni_asc r1 r2 hn).uniq r1 ⟨?_, fun x hx => ?_⟩ fun z => ?_
  · rw [List.pairwise_map]
    exact (uni_asc (n := n) h1 h2 hn).1.imp fun h => (rotr_bf hb).mpr h
  · obtain ⟨w, hw, rfl⟩ := List.mem_map.mp hx
    exact rot_un ((uni_asc (n := n) h1 h2 hn).2 w hw) hb
  · rw [mem_uni, mir_rot, mir_rot, rotr_qres hb, rotr_qres hc, List.mem_map, List.mem_map, List.mem_map]
    have e : ∀ w, mir z = rot w (b.1, -b.2) ↔ z = rot (mir w) b := fun w => by
      constructor
      · intro h
        rw [← mir_mir (u := z), h, mir_rot]
        show rot (mir w) (b.1, - -b.2) = rot (mir w) b
        rw [show - -b.2 = b.2 by grind]
      · intro h
        rw [h, mir_rot, mir_mir]
    constructor
    · rintro (⟨w, hw, rfl⟩ | ⟨w, hw, h⟩)
      · exact ⟨w, mem_uni.mpr (.inl hw), rfl⟩
      · exact ⟨mir w, mem_uni.mpr (.inr (by rw [mir_mir]; exact hw)), ((e w).mp h.symm).symm⟩
    · rintro ⟨w, hw, rfl⟩
      rcases mem_uni.mp hw with q | q
      · exact .inl ⟨w, q, rfl⟩
      · exact .inr ⟨mir w, q, mir_rot.symm⟩
/-! ### neighbours -/
theorem arc_in {p q v : Vc} (hp : Un p) (hq : Un q) (hv : Un v) (hn : Nxt p q) (hvp : v ≠ p) (h : v = q ∨ 0 < D3 p v q) : 0 < vcrs p v ∧ 0 ≤ vdot p v := by
  rcases h with h | h
  · rw [h]; exact hn.2
  obtain ⟨_, h1, h2⟩ := hn
  have hqp : q ≠ p := by intro z; rw [z] at h1; have : vcrs p p = 0 := by unfold vcrs; grind
                         rw [this] at h1; grind
  have av := a1_pos hp hv hvp
  have aq := a1_pos hp hq hqp
  rw [d3_as hp] at h
  have i1 := un_id hp hv
  have i2 := un_id hp hq
  unfold A1 at *
  generalize vdot p v = c at *
  generalize vcrs p v = s at *
  generalize vdot p q = d at *
  generalize vcrs p q = t at *
  have m1 := Rat.mul_pos av h1
  have sp : 0 < s := pos_of_mul (y := 1 - d) (by grind) aq
  refine ⟨sp, ?_⟩
  -- both sides squared
  have x0 : 0 < (1 - d) * s - (1 - c) * t := by grind
  have x1 : 0 < (1 - d) * s + (1 - c) * t := by have := Rat.mul_pos aq sp; grind
  have x2 := Rat.mul_pos x0 x1
  have q1 : s * s = (1 - c) * (1 + c) := by grind
  have q2 : t * t = (1 - d) * (1 + d) := by grind
  have x3 : ((1 - d) * s - (1 - c) * t) * ((1 - d) * s + (1 - c) * t) = (1 - d) * (1 - d) * (s * s) - (1 - c) * (1 - c) * (t * t) := by grind
  rw [x3, q1, q2] at x2
  have x4 : (1 - d) * (1 - d) * ((1 - c) * (1 + c)) - (1 - c) * (1 - c) * ((1 - d) * (1 + d)) = (2 * (c - d)) * ((1 - d) * (1 - c)) := by grind
  rw [x4] at x2
  have x5 := pos_of_mul x2 (Rat.mul_pos aq av)
  grind
theorem nb_step {a p q u v : Vc} (ha : Un a) (hp : Un p) (hu : Un u) (hv : Un v) (hn : Nxt p q) (h1 : p = u ∨ Bf a p u) (h2 : Bf a u v) (h3 : v = q ∨ Bf a v q) : Nxt u v := by
  have hq := hn.1
  have hpv : Bf a p v := h1.elim (fun z => z ▸ h2) fun z => z.trans ha hp hu hv h2
  have hvp : v ≠ p := fun z => by rw [z] at hpv; exact hpv.irr
  have d1 : v = q ∨ 0 < D3 p v q := h3.imp id fun z => un_vdm ha hp hv hq hpv z
  obtain ⟨s1, c1⟩ := arc_in hp hq hv hn hvp d1
  refine ⟨hv, ?_⟩
  rcases h1 with h1 | h1
  · rw [← h1]; exact ⟨s1, c1⟩
  · have hup : u ≠ p := fun z => by rw [z] at h1; exact h1.irr
    have huq : Bf a u q := h3.elim (fun z => z ▸ h2) fun z => h2.trans ha hu hv hq z
    obtain ⟨s2, c2⟩ := arc_in hp hq hu hn hup (.inr (un_vdm ha hp hu hq h1 huq))
    refine ⟨(same_side hp hu hv (Rat.mul_pos s2 s1)).mpr (un_vdm ha hp hu hv h1 h2), ?_⟩
    rw [dot_rel hp]
    have := Rat.mul_nonneg c2 c1
    have := Rat.mul_pos s2 s1
    grind
theorem cover {a u : Vc} (ha : Un a) (hu : Un u) : ∀ {t : List Vc} {p : Vc}, Un p → Chn Nxt p t → (p = u ∨ Bf a p u) → (∃ z ∈ p :: t, Un z ∧ Bf a u z) → ∃ x y, Un x ∧ y ∈ t ∧ Nxt x y ∧ (x = u ∨ Bf a x u) ∧ Bf a u y
  | [], p, hp, _, h, ⟨z, hz, uz, k⟩ => by
    rw [List.mem_singleton.mp hz] at k
    rcases h with h | h
    · rw [h] at k; exact k.irr.elim
    · exact (h.asym ha hp hu k).elim
  | y :: t, p, hp, hc, h, ⟨z, hz, uz, k⟩ => by
    by_cases hy : y = u ∨ Bf a y u
    · obtain ⟨x', y', h1, h2, h3⟩ := cover ha hu hc.1.1 hc.2 hy ⟨z, (List.mem_cons.mp hz).resolve_left fun q => by
        rw [q] at k
        rcases h with h | h
        · rw [h] at k; exact k.irr.elim
        · exact (h.asym ha hp hu k).elim, uz, k⟩
      exact ⟨x', y', h1, List.mem_cons_of_mem _ h2, h3⟩
    · refine ⟨p, y, hp, List.mem_cons_self, hc.1, h, ?_⟩
      exact (Bf.tri ha hu hc.1.1 fun z => hy (.inl z.symm)).elim id fun z => absurd (.inr z) hy
theorem uni_chn {one other : Vc} {n : Nat} (h1 : Un one) (h2 : Un other) (hn : 0 < n) : ∃ t, uni one other n = one :: t ∧ Chn Nxt one t := by
  obtain ⟨t, e⟩ := uni_head (n := n) h1 h2 hn
  refine ⟨t, e, ?_⟩
  obtain ⟨tT, eT, hT, _⟩ := qres_ok (n := n) h1 h2 hn
  have asc := uni_asc (n := n) h1 h2 hn
  have hlast := uni_last (n := n) h1 h2 hn
  have hsub : ∀ z ∈ one :: tT, z ∈ one :: t := fun z hz => by rw [← e]; rw [← eT] at hz; exact mem_uni.mpr (.inl hz)
  have hom : other ∈ one :: tT := by rw [← eT]; exact oth_mem h1 h2 hn
  rw [e] at asc hlast
  have key : ∀ (t : List Vc) (u : Vc), Asc one (u :: t) → (one = u ∨ Bf one one u) → (∀ z ∈ u :: t, z = other ∨ Bf one z other) → (∀ z ∈ one :: tT, z ∈ u :: t ∨ Bf one z u) → Chn Nxt u t := by
    intro t
    induction t with
    | nil => intro u _ _ _ _; trivial
    | cons v t ih =>
      intro u ha h0 hl hs
      have hu := ha.2 u List.mem_cons_self
      have hv := ha.2 v (List.mem_cons_of_mem _ List.mem_cons_self)
      have huv := ha.head (z := v) List.mem_cons_self
      have huo : Bf one u other := (hl v (List.mem_cons_of_mem _ List.mem_cons_self)).elim (fun z => z ▸ huv) fun z => huv.trans h1 hu hv h2 z
      obtain ⟨x, y, hx, hy, hN, hxu, huy⟩ := cover h1 hu h1 hT h0 ⟨other, hom, h2, huo⟩
      refine ⟨?_, ih v ha.tail (.inr ?_) (fun z hz => hl z (List.mem_cons_of_mem _ hz)) fun z hz => ?_⟩
      · refine nb_step h1 hx hu hv hN hxu huv ?_
        rcases hs y (List.mem_cons_of_mem _ hy) with q | q
        · rcases List.mem_cons.mp q with q | q
          · rw [q] at huy; exact huy.irr.elim
          · rcases List.mem_cons.mp q with q | q
            · exact .inl q.symm
            · exact .inr (ha.tail.head q)
        · exact (q.asym h1 hN.1 hu huy).elim
      · rcases h0 with h0 | h0
        · rw [← h0] at huv; exact huv
        · exact h0.trans h1 h1 hu hv huv
      · rcases hs z hz with q | q
        · rcases List.mem_cons.mp q with q | q
          · rw [q]; exact .inr huv
          · exact .inl q
        · refine .inr (q.trans h1 ?_ hu hv huv)
          rcases List.mem_cons.mp hz with k | k
          · rw [k]; exact h1
          · exact chn_un hT z k
  exact key t one asc (.inl rfl) hlast fun z hz => .inl (hsub z hz)
end Mp
namespace Mp
open PySem PySem.Spec PyProof.Rows L2
local macro_rules | `(tactic| walk_at "ev") => `(tactic| try simp only [oEq_ff, oNe_ff, oEq_vv, oNe_vv, e_gTv, vc_mk, vx0, vx1, if_true, if_false, decide_true, decide_false, Bool.not_true, Bool.not_false, Bool.false_eq_true, reduceCtorEq, e_gS, e_gT, e_gsL0, e_gsL1, e_gsN0, e_gsN1, e_r1, e_r1K, e_r2, e_r2K, e_any, e_lsT, e_zpT, e_enT, e_en, e_zp, e_z3, e_revt, e_tru, tru_bl, tru_int, tru_non, tru_tup, e_disp, e_prs0, e_prs1, List.zip_nil_left, e_rv, e_for, e_comp, e_mt, e_wipe0, e_wipe1, fr0, fr1, ix0, ix1, ix2, ix3, bIf_t, bIf_f, bIf_d, bIf_n, oEq_ii, oNe_ii, oEq_bb, oNe_bb, List.set_cons_zero, List.set_cons_succ, List.zip_cons_cons, List.zip_nil_right, List.foldl_cons, List.foldl_nil, e_add, e_addI, e_addt, e_addl, e_sub, e_mul, e_div, e_mod, e_pow, e_oI, e_neg, e_not, e_isn, e_isnn, e_isb, e_isnb, e_isN_non, e_isN_bl, e_isN_int, e_isN_tup, e_isN_ref, e_isN_fz, e_isN_fr, e_isN_str, e_lent, e_lenz, e_abs, e_int, e_intb, e_dvm, e_min, e_max, e_listt, e_listz, e_tupt, e_str, gv_0, gv_s, e_slt, e_slz, e_v0, e_v1, e_v2, e_v3, e_v4, e_v5, e_v6, e_v7, e_v8, e_v9, e_v10, e_v11, e_v12, e_v13, e_v14, e_v15, e_v16, e_v17, e_v18, e_v19, e_v20, e_v21, e_v22, e_v23, e_v24, e_v25, e_v26, e_v27, e_v28, e_v29, e_v30, e_v31, e_v32, e_v33, e_v34, e_v35, e_v36, e_v37, e_v38, e_v39, e_ar0, e_ar1, e_gN, e_par, e_c, e_bin, e_un, e_and, e_or, e_ife, e_chain, e_tup, e_lst, e_bi, e_call, e_sl, e_no, e_so, e_nil, e_seq, e_expr, e_ret, e_retn, e_asg, e_if, e_brk, e_cnt, sz_0, sz_1, sz_2, sz_3, sz_4, sz_5, sz_6, sz_7, sz_8, sz_9, sz_10, sz_11, sz_12, sz_13, sz_14, sz_15, sz_16, sz_17, sz_18, sz_19, true_and, isi_non_int, isi_non_bool, isi_non_str, isi_non_tuple, isi_non_list, isi_non_dict, isi_bl_int, isi_bl_bool, isi_bl_str, isi_bl_tuple, isi_bl_list, isi_bl_dict, isi_int_int, isi_int_bool, isi_int_str, isi_int_tuple, isi_int_list, isi_int_dict, isi_str_int, isi_str_bool, isi_str_str, isi_str_tuple, isi_str_list, isi_str_dict, isi_tup_int, isi_tup_bool, isi_tup_str, isi_tup_tuple, isi_tup_list, isi_tup_dict, isi_fz_int, isi_fz_bool, isi_fz_str, isi_fz_tuple, isi_fz_list, isi_fz_dict])
/-! ### how long a unit's figures are -/
theorem num_eq' (q : Rat) : ((q.num : Int) : Rat) = q * ((q.den : Int) : Rat) := num_eq q
theorem un_den {u : Vc} (h : Un u) : u.1.den = u.2.den := by
  obtain ⟨x, y⟩ := u
  unfold Un at h
  have h : x * x + y * y = 1 := h
  have h1 := num_eq' x
  have h2 := num_eq' y
  have key : x.num * x.num * ((y.den : Int) * y.den) + y.num * y.num * ((x.den : Int) * x.den) = ((x.den : Int) * x.den) * ((y.den : Int) * y.den) := by
    apply Rat.intCast_inj.mp
    simp only [Rat.intCast_add, Rat.intCast_mul, h1, h2]
    generalize ((x.den : Int) : Rat) = p at *
    generalize ((y.den : Int) : Rat) = q at *
    have : (x * p) * (x * p) * (q * q) + (y * q) * (y * q) * (p * p) = (x * x + y * y) * ((p * p) * (q * q)) := by grind
    rw [this, h]
    grind
  have dv : ∀ (p q r s : Int) (a b : Nat), p.natAbs.Coprime a → p * p * ((b : Int) * b) + q * q * ((a : Int) * a) = ((a : Int) * a) * ((b : Int) * b) → a ∣ b := by
    intro p q r s a b hc e
    have d : (a : Int) * a ∣ p * p * ((b : Int) * b) := ⟨(b : Int) * b - q * q, by grind⟩
    have d2 : a ^ 2 ∣ p.natAbs ^ 2 * b ^ 2 := by
      have := Int.natAbs_dvd_natAbs.mpr d
      rw [Int.natAbs_mul, Int.natAbs_mul, Int.natAbs_mul, Int.natAbs_mul, Int.natAbs_natCast, Int.natAbs_natCast] at this
      rw [Nat.pow_two, Nat.pow_two, Nat.pow_two]
      exact this
    have d3 : a ^ 2 ∣ b ^ 2 := (Nat.Coprime.pow 2 2 hc.symm).dvd_of_dvd_mul_left d2
    exact (Nat.pow_dvd_pow_iff (by decide)).mp d3
  exact Nat.dvd_antisymm (dv x.num y.num 0 0 x.den y.den x.reduced key) (dv y.num x.num 0 0 y.den x.den y.reduced (by grind))
theorem un_int {u : Vc} (h : Un u) : ∃ (X Y : Int) (D : Nat), 0 < D ∧ u = ((X : Rat) / ((D : Int) : Rat), (Y : Rat) / ((D : Int) : Rat)) ∧ X * X + Y * Y = (D : Int) * D ∧ D = u.1.den := by
  refine ⟨u.1.num, u.2.num, u.1.den, Nat.pos_of_ne_zero u.1.den_nz, ?_, ?_, rfl⟩
  · refine Prod.ext (num_den u.1) ?_
    show u.2 = (u.2.num : Rat) / ((u.1.den : Int) : Rat)
    rw [un_den h]
    exact num_den u.2
  · have e := un_den h
    have h1 := num_eq' u.1
    have h2 := num_eq' u.2
    rw [← e] at h2
    apply Rat.intCast_inj.mp
    simp only [Rat.intCast_add, Rat.intCast_mul, h1, h2]
    unfold Un at h
    generalize ((u.1.den : Int) : Rat) = p at *
    have : u.1 * p * (u.1 * p) + u.2 * p * (u.2 * p) = (u.1 * u.1 + u.2 * u.2) * (p * p) := by grind
    rw [this, h]
    grind
theorem sq_le {x d : Int} {y : Int} (hd : 0 ≤ d) (h : x * x + y * y = d * d) : x.natAbs ≤ d.natAbs := by
  rcases Nat.lt_or_ge d.natAbs x.natAbs with q | q
  · exfalso
    have h1 : x * x = (x.natAbs * x.natAbs : Nat) := (Int.natAbs_mul_self).symm
    have h2 : y * y = (y.natAbs * y.natAbs : Nat) := (Int.natAbs_mul_self).symm
    have h3 : d * d = (d.natAbs * d.natAbs : Nat) := (Int.natAbs_mul_self).symm
    have h4 : d.natAbs * d.natAbs < x.natAbs * x.natAbs := Nat.mul_lt_mul'' q q
    omega
  · exact q
theorem sq_le2 {x d : Int} {y : Int} (hd : 0 ≤ d) (h : x * x + y * y = d * d) : y.natAbs ≤ d.natAbs := sq_le (y := x) hd (by rw [Int.add_comm]; exact h)
/-- a unit over a known number -/
theorem un_of {X Y D : Int} {N : Nat} (hD : D ≠ 0) (h : X * X + Y * Y = D * D) (hN : D.natAbs < 2 ^ N) : SzV N ((X : Rat) / (D : Rat), (Y : Rat) / (D : Rat)) := by
  have hn : ((D.natAbs : Nat) : Int) * (D.natAbs : Nat) = D * D := Int.natAbs_mul_self
  have h1 : X.natAbs ≤ D.natAbs := sq_le (d := (D.natAbs : Nat)) (y := Y) (by omega) (by rw [hn]; exact h)
  have h2 : Y.natAbs ≤ D.natAbs := sq_le2 (d := (D.natAbs : Nat)) (x := X) (by omega) (by rw [hn]; exact h)
  exact ⟨Sz.of hD (by omega) hN, Sz.of hD (by omega) hN⟩
theorem ofInt_ne {D : Nat} (h : 0 < D) : ((D : Int) : Rat) ≠ 0 := by
  have := natRat_pos h
  grind
theorem rot_szU {u v : Vc} {a b : Nat} (hu : Un u) (hv : Un v) (su : SzV a u) (sv : SzV b v) : SzV (a + b) (rot u v) := by
  obtain ⟨X, Y, D, hD, e, hXY, eD⟩ := un_int hu
  obtain ⟨Z, W, E, hE, f, hZW, eE⟩ := un_int hv
  have d1 : D < 2 ^ a := by rw [eD]; exact su.1.2
  have d2 : E < 2 ^ b := by rw [eE]; exact sv.1.2
  have k1 := ofInt_ne hD
  have k2 := ofInt_ne hE
  have r : rot u v = (((X * Z - Y * W : Int) : Rat) / (((D : Int) * (E : Int) : Int) : Rat), ((X * W + Y * Z : Int) : Rat) / (((D : Int) * (E : Int) : Int) : Rat)) := by
    rw [e, f]
    unfold rot
    simp only [Rat.intCast_sub, Rat.intCast_add, Rat.intCast_mul]
    refine Prod.ext ?_ ?_
    · show (X : Rat) / ((D : Int) : Rat) * ((Z : Rat) / ((E : Int) : Rat)) - (Y : Rat) / ((D : Int) : Rat) * ((W : Rat) / ((E : Int) : Rat)) = ((X : Rat) * Z - Y * W) / (((D : Int) : Rat) * ((E : Int) : Rat))
      rw [div2 k1 k2, div2 k1 k2, div_s]
    · show (X : Rat) / ((D : Int) : Rat) * ((W : Rat) / ((E : Int) : Rat)) + (Y : Rat) / ((D : Int) : Rat) * ((Z : Rat) / ((E : Int) : Rat)) = ((X : Rat) * W + Y * Z) / (((D : Int) : Rat) * ((E : Int) : Rat))
      rw [div2 k1 k2, div2 k1 k2, div_a]
  rw [r]
  refine un_of (Int.mul_ne_zero (by omega) (by omega)) ?_ ?_
  · have : (X * Z - Y * W) * (X * Z - Y * W) + (X * W + Y * Z) * (X * W + Y * Z) = (X * X + Y * Y) * (Z * Z + W * W) := by grind
    rw [this, hXY, hZW]
    grind
  · rw [Int.natAbs_mul, Int.natAbs_natCast, Int.natAbs_natCast, Nat.pow_add]
    exact Nat.mul_lt_mul'' d1 d2
theorem dot_rot {u v : Vc} : rot (u.1, -u.2) v = (vdot u v, vcrs u v) := Prod.ext (by show u.1 * v.1 - -u.2 * v.2 = u.1 * v.1 + u.2 * v.2; grind) (by show u.1 * v.2 + -u.2 * v.1 = u.1 * v.2 - u.2 * v.1; grind)
theorem SzV.cj {a : Nat} {u : Vc} (h : SzV a u) : SzV a (u.1, -u.2) := ⟨h.1, h.2.neg⟩
theorem SzV.mir {a : Nat} {u : Vc} (h : SzV a u) : SzV a (mir u) := ⟨h.1.neg, h.2⟩
theorem dc_szU {u v : Vc} {a b : Nat} (hu : Un u) (hv : Un v) (su : SzV a u) (sv : SzV b v) : SzV (a + b) (vdot u v, vcrs u v) := by
  have := rot_szU (cj_un hu) hv su.cj sv
  rw [dot_rot] at this
  exact this
theorem dot_szU {u v : Vc} {a b : Nat} (hu : Un u) (hv : Un v) (su : SzV a u) (sv : SzV b v) : Sz (a + b) (vdot u v) := (dc_szU hu hv su sv).1
theorem crs_szU {u v : Vc} {a b : Nat} (hu : Un u) (hv : Un v) (su : SzV a u) (sv : SzV b v) : Sz (a + b) (vcrs u v) := (dc_szU hu hv su sv).2
/-- 1 and the dot, the share over it -/
theorem opp_un {u v : Vc} (hu : Un u) (hv : Un v) : Un (vdot u v, vcrs u v) := un_id hu hv
theorem one_add_sz {u : Vc} {a : Nat} (hu : Un u) (su : SzV a u) : Sz (a + 1) (1 + u.1) ∧ (1 + u.1 ≠ 0 → Sz (a + 1) (u.2 / (1 + u.1))) := by
  obtain ⟨X, Y, D, hD, e, hXY, eD⟩ := un_int hu
  have d1 : D < 2 ^ a := by rw [eD]; exact su.1.2
  have k1 := ofInt_ne hD
  have ha : X.natAbs ≤ D := by have := sq_le (d := (D : Int)) (by omega) hXY; omega
  have hb : Y.natAbs ≤ D := by have := sq_le2 (d := (D : Int)) (by omega) hXY; omega
  have e1 : 1 + u.1 = (((D : Int) + X : Int) : Rat) / ((D : Int) : Rat) := by
    rw [e, Rat.intCast_add]
    show 1 + (X : Rat) / ((D : Int) : Rat) = _
    grind
  have p2 : (2 : Nat) ^ (a + 1) = 2 * 2 ^ a := by rw [Nat.pow_succ]; omega
  refine ⟨?_, fun hne => ?_⟩
  · rw [e1]
    refine Sz.of (by omega) (by omega) ?_
    show D < _
    omega
  · have hz : (D : Int) + X ≠ 0 := fun z => hne (by rw [e1, z, Rat.div_def]; show (0 : Rat) * _ = 0; grind)
    have hz' : (((D : Int) + X : Int) : Rat) ≠ 0 := fun z => hz (Rat.intCast_inj.mp (show _ = ((0 : Int) : Rat) from z))
    have e2 : u.2 / (1 + u.1) = (Y : Rat) / (((D : Int) + X : Int) : Rat) := by
      rw [e1]
      have : u.2 = (Y : Rat) / ((D : Int) : Rat) := by rw [e]
      rw [this]
      grind
    rw [e2]
    exact Sz.of hz (by omega) (by omega)
theorem tb_szU {h : Rat} {b : Nat} (hh : Sz b h) : SzV (2 * b + 1) (tb h) := by
  have hd := den_ne h
  have ne := one_sq h
  have hn := num_eq' h
  have p0 : (0 : Int) < h.den := den_pos h
  have s0 : 0 ≤ h.num * h.num := by rw [← Int.natAbs_mul_self]; omega
  have D0 : (h.den : Int) * h.den + h.num * h.num ≠ 0 := by
    have := Int.mul_pos p0 p0
    omega
  have D1 : (((h.den : Int) * h.den + h.num * h.num : Int) : Rat) ≠ 0 := fun z => D0 (Rat.intCast_inj.mp (show _ = ((0 : Int) : Rat) from z))
  have e : tb h = ((((h.den : Int) * h.den - h.num * h.num : Int) : Rat) / (((h.den : Int) * h.den + h.num * h.num : Int) : Rat), ((2 * (h.num * h.den) : Int) : Rat) / (((h.den : Int) * h.den + h.num * h.num : Int) : Rat)) := by
    unfold tb
    simp only [Rat.intCast_add, Rat.intCast_sub, Rat.intCast_mul, hn] at *
    have h2 : ((2 : Int) : Rat) = 2 := rfl
    rw [h2]
    generalize ((h.den : Int) : Rat) = d at *
    refine Prod.ext ?_ ?_
    · show (1 - h * h) / (1 + h * h) = (d * d - h * d * (h * d)) / (d * d + h * d * (h * d))
      grind
    · show (h + h) / (1 + h * h) = (2 * (h * d * d)) / (d * d + h * d * (h * d))
      grind
  rw [e]
  refine un_of D0 ?_ ?_
  · grind
  · have h1 : h.num.natAbs < 2 ^ b := hh.1
    have h2 : h.den < 2 ^ b := hh.2
    have m1 := Nat.mul_lt_mul'' h1 h1
    have m2 := Nat.mul_lt_mul'' h2 h2
    have e3 : (2 : Nat) ^ (2 * b + 1) = 2 * (2 ^ b * 2 ^ b) := by rw [Nat.pow_succ, Nat.two_mul, Nat.pow_add]; omega
    have e4 : ((h.den : Int) * h.den + h.num * h.num).natAbs ≤ h.den * h.den + h.num.natAbs * h.num.natAbs := by
      refine Nat.le_trans (Int.natAbs_add_le _ _) ?_
      rw [Int.natAbs_mul, Int.natAbs_mul, Int.natAbs_natCast]
      exact Nat.le_refl _
    omega
theorem sz_kn3 {k n : Nat} (h0 : 0 < n) (hk : k ≤ n) (hn : n < 4) : Sz 2 (((k : Int) : Rat) / ((n : Int) : Rat)) := Sz.of (by omega) (by show k < 4; omega) (by show n < 4; omega)
theorem steps_szU {u : Vc} {h : Rat} {n a b : Nat} (hu : Un u) (su : SzV a u) (hh : Sz b h) (hn : 0 < n) (hn' : n < 4) : ∀ x ∈ stepsL u h n, SzV (a + (2 * (b + 2) + 1)) x := by
  intro x hx
  unfold stepsL at hx
  obtain ⟨k, hk, rfl⟩ := List.mem_map.mp hx
  have hk := List.mem_range.mp hk
  exact rot_szU hu (tb_un _) su (tb_szU (hh.mul (sz_kn3 (k := k + 1) hn (by omega) hn')))
theorem qres_szU {u v : Vc} {n a b : Nat} (hu : SzV a u) (hv : SzV b v) (h1 : Un u) (h2 : Un v) (hn : 0 < n) (hn' : n < 4) : ∀ x ∈ qres u v n, SzV (3 * a + 2 * b + 7) x := by
  have key : ∀ j, ∀ x ∈ qf u v n j, SzV (a + 7) x := by
    intro j
    induction j with
    | zero =>
      intro x hx
      rw [List.mem_singleton.mp hx]
      exact hu.mono (by omega)
    | succ j ih =>
      intro x hx
      have hx : x ∈ (if Stp v (qv u v j) then qf u v n j else qf u v n j ++ stepsL (qv u v j) 1 n) := hx
      split at hx
      · exact ih x hx
      · rcases List.mem_append.mp hx with h | h
        · exact ih x h
        · exact (steps_szU (qv_un h1 j) (qv_sz hu j) (sz1 (Nat.le_refl 1)) hn hn' x h).mono (by omega)
  intro x hx
  unfold qres at hx
  split at hx
  · exact (key 4 x hx).mono (by omega)
  · rename_i hq
    rcases List.mem_append.mp hx with h | h
    · exact (key 4 x h).mono (by omega)
    · have q4 := qv_un (other := v) h1 4
      have s4 := qv_sz (other := v) hu 4
      have sp : Sz (a + b + 1) (prtQ (qv u v 4) v) := (one_add_sz (opp_un q4 h2) (dc_szU q4 h2 s4 hv)).2 (dot_ne (qv_stop h1 h2) hq)
      exact (steps_szU q4 s4 sp hn hn' x h).mono (by omega)
theorem uni_szU {u v : Vc} {n a b : Nat} (hu : SzV a u) (hv : SzV b v) (h1 : Un u) (h2 : Un v) (hn : 0 < n) (hn' : n < 4) : ∀ x ∈ uni u v n, SzV (3 * a + 3 * b + 7) x := by
  intro x hx
  rcases mem_uni.mp hx with q | q
  · exact (qres_szU hu hv h1 h2 hn hn' x q).mono (by omega)
  · have := (qres_szU hv.mir hu.mir (mir_un h2) (mir_un h1) hn hn' _ q).mir
    rw [mir_mir] at this
    exact this.mono (by omega)
theorem qres_len4 {u v : Vc} {n : Nat} (hn : n < 4) : (qres u v n).length ≤ 16 := by
  have := qf_len (one := u) (other := v) (n := n) 4
  unfold qres
  split
  · omega
  · rw [List.length_append]
    unfold stepsL
    rw [List.length_map, List.length_range]
    omega
theorem mrg_len {a : Vc} : ∀ {xs ys : List Vc}, (mrg a xs ys).length ≤ xs.length + ys.length
  | [], ys => by rw [mrg]; simp
  | x :: xs, [] => by rw [mrg]; simp
  | x :: xs, y :: ys => by
    rw [mrg]
    have i1 := mrg_len (a := a) (xs := xs) (ys := ys)
    have i2 := mrg_len (a := a) (xs := xs) (ys := y :: ys)
    have i3 := mrg_len (a := a) (xs := x :: xs) (ys := ys)
    simp only [List.length_cons] at *
    split
    · simp only [List.length_cons]; omega
    · split
      · simp only [List.length_cons]; omega
      · simp only [List.length_cons]; omega
termination_by xs ys => xs.length + ys.length
theorem uni_len {u v : Vc} {n : Nat} (hn : n < 4) : (uni u v n).length ≤ 32 := by
  have h1 := mrg_len (a := u) (xs := qres u v n) (ys := bck u v n)
  have h2 := qres_len4 (u := u) (v := v) hn
  have h3 := qres_len4 (u := mir v) (v := mir u) hn
  have h4 : (bck u v n).length = (qres (mir v) (mir u) n).length := by unfold bck; rw [List.length_reverse, List.length_map]
  unfold uni
  omega
end Mp
namespace Mp
open PySem PySem.Spec PyProof.Rows L2
local macro_rules | `(tactic| walk_at "ev") => `(tactic| try simp only [oEq_ff, oNe_ff, oEq_vv, oNe_vv, e_gTv, vc_mk, vx0, vx1, if_true, if_false, decide_true, decide_false, Bool.not_true, Bool.not_false, Bool.false_eq_true, reduceCtorEq, e_gS, e_gT, e_gsL0, e_gsL1, e_gsN0, e_gsN1, e_r1, e_r1K, e_r2, e_r2K, e_any, e_lsT, e_zpT, e_enT, e_en, e_zp, e_z3, e_revt, e_tru, tru_bl, tru_int, tru_non, tru_tup, e_disp, e_prs0, e_prs1, List.zip_nil_left, e_rv, e_for, e_comp, e_mt, e_wipe0, e_wipe1, fr0, fr1, ix0, ix1, ix2, ix3, bIf_t, bIf_f, bIf_d, bIf_n, oEq_ii, oNe_ii, oEq_bb, oNe_bb, List.set_cons_zero, List.set_cons_succ, List.zip_cons_cons, List.zip_nil_right, List.foldl_cons, List.foldl_nil, e_add, e_addI, e_addt, e_addl, e_sub, e_mul, e_div, e_mod, e_pow, e_oI, e_neg, e_not, e_isn, e_isnn, e_isb, e_isnb, e_isN_non, e_isN_bl, e_isN_int, e_isN_tup, e_isN_ref, e_isN_fz, e_isN_fr, e_isN_str, e_lent, e_lenz, e_abs, e_int, e_intb, e_dvm, e_min, e_max, e_listt, e_listz, e_tupt, e_str, gv_0, gv_s, e_slt, e_slz, e_v0, e_v1, e_v2, e_v3, e_v4, e_v5, e_v6, e_v7, e_v8, e_v9, e_v10, e_v11, e_v12, e_v13, e_v14, e_v15, e_v16, e_v17, e_v18, e_v19, e_v20, e_v21, e_v22, e_v23, e_v24, e_v25, e_v26, e_v27, e_v28, e_v29, e_v30, e_v31, e_v32, e_v33, e_v34, e_v35, e_v36, e_v37, e_v38, e_v39, e_ar0, e_ar1, e_gN, e_par, e_c, e_bin, e_un, e_and, e_or, e_ife, e_chain, e_tup, e_lst, e_bi, e_call, e_sl, e_no, e_so, e_nil, e_seq, e_expr, e_ret, e_retn, e_asg, e_if, e_brk, e_cnt, sz_0, sz_1, sz_2, sz_3, sz_4, sz_5, sz_6, sz_7, sz_8, sz_9, sz_10, sz_11, sz_12, sz_13, sz_14, sz_15, sz_16, sz_17, sz_18, sz_19, true_and, isi_non_int, isi_non_bool, isi_non_str, isi_non_tuple, isi_non_list, isi_non_dict, isi_bl_int, isi_bl_bool, isi_bl_str, isi_bl_tuple, isi_bl_list, isi_bl_dict, isi_int_int, isi_int_bool, isi_int_str, isi_int_tuple, isi_int_list, isi_int_dict, isi_str_int, isi_str_bool, isi_str_str, isi_str_tuple, isi_str_list, isi_str_dict, isi_tup_int, isi_tup_bool, isi_tup_str, isi_tup_tuple, isi_tup_list, isi_tup_dict, isi_fz_int, isi_fz_bool, isi_fz_str, isi_fz_tuple, isi_fz_list, isi_fz_dict])
/-! ### data that is compared part by part -/
class Enc (α : Type) [DecidableEq α] where
  enc : α → PV
  dat : α → PyData
  pd : ∀ {L : Sto} (a : α), PD L (enc a) (dat a)
  uq : ∀ {L : Sto} {a : α} {d : PyData}, PD L (enc a) d → d = dat a
  eq : ∀ a b : α, PyData.eqv (dat a) (dat b) = decide (a = b)
  lay : ∀ a : α, (dat a).canLay0 = true
  dep : Nat
  dle : ∀ a : α, (dat a).depth ≤ dep
section
variable {α β : Type} [DecidableEq α] [DecidableEq β]
instance : Enc Int where
  enc i := .int i
  dat i := .int i
  pd i := .int i
  uq h := by match h with | .int _ => rfl
  eq a b := rfl
  lay a := rfl
  dep := 0
  dle a := Nat.le_refl _
instance : Enc Rat where
  enc q := fr q
  dat q := dfr q
  pd q := .fr
  uq h := PD_fr_uniq h
  eq a b := eqv_fr
  lay a := rfl
  dep := 1
  dle a := by show max 0 (max 0 0) + 1 ≤ 1; decide
instance [Enc α] [Enc β] : Enc (α × β) where
  enc p := .tup [Enc.enc p.1, Enc.enc p.2]
  dat p := .tuple [Enc.dat p.1, Enc.dat p.2]
  pd p := .tup (.cons (Enc.pd p.1) (.cons (Enc.pd p.2) .nil))
  uq h := by
    match h with
    | .tup (.cons a (.cons b .nil)) => rw [Enc.uq a, Enc.uq b]
  eq a b := by
    have h : PyData.eqv (.tuple [Enc.dat a.1, Enc.dat a.2]) (.tuple [Enc.dat b.1, Enc.dat b.2]) = (PyData.eqv (Enc.dat a.1) (Enc.dat b.1) && (PyData.eqv (Enc.dat a.2) (Enc.dat b.2) && true)) := rfl
    rw [h, Enc.eq, Enc.eq, Bool.and_true, ← Bool.decide_and]
    exact decide_eq_decide.mpr (Prod.ext_iff.symm)
  lay a := by
    show ((Enc.dat a.1).canLay0 && ((Enc.dat a.2).canLay0 && true)) = true
    rw [Enc.lay, Enc.lay]; rfl
  dep := max (Enc.dep α) (Enc.dep β) + 1
  dle a := by
    show max (Enc.dat a.1).depth (max (Enc.dat a.2).depth 0) + 1 ≤ _
    have h1 := Enc.dle a.1
    have h2 := Enc.dle a.2
    omega
theorem pds_map [Enc α] {L : Sto} : ∀ xs : List α, PDs L (xs.map Enc.enc) (xs.map Enc.dat)
  | [] => .nil
  | x :: xs => .cons (Enc.pd x) (pds_map xs)
theorem pds_uq [Enc α] {L : Sto} : ∀ {xs : List α} {ds : List PyData}, PDs L (xs.map Enc.enc) ds → ds = xs.map Enc.dat
  | [], _, h => by match h with | .nil => rfl
  | x :: xs, _, h => by
    match h with
    | .cons a b => rw [Enc.uq a, pds_uq b]; rfl
theorem eqv_all [Enc α] : ∀ xs ys : List α, PyData.eqvAll (xs.map Enc.dat) (ys.map Enc.dat) = decide (xs = ys)
  | [], [] => (decide_eq_true (rfl : ([] : List α) = [])).symm
  | [], y :: ys => rfl
  | x :: xs, [] => rfl
  | x :: xs, y :: ys => by
    have h : PyData.eqvAll (Enc.dat x :: xs.map Enc.dat) (Enc.dat y :: ys.map Enc.dat) = (PyData.eqv (Enc.dat x) (Enc.dat y) && PyData.eqvAll (xs.map Enc.dat) (ys.map Enc.dat)) := by rw [PyData.eqvAll]
    rw [List.map_cons, List.map_cons, h, Enc.eq, eqv_all, ← Bool.decide_and]
    exact decide_eq_decide.mpr List.cons_eq_cons.symm
theorem lay_all [Enc α] : ∀ xs : List α, PyData.canLayAll0 (xs.map Enc.dat) = true
  | [] => rfl
  | x :: xs => by
    show ((Enc.dat x).canLay0 && PyData.canLayAll0 (xs.map Enc.dat)) = true
    rw [Enc.lay, lay_all]; rfl
theorem dep_all [Enc α] : ∀ xs : List α, PyData.depthAll (xs.map Enc.dat) ≤ Enc.dep α
  | [] => Nat.zero_le _
  | x :: xs => by
    show max (Enc.dat x).depth (PyData.depthAll (xs.map Enc.dat)) ≤ _
    have h1 := Enc.dle x
    have h2 := dep_all xs
    omega
instance [Enc α] : Enc (List α) where
  enc xs := .tup (xs.map Enc.enc)
  dat xs := .tuple (xs.map Enc.dat)
  pd xs := .tup (pds_map xs)
  uq h := by
    match h with
    | .tup a => rw [pds_uq a]
  eq a b := by
    show PyData.eqv (.tuple (a.map Enc.dat)) (.tuple (b.map Enc.dat)) = _
    rw [PyData.eqv, eqv_all]
  lay a := lay_all a
  dep := Enc.dep α + 1
  dle a := by
    show PyData.depthAll (a.map Enc.dat) + 1 ≤ _
    have := dep_all a
    omega
section
variable [Enc α] {L : Sto} {R : PK} {a b : α} {p q : Addr} {xs ys : List α}
theorem shp {d : PyData} (h1 : d.canLay0 = true) (h2 : d.depth ≤ 64) : SeqAt.shaped d = true := by
  unfold SeqAt.shaped
  rw [h1, decide_eq_true h2]; rfl
theorem enc_shp (h : Enc.dep α ≤ 64) (a : α) : SeqAt.shaped (Enc.dat a) = true := shp (Enc.lay a) (Nat.le_trans (Enc.dle a) h)
theorem oEq_enc (h : Enc.dep α ≤ 64) : oEq (Enc.enc a) (Enc.enc b) L R = R (.bl (decide (a = b))) L := by
  refine propext ⟨?_, fun k => ⟨_, _, Enc.pd a, Enc.pd b, enc_shp h a, enc_shp h b, by rw [Enc.eq]; exact k⟩⟩
  rintro ⟨d, e, h1, h2, _, _, k⟩
  rw [Enc.uq h1, Enc.uq h2, Enc.eq] at k
  exact k
theorem oNe_enc (h : Enc.dep α ≤ 64) : oNe (Enc.enc a) (Enc.enc b) L R = R (.bl (!decide (a = b))) L := by
  refine propext ⟨?_, fun k => ⟨_, _, Enc.pd a, Enc.pd b, enc_shp h a, enc_shp h b, by rw [Enc.eq]; exact k⟩⟩
  rintro ⟨d, e, h1, h2, _, _, k⟩
  rw [Enc.uq h1, Enc.uq h2, Enc.eq] at k
  exact k
/-- lists in the store -/
theorem lst_dat (e : L p = some (.l (xs.map Enc.enc))) : PD L (.ref p) (.list (xs.map Enc.dat)) := .lst e (pds_map xs)
theorem lst_shp (h : Enc.dep α ≤ 60) (xs : List α) : SeqAt.shaped (.list (xs.map Enc.dat)) = true := shp (lay_all xs) (by
  show PyData.depthAll (xs.map Enc.dat) + 1 ≤ 64
  have := dep_all xs
  omega)
theorem oEq_lst (h : Enc.dep α ≤ 60) (e : L p = some (.l (xs.map Enc.enc))) (f : L q = some (.l (ys.map Enc.enc))) (k : R (.bl (decide (xs = ys))) L) : oEq (.ref p) (.ref q) L R :=
  ⟨_, _, lst_dat e, lst_dat f, lst_shp h xs, lst_shp h ys, by
    show R (.bl (PyData.eqvAll (xs.map Enc.dat) (ys.map Enc.dat))) L
    rw [eqv_all]; exact k⟩
theorem oNe_lst (h : Enc.dep α ≤ 60) (e : L p = some (.l (xs.map Enc.enc))) (f : L q = some (.l (ys.map Enc.enc))) (k : R (.bl (!decide (xs = ys))) L) : oNe (.ref p) (.ref q) L R :=
  ⟨_, _, lst_dat e, lst_dat f, lst_shp h xs, lst_shp h ys, by
    show R (.bl (!PyData.eqvAll (xs.map Enc.dat) (ys.map Enc.dat))) L
    rw [eqv_all]; exact k⟩
theorem any_dat (a : α) : ∀ xs : List α, ((xs.map Enc.dat).any fun z => PyData.eqv z (Enc.dat a)) = decide (a ∈ xs)
  | [] => rfl
  | x :: xs => by
    rw [List.map_cons, List.any_cons, Enc.eq, any_dat a xs, ← Bool.decide_or]
    exact decide_eq_decide.mpr (by rw [List.mem_cons]; exact or_congr eq_comm Iff.rfl)
theorem oIn_lst {f : Bool → Bool} (h : Enc.dep α ≤ 60) (e : L p = some (.l (xs.map Enc.enc))) (k : ∀ b, (b = true ↔ a ∈ xs) → R (.bl (f b)) L) : oInG f (Enc.enc a) (.ref p) L R := by
  unfold oInG
  simp only [e]
  exact ⟨_, _, Enc.pd a, pds_map xs, enc_shp (by omega) a, lst_shp h xs, by rw [any_dat]; exact k _ decide_eq_true_iff⟩
end
end
/-! ### lists taken from -/
section
variable {L : Sto} {R : PK} {p : Addr} {x : PV} {xs : List PV}
theorem e_pop0 (e : L p = some (.l (x :: xs))) (h : R x (put L p (.l xs))) : mPop (.ref p) [.int 0] L R := ⟨x :: xs, 0, x, e, by decide, by decide, by
  unfold seqIndex?
  simp, rfl, h⟩
theorem e_popl (e : L p = some (.l (xs ++ [x]))) (h : R x (put L p (.l xs))) : mPop (.ref p) [] L R := ⟨xs ++ [x], x, e, by simp, by rw [List.dropLast_concat]; exact h⟩
theorem e_clr (e : L p = some (.l xs)) (h : R .non (put L p (.l []))) : mClear (.ref p) [] L R := ⟨xs, e, h⟩
theorem e_insl {i : Nat} {y : PV} (e : L p = some (.l xs)) (hn : xs.length < 1000000) (hi : i ≤ xs.length) (h : R .non (put L p (.l (xs.take i ++ [y] ++ xs.drop i)))) : mInsert (.ref p) [.int i, y] L R := ⟨xs, e, by show _ < 16777216; omega, by omega, by omega, h⟩
theorem e_revl (e : L p = some (.l xs)) : oRev (.ref p) L R = newL L xs.reverse R := by
  unfold oRev
  simp only [e]
end
theorem put_put {L : Sto} {p : Addr} {o o' : SO} : put (put L p o) p o' = put L p o' := by
  funext a
  unfold put
  split <;> rfl
/-! ### helpers of the laws -/
def sl_like : Spec := likeN 9
def sl_turned : Spec := s_turned
/-! _law_turned(_law_unit, _law_by): 0 _law_unit, 1 _law_by, 2 _law_x -/
def l_turned_1 : WS := sRet (wTup [wVar 2, wCall sl_sum [wCall sl_product [wBin oIx (wVar 0) (wC (.int 0)), wBin oIx (wVar 1) (wC (.int 1))], wCall sl_product [wBin oIx (wVar 0) (wC (.int 1)), wBin oIx (wVar 1) (wC (.int 0))]]])
def l_turned_0 : WS := sSeq (sAsg (gN 2) (wCall sl_less [wCall sl_product [wBin oIx (wVar 0) (wC (.int 0)), wBin oIx (wVar 1) (wC (.int 0))], wCall sl_product [wBin oIx (wVar 0) (wC (.int 1)), wBin oIx (wVar 1) (wC (.int 1))]])) l_turned_1
theorem ok_l_turned : ∀ args L R, args.length = 2 → sl_turned args L R → l_turned_0 (initE 3 args) L { nx := fun _ L' => R .non L', rt := R } := by
  rintro _ L R _ ⟨u, c, a, b, rfl, hu, hc, hab, h⟩
  unfold l_turned_0
  show sSeq _ _ [some (vc u), some (vc c), none] L _
  walk_at "ev"
  have u1 := hu.1.B (by omega)
  have u2 := hu.2.B (by omega)
  have c1 := hc.1.B (by omega)
  have c2 := hc.2.B (by omega)
  refine ⟨_, _, rfl, u1, c1, _, _, rfl, u2, c2, _, _, rfl, (hu.1.mul hc.1).B hab, (hu.2.mul hc.2).B hab, ?_⟩
  unfold l_turned_1
  walk_at "ev"
  refine ⟨_, _, rfl, u1, c2, _, _, rfl, u2, c1, _, _, rfl, (hu.1.mul hc.2).B hab, (hu.2.mul hc.1).B hab, ?_⟩
  walk_at "ev"
  exact h
def sl_on : Spec := fun args L R => ∃ (u : Vc) (h : Rat) (k a b : Nat), args = [vc u, fr h, .int k] ∧ SzV a u ∧ Sz b h ∧ k < 1024 ∧ b ≤ 900 ∧ a + 4 * b ≤ 3900 ∧ R (vc (rot u (tb (((k : Int) : Rat) * h)))) L
/-! _law_on(_law_unit, _law_number, _law_k): 0 _law_unit, 1 _law_number, 2 _law_k, 3 _law_kh, 4 _law_square, 5 _law_under, 6 _law_c, 7 _law_s, 8 _law_by -/
def l_on_5 : WS := sRet (wCall sl_turned [wVar 0, wVar 8])
def l_on_4 : WS := sSeq (sAsg (gN 8) (wTup [wCall sl_lowest [wBin oMul (wBin oIx (wVar 6) (wC (.int 0))) (wBin oIx (wVar 5) (wC (.int 1))), wBin oMul (wBin oIx (wVar 6) (wC (.int 1))) (wBin oIx (wVar 5) (wC (.int 0)))], wCall sl_lowest [wBin oMul (wBin oIx (wVar 7) (wC (.int 0))) (wBin oIx (wVar 5) (wC (.int 1))), wBin oMul (wBin oIx (wVar 7) (wC (.int 1))) (wBin oIx (wVar 5) (wC (.int 0)))]])) l_on_5
def l_on_3 : WS := sSeq (sPar [6, 7] [wCall sl_less [wTup [wC (.int 1), wC (.int 1)], wVar 4], wCall sl_sum [wVar 3, wVar 3]]) l_on_4
def l_on_2 : WS := sSeq (sAsg (gN 5) (wCall sl_sum [wTup [wC (.int 1), wC (.int 1)], wVar 4])) l_on_3
def l_on_1 : WS := sSeq (sAsg (gN 4) (wCall sl_product [wVar 3, wVar 3])) l_on_2
def l_on_0 : WS := sSeq (sAsg (gN 3) (wCall sl_product [wTup [wVar 2, wC (.int 1)], wVar 1])) l_on_1
theorem ok_l_on : ∀ args L R, args.length = 3 → sl_on args L R → l_on_0 (initE 9 args) L { nx := fun _ L' => R .non L', rt := R } := by
  rintro _ L R _ ⟨u, h, k, a, b, rfl, hu, hh, hk, hb, hab, h'⟩
  unfold l_on_0
  show sSeq _ _ [some (vc u), some (fr h), some (.int k), none, none, none, none, none, none] L _
  walk_at "ev"
  have sk : Sz 10 ((k : Int) : Rat) := Sz.int (by show _ < 1024; omega) (by decide)
  rw [frz]
  refine ⟨_, _, rfl, sk.B (by decide), hh.B (by omega), ?_⟩
  have sp := sk.mul hh
  generalize ((k : Int) : Rat) * h = g at *
  unfold l_on_1
  walk_at "ev"
  refine ⟨_, _, rfl, sp.B (by omega), sp.B (by omega), ?_⟩
  unfold l_on_2
  walk_at "ev"
  rw [fr_one]
  have s1 := sz1 (Nat.le_refl 1)
  have sq := sp.mul sp
  refine ⟨_, _, rfl, s1.B (by decide), sq.B (by omega), ?_⟩
  unfold l_on_3
  walk_at "ev"
  rw [fr_one]
  refine ⟨_, _, rfl, s1.B (by decide), sq.B (by omega), _, _, rfl, sp.B (by omega), sp.B (by omega), ?_⟩
  have sc := s1.sub sq
  have ss := sp.add sp
  have su := s1.add sq
  have ne := one_sq g
  unfold l_on_4
  walk_at "ev"
  refine ⟨sc.nd su (by omega), sc.dn su (by omega), _, _, rfl, Int.mul_ne_zero (Int.ne_of_gt (den_pos _)) (num_ne ne), sc.okn su (by omega), ?_⟩
  rw [div_eq _ _ ne]
  walk_at "ev"
  refine ⟨ss.nd su (by omega), ss.dn su (by omega), _, _, rfl, Int.mul_ne_zero (Int.ne_of_gt (den_pos _)) (num_ne ne), ss.okn su (by omega), ?_⟩
  rw [div_eq _ _ ne]
  walk_at "ev"
  unfold l_on_5
  walk_at "ev"
  exact ⟨_, _, _, _, rfl, hu, SzV.tb sp, by omega, h'⟩
def sl_quarters : Spec := s_quarters_between
/-! _law_quarters(_law_one, _law_other, _law_steps): 0 _law_one, 1 _law_other, 2 _law_steps, 3 _law_found, 4 _law_quarter, 5 _law_last, 6 _law_sharp, 7 _law_up, 8 _law_under, 9 _law_h, 10 _law_k -/
def l_quarters_4 : WS := sRet (wVar 3)
def l_quarters_3a_2 : WS := sAsg (gN 3) (wBin oAdd (wVar 3) (wComp [10] (iR2 (wC (.int 1)) (wBin oAdd (wVar 2) (wC (.int 1)))) (gN 10) (wC (.bl true)) (wCall sl_on [wVar 5, wCall sl_product [wVar 9, wTup [wC (.int 1), wVar 2]], wVar 10])))
def l_quarters_3a_1 : WS := sSeq (sAsg (gN 9) (wCall sl_lowest [wBin oMul (wBin oIx (wVar 7) (wC (.int 0))) (wBin oIx (wVar 8) (wC (.int 1))), wBin oMul (wBin oIx (wVar 7) (wC (.int 1))) (wBin oIx (wVar 8) (wC (.int 0)))])) l_quarters_3a_2
def l_quarters_3a_0 : WS := sSeq (sPar [7, 8] [wCall sl_cross [wVar 5, wVar 1], wCall sl_sum [wTup [wC (.int 1), wC (.int 1)], wCall sl_dot [wVar 5, wVar 1]]]) l_quarters_3a_1
def l_quarters_3 : WS := sSeq (sIf (wBin oNe (wVar 5) (wVar 1)) l_quarters_3a_0 sNil) l_quarters_4
def l_quarters_2 : WS := sSeq (sAsg (gN 5) (wBin oIx (wVar 3) (wC (.int (-1))))) l_quarters_3
def l_quarters_1f_2a_0 : WS := sAsg (gN 3) (wBin oAdd (wVar 3) (wComp [10] (iR2 (wC (.int 1)) (wBin oAdd (wVar 2) (wC (.int 1)))) (gN 10) (wC (.bl true)) (wCall sl_on [wVar 5, wTup [wC (.int 1), wVar 2], wVar 10])))
def l_quarters_1f_2 : WS := sIf (wAnd (wBin oNe (wVar 5) (wVar 1)) (wUn oNot (wTru (wVar 6)))) l_quarters_1f_2a_0 sNil
def l_quarters_1f_1 : WS := sSeq (sAsg (gN 6) (wAnd (wBin oGt (wBin oIx (wCall sl_cross [wVar 5, wVar 1]) (wC (.int 0))) (wC (.int 0))) (wBin oGt (wBin oIx (wCall sl_dot [wVar 5, wVar 1]) (wC (.int 0))) (wC (.int 0))))) l_quarters_1f_2
def l_quarters_1f_0 : WS := sSeq (sAsg (gN 5) (wBin oIx (wVar 3) (wC (.int (-1))))) l_quarters_1f_1
def l_quarters_1 : WS := sSeq (sFor (iR1 (wC (.int 4))) (gN 4) l_quarters_1f_0) l_quarters_2
def l_quarters_0 : WS := sSeq (sAsg (gN 3) (wLst [wVar 0])) l_quarters_1
theorem num_pos {q : Rat} : (0 < q.num) ↔ 0 < q := by
  have h := lt_num 0 q
  have e1 : (0 : Rat).num * (q.den : Int) = 0 := Int.zero_mul _
  have e2 : q.num * ((0 : Rat).den : Int) = q.num := Int.mul_one _
  rw [e1, e2] at h
  exact h
theorem fr_inv {n : Nat} (hn : 0 < n) : ∃ q : Rat, PV.tup [.int 1, .int n] = fr q ∧ (∀ a, n < 2 ^ a → 0 < a → Sz a q) ∧ q * ((n : Int) : Rat) = 1 := by
  have hc : (1 : Int).natAbs.Coprime n := Nat.coprime_one_left n
  refine ⟨⟨1, n, by omega, hc⟩, rfl, fun a h1 h2 => ⟨Nat.one_lt_two_pow (by omega), h1⟩, ?_⟩
  have := num_den (⟨1, n, by omega, hc⟩ : Rat)
  rw [this]
  show ((1 : Int) : Rat) / ((n : Int) : Rat) * ((n : Int) : Rat) = 1
  have hp := natRat_pos hn
  have h1 : ((1 : Int) : Rat) = 1 := rfl
  rw [h1]
  grind
theorem on_prt {h q : Rat} {n k : Nat} (hn : 0 < n) (hq : q * ((n : Int) : Rat) = 1) : ((k : Int) : Rat) * (h * q) = prt h n k := by
  unfold prt
  have hp := natRat_pos hn
  have : q = 1 / ((n : Int) : Rat) := by grind
  rw [this]
  grind
theorem lq_comp {L : Sto} {u w : Vc} {h q : Rat} {n a b : Nat} {we : WE} {env : Env} {R : List PV → Sto → Prop} (hn : 0 < n) (hn' : n < 1024) (hu : SzV a w)
    (hw : ∀ k : Nat, k ≤ n → ∀ R', (∀ l, l = L → R' (vc (rot w (tb (prt h n k)))) l) → we (env.set 10 (some (.int k))) L R') (hR : R ((stepsL w h n).map vc) L) :
    compW (fun _ => True) (gN 10) (wC (.bl true)) we env (rgL 1 ((n : Int) + 1 - 1).toNat) [] L R := by
  rw [show ((n : Int) + 1 - 1).toNat = n by omega]
  have hrl : (rgL 1 n).length = n := by unfold rgL; rw [List.length_map, List.length_range]
  refine comp_i (fun i acc l => l = L ∧ acc = ((List.range i).map fun k => vc (rot w (tb (prt h n (k + 1)))))) ⟨rfl, rfl⟩ (fun _ _ _ _ => trivial) (by show (rgL 1 n).length < 16777216; omega) ?_ ?_
  · rintro i t acc l K hx ⟨rfl, rfl⟩ hi hK
    obtain ⟨rfl, hin⟩ := rgL_get hx
    walk_at "ev"
    have e1 : (1 : Int) + (i : Nat) = ((i + 1 : Nat) : Int) := by omega
    rw [e1]
    refine hw (i + 1) (by omega) _ fun l' hl' => ?_
    subst hl'
    refine ⟨?_, ?_⟩
    · rw [List.length_map, List.length_range]; show i < 16777216; omega
    · refine hK _ _ ?_ ⟨rfl, ?_⟩
      · rw [List.length_append, List.length_map, List.length_range]; exact Nat.le_refl _
      · rw [List.range_succ, List.map_append]; rfl
  · rintro acc l ⟨rfl, rfl⟩
    rw [hrl]
    have : (stepsL w h n).map vc = (List.range n).map fun k => vc (rot w (tb (prt h n (k + 1)))) := by
      unfold stepsL
      rw [List.map_map]
      rfl
    rw [this] at hR
    exact hR
theorem ok_l_quarters : ∀ args L R, args.length = 3 → sl_quarters args L R → l_quarters_0 (initE 11 args) L { nx := fun _ L' => R .non L', rt := R } := by
  rintro _ L R _ ⟨u, v, n, a, b, rfl, hu, hv, su, sv, hab, hn0, hn, k⟩
  obtain ⟨iq, hiq, siq, eiq⟩ := fr_inv hn0
  have siq := siq 10 (by show _ < 1024; omega) (by decide)
  have szv := sv.mono (b := 1900) (by omega)
  unfold l_quarters_0
  show sSeq _ _ [some (vc u), some (vc v), some (.int n), none, none, none, none, none, none, none, none] L _
  walk_at "ev"
  intro p hp
  unfold l_quarters_1
  walk_at "ev"
  refine ⟨⟨by decide, by decide⟩, ?_⟩
  refine loop_i (fun j e l => ∃ p z4 z5 z6, e = [some (vc u), some (vc v), some (.int n), some (.ref p), z4, z5, z6, none, none, none, none] ∧ L p = none ∧ Le L l ∧ l p = some (.l ((qf u v n j).map vc)))
    ⟨p, _, _, _, rfl, hp, Le.new hp, put_same⟩ (fun _ _ _ _ => trivial) ?_ ?_
  · rintro j t e l K hx ⟨p, z4, z5, z6, rfl, hp, hl, e⟩ hK
    have hj4 : j < 4 := (rgL_get hx).2
    have sq := qv_sz (other := v) su j
    have szq := sq.mono (b := 1900) (by omega)
    walk_at "ev"
    unfold l_quarters_1f_0
    walk_at "ev"
    rw [vlast e (qf_last hn0 j)]
    walk_at "ev"
    unfold l_quarters_1f_1
    walk_at "ev"
    refine ⟨_, _, rfl, szq, szv, ?_⟩
    walk_at "ev"
    simp only [num_pos]
    have go : ∀ sh : Bool, (sh = true ↔ InQ (qv u v j) v) → l_quarters_1f_2 [some (vc u), some (vc v), some (.int n), some (.ref p), some t, some (vc (qv u v j)), some (.bl sh), none, none, none, none] l { nx := K, rt := R, bk := fun e l => l_quarters_2 e l { nx := fun _ L' => R .non L', rt := R }, ct := K } := by
      intro sh hsh
      unfold l_quarters_1f_2
      walk_at "ev"
      have stop : Stp v (qv u v j) → K [some (vc u), some (vc v), some (.int n), some (.ref p), some t, some (vc (qv u v j)), some (.bl sh), none, none, none, none] l := fun hs =>
        hK _ _ ⟨p, _, _, _, rfl, hp, hl, by
          rw [show qf u v n (j + 1) = qf u v n j from if_pos hs]; exact e⟩
      by_cases hq : qv u v j = v
      · rw [if_pos hq]
        exact stop (.inl hq)
      · rw [if_neg hq]
        cases sh with
        | true =>
          walk_at "ev"
          exact stop (.inr (hsh.mp rfl))
        | false =>
          walk_at "ev"
          have hns : ¬ Stp v (qv u v j) := fun z => z.elim hq fun y => by cases hsh.mpr y
          unfold l_quarters_1f_2a_0
          walk_at "ev"
          refine ⟨⟨by decide, by decide⟩, ⟨by omega, by omega⟩, ?_⟩
          refine lq_comp (u := u) (w := qv u v j) (h := 1) (q := iq) (n := n) (a := a) (b := b) hn0 hn sq ?_ ?_
          · intro kk hkk R' hR'
            walk_at "ev"
            rw [hiq]
            refine ⟨_, _, _, _, _, rfl, sq, siq, by omega, by decide, by omega, ?_⟩
            rw [show iq = 1 * iq by grind, on_prt hn0 eiq]
            exact hR' _ rfl
          · intro p2 h2
            refine e_cat (Le.new h2 _ _ e) put_same ⟨?_, fun p3 h3 => ?_⟩
            · rw [List.length_map, List.length_map]
              have := qf_len (one := u) (other := v) (n := n) j
              unfold stepsL
              rw [List.length_map, List.length_range]
              have : j * n ≤ 4 * n := Nat.mul_le_mul_right n (by omega)
              show _ ≤ 16777216
              omega
            · refine hK _ _ ⟨p3, _, _, _, rfl, (hl.trans (Le.new h2)).free h3, (hl.trans (Le.new h2)).trans (Le.new h3), ?_⟩
              rw [put_same, ← List.map_append, show qf u v n (j + 1) = qf u v n j ++ stepsL (qv u v j) 1 n from if_neg hns]
    by_cases hc : 0 < vcrs (qv u v j) v
    · rw [if_pos hc]
      refine ⟨_, _, rfl, szq, szv, ?_⟩
      walk_at "ev"
      exact go _ (by rw [decide_eq_true_eq, num_pos]; exact ⟨fun z => ⟨hc, z⟩, fun z => z.2⟩)
    · rw [if_neg hc]
      exact go false ⟨fun z => (by cases z), fun z => absurd z.1 hc⟩
  · rintro e l ⟨p, z4, z5, z6, rfl, hp, hl, e⟩
    have e : l p = some (.l ((qf u v n 4).map vc)) := e
    have sq := qv_sz (other := v) su 4
    have szq := sq.mono (b := 1900) (by omega)
    unfold l_quarters_2
    walk_at "ev"
    rw [vlast e (qf_last hn0 4)]
    walk_at "ev"
    unfold l_quarters_3
    walk_at "ev"
    by_cases hq : qv u v 4 = v
    · rw [if_pos hq]
      unfold l_quarters_4
      walk_at "ev"
      refine k p l hp hl ?_
      rw [e]
      unfold qres
      rw [if_pos hq]
    · rw [if_neg hq]
      have hs := qv_stop (one := u) (other := v) hu hv
      have hne := dot_ne hs hq
      have sc := sq.crs sv
      have sd := (sz1 (Nat.le_refl 1)).add (sq.dot sv)
      unfold l_quarters_3a_0
      walk_at "ev"
      refine ⟨_, _, rfl, szq, szv, ?_⟩
      walk_at "ev"
      rw [fr_one]
      refine ⟨_, _, rfl, szq, szv, _, _, rfl, (sz1 (Nat.le_refl 1)).B (by decide), (sq.dot sv).B (by omega), ?_⟩
      unfold l_quarters_3a_1
      walk_at "ev"
      refine ⟨sc.nd sd (by omega), sc.dn sd (by omega), _, _, rfl, Int.mul_ne_zero (Int.ne_of_gt (den_pos _)) (num_ne hne), sc.okn sd (by omega), ?_⟩
      rw [div_eq _ _ hne]
      have sh : Sz _ (vcrs (qv u v 4) v / (1 + vdot (qv u v 4) v)) := sc.div sd hne
      unfold l_quarters_3a_2
      walk_at "ev"
      refine ⟨⟨by decide, by decide⟩, ⟨by omega, by omega⟩, ?_⟩
      refine lq_comp (u := u) (w := qv u v 4) (h := prtQ (qv u v 4) v) (q := iq) (n := n) (a := a) (b := b) hn0 hn sq ?_ ?_
      · intro kk hkk R' hR'
        walk_at "ev"
        rw [hiq]
        refine ⟨_, _, rfl, sh.B (by omega), siq.B (by decide), ?_⟩
        refine ⟨_, _, _, _, _, rfl, sq, sh.mul siq, by omega, by omega, by omega, ?_⟩
        rw [on_prt hn0 eiq]
        exact hR' _ rfl
      · intro p2 h2
        refine e_cat (Le.new h2 _ _ e) put_same ⟨?_, fun p3 h3 => ?_⟩
        · rw [List.length_map, List.length_map]
          have := qf_len (one := u) (other := v) (n := n) 4
          unfold stepsL
          rw [List.length_map, List.length_range]
          show _ ≤ 16777216
          omega
        · unfold l_quarters_4
          walk_at "ev"
          refine k p3 _ ((hl.trans (Le.new h2)).free h3) ((hl.trans (Le.new h2)).trans (Le.new h3)) ?_
          rw [put_same, ← List.map_append]
          unfold qres
          rw [if_neg hq]
/-! ### units by chance -/
def sl_unit_by : Spec := fun args L R => ∃ (b : Addr) (n : Int), args = [.ref b] ∧ Bx b n L ∧ n < 1152921504606840000 ∧ ∀ u L', Un u → SzV 10 u → Bx b (n + 6) L' → LeB b L L' → R (vc u) L'
/-! _law_unit_by(_law_box): 0 _law_box, 1 _law_way, 2 _law_quarter, 3 _law_turn, 4 _law_a, 5 _law_b, 6 _law_x, 7 _law_y, 8 _law_k -/
def l_unit_by_6 : WS := sRet (wTup [wVar 6, wVar 7])
def l_unit_by_5f_0 : WS := sPar [6, 7] [wTup [wUn oNeg (wBin oIx (wVar 7) (wC (.int 0))), wBin oIx (wVar 7) (wC (.int 1))], wVar 6]
def l_unit_by_5 : WS := sSeq (sFor (iR1 (wVar 2)) (gN 8) l_unit_by_5f_0) l_unit_by_6
def l_unit_by_4a_0 : WS := sPar [6, 7] [wVar 7, wVar 6]
def l_unit_by_4 : WS := sSeq (sIf (wBin oEq (wVar 3) (wC (.int 1))) l_unit_by_4a_0 sNil) l_unit_by_5
def l_unit_by_3 : WS := sSeq (sPar [6, 7] [wCall sl_lowest [wBin oSub (wBin oMul (wVar 4) (wVar 4)) (wBin oMul (wVar 5) (wVar 5)), wBin oAdd (wBin oMul (wVar 4) (wVar 4)) (wBin oMul (wVar 5) (wVar 5))], wCall sl_lowest [wBin oMul (wBin oMul (wC (.int 2)) (wVar 4)) (wVar 5), wBin oAdd (wBin oMul (wVar 4) (wVar 4)) (wBin oMul (wVar 5) (wVar 5))]]) l_unit_by_4
def l_unit_by_2a_0 : WS := sPar [4, 5] [wBin oAdd (wC (.int 1)) (wCall sl_take [wVar 0, wC (.int 22)]), wCall sl_take [wVar 0, wC (.int 22)]]
def l_unit_by_2 : WS := sSeq (sIf (wBin oEq (wVar 1) (wC (.int 3))) l_unit_by_2a_0 sNil) l_unit_by_3
def l_unit_by_1 : WS := sSeq (sAsg (gT 2 (gsL [gN 4, gN 5])) (wBin oIx (wLst [wTup [wC (.int 1), wC (.int 0)], wTup [wC (.int 2), wC (.int 1)], wTup [wC (.int 3), wC (.int 1)], wTup [wC (.int 3), wC (.int 2)]]) (wCall sl_take [wVar 0, wC (.int 4)]))) l_unit_by_2
def l_unit_by_0 : WS := sSeq (sPar [1, 2, 3] [wCall sl_take [wVar 0, wC (.int 4)], wCall sl_take [wVar 0, wC (.int 4)], wCall sl_take [wVar 0, wC (.int 2)]]) l_unit_by_1
theorem fr_neg {q : Rat} : PV.tup [.int (-q.num), .int q.den] = fr (-q) := rfl
theorem un_ab {a b : Int} (h : a * a + b * b ≠ 0) : Un ((((a * a - b * b : Int) : Rat) / ((a * a + b * b : Int) : Rat)), (((2 * a * b : Int) : Rat) / ((a * a + b * b : Int) : Rat))) := by
  have hD : ((a * a + b * b : Int) : Rat) ≠ 0 := fun e => h (Rat.intCast_inj.mp (show _ = ((0 : Int) : Rat) from e))
  unfold Un
  show ((a * a - b * b : Int) : Rat) / ((a * a + b * b : Int) : Rat) * (((a * a - b * b : Int) : Rat) / ((a * a + b * b : Int) : Rat)) + ((2 * a * b : Int) : Rat) / ((a * a + b * b : Int) : Rat) * (((2 * a * b : Int) : Rat) / ((a * a + b * b : Int) : Rat)) = 1
  rw [div2 hD hD, div2 hD hD, div_a]
  have e : ((a * a - b * b : Int) : Rat) * ((a * a - b * b : Int) : Rat) + ((2 * a * b : Int) : Rat) * ((2 * a * b : Int) : Rat) = ((a * a + b * b : Int) : Rat) * ((a * a + b * b : Int) : Rat) := by
    rw [← Rat.intCast_mul, ← Rat.intCast_mul, ← Rat.intCast_mul, ← Rat.intCast_add]
    congr 1
    grind
  rw [e]
  generalize ((a * a + b * b : Int) : Rat) = D at *
  grind
theorem sq_bd {a m : Int} (h0 : 0 ≤ a) (h1 : a ≤ m) : 0 ≤ a * a ∧ a * a ≤ m * m := ⟨Int.mul_nonneg h0 h0, Int.mul_le_mul h1 h1 h0 (by omega)⟩
theorem unit_3 {z1 z6 z7 : Option PV} {bx : Addr} {q t a b : Int} {L : Sto} {N : Nd} (q0 : 0 ≤ q) (q1 : q < 4) (a0 : 1 ≤ a) (a1 : a ≤ 22) (b0 : 0 ≤ b) (b1 : b ≤ 21)
    (h : ∀ u, Un u → SzV 10 u → N.rt (vc u) L) : l_unit_by_3 [some (.ref bx), z1, some (.int q), some (.int t), some (.int a), some (.int b), z6, z7, none] L N := by
  obtain ⟨sa0, sa1⟩ := sq_bd (by omega) a1
  obtain ⟨sb0, sb1⟩ := sq_bd b0 b1
  have sa2 : 0 < a * a := Int.mul_pos (by omega) (by omega)
  have ab0 : 0 ≤ a * b := Int.mul_nonneg (by omega) b0
  have ab1 : a * b ≤ 22 * 21 := Int.mul_le_mul a1 b1 b0 (by omega)
  have e2 : 2 * a * b = 2 * (a * b) := by grind
  have hne : a * a + b * b ≠ 0 := by omega
  have un := un_ab hne
  have s1 : Sz 10 (((a * a - b * b : Int) : Rat) / ((a * a + b * b : Int) : Rat)) := Sz.of hne (by show _ < 1024; omega) (by show _ < 1024; omega)
  have s2 : Sz 10 (((2 * a * b : Int) : Rat) / ((a * a + b * b : Int) : Rat)) := Sz.of hne (by show _ < 1024; omega) (by show _ < 1024; omega)
  have dk : DenOk (a * a + b * b) := DenOk.of (a := 10) (by show _ < 1024; omega) (by decide)
  unfold l_unit_by_3
  walk_at "ev"
  refine ⟨mulL (by omega), mulL (by omega), mulL (by omega), mulL (by omega), _, _, rfl, hne, dk, ?_⟩
  walk_at "ev"
  refine ⟨mulL (by omega), mulL (by omega), mulL (by omega), mulL (by omega), _, _, rfl, hne, dk, ?_⟩
  generalize ((a * a - b * b : Int) : Rat) / ((a * a + b * b : Int) : Rat) = x at *
  generalize ((2 * a * b : Int) : Rat) / ((a * a + b * b : Int) : Rat) = y at *
  have five : ∀ x y, Un (x, y) → SzV 10 (x, y) → l_unit_by_5 [some (.ref bx), z1, some (.int q), some (.int t), some (.int a), some (.int b), some (fr x), some (fr y), none] L N := by
    intro x y hu hs
    unfold l_unit_by_5
    walk_at "ev"
    refine ⟨⟨by omega, by omega⟩, ?_⟩
    refine loop_i (fun i e l => l = L ∧ ∃ x y z8, e = [some (.ref bx), z1, some (.int q), some (.int t), some (.int a), some (.int b), some (fr x), some (fr y), z8] ∧ Un (x, y) ∧ SzV 10 (x, y)) ⟨rfl, x, y, _, rfl, hu, hs⟩ (fun _ _ _ _ => trivial) ?_ ?_
    · rintro i t e l K hx ⟨rfl, x, y, z8, rfl, hu, hs⟩ hK
      walk_at "ev"
      unfold l_unit_by_5f_0
      walk_at "ev"
      rw [fr_neg]
      refine hK _ _ ⟨rfl, -y, x, _, rfl, ?_, ⟨hs.2.neg, hs.1⟩⟩
      unfold Un at *
      show -y * -y + x * x = 1
      have hu : x * x + y * y = 1 := hu
      grind
    · rintro e l ⟨rfl, x, y, z8, rfl, hu, hs⟩
      unfold l_unit_by_6
      walk_at "ev"
      exact h _ hu hs
  unfold l_unit_by_4
  walk_at "ev"
  split
  · unfold l_unit_by_4a_0
    walk_at "ev"
    refine five y x ?_ ⟨s2, s1⟩
    unfold Un at *
    show y * y + x * x = 1
    have un : x * x + y * y = 1 := un
    grind
  · exact five x y un ⟨s1, s2⟩
theorem ok_l_unit_by : ∀ args L R, args.length = 1 → sl_unit_by args L R → l_unit_by_0 (initE 9 args) L { nx := fun _ L' => R .non L', rt := R } := by
  rintro _ L R _ ⟨b, n, rfl, hb, hn, h⟩
  unfold l_unit_by_0
  show sSeq _ _ [some (.ref b), none, none, none, none, none, none, none, none] L _
  walk_at "ev"
  refine ⟨b, 4, n, rfl, hb, by omega, by decide, denS (by decide), fun w L1 w0 w1 b1 l1 => ⟨b, 4, _, rfl, b1, by omega, by decide, denS (by decide), fun q L2 q0 q1 b2 l2 => ⟨b, 2, _, rfl, b2, by omega, by decide, denS (by decide), fun t L3 t0 t1 b3 l3 => ?_⟩⟩⟩
  unfold l_unit_by_1
  walk_at "ev"
  intro p hp
  have b4 := b3.new (o := .l [.tup [.int 1, .int 0], .tup [.int 2, .int 1], .tup [.int 3, .int 1], .tup [.int 3, .int 2]]) hp
  have l4 := ((l1.trans l2).trans l3).le (o := .l [.tup [.int 1, .int 0], .tup [.int 2, .int 1], .tup [.int 3, .int 1], .tup [.int 3, .int 2]]) hp
  have hbp : b ≠ p := by
    obtain ⟨c0, c1, c2, e, _⟩ := b3
    exact ne_adr hp e
  refine ⟨b, 4, _, rfl, b4, by omega, by decide, denS (by decide), fun s L5 s0 s1 b5 l5 => ?_⟩
  have e5 := l5 _ _ hbp.symm put_same
  have l5 := l4.trans l5
  walk_at "ev"
  have two : ∀ x y : Int, 1 ≤ x → x ≤ 22 → 0 ≤ y → y ≤ 21 → l_unit_by_2 [some (.ref b), some (.int w), some (.int q), some (.int t), some (.int x), some (.int y), none, none, none] L5 { nx := fun _ L' => R .non L', rt := R } := by
    intro x y x0 x1 y0 y1
    unfold l_unit_by_2
    walk_at "ev"
    split
    · unfold l_unit_by_2a_0
      walk_at "ev"
      refine ⟨b, 22, _, rfl, b5, by omega, by decide, denS (by decide), fun x L6 x0 x1 b6 l6 => ?_⟩
      walk_at "ev"
      refine ⟨b, 22, _, rfl, b6, by omega, by decide, denS (by decide), fun y L7 y0 y1 b7 l7 => ?_⟩
      walk_at "ev"
      exact unit_3 q0 q1 (by omega) (by omega) y0 (by omega) fun u hu su => h u _ hu su (b7.mono (by omega)) ((l5.trans l6).trans l7)
    · exact unit_3 q0 q1 x0 x1 y0 y1 fun u hu su => h u _ hu su (b5.mono (by omega)) l5
  obtain rfl | rfl | rfl | rfl : s = 0 ∨ s = 1 ∨ s = 2 ∨ s = 3 := by omega
  · rw [ixl0 e5]; walk_at "ev"; exact ⟨rfl, two 1 0 (by decide) (by decide) (by decide) (by decide)⟩
  · rw [ixl1 e5]; walk_at "ev"; exact ⟨rfl, two 2 1 (by decide) (by decide) (by decide) (by decide)⟩
  · rw [ixl2 e5]; walk_at "ev"; exact ⟨rfl, two 3 1 (by decide) (by decide) (by decide) (by decide)⟩
  · rw [ixl3 e5]; walk_at "ev"; exact ⟨rfl, two 3 2 (by decide) (by decide) (by decide) (by decide)⟩
/-! ### two units -/
def sl_two_by : Spec := fun args L R => ∃ (b : Addr) (n : Int), args = [.ref b] ∧ Bx b n L ∧ n < 1152921504606830000 ∧ ∀ u v L', Un u → Un v → SzV 10 u → SzV 39 v → Bx b (n + 20) L' → LeB b L L' → u ≠ v → R (.tup [vc u, vc v]) L'
/-! _law_two_by(_law_box): 0 _law_box, 1 _law_way, 2 _law_one, 3 _law_other, 4 _law_x, 5 _law_y, 6 _law_many, 7 _law_little -/
def l_two_by_8 : WS := sRet (wTup [wVar 2, wVar 3])
def l_two_by_7a_0 : WS := sAsg (gN 3) (wTup [wTup [wUn oNeg (wBin oIx (wVar 4) (wC (.int 0))), wBin oIx (wVar 4) (wC (.int 1))], wTup [wUn oNeg (wBin oIx (wVar 5) (wC (.int 0))), wBin oIx (wVar 5) (wC (.int 1))]])
def l_two_by_7 : WS := sSeq (sIf (wBin oEq (wVar 3) (wVar 2)) l_two_by_7a_0 sNil) l_two_by_8
def l_two_by_6a_0 : WS := sAsg (gN 3) (wCall sl_turned [wVar 2, wTup [wBin oIx (wVar 7) (wC (.int 0)), wTup [wUn oNeg (wBin oIx (wBin oIx (wVar 7) (wC (.int 1))) (wC (.int 0))), wBin oIx (wBin oIx (wVar 7) (wC (.int 1))) (wC (.int 1))]]])
def l_two_by_6 : WS := sSeq (sIf (wBin oEq (wVar 1) (wC (.int 4))) l_two_by_6a_0 sNil) l_two_by_7
def l_two_by_5a_0 : WS := sAsg (gN 3) (wCall sl_turned [wVar 2, wVar 7])
def l_two_by_5 : WS := sSeq (sIf (wBin oEq (wVar 1) (wC (.int 3))) l_two_by_5a_0 sNil) l_two_by_6
def l_two_by_4a_0 : WS := sAsg (gN 3) (wBin oIx (wLst [wTup [wTup [wUn oNeg (wBin oIx (wVar 5) (wC (.int 0))), wBin oIx (wVar 5) (wC (.int 1))], wVar 4], wTup [wTup [wUn oNeg (wBin oIx (wVar 4) (wC (.int 0))), wBin oIx (wVar 4) (wC (.int 1))], wTup [wUn oNeg (wBin oIx (wVar 5) (wC (.int 0))), wBin oIx (wVar 5) (wC (.int 1))]], wTup [wVar 5, wTup [wUn oNeg (wBin oIx (wVar 4) (wC (.int 0))), wBin oIx (wVar 4) (wC (.int 1))]]]) (wVar 1))
def l_two_by_4 : WS := sSeq (sIf (wBin oLt (wVar 1) (wC (.int 3))) l_two_by_4a_0 sNil) l_two_by_5
def l_two_by_3 : WS := sSeq (sAsg (gN 7) (wTup [wCall sl_lowest [wBin oSub (wBin oMul (wVar 6) (wVar 6)) (wC (.int 1)), wBin oAdd (wBin oMul (wVar 6) (wVar 6)) (wC (.int 1))], wCall sl_lowest [wBin oMul (wC (.int 2)) (wVar 6), wBin oAdd (wBin oMul (wVar 6) (wVar 6)) (wC (.int 1))]])) l_two_by_4
def l_two_by_2 : WS := sSeq (sAsg (gN 6) (wBin oAdd (wC (.int 5)) (wCall sl_take [wVar 0, wC (.int 18)]))) l_two_by_3
def l_two_by_1 : WS := sSeq (sAsg (gT 2 (gsL [gN 4, gN 5])) (wVar 2)) l_two_by_2
def l_two_by_0 : WS := sSeq (sPar [1, 2, 3] [wCall sl_take [wVar 0, wC (.int 8)], wCall sl_unit_by [wVar 0], wCall sl_unit_by [wVar 0]]) l_two_by_1
theorem un_neg {u : Vc} (h : Un u) : Un (-u.1, -u.2) := by
  unfold Un at *
  show -u.1 * -u.1 + -u.2 * -u.2 = 1
  grind
theorem un_back {u : Vc} (h : Un u) : Un (u.1, -u.2) := by
  unfold Un at *
  show u.1 * u.1 + -u.2 * -u.2 = 1
  grind
theorem un_q {u : Vc} (h : Un u) : Un (-u.2, u.1) := by
  unfold Un at *
  show -u.2 * -u.2 + u.1 * u.1 = 1
  grind
theorem un_q3 {u : Vc} (h : Un u) : Un (u.2, -u.1) := by
  unfold Un at *
  show u.2 * u.2 + -u.1 * -u.1 = 1
  grind
theorem ok_l_two_by : ∀ args L R, args.length = 1 → sl_two_by args L R → l_two_by_0 (initE 8 args) L { nx := fun _ L' => R .non L', rt := R } := by
  rintro _ L R _ ⟨b, n, rfl, hb, hn, h⟩
  unfold l_two_by_0
  show sSeq _ _ [some (.ref b), none, none, none, none, none, none, none] L _
  walk_at "ev"
  refine ⟨b, 8, n, rfl, hb, by omega, by decide, denS (by decide), fun w L1 w0 w1 b1 l1 => ⟨b, _, rfl, b1, by omega, fun u L2 hu su b2 l2 => ⟨b, _, rfl, b2, by omega, fun v L3 hv sv b3 l3 => ?_⟩⟩⟩
  unfold l_two_by_1
  walk_at "ev"
  unfold l_two_by_2
  walk_at "ev"
  refine ⟨b, 18, _, rfl, b3, by omega, by decide, denS (by decide), fun m L4 m0 m1 b4 l4 => ?_⟩
  have l4 := ((l1.trans l2).trans l3).trans l4
  walk_at "ev"
  unfold l_two_by_3
  walk_at "ev"
  generalize hM : 5 + m = M at *
  have hM0 : 5 ≤ M := by omega
  have hM1 : M ≤ 22 := by omega
  obtain ⟨sm0, sm1⟩ := sq_bd (a := M) (by omega) hM1
  have hne : M * M + 1 ≠ 0 := by omega
  have dk : DenOk (M * M + 1) := DenOk.of (a := 9) (by show _ < 512; omega) (by decide)
  have s1 : Sz 9 (((M * M - 1 : Int) : Rat) / ((M * M + 1 : Int) : Rat)) := Sz.of hne (by show _ < 512; omega) (by show _ < 512; omega)
  have s2 : Sz 9 (((2 * M : Int) : Rat) / ((M * M + 1 : Int) : Rat)) := Sz.of hne (by show _ < 512; omega) (by show _ < 512; omega)
  have ul : Un (((M * M - 1 : Int) : Rat) / ((M * M + 1 : Int) : Rat), ((2 * M : Int) : Rat) / ((M * M + 1 : Int) : Rat)) := by
    have := un_ab (a := M) (b := 1) (by omega)
    rw [Int.mul_one, Int.mul_one] at this
    exact this
  refine ⟨mulL (by omega), mulL (by omega), _, _, rfl, hne, dk, ?_⟩
  walk_at "ev"
  refine ⟨mulL (by omega), mulL (by omega), _, _, rfl, hne, dk, ?_⟩
  walk_at "ev"
  generalize ((M * M - 1 : Int) : Rat) / ((M * M + 1 : Int) : Rat) = lx at *
  generalize ((2 * M : Int) : Rat) / ((M * M + 1 : Int) : Rat) = ly at *
  have sl : SzV 9 (lx, ly) := ⟨s1, s2⟩
  have sl' : SzV 9 (lx, -ly) := ⟨s1, s2.neg⟩
  have su' : SzV 39 u := su.mono (by decide)
  have seven : ∀ v L5, Un v → SzV 39 v → Bx b (n + 20) L5 → LeB b L L5 → l_two_by_7 [some (.ref b), some (.int w), some (vc u), some (vc v), some (fr u.1), some (fr u.2), some (.int M), some (vc (lx, ly))] L5 { nx := fun _ L' => R .non L', rt := R } := by
    intro v L5 hv sv b5 l5
    unfold l_two_by_7
    walk_at "ev"
    have eight : ∀ v, Un v → SzV 39 v → u ≠ v → l_two_by_8 [some (.ref b), some (.int w), some (vc u), some (vc v), some (fr u.1), some (fr u.2), some (.int M), some (vc (lx, ly))] L5 { nx := fun _ L' => R .non L', rt := R } := by
      intro v hv sv hne
      unfold l_two_by_8
      walk_at "ev"
      exact h _ _ _ hu hv su sv b5 l5 hne
    split
    · unfold l_two_by_7a_0
      walk_at "ev"
      rw [fr_neg, fr_neg, vc_mk]
      refine eight _ (un_neg hu) ⟨su'.1.neg, su'.2.neg⟩ fun z => ?_
      have z1 : u.1 = -u.1 := congrArg Prod.fst z
      have z2 : u.2 = -u.2 := congrArg Prod.snd z
      have y1 : u.1 = 0 := by grind
      have y2 : u.2 = 0 := by grind
      unfold Un at hu
      rw [y1, y2] at hu
      grind
    · rename_i hne
      exact eight v hv sv fun z => hne z.symm
  have four : ∀ v L5, Un v → SzV 10 v → Bx b (n + 20) L5 → LeB b L L5 → l_two_by_5 [some (.ref b), some (.int w), some (vc u), some (vc v), some (fr u.1), some (fr u.2), some (.int M), some (vc (lx, ly))] L5 { nx := fun _ L' => R .non L', rt := R } := by
    intro v L5 hv sv b5 l5
    have six : ∀ v, Un v → SzV 39 v → l_two_by_6 [some (.ref b), some (.int w), some (vc u), some (vc v), some (fr u.1), some (fr u.2), some (.int M), some (vc (lx, ly))] L5 { nx := fun _ L' => R .non L', rt := R } := by
      intro v hv sv
      unfold l_two_by_6
      walk_at "ev"
      split
      · unfold l_two_by_6a_0
        walk_at "ev"
        rw [fr_neg, vc_mk]
        refine ⟨_, _, _, _, rfl, su, sl', by decide, ?_⟩
        walk_at "ev"
        exact seven _ _ (rot_un hu (un_back ul)) ((su.rot sl').mono (by decide)) b5 l5
      · exact seven v _ hv sv b5 l5
    unfold l_two_by_5
    walk_at "ev"
    split
    · unfold l_two_by_5a_0
      walk_at "ev"
      refine ⟨_, _, _, _, rfl, su, sl, by decide, ?_⟩
      walk_at "ev"
      exact six _ (rot_un hu ul) ((su.rot sl).mono (by decide))
    · exact six v hv (sv.mono (by decide))
  unfold l_two_by_4
  walk_at "ev"
  split
  · unfold l_two_by_4a_0
    walk_at "ev"
    rw [fr_neg, fr_neg]
    walk_at "ev"
    intro p hp
    have b5 : Bx b (n + 20) _ := (b4.new (o := .l [vc (-u.2, u.1), vc (-u.1, -u.2), vc (u.2, -u.1)]) hp).mono (by omega)
    have l5 := l4.le (o := .l [vc (-u.2, u.1), vc (-u.1, -u.2), vc (u.2, -u.1)]) hp
    obtain rfl | rfl | rfl : w = 0 ∨ w = 1 ∨ w = 2 := by omega
    · rw [ixl0 put_same]; exact four _ _ (un_q hu) ⟨su.2.neg, su.1⟩ b5 l5
    · rw [ixl1 put_same]; exact four _ _ (un_neg hu) ⟨su.1.neg, su.2.neg⟩ b5 l5
    · rw [ixl2 put_same]; exact four _ _ (un_q3 hu) ⟨su.2, su.1.neg⟩ b5 l5
  · exact four v _ hv sv (b4.mono (by omega)) l4
theorem mrev {L : Sto} {R : PK} {p : Addr} {xs : List PV} (e : L p = some (.l xs)) (h : R .non (put L p (.l xs.reverse))) : mReverse (.ref p) [] L R := ⟨xs, e, h⟩
theorem e_app {L : Sto} {R : PK} {p : Addr} {xs : List PV} {x : PV} (e : L p = some (.l xs)) (h : xs.length < sizeLine ∧ R .non (put L p (.l (xs ++ [x])))) : mAppend (.ref p) [x] L R := ⟨xs, e, h⟩
theorem ty_list {L : Sto} {p : Addr} {xs : List PV} (e : L p = some (.l xs)) : tyOk "list" (.ref p) L := .inl ⟨rfl, xs, e⟩
theorem cut_1 {α : Type} {x : α} {xs : List α} : cutP (x :: xs) (some 1) none = xs := by
  unfold cutP
  rw [show (some (1 : Int)) = some ((1 : Nat) : Int) from rfl, HT.sIx_nat]
  show List.take ((x :: xs).length - min 1 (x :: xs).length) (List.drop (min 1 (x :: xs).length) (x :: xs)) = xs
  have : min 1 (x :: xs).length = 1 := by rw [List.length_cons]; omega
  rw [this, List.length_cons, Nat.add_sub_cancel]
  show List.take xs.length xs = xs
  exact List.take_length
end Mp
namespace Mp
open PySem PySem.Spec PyProof.Rows L2
local macro_rules | `(tactic| walk_at "ev") => `(tactic| try simp only [oEq_ff, oNe_ff, oEq_vv, oNe_vv, e_gTv, vc_mk, vx0, vx1, if_true, if_false, decide_true, decide_false, Bool.not_true, Bool.not_false, Bool.false_eq_true, reduceCtorEq, e_gS, e_gT, e_gsL0, e_gsL1, e_gsN0, e_gsN1, e_r1, e_r1K, e_r2, e_r2K, e_any, e_lsT, e_zpT, e_enT, e_en, e_zp, e_z3, e_revt, e_tru, tru_bl, tru_int, tru_non, tru_tup, e_disp, e_prs0, e_prs1, List.zip_nil_left, e_rv, e_for, e_comp, e_mt, e_wipe0, e_wipe1, fr0, fr1, ix0, ix1, ix2, ix3, bIf_t, bIf_f, bIf_d, bIf_n, oEq_ii, oNe_ii, oEq_bb, oNe_bb, List.set_cons_zero, List.set_cons_succ, List.zip_cons_cons, List.zip_nil_right, List.foldl_cons, List.foldl_nil, e_add, e_addI, e_addt, e_addl, e_sub, e_mul, e_div, e_mod, e_pow, e_oI, e_neg, e_not, e_isn, e_isnn, e_isb, e_isnb, e_isN_non, e_isN_bl, e_isN_int, e_isN_tup, e_isN_ref, e_isN_fz, e_isN_fr, e_isN_str, e_lent, e_lenz, e_abs, e_int, e_intb, e_dvm, e_min, e_max, e_listt, e_listz, e_tupt, e_str, gv_0, gv_s, e_slt, e_slz, e_v0, e_v1, e_v2, e_v3, e_v4, e_v5, e_v6, e_v7, e_v8, e_v9, e_v10, e_v11, e_v12, e_v13, e_v14, e_v15, e_v16, e_v17, e_v18, e_v19, e_v20, e_v21, e_v22, e_v23, e_v24, e_v25, e_v26, e_v27, e_v28, e_v29, e_v30, e_v31, e_v32, e_v33, e_v34, e_v35, e_v36, e_v37, e_v38, e_v39, e_ar0, e_ar1, e_gN, e_par, e_c, e_bin, e_un, e_and, e_or, e_ife, e_chain, e_tup, e_lst, e_bi, e_call, e_sl, e_no, e_so, e_nil, e_seq, e_expr, e_ret, e_retn, e_asg, e_if, e_brk, e_cnt, sz_0, sz_1, sz_2, sz_3, sz_4, sz_5, sz_6, sz_7, sz_8, sz_9, sz_10, sz_11, sz_12, sz_13, sz_14, sz_15, sz_16, sz_17, sz_18, sz_19, true_and, isi_non_int, isi_non_bool, isi_non_str, isi_non_tuple, isi_non_list, isi_non_dict, isi_bl_int, isi_bl_bool, isi_bl_str, isi_bl_tuple, isi_bl_list, isi_bl_dict, isi_int_int, isi_int_bool, isi_int_str, isi_int_tuple, isi_int_list, isi_int_dict, isi_str_int, isi_str_bool, isi_str_str, isi_str_tuple, isi_str_list, isi_str_dict, isi_tup_int, isi_tup_bool, isi_tup_str, isi_tup_tuple, isi_tup_list, isi_tup_dict, isi_fz_int, isi_fz_bool, isi_fz_str, isi_fz_tuple, isi_fz_list, isi_fz_dict])
def s_mirrored_unit : Spec := fun args L R => ∃ u, args = [vc u] ∧ SzV 3999 u ∧ R (vc (mir u)) L
def s_half_of : Spec := fun args L R => ∃ a u, args = [vc a, vc u] ∧ SzV 900 a ∧ SzV 900 u ∧ R (.int (hf a u)) L
def s_is_ahead : Spec := fun args L R => ∃ a u v, args = [vc a, vc u, vc v] ∧ SzV 900 a ∧ SzV 900 u ∧ SzV 900 v ∧ ∀ L', Le L L' → R (.bl (decide (Ahd a u v))) L'
/-! mirrored_unit(unit): 0 unit -/
def d_mirrored_unit_0 : WS := sRet (wTup [wCall s_taken [wC (.tup [.int 0, .int 1]), wBin oIx (wVar 0) (wC (.int 0))], wBin oIx (wVar 0) (wC (.int 1))])
/-! half_of(first, unit): 0 first, 1 unit, 2 side -/
def d_half_of_3 : WS := sRet (wIfE (wBin oEq (wVar 1) (wVar 0)) (wC (.int 0)) (wC (.int 2)))
def d_half_of_2a_0 : WS := sRet (wC (.int 3))
def d_half_of_2 : WS := sSeq (sIf (wBin oLt (wVar 2) (wC (.int 0))) d_half_of_2a_0 sNil) d_half_of_3
def d_half_of_1a_0 : WS := sRet (wC (.int 1))
def d_half_of_1 : WS := sSeq (sIf (wBin oGt (wVar 2) (wC (.int 0))) d_half_of_1a_0 sNil) d_half_of_2
def d_half_of_0 : WS := sSeq (sAsg (gN 2) (wCall s_compared [wCall s_cross [wVar 0, wVar 1], wC (.tup [.int 0, .int 1])])) d_half_of_1
/-! is_ahead(first, one, other): 0 first, 1 one, 2 other, 3 halves, 4 unit -/
def d_is_ahead_2 : WS := sRet (wBin oGt (wCall s_compared [wCall s_cross [wVar 1, wVar 2], wC (.tup [.int 0, .int 1])]) (wC (.int 0)))
def d_is_ahead_1a_0 : WS := sRet (wBin oLt (wBin oIx (wVar 3) (wC (.int 0))) (wBin oIx (wVar 3) (wC (.int 1))))
def d_is_ahead_1 : WS := sSeq (sIf (wBin oNe (wBin oIx (wVar 3) (wC (.int 0))) (wBin oIx (wVar 3) (wC (.int 1)))) d_is_ahead_1a_0 sNil) d_is_ahead_2
def d_is_ahead_0 : WS := sSeq (sAsg (gN 3) (wComp [4] (iAny (wTup [wVar 1, wVar 2])) (gN 4) (wC (.bl true)) (wCall s_half_of [wVar 0, wVar 4]))) d_is_ahead_1
theorem zsub_eq {q : Rat} : (0 : Rat) - q = -q := by grind
theorem ok_mirrored_unit : ∀ args L R, args.length = 1 → s_mirrored_unit args L R → d_mirrored_unit_0 (initE 1 args) L { nx := fun _ L' => R .non L', rt := R } := by
  rintro _ L R _ ⟨u, rfl, hu, h⟩
  unfold d_mirrored_unit_0
  show sRet _ [some (vc u)] L _
  walk_at "ev"
  rw [fr_zero]
  refine ⟨_, _, rfl, sz0 (by decide), hu.1.mono (by decide), ?_⟩
  walk_at "ev"
  rw [zsub_eq]
  exact h
theorem hf_cases {a u : Vc} : (if 0 < vcrs a u then (1 : Int) else if vcrs a u < 0 then 3 else if u = a then 0 else 2) = (hf a u : Int) := by
  unfold hf
  split
  · rfl
  · split
    · rfl
    · split <;> rfl
theorem cmp_neg {p q : Rat} : (cmpI p q < 0) ↔ p < q := by
  unfold cmpI
  by_cases h : q < p
  · rw [if_pos h]; exact ⟨fun z => absurd z (by decide), fun z => by grind⟩
  · rw [if_neg h]
    by_cases k : p < q
    · rw [if_pos k]; exact ⟨fun _ => k, fun _ => by decide⟩
    · rw [if_neg k]; exact ⟨fun z => absurd z (by decide), fun z => absurd z k⟩
theorem ok_half_of : ∀ args L R, args.length = 2 → s_half_of args L R → d_half_of_0 (initE 3 args) L { nx := fun _ L' => R .non L', rt := R } := by
  rintro _ L R _ ⟨a, u, rfl, ha, hu, h⟩
  unfold d_half_of_0
  show sSeq _ _ [some (vc a), some (vc u), none] L _
  walk_at "ev"
  rw [fr_zero]
  refine ⟨_, _, rfl, ha.mono (by decide), hu.mono (by decide), _, _, rfl, (ha.crs hu).B (by decide), sz0 (by decide), ?_⟩
  unfold d_half_of_1 d_half_of_1a_0
  walk_at "ev"
  simp only [cmp_pos]
  rw [← hf_cases] at h
  by_cases h1 : 0 < vcrs a u
  · rw [if_pos h1] at h ⊢; exact h
  rw [if_neg h1] at h ⊢
  unfold d_half_of_2 d_half_of_2a_0
  walk_at "ev"
  simp only [cmp_neg]
  by_cases h2 : vcrs a u < 0
  · rw [if_pos h2] at h ⊢; exact h
  rw [if_neg h2] at h ⊢
  unfold d_half_of_3
  walk_at "ev"
  by_cases h3 : u = a
  · rw [if_pos h3] at h ⊢; exact h
  rw [if_neg h3] at h ⊢; exact h
theorem ahd_if {a u v : Vc} : decide (Ahd a u v) = (if hf a u = hf a v then decide (0 < vcrs u v) else decide (hf a u < hf a v)) := by
  unfold Ahd
  split <;> rfl
theorem ok_is_ahead : ∀ args L R, args.length = 3 → s_is_ahead args L R → d_is_ahead_0 (initE 5 args) L { nx := fun _ L' => R .non L', rt := R } := by
  rintro _ L R _ ⟨a, u, v, rfl, ha, hu, hv, h⟩
  rw [ahd_if] at h
  unfold d_is_ahead_0
  show sSeq _ _ [some (vc a), some (vc u), some (vc v), none, none] L _
  walk_at "ev"
  refine ⟨trivial, ?_⟩
  walk_at "ev"
  refine ⟨_, _, rfl, ha, hu, by show 0 < 16777216; decide, trivial, ?_⟩
  walk_at "ev"
  refine ⟨_, _, rfl, ha, hv, by show 1 < 16777216; decide, trivial, ?_⟩
  intro p hp
  have e := put_same (L := L) (a := p) (o := .l ([] ++ [PV.int (hf a u)] ++ [PV.int (hf a v)]))
  have hl := Le.new (o := .l ([] ++ [PV.int (hf a u)] ++ [PV.int (hf a v)])) hp
  generalize put L p _ = L1 at *
  have h := h L1 hl
  unfold d_is_ahead_1
  walk_at "ev"
  rw [ixl0 e, ixl1 e]
  walk_at "ev"
  by_cases hq : hf a u = hf a v
  · rw [if_pos hq] at h
    rw [hq]
    walk_at "ev"
    unfold d_is_ahead_2
    walk_at "ev"
    rw [fr_zero]
    refine ⟨_, _, rfl, hu.mono (by decide), hv.mono (by decide), _, _, rfl, (hu.crs hv).B (by decide), sz0 (by decide), ?_⟩
    walk_at "ev"
    simp only [cmp_pos]
    exact h
  · rw [if_neg hq] at h
    rw [if_neg (fun z => hq (by omega))]
    unfold d_is_ahead_1a_0
    walk_at "ev"
    rw [ixl0 e, ixl1 e]
    walk_at "ev"
    rw [show decide ((hf a u : Int) < (hf a v : Int)) = decide (hf a u < hf a v) from decide_eq_decide.mpr (by omega)]
    exact h
/-! ### units_between -/
def s_units_between : Spec := fun args L R => ∃ (u v : Vc) (n a b : Nat), args = [vc u, vc v, .int n] ∧ Un u ∧ Un v ∧ SzV a u ∧ SzV b v ∧ a + b ≤ 200 ∧ 0 < n ∧ n < 4 ∧ Fresh L R ((uni u v n).map vc)
/-! units_between(one, other, steps): 0 one, 1 other, 2 steps, 3 there, 4 back, 5 found, 6 unit -/
def d_units_between_5 : WS := sRet (wBin oAdd (wBin oAdd (wVar 5) (wVar 3)) (wVar 4))
def d_units_between_4w_0a_1 : WS := sExpr (wMt "list" mPop (wVar 4) [wC (.int 0)])
def d_units_between_4w_0a_0 : WS := sSeq (sExpr (wMt "list" mAppend (wVar 5) [wMt "list" mPop (wVar 3) [wC (.int 0)]])) d_units_between_4w_0a_1
def d_units_between_4w_0b_0a_0 : WS := sExpr (wMt "list" mAppend (wVar 5) [wMt "list" mPop (wVar 3) [wC (.int 0)]])
def d_units_between_4w_0b_0b_0 : WS := sExpr (wMt "list" mAppend (wVar 5) [wMt "list" mPop (wVar 4) [wC (.int 0)]])
def d_units_between_4w_0b_0 : WS := sIf (wCall s_is_ahead [wVar 0, wBin oIx (wVar 3) (wC (.int 0)), wBin oIx (wVar 4) (wC (.int 0))]) d_units_between_4w_0b_0a_0 d_units_between_4w_0b_0b_0
def d_units_between_4w_0 : WS := sIf (wBin oEq (wBin oIx (wVar 3) (wC (.int 0))) (wBin oIx (wVar 4) (wC (.int 0)))) d_units_between_4w_0a_0 d_units_between_4w_0b_0
def d_units_between_4 : WS := sSeq (sWhile (wAnd (wBin oGt (wBi gLen [wVar 3]) (wC (.int 0))) (wBin oGt (wBi gLen [wVar 4]) (wC (.int 0)))) d_units_between_4w_0) d_units_between_5
def d_units_between_3 : WS := sSeq (sAsg (gN 5) (wLst [])) d_units_between_4
def d_units_between_2 : WS := sSeq (sAsg (gN 4) (wComp [6] (iRv (wVar 4)) (gN 6) (wC (.bl true)) (wCall s_mirrored_unit [wVar 6]))) d_units_between_3
def d_units_between_1 : WS := sSeq (sAsg (gN 4) (wCall s_quarters_between [wCall s_mirrored_unit [wVar 1], wCall s_mirrored_unit [wVar 0], wVar 2])) d_units_between_2
def d_units_between_0 : WS := sSeq (sAsg (gN 3) (wCall s_quarters_between [wVar 0, wVar 1, wVar 2])) d_units_between_1
theorem comp_map {α : Type} {f g : α → PV} {keep : Sto → Prop} {we : WE} {env : Env} {k : Nat} {L : Sto} {R : List PV → Sto → Prop} {xs : List α} (hk : ∀ l, Le L l → keep l) (hn : xs.length < 1000000)
    (hw : ∀ x ∈ xs, ∀ l R', Le L l → (∀ l', Le L l' → R' (g x) l') → we (env.set k (some (f x))) l R') (hR : ∀ l, Le L l → R (xs.map g) l) : compW keep (gN k) (wC (.bl true)) we env (xs.map f) [] L R := by
  refine comp_i (fun i acc l => Le L l ∧ acc = (xs.take i).map g) ⟨.refl, rfl⟩ (fun i a l q => hk l q.1) (by rw [List.length_map]; show _ < 16777216; omega) ?_ ?_
  · rintro i t acc l K hx ⟨hl, rfl⟩ hi hK
    rw [List.getElem?_map] at hx
    cases q : xs[i]? with
    | none => rw [q] at hx; cases hx
    | some x =>
      rw [q] at hx
      cases hx
      walk_at "ev"
      refine hw x (List.mem_of_getElem? q) l _ hl fun l' hl' => ?_
      refine ⟨?_, ?_⟩
      · rw [List.length_map, List.length_take]; show _ < 16777216; omega
      · refine hK _ _ ?_ ⟨hl', ?_⟩
        · rw [List.length_append, List.length_map, List.length_take]
          show _ + 1 ≤ i + 1
          omega
        · rw [List.take_add_one, q, List.map_append]; rfl
  · rintro acc l ⟨hl, rfl⟩
    rw [List.length_map, List.take_length]
    exact hR l hl
theorem gtl {n : Nat} : (((n : Nat) : Int) > 0) ↔ n ≠ 0 := by omega
theorem ok_units_between : ∀ args L R, args.length = 3 → s_units_between args L R → d_units_between_0 (initE 7 args) L { nx := fun _ L' => R .non L', rt := R } := by
  rintro _ L R _ ⟨u, v, n, a, b, rfl, hu, hv, su, sv, hab, hn0, hn, k⟩
  have hsz : ∀ x ∈ uni u v n, SzV 900 x := fun x hx => (uni_szU su sv hu hv hn0 hn x hx).mono (by omega)
  have hul := uni_len (u := u) (v := v) hn
  have l1 := qres_len4 (u := u) (v := v) hn
  have l2 := qres_len4 (u := mir v) (v := mir u) hn
  have lB : (bck u v n).length = (qres (mir v) (mir u) n).length := by unfold bck; rw [List.length_reverse, List.length_map]
  unfold d_units_between_0
  show sSeq _ _ [some (vc u), some (vc v), some (.int n), none, none, none, none] L _
  walk_at "ev"
  refine ⟨u, v, n, a, b, rfl, hu, hv, su, sv, hab, hn0, by omega, ?_⟩
  intro p3 L1 hp3 hl1 e3
  unfold d_units_between_1
  walk_at "ev"
  refine ⟨_, rfl, sv.mono (by omega), _, rfl, su.mono (by omega), ?_⟩
  refine ⟨mir v, mir u, n, b, a, rfl, mir_un hv, mir_un hu, sv.mir, su.mir, by omega, hn0, by omega, ?_⟩
  intro p4 L2 hp4 hl2 e4
  unfold d_units_between_2
  walk_at "ev"
  rw [e_rvK e4, ← List.map_reverse]
  refine comp_map (g := fun x => vc (mir x)) (fun l hl => hl _ _ e4) (by rw [List.length_reverse]; omega) ?_ ?_
  · intro x hx l R' hl hR'
    walk_at "ev"
    have hx' : x ∈ qres (mir v) (mir u) n := by simpa using hx
    exact ⟨x, rfl, (qres_szU sv.mir su.mir (mir_un hv) (mir_un hu) hn0 hn x hx').mono (by omega), hR' l hl⟩
  intro L3 hl3 p4' hp4'
  unfold d_units_between_3
  walk_at "ev"
  intro p5 hp5
  have eB : ((qres (mir v) (mir u) n).reverse.map fun x => vc (mir x)) = (bck u v n).map vc := by
    unfold bck
    rw [← List.map_reverse, List.map_map]
    rfl
  rw [eB] at hp5 ⊢
  have e3' : L3 p3 = some (.l ((qres u v n).map vc)) := hl3 _ _ (hl2 _ _ e3)
  have n34 : p3 ≠ p4' := ne_adr hp4' e3'
  have n35 : p3 ≠ p5 := ne_adr hp5 (by rw [put_ne n34]; exact e3')
  have n45 : p4' ≠ p5 := ne_adr hp5 put_same
  have f4 : L p4' = none := ((hl1.trans hl2).trans hl3).free hp4'
  have f5 : L p5 = none := by
    have : L3 p5 = none := by rw [put_ne (fun z => n45 z.symm)] at hp5; exact hp5
    exact ((hl1.trans hl2).trans hl3).free this
  have f3 : L p3 = none := hp3
  have hle : Le L (put (put L3 p4' (.l ((bck u v n).map vc))) p5 (.l [])) := (((hl1.trans hl2).trans hl3).put f4).put f5
  have d3 : (put (put L3 p4' (.l ((bck u v n).map vc))) p5 (.l [])) p3 = some (.l ((qres u v n).map vc)) := by rw [put_ne n35, put_ne n34]; exact e3'
  have d4 : (put (put L3 p4' (.l ((bck u v n).map vc))) p5 (.l [])) p4' = some (.l ((bck u v n).map vc)) := by rw [put_ne n45, put_same]
  have d5 : (put (put L3 p4' (.l ((bck u v n).map vc))) p5 (.l [])) p5 = some (.l (([] : List Vc).map vc)) := put_same
  generalize put (put L3 p4' (.l ((bck u v n).map vc))) p5 (.l []) = L4 at *
  unfold d_units_between_4
  walk_at "ev"
  refine ⟨fun m env l => ∃ T B F : List Vc, env = [some (vc u), some (vc v), some (.int n), some (.ref p3), some (.ref p4'), some (.ref p5), none] ∧ m = T.length + B.length ∧ F ++ mrg u T B = uni u v n ∧ T.length ≤ 16 ∧ B.length ≤ 16 ∧
    Le L l ∧ l p3 = some (.l (T.map vc)) ∧ l p4' = some (.l (B.map vc)) ∧ l p5 = some (.l (F.map vc)), ⟨_, qres u v n, bck u v n, [], rfl, rfl, rfl, l1, by omega, hle, d3, d4, d5⟩, ?_⟩
  rintro m env l ⟨T, B, F, rfl, rfl, hm, hT, hB, hl, c3, c4, c5⟩
  have hF : F.length ≤ 32 := by have := congrArg List.length hm; rw [List.length_append] at this; omega
  have fin : mrg u T B = T ++ B → d_units_between_5 [some (vc u), some (vc v), some (.int n), some (.ref p3), some (.ref p4'), some (.ref p5), none] l { nx := fun _ L' => R .non L', rt := R } := by
    intro hq
    unfold d_units_between_5
    walk_at "ev"
    refine e_cat c5 c3 ⟨by rw [List.length_map, List.length_map]; show _ ≤ 16777216; omega, fun p6 h6 => ?_⟩
    refine e_cat (xs := F.map vc ++ T.map vc) put_same (by rw [put_ne (ne_adr h6 c4)]; exact c4) ⟨by rw [List.length_append, List.length_map, List.length_map, List.length_map]; show _ ≤ 16777216; omega, fun p7 h7 => ?_⟩
    have f6 := hl.free h6
    have f7 : L p7 = none := (hl.put f6).free h7
    refine k p7 _ f7 ((hl.put f6).put f7) ?_
    rw [put_same, ← List.map_append, ← List.map_append, List.append_assoc, ← hq, hm]
  walk_at "ev"
  rw [e_lenl c3]
  walk_at "ev"
  cases T with
  | nil =>
    rw [if_neg (by decide)]
    exact fin (by rw [mrg]; rfl)
  | cons x T =>
    rw [if_pos (by rw [List.length_map, List.length_cons]; omega), e_lenl c4]
    walk_at "ev"
    cases B with
    | nil =>
      rw [if_neg (by decide)]
      exact fin (by rw [mrg, List.append_nil])
    | cons y B =>
      rw [if_pos (by rw [List.length_map, List.length_cons]; omega)]
      have hmem : ∀ z, z ∈ mrg u (x :: T) (y :: B) → SzV 900 z := fun z hz => hsz z (by rw [← hm]; exact List.mem_append_right _ hz)
      have sx := hmem x (mrg_mem.mpr (.inl List.mem_cons_self))
      have sy := hmem y (mrg_mem.mpr (.inr List.mem_cons_self))
      rw [mrg] at hm
      rw [List.length_cons] at hT hB
      have pushF : ∀ (z : Vc) {l' : Sto} {K : Prop}, Le L l' → l' p5 = some (.l (F.map vc)) → (Le L (put l' p5 (.l ((F ++ [z]).map vc))) → K) → K := fun z l' K h1 h2 h3 => h3 (h1.put f5)
      unfold d_units_between_4w_0
      walk_at "ev"
      rw [ixl0 c3, ixl0 c4]
      walk_at "ev"
      by_cases hxy : x = y
      · rw [if_pos hxy] at hm
        rw [if_pos hxy]
        unfold d_units_between_4w_0a_0
        walk_at "ev"
        refine ⟨ty_list c5, ty_list c3, e_pop0 c3 ?_⟩
        refine e_app (by rw [put_ne (fun z => n35 z.symm)]; exact c5) ⟨by rw [List.length_map]; show _ < 16777216; omega, ?_⟩
        unfold d_units_between_4w_0a_1
        walk_at "ev"
        have c4' : (put (put l p3 (.l (T.map vc))) p5 (.l (F.map vc ++ [vc x]))) p4' = some (.l (vc y :: B.map vc)) := by rw [put_ne n45, put_ne (fun z => n34 z.symm)]; exact c4
        refine ⟨ty_list c4', e_pop0 c4' ?_⟩
        refine ⟨_, ?_, T, B, F ++ [x], rfl, ?_, by omega, by omega, (((hl.put f3).put f5).put f4), ?_, put_same, ?_⟩
        · rw [List.length_cons, List.length_cons]; omega
        · rw [List.append_assoc]; exact hm
        · rw [put_ne n34, put_ne n35, put_same]
        · rw [put_ne (fun z => n45 z.symm), put_same, List.map_append]; rfl
      · rw [if_neg hxy] at hm
        rw [if_neg hxy]
        unfold d_units_between_4w_0b_0
        walk_at "ev"
        rw [ixl0 c3, ixl0 c4]
        refine ⟨_, _, _, rfl, su.mono (by omega), sx, sy, fun l' hl' => ?_⟩
        have c3 := hl' _ _ c3
        have c4 := hl' _ _ c4
        have c5 := hl' _ _ c5
        have hl := hl.trans hl'
        walk_at "ev"
        by_cases hA : Ahd u x y
        · rw [if_pos hA] at hm
          rw [if_pos hA]
          unfold d_units_between_4w_0b_0a_0
          walk_at "ev"
          refine ⟨ty_list c5, ty_list c3, e_pop0 c3 ?_⟩
          refine e_app (by rw [put_ne (fun z => n35 z.symm)]; exact c5) ⟨by rw [List.length_map]; show _ < 16777216; omega, ?_⟩
          refine ⟨_, ?_, T, y :: B, F ++ [x], rfl, ?_, by omega, by rw [List.length_cons]; omega, ((hl.put f3).put f5), ?_, ?_, ?_⟩
          · rw [List.length_cons, List.length_cons]; omega
          · rw [List.append_assoc]; exact hm
          · rw [put_ne n35, put_same]
          · rw [put_ne n45, put_ne (fun z => n34 z.symm)]; exact c4
          · rw [put_same, List.map_append]; rfl
        · rw [if_neg hA] at hm
          rw [if_neg hA]
          unfold d_units_between_4w_0b_0b_0
          walk_at "ev"
          refine ⟨ty_list c5, ty_list c4, e_pop0 c4 ?_⟩
          refine e_app (by rw [put_ne (fun z => n45 z.symm)]; exact c5) ⟨by rw [List.length_map]; show _ < 16777216; omega, ?_⟩
          refine ⟨_, ?_, x :: T, B, F ++ [y], rfl, ?_, by rw [List.length_cons]; omega, by omega, ((hl.put f4).put f5), ?_, ?_, ?_⟩
          · rw [List.length_cons, List.length_cons]; omega
          · rw [List.append_assoc]; exact hm
          · rw [put_ne n35, put_ne n34]; exact c3
          · rw [put_ne n45, put_same]
          · rw [put_same, List.map_append]; rfl
end Mp
namespace Mp
open PySem PySem.Spec PyProof.Rows L2
local macro_rules | `(tactic| walk_at "ev") => `(tactic| try simp only [oEq_ff, oNe_ff, oEq_vv, oNe_vv, e_gTv, vc_mk, vx0, vx1, if_true, if_false, decide_true, decide_false, Bool.not_true, Bool.not_false, Bool.false_eq_true, reduceCtorEq, e_gS, e_gT, e_gsL0, e_gsL1, e_gsN0, e_gsN1, e_r1, e_r1K, e_r2, e_r2K, e_any, e_lsT, e_zpT, e_enT, e_en, e_zp, e_z3, e_revt, e_tru, tru_bl, tru_int, tru_non, tru_tup, e_disp, e_prs0, e_prs1, List.zip_nil_left, e_rv, e_for, e_comp, e_mt, e_wipe0, e_wipe1, fr0, fr1, ix0, ix1, ix2, ix3, bIf_t, bIf_f, bIf_d, bIf_n, oEq_ii, oNe_ii, oEq_bb, oNe_bb, List.set_cons_zero, List.set_cons_succ, List.zip_cons_cons, List.zip_nil_right, List.foldl_cons, List.foldl_nil, e_add, e_addI, e_addt, e_addl, e_sub, e_mul, e_div, e_mod, e_pow, e_oI, e_neg, e_not, e_isn, e_isnn, e_isb, e_isnb, e_isN_non, e_isN_bl, e_isN_int, e_isN_tup, e_isN_ref, e_isN_fz, e_isN_fr, e_isN_str, e_lent, e_lenz, e_abs, e_int, e_intb, e_dvm, e_min, e_max, e_listt, e_listz, e_tupt, e_str, gv_0, gv_s, e_slt, e_slz, e_v0, e_v1, e_v2, e_v3, e_v4, e_v5, e_v6, e_v7, e_v8, e_v9, e_v10, e_v11, e_v12, e_v13, e_v14, e_v15, e_v16, e_v17, e_v18, e_v19, e_v20, e_v21, e_v22, e_v23, e_v24, e_v25, e_v26, e_v27, e_v28, e_v29, e_v30, e_v31, e_v32, e_v33, e_v34, e_v35, e_v36, e_v37, e_v38, e_v39, e_ar0, e_ar1, e_gN, e_par, e_c, e_bin, e_un, e_and, e_or, e_ife, e_chain, e_tup, e_lst, e_bi, e_call, e_sl, e_no, e_so, e_nil, e_seq, e_expr, e_ret, e_retn, e_asg, e_if, e_brk, e_cnt, sz_0, sz_1, sz_2, sz_3, sz_4, sz_5, sz_6, sz_7, sz_8, sz_9, sz_10, sz_11, sz_12, sz_13, sz_14, sz_15, sz_16, sz_17, sz_18, sz_19, true_and, isi_non_int, isi_non_bool, isi_non_str, isi_non_tuple, isi_non_list, isi_non_dict, isi_bl_int, isi_bl_bool, isi_bl_str, isi_bl_tuple, isi_bl_list, isi_bl_dict, isi_int_int, isi_int_bool, isi_int_str, isi_int_tuple, isi_int_list, isi_int_dict, isi_str_int, isi_str_bool, isi_str_str, isi_str_tuple, isi_str_list, isi_str_dict, isi_tup_int, isi_tup_bool, isi_tup_str, isi_tup_tuple, isi_tup_list, isi_tup_dict, isi_fz_int, isi_fz_bool, isi_fz_str, isi_fz_tuple, isi_fz_list, isi_fz_dict])
theorem map_get {α : Type} {f : α → PV} {xs : List α} {i : Nat} {t : PV} (h : (xs.map f)[i]? = some t) : ∃ x, xs[i]? = some x ∧ t = f x := by
  rw [List.getElem?_map] at h
  cases q : xs[i]? with
  | none => rw [q] at h; cases h
  | some x => rw [q] at h; cases h; exact ⟨x, rfl, rfl⟩
theorem zip_get {α β : Type} {f : α → PV} {g : β → PV} {xs : List α} {ys : List β} {i : Nat} {t : PV} (h : (zipL (xs.map f) (ys.map g))[i]? = some t) : ∃ x y, xs[i]? = some x ∧ ys[i]? = some y ∧ t = .tup [f x, g y] := by
  obtain ⟨a, b, h1, h2, rfl⟩ := zipL_get h
  obtain ⟨x, hx, rfl⟩ := map_get h1
  obtain ⟨y, hy, rfl⟩ := map_get h2
  exact ⟨x, y, hx, hy, rfl⟩
theorem zip_len {xs ys : List PV} : (zipL xs ys).length = min xs.length ys.length := by unfold zipL; rw [List.length_zipWith]
theorem cut_d {α : Type} {xs : List α} {k : Nat} : cutP xs (some (k : Int)) none = xs.drop k := by
  unfold cutP
  rw [HT.sIx_nat]
  show List.take (xs.length - min k xs.length) (List.drop (min k xs.length) xs) = xs.drop k
  by_cases h : k ≤ xs.length
  · rw [Nat.min_eq_left h]
    exact List.take_of_length_le (by rw [List.length_drop]; exact Nat.le_refl _)
  · rw [Nat.min_eq_right (by omega), Nat.sub_self, List.take_zero, List.drop_of_length_le (by omega)]
theorem cut_1d {α : Type} {xs : List α} : cutP xs (some 1) none = xs.drop 1 := cut_d (k := 1)
theorem cut_2d {α : Type} {xs : List α} : cutP xs (some 2) none = xs.drop 2 := cut_d (k := 2)
/-- the least dot of two neighbours -/
def lsD (us : List Vc) : Rat := match us with
  | u :: v :: _ => ((us.drop 1).zip (us.drop 2)).foldl (fun f p => if vdot p.1 p.2 < f then vdot p.1 p.2 else f) (vdot u v)
  | _ => 0
def USm (us : List Vc) : Prop := (∀ x ∈ us, Un x ∧ SzV 800 x) ∧ 2 ≤ us.length ∧ us.length ≤ 1000
def s_least_dot : Spec := fun args L R => ∃ p us, args = [.ref p] ∧ L p = some (.l (us.map vc)) ∧ USm us ∧ ∀ L', Le L L' → R (fr (lsD us)) L'
def s_tip_of : Spec := fun args L R => ∃ u v, args = [vc u, vc v] ∧ SzV 450 u ∧ SzV 450 v ∧ 1 + vdot u v ≠ 0 ∧ R (vc ((u.1 + v.1) / (1 + vdot u v), (u.2 + v.2) / (1 + vdot u v))) L
/-! least_dot(units): 0 units, 1 found, 2 one, 3 other, 4 here -/
def d_least_dot_2 : WS := sRet (wVar 1)
def d_least_dot_1f_1a_0 : WS := sAsg (gN 1) (wVar 4)
def d_least_dot_1f_1 : WS := sIf (wBin oLt (wCall s_compared [wVar 4, wVar 1]) (wC (.int 0))) d_least_dot_1f_1a_0 sNil
def d_least_dot_1f_0 : WS := sSeq (sAsg (gN 4) (wCall s_dot [wVar 2, wVar 3])) d_least_dot_1f_1
def d_least_dot_1 : WS := sSeq (sFor (iZp (wSl (wVar 0) (wSo (wC (.int 1))) wNo) (wSl (wVar 0) (wSo (wC (.int 2))) wNo)) (gT 2 (gsL [gN 2, gN 3])) d_least_dot_1f_0) d_least_dot_2
def d_least_dot_0 : WS := sSeq (sAsg (gN 1) (wCall s_dot [wBin oIx (wVar 0) (wC (.int 0)), wBin oIx (wVar 0) (wC (.int 1))])) d_least_dot_1
/-! tip_of(one, other): 0 one, 1 other, 2 both, 3 under -/
def d_tip_of_2 : WS := sRet (wTup [wCall s_over [wBin oIx (wVar 2) (wC (.int 0)), wVar 3], wCall s_over [wBin oIx (wVar 2) (wC (.int 1)), wVar 3]])
def d_tip_of_1 : WS := sSeq (sAsg (gN 3) (wCall s_added [wC (.tup [.int 1, .int 1]), wCall s_dot [wVar 0, wVar 1]])) d_tip_of_2
def d_tip_of_0 : WS := sSeq (sAsg (gN 2) (wCall s_plus [wVar 0, wVar 1])) d_tip_of_1
theorem least_inv {us : List Vc} (h : USm us) : ∀ i, ∀ f, ((((us.drop 1).zip (us.drop 2)).take i).foldl (fun f (p : Vc × Vc) => if vdot p.1 p.2 < f then vdot p.1 p.2 else f) f = f) ∨ ∃ x ∈ us, ∃ y ∈ us, (((us.drop 1).zip (us.drop 2)).take i).foldl (fun f (p : Vc × Vc) => if vdot p.1 p.2 < f then vdot p.1 p.2 else f) f = vdot x y := by
  intro i f
  have key : ∀ (zs : List (Vc × Vc)), (∀ z ∈ zs, z.1 ∈ us ∧ z.2 ∈ us) → ∀ f, (zs.foldl (fun f (p : Vc × Vc) => if vdot p.1 p.2 < f then vdot p.1 p.2 else f) f = f) ∨ ∃ x ∈ us, ∃ y ∈ us, zs.foldl (fun f (p : Vc × Vc) => if vdot p.1 p.2 < f then vdot p.1 p.2 else f) f = vdot x y := by
    intro zs
    induction zs with
    | nil => intro _ f; exact .inl rfl
    | cons z zs ih =>
      intro hz f
      rw [List.foldl_cons]
      have hh := hz z List.mem_cons_self
      have ih := ih fun w hw => hz w (List.mem_cons_of_mem _ hw)
      split
      · rcases ih (vdot z.1 z.2) with q | q
        · exact .inr ⟨z.1, hh.1, z.2, hh.2, q⟩
        · exact .inr q
      · exact ih f
  refine key _ (fun z hz => ?_) f
  have hz := List.mem_of_mem_take hz
  obtain ⟨a, b⟩ := z
  exact ⟨List.mem_of_mem_drop (List.of_mem_zip hz).1, List.mem_of_mem_drop (List.of_mem_zip hz).2⟩
theorem dot_szS {us : List Vc} (h : USm us) {x y : Vc} (hx : x ∈ us) (hy : y ∈ us) : Sz 1600 (vdot x y) := dot_szU (h.1 x hx).1 (h.1 y hy).1 (h.1 x hx).2 (h.1 y hy).2
theorem ok_least_dot : ∀ args L R, args.length = 1 → s_least_dot args L R → d_least_dot_0 (initE 5 args) L { nx := fun _ L' => R .non L', rt := R } := by
  rintro _ L R _ ⟨p, us, rfl, e, hu, h⟩
  obtain ⟨u, v, r, rfl⟩ : ∃ u v r, us = u :: v :: r := by
    match us, hu.2.1 with
    | u :: v :: r, _ => exact ⟨u, v, r, rfl⟩
  have mu : u ∈ u :: v :: r := List.mem_cons_self
  have mv : v ∈ u :: v :: r := List.mem_cons_of_mem _ List.mem_cons_self
  unfold d_least_dot_0
  show sSeq _ _ [some (.ref p), none, none, none, none] L _
  walk_at "ev"
  rw [ixl0 (x := vc u) (xs := (v :: r).map vc) e, ixl1 (x := vc u) (y := vc v) (xs := r.map vc) e]
  refine ⟨_, _, rfl, (hu.1 u mu).2.mono (by decide), (hu.1 v mv).2.mono (by decide), ?_⟩
  unfold d_least_dot_1
  walk_at "ev"
  rw [e_sll e]
  intro p1 hp1
  have e1 := Le.new (o := .l (cutP ((u :: v :: r).map vc) (some 1) none)) hp1 _ _ e
  rw [e_sll e1]
  intro p2 hp2
  have d1 := Le.new (o := .l (cutP ((u :: v :: r).map vc) (some 2) none)) hp2 p1 _ put_same
  have hle := (Le.new (o := .l (cutP ((u :: v :: r).map vc) (some 1) none)) hp1).trans (Le.new (o := .l (cutP ((u :: v :: r).map vc) (some 2) none)) hp2)
  have d2 := put_same (L := put L p1 (.l (cutP ((u :: v :: r).map vc) (some 1) none))) (a := p2) (o := .l (cutP ((u :: v :: r).map vc) (some 2) none))
  generalize put (put L p1 _) p2 _ = L2 at *
  rw [cut_1d, ← List.map_drop] at d1
  rw [cut_2d, ← List.map_drop] at d2
  walk_at "ev"
  rw [e_zpK d1 d2]
  have hD := h L2 hle
  unfold lsD at hD
  simp only at hD
  refine loop_i (fun i e l => l = L2 ∧ ∃ z2 z3 z4, e = [some (.ref p), some (fr ((((((u :: v :: r).drop 1).zip ((u :: v :: r).drop 2)).take i).foldl (fun f p => if vdot p.1 p.2 < f then vdot p.1 p.2 else f) (vdot u v)))), z2, z3, z4]) ⟨rfl, _, _, _, rfl⟩ (fun i e l q => by rw [q.1]; exact ⟨d1, d2⟩) ?_ ?_
  · rintro i t e l K hx ⟨rfl, z2, z3, z4, rfl⟩ hK
    obtain ⟨x, y, hx1, hy1, rfl⟩ := zip_get hx
    have mx := List.mem_of_mem_drop (List.mem_of_getElem? hx1)
    have my := List.mem_of_mem_drop (List.mem_of_getElem? hy1)
    have hz : (((u :: v :: r).drop 1).zip ((u :: v :: r).drop 2))[i]? = some (x, y) := by
      rw [List.zip, List.getElem?_zipWith, hx1, hy1]
    have hs : (((u :: v :: r).drop 1).zip ((u :: v :: r).drop 2)).take (i + 1) = (((u :: v :: r).drop 1).zip ((u :: v :: r).drop 2)).take i ++ [(x, y)] := by rw [List.take_add_one, hz]; rfl
    have sf : Sz 1600 (((((u :: v :: r).drop 1).zip ((u :: v :: r).drop 2)).take i).foldl (fun f p => if vdot p.1 p.2 < f then vdot p.1 p.2 else f) (vdot u v)) := by
      rcases least_inv hu i (vdot u v) with q | ⟨a, ha, b, hb, q⟩
      · rw [q]; exact dot_szS hu mu mv
      · rw [q]; exact dot_szS hu ha hb
    simp only [hs, List.foldl_append, List.foldl_cons, List.foldl_nil] at hK
    generalize ((((u :: v :: r).drop 1).zip ((u :: v :: r).drop 2)).take i).foldl (fun f p => if vdot p.1 p.2 < f then vdot p.1 p.2 else f) (vdot u v) = f at *
    walk_at "ev"
    refine ⟨rfl, ?_⟩
    unfold d_least_dot_1f_0
    walk_at "ev"
    refine ⟨_, _, rfl, (hu.1 x mx).2.mono (by decide), (hu.1 y my).2.mono (by decide), ?_⟩
    unfold d_least_dot_1f_1
    walk_at "ev"
    refine ⟨_, _, rfl, (dot_szS hu mx my).mono (by decide), sf.mono (by decide), ?_⟩
    walk_at "ev"
    simp only [cmp_neg]
    by_cases hq : vdot x y < f
    · rw [if_pos hq] at hK ⊢
      unfold d_least_dot_1f_1a_0
      walk_at "ev"
      exact hK _ _ ⟨rfl, _, _, _, rfl⟩
    · rw [if_neg hq] at hK ⊢
      exact hK _ _ ⟨rfl, _, _, _, rfl⟩
  · rintro e l ⟨rfl, z2, z3, z4, rfl⟩
    have hl : (zipL (((u :: v :: r).drop 1).map vc) (((u :: v :: r).drop 2).map vc)).length = (((u :: v :: r).drop 1).zip ((u :: v :: r).drop 2)).length := by
      rw [zip_len, List.length_zip, List.length_map, List.length_map]
    rw [hl, List.take_length]
    unfold d_least_dot_2
    walk_at "ev"
    exact hD
theorem ok_tip_of : ∀ args L R, args.length = 2 → s_tip_of args L R → d_tip_of_0 (initE 4 args) L { nx := fun _ L' => R .non L', rt := R } := by
  rintro _ L R _ ⟨u, v, rfl, hu, hv, hn, h⟩
  unfold d_tip_of_0
  show sSeq _ _ [some (vc u), some (vc v), none, none] L _
  walk_at "ev"
  refine ⟨_, _, rfl, hu.mono (by decide), hv.mono (by decide), ?_⟩
  unfold d_tip_of_1
  walk_at "ev"
  rw [fr_one]
  have sd := hu.dot hv
  refine ⟨_, _, rfl, hu.mono (by decide), hv.mono (by decide), _, _, rfl, sz1 (by decide), sd.mono (by decide), ?_⟩
  unfold d_tip_of_2
  walk_at "ev"
  have s1 := (hu.add hv).1.mono (b := 4000) (by decide)
  have s2 := (hu.add hv).2.mono (b := 4000) (by decide)
  have su := ((sz1 (Nat.le_refl 1)).add sd).mono (b := 4000) (by decide)
  refine ⟨_, _, rfl, hn, s1, su, ?_⟩
  walk_at "ev"
  refine ⟨_, _, rfl, hn, s2, su, ?_⟩
  walk_at "ev"
  exact h
end Mp
namespace Mp
open PySem PySem.Spec PyProof.Rows L2
local macro_rules | `(tactic| walk_at "ev") => `(tactic| try simp only [oEq_ff, oNe_ff, oEq_vv, oNe_vv, e_gTv, vc_mk, vx0, vx1, if_true, if_false, decide_true, decide_false, Bool.not_true, Bool.not_false, Bool.false_eq_true, reduceCtorEq, e_gS, e_gT, e_gsL0, e_gsL1, e_gsN0, e_gsN1, e_r1, e_r1K, e_r2, e_r2K, e_any, e_lsT, e_zpT, e_enT, e_en, e_zp, e_z3, e_revt, e_tru, tru_bl, tru_int, tru_non, tru_tup, e_disp, e_prs0, e_prs1, List.zip_nil_left, e_rv, e_for, e_comp, e_mt, e_wipe0, e_wipe1, fr0, fr1, ix0, ix1, ix2, ix3, bIf_t, bIf_f, bIf_d, bIf_n, oEq_ii, oNe_ii, oEq_bb, oNe_bb, List.set_cons_zero, List.set_cons_succ, List.zip_cons_cons, List.zip_nil_right, List.foldl_cons, List.foldl_nil, e_add, e_addI, e_addt, e_addl, e_sub, e_mul, e_div, e_mod, e_pow, e_oI, e_neg, e_not, e_isn, e_isnn, e_isb, e_isnb, e_isN_non, e_isN_bl, e_isN_int, e_isN_tup, e_isN_ref, e_isN_fz, e_isN_fr, e_isN_str, e_lent, e_lenz, e_abs, e_int, e_intb, e_dvm, e_min, e_max, e_listt, e_listz, e_tupt, e_str, gv_0, gv_s, e_slt, e_slz, e_v0, e_v1, e_v2, e_v3, e_v4, e_v5, e_v6, e_v7, e_v8, e_v9, e_v10, e_v11, e_v12, e_v13, e_v14, e_v15, e_v16, e_v17, e_v18, e_v19, e_v20, e_v21, e_v22, e_v23, e_v24, e_v25, e_v26, e_v27, e_v28, e_v29, e_v30, e_v31, e_v32, e_v33, e_v34, e_v35, e_v36, e_v37, e_v38, e_v39, e_ar0, e_ar1, e_gN, e_par, e_c, e_bin, e_un, e_and, e_or, e_ife, e_chain, e_tup, e_lst, e_bi, e_call, e_sl, e_no, e_so, e_nil, e_seq, e_expr, e_ret, e_retn, e_asg, e_if, e_brk, e_cnt, sz_0, sz_1, sz_2, sz_3, sz_4, sz_5, sz_6, sz_7, sz_8, sz_9, sz_10, sz_11, sz_12, sz_13, sz_14, sz_15, sz_16, sz_17, sz_18, sz_19, true_and, isi_non_int, isi_non_bool, isi_non_str, isi_non_tuple, isi_non_list, isi_non_dict, isi_bl_int, isi_bl_bool, isi_bl_str, isi_bl_tuple, isi_bl_list, isi_bl_dict, isi_int_int, isi_int_bool, isi_int_str, isi_int_tuple, isi_int_list, isi_int_dict, isi_str_int, isi_str_bool, isi_str_str, isi_str_tuple, isi_str_list, isi_str_dict, isi_tup_int, isi_tup_bool, isi_tup_str, isi_tup_tuple, isi_tup_list, isi_tup_dict, isi_fz_int, isi_fz_bool, isi_fz_str, isi_fz_tuple, isi_fz_list, isi_fz_dict])
/-! ### lengths -/
def HasLen (v : Vc) : Prop := ∃ r : Rat, 0 < r ∧ r * r = vdot v v
noncomputable def len (v : Vc) : Rat := @dite _ (HasLen v) (Classical.propDecidable _) (fun h => h.choose) fun _ => 0
noncomputable def uv (v : Vc) : Vc := (v.1 / len v, v.2 / len v)
theorem sq_inj {a b : Rat} (ha : 0 ≤ a) (hb : 0 ≤ b) (h : a * a = b * b) : a = b := by
  have e : (a - b) * (a + b) = 0 := by grind
  rcases Rat.mul_eq_zero.mp e with q | q
  · grind
  · grind
theorem len_spec {v : Vc} (h : HasLen v) : 0 < len v ∧ len v * len v = vdot v v := by
  unfold len
  rw [dif_pos h]
  exact h.choose_spec
theorem len_of {v : Vc} {r : Rat} (h : 0 < r) (e : r * r = vdot v v) : HasLen v ∧ len v = r := by
  have hl : HasLen v := ⟨r, h, e⟩
  obtain ⟨h1, h2⟩ := len_spec hl
  exact ⟨hl, sq_inj (Rat.le_of_lt h1) (Rat.le_of_lt h) (by rw [h2, e])⟩
theorem dot_nn (v : Vc) : 0 ≤ vdot v v := by
  unfold vdot
  have := sq_nn v.1
  have := sq_nn v.2
  grind
theorem len_root {v : Vc} (h : HasLen v) : RootIs (vdot v v) (fr (len v)) := by
  obtain ⟨h1, h2⟩ := len_spec h
  exact .inr ⟨_, rfl, Rat.le_of_lt h1, h2⟩
theorem uv_un {v : Vc} (h : HasLen v) : Un (uv v) := by
  obtain ⟨h1, h2⟩ := len_spec h
  have k : len v ≠ 0 := by grind
  unfold Un uv
  show v.1 / len v * (v.1 / len v) + v.2 / len v * (v.2 / len v) = 1
  rw [div2 k k, div2 k k, div_a]
  have e : v.1 * v.1 + v.2 * v.2 = len v * len v := h2.symm
  rw [e]
  generalize len v = l at *
  grind
theorem int_of_sq {q : Rat} {n : Int} (h : q * q = (n : Rat)) : q = (q.num : Rat) := by
  obtain ⟨h1, h2⟩ := sq_num q
  have hd : q.den * q.den = 1 := by rw [← h2, h]; rfl
  have hd1 : q.den = 1 := Nat.eq_one_of_mul_eq_one_left hd
  have e := num_den q
  rw [hd1] at e
  have : ((1 : Nat) : Int) = 1 := rfl
  rw [this] at e
  have o : ((1 : Int) : Rat) = 1 := rfl
  rw [o] at e
  grind
/-- how long the figures of a length and of a unit are -/
theorem len_int {v : Vc} (h : HasLen v) : ∃ (X Y Z : Int) (D : Nat), 0 < Z ∧ 0 < D ∧ v = ((X : Rat) / ((D : Int) : Rat), (Y : Rat) / ((D : Int) : Rat)) ∧ X * X + Y * Y = Z * Z ∧ len v = (Z : Rat) / ((D : Int) : Rat) ∧
    D = v.1.den * v.2.den ∧ X = v.1.num * v.2.den ∧ Y = v.2.num * v.1.den := by
  obtain ⟨h1, h2⟩ := len_spec h
  have d1 := den_ne v.1
  have d2 := den_ne v.2
  have n1 := num_eq' v.1
  have n2 := num_eq' v.2
  have hD : 0 < v.1.den * v.2.den := Nat.mul_pos (Nat.pos_of_ne_zero v.1.den_nz) (Nat.pos_of_ne_zero v.2.den_nz)
  have kD := ofInt_ne hD
  have pD := natRat_pos hD
  have hDD : (((v.1.den * v.2.den : Nat) : Int) : Rat) = ((v.1.den : Int) : Rat) * ((v.2.den : Int) : Rat) := by rw [Int.natCast_mul, Rat.intCast_mul]
  have hX : ((v.1.num * v.2.den : Int) : Rat) = v.1 * (((v.1.den * v.2.den : Nat) : Int) : Rat) := by rw [Rat.intCast_mul, hDD, n1]; grind
  have hY : ((v.2.num * v.1.den : Int) : Rat) = v.2 * (((v.1.den * v.2.den : Nat) : Int) : Rat) := by rw [Rat.intCast_mul, hDD, n2]; grind
  have hZ : (len v * (((v.1.den * v.2.den : Nat) : Int) : Rat)) * (len v * (((v.1.den * v.2.den : Nat) : Int) : Rat)) = (((v.1.num * v.2.den) * (v.1.num * v.2.den) + (v.2.num * v.1.den) * (v.2.num * v.1.den) : Int) : Rat) := by
    rw [Rat.intCast_add, Rat.intCast_mul (v.1.num * v.2.den), Rat.intCast_mul (v.2.num * v.1.den), hX, hY]
    generalize (((v.1.den * v.2.den : Nat) : Int) : Rat) = D at *
    have : len v * D * (len v * D) = (len v * len v) * (D * D) := by grind
    rw [this, h2]
    unfold vdot
    grind
  have e := int_of_sq hZ
  have zp : (0 : Rat) < ((len v * (((v.1.den * v.2.den : Nat) : Int) : Rat)).num : Rat) := by
    rw [← e]
    exact Rat.mul_pos h1 pD
  refine ⟨v.1.num * v.2.den, v.2.num * v.1.den, (len v * (((v.1.den * v.2.den : Nat) : Int) : Rat)).num, v.1.den * v.2.den, ?_, hD, ?_, ?_, ?_, rfl, rfl, rfl⟩
  · exact Rat.intCast_lt_intCast.mp zp
  · rw [hX, hY]
    generalize (((v.1.den * v.2.den : Nat) : Int) : Rat) = D at *
    exact Prod.ext (by show v.1 = v.1 * D / D; grind) (by show v.2 = v.2 * D / D; grind)
  · apply Rat.intCast_inj.mp
    rw [← hZ, Rat.intCast_mul, ← e]
  · rw [← e]
    generalize (((v.1.den * v.2.den : Nat) : Int) : Rat) = D at *
    grind
theorem sq_sum_le {X Y Z : Int} (h : X * X + Y * Y = Z * Z) : Z.natAbs ≤ X.natAbs + Y.natAbs := by
  have h1 : X * X = (X.natAbs * X.natAbs : Nat) := Int.natAbs_mul_self.symm
  have h2 : Y * Y = (Y.natAbs * Y.natAbs : Nat) := Int.natAbs_mul_self.symm
  have h3 : Z * Z = (Z.natAbs * Z.natAbs : Nat) := Int.natAbs_mul_self.symm
  rcases Nat.lt_or_ge (X.natAbs + Y.natAbs) Z.natAbs with q | q
  · exfalso
    have h4 := Nat.mul_lt_mul'' q q
    have h5 : (X.natAbs + Y.natAbs) * (X.natAbs + Y.natAbs) = X.natAbs * X.natAbs + Y.natAbs * Y.natAbs + 2 * (X.natAbs * Y.natAbs) := by grind
    omega
  · exact q
theorem len_sz {v : Vc} {b : Nat} (h : HasLen v) (s : SzV b v) : Sz (2 * b + 1) (len v) ∧ SzV (2 * b + 1) (uv v) := by
  obtain ⟨X, Y, Z, D, hZ, hD, ev, hs, hl, eD, eX, eY⟩ := len_int h
  have x1 : X.natAbs < 2 ^ (b + b) := by rw [eX]; exact abs_mul_lt s.1.1 (by rw [den_abs]; exact s.2.2)
  have y1 : Y.natAbs < 2 ^ (b + b) := by rw [eY]; exact abs_mul_lt s.2.1 (by rw [den_abs]; exact s.1.2)
  have d1 : D < 2 ^ (b + b) := by rw [eD, Nat.pow_add]; exact Nat.mul_lt_mul'' s.1.2 s.2.2
  have z1 := sq_sum_le hs
  have p2 : (2 : Nat) ^ (2 * b + 1) = 2 * 2 ^ (b + b) := by rw [Nat.pow_succ, Nat.two_mul]; omega
  have kD := ofInt_ne hD
  have kZ : (Z : Rat) ≠ 0 := fun z => by
    have : Z = 0 := Rat.intCast_inj.mp (show (Z : Rat) = ((0 : Int) : Rat) from z)
    omega
  refine ⟨by rw [hl]; exact Sz.of (by omega) (by omega) (by show D < _; omega), ?_⟩
  have e : uv v = ((X : Rat) / (Z : Rat), (Y : Rat) / (Z : Rat)) := by
    unfold uv
    rw [hl]
    have e1 : v.1 = (X : Rat) / ((D : Int) : Rat) := congrArg Prod.fst ev
    have e2 : v.2 = (Y : Rat) / ((D : Int) : Rat) := congrArg Prod.snd ev
    rw [e1, e2]
    generalize ((D : Int) : Rat) = D at *
    generalize (Z : Rat) = Z at *
    exact Prod.ext (by show (X : Rat) / D / (Z / D) = (X : Rat) / Z; grind) (by show (Y : Rat) / D / (Z / D) = (Y : Rat) / Z; grind)
  rw [e]
  exact un_of (by omega) hs (by omega)
def s_length_of : Spec := fun args L R => ∃ v, args = [vc v] ∧ SzV 900 v ∧ ∀ x, RootIs (vdot v v) x → R x L
def s_unit_of : Spec := fun args L R => ∃ v, args = [vc v] ∧ SzV 900 v ∧ (HasLen v → R (vc (uv v)) L) ∧ (¬ HasLen v → R .non L)
/-! length_of(vector): 0 vector -/
def d_length_of_0 : WS := sRet (wCall s_root_of [wCall s_dot [wVar 0, wVar 0]])
/-! unit_of(vector): 0 vector, 1 length -/
def d_unit_of_2 : WS := sRet (wTup [wCall s_over [wBin oIx (wVar 0) (wC (.int 0)), wVar 1], wCall s_over [wBin oIx (wVar 0) (wC (.int 1)), wVar 1]])
def d_unit_of_1a_0 : WS := sRet (wC .non)
def d_unit_of_1 : WS := sSeq (sIf (wOr (wBin oIs (wVar 1) (wC .non)) (wBin oEq (wVar 1) (wC (.tup [.int 0, .int 1])))) d_unit_of_1a_0 sNil) d_unit_of_2
def d_unit_of_0 : WS := sSeq (sAsg (gN 1) (wCall s_length_of [wVar 0])) d_unit_of_1
theorem ok_length_of : ∀ args L R, args.length = 1 → s_length_of args L R → d_length_of_0 (initE 1 args) L { nx := fun _ L' => R .non L', rt := R } := by
  rintro _ L R _ ⟨v, rfl, hv, h⟩
  unfold d_length_of_0
  show sRet _ [some (vc v)] L _
  walk_at "ev"
  exact ⟨_, _, rfl, hv.mono (by decide), hv.mono (by decide), _, rfl, (hv.dot hv).B (by decide), fun x hx => h x hx⟩
theorem root_cases {v : Vc} {x : PV} (h : RootIs (vdot v v) x) : (x = .non ∧ ¬ HasLen v) ∨ (x = fr 0 ∧ ¬ HasLen v) ∨ (x = fr (len v) ∧ HasLen v) := by
  rcases h with ⟨rfl, h⟩ | ⟨r, rfl, h1, h2⟩
  · exact .inl ⟨rfl, fun ⟨r, _, e⟩ => h r e⟩
  · by_cases hr : r = 0
    · subst hr
      refine .inr (.inl ⟨rfl, fun ⟨s, hs, e⟩ => ?_⟩)
      rw [← e] at h2
      have := Rat.mul_pos hs hs
      grind
    · obtain ⟨hl, e⟩ := len_of (v := v) (r := r) (by grind) h2
      exact .inr (.inr ⟨by rw [e], hl⟩)
theorem ok_unit_of : ∀ args L R, args.length = 1 → s_unit_of args L R → d_unit_of_0 (initE 2 args) L { nx := fun _ L' => R .non L', rt := R } := by
  rintro _ L R _ ⟨v, rfl, hv, h1, h2⟩
  unfold d_unit_of_0
  show sSeq _ _ [some (vc v), none] L _
  walk_at "ev"
  refine ⟨_, rfl, hv, fun x hx => ?_⟩
  unfold d_unit_of_1 d_unit_of_1a_0
  walk_at "ev"
  rcases root_cases hx with ⟨rfl, hn⟩ | ⟨rfl, hn⟩ | ⟨rfl, hl⟩
  · walk_at "ev"
    exact h2 hn
  · rw [fr_zero]
    walk_at "ev"
    exact h2 hn
  · obtain ⟨l1, l2⟩ := len_spec hl
    have sl := (len_sz hl hv).1
    rw [fr_zero]
    walk_at "ev"
    rw [if_neg (by grind)]
    unfold d_unit_of_2
    walk_at "ev"
    refine ⟨_, _, rfl, by grind, hv.1.mono (by decide), sl.mono (by decide), ?_⟩
    walk_at "ev"
    refine ⟨_, _, rfl, by grind, hv.2.mono (by decide), sl.mono (by decide), ?_⟩
    walk_at "ev"
    exact h1 hl
end Mp
namespace Mp
open PySem PySem.Spec PyProof.Rows L2

/-! ### defs that may let out an exception: kinds by number, cl tells the class of each -/
abbrev SpecX := List PV → Sto → PK → (Nat → Sto → Prop) → Prop
def liftSpX (K : PySem.W.Frag) (cl : Nat → Value) (n : Nat) (S : SpecX) : Sp := fun vs H Q E => vs.length = n ∧ ∃ args L R EX, RepVs K H args vs ∧ RepH K H L ∧ S args L R EX ∧ Kt K H L R Q ∧
  ∀ kd L' H', EX kd L' → Fm H L H' L' → RepH K H' L' → E (cl kd) none H'
structure FnX (P : Program) (w : World) (K : PySem.W.Frag) (mg : Str → Option Value) (base : Heap) (k : Nat) (f : Addr) (fd : FuncData) (ps : List Str) (sp : Sp) : Prop where
  ln : ∀ vs H Q E, sp vs H Q E → vs.length = ps.length
  go : ∀ (A : Around) (fr : List PySem.Env) (s : Shared) (H : Hp) (as : Args) (us : List Value) (vs : List V) (Q : VK) (E : XK), A.guards = some [] → Room k A → Env0 P w K mg base A fr s H →
    BindsTo s fd as (ps.zip us) → Vals vs us → sp vs H Q E → codeAny (model P w) A (.call (.ref f) as) (CR (L2.CX P w) fr P w H s Q E) s
structure FnIsX (P : Program) (w : World) (K : PySem.W.Frag) (mg : Str → Option Value) (base : Heap) (cl : Nat → Value) (k : Nat) (x : Str) (n : Nat) (S : SpecX) : Prop where
  ex : ∃ (f : Addr) (fd : FuncData) (ps : List Str), mg x = some (.ref f) ∧ PySem.W.keepIn K (.ref f) = true ∧ Binds K fd ps [] ∧ FnX P w K mg base k f fd ps (liftSpX K cl n S)
section
variable {P : Program} {w : World} {K : PySem.W.Frag} {mg : Str → Option Value} {base : Heap} {k : Nat} {f : Addr} {fd : FuncData} {ps : List Str} {sp : Sp}
theorem FnX.up {j : Nat} (g : FnX P w K mg base j f fd ps sp) (h : j ≤ k) : FnX P w K mg base k f fd ps sp :=
  ⟨g.ln, fun A fr s H as us vs Q E gd room => g.go A fr s H as us vs Q E gd (room.mono h)⟩
theorem FnIsX.mono {cl : Nat → Value} {k k' : Nat} {x : Str} {n : Nat} {S : SpecX} (h : FnIsX P w K mg base cl k x n S) (hk : k ≤ k') : FnIsX P w K mg base cl k' x n S := by
  obtain ⟨f, fd, ps, h1, h2, h3, h4⟩ := h.ex
  exact ⟨f, fd, ps, h1, h2, h3, h4.up hk⟩
end
section
variable {X : Cx} {k : Nat} {f : Addr} {fd : FuncData} {ps : List Str} {sp : Sp} {x : Str} {p pos : Pos} {e : Expr} {es : List Expr} {t : TA} {W : WX}
theorem x_runs {pins : List (Addr × Obj)} {σ : L2.St} {H : Hp} {s : Shared} {Q : VK} {us : List Value} {vs : List V} (g : FnX X.prog X.w X.K X.mg X.base k f fd ps sp) (gd : X.A.guards = some []) (room : Room k X.A) (bi : Binds X.K fd ps [])
    (tk : Takes X W) (I : Inv X pins σ H s) (rv : Vals vs us) (hs : sp vs H Q (L2.WE W σ)) : wpAny (model X.prog X.w) X.A (call (.ref f) us) (EP X pins σ Q) X.xe s := by
  have n1 : us.length = ps.length := by
    have := g.ln _ _ _ _ hs
    rw [rv.length] at this
    exact this
  have b1 := bi s us I.kIn (by rw [List.append_nil]; exact n1)
  rw [List.append_nil] at b1
  have c1 := g.go X.A X.stack s H ⟨us, []⟩ us vs Q _ gd room I.env0 b1 rv hs
  refine wpAny_call (codeAny_mono c1 ?_)
  intro res s2 hres
  match res, hres with
  | .ok (.ret u), hres => exact I.after hres
  | .ok .next, hres => exact hres.elim
  | .ok .brk, hres => exact hres.elim
  | .ok .cont, hres => exact hres.elim
  | .error ee, hres => exact passAt tk σ pins H s ee s2 I hres
def tCallX (sp : Sp) (W : WX) (t : TA) : TE := fun σ H Q => t σ H fun vs H1 => sp vs H1 Q (L2.WE W σ)
theorem x_call (g : FnX X.prog X.w X.K X.mg X.base k f fd ps sp) (gd : X.A.guards = some []) (room : Room k X.A) (gl : Gl X x) (hm : X.mg x = some (.ref f)) (hk : PySem.W.keepIn X.K (.ref f) = true) (bi : Binds X.K fd ps [])
    (tk : Takes X W) (ha : PA X (e :: es) t) (hdb : (x == ("__debug__" : Str)) = false) (he : starEach (e :: es) X.env = (false, eval e X.env) :: starEach es X.env) (hpl : (backTo pos (starEach es X.env)).any (·.1) = false) :
    PE X (.Call (.Name x p) (e :: es) [] pos) (tCallX sp W t) := by
  constructor
  intro pins s σ H Q I ht
  apply wpAny_Call_Name_kw
  apply ld_glob I gl hm _ hdb
  have a1 := ha.run pos pins s σ H _ I ht
  refine PySem.W.callWith_K (h₀ := X.base) I.ok.mod.kin hk (thn a1 ?_) he hpl
  rintro us s1 ⟨vs, H1, J, rv, q⟩
  exact ⟨J.kIn, x_runs g gd room bi tk J rv q⟩
end
/-- a def by its body -/
theorem x_def {P : Program} {w : World} {K : PySem.W.Frag} {mg : Str → Option Value} {base : Heap} {k : Nat} {f : Addr} {nm ql : Str} {pr : Arguments} {bd : List Stmt} {sc : Scope} {dV kV doc pm cdv ct oc : Value} {an od : Option Addr}
    {osl : Array (Option Value)} {N ps : List Str} {sp : Sp} (lk : K.lookup f = some ⟨oc, od, .func (PySem.W.fnOf nm ql pr bd sc dV kV doc pm an cdv ct), osl⟩) (cd : PySem.W.codeIn K cdv ql = true) (S : FnScope N ps sc)
    (ln : ∀ vs H Q E, sp vs H Q E → vs.length = ps.length)
    (hb : ∀ (A : Around) (fr : List PySem.Env) (s : Shared) (H : Hp) (vs : List V) (Q : VK) (E : XK), A.guards = some [] → Room k (A.deeper (envOfC ql sc s.heap.objs.size f cdv)) → sp vs H Q E →
      ∃ t, PSs (cxOf (L2.CX P w) P w K mg base N ql sc f cdv A fr s H E) bd t ∧ t { nx := fun _ H' => Q .non H', rt := Q } (L2.start N vs) H) :
    FnX P w K mg base (k + 1) f (PySem.W.fnOf nm ql pr bd sc dV kV doc pm an cdv ct) ps sp := by
  constructor
  · exact ln
  intro A fr s H as us vs Q E gd room e0 bt rv hs
  have n1 := ln _ _ _ _ hs
  have keep : ∀ b o, base.get? b = some o → s.heap.get? b = some o := fun b o z => (e0.bs b o z).1
  have kin : K.In s.heap := e0.mod.kin.keeps keep
  have nol : s.heap.NoLimit := e0.mod.nolimit.keeps keep
  have kinds : ∀ y ∈ ps.zip us, sc.names.lookup y.1 = some .local ∨ (sc.names.lookup y.1 = some .cell ∧ ((cellsFrom (s.heap.objs.size + 1) sc.names []).lookup y.1).isSome = true) := by
    rintro ⟨y, v⟩ hy
    have hm := (List.of_mem_zip hy).1
    cases S.par y hm with
    | inl z => exact .inl z
    | inr z => exact .inr ⟨z, PySem.W.cellsFrom_some _ _ _ (.inl z)⟩
  apply codeAny_call_function room.depth (kin _ _ lk) rfl S.co S.gen rfl (PySem.W.codeRec_of kin cd)
  apply bt
  apply wpAny_newFunctionEnv_cells S.kind kinds
  rintro en rfl s1 ic
  refine ⟨nol.keeps ic.toInCall.keep, codeAny_func ?_⟩
  obtain ⟨t, pt, q⟩ := hb A fr s H vs Q E gd (room.deeper _) hs
  have J : Inv (cxOf (L2.CX P w) P w K mg base N ql sc f cdv A fr s H E) [] (L2.start N vs) H s1 := inv_start S room.hd e0 n1 rv ic
  refine wpAny_mono (pt.run [] s1 _ H _ J q) ?_ (fun _ _ z => z)
  intro fl s2 z
  match fl, z with
  | .ret u, ⟨v, σ2, H2, J2, r2, q2⟩ => exact ⟨v, H2, J2.os, J2.bare, J2.base, J2.hok, r2, q2⟩
  | .next, ⟨σ2, H2, J2, q2⟩ => exact ⟨V.non, H2, J2.os, J2.bare, J2.base, J2.hok, rfl, q2⟩
  | .brk, ⟨_, _, _, q2⟩ => exact q2.elim
  | .cont, ⟨_, _, _, q2⟩ => exact q2.elim

/-! ### readings -/
abbrev WEX := Env → Sto → PK → (Nat → Sto → Prop) → Prop
abbrev WSX := Env → Sto → Nd → (Nat → Sto → Prop) → Prop
def xCall (S : SpecX) (ws : List WE) : WEX := fun env L R E => wAr ws env L fun xs La => S xs La R E
def xIfE (t : WE) (a b : WEX) : WEX := fun env L R E => t env L fun x La => bIf x (a env La R E) (b env La R E)
def liftX (K : PySem.W.Frag) (cl : Nat → Value) (W : WX) (w : WEX) : TE := fun σ H Q => ∃ env L R E, RepS K H σ env ∧ RepH K H L ∧ w env L R E ∧ Kt K H L R Q ∧
  ∀ kd L' H', E kd L' → Fm H L H' L' → RepH K H' L' → W (cl kd) none σ H'
def zOf (w : WS) : WSX := fun env L N _ => w env L N
def zRaise (kd : Nat) : WSX := fun _ L _ E => E kd L
def zIf (t : WE) (a b : WSX) : WSX := fun env L N E => t env L fun x La => bIf x (a env La N E) (b env La N E)
def zSeq (a b : WSX) : WSX := fun env L N E => a env L { N with nx := fun e l => b e l N E } E
abbrev Su := Nat → Option (List (Nat × Option PV))
def suE (l : List (Nat × Option PV)) (j : Nat) (env : Env) : Env := (l.foldl (fun e p => e.set p.1 p.2) (env.set j none)).set j none
def zTry (e : WEX) (i j : Nat) (su : Su) : WSX := fun env L N _ => e env L (fun y Lb => N.nx (env.set i (some y)) Lb) fun kd Lb => ∃ l, su kd = some l ∧ N.nx (suE l j env) Lb
def liftZ (K : PySem.W.Frag) (cl : Nat → Value) (W : WX) (w : WSX) : TS := fun D σ H => ∃ env L N E, RepS K H σ env ∧ RepH K H L ∧ w env L N E ∧ NdK K H L N D ∧
  ∀ kd L' σ' H', E kd L' → Fm H L H' L' → RepH K H' L' → W (cl kd) none σ' H'
/-- what stands for exceptions: defs that let them out, classes that are raised, what isinstance tells, the class that except names -/
structure XTab where
  fns : List (Str × Nat × SpecX)
  cls : List (Str × Nat)
  isi : Nat → Str → Option Bool
  sup : Str
structure XtOk (P : Program) (w : World) (K : PySem.W.Frag) (mg : Str → Option Value) (base : Heap) (k : Nat) (cl : Nat → Value) (t : XTab) : Prop where
  fns : ∀ x n S, t.fns.lookup x = some (n, S) → FnIsX P w K mg base cl k x n S
  cls : ∀ x kd, t.cls.lookup x = some kd → ∃ C B newId initId bmB, cl kd = .ref C ∧ ExcBaseFacts B newId initId bmB ∧ PySem.W.excIn K C bmB newId = true ∧ mg x = some (.ref C) ∧ PySem.W.keepIn K (.ref C) = true ∧
    PySem.W.subIn K (.ref C) (.type "BaseException") = some true ∧ PySem.W.typeIn K (.ref C) = some (.type "type")
  isi : ∀ kd x b, t.isi kd x = some b → ∃ D c cv, cl kd = .ref D ∧ ExcC K D ∧ ClsV c cv ∧ (mg x = some cv ∨ (mg x = none ∧ bootBuiltins x = some cv)) ∧ PySem.W.kitOne K (.ref D) cv = some b
  sup : ∃ c, mg t.sup = some c ∧ ∀ kd x b, t.isi kd x = some b → PySem.W.exmOne K (cl kd) c = some true
end Mp
namespace Mp
open PySem PySem.Spec PyProof.Rows L2

/-- what is there stays -/
def Hs (H H' : Hp) : Prop := ∀ b o, H b = some o → H' b = some o
theorem Hs.refl {H : Hp} : Hs H H := fun _ _ h => h
theorem Hs.trans {H H1 H2 : Hp} (a : Hs H H1) (b : Hs H1 H2) : Hs H H2 := fun c o h => b c o (a c o h)
theorem Hs.new {H : Hp} {p : Addr} {o : HO} (n : H p = none) : Hs H (upd H p o) := fun b u e => by rw [upd_ne (ne_of_none e n)]; exact e
theorem Hs.ex {H H' : Hp} (h : Hs H H') : Ex H H' := ⟨fun a xs e => h a _ e, fun a o xs e => h a _ e⟩
theorem Hs.fm {H H' : Hp} {L : Sto} (h : Hs H H') : Fm H L H' L := fun a o e n => ⟨h a o e, n⟩
theorem Hs.rep {K : PySem.W.Frag} {H H' : Hp} {L : Sto} (h : Hs H H') (r : RepH K H L) : RepH K H' L := fun a o e => (r a o e).ex h.ex fun u q => h a u q
theorem RepS.unset {K : PySem.W.Frag} {H : Hp} {σ : L2.St} {env : Env} (h : RepS K H σ env) (i : Nat) (v : Option V) : RepS K H (σ.set i v) (env.set i none) := by
  refine ⟨by rw [List.length_set, List.length_set]; exact h.1, fun k x e => ?_⟩
  by_cases hk : i = k
  · subst hk
    by_cases hl : i < env.length
    · rw [List.getElem?_set_self hl] at e; cases e
    · rw [List.getElem?_eq_none (by rw [List.length_set]; omega)] at e; cases e
  · rw [List.getElem?_set_ne hk] at e
    obtain ⟨w, h1, h2⟩ := h.2 k x e
    exact ⟨w, by rw [List.getElem?_set_ne hk]; exact h1, h2⟩
/-- what a suite is read as, the exception at a in slot j -/
def tSu (K : PySem.W.Frag) (su : Su) (j : Nat) (cl : Nat → Value) (a : Addr) (cls : Value) (d : Option Addr) : TS := fun D σ H => ∃ kd l env, cls = cl kd ∧ d = none ∧ su kd = some l ∧ σ[j]? = some (some (.ref a)) ∧ RepS K H σ env ∧
  ∀ H' τ, Hs H H' → RepS K H' τ (l.foldl (fun e p => e.set p.1 p.2) env) → D.nx τ H'
def SuOk (X : Cx) (cl : Nat → Value) (suite : List Stmt) (su : Su) (j : Nat) : Prop :=
  ∀ (a : Addr) (oe : Obj) (cls : Value) (d : Option Addr) (pn : List (Addr × Obj)), Zc cls d oe → (∃ vs, oe.data = .fields vs) → PSs (X.suite a ((a, oe) :: pn)) suite (tSu X.K su j cl a cls d)

/-! ### isinstance of the exception -/
section
variable {X : Cx} {a D : Addr} {oe : Obj} {pn : List (Addr × Obj)}
theorem call_isE2 (C : ExcC X.K D) (hz : Zc (.ref D) none oe) (hf : ∃ vs, oe.data = .fields vs) :
    CallR (X.suite a ((a, oe) :: pn)) (.builtin "isinstance") (fun xs H Q => ∃ (tp : Addr) (cs : List V) (us : List Value) (b : Bool), xs = [.ref a, .ref tp] ∧ H tp = some (.tup cs) ∧ Paired ClsV cs us ∧ PySem.W.kitAny X.K (.ref D) us = some b ∧ Q (.bl b) H) := by
  intro pins s σ H xs us Q I r h
  obtain ⟨tp, cs, ws, b, rfl, hT, k, e, q⟩ := h
  obtain ⟨u1, u2, rfl, r1, r2⟩ := vals2 r
  cases (show u2 = Value.ref tp from r2)
  cases (show u1 = Value.ref a from r1)
  obtain ⟨hget, _⟩ := I.pin (a, oe) (List.mem_append.mpr (.inl List.mem_cons_self))
  obtain ⟨vs, hv⟩ := hf
  have J : PySem.W.InstAt s.heap a oe D none := by
    obtain ⟨oc, od, oda, osl⟩ := oe
    obtain ⟨h1, h2⟩ := hz
    dsimp only at h1 h2 hv
    subst h1 h2 hv
    exact ⟨hget, rfl, rfl, trivial⟩
  obtain ⟨_, its, rv, o, h1, h2, n, h3⟩ := (show ObjOk X.prog X.w H s.heap tp (.tup cs) from I.hok tp _ hT)
  have e3 := ClsV.all k rv
  subst e3
  obtain ⟨oc, od, dt, sl⟩ := o
  simp only at h2 h3
  subst h2 h3
  exact PySem.W.kia_tup (PySem.W.handS_kitx_exc C.hg C.hk C.hs C.hd C.ha C.hn C.ht C.hm) I.kIn J h1 e (fun z => nomatch z) fun tk => ⟨.bl b, H, I.tok tk, rfl, q⟩
/-- a class that stands in the text, or a built-in one -/
structure Cn (X : Cx) (D : Addr) (x : Str) (b : Bool) : Prop where
  gl : Gl X x
  nd : (x == ("__debug__" : Str)) = false
  nn : x ≠ "__name__"
  ex : ∃ c cv, ClsV c cv ∧ (X.mg x = some cv ∨ (X.mg x = none ∧ bootBuiltins x = some cv)) ∧ PySem.W.kitOne X.K (.ref D) cv = some b
/-- the names that a suite asks with -/
structure SuN (X : Cx) (j : Nat) (xe : Str) : Prop where
  nd : X.N.Nodup
  ix : X.N[j]? = some xe
  vis : Vis X.env.scope xe
  d1 : (xe == ("__debug__" : Str)) = false
  d2 : (xe == ("__classdict__" : Str)) = false
  gi : Gl X "isinstance"
  mi : X.mg "isinstance" = none
def clsE (X : Cx) (e : Expr) (c : V) : Prop := ∀ {X' : Cx}, X'.env = X.env → X'.mg = X.mg → PE X' e (tC c)
theorem pe_cls {x : Str} {b : Bool} {p : Pos} (h : Cn X D x b) : ∃ c cv, ClsV c cv ∧ PySem.W.kitOne X.K (.ref D) cv = some b ∧ PE (X.suite a pn) (.Name x p) (tC c) := by
  obtain ⟨c, cv, h1, h2, h3⟩ := h.ex
  refine ⟨c, cv, h1, h3, ?_⟩
  have r : RelV c cv := by cases h1 <;> rfl
  rcases h2 with h2 | ⟨h2, h4⟩
  · exact pe_glob (X := X.suite a pn) h.gl h2 r h.nd
  · exact pe_bltn (X := X.suite a pn) h.gl h2 h4 r h.nn h.nd
variable {j : Nat} {xe : Str} {a1 a2 a3 a4 a5 a6 : Pos}
theorem pe_isi1 (C : ExcC X.K D) (hz : Zc (.ref D) none oe) (hf : ∃ vs, oe.data = .fields vs) (hn : SuN X j xe) {x : Str} {b : Bool} (h : Cn X D x b) :
    PE (X.suite a ((a, oe) :: pn)) (.Call (.Name "isinstance" a1) [.Name xe a2, .Name x a3] [] a4) (fun σ H Q => σ[j]? = some (some (.ref a)) ∧ Q (.bl b) H) := by
  obtain ⟨c, cv, h1, h2, h3⟩ := pe_cls (a := a) (pn := (a, oe) :: pn) (p := a3) h
  refine (pe_callB (X := X.suite a ((a, oe) :: pn)) (call_isE C hz hf) hn.gi hn.mi (by first | rfl | decide +kernel) (pa_cons (pe_var (X := X.suite a ((a, oe) :: pn)) hn.ix hn.vis hn.d1 hn.d2) (pa_cons h3 pa_nil))).weak fun σ H Q q => ?_
  exact ⟨_, q.1, c, cv, b, rfl, fun u r => h1.eq r, h2, q.2⟩
theorem pe_isi2 (C : ExcC X.K D) (hz : Zc (.ref D) none oe) (hf : ∃ vs, oe.data = .fields vs) (hn : SuN X j xe) {x y : Str} {b1 b2 : Bool} {k : Nat} (h : Cn X D x b1) (h' : Cn X D y b2) :
    PE (X.suite a ((a, oe) :: pn)) (.Call (.Name "isinstance" a1) [.Name xe a2, .Tuple [.Name x a3, .Name y a4] k a5] [] a6) (fun σ H Q => σ[j]? = some (some (.ref a)) ∧ ∀ H', Hs H H' → Q (.bl (b1 || b2)) H') := by
  obtain ⟨c, cv, h1, h2, h3⟩ := pe_cls (a := a) (pn := (a, oe) :: pn) (p := a3) h
  obtain ⟨c', cv', h1', h2', h3'⟩ := pe_cls (a := a) (pn := (a, oe) :: pn) (p := a4) h'
  refine (pe_callB (X := X.suite a ((a, oe) :: pn)) (call_isE2 C hz hf) hn.gi hn.mi (by first | rfl | decide +kernel) (pa_cons (pe_var (X := X.suite a ((a, oe) :: pn)) hn.ix hn.vis hn.d1 hn.d2) (pa_cons (pe_tup (pa_cons h3 (pa_cons h3' pa_nil))) pa_nil))).weak fun σ H Q q => ?_
  refine ⟨_, q.1, by show 2 ≤ sizeLine; decide, fun p hp => ⟨p, [c, c'], [cv, cv'], _, rfl, upd_same, .cons h1 (.cons h1' .nil), ?_, q.2 _ (Hs.new hp)⟩⟩
  refine kitAny_cons h2 (fun e => ?_) (fun e => by rw [e]; rfl)
  rw [e, Bool.false_or]
  refine kitAny_cons h2' (fun e => ?_) (fun e => e)
  rw [e]
  exact kitAny_nil
/-- the suite: xo = isinstance(e, (A, B)) or not isinstance(e, V); xf = None if isinstance(e, D) and not xo else False -/
theorem suite1 {xo xf A B Vn Dn : Str} {o f k k1 k2 : Nat} {q1 q2 q3 q4 q5 q6 q7 q8 q9 q10 p1 p2 p3 p4 p5 p6 p7 p8 p9 p10 : Pos} {bA bB bV bD : Bool} (C : ExcC X.K D) (hz : Zc (.ref D) none oe) (hf : ∃ vs, oe.data = .fields vs) (hn : SuN X j xe)
    (hA : Cn X D A bA) (hB : Cn X D B bB) (hV : Cn X D Vn bV) (hD : Cn X D Dn bD) (ho : X.N[o]? = some xo) (hf' : X.N[f]? = some xf) (lo : Loc X.env.scope xo) (lf : Loc X.env.scope xf) (vo : Vis X.env.scope xo)
    (d1 : (xo == ("__debug__" : Str)) = false) (d2 : (xo == ("__classdict__" : Str)) = false) (fo : X.fn xo = true ∨ X.env.scope.names.lookup xo = some .local) (ff : X.fn xf = true ∨ X.env.scope.names.lookup xf = some .local) (hjo : j ≠ o) :
    PSs (X.suite a ((a, oe) :: pn)) [.Assign [.Name xo q1] (.BoolOp .Or [.Call (.Name "isinstance" a1) [.Name xe a2, .Tuple [.Name A a3, .Name B a4] k a5] [] a6, .UnaryOp .Not (.Call (.Name "isinstance" p1) [.Name xe p2, .Name Vn p3] [] p4) q2] q3) q4,
      .Assign [.Name xf q5] (.IfExp (.BoolOp .And [.Call (.Name "isinstance" p5) [.Name xe p6, .Name Dn p7] [] p8, .UnaryOp .Not (.Name xo p9) q6] q7) (.Constant .none k1 q8) (.Constant (.bool false) k2 p10) q9) q10]
      (fun D' σ H => σ[j]? = some (some (.ref a)) ∧ o < σ.length ∧ ∀ H', Hs H H' → D'.nx ((σ.set o (some (.bl (bA || bB || !bV)))).set f (some (if bD && !(bA || bB || !bV) then .non else .bl false))) H') := by
  have e1 := pe_or (pos := q3) (pe_isi2 (a := a) (pn := pn) (a1 := a1) (a2 := a2) (a3 := a3) (a4 := a4) (a5 := a5) (a6 := a6) (k := k) C hz hf hn hA hB) (pe_one (pe_not (pos := q2) (pe_isi1 (a := a) (pn := pn) (a1 := p1) (a2 := p2) (a3 := p3) (a4 := p4) C hz hf hn hV)))
  have s1 := ps_set (X := X.suite a ((a, oe) :: pn)) (pos := q4) (pos' := q1) hn.nd ho lo e1 rfl fo
  have t1 := pt_val (pe_isi1 (a := a) (pn := pn) (a1 := p5) (a2 := p6) (a3 := p7) (a4 := p8) C hz hf hn hD)
  have t2 := pt_not (pos := q6) (pt_val (pe_var (X := X.suite a ((a, oe) :: pn)) (pos := p9) ho vo d1 d2))
  have e2 := pe_ifExp (pos := q9) (pw_and (pos := q7) t1 (pw_and1 t2)).pt (pe_non (X := X.suite a ((a, oe) :: pn)) (j := k1) (pos := q8)) (pe_bl (X := X.suite a ((a, oe) :: pn)) (b := false) (j := k2) (pos := p10))
  have s2 := ps_set (X := X.suite a ((a, oe) :: pn)) (pos := q10) (pos' := q5) hn.nd hf' lf e2 rfl ff
  refine (pss_cons s1 (pss_one s2)).weak fun D' σ H q => ?_
  obtain ⟨hj, hl, q⟩ := q
  have fin : ∀ H', Hs H H' → tAsg (tIf (tAnd (tB fun σ H Q => σ[j]? = some (some (.ref a)) ∧ Q (.bl bD) H) (tNot (tB (tVar o)))) (tC .non) (tC (.bl false))) (gName f) D' (σ.set o (some (.bl (bA || bB || !bV)))) H' := by
    intro H' hs
    refine ⟨by rw [List.getElem?_set_ne (Ne.symm hjo)]; exact hj, bD, rfl, ?_⟩
    cases bD with
    | false => exact q H' hs
    | true =>
      refine ⟨_, List.getElem?_set_self hl, _, rfl, ?_⟩
      have := q H' hs
      revert this
      cases (bA || bB || !bV) <;> exact fun z => z
  refine ⟨hj, fun H1 h1 => ⟨_, rfl, ?_⟩⟩
  split
  · rename_i e
    have := fin H1 h1
    rw [e] at this
    exact this
  · rename_i e
    have e : (bA || bB) = false := by simpa using e
    refine ⟨hj, bV, rfl, ?_⟩
    have := fin H1 h1
    rw [e] at this
    exact this
end
end Mp
namespace Mp
open PySem PySem.Spec PyProof.Rows L2

theorem PS_nox {X : Cx} {st : Stmt} {t : TS} (h : L2.PS X.nox st t) : L2.PS X st t := ⟨fun pins s σ H D I hw =>
  wpAny_mono (h.run pins s σ H D (I.wish _) hw) (fun _ _ q => q.unwish) fun _ _ z => False.elim z⟩
theorem takesF {X : Cx} : Takes X (fun _ _ _ _ => False) := fun _ _ x => by
  obtain ⟨_, _, _, _, _, _, _, _, _, _, _, _, _, _, _, _, h⟩ := x
  exact h.elim
/-- a class that is raised: kind kd -/
structure RaC (K : PySem.W.Frag) (mg : Str → Option Value) (cl : Nat → Value) (x : Str) (kd : Nat) : Prop where
  ex : ∃ C B newId initId bmB, cl kd = .ref C ∧ ExcBaseFacts B newId initId bmB ∧ PySem.W.excIn K C bmB newId = true ∧ mg x = some (.ref C) ∧ PySem.W.keepIn K (.ref C) = true ∧
    PySem.W.subIn K (.ref C) (.type "BaseException") = some true ∧ PySem.W.typeIn K (.ref C) = some (.type "type")
/-- first a statement, then: if test: raise C(text), then: return e -/
def zRai (w1 : WS) (wt we : WE) (kd : Nat) (n : Nat) : SpecX := fun args L R EX => w1 (initE n args) L { nx := fun e' l => wt e' l fun x La => bIf x (EX kd La) (we e' La R), rt := R }
section
variable {P : Program} {w : World} {K : PySem.W.Frag} {mg : Str → Option Value} {base : Heap} {k : Nat} {T : Tab} {cl : Nat → Value}
theorem raise_fn (hT : TabOk P w K mg base k T) {x qual : Str} {st : Stmt} {f : Addr} {fd : FuncData} {N ps : List Str} {n kd : Nat} {S : SpecX} {s1 : Stmt} {t e : Expr} {cn m : Str} {j : Nat} {p1 p2 p3 p4 p5 p6 : Pos} {w1 : WS} {wt we : WE}
    (F : Fun K x qual st f fd) (sc : FnScope N ps (defScope st))
    (hb : defBody st = [s1, .If t [.Raise (some (.Call (.Name cn p1) [.Constant (.str m) j p2] [] p3)) none p4] [] p5, .Return (some e) p6])
    (h1 : cS T n ⟨N, defScope st, fun _ => true⟩ s1 = some w1) (h2 : cT T n ⟨N, defScope st, fun _ => true⟩ t = some wt) (h3 : cE T n ⟨N, defScope st, fun _ => true⟩ e = some we)
    (hg : (defScope st).names.lookup cn = some .globalImplicit) (hd : (cn == ("__debug__" : Str)) = false) (hcl : RaC K mg cl cn kd)
    (hS : ∀ args L R EX, args.length = ps.length → S args L R EX → zRai w1 wt we kd N.length args L R EX) : FnX P w K mg base (k + 1) f fd ps (liftSpX K cl ps.length S) := by
  obtain ⟨oc, od, kV, doc, pm, an, cdv, ct, osl, rfl, lk, hcd⟩ := F.ex
  obtain ⟨C, B, newId, initId, bmB, ec, eF, eq, em, ek, eb, et⟩ := hcl.ex
  rw [hb] at lk ⊢
  refine x_def lk hcd sc (fun vs H Q E h => h.1) fun A outer s H vs Q E gd hr h => ?_
  obtain ⟨hl, args, L, R, EX, ra, rh, hs, kt, ke⟩ := h
  have hx : XOk (cxOf (L2.CX P w) P w K mg base N qual (defScope st) f cdv A outer s H E).nox T ⟨N, defScope st, fun _ => true⟩ :=
    ⟨rfl, sc.nd, rfl, sc.kind, fun _ _ => rfl, rfl, gd, ⟨k, hr, hT.fns⟩, hT.non, hT.con⟩
  have g1 := PS_nox ((cS_ok hx PassesOwn.never n).1 h1)
  have g2 := ((sn_all n).t hx h2).nox
  have g3 := ((sn_all n).e hx h3).nox
  have tk : Takes (cxOf (L2.CX P w) P w K mg base N qual (defScope st) f cdv A outer s H E) (fun cls d _ H => E cls d H) := takes_of rfl rfl rfl rfl
  have r1 := ps_raise (pos := p4) rfl tk (pmk_own (X := cxOf (L2.CX P w) P w K mg base N qual (defScope st) f cdv A outer s H E) (x := cn) (m := m) (j := j) (p := p1) (p2 := p2) (pos := p3) eF eq em ek (raises_own eb et) hg hd)
  refine ⟨_, pss_cons g1 (pss_cons (ps_if (pos := p5) g2 (pss_one r1) pss_nil) (pss_one (ps_ret (pos := p6) g3))), ?_⟩
  have hs := hS args L R EX (by rw [ra.length, hl]) hs
  refine ⟨initE N.length args, L, _, start_rep ra, rh, hs, ?_⟩
  refine ⟨fun env' L' σ' H' h f r' rh' => ?_, kt, fun _ _ _ _ h => h.elim, fun _ _ _ _ h => h.elim⟩
  refine ⟨env', L', _, r', rh', h, fun x La H1 hq f1 r1 => ?_⟩
  obtain ⟨b, rfl, hc⟩ := bIf_bl hq
  refine ⟨b, rfl, ?_⟩
  cases b with
  | true =>
    rw [if_pos rfl] at hc ⊢
    show E (.ref C) none H1
    rw [← ec]
    exact ke kd La H1 hc (f.trans f1) r1
  | false =>
    rw [if_neg Bool.false_ne_true] at hc ⊢
    exact ⟨env', La, R, r'.ex (f1.ex rh'), r1, hc, kt.fm (f.trans f1)⟩

/-! ### a def that asks for a refusal: found = None; try: found = f(text); except S as error: others = ..; found = None if .. else False; return found -/
structure ErC (K : PySem.W.Frag) (mg : Str → Option Value) (v : Value) (x : Str) (b : Bool) : Prop where
  ex : ∃ D c cv, v = .ref D ∧ ClsV c cv ∧ (mg x = some cv ∨ (mg x = none ∧ bootBuiltins x = some cv)) ∧ PySem.W.kitOne K (.ref D) cv = some b
def sTold (S : SpecX) (kd : Nat) (y : PV) : Spec := fun args L R => S args L R fun kd' L' => kd' = kd ∧ R y L'
theorem told1_fn {x qual : Str} {st : Stmt} {f : Addr} {fd : FuncData} {xt xf xe xo fx cs A B Vn Dn : Str} {S : SpecX} {kd : Nat} {bA bB bV bD : Bool}
    {j0 j1 j2 j3 : Nat} {p1 p2 p3 p4 p5 p6 p7 p8 p9 p10 p11 p12 p13 p14 p15 p16 p17 p18 p19 p20 p21 p22 p23 p24 p25 p26 p27 p28 p29 p30 p31 p32 p33 p34 p35 p36 p37 p38 p39 : Pos}
    (F : Fun K x qual st f fd) (sc : FnScope [xt, xf, xe, xo] [xt] (defScope st))
    (hb : defBody st = [.Assign [.Name xf p1] (.Constant .none j0 p2) p3,
      .Try [.Assign [.Name xf p4] (.Call (.Name fx p5) [.Name xt p6] [] p7) p8]
        [.ExceptHandler (some (.Name cs p9)) (some xe) [.Assign [.Name xo p10] (.BoolOp .Or [.Call (.Name "isinstance" p11) [.Name xe p12, .Tuple [.Name A p13, .Name B p14] j1 p15] [] p16, .UnaryOp .Not (.Call (.Name "isinstance" p17) [.Name xe p18, .Name Vn p19] [] p20) p21] p22) p23,
          .Assign [.Name xf p24] (.IfExp (.BoolOp .And [.Call (.Name "isinstance" p25) [.Name xe p26, .Name Dn p27] [] p28, .UnaryOp .Not (.Name xo p29) p30] p31) (.Constant .none j2 p32) (.Constant (.bool false) j3 p33) p34) p35] p36] [] [] p37,
      .Return (some (.Name xf p38)) p39])
    (loc : [xt, xf, xe, xo].all (fun y => (defScope st).names.lookup y == some .local) = true) (ok : [xt, xf, xe, xo, fx, cs, A, B, Vn, Dn].all okName = true)
    (glo : [fx, cs, A, B, Vn, Dn, "isinstance"].all (fun y => (defScope st).names.lookup y == some .globalImplicit) = true)
    (G : FnIsX P w K mg base cl k fx 1 S) (mi : mg "isinstance" = none) (hE : ∃ D, cl kd = .ref D ∧ ExcC K D) (hsup : ∃ c, mg cs = some c ∧ PySem.W.exmOne K (cl kd) c = some true)
    (hA : ErC K mg (cl kd) A bA) (hB : ErC K mg (cl kd) B bB) (hV : ErC K mg (cl kd) Vn bV) (hD : ErC K mg (cl kd) Dn bD) :
    FnG P w K mg base (k + 1) f fd [xt] (liftSp K 1 (sTold S kd (if bD && !(bA || bB || !bV) then .non else .bl false))) := by
  obtain ⟨oc, od, kV, doc, pm, an, cdv, ct, osl, rfl, lk, hcd⟩ := F.ex
  obtain ⟨f0, fd0, ps0, m0, k0, b0, g0⟩ := G.ex
  obtain ⟨De, hcD, hEx⟩ := hE
  obtain ⟨csv, hcs, hexm⟩ := hsup
  rw [hb] at lk ⊢
  have lo : ∀ {y : Str}, y ∈ [xt, xf, xe, xo] → (defScope st).names.lookup y = some .local := fun {y} hy => by
    have := List.all_eq_true.mp loc y hy
    simpa using this
  have gl : ∀ {y : Str}, y ∈ [fx, cs, A, B, Vn, Dn, "isinstance"] → (defScope st).names.lookup y = some .globalImplicit := fun {y} hy => by
    have := List.all_eq_true.mp glo y hy
    simpa using this
  have nm : ∀ {y : Str}, y ∈ [xt, xf, xe, xo, fx, cs, A, B, Vn, Dn] → (y == ("__debug__" : Str)) = false ∧ (y == ("__classdict__" : Str)) = false ∧ y ≠ "__name__" := fun {y} hy => okName_of (List.all_eq_true.mp ok y hy)
  refine g_def lk hcd sc (fun vs H Q E h => h.1) fun A' outer s H vs Q E gd hr h => ?_
  obtain ⟨hl, args, L, R, ra, rh, hs, kt⟩ := h
  have cn : ∀ {y : Str} {b : Bool}, y ∈ [A, B, Vn, Dn] → ErC K mg (cl kd) y b → Cn (cxOf CX0 P w K mg base [xt, xf, xe, xo] qual (defScope st) f cdv A' outer s H E) De y b := fun {y b} hy h => by
    obtain ⟨D', c, cv, e1, e2, e3, e4⟩ := h.ex
    rw [hcD] at e1
    cases e1
    have hy1 : y ∈ [fx, cs, A, B, Vn, Dn, "isinstance"] := by
      simp only [List.mem_cons, List.not_mem_nil, or_false] at hy ⊢
      rcases hy with h | h | h | h <;> simp [h]
    have hy2 : y ∈ [xt, xf, xe, xo, fx, cs, A, B, Vn, Dn] := by
      simp only [List.mem_cons, List.not_mem_nil, or_false] at hy ⊢
      rcases hy with h | h | h | h <;> simp [h]
    exact ⟨gl hy1, (nm hy2).1, (nm hy2).2.2, c, cv, e2, e3, e4⟩
  have sun : SuN (cxOf CX0 P w K mg base [xt, xf, xe, xo] qual (defScope st) f cdv A' outer s H E) 2 xe :=
    ⟨sc.nd, rfl, .inl (lo (by simp)), (nm (y := xe) (by simp)).1, (nm (y := xe) (by simp)).2.1, gl (y := "isinstance") (by simp), mi⟩
  have hN : (cxOf CX0 P w K mg base [xt, xf, xe, xo] qual (defScope st) f cdv A' outer s H E).N.Nodup := sc.nd
  have st0 := ps_set (X := cxOf CX0 P w K mg base [xt, xf, xe, xo] qual (defScope st) f cdv A' outer s H E) (i := 1) (pos := p3) (pos' := p1) hN rfl (.inl (lo (y := xf) (by simp))) (pe_non (j := j0) (pos := p2)) rfl (.inl rfl)
  have st2 := ps_ret (pos := p39) (pe_var (X := cxOf CX0 P w K mg base [xt, xf, xe, xo] qual (defScope st) f cdv A' outer s H E) (i := 1) (pos := p38) rfl (.inl (lo (y := xf) (by simp))) (nm (y := xf) (by simp)).1 (nm (y := xf) (by simp)).2.1)
  have st1 := ps_try_as (X := cxOf CX0 P w K mg base [xt, xf, xe, xo] qual (defScope st) f cdv A' outer s H E) (x := cs) (n := xe) (c := csv) (i := 2) (np := p9) (pos := p37) (pos' := p36) (Wout := fun _ _ _ _ => False)
    (body := [.Assign [.Name xf p4] (.Call (.Name fx p5) [.Name xt p6] [] p7) p8])
    (b₀ := .Assign [.Name xo p10] (.BoolOp .Or [.Call (.Name "isinstance" p11) [.Name xe p12, .Tuple [.Name A p13, .Name B p14] j1 p15] [] p16, .UnaryOp .Not (.Call (.Name "isinstance" p17) [.Name xe p18, .Name Vn p19] [] p20) p21] p22) p23)
    (suite := [.Assign [.Name xf p24] (.IfExp (.BoolOp .And [.Call (.Name "isinstance" p25) [.Name xe p26, .Name Dn p27] [] p28, .UnaryOp .Not (.Name xo p29) p30] p31) (.Constant .none j2 p32) (.Constant (.bool false) j3 p33) p34) p35])
    (tb := fun W => tAsg (tCallX (liftSpX K cl 1 S) W (tCons (tVar 0) tNil)) (gName 1))
    (ts := fun a cls d => fun D' σ H => cls = .ref De ∧ d = none ∧ σ[2]? = some (some (.ref a)) ∧ 3 < σ.length ∧ ∀ H', Hs H H' → D'.nx ((σ.set 3 (some (.bl (bA || bB || !bV)))).set 1 (some (if bD && !(bA || bB || !bV) then .non else .bl false))) H')
    rfl rfl hN rfl (lo (y := xe) (by simp)) ⟨gl (y := cs) (by simp), (nm (y := cs) (by simp)).1, .inl hcs⟩ takesF
    (fun W pn xe' tk _ => pss_one (ps_set (X := (cxOf CX0 P w K mg base [xt, xf, xe, xo] qual (defScope st) f cdv A' outer s H E).tr pn xe') (i := 1) (pos := p8) (pos' := p4) hN rfl (.inl (lo (y := xf) (by simp)))
      (x_call (X := (cxOf CX0 P w K mg base [xt, xf, xe, xo] qual (defScope st) f cdv A' outer s H E).tr pn xe') (p := p5) (pos := p7) g0 gd hr (gl (y := fx) (by simp)) m0 k0 b0 tk (pa_cons (pe_var (X := (cxOf CX0 P w K mg base [xt, xf, xe, xo] qual (defScope st) f cdv A' outer s H E).tr pn xe') (i := 0) (pos := p6) rfl (.inl (lo (y := xt) (by simp))) (nm (y := xt) (by simp)).1 (nm (y := xt) (by simp)).2.1) pa_nil) (nm (y := fx) (by simp)).1 rfl rfl) rfl (.inl rfl)))
    (fun a oe cls d pn hz hf => ⟨fun pins s1 σ H1 D' I hq => by
      obtain ⟨ec, ed, hq⟩ := hq
      subst ec ed
      exact (suite1 (X := cxOf CX0 P w K mg base [xt, xf, xe, xo] qual (defScope st) f cdv A' outer s H E) (o := 3) (f := 1) hEx hz hf sun (cn (by simp) hA) (cn (by simp) hB) (cn (by simp) hV) (cn (by simp) hD) rfl rfl (.inl (lo (y := xo) (by simp))) (.inl (lo (y := xf) (by simp))) (.inl (lo (y := xo) (by simp)))
        (nm (y := xo) (by simp)).1 (nm (y := xo) (by simp)).2.1 (.inl rfl) (.inl rfl) (by decide)).run pins s1 σ H1 D' I hq⟩)
  refine ⟨_, pss_cons st0 (pss_cons st1 (pss_one st2)), ?_⟩
  match args, ra with
  | [], ra => exact absurd (show _ = _ from ra) (by intro z; subst z; cases hl)
  | x1 :: x2 :: r, ra => obtain ⟨_, _, rfl, _, _, _, rfl, _⟩ := ra; simp at hl
  | [x1], ra =>
    obtain ⟨v, _, rfl, rv, ra⟩ := ra
    cases (show _ = _ from ra)
    refine ⟨v, rfl, rfl, [x1], L, R, _, ⟨v, [], rfl, rv, rfl⟩, rh, hs, fun y La u H1 hy f1 ry r1 => ⟨u, rfl, kt y La u H1 hy f1 ry r1⟩, fun kd' La H1 hq f1 r1 => ?_⟩
    obtain ⟨rfl, hq⟩ := hq
    refine ⟨true, hexm, fun _ a na => ⟨hcD, rfl, rfl, by simp [L2.start], fun H2 hs2 => ⟨_, rfl, ?_⟩⟩, fun z => by cases z⟩
    refine kt _ La _ H2 hq (f1.trans hs2.fm) ?_ (hs2.rep r1)
    cases (bD && !(bA || bB || !bV)) <;> rfl
end
end Mp
namespace Mp
open PySem PySem.Spec PyProof.Rows L2

/-! ### isinstance of an exception that has a dict or none -/
/-- what a class whose instances are exceptions must say for __class__ -/
structure XcK (K : PySem.W.Frag) (D : Addr) : Prop where
  c : ExcC K D
theorem found_class {K : PySem.W.Frag} {D : Addr} (c : ExcC K D) (od : Option Obj) : PySem.W.findObj K D od "__class__" = some (.bind (.builtin "getset_descriptor.__get__") (.builtin "object.__class__")) := by
  have h1 : (PySem.W.clsIn K D).isSome = true := by
    obtain ⟨cd, h, _⟩ := PySem.W.any_some c.hd
    rw [h]; rfl
  obtain ⟨cd, h2⟩ := Option.isSome_iff_exists.mp h1
  simp [PySem.W.findObj, h2, c.ha, c.hn, c.ht]
section
variable {prog : Program} {w : World} {A : Around} {E : Value → Shared → Prop} {K : PySem.W.Frag} {x D : Addr} {ox : Obj} {od : Option Obj}
/-- its __class__ -/
theorem class_of {s : Shared} {Q : Option Value → Shared → Prop} (c : ExcC K D) (kin : K.In s.heap) (it : PySem.W.InstAt s.heap x ox D od) (q : Q (some (.ref D)) { s with toks := s.toks + 1 }) :
    wpAny (model prog w) A (getAttr? (.ref x) "__class__") Q E s := by
  have ty := it.type (M := model prog w)
  have ga := PySem.W.looks_findIn (M := model prog w) kin c.hg
  have gx := PySem.W.looks_findIn (M := model prog w) kin c.hk
  have fd := PySem.W.looks_find (M := model prog w) kin it (found_class c od)
  have isx : PySem.W.Looks (model prog w) s.heap (isInstance (.ref x) (.type "BaseException")) true := ty.andThen (PySem.W.looks_subIn kin c.hs)
  have ne : (Value.builtin "BaseException.__getattribute__" == Value.builtin "object.__getattribute__") = false := by decide +kernel
  obtain ⟨hp, g, d, t, os⟩ := s
  simp only [getAttr?, getAttrBy?, getAttrBy]
  refine wpAny_bind (wpAny_mkText (wpAny_bind (wpAny_attempt (wpAny_holding (wpAny_bind (ty.at (wpAny_bind (ga.at ?_))))))))
  show wpAny _ _ (if (true && Value.builtin "BaseException.__getattribute__" == Value.builtin "object.__getattribute__") = true then _ else _) _ _ _
  rw [ne, Bool.and_false, if_neg Bool.false_ne_true]
  simp only [getAttrByItsOwn, hookBefore]
  refine wpAny_bind ?_
  rw [if_pos (show onTheHeap (Value.ref D) = true from rfl)]
  refine gx.at (wpAny_bind (wpAny_attempt (wpAny_holding ?_)))
  simp only [callGetattribute]
  rw [if_neg (by rw [show (false && onTheHeap (Value.builtin "BaseException.__getattribute__")) = false from rfl]; exact Bool.false_ne_true)]
  simp only [boundAndCalled]
  rw [PySem.F.excAttr_ValueError.ga.bind (.ref x)]
  refine wpAny_bind (wpAny_pure ?_)
  show wpAny _ _ (call (.builtin "BaseException.__getattribute__") [.ref x, .str "__class__" t]) _ _ _
  refine wpAny_call (codeAny_call_builtin PySem.F.excAttr_ValueError.ga.plain PySem.F.entry_bexc_ga ?_)
  refine @PySem.W.check_slot (model prog w) _ _ ⟨hp, g, d, t + 1, os⟩ "BaseException.__getattribute__" "BaseException" "__getattribute__" (.ref x) [.str "__class__" t] [] _ (by decide +kernel) (by decide +kernel) isx (PySem.F.args_bexc_ga (.ref x) (.str "__class__" t)) ?_
  unfold Builtin.«object.__getattribute__»
  refine wpAny_bind (wpAny_of_eq (a := ((Value.ref x : Value), [Value.str "__class__" t])) (by first | rfl | (simp only [slotArgs]; rfl)) ?_)
  refine wpAny_bind (wpAny_pure (wpAny_bind (ty.at (wpAny_bind (fd.at ?_)))))
  show wpAny _ _ (holding [Value.builtin "object.__class__"] (call (.builtin "getset_descriptor.__get__") [.builtin "object.__class__", .ref x, .ref D]) >>= ret) _ _ _
  refine wpAny_bind (wpAny_holding (wpAny_call (PySem.W.class_get (s := ⟨hp, g, d, t + 1, os⟩) (ox := ox) (od := od) kin it c.hm ?_)))
  refine wpAny_pure ?_
  show wpAny _ _ (handedOut (.ref D)) _ _ _
  rw [PySem.W.handedOut_of (v := .ref D) rfl]
  first
    | exact wpAny_pure (wpAny_pure q)
    | exact wpAny_pure q
    | exact wpAny_pure (wpAny_bind (wpAny_pure (wpAny_pure q)))
/-- what isinstance asks of it -/
theorem kitx_of_exc (c : ExcC K D) : PySem.W.KitX K (.ref x) (.ref D) (fun h => PySem.W.InstAt h x ox D od) := by
  obtain ⟨cd, hc, _⟩ := PySem.W.any_some c.hd
  have cls : ∃ oc dd sl, K.lookup D = some ⟨oc, dd, .cls cd, sl⟩ := by
    unfold PySem.W.clsIn at hc
    split at hc
    · rename_i oc dd cd' sl e
      cases hc
      exact ⟨oc, dd, sl, e⟩
    · cases hc
  obtain ⟨oc, dd, sl, e⟩ := cls
  refine ⟨fun _ _ _ i => i.type, fun _ _ kin _ => ?_, fun h tp d' its n sl' kin htp => ?_, fun kin i k => class_of c kin i k⟩
  · intro A' Q' E' s' k q
    unfold isType loadHead
    exact wpAny_bind (wpAny_loadPart (k _ _ (kin _ _ e)) (wpAny_pure q))
  · refine Bool.eq_false_iff.mpr fun z => ?_
    have z : D = tp := Value.ref.inj (beq_iff_eq.mp z)
    subst z
    have := (kin _ _ e).symm.trans htp
    cases this
end
/-- at a an exception of the class at D is held, with a dict or without -/
def ExA (H : Hp) (a D : Addr) : Prop := H a = some (ExO (.ref D) a) ∨ ∃ d fs, H a = some (exo a D (some d)) ∧ H d = some (exd d fs)
theorem ExA.at {X : Cx} {pins : List (Addr × Obj)} {σ : L2.St} {H : Hp} {s : Shared} {a D : Addr} (I : Inv X pins σ H s) (h : ExA H a D) : ∃ ox od, PySem.W.InstAt s.heap a ox D od := by
  rcases h with h | ⟨d, fs, h1, h2⟩
  · obtain ⟨⟨⟨oc, od, oda, osl⟩, vs, ho, hz, hd, _⟩, _, _⟩ := I.hok a _ h
    obtain ⟨z1, z2⟩ := hz
    dsimp only at z1 z2 hd
    subst z1 z2 hd
    exact ⟨_, none, ho, rfl, rfl, trivial⟩
  · obtain ⟨t1, ho⟩ := exo_at I.hok h1
    obtain ⟨mA, hn, _⟩ := exd_at I.hok h2
    obtain ⟨o, _, _, hd, _⟩ := hn
    exact ⟨_, some o, ho, rfl, rfl, hd⟩
theorem call_isA {X : Cx} : CallR X (.builtin "isinstance") (fun xs H Q => ∃ (a D : Addr) (c : V) (cv : Value) (b : Bool), xs = [.ref a, c] ∧ ExA H a D ∧ ExcC X.K D ∧ (∀ u, RelV c u → u = cv) ∧ PySem.W.kitOne X.K (.ref D) cv = some b ∧ Q (.bl b) H) := by
  intro pins s σ H xs us Q I r h
  obtain ⟨a, D, c, cv, b, rfl, ha, hx, hc, e, q⟩ := h
  obtain ⟨u1, u2, rfl, r1, r2⟩ := vals2 r
  cases (show u1 = Value.ref a from r1)
  have := hc u2 r2
  subst this
  obtain ⟨ox, od, it⟩ := ha.at I
  exact PySem.W.kia_one (kitx_of_exc hx) I.kIn it e (fun z => nomatch z) fun tk => ⟨.bl b, H, I.kept (t' := tk) fun _ _ z => z, rfl, q⟩
/-- C(e), an own exception class with its own __init__, as a value -/
theorem pe_mkI {X : Cx} {CX : CXT} {x : Str} {C fI : Addr} {k : Nat} {fd : FuncData} {ps : List Str} {sp : Sp} {e : Expr} {ta : TA} {p pos : Pos} (T : OexC X.K C) (iC : PySem.W.findIn X.K (.ref C) "__init__" = some (some (.ref fI))) (tI : PySem.W.typeIn X.K (.ref fI) = some (.type "function"))
    (F1 : FnOk X.prog X.w X.K X.mg X.base CX k fI fd ps sp) (hr : Room (k + 1) X.A) (hb : Binds X.K fd ps []) (hx : Passes CX X (fun _ _ _ => False)) (hg : Gl X x) (hm : X.mg x = some (.ref C)) (ha : PA X [e] ta)
    (hdb : (x == ("__debug__" : Str)) = false) (he : starEach [e] X.env = (false, eval e X.env) :: starEach [] X.env := by rfl) (hpl : (backTo pos (starEach [] X.env)).any (·.1) = false := by rfl) :
    PE X (.Call (.Name x p) [e] [] pos) (fun σ H Q => ta σ H fun vs H1 => vs.length ≤ 1000 ∧ ∀ a, H1 a = none → sp (.ref a :: vs) (upd H1 a (exo a C none)) (fun v H2 => v = .non ∧ Q (.ref a) H2) fun _ _ _ => False) := by
  refine ⟨fun pins s σ H Q I h => ?_⟩
  obtain ⟨nm, q, N, bs, bm, sn, sub, ab, col, dd, k0, k1, k2, k3, k5, hC, hbm⟩ := T.cls
  refine wpAny_Call_Name_kw (ld_glob I hg hm ?_ hdb)
  refine PySem.W.callWith_K (h₀ := X.base) I.ok.mod.kin T.kC (thn (ha.run pos pins s σ H _ I h) fun us s1 z => ?_) he hpl
  obtain ⟨vs, H1, I1, rv, hz, q1⟩ := z
  refine ⟨I1.kIn, ?_⟩
  show wpAny _ _ (call (.ref C) us) _ _ _
  obtain ⟨hp, g, dr, tk, os⟩ := s1
  have hn : H1 (hp.objs.size + 1) = none := I1.hok.fresh (Nat.le_succ _)
  have hq := q1 _ hn
  have old : ∀ b o, hp.get? b = some o → ((hp.push (PySem.W.kdv_tup us)).push (PySem.HandSPX.excO C hp.objs.size)).get? b = some o := fun b o z => Heap.get?_push_of_some _ (Heap.get?_push_of_some _ z)
  have there : ((hp.push (PySem.W.kdv_tup us)).push (PySem.HandSPX.excO C hp.objs.size)).get? (hp.objs.size + 1) = some (PySem.HandSPX.excO C hp.objs.size) := by heap_get
  have I2 : Inv X pins σ (upd H1 (hp.objs.size + 1) (exo (hp.objs.size + 1) C none)) ⟨(hp.push (PySem.W.kdv_tup us)).push (PySem.HandSPX.excO C hp.objs.size), g, dr, tk, os⟩ :=
    I1.laid (t' := tk) (a := hp.objs.size + 1) (o := exo (hp.objs.size + 1) C none) (h' := (hp.push (PySem.W.kdv_tup us)).push (PySem.HandSPX.excO C hp.objs.size)) old (Nat.le_succ _) (exo_ok there)
  have r2 : Vals (V.ref (hp.objs.size + 1) :: vs) (Value.ref (hp.objs.size + 1) :: us) := .cons rfl rv
  have hl : (Value.ref (hp.objs.size + 1) :: us ++ ([] : List Value)).length = ps.length := by
    have z := r2.length
    rw [F1.len _ _ _ _ hq] at z
    rw [List.append_nil]
    exact z.symm
  have hus : us.length ≤ sizeLine := by
    rw [← Paired.length rv, sizeLine_eq]
    omega
  have b1 := hb ⟨(hp.push (PySem.W.kdv_tup us)).push (PySem.HandSPX.excO C hp.objs.size), g, dr, tk, os⟩ (Value.ref (hp.objs.size + 1) :: us) I2.kIn hl
  rw [List.append_nil] at b1
  refine wpAny_call (PySem.HandSPX.call_own PySem.F.excBase_ValueError (fun Y => PySem.HandSPX.refsVE_contains Y bm hbm) (I1.kIn _ _ hC) (PySem.W.looks_findIn I1.kIn iC) (fun self => PySem.W.bind_fn I1.kIn self tI) hus
    (codeAny_mono (F1.run _ X.stack _ _ ⟨Value.ref (hp.objs.size + 1) :: us, []⟩ _ _ _ (fun _ _ _ => False) (hr.make C us []) (I2.env0.make C us []) b1 r2 hq) fun r s' hq' => ?_))
  match r, hq' with
  | .error er, hq' => exact hx pins σ _ _ er s' I2 hq'
  | .ok .next, hq' => exact hq'.elim
  | .ok .brk, hq' => exact hq'.elim
  | .ok .cont, hq' => exact hq'.elim
  | .ok (.ret u), hq' =>
    obtain ⟨v, H2, J, rv2, ev, q2⟩ := I2.after hq'
    subst ev
    exact ⟨rv2, .ref (hp.objs.size + 1), H2, J, rfl, q2⟩
/-- e.f, e such an exception with a dict -/
theorem pe_fld {X : Cx} {e : Expr} {te : TE} {n : Str} {pos : Pos} (he : PE X e te) (hb : attributeBase e n X.env (eval e X.env) = eval e X.env) :
    PE X (.Attribute e n pos) (fun σ H Q => te σ H fun x H1 => ∃ (a C d : Addr) (fs : List (Str × V)) (v : V), x = .ref a ∧ XfC X.K C ∧ PySem.W.findIn X.K (.ref C) n = some none ∧ H1 a = some (exo a C (some d)) ∧ H1 d = some (exd d fs) ∧ fs.lookup n = some v ∧ Q v H1) := by
  refine ⟨fun pins s σ H Q I h => ?_⟩
  refine attr_of hb (thn (he.run pins s σ H _ I h) fun u s1 z => ?_)
  obtain ⟨x, H1, I1, rx, a, C, d, fs, v, ex, T, hno, h1, h2, l, q⟩ := z
  subst ex
  obtain rfl : u = Value.ref a := rx
  obtain ⟨t1, ho⟩ := exo_at I1.hok h1
  obtain ⟨mA, hns, hr⟩ := exd_at I1.hok h2
  obtain ⟨od, hd, hl⟩ := lookIn_ns hns
  obtain ⟨u, hu, ru⟩ := RelO.some_of (v := v) (o := mA n) (by rw [← l]; exact hr n)
  exact HandSPX.exc_get I1.kIn (⟨ho, rfl, rfl, hd⟩ : PySem.W.InstAt s1.heap a _ C (some od)) T.ga T.gg T.exC (PySem.W.findObj_own T.hdC hno rfl (by rw [hl, hu])) (handed_of ru) ⟨v, H1, I1.tok _, ru, q⟩
end Mp
namespace Mp
open PySem PySem.Spec PyProof.Rows L2

/-- a class by its name, at cv -/
structure Cm (X : Cx) (x : Str) (cv : Value) : Prop where
  gl : Gl X x
  nd : (x == ("__debug__" : Str)) = false
  nn : x ≠ "__name__"
  ex : ∃ c, ClsV c cv ∧ (X.mg x = some cv ∨ (X.mg x = none ∧ bootBuiltins x = some cv))
section
variable {X : Cx} {j : Nat} {xe : Str} {a1 a2 a3 a4 : Pos}
theorem pe_isX (hn : SuN X j xe) {x : Str} {cv : Value} (h : Cm X x cv) :
    PE X (.Call (.Name "isinstance" a1) [.Name xe a2, .Name x a3] [] a4) (fun σ H Q => ∃ a D b, σ[j]? = some (some (.ref a)) ∧ ExA H a D ∧ ExcC X.K D ∧ PySem.W.kitOne X.K (.ref D) cv = some b ∧ Q (.bl b) H) := by
  obtain ⟨c, h1, h2⟩ := h.ex
  have r : RelV c cv := by cases h1 <;> rfl
  have h3 : PE X (.Name x a3) (tC c) := by
    rcases h2 with h2 | ⟨h2, h4⟩
    · exact pe_glob h.gl h2 r h.nd
    · exact pe_bltn h.gl h2 h4 r h.nn h.nd
  refine (pe_callB call_isA hn.gi hn.mi (by first | rfl | decide +kernel) (pa_cons (pe_var hn.ix hn.vis hn.d1 hn.d2) (pa_cons h3 pa_nil))).weak fun σ H Q q => ?_
  obtain ⟨a, D, b, q1, q2, q3, q4, q5⟩ := q
  exact ⟨_, q1, a, D, c, cv, b, rfl, q2, q3, fun u r => h1.eq r, q4, q5⟩
theorem ExA.st {H H' : Hp} {a D : Addr} (h : ExA H a D) (hs : Hs H H') : ExA H' a D := by
  rcases h with h | ⟨d, fs, h1, h2⟩
  · exact .inl (hs _ _ h)
  · exact .inr ⟨d, fs, hs _ _ h1, hs _ _ h2⟩
theorem dp3 {K : PySem.W.Frag} {H : Hp} {q : Addr} {b1 b2 b3 : Bool} (h : H q = some (.lst [.bl b1, .bl b2, .bl b3])) : Dp K H (.ref q) (.list [.bool b1, .bool b2, .bool b3]) :=
  .lst (.inl (.inl h)) (.cons (.bl _) (.cons (.bl _) (.cons (.bl _) .nil)))
theorem eqv3 (b1 b2 b3 : Bool) : PyData.eqv (.list [.bool b1, .bool b2, .bool b3]) (.list [.bool b1, .bool b2, .bool b3]) = true := by
  cases b1 <;> cases b2 <;> cases b3 <;> rfl
theorem shp3 (b1 b2 b3 : Bool) : SeqAt.shaped (.list [.bool b1, .bool b2, .bool b3]) = true := by
  cases b1 <;> cases b2 <;> cases b3 <;> rfl
end
/-- what the loop's turn asks -/
def tTurn (K : PySem.W.Frag) (c1 c2 c3 c4 c5 : Value) : TS := fun D' σ H => ∃ (a D : Addr) (i : Int), σ[2]? = some (some (.int i)) ∧ σ[3]? = some (some (.ref a)) ∧ ExA H a D ∧ ExcC K D ∧
  PySem.W.kitOne K (.ref D) c1 = some (decide (V.int i = V.int 0)) ∧ PySem.W.kitOne K (.ref D) c2 = some (decide (V.int i = V.int 1)) ∧ PySem.W.kitOne K (.ref D) c3 = some (decide (V.int i = V.int 2)) ∧
  PySem.W.kitOne K (.ref D) c4 = some true ∧ PySem.W.kitOne K (.ref D) c5 = some true ∧ 4 < σ.length ∧ ∀ H' v, Hs H H' → D'.nx (σ.set 4 (some v)) H'
section
variable {X : Cx} {xr xs xk xe xd n1 n2 n3 n4 n5 : Str} {c1 c2 c3 c4 c5 : Value}
theorem turn_ok {p19 p20 p21 p22 p23 p24 p25 p26 p27 p28 p29 p30 p31 p32 p33 p34 p35 p36 p37 p38 p39 p40 p41 p42 p43 p44 p45 p46 p47 p48 p49 p50 p51 p52 p53 p54 p55 p56 p57 p58 p59 : Pos} {j4 j5 j6 j7 : Nat}
    (hu : X.A.units + 64 < cLine) (hN : X.N = [xr, xs, xk, xe, xd]) (nd : X.N.Nodup) (loc : ∀ y ∈ [xr, xs, xk, xe, xd], X.env.scope.names.lookup y = some .local) (nm : ∀ y ∈ [xr, xs, xk, xe, xd], (y == ("__debug__" : Str)) = false ∧ (y == ("__classdict__" : Str)) = false)
    (fn : ∀ y, X.fn y = true ∨ X.env.scope.names.lookup y = some .local) (gi : Gl X "isinstance") (mi : X.mg "isinstance" = none)
    (h1 : Cm X n1 c1) (h2 : Cm X n2 c2) (h3 : Cm X n3 c3) (h4 : Cm X n4 c4) (h5 : Cm X n5 c5) :
    PSs X [.Assign [.Name xd p19] (.List [.Call (.Name "isinstance" p20) [.Name xe p21, .Name n1 p22] [] p23, .Call (.Name "isinstance" p24) [.Name xe p25, .Name n2 p26] [] p27, .Call (.Name "isinstance" p28) [.Name xe p29, .Name n3 p30] [] p31] p32) p33,
      .If (.BoolOp .Or [.Compare (.Name xd p34) [.NotEq] [.List [.Compare (.Name xk p35) [.Eq] [.Constant (.int 0) j4 p36] p37, .Compare (.Name xk p38) [.Eq] [.Constant (.int 1) j5 p39] p40, .Compare (.Name xk p41) [.Eq] [.Constant (.int 2) j6 p42] p43] p44] p45,
        .UnaryOp .Not (.Call (.Name "isinstance" p46) [.Name xe p47, .Name n4 p48] [] p49) p50, .UnaryOp .Not (.Call (.Name "isinstance" p51) [.Name xe p52, .Name n5 p53] [] p54) p55] p56) [.Return (some (.Constant (.bool false) j7 p57)) p58] [] p59] (tTurn X.K c1 c2 c3 c4 c5) := by
  have lo : ∀ {y}, y ∈ [xr, xs, xk, xe, xd] → Vis X.env.scope y := fun {y} h => .inl (loc y h)
  have sun : SuN X 3 xe := ⟨nd, by rw [hN]; rfl, lo (by simp), (nm xe (by simp)).1, (nm xe (by simp)).2, gi, mi⟩
  have i2 : X.N[2]? = some xk := by rw [hN]; rfl
  have i4 : X.N[4]? = some xd := by rw [hN]; rfl
  have vk : ∀ {pos : Pos}, PE X (.Name xk pos) (tVar 2) := pe_var i2 (lo (by simp)) (nm xk (by simp)).1 (nm xk (by simp)).2
  have s1 := ps_set (pos := p33) (pos' := p19) nd i4 (.inl (loc xd (by simp))) (pe_lst (pos := p32) (pa_cons (pe_isX (a1 := p20) (a2 := p21) (a3 := p22) (a4 := p23) sun h1) (pa_cons (pe_isX (a1 := p24) (a2 := p25) (a3 := p26) (a4 := p27) sun h2) (pa_cons (pe_isX (a1 := p28) (a2 := p29) (a3 := p30) (a4 := p31) sun h3) pa_nil)))) rfl (fn xd)
  have e1 := pe_cmpR (pos := p37) (op_eq (X := X)) (vk (pos := p35)) (pe_int (X := X) (i := 0) (j := j4) (pos := p36)) (nobehind _ (by decide) (by decide))
  have e2 := pe_cmpR (pos := p40) (op_eq (X := X)) (vk (pos := p38)) (pe_int (X := X) (i := 1) (j := j5) (pos := p39)) (nobehind _ (by decide) (by decide))
  have e3 := pe_cmpR (pos := p43) (op_eq (X := X)) (vk (pos := p41)) (pe_int (X := X) (i := 2) (j := j6) (pos := p42)) (nobehind _ (by decide) (by decide))
  have t1 := pt_cmpR (pos := p45) (op_neD hu) (pe_var (pos := p34) i4 (lo (by simp)) (nm xd (by simp)).1 (nm xd (by simp)).2) (pe_lst (pos := p44) (pa_cons e1 (pa_cons e2 (pa_cons e3 pa_nil)))) (nobehind _ (by decide) (by decide))
  have t2 := pt_not (pos := p50) (pt_val (pe_isX (a1 := p46) (a2 := p47) (a3 := p48) (a4 := p49) sun h4))
  have t3 := pt_not (pos := p55) (pt_val (pe_isX (a1 := p51) (a2 := p52) (a3 := p53) (a4 := p54) sun h5))
  have s2 := ps_if (pos := p59) (pw_or (pos := p56) t1 (pw_or (pos := p56) t2 (pw_or1 (pos := p56) t3))).pt (pss_one (ps_ret (pos := p58) (pe_bl (X := X) (b := false) (j := j7) (pos := p57)))) pss_nil
  refine (pss_cons s1 (pss_one s2)).weak fun D' σ H q => ?_
  obtain ⟨a, D, i, q2, q3, ha, hx, k1, k2, k3, k4, k5, hl, q⟩ := q
  refine ⟨a, D, _, q3, ha, hx, k1, a, D, _, q3, ha, hx, k2, a, D, _, q3, ha, hx, k3, by show 3 ≤ sizeLine; decide, fun p hp => ?_⟩
  have u2 : (σ.set 4 (some (V.ref p)))[2]? = some (some (.int i)) := by rw [List.getElem?_set_ne (by decide)]; exact q2
  have u3 : (σ.set 4 (some (V.ref p)))[3]? = some (some (.ref a)) := by rw [List.getElem?_set_ne (by decide)]; exact q3
  have A1 := ha.st (Hs.new (o := .lst [.bl (decide (V.int i = V.int 0)), .bl (decide (V.int i = V.int 1)), .bl (decide (V.int i = V.int 2))]) hp)
  refine ⟨_, List.getElem?_set_self hl, _, u2, rfl, _, u2, rfl, _, u2, rfl, by show 3 ≤ sizeLine; decide, fun p2 hp2 => ?_⟩
  have A2 := A1.st (Hs.new (o := .lst [.bl (decide (V.int i = V.int 0)), .bl (decide (V.int i = V.int 1)), .bl (decide (V.int i = V.int 2))]) hp2)
  refine ⟨_, _, dp3 (Hs.new hp2 _ _ upd_same), dp3 upd_same, shp3 _ _ _, shp3 _ _ _, _, rfl, ?_⟩
  rw [eqv3]
  refine ⟨a, D, _, u3, A2, hx, k4, true, rfl, ?_⟩
  refine ⟨a, D, _, u3, A2, hx, k5, true, rfl, ?_⟩
  exact q _ _ ((Hs.new hp).trans (Hs.new hp2))
end
end Mp
namespace Mp
open PySem PySem.Spec PyProof.Rows L2

/-- __init__(self, row): self.row = row -/
def spRow (K : PySem.W.Frag) (C : Addr) : Sp := fun vs H Q _ => ∃ (a : Addr) (y : V), vs = [.ref a, y] ∧ H a = some (exo a C none) ∧ ∀ d, H d = none → d ≠ a → Q .non (upd (upd H d (exd d [("row", y)])) a (exo a C (some d)))
section
variable {P : Program} {w : World} {K : PySem.W.Frag} {mg : Str → Option Value} {base : Heap} {k : Nat}
theorem row_fn {qual : Str} {st : Stmt} {f C : Addr} {fd : FuncData} {p1 p2 p3 p4 : Pos} (F : Fun K "__init__" qual st f fd) (sc : FnScope ["self", "row"] ["self", "row"] (defScope st))
    (hb : defBody st = [.Assign [.Attribute (.Name "self" p1) "row" p2] (.Name "row" p3) p4]) (T : OexC K C) (hno : PySem.W.findIn K (.ref C) "row" = some none)
    (l1 : (defScope st).names.lookup ("self" : Str) = some .local) (l2 : (defScope st).names.lookup ("row" : Str) = some .local) : FnOk P w K mg base CX0 (k + 1) f fd ["self", "row"] (spRow K C) := by
  refine Fun.ok F sc (fun vs H Q E h => ?_) fun cdv A outer s H vs Q E hr h => ?_
  · obtain ⟨a, y, rfl, _⟩ := h
    rfl
  rw [hb]
  obtain ⟨a, y, rfl, ha, hq⟩ := h
  have e1 := pe_var (X := (cxOf CX0 P w K mg base ["self", "row"] qual (defScope st) f cdv A outer s H E).nox) (i := 0) (x := "self") (pos := p1) rfl (.inl l1)
  have e2 := pe_var (X := (cxOf CX0 P w K mg base ["self", "row"] qual (defScope st) f cdv A outer s H E).nox) (i := 1) (x := "row") (pos := p3) rfl (.inl l2)
  refine ⟨_, pss_one (ps_ost (p' := p2) (pos := p4) e1 e2), ?_⟩
  exact ⟨y, rfl, .ref a, rfl, a, C, rfl, T, hno, .inl ⟨ha, fun dx h1 h2 => hq dx h1 h2⟩⟩

/-- a class whose instances are made without an __init__ of its own -/
structure MkC (K : PySem.W.Frag) (mg : Str → Option Value) (x : Str) (C : Addr) : Prop where
  ex : ∃ B newId initId bmB, ExcBaseFacts B newId initId bmB ∧ PySem.W.excIn K C bmB newId = true ∧ mg x = some (.ref C) ∧ PySem.W.keepIn K (.ref C) = true
/-- what isinstance tells of an instance of the class at D by the five names' classes -/
def K5 (K : PySem.W.Frag) (D : Addr) (c1 c2 c3 c4 c5 : Value) (b1 b2 b3 : Bool) : Prop :=
  PySem.W.kitOne K (.ref D) c1 = some b1 ∧ PySem.W.kitOne K (.ref D) c2 = some b2 ∧ PySem.W.kitOne K (.ref D) c3 = some b3 ∧ PySem.W.kitOne K (.ref D) c4 = some true ∧ PySem.W.kitOne K (.ref D) c5 = some true
def sRefus : Spec := fun args L R => ∃ i : Int, args = [.int i] ∧ R (.bl true) L
/-- what the list of three holds -/
structure Thr (H : Hp) (p a0 a1 a2 d : Addr) (C1 C2 C3 : Addr) (y : V) : Prop where
  l : H p = some (.lst [.ref a0, .ref a1, .ref a2])
  h0 : H a0 = some (ExO (.ref C1) a0)
  h1 : H a1 = some (ExO (.ref C2) a1)
  h2 : H a2 = some (exo a2 C3 (some d))
  hd : H d = some (exd d [("row", y)])
theorem Thr.st {H H' : Hp} {p a0 a1 a2 d C1 C2 C3 : Addr} {y : V} (t : Thr H p a0 a1 a2 d C1 C2 C3 y) (h : Hs H H') : Thr H' p a0 a1 a2 d C1 C2 C3 y :=
  ⟨h _ _ t.l, h _ _ t.h0, h _ _ t.h1, h _ _ t.h2, h _ _ t.hd⟩
end
section
variable {X : Cx} {k : Nat} {fI C1 C2 C3 cc4 : Addr} {fdI : FuncData} {xr xs xk xe xd n1 n2 n3 n4 n5 m1 m2 : Str}
  {p1 p2 p3 p4 p5 p6 p7 p8 p9 p10 p11 p12 p13 p14 p15 p16 p17 p18 p60 p61 p62 p63 p64 p65 p66 p67 p19 p20 p21 p22 p23 p24 p25 p26 p27 p28 p29 p30 p31 p32 p33 p34 p35 p36 p37 p38 p39 p40 p41 p42 p43 p44 p45 p46 p47 p48 p49 p50 p51 p52 p53 p54 p55 p56 p57 p58 p59 : Pos} {j1 j2 j3 j4 j5 j6 j7 j8 : Nat}
theorem refus_ok (hc : X.calm = true) (hp : PassesOwn (model X.prog X.w) X.A X.env X.xe) (hr : Room (k + 1) X.A)
    (hN : X.N = [xr, xs, xk, xe, xd]) (nd : X.N.Nodup) (loc : ∀ y ∈ [xr, xs, xk, xe, xd], X.env.scope.names.lookup y = some .local) (nm : ∀ y ∈ [xr, xs, xk, xe, xd], (y == ("__debug__" : Str)) = false ∧ (y == ("__classdict__" : Str)) = false)
    (fn : ∀ y, X.fn y = true ∨ X.env.scope.names.lookup y = some .local) (gi : Gl X "isinstance") (mi : X.mg "isinstance" = none) (ge : Gl X "enumerate") (me : X.mg "enumerate" = none)
    (h1 : Cm X n1 (.ref C1)) (h2 : Cm X n2 (.ref C2)) (h3 : Cm X n3 (.ref C3)) (h4 : Cm X n4 (.ref cc4)) (h5 : Cm X n5 (.type "ValueError"))
    (M1 : MkC X.K X.mg n1 C1) (M2 : MkC X.K X.mg n2 C2) (T : OexC X.K C3) (m3 : X.mg n3 = some (.ref C3)) (iC : PySem.W.findIn X.K (.ref C3) "__init__" = some (some (.ref fI))) (tI : PySem.W.typeIn X.K (.ref fI) = some (.type "function"))
    (hI : FnOk X.prog X.w X.K X.mg X.base CX0 k fI fdI ["self", "row"] (spRow X.K C3)) (bI : Binds X.K fdI ["self", "row"] []) (XC : XfC X.K C3) (hno : PySem.W.findIn X.K (.ref C3) "row" = some none)
    (E1 : ExcC X.K C1) (E2 : ExcC X.K C2) (E3 : ExcC X.K C3)
    (k1 : K5 X.K C1 (.ref C1) (.ref C2) (.ref C3) (.ref cc4) (.type "ValueError") true false false) (k2 : K5 X.K C2 (.ref C1) (.ref C2) (.ref C3) (.ref cc4) (.type "ValueError") false true false) (k3 : K5 X.K C3 (.ref C1) (.ref C2) (.ref C3) (.ref cc4) (.type "ValueError") false false true) :
    PSs X [.Assign [.Name xs p1] (.List [.Call (.Name n1 p2) [.Constant (.str m1) j1 p3] [] p4, .Call (.Name n2 p5) [.Constant (.str m2) j2 p6] [] p7, .Call (.Name n3 p8) [.Name xr p9] [] p10] p11) p12,
      .For (.Tuple [.Name xk p13, .Name xe p14] j3 p15) (.Call (.Name "enumerate" p16) [.Name xs p17] [] p18)
        [.Assign [.Name xd p19] (.List [.Call (.Name "isinstance" p20) [.Name xe p21, .Name n1 p22] [] p23, .Call (.Name "isinstance" p24) [.Name xe p25, .Name n2 p26] [] p27, .Call (.Name "isinstance" p28) [.Name xe p29, .Name n3 p30] [] p31] p32) p33,
      .If (.BoolOp .Or [.Compare (.Name xd p34) [.NotEq] [.List [.Compare (.Name xk p35) [.Eq] [.Constant (.int 0) j4 p36] p37, .Compare (.Name xk p38) [.Eq] [.Constant (.int 1) j5 p39] p40, .Compare (.Name xk p41) [.Eq] [.Constant (.int 2) j6 p42] p43] p44] p45,
        .UnaryOp .Not (.Call (.Name "isinstance" p46) [.Name xe p47, .Name n4 p48] [] p49) p50, .UnaryOp .Not (.Call (.Name "isinstance" p51) [.Name xe p52, .Name n5 p53] [] p54) p55] p56) [.Return (some (.Constant (.bool false) j7 p57)) p58] [] p59] [] p60,
      .Return (some (.Compare (.Attribute (.Subscript (.Name xs p61) (.Constant (.int 2) j8 p62) p63) "row" p64) [.Eq] [.Name xr p65] p66)) p67]
      (fun D' σ H => ∃ i : Int, σ[0]? = some (some (.int i)) ∧ σ.length = 5 ∧ ∀ H', Hs H H' → D'.rt (.bl true) H') := by
  obtain ⟨_, _, _, _, F1, q1, g1, kp1⟩ := M1.ex
  obtain ⟨_, _, _, _, F2, q2, g2, kp2⟩ := M2.ex
  have lo : ∀ {y}, y ∈ [xr, xs, xk, xe, xd] → Vis X.env.scope y := fun {y} h => .inl (loc y h)
  have i0 : X.N[0]? = some xr := by rw [hN]; rfl
  have i1 : X.N[1]? = some xs := by rw [hN]; rfl
  have i2 : X.N[2]? = some xk := by rw [hN]; rfl
  have i3 : X.N[3]? = some xe := by rw [hN]; rfl
  have vr : ∀ {pos : Pos}, PE X (.Name xr pos) (tVar 0) := pe_var i0 (lo (by simp)) (nm xr (by simp)).1 (nm xr (by simp)).2
  have vs : ∀ {pos : Pos}, PE X (.Name xs pos) (tVar 1) := pe_var i1 (lo (by simp)) (nm xs (by simp)).1 (nm xs (by simp)).2
  have e1 := pe_exc1 (X := X) (p := p2) (pos := p4) F1 q1 g1 kp1 h1.gl (pe_str (X := X) (x := m1) (j := j1) (pos := p3)) rfl h1.nd
  have e2 := pe_exc1 (X := X) (p := p5) (pos := p7) F2 q2 g2 kp2 h2.gl (pe_str (X := X) (x := m2) (j := j2) (pos := p6)) rfl h2.nd
  have e3 := pe_mkI (X := X) (p := p8) (pos := p10) T iC tI hI hr bI pass0 h3.gl m3 (pa_cons (vr (pos := p9)) pa_nil) h3.nd
  have s0 := ps_set (pos := p12) (pos' := p1) nd i1 (.inl (loc xs (by simp))) (pe_lst (pos := p11) (pa_cons e1 (pa_cons e2 (pa_cons e3 pa_nil)))) rfl (fn xs)
  have gg : PG X (.Tuple [.Name xk p13, .Name xe p14] j3 p15) _ := pg_tup hc (pgs_cons (pg_name (pos := p13) nd i2 (.inl (loc xk (by simp))) (fn xk)) (pgs_cons (pg_name (pos := p14) nd i3 (.inl (loc xe (by simp))) (fn xe)) pgs_nil))
  have s1 := ps_for (pos := p60) hp hc (pi_enum (p := p16) (pos := p18) ge me (pa_cons (vs (pos := p17)) pa_nil)) gg
    (turn_ok (p19 := p19) (p20 := p20) (p21 := p21) (p22 := p22) (p23 := p23) (p24 := p24) (p25 := p25) (p26 := p26) (p27 := p27) (p28 := p28) (p29 := p29) (p30 := p30) (p31 := p31) (p32 := p32) (p33 := p33) (p34 := p34) (p35 := p35) (p36 := p36) (p37 := p37) (p38 := p38) (p39 := p39) (p40 := p40) (p41 := p41) (p42 := p42) (p43 := p43) (p44 := p44) (p45 := p45) (p46 := p46) (p47 := p47) (p48 := p48) (p49 := p49) (p50 := p50) (p51 := p51) (p52 := p52) (p53 := p53) (p54 := p54) (p55 := p55) (p56 := p56) (p57 := p57) (p58 := p58) (p59 := p59) (j4 := j4) (j5 := j5) (j6 := j6) (j7 := j7)
      (by have := hr.un; omega) hN nd loc nm fn gi mi h1 h2 h3 h4 h5)
  have e5 := pe_cmpR (pos := p66) (op_eq (X := X)) (pe_fld (n := "row") (pos := p64) (pe_ix (pos := p63) ix_list (vs (pos := p61)) (pe_int (X := X) (i := 2) (j := j8) (pos := p62)) (by intro _ _; rfl)) rfl) (vr (pos := p65)) (nobehind _ (by decide) (by decide))
  have s2 := ps_ret (pos := p67) e5
  refine (pss_cons s0 (pss_cons s1 (pss_one s2))).weak fun D' σ H q => ?_
  obtain ⟨i, q0, hl, q⟩ := q
  refine fun a0 ha0 => fun a1 ha1 => ⟨_, q0, by show 1 ≤ 1000; decide, fun a2 ha2 => ?_⟩
  refine ⟨a2, .int i, rfl, upd_same, fun d hd hda => ⟨rfl, by show 3 ≤ sizeLine; decide, fun p hp => ?_⟩⟩
  have na2 : ∀ {b : Addr} {u : HO}, upd (upd H a0 (ExO (.ref C1) a0)) a1 (ExO (.ref C2) a1) b = some u → b ≠ a2 := fun {b u} e z => by
    rw [z, ha2] at e
    cases e
  have hd2 : upd (upd H a0 (ExO (.ref C1) a0)) a1 (ExO (.ref C2) a1) d = none := by
    rw [upd_ne hda] at hd
    exact hd
  have hs3 : Hs (upd (upd H a0 (ExO (.ref C1) a0)) a1 (ExO (.ref C2) a1)) (upd (upd (upd (upd (upd H a0 (ExO (.ref C1) a0)) a1 (ExO (.ref C2) a1)) a2 (exo a2 C3 none)) d (exd d [("row", .int i)])) a2 (exo a2 C3 (some d))) := fun b u e => by
    have h1 := na2 e
    have h2 : b ≠ d := fun z => by
      rw [z, hd2] at e
      cases e
    rw [upd_ne h1, upd_ne h2, upd_ne h1]
    exact e
  have t3 : Thr (upd (upd (upd (upd (upd (upd H a0 (ExO (.ref C1) a0)) a1 (ExO (.ref C2) a1)) a2 (exo a2 C3 none)) d (exd d [("row", .int i)])) a2 (exo a2 C3 (some d))) p (.lst [.ref a0, .ref a1, .ref a2])) p a0 a1 a2 d C1 C2 C3 (.int i) := by
    refine ⟨upd_same, Hs.new hp _ _ (hs3 _ _ (Hs.new ha1 _ _ upd_same)), Hs.new hp _ _ (hs3 _ _ upd_same), Hs.new hp _ _ upd_same, Hs.new hp _ _ ?_⟩
    rw [upd_ne hda, upd_same]
  have hH : Hs H (upd (upd (upd (upd (upd (upd H a0 (ExO (.ref C1) a0)) a1 (ExO (.ref C2) a1)) a2 (exo a2 C3 none)) d (exd d [("row", .int i)])) a2 (exo a2 C3 (some d))) p (.lst [.ref a0, .ref a1, .ref a2])) :=
    (((Hs.new ha0).trans (Hs.new ha1)).trans hs3).trans (Hs.new hp)
  generalize upd (upd (upd (upd (upd (upd H a0 (ExO (.ref C1) a0)) a1 (ExO (.ref C2) a1)) a2 (exo a2 C3 none)) d (exd d [("row", .int i)])) a2 (exo a2 C3 (some d))) p (.lst [.ref a0, .ref a1, .ref a2]) = H4 at t3 hH ⊢
  clear na2 hd2 hs3 hd hda hp ha0 ha1 ha2
  refine ⟨_, List.getElem?_set_self (by omega), p, [.ref a0, .ref a1, .ref a2], rfl, .inl (.inl t3.l), ?_⟩
  refine for_it (walk_enum (K := X.K) (a := p) (xs := [.ref a0, .ref a1, .ref a2])) (fun n τ Hn => τ.length = 5 ∧ τ[0]? = some (some (.int i)) ∧ τ[1]? = some (some (.ref p)) ∧ Hs H Hn ∧ Thr Hn p a0 a1 a2 d C1 C2 C3 (.int i)) ?_ ?_ ?_ ?_
  · exact ⟨by rw [List.length_set]; exact hl, by rw [List.getElem?_set_ne (by decide)]; exact q0, List.getElem?_set_self (by omega), hH, t3⟩
  · rintro n τ Hn _ ⟨_, _, _, _, t⟩
    exact .inl (.inl t.l)
  · rintro n x τ Hn H' hn ⟨l5, r0, r1, hs, t⟩ ⟨Ta, y, z, rfl, hT, rfl, hy, hz⟩
    refine ⟨Ta, [y, z], rfl, .inl (.inl upd_same), rfl, _, _, rfl, _, _, rfl, rfl, ?_⟩
    cases hy
    have t' := t.st (Hs.new (o := .tup [.int (n : Nat), z]) hT)
    have fin : ∀ H'' v, Hs (upd Hn Ta (.tup [.int (n : Nat), z])) H'' → (((τ.set 2 (some (V.int (n : Nat)))).set 3 (some z)).set 4 (some v)).length = 5 ∧ (((τ.set 2 (some (V.int (n : Nat)))).set 3 (some z)).set 4 (some v))[0]? = some (some (.int i)) ∧
        (((τ.set 2 (some (V.int (n : Nat)))).set 3 (some z)).set 4 (some v))[1]? = some (some (.ref p)) ∧ Hs H H'' ∧ Thr H'' p a0 a1 a2 d C1 C2 C3 (.int i) := fun H'' v h => by
      refine ⟨by rw [List.length_set, List.length_set, List.length_set]; exact l5, ?_, ?_, (hs.trans (Hs.new hT)).trans h, t'.st h⟩
      · rw [List.getElem?_set_ne (by decide), List.getElem?_set_ne (by decide), List.getElem?_set_ne (by decide)]; exact r0
      · rw [List.getElem?_set_ne (by decide), List.getElem?_set_ne (by decide), List.getElem?_set_ne (by decide)]; exact r1
    have g2 : ((τ.set 2 (some (V.int (n : Nat)))).set 3 (some z))[2]? = some (some (.int (n : Nat))) := by
      rw [List.getElem?_set_ne (by decide), List.getElem?_set_self (by omega)]
    have g3 : ((τ.set 2 (some (V.int (n : Nat)))).set 3 (some z))[3]? = some (some z) := by
      rw [List.getElem?_set_self (by rw [List.length_set]; omega)]
    have g4 : 4 < ((τ.set 2 (some (V.int (n : Nat)))).set 3 (some z)).length := by rw [List.length_set, List.length_set]; omega
    rcases n with _ | _ | _ | n
    · obtain rfl : z = .ref a0 := (Option.some.inj hz).symm
      exact ⟨a0, C1, _, g2, g3, .inl t'.h0, E1, k1.1, k1.2.1, k1.2.2.1, k1.2.2.2.1, k1.2.2.2.2, g4, fin⟩
    · obtain rfl : z = .ref a1 := (Option.some.inj hz).symm
      exact ⟨a1, C2, _, g2, g3, .inl t'.h1, E2, k2.1, k2.2.1, k2.2.2.1, k2.2.2.2.1, k2.2.2.2.2, g4, fin⟩
    · obtain rfl : z = .ref a2 := (Option.some.inj hz).symm
      exact ⟨a2, C3, _, g2, g3, .inr ⟨d, _, t'.h2, t'.hd⟩, E3, k3.1, k3.2.1, k3.2.2.1, k3.2.2.2.1, k3.2.2.2.2, g4, fin⟩
    · exact absurd hn (by show ¬ n + 3 < 3; omega)
  · rintro τ Hn ⟨l5, r0, r1, hs, t⟩
    refine ⟨_, r1, p, _, 2, .ref a2, rfl, rfl, .inl (.inl t.l), rfl, a2, C3, d, _, .int i, rfl, XC, hno, t.h2, t.hd, rfl, _, r0, rfl, ?_⟩
    rw [decide_eq_true rfl]
    exact q _ hs
end
section
variable {P : Program} {w : World} {K : PySem.W.Frag} {mg : Str → Option Value} {base : Heap} {k : Nat}
theorem refus_fn {x qual : Str} {st : Stmt} {f fI C1 C2 C3 cc4 : Addr} {fd fdI : FuncData} {xr xs xk xe xd n1 n2 n3 n4 n5 m1 m2 : Str}
    {p1 p2 p3 p4 p5 p6 p7 p8 p9 p10 p11 p12 p13 p14 p15 p16 p17 p18 p60 p61 p62 p63 p64 p65 p66 p67 p19 p20 p21 p22 p23 p24 p25 p26 p27 p28 p29 p30 p31 p32 p33 p34 p35 p36 p37 p38 p39 p40 p41 p42 p43 p44 p45 p46 p47 p48 p49 p50 p51 p52 p53 p54 p55 p56 p57 p58 p59 : Pos} {j1 j2 j3 j4 j5 j6 j7 j8 : Nat}
    (F : Fun K x qual st f fd) (sc : FnScope [xr, xs, xk, xe, xd] [xr] (defScope st))
    (hb : defBody st = [.Assign [.Name xs p1] (.List [.Call (.Name n1 p2) [.Constant (.str m1) j1 p3] [] p4, .Call (.Name n2 p5) [.Constant (.str m2) j2 p6] [] p7, .Call (.Name n3 p8) [.Name xr p9] [] p10] p11) p12,
      .For (.Tuple [.Name xk p13, .Name xe p14] j3 p15) (.Call (.Name "enumerate" p16) [.Name xs p17] [] p18)
        [.Assign [.Name xd p19] (.List [.Call (.Name "isinstance" p20) [.Name xe p21, .Name n1 p22] [] p23, .Call (.Name "isinstance" p24) [.Name xe p25, .Name n2 p26] [] p27, .Call (.Name "isinstance" p28) [.Name xe p29, .Name n3 p30] [] p31] p32) p33,
      .If (.BoolOp .Or [.Compare (.Name xd p34) [.NotEq] [.List [.Compare (.Name xk p35) [.Eq] [.Constant (.int 0) j4 p36] p37, .Compare (.Name xk p38) [.Eq] [.Constant (.int 1) j5 p39] p40, .Compare (.Name xk p41) [.Eq] [.Constant (.int 2) j6 p42] p43] p44] p45,
        .UnaryOp .Not (.Call (.Name "isinstance" p46) [.Name xe p47, .Name n4 p48] [] p49) p50, .UnaryOp .Not (.Call (.Name "isinstance" p51) [.Name xe p52, .Name n5 p53] [] p54) p55] p56) [.Return (some (.Constant (.bool false) j7 p57)) p58] [] p59] [] p60,
      .Return (some (.Compare (.Attribute (.Subscript (.Name xs p61) (.Constant (.int 2) j8 p62) p63) "row" p64) [.Eq] [.Name xr p65] p66)) p67])
    (loc : [xr, xs, xk, xe, xd].all (fun y => (defScope st).names.lookup y == some .local) = true) (ok : [xr, xs, xk, xe, xd, n1, n2, n3, n4, n5].all okName = true)
    (glo : [n1, n2, n3, n4, n5, "isinstance", "enumerate"].all (fun y => (defScope st).names.lookup y == some .globalImplicit) = true)
    (mi : mg "isinstance" = none) (me : mg "enumerate" = none)
    (M1 : MkC K mg n1 C1) (M2 : MkC K mg n2 C2) (T : OexC K C3) (m3 : mg n3 = some (.ref C3)) (iC : PySem.W.findIn K (.ref C3) "__init__" = some (some (.ref fI))) (tI : PySem.W.typeIn K (.ref fI) = some (.type "function"))
    (hI : FnOk P w K mg base CX0 k fI fdI ["self", "row"] (spRow K C3)) (bI : Binds K fdI ["self", "row"] []) (XC : XfC K C3) (hno : PySem.W.findIn K (.ref C3) "row" = some none)
    (m4 : mg n4 = some (.ref cc4)) (m5 : mg n5 = none) (b5 : bootBuiltins n5 = some (.type "ValueError"))
    (E1 : ExcC K C1) (E2 : ExcC K C2) (E3 : ExcC K C3)
    (k1 : K5 K C1 (.ref C1) (.ref C2) (.ref C3) (.ref cc4) (.type "ValueError") true false false) (k2 : K5 K C2 (.ref C1) (.ref C2) (.ref C3) (.ref cc4) (.type "ValueError") false true false) (k3 : K5 K C3 (.ref C1) (.ref C2) (.ref C3) (.ref cc4) (.type "ValueError") false false true) :
    FnG P w K mg base (k + 2) f fd [xr] (liftSp K 1 sRefus) := by
  obtain ⟨oc, od, kV, doc, pm, an, cdv, ct, osl, rfl, lk, hcd⟩ := F.ex
  obtain ⟨_, _, _, _, _, _, g1, _⟩ := M1.ex
  obtain ⟨_, _, _, _, _, _, g2, _⟩ := M2.ex
  rw [hb] at lk ⊢
  have lo : ∀ y ∈ [xr, xs, xk, xe, xd], (defScope st).names.lookup y = some .local := fun y hy => by
    have := List.all_eq_true.mp loc y hy
    simpa using this
  have gl : ∀ y ∈ [n1, n2, n3, n4, n5, "isinstance", "enumerate"], (defScope st).names.lookup y = some .globalImplicit := fun y hy => by
    have := List.all_eq_true.mp glo y hy
    simpa using this
  have nm : ∀ y ∈ [xr, xs, xk, xe, xd, n1, n2, n3, n4, n5], (y == ("__debug__" : Str)) = false ∧ (y == ("__classdict__" : Str)) = false ∧ y ≠ "__name__" := fun y hy => okName_of (List.all_eq_true.mp ok y hy)
  refine g_def lk hcd sc (fun vs H Q E h => h.1) fun A' outer s H vs Q E gd hr h => ?_
  obtain ⟨hl, args, L, R, ra, rh, ⟨i, rfl, hs⟩, kt⟩ := h
  obtain ⟨v, _, rfl, rv, ra⟩ := ra
  cases (show _ = _ from ra)
  obtain rfl : v = .int i := rv
  have cm : ∀ {y : Str} {C : Addr}, y ∈ [n1, n2, n3, n4] → mg y = some (.ref C) → Cm (cxOf CX0 P w K mg base [xr, xs, xk, xe, xd] qual (defScope st) f cdv A' outer s H E).nox y (.ref C) := fun {y C} hy m => by
    have h1 : y ∈ [n1, n2, n3, n4, n5, "isinstance", "enumerate"] := by
      simp only [List.mem_cons, List.not_mem_nil, or_false] at hy ⊢
      rcases hy with h | h | h | h <;> simp [h]
    have h2 : y ∈ [xr, xs, xk, xe, xd, n1, n2, n3, n4, n5] := by
      simp only [List.mem_cons, List.not_mem_nil, or_false] at hy ⊢
      rcases hy with h | h | h | h <;> simp [h]
    exact ⟨gl y h1, (nm y h2).1, (nm y h2).2.2, .ref C, .own _, .inl m⟩
  have c5 : Cm (cxOf CX0 P w K mg base [xr, xs, xk, xe, xd] qual (defScope st) f cdv A' outer s H E).nox n5 (.type "ValueError") := ⟨gl n5 (by simp), (nm n5 (by simp)).1, (nm n5 (by simp)).2.2, .ty _, .ty _, .inr ⟨m5, b5⟩⟩
  have main := refus_ok (X := (cxOf CX0 P w K mg base [xr, xs, xk, xe, xd] qual (defScope st) f cdv A' outer s H E).nox) (k := k) (m1 := m1) (m2 := m2) (p1 := p1) (p2 := p2) (p3 := p3) (p4 := p4) (p5 := p5) (p6 := p6) (p7 := p7) (p8 := p8) (p9 := p9) (p10 := p10) (p11 := p11) (p12 := p12) (p13 := p13) (p14 := p14) (p15 := p15) (p16 := p16) (p17 := p17) (p18 := p18) (p60 := p60) (p61 := p61) (p62 := p62) (p63 := p63) (p64 := p64) (p65 := p65) (p66 := p66) (p67 := p67)
    (p19 := p19) (p20 := p20) (p21 := p21) (p22 := p22) (p23 := p23) (p24 := p24) (p25 := p25) (p26 := p26) (p27 := p27) (p28 := p28) (p29 := p29) (p30 := p30) (p31 := p31) (p32 := p32) (p33 := p33) (p34 := p34) (p35 := p35) (p36 := p36) (p37 := p37) (p38 := p38) (p39 := p39) (p40 := p40) (p41 := p41) (p42 := p42) (p43 := p43) (p44 := p44) (p45 := p45) (p46 := p46) (p47 := p47) (p48 := p48) (p49 := p49) (p50 := p50) (p51 := p51) (p52 := p52) (p53 := p53) (p54 := p54) (p55 := p55) (p56 := p56) (p57 := p57) (p58 := p58) (p59 := p59) (j1 := j1) (j2 := j2) (j3 := j3) (j4 := j4) (j5 := j5) (j6 := j6) (j7 := j7) (j8 := j8)
    rfl PassesOwn.never hr rfl sc.nd lo (fun y hy => ⟨(nm y (by simp only [List.mem_cons, List.not_mem_nil, or_false] at hy ⊢; rcases hy with h | h | h | h | h <;> simp [h])).1, (nm y (by simp only [List.mem_cons, List.not_mem_nil, or_false] at hy ⊢; rcases hy with h | h | h | h | h <;> simp [h])).2.1⟩)
    (fun _ => .inl rfl) (gl "isinstance" (by simp)) mi (gl "enumerate" (by simp)) me (cm (by simp) g1) (cm (by simp) g2) (cm (by simp) m3) (cm (by simp) m4) c5 M1 M2 T m3 iC tI hI bI XC hno E1 E2 E3 k1 k2 k3
  refine ⟨_, main.nox, i, rfl, rfl, fun H' h' => ?_⟩
  exact kt _ L _ H' hs h'.fm rfl (h'.rep rh)
end
end Mp
namespace Mp
open PySem PySem.Spec PyProof.Rows L2
local macro_rules | `(tactic| walk_at "ev") => `(tactic| try simp only [oEq_ff, oNe_ff, oEq_vv, oNe_vv, e_gTv, vc_mk, vx0, vx1, if_true, if_false, decide_true, decide_false, Bool.not_true, Bool.not_false, Bool.false_eq_true, reduceCtorEq, e_gS, e_gT, e_gsL0, e_gsL1, e_gsN0, e_gsN1, e_r1, e_r1K, e_r2, e_r2K, e_any, e_lsT, e_zpT, e_enT, e_en, e_zp, e_z3, e_revt, e_tru, tru_bl, tru_int, tru_non, tru_tup, e_disp, e_prs0, e_prs1, List.zip_nil_left, e_rv, e_for, e_comp, e_mt, e_wipe0, e_wipe1, fr0, fr1, ix0, ix1, ix2, ix3, bIf_t, bIf_f, bIf_d, bIf_n, oEq_ii, oNe_ii, oEq_bb, oNe_bb, List.set_cons_zero, List.set_cons_succ, List.zip_cons_cons, List.zip_nil_right, List.foldl_cons, List.foldl_nil, e_add, e_addI, e_addt, e_addl, e_sub, e_mul, e_div, e_mod, e_pow, e_oI, e_neg, e_not, e_isn, e_isnn, e_isb, e_isnb, e_isN_non, e_isN_bl, e_isN_int, e_isN_tup, e_isN_ref, e_isN_fz, e_isN_fr, e_isN_str, e_lent, e_lenz, e_abs, e_int, e_intb, e_dvm, e_min, e_max, e_listt, e_listz, e_tupt, e_str, gv_0, gv_s, e_slt, e_slz, e_v0, e_v1, e_v2, e_v3, e_v4, e_v5, e_v6, e_v7, e_v8, e_v9, e_v10, e_v11, e_v12, e_v13, e_v14, e_v15, e_v16, e_v17, e_v18, e_v19, e_v20, e_v21, e_v22, e_v23, e_v24, e_v25, e_v26, e_v27, e_v28, e_v29, e_v30, e_v31, e_v32, e_v33, e_v34, e_v35, e_v36, e_v37, e_v38, e_v39, e_ar0, e_ar1, e_gN, e_par, e_c, e_bin, e_un, e_and, e_or, e_ife, e_chain, e_tup, e_lst, e_bi, e_call, e_sl, e_no, e_so, e_nil, e_seq, e_expr, e_ret, e_retn, e_asg, e_if, e_brk, e_cnt, sz_0, sz_1, sz_2, sz_3, sz_4, sz_5, sz_6, sz_7, sz_8, sz_9, sz_10, sz_11, sz_12, sz_13, sz_14, sz_15, sz_16, sz_17, sz_18, sz_19, true_and, isi_non_int, isi_non_bool, isi_non_str, isi_non_tuple, isi_non_list, isi_non_dict, isi_bl_int, isi_bl_bool, isi_bl_str, isi_bl_tuple, isi_bl_list, isi_bl_dict, isi_int_int, isi_int_bool, isi_int_str, isi_int_tuple, isi_int_list, isi_int_dict, isi_str_int, isi_str_bool, isi_str_str, isi_str_tuple, isi_str_list, isi_str_dict, isi_tup_int, isi_tup_bool, isi_tup_str, isi_tup_tuple, isi_tup_list, isi_tup_dict, isi_fz_int, isi_fz_bool, isi_fz_str, isi_fz_tuple, isi_fz_list, isi_fz_dict])
def sl_refusals_right : Spec := sRefus
/-! ### the law's own root -/
def sl_root_of : Spec := fun args L R => ∃ n b : Nat, args = [.int n] ∧ n < 2 ^ b ∧ b ≤ 6000000 ∧ (∀ r : Nat, r * r = n → R (.int r) L) ∧ ((∀ r : Nat, r * r ≠ n) → R .non L)
/-! _law_root_of(_law_number): 0 _law_number, 1 _law_root, 2 _law_figure -/
def l_root_of_3 : WS := sRet (wIfE (wBin oEq (wBin oMul (wVar 1) (wVar 1)) (wVar 0)) (wVar 1) (wC .non))
def l_root_of_2w_1 : WS := sAsg (gN 2) (wBin oDiv (wVar 2) (wC (.int 2)))
def l_root_of_2w_0a_0 : WS := sAsg (gN 1) (wBin oAdd (wVar 1) (wVar 2))
def l_root_of_2w_0 : WS := sSeq (sIf (wBin oLe (wBin oMul (wBin oAdd (wVar 1) (wVar 2)) (wBin oAdd (wVar 1) (wVar 2))) (wVar 0)) l_root_of_2w_0a_0 sNil) l_root_of_2w_1
def l_root_of_2 : WS := sSeq (sWhile (wBin oGt (wVar 2) (wC (.int 0))) l_root_of_2w_0) l_root_of_3
def l_root_of_1w_0 : WS := sAsg (gN 2) (wBin oMul (wVar 2) (wC (.int 2)))
def l_root_of_1 : WS := sSeq (sWhile (wBin oLe (wBin oMul (wVar 2) (wVar 2)) (wVar 0)) l_root_of_1w_0) l_root_of_2
def l_root_of_0 : WS := sSeq (sAsg (gT 2 (gsL [gN 1, gN 2])) (wTup [wC (.int 0), wC (.int 1)])) l_root_of_1
theorem two_le (b : Nat) : 2 ^ b * 2 = 2 ^ (b + 1) := (Nat.pow_succ 2 b).symm
theorem ok_l_root_of : ∀ args L R, args.length = 1 → sl_root_of args L R → l_root_of_0 (initE 3 args) L { nx := fun _ L' => R .non L', rt := R } := by
  rintro _ L R _ ⟨n, b, rfl, hb, hb', h, h'⟩
  unfold l_root_of_0
  show sSeq _ _ [some (.int n), none, none] L _
  walk_at "ev"
  refine ⟨rfl, ?_⟩
  unfold l_root_of_1
  walk_at "ev"
  refine ⟨fun m env L' => L' = L ∧ ∃ f : Nat, env = [some (.int n), some (.int 0), some (.int (2 ^ f : Nat))] ∧ 2 ^ f ≤ 2 ^ (b + 1) ∧ m = 2 ^ (b + 1) - 2 ^ f, ⟨2 ^ (b + 1) - 2 ^ 0, rfl, 0, rfl, Nat.pow_le_pow_right (by decide) (by omega), rfl⟩, ?_⟩
  rintro m env L' ⟨rfl, f, rfl, hf, rfl⟩
  walk_at "ev"
  have hfb : f ≤ b + 1 := (Nat.pow_le_pow_iff_right (by decide)).mp hf
  have hf2 : 2 ^ f < 2 ^ (b + 2) := Nat.pow_lt_pow_right (by decide) (by omega)
  refine ⟨mulN (c := b + 2) hf2 hf2 (by omega), ?_⟩
  rw [← Int.natCast_mul]
  split
  · rename_i hc
    have hc : 2 ^ f * 2 ^ f ≤ n := by exact_mod_cast hc
    unfold l_root_of_1w_0
    walk_at "ev"
    refine ⟨mulR (by decide), ?_⟩
    have h1 : 2 ^ f ≤ 2 ^ f * 2 ^ f := Nat.le_mul_self _
    have h2 : 2 ^ f < 2 ^ b := by omega
    have h3 : f < b := (Nat.pow_lt_pow_iff_right (by decide)).mp h2
    have e : ((2 ^ f : Nat) : Int) * 2 = ((2 ^ (f + 1) : Nat) : Int) := by rw [Nat.pow_succ, Int.natCast_mul]; rfl
    rw [e]
    have h4 : 2 ^ (f + 1) ≤ 2 ^ (b + 1) := Nat.pow_le_pow_right (by decide) (by omega)
    have h5 : 2 ^ (f + 1) = 2 ^ f * 2 := Nat.pow_succ 2 f
    have h6 : 0 < 2 ^ f := Nat.two_pow_pos f
    exact ⟨2 ^ (b + 1) - 2 ^ (f + 1), by omega, f + 1, rfl, h4, rfl⟩
  rename_i hc
  have hc : n < 2 ^ f * 2 ^ f := by
    have : ¬ (2 ^ f * 2 ^ f ≤ n) := fun z => hc (by exact_mod_cast z)
    omega
  unfold l_root_of_2
  walk_at "ev"
  refine ⟨fun m env L2 => L2 = L' ∧ ∃ r g : Nat, env = [some (.int n), some (.int r), some (.int g)] ∧ r * r ≤ n ∧ ((g = 0 ∧ n < (r + 1) * (r + 1)) ∨ ∃ j, j ≤ f ∧ g = 2 ^ j ∧ n < (r + 2 * 2 ^ j) * (r + 2 * 2 ^ j)) ∧ m = g,
    ⟨2 ^ f, rfl, 0, 2 ^ f, rfl, Nat.zero_le _, .inr ⟨f, Nat.le_refl _, rfl, Nat.lt_of_lt_of_le hc (Nat.mul_le_mul (by omega) (by omega))⟩, rfl⟩, ?_⟩
  rintro m env _ ⟨rfl, r, g, rfl, h1, h2, rfl⟩
  walk_at "ev"
  split
  · rename_i hg
    obtain ⟨j, hj, rfl, h5⟩ : ∃ j, j ≤ f ∧ m = 2 ^ j ∧ n < (r + 2 * 2 ^ j) * (r + 2 * 2 ^ j) := by
      rcases h2 with ⟨h2, _⟩ | h2
      · omega
      · exact h2
    unfold l_root_of_2w_0 l_root_of_2w_0a_0
    walk_at "ev"
    have hr : r < 2 ^ b := Nat.lt_of_le_of_lt (Nat.le_trans (Nat.le_mul_self r) h1) hb
    have hr' : r < 2 ^ (b + 2) := Nat.lt_trans hr (Nat.pow_lt_pow_right (by decide) (by omega))
    have hj' : 2 ^ j < 2 ^ (b + 2) := Nat.lt_of_le_of_lt (Nat.pow_le_pow_right (by decide) hj) hf2
    have e3 : 2 ^ (b + 3) = 2 ^ (b + 2) * 2 := Nat.pow_succ 2 (b + 2)
    rw [← Int.natCast_add]
    refine ⟨mulN (c := b + 3) (by omega) (by omega) (by omega), ?_⟩
    rw [← Int.natCast_mul]
    have nxt : ∀ r' : Nat, r' * r' ≤ n → n < (r' + 2 ^ j) * (r' + 2 ^ j) → ∃ m', m' < 2 ^ j ∧ ∃ r g : Nat, [some (PV.int n), some (.int r'), some (.int ((((2 ^ j : Nat)) : Int).fdiv 2))] = [some (.int n), some (.int r), some (.int g)] ∧ r * r ≤ n ∧ ((g = 0 ∧ n < (r + 1) * (r + 1)) ∨ ∃ j, j ≤ f ∧ g = 2 ^ j ∧ n < (r + 2 * 2 ^ j) * (r + 2 * 2 ^ j)) ∧ m' = g := by
      intro r' q1 q2
      rw [half_nat]
      refine ⟨2 ^ j / 2, Nat.div_lt_self (Nat.two_pow_pos j) (by decide), r', 2 ^ j / 2, rfl, q1, ?_, rfl⟩
      cases j with
      | zero => exact .inl ⟨rfl, q2⟩
      | succ j =>
        have e4 : 2 ^ (j + 1) = 2 ^ j * 2 := Nat.pow_succ 2 j
        refine .inr ⟨j, by omega, by omega, ?_⟩
        rw [show 2 * 2 ^ j = 2 ^ (j + 1) by omega]
        exact q2
    unfold l_root_of_2w_1
    split
    · rename_i hq
      have hq : (r + 2 ^ j) * (r + 2 ^ j) ≤ n := by exact_mod_cast hq
      walk_at "ev"
      refine ⟨by decide, noPl2, ?_⟩
      refine nxt (r + 2 ^ j) hq ?_
      rw [show r + 2 ^ j + 2 ^ j = r + 2 * 2 ^ j by omega]
      exact h5
    · rename_i hq
      have hq : n < (r + 2 ^ j) * (r + 2 ^ j) := Nat.lt_of_not_le fun z => hq (by exact_mod_cast z)
      walk_at "ev"
      refine ⟨by decide, noPl2, ?_⟩
      exact nxt r h1 hq
  · rename_i hg
    have hm : m = 0 := by omega
    subst hm
    have h3 : n < (r + 1) * (r + 1) := by
      rcases h2 with ⟨_, h2⟩ | ⟨j, _, h2, _⟩
      · exact h2
      · have := Nat.two_pow_pos j
        omega
    unfold l_root_of_3
    walk_at "ev"
    have hr : r < 2 ^ b := Nat.lt_of_le_of_lt (Nat.le_trans (Nat.le_mul_self r) h1) hb
    refine ⟨mulN hr hr (by omega), ?_⟩
    rw [← Int.natCast_mul]
    split
    · rename_i hq
      exact h r (by exact_mod_cast hq)
    · rename_i hq
      refine h' fun s hs => hq ?_
      have := sqrt_uniq h1 h3 hs
      rw [← this, hs]
def sl_length : Spec := fun args L R => ∃ v, args = [vc v] ∧ SzV 900 v ∧ ∀ x, RootIs (vdot v v) x → R x L
/-! _law_length(_law_vector): 0 _law_vector, 1 _law_square, 2 _law_top, 3 _law_bottom -/
def l_length_2 : WS := sRet (wIfE (wOr (wBin oIs (wVar 2) (wC .non)) (wBin oIs (wVar 3) (wC .non))) (wC .non) (wTup [wVar 2, wVar 3]))
def l_length_1 : WS := sSeq (sPar [2, 3] [wCall sl_root_of [wBin oIx (wVar 1) (wC (.int 0))], wCall sl_root_of [wBin oIx (wVar 1) (wC (.int 1))]]) l_length_2
def l_length_0 : WS := sSeq (sAsg (gN 1) (wCall sl_sum [wCall sl_product [wBin oIx (wVar 0) (wC (.int 0)), wBin oIx (wVar 0) (wC (.int 0))], wCall sl_product [wBin oIx (wVar 0) (wC (.int 1)), wBin oIx (wVar 0) (wC (.int 1))]])) l_length_1
theorem ok_l_length : ∀ args L R, args.length = 1 → sl_length args L R → l_length_0 (initE 4 args) L { nx := fun _ L' => R .non L', rt := R } := by
  rintro _ L R _ ⟨v, rfl, hv, h⟩
  unfold l_length_0
  show sSeq _ _ [some (vc v), none, none, none] L _
  walk_at "ev"
  refine ⟨v.1, v.1, rfl, hv.1.B (by decide), hv.1.B (by decide), ?_⟩
  walk_at "ev"
  refine ⟨v.2, v.2, rfl, hv.2.B (by decide), hv.2.B (by decide), v.1 * v.1, v.2 * v.2, rfl, (hv.1.mul hv.1).B (by decide), (hv.2.mul hv.2).B (by decide), ?_⟩
  have hs : Sz 4000 (v.1 * v.1 + v.2 * v.2) := (hv.dot hv).mono (by decide)
  have h0 : 0 ≤ v.1 * v.1 + v.2 * v.2 := dot_nn v
  have h : ∀ x, RootIs (v.1 * v.1 + v.2 * v.2) x → R x L := h
  generalize v.1 * v.1 + v.2 * v.2 = q at *
  have hn : 0 ≤ q.num := Rat.num_nonneg.mpr h0
  unfold l_length_1
  walk_at "ev"
  obtain ⟨n, hnn⟩ := Int.eq_ofNat_of_zero_le hn
  have fin : ∀ x, (∀ a : Nat, x = .int a → (a : Int) * a = q.num) → (x = .non → ∀ a : Nat, a * a ≠ n) → (x = .non ∨ ∃ a : Nat, x = .int a) → sl_root_of [.int q.den] L fun y La => l_length_2 [some (vc v), some (fr q), some x, some y] La { nx := fun _ L' => R .non L', rt := R } := by
    intro x k1 k2 k3
    unfold l_length_2
    refine ⟨q.den, 4000, rfl, hs.2, by decide, fun b hb => ?_, fun hb => ?_⟩
    · rcases k3 with rfl | ⟨a, rfl⟩
      · walk_at "ev"
        refine h _ (.inl ⟨rfl, fun r hr => k2 rfl r.num.natAbs ?_⟩)
        have h3 := (root_no hr).1
        have := natAbs_sq r.num
        rw [← h3, hnn] at this
        exact_mod_cast this
      · walk_at "ev"
        obtain ⟨r, hr, h0, h1⟩ := root_mk (k1 a rfl) hb
        rw [hr]
        exact h _ (.inr ⟨r, rfl, h0, h1⟩)
    · have no : ∀ r : Rat, r * r ≠ q := fun r hr => hb r.den (root_no hr).2.symm
      rcases k3 with rfl | ⟨a, rfl⟩
      · walk_at "ev"
        exact h _ (.inl ⟨rfl, no⟩)
      · walk_at "ev"
        exact h _ (.inl ⟨rfl, no⟩)
  refine ⟨n, 4000, by rw [hnn], by have := hs.1; rw [hnn] at this; exact this, by decide, fun a ha => ?_, fun hno => ?_⟩
  · walk_at "ev"
    refine fin (.int a) (fun a' e => ?_) (fun e => by cases e) (.inr ⟨a, rfl⟩)
    cases e
    rw [hnn, ← ha, Int.natCast_mul]
  · walk_at "ev"
    exact fin .non (fun a' e => by cases e) (fun _ => hno) (.inl rfl)
theorem Sm.root {L : Sto} {n : Nat} {q : Rat} {x : PV} (h : RootIs q x) : Sm L (n + 2) x x := by
  rcases h with ⟨rfl, _⟩ | ⟨r, rfl, _⟩
  · trivial
  · exact .fr rfl
def ab (q : Rat) : Rat := ⟨q.num.natAbs, q.den, q.den_nz, by rw [Int.natAbs_natCast]; exact q.reduced⟩
theorem ab_nn (q : Rat) : 0 ≤ ab q := by
  rw [← Rat.num_nonneg]
  exact Int.natCast_nonneg _
theorem ab_sq (q : Rat) : ab q * ab q = q * q := by
  have h := sq_num (ab q)
  have k := sq_num q
  refine Rat.ext ?_ ?_
  · rw [h.1, k.1]
    exact Int.natAbs_mul_self' _
  · rw [h.2, k.2]; rfl
/-- the other way about -/
theorem fr_turn {q : Rat} (h : 0 < q) : PV.tup [.int q.den, .int q.num] = fr (1 / q) := by
  have hn : 0 < q.num := by
    have h1 : 0 ≤ q.num := Rat.num_nonneg.mpr (Rat.le_of_lt h)
    have h2 : q.num ≠ 0 := fun z => by
      rw [Rat.num_eq_zero] at z
      grind
    omega
  have e : (q.num.natAbs : Int) = q.num := Int.natAbs_of_nonneg (by omega)
  have hc : (q.den : Int).natAbs.Coprime q.num.natAbs := by rw [Int.natAbs_natCast]; exact q.reduced.symm
  have key : (⟨q.den, q.num.natAbs, by omega, hc⟩ : Rat) = 1 / q := by
    have k1 := num_eq' (⟨q.den, q.num.natAbs, by omega, hc⟩ : Rat)
    have k2 := num_eq' q
    have k3 := den_ne q
    have k1 : ((q.den : Int) : Rat) = (⟨q.den, q.num.natAbs, by omega, hc⟩ : Rat) * ((q.num.natAbs : Int) : Rat) := k1
    rw [e, k2] at k1
    generalize (⟨q.den, q.num.natAbs, by omega, hc⟩ : Rat) = r at *
    grind
  rw [← key]
  unfold fr
  show _ = PV.tup [.int (q.den : Int), .int ((q.num.natAbs : Nat) : Int)]
  rw [e]
def sl_right : Spec := fun args L R => ∃ v, args = [vc v] ∧ SzV 60 v ∧ ∀ L', Le L L' → R (.bl true) L'
/-! _law_right(_law_vector): 0 _law_vector, 1 _law_due, 2 _law_found, 3 _law_share -/
def l_right_5 : WS := sRet (wCall sl_like [wLst [wCall s_dot [wVar 2, wVar 2], wCall s_scaled [wVar 2, wVar 1]], wLst [wTup [wC (.int 1), wC (.int 1)], wVar 0]])
def l_right_4a_0 : WS := sRet (wC (.bl false))
def l_right_4 : WS := sSeq (sIf (wUn oNot (wCall sl_like [wVar 2, wTup [wCall sl_product [wBin oIx (wVar 0) (wC (.int 0)), wVar 3], wCall sl_product [wBin oIx (wVar 0) (wC (.int 1)), wVar 3]]])) l_right_4a_0 sNil) l_right_5
def l_right_3 : WS := sSeq (sAsg (gN 3) (wTup [wBin oIx (wVar 1) (wC (.int 1)), wBin oIx (wVar 1) (wC (.int 0))])) l_right_4
def l_right_2a_0 : WS := sRet (wBin oIs (wVar 2) (wC .non))
def l_right_2 : WS := sSeq (sIf (wOr (wBin oIs (wVar 1) (wC .non)) (wBin oEq (wVar 1) (wTup [wC (.int 0), wC (.int 1)]))) l_right_2a_0 sNil) l_right_3
def l_right_1a_0 : WS := sRet (wC (.bl false))
def l_right_1 : WS := sSeq (sIf (wUn oNot (wCall sl_like [wCall s_length_of [wVar 0], wVar 1])) l_right_1a_0 sNil) l_right_2
def l_right_0 : WS := sSeq (sPar [1, 2] [wCall sl_length [wVar 0], wCall s_unit_of [wVar 0]]) l_right_1
theorem ok_l_right : ∀ args L R, args.length = 1 → sl_right args L R → l_right_0 (initE 4 args) L { nx := fun _ L' => R .non L', rt := R } := by
  rintro _ L R _ ⟨v, rfl, hv, h⟩
  unfold l_right_0
  show sSeq _ _ [some (vc v), none, none, none] L _
  walk_at "ev"
  refine ⟨v, rfl, hv.mono (by decide), fun x hx => ?_⟩
  refine ⟨v, rfl, hv.mono (by decide), fun hl => ?_, fun hn => ?_⟩
  · unfold l_right_1 l_right_1a_0
    walk_at "ev"
    refine ⟨v, rfl, hv.mono (by decide), fun y hy => ?_⟩
    have e := hx.uniq hy
    subst e
    refine ⟨_, _, rfl, .root hx, fun L1 l1 => ?_⟩
    walk_at "ev"
    unfold l_right_2 l_right_2a_0
    obtain rfl : x = fr (len v) := by
      rcases root_cases hx with ⟨_, hn⟩ | ⟨_, hn⟩ | ⟨h, _⟩
      · exact absurd hl hn
      · exact absurd hl hn
      · exact h
    obtain ⟨p1, p2⟩ := len_spec hl
    obtain ⟨s1, s2⟩ := len_sz hl hv
    walk_at "ev"
    rw [fr_zero]
    walk_at "ev"
    rw [if_neg (by grind)]
    unfold l_right_3
    walk_at "ev"
    rw [fr_turn p1]
    have e1 : v.1 * (1 / len v) = (uv v).1 := by unfold uv; grind
    have e2 : v.2 * (1 / len v) = (uv v).2 := by unfold uv; grind
    have s3 : Sz 121 (1 / len v) := by
      have q := fr_turn p1
      have q1 : (1 / len v).num = (len v).den := by
        unfold fr at q
        have := PV.tup.inj q
        injection this with this _
        exact (PV.int.inj this).symm
      have q2 : ((1 / len v).den : Int) = (len v).num := by
        unfold fr at q
        have := PV.tup.inj q
        injection this with _ this
        injection this with this _
        exact (PV.int.inj this).symm
      have h1 := s1.1
      have h2 := s1.2
      refine ⟨by rw [q1, Int.natAbs_natCast]; exact h2, ?_⟩
      have : (1 / len v).den = (len v).num.natAbs := by omega
      rw [this]
      exact h1
    unfold l_right_4 l_right_4a_0
    walk_at "ev"
    refine ⟨_, _, rfl, hv.1.B (by decide), s3.B (by decide), ?_⟩
    walk_at "ev"
    refine ⟨_, _, rfl, hv.2.B (by decide), s3.B (by decide), ?_⟩
    rw [e1, e2]
    walk_at "ev"
    refine ⟨_, _, rfl, Sm.vc rfl, fun L2 l2 => ?_⟩
    walk_at "ev"
    unfold l_right_5
    walk_at "ev"
    refine ⟨_, _, rfl, s2.mono (by decide), s2.mono (by decide), ?_⟩
    refine ⟨_, _, rfl, s2.mono (by decide), s1.mono (by decide), ?_⟩
    walk_at "ev"
    rw [fr_one]
    have d1 : vdot (uv v) (uv v) = 1 := uv_un hl
    have d2 : vscl (uv v) (len v) = v := by
      have k : len v ≠ 0 := by grind
      unfold vscl uv
      exact Prod.ext (by show v.1 / len v * len v = v.1; grind) (by show v.2 / len v * len v = v.2; grind)
    rw [d1, d2]
    intro p hp
    have e3 := put_same (L := L2) (a := p) (o := .l [fr 1, vc v])
    have l3 := Le.new (o := .l [fr 1, vc v]) hp
    generalize put L2 p _ = L3 at *
    intro p4 hp4
    have e4 := Le.new (o := .l [fr 1, vc v]) hp4 _ _ e3
    refine ⟨_, _, rfl, ⟨_, _, e4, put_same, by show 2 ≤ 1000000; decide, Sm.fr rfl, Sm.vc rfl, trivial⟩, fun L5 l5 => ?_⟩
    exact h _ ((((l1.trans l2).trans l3).trans (Le.new hp4)).trans l5)
  · unfold l_right_1 l_right_1a_0
    walk_at "ev"
    refine ⟨v, rfl, hv.mono (by decide), fun y hy => ?_⟩
    have e := hx.uniq hy
    subst e
    refine ⟨_, _, rfl, .root hx, fun L1 l1 => ?_⟩
    walk_at "ev"
    unfold l_right_2 l_right_2a_0
    rcases root_cases hx with ⟨rfl, _⟩ | ⟨rfl, _⟩ | ⟨_, hl⟩
    · walk_at "ev"
      exact h _ l1
    · walk_at "ev"
      rw [fr_zero]
      walk_at "ev"
      exact h _ l1
    · exact absurd hl hn
def sl_law : Spec := fun args L R => ∃ ns : List Int, args = [.fz ns] ∧ ∀ L', R (.bl true) L'
/-! law(_law_script): 0 _law_script, 1 _law_cells, 2 _law_k, 3 _law_box, 4 _law_unit, 5 _law_by, 6 _law_more, 7 _law_vector, 8 _law_bent, 9 _law_some, 10 _law_one -/
def l_law_2 : WS := sRet (wC (.bl true))
def l_law_1f_7a_0 : WS := sRet (wC (.bl false))
def l_law_1f_7 : WS := sIf (wUn oNot (wCall sl_refusals_right [wCall sl_take [wVar 3, wC (.int 60)]])) l_law_1f_7a_0 sNil
def l_law_1f_6a_0 : WS := sRet (wC (.bl false))
def l_law_1f_6 : WS := sSeq (sIf (wAnd (wBin oNe (wBin oIx (wVar 5) (wC (.int 0))) (wC (.int 0))) (wBin oNe (wCall s_unit_of [wCall s_scaled [wVar 7, wTup [wBi gAbs [wBin oIx (wVar 5) (wC (.int 0))], wBin oIx (wVar 5) (wC (.int 1))]]]) (wCall s_unit_of [wVar 7]))) l_law_1f_6a_0 sNil) l_law_1f_7
def l_law_1f_5a_0 : WS := sRet (wC (.bl false))
def l_law_1f_5 : WS := sSeq (sIf (wUn oNot (wBi gAll [wComp [10] (iAny (wBin oAdd (wVar 9) (wVar 9))) (gN 10) (wC (.bl true)) (wCall sl_right [wVar 10])])) l_law_1f_5a_0 sNil) l_law_1f_6
def l_law_1f_4 : WS := sSeq (sAsg (gN 9) (wLst [wVar 4, wVar 7, wVar 8, wTup [wBin oIx (wVar 7) (wC (.int 1)), wBin oIx (wVar 8) (wC (.int 0))], wTup [wVar 5, wVar 6], wTup [wVar 5, wTup [wC (.int 0), wC (.int 1)]], wTup [wTup [wC (.int 0), wC (.int 1)], wVar 6], wTup [wTup [wC (.int 0), wC (.int 1)], wTup [wC (.int 0), wC (.int 1)]]])) l_law_1f_5
def l_law_1f_3 : WS := sSeq (sAsg (gN 8) (wTup [wCall sl_sum [wBin oIx (wVar 7) (wC (.int 0)), wTup [wC (.int 1), wBin oAdd (wC (.int 1)) (wCall sl_take [wVar 3, wC (.int 65)])]], wBin oIx (wVar 7) (wC (.int 1))])) l_law_1f_4
def l_law_1f_2 : WS := sSeq (sAsg (gN 7) (wTup [wCall sl_product [wBin oIx (wVar 4) (wC (.int 0)), wVar 5], wCall sl_product [wBin oIx (wVar 4) (wC (.int 1)), wVar 5]])) l_law_1f_3
def l_law_1f_1 : WS := sSeq (sPar [4, 5, 6] [wCall sl_unit_by [wVar 3], wCall sl_fraction_by [wVar 3], wCall sl_fraction_by [wVar 3]]) l_law_1f_2
def l_law_1f_0 : WS := sSeq (sAsg (gN 3) (wCall sl_box_of [wVar 1, wVar 2])) l_law_1f_1
def l_law_1 : WS := sSeq (sFor (iR1 (wBi gLen [wVar 1])) (gN 2) l_law_1f_0) l_law_2
def l_law_0 : WS := sSeq (sAsg (gN 1) (wCall sl_folded [wVar 0, wC (.int 6)])) l_law_1
theorem len_by {u : Vc} {k : Rat} (hu : Un u) (hk : k ≠ 0) : HasLen (u.1 * k, u.2 * k) ∧ uv (vscl (u.1 * k, u.2 * k) (ab k)) = uv (u.1 * k, u.2 * k) ∧ HasLen (vscl (u.1 * k, u.2 * k) (ab k)) := by
  have a0 : 0 < ab k := by
    have h1 := ab_nn k
    have h2 := ab_sq k
    have h3 : k * k ≠ 0 := fun z => hk (by rcases Rat.mul_eq_zero.mp z with q | q <;> exact q)
    have h4 : ab k ≠ 0 := fun z => h3 (by rw [← h2, z]; grind)
    grind
  have hu : u.1 * u.1 + u.2 * u.2 = 1 := hu
  have q1 : ab k * ab k = vdot (u.1 * k, u.2 * k) (u.1 * k, u.2 * k) := by
    rw [ab_sq]
    show k * k = u.1 * k * (u.1 * k) + u.2 * k * (u.2 * k)
    grind
  have q2 : (ab k * ab k) * (ab k * ab k) = vdot (vscl (u.1 * k, u.2 * k) (ab k)) (vscl (u.1 * k, u.2 * k) (ab k)) := by
    have h2 := ab_sq k
    show _ = u.1 * k * ab k * (u.1 * k * ab k) + u.2 * k * ab k * (u.2 * k * ab k)
    grind
  obtain ⟨l1, l2⟩ := len_of a0 q1
  obtain ⟨l3, l4⟩ := len_of (Rat.mul_pos a0 a0) q2
  refine ⟨l1, ?_, l3⟩
  have hne : ab k ≠ 0 := by grind
  unfold uv
  rw [l2, l4]
  exact Prod.ext (by show u.1 * k * ab k / (ab k * ab k) = u.1 * k / ab k; grind) (by show u.2 * k * ab k / (ab k * ab k) = u.2 * k / ab k; grind)
theorem Sz.ab {k : Rat} {b : Nat} (h : Sz b k) : Sz b (ab k) := ⟨by show ((k.num.natAbs : Int)).natAbs < _; rw [Int.natAbs_natCast]; exact h.1, h.2⟩
theorem ok_l_law : ∀ args L R, args.length = 1 → sl_law args L R → l_law_0 (initE 11 args) L { nx := fun _ L' => R .non L', rt := R } := by
  rintro _ L R _ ⟨ns, rfl, h⟩
  unfold l_law_0
  show sSeq _ _ [some (.fz ns), none, none, none, none, none, none, none, none, none, none] L _
  walk_at "ev"
  refine ⟨ns, 6, rfl, by decide, by decide, fun c L1 ms hc l1 e1 m2 mk => ?_⟩
  walk_at "ev"
  unfold l_law_1
  walk_at "ev"
  rw [e_lenl e1, e_r1K, List.length_map]
  refine ⟨⟨by omega, by omega⟩, ?_⟩
  refine loop_i (fun i e l => l c = some (.l (ms.map PV.int)) ∧ ∃ z2 z3 z4 z5 z6 z7 z8 z9 z10, e = [some (.fz ns), some (.ref c), z2, z3, z4, z5, z6, z7, z8, z9, z10]) ⟨e1, _, _, _, _, _, _, _, _, _, rfl⟩ (fun _ _ _ _ => trivial) ?_ ?_
  · rintro i t e l K hx ⟨e1, z2, z3, z4, z5, z6, z7, z8, z9, z10, rfl⟩ hK
    obtain ⟨rfl, hi⟩ := rgL_get hx
    walk_at "ev"
    unfold l_law_1f_0
    walk_at "ev"
    refine ⟨c, ms, _, rfl, e1, by omega, by omega, fun b L2 hb l2 b2 => ?_⟩
    have e2 := l2 _ _ e1
    have hcb : c ≠ b := ne_adr hb e1
    unfold l_law_1f_1
    walk_at "ev"
    refine ⟨b, 0, rfl, b2, by decide, fun u L3 hu su b3 lb3 => ?_⟩
    have e3 := lb3 _ _ hcb e2
    refine ⟨b, _, rfl, b3, by decide, fun k L4 sk b4 lb4 => ?_⟩
    have e4 := lb4 _ _ hcb e3
    refine ⟨b, _, rfl, b4, by decide, fun m L5 sm b5 lb5 => ?_⟩
    have e5 := lb5 _ _ hcb e4
    unfold l_law_1f_2
    walk_at "ev"
    refine ⟨u.1, k, rfl, su.1.B (by decide), sk.B (by decide), ?_⟩
    walk_at "ev"
    refine ⟨u.2, k, rfl, su.2.B (by decide), sk.B (by decide), ?_⟩
    have sv : SzV 24 (u.1 * k, u.2 * k) := ⟨su.1.mul sk, su.2.mul sk⟩
    walk_at "ev"
    unfold l_law_1f_3
    walk_at "ev"
    refine ⟨b, 65, _, rfl, b5, by decide, by decide, denS (by decide), fun r L6 r0 r1 b6 lb6 => ?_⟩
    have e6 := lb6 _ _ hcb e5
    walk_at "ev"
    obtain ⟨q, hq, q1, q2⟩ := fr_unit (s := 1) (d := 1 + r) (.inl rfl) (by omega)
    have sq : Sz 7 q := ⟨by rw [q1]; decide, by show q.den < 128; omega⟩
    rw [hq]
    refine ⟨_, q, rfl, sv.1.B (by decide), sq.B (by decide), ?_⟩
    have sb : SzV 40 (u.1 * k + q, u.2 * k) := ⟨(sv.1.add sq).mono (by decide), sv.2.mono (by decide)⟩
    obtain ⟨w1, w2, w3⟩ : (k ≠ 0 → HasLen (u.1 * k, u.2 * k)) ∧ (k ≠ 0 → uv (vscl (u.1 * k, u.2 * k) (ab k)) = uv (u.1 * k, u.2 * k)) ∧ (k ≠ 0 → HasLen (vscl (u.1 * k, u.2 * k) (ab k))) := ⟨fun z => (len_by hu z).1, fun z => (len_by hu z).2.1, fun z => (len_by hu z).2.2⟩
    walk_at "ev"
    generalize hb' : ((u.1 * k + q, u.2 * k) : Vc) = bt at *
    generalize hv' : ((u.1 * k, u.2 * k) : Vc) = v at *
    unfold l_law_1f_4
    walk_at "ev"
    rw [fr_zero]
    intro p hp
    have e7 := put_same (L := L6) (a := p) (o := .l ([u, v, bt, (v.2, bt.1), (k, m), (k, 0), (0, m), (0, 0)].map vc))
    have f7 := Le.new (o := .l ([u, v, bt, (v.2, bt.1), (k, m), (k, 0), (0, m), (0, 0)].map vc)) hp _ _ e6
    have b7 := b6.new (o := .l ([u, v, bt, (v.2, bt.1), (k, m), (k, 0), (0, m), (0, 0)].map vc)) hp
    show l_law_1f_5 _ (put L6 p (.l ([u, v, bt, (v.2, bt.1), (k, m), (k, 0), (0, m), (0, 0)].map vc))) _
    have z60 : Sz 60 (0 : Rat) := sz0 (by decide)
    have hal : ∀ x ∈ [u, v, bt, (v.2, bt.1), (k, m), (k, 0), (0, m), (0, 0)], SzV 60 x := fun x hx => by
      have k60 := sk.mono (b := 60) (by decide)
      have m60 := sm.mono (b := 60) (by decide)
      have v60 := sv.mono (b := 60) (by decide)
      have b60 := sb.mono (b := 60) (by decide)
      simp only [List.mem_cons, List.not_mem_nil, or_false] at hx
      rcases hx with rfl | rfl | rfl | rfl | rfl | rfl | rfl | rfl
      · exact su.mono (by decide)
      · exact v60
      · exact b60
      · exact ⟨v60.2, b60.1⟩
      · exact ⟨k60, m60⟩
      · exact ⟨k60, z60⟩
      · exact ⟨z60, m60⟩
      · exact ⟨z60, z60⟩
    have n8 : [u, v, bt, (v.2, bt.1), (k, m), (k, 0), (0, m), (0, 0)].length = 8 := rfl
    generalize [u, v, bt, (v.2, bt.1), (k, m), (k, 0), (0, m), (0, 0)] = xs at *
    generalize put L6 p _ = L7 at *
    unfold l_law_1f_5 l_law_1f_5a_0
    walk_at "ev"
    refine e_cat e7 e7 ⟨by rw [List.length_map, n8]; show 16 ≤ 16777216; decide, fun p8 hp8 => ?_⟩
    rw [← List.map_append]
    have e8 := put_same (L := L7) (a := p8) (o := .l ((xs ++ xs).map vc))
    have f8 := Le.new (o := .l ((xs ++ xs).map vc)) hp8 _ _ f7
    have b8 := b7.new (o := .l ((xs ++ xs).map vc)) hp8
    generalize put L7 p8 _ = L8 at *
    walk_at "ev"
    rw [e_lsK e8]
    refine comp_map (g := fun _ => .bl true) (fun l hl => hl _ _ e8) (by rw [List.length_append, n8]; decide) ?_ ?_
    · intro x hx l R' hl hR'
      walk_at "ev"
      exact ⟨x, rfl, hal x (by simpa using hx), fun L' h' => hR' L' (hl.trans h')⟩
    intro L9 l9 p9 hp9
    rw [List.map_const']
    refine all_true ?_
    have l10 := l9.trans (Le.new (o := .l (List.replicate (xs ++ xs).length (.bl true))) hp9)
    generalize put L9 p9 _ = L10 at *
    have f10 := l10 _ _ f8
    have b10 := b8.le l10
    walk_at "ev"
    unfold l_law_1f_6 l_law_1f_6a_0
    have last : l_law_1f_7 [some (.fz ns), some (.ref c), some (.int (0 + (i : Nat))), some (.ref b), some (vc u), some (fr k), some (fr m), some (vc v), some (vc bt), some (.ref p), z10] L10 { nx := K, rt := R, bk := fun e l => l_law_2 e l { nx := fun _ L' => R .non L', rt := R }, ct := K } := by
      unfold l_law_1f_7 l_law_1f_7a_0
      walk_at "ev"
      refine ⟨b, 60, _, rfl, b10, by decide, by decide, denS (by decide), fun y L11 y0 y1 b11 lb11 => ?_⟩
      refine ⟨y, rfl, ?_⟩
      walk_at "ev"
      exact hK _ _ ⟨lb11 _ _ hcb f10, _, _, _, _, _, _, _, _, _, rfl⟩
    walk_at "ev"
    split
    · exact last
    rename_i hk0
    have hk : k ≠ 0 := fun z => hk0 (by rw [z]; rfl)
    rw [show PV.tup [.int k.num.natAbs, .int k.den] = fr (ab k) from rfl]
    refine ⟨v, ab k, rfl, sv.mono (by decide), sk.ab.mono (by decide), ?_⟩
    refine ⟨vscl v (ab k), rfl, (sv.scl sk.ab).mono (by decide), fun _ => ?_, fun hn => absurd (w3 hk) hn⟩
    refine ⟨v, rfl, sv.mono (by decide), fun _ => ?_, fun hn => absurd (w1 hk) hn⟩
    rw [w2 hk]
    walk_at "ev"
    exact last
  · rintro e l ⟨e1, z2, z3, z4, z5, z6, z7, z8, z9, z10, rfl⟩
    unfold l_law_2
    walk_at "ev"
    exact h _
end Mp
namespace Mp
open PySem PySem.Spec PyProof.Rows L2
/-! ### the text -/
def ztp (i : Nat) : Stmt := PySem.Challenge.pw_sidecut_k05_lengths_and_units.main.body.getD i (.Pass ⟨0, 0, 0, 0⟩)
def nn : List Str := ["abs", "int", "len", "divmod", "enumerate", "list", "range", "all", "bool", "isinstance", "str", "tuple", "zip", "ValueError"]
abbrev zst_divisor_of : Stmt := ztp 2
theorem zsc_divisor_of : FnScope ["one", "other"] ["one", "other"] (defScope zst_divisor_of) := ⟨rfl, rfl, rfl, by decide +kernel, rfl, by decide +kernel, by decide +kernel⟩
def ztb_divisor_of : Tab := ⟨[], [], nn⟩
theorem zcs_divisor_of : cSs ztb_divisor_of 60 ⟨["one", "other"], defScope zst_divisor_of, fun _ => true⟩ (defBody zst_divisor_of) = some d_divisor_of_0 := by rfl
abbrev zst_fraction : Stmt := ztp 3
theorem zsc_fraction : FnScope ["n", "d", "divisor"] ["n", "d"] (defScope zst_fraction) := ⟨rfl, rfl, rfl, by decide +kernel, rfl, by decide +kernel, by decide +kernel⟩
def ztb_fraction : Tab := ⟨[("divisor_of", 2, s_divisor_of)], [], nn⟩
theorem zcs_fraction : cSs ztb_fraction 60 ⟨["n", "d", "divisor"], defScope zst_fraction, fun _ => true⟩ (defBody zst_fraction) = some d_fraction_0 := by rfl
abbrev zst_added : Stmt := ztp 4
theorem zsc_added : FnScope ["one", "other"] ["one", "other"] (defScope zst_added) := ⟨rfl, rfl, rfl, by decide +kernel, rfl, by decide +kernel, by decide +kernel⟩
def ztb_added : Tab := ⟨[("fraction", 2, s_fraction)], [], nn⟩
theorem zcs_added : cSs ztb_added 60 ⟨["one", "other"], defScope zst_added, fun _ => true⟩ (defBody zst_added) = some d_added_0 := by rfl
abbrev zst_times : Stmt := ztp 5
theorem zsc_times : FnScope ["one", "other"] ["one", "other"] (defScope zst_times) := ⟨rfl, rfl, rfl, by decide +kernel, rfl, by decide +kernel, by decide +kernel⟩
def ztb_times : Tab := ⟨[("fraction", 2, s_fraction)], [], nn⟩
theorem zcs_times : cSs ztb_times 60 ⟨["one", "other"], defScope zst_times, fun _ => true⟩ (defBody zst_times) = some d_times_0 := by rfl
abbrev zst_over : Stmt := ztp 6
theorem zsc_over : FnScope ["one", "other"] ["one", "other"] (defScope zst_over) := ⟨rfl, rfl, rfl, by decide +kernel, rfl, by decide +kernel, by decide +kernel⟩
def ztb_over : Tab := ⟨[("fraction", 2, s_fraction)], [], nn⟩
theorem zcs_over : cSs ztb_over 60 ⟨["one", "other"], defScope zst_over, fun _ => true⟩ (defBody zst_over) = some d_over_0 := by rfl
abbrev zst_whole_root : Stmt := ztp 7
theorem zsc_whole_root : FnScope ["number", "low", "high", "middle"] ["number"] (defScope zst_whole_root) := ⟨rfl, rfl, rfl, by decide +kernel, rfl, by decide +kernel, by decide +kernel⟩
def ztb_whole_root : Tab := ⟨[], [], nn⟩
theorem zcs_whole_root : cSs ztb_whole_root 60 ⟨["number", "low", "high", "middle"], defScope zst_whole_root, fun _ => true⟩ (defBody zst_whole_root) = some d_whole_root_0 := by rfl
abbrev zst_root_of : Stmt := ztp 8
theorem zsc_root_of : FnScope ["one", "top", "bottom"] ["one"] (defScope zst_root_of) := ⟨rfl, rfl, rfl, by decide +kernel, rfl, by decide +kernel, by decide +kernel⟩
def ztb_root_of : Tab := ⟨[("whole_root", 1, s_whole_root)], [], nn⟩
theorem zcs_root_of : cSs ztb_root_of 60 ⟨["one", "top", "bottom"], defScope zst_root_of, fun _ => true⟩ (defBody zst_root_of) = some d_root_of_0 := by rfl
abbrev zst_scaled : Stmt := ztp 10
theorem zsc_scaled : FnScope ["vector", "by"] ["vector", "by"] (defScope zst_scaled) := ⟨rfl, rfl, rfl, by decide +kernel, rfl, by decide +kernel, by decide +kernel⟩
def ztb_scaled : Tab := ⟨[("times", 2, s_times)], [], nn⟩
theorem zcs_scaled : cSs ztb_scaled 60 ⟨["vector", "by"], defScope zst_scaled, fun _ => true⟩ (defBody zst_scaled) = some d_scaled_0 := by rfl
abbrev zst_dot : Stmt := ztp 11
theorem zsc_dot : FnScope ["one", "other"] ["one", "other"] (defScope zst_dot) := ⟨rfl, rfl, rfl, by decide +kernel, rfl, by decide +kernel, by decide +kernel⟩
def ztb_dot : Tab := ⟨[("added", 2, s_added), ("times", 2, s_times)], [], nn⟩
theorem zcs_dot : cSs ztb_dot 60 ⟨["one", "other"], defScope zst_dot, fun _ => true⟩ (defBody zst_dot) = some d_dot_0 := by rfl
abbrev zst_length_of : Stmt := ztp 12
theorem zsc_length_of : FnScope ["vector"] ["vector"] (defScope zst_length_of) := ⟨rfl, rfl, rfl, by decide +kernel, rfl, by decide +kernel, by decide +kernel⟩
def ztb_length_of : Tab := ⟨[("root_of", 1, s_root_of), ("dot", 2, s_dot)], [], nn⟩
theorem zcs_length_of : cSs ztb_length_of 60 ⟨["vector"], defScope zst_length_of, fun _ => true⟩ (defBody zst_length_of) = some d_length_of_0 := by rfl
abbrev zst_unit_of : Stmt := ztp 13
theorem zsc_unit_of : FnScope ["vector", "length"] ["vector"] (defScope zst_unit_of) := ⟨rfl, rfl, rfl, by decide +kernel, rfl, by decide +kernel, by decide +kernel⟩
def ztb_unit_of : Tab := ⟨[("over", 2, s_over), ("length_of", 1, s_length_of)], [("NOUGHT", .tup [.int 0, .int 1])], nn⟩
theorem zcs_unit_of : cSs ztb_unit_of 60 ⟨["vector", "length"], defScope zst_unit_of, fun _ => true⟩ (defBody zst_unit_of) = some d_unit_of_0 := by rfl
abbrev zst_law_box_of : Stmt := ztp 20
theorem zsc_law_box_of : FnScope ["_law_script", "_law_k", "_law_cell"] ["_law_script", "_law_k"] (defScope zst_law_box_of) := ⟨rfl, rfl, rfl, by decide +kernel, rfl, by decide +kernel, by decide +kernel⟩
def ztb_law_box_of : Tab := ⟨[], [], nn⟩
theorem zcs_law_box_of : cSs ztb_law_box_of 60 ⟨["_law_script", "_law_k", "_law_cell"], defScope zst_law_box_of, fun _ => true⟩ (defBody zst_law_box_of) = some l_box_of_0 := by rfl
abbrev zst_law_take : Stmt := ztp 21
theorem zsc_law_take : FnScope ["_law_box", "_law_many", "_law_found", "_law_once"] ["_law_box", "_law_many"] (defScope zst_law_take) := ⟨rfl, rfl, rfl, by decide +kernel, rfl, by decide +kernel, by decide +kernel⟩
def ztb_law_take : Tab := ⟨[], [], nn⟩
theorem zcs_law_take : cSs ztb_law_take 60 ⟨["_law_box", "_law_many", "_law_found", "_law_once"], defScope zst_law_take, fun _ => true⟩ (defBody zst_law_take) = some l_take_0 := by rfl
abbrev zst_law_folded : Stmt := ztp 22
theorem zsc_law_folded : FnScope ["_law_script", "_law_many", "_law_cells", "_law_k", "_law_cell"] ["_law_script", "_law_many"] (defScope zst_law_folded) := ⟨rfl, rfl, rfl, by decide +kernel, rfl, by decide +kernel, by decide +kernel⟩
def ztb_law_folded : Tab := ⟨[], [], nn⟩
theorem zcs_law_folded : cSs ztb_law_folded 60 ⟨["_law_script", "_law_many", "_law_cells", "_law_k", "_law_cell"], defScope zst_law_folded, fun _ => true⟩ (defBody zst_law_folded) = some l_folded_0 := by rfl
abbrev zst_law_lowest : Stmt := ztp 23
theorem zsc_law_lowest : FnScope ["_law_n", "_law_d", "_law_one", "_law_other"] ["_law_n", "_law_d"] (defScope zst_law_lowest) := ⟨rfl, rfl, rfl, by decide +kernel, rfl, by decide +kernel, by decide +kernel⟩
def ztb_law_lowest : Tab := ⟨[], [], nn⟩
theorem zcs_law_lowest : cSs ztb_law_lowest 60 ⟨["_law_n", "_law_d", "_law_one", "_law_other"], defScope zst_law_lowest, fun _ => true⟩ (defBody zst_law_lowest) = some l_lowest_0 := by rfl
abbrev zst_law_sum : Stmt := ztp 24
theorem zsc_law_sum : FnScope ["_law_p", "_law_q"] ["_law_p", "_law_q"] (defScope zst_law_sum) := ⟨rfl, rfl, rfl, by decide +kernel, rfl, by decide +kernel, by decide +kernel⟩
def ztb_law_sum : Tab := ⟨[("_law_lowest", 2, sl_lowest)], [], nn⟩
theorem zcs_law_sum : cSs ztb_law_sum 60 ⟨["_law_p", "_law_q"], defScope zst_law_sum, fun _ => true⟩ (defBody zst_law_sum) = some l_sum_0 := by rfl
abbrev zst_law_product : Stmt := ztp 26
theorem zsc_law_product : FnScope ["_law_p", "_law_q"] ["_law_p", "_law_q"] (defScope zst_law_product) := ⟨rfl, rfl, rfl, by decide +kernel, rfl, by decide +kernel, by decide +kernel⟩
def ztb_law_product : Tab := ⟨[("_law_lowest", 2, sl_lowest)], [], nn⟩
theorem zcs_law_product : cSs ztb_law_product 60 ⟨["_law_p", "_law_q"], defScope zst_law_product, fun _ => true⟩ (defBody zst_law_product) = some l_product_0 := by rfl
abbrev zst_law_fraction_by : Stmt := ztp 27
theorem zsc_law_fraction_by : FnScope ["_law_box", "_law_way", "_law_hand"] ["_law_box"] (defScope zst_law_fraction_by) := ⟨rfl, rfl, rfl, by decide +kernel, rfl, by decide +kernel, by decide +kernel⟩
def ztb_law_fraction_by : Tab := ⟨[("_law_take", 2, sl_take), ("_law_lowest", 2, sl_lowest)], [], nn⟩
theorem zcs_law_fraction_by : cSs ztb_law_fraction_by 60 ⟨["_law_box", "_law_way", "_law_hand"], defScope zst_law_fraction_by, fun _ => true⟩ (defBody zst_law_fraction_by) = some l_fraction_by_0 := by rfl
abbrev zst_law_unit_by : Stmt := ztp 28
theorem zsc_law_unit_by : FnScope ["_law_box", "_law_way", "_law_quarter", "_law_turn", "_law_a", "_law_b", "_law_x", "_law_y", "_law_k"] ["_law_box"] (defScope zst_law_unit_by) := ⟨rfl, rfl, rfl, by decide +kernel, rfl, by decide +kernel, by decide +kernel⟩
def ztb_law_unit_by : Tab := ⟨[("_law_take", 2, sl_take), ("_law_lowest", 2, sl_lowest)], [], nn⟩
theorem zcs_law_unit_by : cSs ztb_law_unit_by 60 ⟨["_law_box", "_law_way", "_law_quarter", "_law_turn", "_law_a", "_law_b", "_law_x", "_law_y", "_law_k"], defScope zst_law_unit_by, fun _ => true⟩ (defBody zst_law_unit_by) = some l_unit_by_0 := by rfl
abbrev zst_law_like : Stmt := ztp 29
theorem zsc_law_like : FnScope ["_law_found", "_law_due", "_law_one", "_law_other"] ["_law_found", "_law_due"] (defScope zst_law_like) := ⟨rfl, rfl, rfl, by decide +kernel, rfl, by decide +kernel, by decide +kernel⟩
def ztb_law_like (S : Spec) : Tab := ⟨[("_law_like", 2, S)], [], nn⟩
theorem zcs_law_like (S : Spec) : cSs (ztb_law_like S) 60 ⟨["_law_found", "_law_due", "_law_one", "_law_other"], defScope zst_law_like, fun _ => true⟩ (defBody zst_law_like) = some (l_like_0 S) := by rfl
abbrev zst_law_root_of : Stmt := ztp 30
theorem zsc_law_root_of : FnScope ["_law_number", "_law_root", "_law_figure"] ["_law_number"] (defScope zst_law_root_of) := ⟨rfl, rfl, rfl, by decide +kernel, rfl, by decide +kernel, by decide +kernel⟩
def ztb_law_root_of : Tab := ⟨[], [], nn⟩
theorem zcs_law_root_of : cSs ztb_law_root_of 60 ⟨["_law_number", "_law_root", "_law_figure"], defScope zst_law_root_of, fun _ => true⟩ (defBody zst_law_root_of) = some l_root_of_0 := by rfl
abbrev zst_law_length : Stmt := ztp 31
theorem zsc_law_length : FnScope ["_law_vector", "_law_square", "_law_top", "_law_bottom"] ["_law_vector"] (defScope zst_law_length) := ⟨rfl, rfl, rfl, by decide +kernel, rfl, by decide +kernel, by decide +kernel⟩
def ztb_law_length : Tab := ⟨[("_law_sum", 2, sl_sum), ("_law_product", 2, sl_product), ("_law_root_of", 1, sl_root_of)], [], nn⟩
theorem zcs_law_length : cSs ztb_law_length 60 ⟨["_law_vector", "_law_square", "_law_top", "_law_bottom"], defScope zst_law_length, fun _ => true⟩ (defBody zst_law_length) = some l_length_0 := by rfl
abbrev zst_law_right : Stmt := ztp 32
theorem zsc_law_right : FnScope ["_law_vector", "_law_due", "_law_found", "_law_share"] ["_law_vector"] (defScope zst_law_right) := ⟨rfl, rfl, rfl, by decide +kernel, rfl, by decide +kernel, by decide +kernel⟩
def ztb_law_right : Tab := ⟨[("scaled", 2, s_scaled), ("dot", 2, s_dot), ("length_of", 1, s_length_of), ("unit_of", 1, s_unit_of), ("_law_product", 2, sl_product), ("_law_like", 2, sl_like), ("_law_length", 1, sl_length)], [], nn⟩
theorem zcs_law_right : cSs ztb_law_right 60 ⟨["_law_vector", "_law_due", "_law_found", "_law_share"], defScope zst_law_right, fun _ => true⟩ (defBody zst_law_right) = some l_right_0 := by rfl
abbrev zst_law_refusals_right : Stmt := ztp 33
theorem zsc_law_refusals_right : FnScope ["_law_row", "_law_some", "_law_k", "_law_error", "_law_kinds"] ["_law_row"] (defScope zst_law_refusals_right) := ⟨rfl, rfl, rfl, by decide +kernel, rfl, by decide +kernel, by decide +kernel⟩
abbrev zst_law : Stmt := ztp 34
theorem zsc_law : FnScope ["_law_script", "_law_cells", "_law_k", "_law_box", "_law_unit", "_law_by", "_law_more", "_law_vector", "_law_bent", "_law_some", "_law_one"] ["_law_script"] (defScope zst_law) := ⟨rfl, rfl, rfl, by decide +kernel, rfl, by decide +kernel, by decide +kernel⟩
def ztb_law : Tab := ⟨[("scaled", 2, s_scaled), ("unit_of", 1, s_unit_of), ("_law_box_of", 2, sl_box_of), ("_law_take", 2, sl_take), ("_law_folded", 2, sl_folded), ("_law_sum", 2, sl_sum), ("_law_product", 2, sl_product), ("_law_fraction_by", 1, sl_fraction_by), ("_law_unit_by", 1, sl_unit_by), ("_law_right", 1, sl_right), ("_law_refusals_right", 1, sl_refusals_right)], [], nn⟩
theorem zcs_law : cSs ztb_law 60 ⟨["_law_script", "_law_cells", "_law_k", "_law_box", "_law_unit", "_law_by", "_law_more", "_law_vector", "_law_bent", "_law_some", "_law_one"], defScope zst_law, fun _ => true⟩ (defBody zst_law) = some l_law_0 := by rfl
def zst_init : Stmt := (match ztp 18 with | .ClassDef (body := b) .. => b | _ => []).getD 0 (.Pass ⟨0, 0, 0, 0⟩)
theorem zsc_init : FnScope ["self", "row"] ["self", "row"] (defScope zst_init) := ⟨rfl, rfl, rfl, by decide +kernel, rfl, by decide +kernel, by decide +kernel⟩
theorem zall_mk {l : PySem.W.OpenLaw} {w : World} {K : PySem.W.Frag} {h : Heap} {mg : Str → Option Value} {fa : Addr} (X : K.In h) (G : h.Ns mainGlobals mg) (hfa : mg "law" = some (.ref fa))
    {f0 : Addr} {od0 an0 : Option Addr} {sl0 : Array (Option Value)} {oc0 kV0 dc0 pm0 cd0 ct0 : Value}
    {f1 : Addr} {od1 an1 : Option Addr} {sl1 : Array (Option Value)} {oc1 kV1 dc1 pm1 cd1 ct1 : Value}
    {f2 : Addr} {od2 an2 : Option Addr} {sl2 : Array (Option Value)} {oc2 kV2 dc2 pm2 cd2 ct2 : Value}
    {f3 : Addr} {od3 an3 : Option Addr} {sl3 : Array (Option Value)} {oc3 kV3 dc3 pm3 cd3 ct3 : Value}
    {f4 : Addr} {od4 an4 : Option Addr} {sl4 : Array (Option Value)} {oc4 kV4 dc4 pm4 cd4 ct4 : Value}
    {f5 : Addr} {od5 an5 : Option Addr} {sl5 : Array (Option Value)} {oc5 kV5 dc5 pm5 cd5 ct5 : Value}
    {f6 : Addr} {od6 an6 : Option Addr} {sl6 : Array (Option Value)} {oc6 kV6 dc6 pm6 cd6 ct6 : Value}
    {f7 : Addr} {od7 an7 : Option Addr} {sl7 : Array (Option Value)} {oc7 kV7 dc7 pm7 cd7 ct7 : Value}
    {f8 : Addr} {od8 an8 : Option Addr} {sl8 : Array (Option Value)} {oc8 kV8 dc8 pm8 cd8 ct8 : Value}
    {f9 : Addr} {od9 an9 : Option Addr} {sl9 : Array (Option Value)} {oc9 kV9 dc9 pm9 cd9 ct9 : Value}
    {f10 : Addr} {od10 an10 : Option Addr} {sl10 : Array (Option Value)} {oc10 kV10 dc10 pm10 cd10 ct10 : Value}
    {f11 : Addr} {od11 an11 : Option Addr} {sl11 : Array (Option Value)} {oc11 kV11 dc11 pm11 cd11 ct11 : Value}
    {f12 : Addr} {od12 an12 : Option Addr} {sl12 : Array (Option Value)} {oc12 kV12 dc12 pm12 cd12 ct12 : Value}
    {f13 : Addr} {od13 an13 : Option Addr} {sl13 : Array (Option Value)} {oc13 kV13 dc13 pm13 cd13 ct13 : Value}
    {f14 : Addr} {od14 an14 : Option Addr} {sl14 : Array (Option Value)} {oc14 kV14 dc14 pm14 cd14 ct14 : Value}
    {f15 : Addr} {od15 an15 : Option Addr} {sl15 : Array (Option Value)} {oc15 kV15 dc15 pm15 cd15 ct15 : Value}
    {f16 : Addr} {od16 an16 : Option Addr} {sl16 : Array (Option Value)} {oc16 kV16 dc16 pm16 cd16 ct16 : Value}
    {f17 : Addr} {od17 an17 : Option Addr} {sl17 : Array (Option Value)} {oc17 kV17 dc17 pm17 cd17 ct17 : Value}
    {f18 : Addr} {od18 an18 : Option Addr} {sl18 : Array (Option Value)} {oc18 kV18 dc18 pm18 cd18 ct18 : Value}
    {f19 : Addr} {od19 an19 : Option Addr} {sl19 : Array (Option Value)} {oc19 kV19 dc19 pm19 cd19 ct19 : Value}
    {f20 : Addr} {od20 an20 : Option Addr} {sl20 : Array (Option Value)} {oc20 kV20 dc20 pm20 cd20 ct20 : Value}
    {f21 : Addr} {od21 an21 : Option Addr} {sl21 : Array (Option Value)} {oc21 kV21 dc21 pm21 cd21 ct21 : Value}
    {f22 : Addr} {od22 an22 : Option Addr} {sl22 : Array (Option Value)} {oc22 kV22 dc22 pm22 cd22 ct22 : Value}
    {f23 : Addr} {od23 an23 : Option Addr} {sl23 : Array (Option Value)} {oc23 kV23 dc23 pm23 cd23 ct23 : Value}
    {f24 : Addr} {od24 an24 : Option Addr} {sl24 : Array (Option Value)} {oc24 kV24 dc24 pm24 cd24 ct24 : Value}
    {tk1 : Tok}
    {tk2 : Tok}
    {ca0 : Addr} {cd_0 : Option Addr} {cn0 : Nat} {cs0 : Array (Option Value)}
    {C_BadNumber C_BadPath C_BadSheet C_SideError : Addr}
    {rnm rq : Str} {rN rfI : Addr} {rbs : List Value} {rsn : List Str} {rsub : List Value} {rab : Bool} {rcol : Option Bool} {rdd : Option Addr} {rm0 rm1 rm2 rm3 rm5 : Option Value} {rod ran : Option Addr} {rsl : Array (Option Value)} {roc rkV rdc rpm rcd rct : Value}
    (a0 : PySem.W.nsIn K mainGlobals "divisor_of" = some (some (.ref f0)))
    (l0 : K.lookup f0 = some ⟨oc0, od0, .func (PySem.W.fnOf "divisor_of" "divisor_of" (defArgs zst_divisor_of) (defBody zst_divisor_of) (defScope zst_divisor_of) .none kV0 dc0 pm0 an0 cd0 ct0), sl0⟩)
    (c0 : PySem.W.codeIn K cd0 "divisor_of" = true) (k0 : PySem.W.keepIn K (.ref f0) = true)
    (a1 : PySem.W.nsIn K mainGlobals "fraction" = some (some (.ref f1)))
    (l1 : K.lookup f1 = some ⟨oc1, od1, .func (PySem.W.fnOf "fraction" "fraction" (defArgs zst_fraction) (defBody zst_fraction) (defScope zst_fraction) .none kV1 dc1 pm1 an1 cd1 ct1), sl1⟩)
    (c1 : PySem.W.codeIn K cd1 "fraction" = true) (k1 : PySem.W.keepIn K (.ref f1) = true)
    (a2 : PySem.W.nsIn K mainGlobals "added" = some (some (.ref f2)))
    (l2 : K.lookup f2 = some ⟨oc2, od2, .func (PySem.W.fnOf "added" "added" (defArgs zst_added) (defBody zst_added) (defScope zst_added) .none kV2 dc2 pm2 an2 cd2 ct2), sl2⟩)
    (c2 : PySem.W.codeIn K cd2 "added" = true) (k2 : PySem.W.keepIn K (.ref f2) = true)
    (a3 : PySem.W.nsIn K mainGlobals "times" = some (some (.ref f3)))
    (l3 : K.lookup f3 = some ⟨oc3, od3, .func (PySem.W.fnOf "times" "times" (defArgs zst_times) (defBody zst_times) (defScope zst_times) .none kV3 dc3 pm3 an3 cd3 ct3), sl3⟩)
    (c3 : PySem.W.codeIn K cd3 "times" = true) (k3 : PySem.W.keepIn K (.ref f3) = true)
    (a4 : PySem.W.nsIn K mainGlobals "over" = some (some (.ref f4)))
    (l4 : K.lookup f4 = some ⟨oc4, od4, .func (PySem.W.fnOf "over" "over" (defArgs zst_over) (defBody zst_over) (defScope zst_over) .none kV4 dc4 pm4 an4 cd4 ct4), sl4⟩)
    (c4 : PySem.W.codeIn K cd4 "over" = true) (k4 : PySem.W.keepIn K (.ref f4) = true)
    (a5 : PySem.W.nsIn K mainGlobals "whole_root" = some (some (.ref f5)))
    (l5 : K.lookup f5 = some ⟨oc5, od5, .func (PySem.W.fnOf "whole_root" "whole_root" (defArgs zst_whole_root) (defBody zst_whole_root) (defScope zst_whole_root) .none kV5 dc5 pm5 an5 cd5 ct5), sl5⟩)
    (c5 : PySem.W.codeIn K cd5 "whole_root" = true) (k5 : PySem.W.keepIn K (.ref f5) = true)
    (a6 : PySem.W.nsIn K mainGlobals "root_of" = some (some (.ref f6)))
    (l6 : K.lookup f6 = some ⟨oc6, od6, .func (PySem.W.fnOf "root_of" "root_of" (defArgs zst_root_of) (defBody zst_root_of) (defScope zst_root_of) .none kV6 dc6 pm6 an6 cd6 ct6), sl6⟩)
    (c6 : PySem.W.codeIn K cd6 "root_of" = true) (k6 : PySem.W.keepIn K (.ref f6) = true)
    (a7 : PySem.W.nsIn K mainGlobals "scaled" = some (some (.ref f7)))
    (l7 : K.lookup f7 = some ⟨oc7, od7, .func (PySem.W.fnOf "scaled" "scaled" (defArgs zst_scaled) (defBody zst_scaled) (defScope zst_scaled) .none kV7 dc7 pm7 an7 cd7 ct7), sl7⟩)
    (c7 : PySem.W.codeIn K cd7 "scaled" = true) (k7 : PySem.W.keepIn K (.ref f7) = true)
    (a8 : PySem.W.nsIn K mainGlobals "dot" = some (some (.ref f8)))
    (l8 : K.lookup f8 = some ⟨oc8, od8, .func (PySem.W.fnOf "dot" "dot" (defArgs zst_dot) (defBody zst_dot) (defScope zst_dot) .none kV8 dc8 pm8 an8 cd8 ct8), sl8⟩)
    (c8 : PySem.W.codeIn K cd8 "dot" = true) (k8 : PySem.W.keepIn K (.ref f8) = true)
    (a9 : PySem.W.nsIn K mainGlobals "length_of" = some (some (.ref f9)))
    (l9 : K.lookup f9 = some ⟨oc9, od9, .func (PySem.W.fnOf "length_of" "length_of" (defArgs zst_length_of) (defBody zst_length_of) (defScope zst_length_of) .none kV9 dc9 pm9 an9 cd9 ct9), sl9⟩)
    (c9 : PySem.W.codeIn K cd9 "length_of" = true) (k9 : PySem.W.keepIn K (.ref f9) = true)
    (a10 : PySem.W.nsIn K mainGlobals "unit_of" = some (some (.ref f10)))
    (l10 : K.lookup f10 = some ⟨oc10, od10, .func (PySem.W.fnOf "unit_of" "unit_of" (defArgs zst_unit_of) (defBody zst_unit_of) (defScope zst_unit_of) .none kV10 dc10 pm10 an10 cd10 ct10), sl10⟩)
    (c10 : PySem.W.codeIn K cd10 "unit_of" = true) (k10 : PySem.W.keepIn K (.ref f10) = true)
    (a11 : PySem.W.nsIn K mainGlobals "_law_box_of" = some (some (.ref f11)))
    (l11 : K.lookup f11 = some ⟨oc11, od11, .func (PySem.W.fnOf "_law_box_of" "_law_box_of" (defArgs zst_law_box_of) (defBody zst_law_box_of) (defScope zst_law_box_of) .none kV11 dc11 pm11 an11 cd11 ct11), sl11⟩)
    (c11 : PySem.W.codeIn K cd11 "_law_box_of" = true) (k11 : PySem.W.keepIn K (.ref f11) = true)
    (a12 : PySem.W.nsIn K mainGlobals "_law_take" = some (some (.ref f12)))
    (l12 : K.lookup f12 = some ⟨oc12, od12, .func (PySem.W.fnOf "_law_take" "_law_take" (defArgs zst_law_take) (defBody zst_law_take) (defScope zst_law_take) .none kV12 dc12 pm12 an12 cd12 ct12), sl12⟩)
    (c12 : PySem.W.codeIn K cd12 "_law_take" = true) (k12 : PySem.W.keepIn K (.ref f12) = true)
    (a13 : PySem.W.nsIn K mainGlobals "_law_folded" = some (some (.ref f13)))
    (l13 : K.lookup f13 = some ⟨oc13, od13, .func (PySem.W.fnOf "_law_folded" "_law_folded" (defArgs zst_law_folded) (defBody zst_law_folded) (defScope zst_law_folded) .none kV13 dc13 pm13 an13 cd13 ct13), sl13⟩)
    (c13 : PySem.W.codeIn K cd13 "_law_folded" = true) (k13 : PySem.W.keepIn K (.ref f13) = true)
    (a14 : PySem.W.nsIn K mainGlobals "_law_lowest" = some (some (.ref f14)))
    (l14 : K.lookup f14 = some ⟨oc14, od14, .func (PySem.W.fnOf "_law_lowest" "_law_lowest" (defArgs zst_law_lowest) (defBody zst_law_lowest) (defScope zst_law_lowest) .none kV14 dc14 pm14 an14 cd14 ct14), sl14⟩)
    (c14 : PySem.W.codeIn K cd14 "_law_lowest" = true) (k14 : PySem.W.keepIn K (.ref f14) = true)
    (a15 : PySem.W.nsIn K mainGlobals "_law_sum" = some (some (.ref f15)))
    (l15 : K.lookup f15 = some ⟨oc15, od15, .func (PySem.W.fnOf "_law_sum" "_law_sum" (defArgs zst_law_sum) (defBody zst_law_sum) (defScope zst_law_sum) .none kV15 dc15 pm15 an15 cd15 ct15), sl15⟩)
    (c15 : PySem.W.codeIn K cd15 "_law_sum" = true) (k15 : PySem.W.keepIn K (.ref f15) = true)
    (a16 : PySem.W.nsIn K mainGlobals "_law_product" = some (some (.ref f16)))
    (l16 : K.lookup f16 = some ⟨oc16, od16, .func (PySem.W.fnOf "_law_product" "_law_product" (defArgs zst_law_product) (defBody zst_law_product) (defScope zst_law_product) .none kV16 dc16 pm16 an16 cd16 ct16), sl16⟩)
    (c16 : PySem.W.codeIn K cd16 "_law_product" = true) (k16 : PySem.W.keepIn K (.ref f16) = true)
    (a17 : PySem.W.nsIn K mainGlobals "_law_fraction_by" = some (some (.ref f17)))
    (l17 : K.lookup f17 = some ⟨oc17, od17, .func (PySem.W.fnOf "_law_fraction_by" "_law_fraction_by" (defArgs zst_law_fraction_by) (defBody zst_law_fraction_by) (defScope zst_law_fraction_by) .none kV17 dc17 pm17 an17 cd17 ct17), sl17⟩)
    (c17 : PySem.W.codeIn K cd17 "_law_fraction_by" = true) (k17 : PySem.W.keepIn K (.ref f17) = true)
    (a18 : PySem.W.nsIn K mainGlobals "_law_unit_by" = some (some (.ref f18)))
    (l18 : K.lookup f18 = some ⟨oc18, od18, .func (PySem.W.fnOf "_law_unit_by" "_law_unit_by" (defArgs zst_law_unit_by) (defBody zst_law_unit_by) (defScope zst_law_unit_by) .none kV18 dc18 pm18 an18 cd18 ct18), sl18⟩)
    (c18 : PySem.W.codeIn K cd18 "_law_unit_by" = true) (k18 : PySem.W.keepIn K (.ref f18) = true)
    (a19 : PySem.W.nsIn K mainGlobals "_law_like" = some (some (.ref f19)))
    (l19 : K.lookup f19 = some ⟨oc19, od19, .func (PySem.W.fnOf "_law_like" "_law_like" (defArgs zst_law_like) (defBody zst_law_like) (defScope zst_law_like) .none kV19 dc19 pm19 an19 cd19 ct19), sl19⟩)
    (c19 : PySem.W.codeIn K cd19 "_law_like" = true) (k19 : PySem.W.keepIn K (.ref f19) = true)
    (a20 : PySem.W.nsIn K mainGlobals "_law_root_of" = some (some (.ref f20)))
    (l20 : K.lookup f20 = some ⟨oc20, od20, .func (PySem.W.fnOf "_law_root_of" "_law_root_of" (defArgs zst_law_root_of) (defBody zst_law_root_of) (defScope zst_law_root_of) .none kV20 dc20 pm20 an20 cd20 ct20), sl20⟩)
    (c20 : PySem.W.codeIn K cd20 "_law_root_of" = true) (k20 : PySem.W.keepIn K (.ref f20) = true)
    (a21 : PySem.W.nsIn K mainGlobals "_law_length" = some (some (.ref f21)))
    (l21 : K.lookup f21 = some ⟨oc21, od21, .func (PySem.W.fnOf "_law_length" "_law_length" (defArgs zst_law_length) (defBody zst_law_length) (defScope zst_law_length) .none kV21 dc21 pm21 an21 cd21 ct21), sl21⟩)
    (c21 : PySem.W.codeIn K cd21 "_law_length" = true) (k21 : PySem.W.keepIn K (.ref f21) = true)
    (a22 : PySem.W.nsIn K mainGlobals "_law_right" = some (some (.ref f22)))
    (l22 : K.lookup f22 = some ⟨oc22, od22, .func (PySem.W.fnOf "_law_right" "_law_right" (defArgs zst_law_right) (defBody zst_law_right) (defScope zst_law_right) .none kV22 dc22 pm22 an22 cd22 ct22), sl22⟩)
    (c22 : PySem.W.codeIn K cd22 "_law_right" = true) (k22 : PySem.W.keepIn K (.ref f22) = true)
    (a23 : PySem.W.nsIn K mainGlobals "_law_refusals_right" = some (some (.ref f23)))
    (l23 : K.lookup f23 = some ⟨oc23, od23, .func (PySem.W.fnOf "_law_refusals_right" "_law_refusals_right" (defArgs zst_law_refusals_right) (defBody zst_law_refusals_right) (defScope zst_law_refusals_right) .none kV23 dc23 pm23 an23 cd23 ct23), sl23⟩)
    (c23 : PySem.W.codeIn K cd23 "_law_refusals_right" = true) (k23 : PySem.W.keepIn K (.ref f23) = true)
    (a24 : PySem.W.nsIn K mainGlobals "law" = some (some (.ref f24)))
    (l24 : K.lookup f24 = some ⟨oc24, od24, .func (PySem.W.fnOf "law" "law" (defArgs zst_law) (defBody zst_law) (defScope zst_law) .none kV24 dc24 pm24 an24 cd24 ct24), sl24⟩)
    (c24 : PySem.W.codeIn K cd24 "law" = true) (k24 : PySem.W.keepIn K (.ref f24) = true)
    (g_NOUGHT : PySem.W.nsIn K mainGlobals "NOUGHT" = some (some (.ref ca0)))
    (q0 : K.lookup ca0 = some ⟨.type "tuple", cd_0, .seq #[.int 0 tk1, .int 1 tk2] cn0, cs0⟩)
    (n_BadNumber : PySem.W.nsIn K mainGlobals "BadNumber" = some (some (.ref C_BadNumber)))
    (n_BadPath : PySem.W.nsIn K mainGlobals "BadPath" = some (some (.ref C_BadPath)))
    (n_BadSheet : PySem.W.nsIn K mainGlobals "BadSheet" = some (some (.ref C_BadSheet)))
    (n_SideError : PySem.W.nsIn K mainGlobals "SideError" = some (some (.ref C_SideError)))
    (b_BadNumber : PySem.W.subIn K (.ref C_BadNumber) (.type "BaseException") = some true)
    (t_BadNumber : PySem.W.typeIn K (.ref C_BadNumber) = some (.type "type"))
    (d_BadNumber : PySem.W.hasDictIn K C_BadNumber = true)
    (x_BadNumber : PySem.W.excIn K C_BadNumber [.type "ValueError", .type "Exception", .type "BaseException", .type "object"] "ValueError.__new__" = true)
    (k_BadNumber : PySem.W.keepIn K (.ref C_BadNumber) = true)
    (e1_BadNumber : PySem.W.findIn K (.ref C_BadNumber) "__getattribute__" = some (some (.builtin "BaseException.__getattribute__")))
    (e2_BadNumber : PySem.W.findIn K (.ref C_BadNumber) "__getattr__" = some none)
    (e3_BadNumber : PySem.W.findIn K (.ref C_BadNumber) "__class__" = some (some (.builtin "object.__class__")))
    (e4_BadNumber : PySem.W.mroIn K C_BadNumber (.type "object") = some true)
    (i_BadNumber_BadNumber : PySem.W.kitOne K (.ref C_BadNumber) (.ref C_BadNumber) = some true)
    (i_BadNumber_BadPath : PySem.W.kitOne K (.ref C_BadNumber) (.ref C_BadPath) = some false)
    (i_BadNumber_BadSheet : PySem.W.kitOne K (.ref C_BadNumber) (.ref C_BadSheet) = some false)
    (i_BadNumber_SideError : PySem.W.kitOne K (.ref C_BadNumber) (.ref C_SideError) = some true)
    (i_BadNumber_ValueError : PySem.W.kitOne K (.ref C_BadNumber) (.type "ValueError") = some true)
    (b_BadPath : PySem.W.subIn K (.ref C_BadPath) (.type "BaseException") = some true)
    (t_BadPath : PySem.W.typeIn K (.ref C_BadPath) = some (.type "type"))
    (d_BadPath : PySem.W.hasDictIn K C_BadPath = true)
    (x_BadPath : PySem.W.excIn K C_BadPath [.type "ValueError", .type "Exception", .type "BaseException", .type "object"] "ValueError.__new__" = true)
    (k_BadPath : PySem.W.keepIn K (.ref C_BadPath) = true)
    (e1_BadPath : PySem.W.findIn K (.ref C_BadPath) "__getattribute__" = some (some (.builtin "BaseException.__getattribute__")))
    (e2_BadPath : PySem.W.findIn K (.ref C_BadPath) "__getattr__" = some none)
    (e3_BadPath : PySem.W.findIn K (.ref C_BadPath) "__class__" = some (some (.builtin "object.__class__")))
    (e4_BadPath : PySem.W.mroIn K C_BadPath (.type "object") = some true)
    (i_BadPath_BadNumber : PySem.W.kitOne K (.ref C_BadPath) (.ref C_BadNumber) = some false)
    (i_BadPath_BadPath : PySem.W.kitOne K (.ref C_BadPath) (.ref C_BadPath) = some true)
    (i_BadPath_BadSheet : PySem.W.kitOne K (.ref C_BadPath) (.ref C_BadSheet) = some false)
    (i_BadPath_SideError : PySem.W.kitOne K (.ref C_BadPath) (.ref C_SideError) = some true)
    (i_BadPath_ValueError : PySem.W.kitOne K (.ref C_BadPath) (.type "ValueError") = some true)
    (b_BadSheet : PySem.W.subIn K (.ref C_BadSheet) (.type "BaseException") = some true)
    (t_BadSheet : PySem.W.typeIn K (.ref C_BadSheet) = some (.type "type"))
    (d_BadSheet : PySem.W.hasDictIn K C_BadSheet = true)
    (k_BadSheet : PySem.W.keepIn K (.ref C_BadSheet) = true)
    (e1_BadSheet : PySem.W.findIn K (.ref C_BadSheet) "__getattribute__" = some (some (.builtin "BaseException.__getattribute__")))
    (e2_BadSheet : PySem.W.findIn K (.ref C_BadSheet) "__getattr__" = some none)
    (e3_BadSheet : PySem.W.findIn K (.ref C_BadSheet) "__class__" = some (some (.builtin "object.__class__")))
    (e4_BadSheet : PySem.W.mroIn K C_BadSheet (.type "object") = some true)
    (i_BadSheet_BadNumber : PySem.W.kitOne K (.ref C_BadSheet) (.ref C_BadNumber) = some false)
    (i_BadSheet_BadPath : PySem.W.kitOne K (.ref C_BadSheet) (.ref C_BadPath) = some false)
    (i_BadSheet_BadSheet : PySem.W.kitOne K (.ref C_BadSheet) (.ref C_BadSheet) = some true)
    (i_BadSheet_SideError : PySem.W.kitOne K (.ref C_BadSheet) (.ref C_SideError) = some true)
    (i_BadSheet_ValueError : PySem.W.kitOne K (.ref C_BadSheet) (.type "ValueError") = some true)
    (rL : K.lookup C_BadSheet = some (excClassObj rnm rq C_BadSheet rN rbs [.ref C_SideError, .type "ValueError", .type "Exception", .type "BaseException", .type "object"] true rsn rsub rab rcol rdd rm0 rm1 rm2 rm3 rm5 "ValueError.__new__"))
    (rsa : PySem.W.findIn K (.ref C_BadSheet) "__setattr__" = some (some (.builtin "object.__setattr__")))
    (rnb : PySem.W.findIn K (.ref C_BadSheet) "row" = some none)
    (ra1 : PySem.W.findIn K (.ref C_BadSheet) "__init__" = some (some (.ref rfI)))
    (rt1 : PySem.W.typeIn K (.ref rfI) = some (.type "function"))
    (rl1 : K.lookup rfI = some ⟨roc, rod, .func (PySem.W.fnOf "__init__" "BadSheet.__init__" (defArgs zst_init) (defBody zst_init) (defScope zst_init) .none rkV rdc rpm ran rcd rct), rsl⟩)
    (rc1 : PySem.W.codeIn K rcd "BadSheet.__init__" = true)
    (y1 : PySem.W.specialIn K (.builtin "object.__class__") "__get__" = some (some (.builtin "getset_descriptor.__get__")))
    (y2 : PySem.W.takesIn K (.builtin "object.__class__") = some true)
    (z0 : PySem.W.nsIn K mainGlobals "abs" = some none)
    (z1 : PySem.W.nsIn K mainGlobals "int" = some none)
    (z2 : PySem.W.nsIn K mainGlobals "len" = some none)
    (z3 : PySem.W.nsIn K mainGlobals "divmod" = some none)
    (z4 : PySem.W.nsIn K mainGlobals "enumerate" = some none)
    (z5 : PySem.W.nsIn K mainGlobals "list" = some none)
    (z6 : PySem.W.nsIn K mainGlobals "range" = some none)
    (z7 : PySem.W.nsIn K mainGlobals "all" = some none)
    (z8 : PySem.W.nsIn K mainGlobals "bool" = some none)
    (z9 : PySem.W.nsIn K mainGlobals "isinstance" = some none)
    (z10 : PySem.W.nsIn K mainGlobals "str" = some none)
    (z11 : PySem.W.nsIn K mainGlobals "tuple" = some none)
    (z12 : PySem.W.nsIn K mainGlobals "zip" = some none)
    (z13 : PySem.W.nsIn K mainGlobals "ValueError" = some none) :
    ∃ fd : FuncData, (∀ (s : Shared) (v : Value), BindsTo s fd ⟨[v], []⟩ [("_law_script", v)]) ∧ ∀ base : Heap, K.In base → base.Ns mainGlobals mg → FnG l.prog w K mg base 11 fa fd ["_law_script"] (liftSp K 1 sl_law) := by
  have e := hfa.symm.trans (PySem.W.mg_of X G a24)
  cases e
  have F0 := fun_mk (st := zst_divisor_of) l0 c0 k0
  have F1 := fun_mk (st := zst_fraction) l1 c1 k1
  have F2 := fun_mk (st := zst_added) l2 c2 k2
  have F3 := fun_mk (st := zst_times) l3 c3 k3
  have F4 := fun_mk (st := zst_over) l4 c4 k4
  have F5 := fun_mk (st := zst_whole_root) l5 c5 k5
  have F6 := fun_mk (st := zst_root_of) l6 c6 k6
  have F7 := fun_mk (st := zst_scaled) l7 c7 k7
  have F8 := fun_mk (st := zst_dot) l8 c8 k8
  have F9 := fun_mk (st := zst_length_of) l9 c9 k9
  have F10 := fun_mk (st := zst_unit_of) l10 c10 k10
  have F11 := fun_mk (st := zst_law_box_of) l11 c11 k11
  have F12 := fun_mk (st := zst_law_take) l12 c12 k12
  have F13 := fun_mk (st := zst_law_folded) l13 c13 k13
  have F14 := fun_mk (st := zst_law_lowest) l14 c14 k14
  have F15 := fun_mk (st := zst_law_sum) l15 c15 k15
  have F16 := fun_mk (st := zst_law_product) l16 c16 k16
  have F17 := fun_mk (st := zst_law_fraction_by) l17 c17 k17
  have F18 := fun_mk (st := zst_law_unit_by) l18 c18 k18
  have F19 := fun_mk (st := zst_law_like) l19 c19 k19
  have F20 := fun_mk (st := zst_law_root_of) l20 c20 k20
  have F21 := fun_mk (st := zst_law_length) l21 c21 k21
  have F22 := fun_mk (st := zst_law_right) l22 c22 k22
  have F23 := fun_mk (st := zst_law_refusals_right) l23 c23 k23
  have F24 := fun_mk (st := zst_law) l24 c24 k24
  have nk : NonOk mg nn := .cons (PySem.W.mg_none_of X G z0) (.cons (PySem.W.mg_none_of X G z1) (.cons (PySem.W.mg_none_of X G z2) (.cons (PySem.W.mg_none_of X G z3) (.cons (PySem.W.mg_none_of X G z4) (.cons (PySem.W.mg_none_of X G z5) (.cons (PySem.W.mg_none_of X G z6) (.cons (PySem.W.mg_none_of X G z7) (.cons (PySem.W.mg_none_of X G z8) (.cons (PySem.W.mg_none_of X G z9) (.cons (PySem.W.mg_none_of X G z10) (.cons (PySem.W.mg_none_of X G z11) (.cons (PySem.W.mg_none_of X G z12) (.cons (PySem.W.mg_none_of X G z13) (.nil))))))))))))))
  refine ⟨PySem.W.fnOf "law" "law" (defArgs zst_law) (defBody zst_law) (defScope zst_law) .none kV24 dc24 pm24 an24 cd24 ct24, fun s v => .of_eq rfl, fun base _ _ => ?_⟩
  have hE_BadNumber : ExcC K C_BadNumber := ⟨e1_BadNumber, e2_BadNumber, b_BadNumber, d_BadNumber, e3_BadNumber, y1, y2, e4_BadNumber⟩
  have hE_BadPath : ExcC K C_BadPath := ⟨e1_BadPath, e2_BadPath, b_BadPath, d_BadPath, e3_BadPath, y1, y2, e4_BadPath⟩
  have hE_BadSheet : ExcC K C_BadSheet := ⟨e1_BadSheet, e2_BadSheet, b_BadSheet, d_BadSheet, e3_BadSheet, y1, y2, e4_BadSheet⟩
  have hM_BadNumber : MkC K mg "BadNumber" C_BadNumber := ⟨_, _, _, _, PySem.F.excBase_ValueError, x_BadNumber, PySem.W.mg_of X G n_BadNumber, k_BadNumber⟩
  have hM_BadPath : MkC K mg "BadPath" C_BadPath := ⟨_, _, _, _, PySem.F.excBase_ValueError, x_BadPath, PySem.W.mg_of X G n_BadPath, k_BadPath⟩
  have hT : OexC K C_BadSheet := ⟨⟨_, _, _, _, _, _, _, _, _, _, _, _, _, _, _, rL, by rfl⟩, rsa, b_BadSheet, t_BadSheet, k_BadSheet⟩
  have hXf : XfC K C_BadSheet := ⟨e1_BadSheet, e2_BadSheet, b_BadSheet, d_BadSheet⟩
  have FI := fun_mk (st := zst_init) rl1 rc1 (by simp [PySem.W.keepIn, rl1])
  have bI := FI.binds (ps := ["self", "row"]) fun _ _ _ _ _ _ us hl => match us, hl with | [_, _], _ => rfl
  have h5_BadNumber : K5 K C_BadNumber (.ref C_BadNumber) (.ref C_BadPath) (.ref C_BadSheet) (.ref C_SideError) (.type "ValueError") true false false := ⟨i_BadNumber_BadNumber, i_BadNumber_BadPath, i_BadNumber_BadSheet, i_BadNumber_SideError, i_BadNumber_ValueError⟩
  have h5_BadPath : K5 K C_BadPath (.ref C_BadNumber) (.ref C_BadPath) (.ref C_BadSheet) (.ref C_SideError) (.type "ValueError") false true false := ⟨i_BadPath_BadNumber, i_BadPath_BadPath, i_BadPath_BadSheet, i_BadPath_SideError, i_BadPath_ValueError⟩
  have h5_BadSheet : K5 K C_BadSheet (.ref C_BadNumber) (.ref C_BadPath) (.ref C_BadSheet) (.ref C_SideError) (.type "ValueError") false false true := ⟨i_BadSheet_BadNumber, i_BadSheet_BadPath, i_BadSheet_BadSheet, i_BadSheet_SideError, i_BadSheet_ValueError⟩
  have b0 := F0.binds (ps := ["one", "other"]) fun _ _ _ _ _ _ us hl => match us, hl with | [_, _], _ => rfl
  have g0 : FnIs l.prog w K mg base 1 "divisor_of" 2 s_divisor_of := def_ok (k := 0) (TabOk.start nk) F0 zsc_divisor_of zcs_divisor_of (PySem.W.mg_of X G a0) b0 ok_divisor_of
  have b5 := F5.binds (ps := ["number"]) fun _ _ _ _ _ _ us hl => match us, hl with | [_], _ => rfl
  have g5 : FnIs l.prog w K mg base 1 "whole_root" 1 s_whole_root := def_ok (k := 0) (TabOk.start nk) F5 zsc_whole_root zcs_whole_root (PySem.W.mg_of X G a5) b5 ok_whole_root
  have b11 := F11.binds (ps := ["_law_script", "_law_k"]) fun _ _ _ _ _ _ us hl => match us, hl with | [_, _], _ => rfl
  have g11 : FnIs l.prog w K mg base 1 "_law_box_of" 2 sl_box_of := def_ok (k := 0) (TabOk.start nk) F11 zsc_law_box_of zcs_law_box_of (PySem.W.mg_of X G a11) b11 ok_l_box_of
  have b12 := F12.binds (ps := ["_law_box", "_law_many"]) fun _ _ _ _ _ _ us hl => match us, hl with | [_, _], _ => rfl
  have g12 : FnIs l.prog w K mg base 1 "_law_take" 2 sl_take := def_ok (k := 0) (TabOk.start nk) F12 zsc_law_take zcs_law_take (PySem.W.mg_of X G a12) b12 ok_l_take
  have b13 := F13.binds (ps := ["_law_script", "_law_many"]) fun _ _ _ _ _ _ us hl => match us, hl with | [_, _], _ => rfl
  have g13 : FnIs l.prog w K mg base 1 "_law_folded" 2 sl_folded := def_ok (k := 0) (TabOk.start nk) F13 zsc_law_folded zcs_law_folded (PySem.W.mg_of X G a13) b13 ok_l_folded
  have b14 := F14.binds (ps := ["_law_n", "_law_d"]) fun _ _ _ _ _ _ us hl => match us, hl with | [_, _], _ => rfl
  have g14 : FnIs l.prog w K mg base 1 "_law_lowest" 2 sl_lowest := def_ok (k := 0) (TabOk.start nk) F14 zsc_law_lowest zcs_law_lowest (PySem.W.mg_of X G a14) b14 ok_l_lowest
  have b20 := F20.binds (ps := ["_law_number"]) fun _ _ _ _ _ _ us hl => match us, hl with | [_], _ => rfl
  have g20 : FnIs l.prog w K mg base 1 "_law_root_of" 1 sl_root_of := def_ok (k := 0) (TabOk.start nk) F20 zsc_law_root_of zcs_law_root_of (PySem.W.mg_of X G a20) b20 ok_l_root_of
  have b1 := F1.binds (ps := ["n", "d"]) fun _ _ _ _ _ _ us hl => match us, hl with | [_, _], _ => rfl
  have g1 : FnIs l.prog w K mg base 2 "fraction" 2 s_fraction := def_ok (k := 1) ((TabOk.start nk).add (g0.mono (by decide))) F1 zsc_fraction zcs_fraction (PySem.W.mg_of X G a1) b1 ok_fraction
  have b6 := F6.binds (ps := ["one"]) fun _ _ _ _ _ _ us hl => match us, hl with | [_], _ => rfl
  have g6 : FnIs l.prog w K mg base 2 "root_of" 1 s_root_of := def_ok (k := 1) ((TabOk.start nk).add (g5.mono (by decide))) F6 zsc_root_of zcs_root_of (PySem.W.mg_of X G a6) b6 ok_root_of
  have b15 := F15.binds (ps := ["_law_p", "_law_q"]) fun _ _ _ _ _ _ us hl => match us, hl with | [_, _], _ => rfl
  have g15 : FnIs l.prog w K mg base 2 "_law_sum" 2 sl_sum := def_ok (k := 1) ((TabOk.start nk).add (g14.mono (by decide))) F15 zsc_law_sum zcs_law_sum (PySem.W.mg_of X G a15) b15 ok_l_sum
  have b16 := F16.binds (ps := ["_law_p", "_law_q"]) fun _ _ _ _ _ _ us hl => match us, hl with | [_, _], _ => rfl
  have g16 : FnIs l.prog w K mg base 2 "_law_product" 2 sl_product := def_ok (k := 1) ((TabOk.start nk).add (g14.mono (by decide))) F16 zsc_law_product zcs_law_product (PySem.W.mg_of X G a16) b16 ok_l_product
  have b17 := F17.binds (ps := ["_law_box"]) fun _ _ _ _ _ _ us hl => match us, hl with | [_], _ => rfl
  have g17 : FnIs l.prog w K mg base 2 "_law_fraction_by" 1 sl_fraction_by := def_ok (k := 1) (((TabOk.start nk).add (g14.mono (by decide))).add (g12.mono (by decide))) F17 zsc_law_fraction_by zcs_law_fraction_by (PySem.W.mg_of X G a17) b17 ok_l_fraction_by
  have b18 := F18.binds (ps := ["_law_box"]) fun _ _ _ _ _ _ us hl => match us, hl with | [_], _ => rfl
  have g18 : FnIs l.prog w K mg base 2 "_law_unit_by" 1 sl_unit_by := def_ok (k := 1) (((TabOk.start nk).add (g14.mono (by decide))).add (g12.mono (by decide))) F18 zsc_law_unit_by zcs_law_unit_by (PySem.W.mg_of X G a18) b18 ok_l_unit_by
  have b2 := F2.binds (ps := ["one", "other"]) fun _ _ _ _ _ _ us hl => match us, hl with | [_, _], _ => rfl
  have g2 : FnIs l.prog w K mg base 3 "added" 2 s_added := def_ok (k := 2) ((TabOk.start nk).add (g1.mono (by decide))) F2 zsc_added zcs_added (PySem.W.mg_of X G a2) b2 ok_added
  have b3 := F3.binds (ps := ["one", "other"]) fun _ _ _ _ _ _ us hl => match us, hl with | [_, _], _ => rfl
  have g3 : FnIs l.prog w K mg base 3 "times" 2 s_times := def_ok (k := 2) ((TabOk.start nk).add (g1.mono (by decide))) F3 zsc_times zcs_times (PySem.W.mg_of X G a3) b3 ok_times
  have b4 := F4.binds (ps := ["one", "other"]) fun _ _ _ _ _ _ us hl => match us, hl with | [_, _], _ => rfl
  have g4 : FnIs l.prog w K mg base 3 "over" 2 s_over := def_ok (k := 2) ((TabOk.start nk).add (g1.mono (by decide))) F4 zsc_over zcs_over (PySem.W.mg_of X G a4) b4 ok_over
  have b21 := F21.binds (ps := ["_law_vector"]) fun _ _ _ _ _ _ us hl => match us, hl with | [_], _ => rfl
  have g21 : FnIs l.prog w K mg base 3 "_law_length" 1 sl_length := def_ok (k := 2) ((((TabOk.start nk).add (g20.mono (by decide))).add (g16.mono (by decide))).add (g15.mono (by decide))) F21 zsc_law_length zcs_law_length (PySem.W.mg_of X G a21) b21 ok_l_length
  have b23 := F23.binds (ps := ["_law_row"]) fun _ _ _ _ _ _ us hl => match us, hl with | [_], _ => rfl
  have g23 : FnIs l.prog w K mg base 3 "_law_refusals_right" 1 sl_refusals_right := ⟨_, _, _, PySem.W.mg_of X G a23, F23.kp, b23, refus_fn (k := 1) F23 zsc_law_refusals_right rfl (by decide) (by decide) (by decide) (nk _ (by rfl)) (nk _ (by rfl)) hM_BadNumber hM_BadPath hT (PySem.W.mg_of X G n_BadSheet) ra1 rt1 (row_fn (k := 0) FI zsc_init rfl hT rnb rfl rfl) bI hXf rnb (PySem.W.mg_of X G n_SideError) (nk _ (by rfl)) PyProof.Rows.Boot.«ValueError» hE_BadNumber hE_BadPath hE_BadSheet h5_BadNumber h5_BadPath h5_BadSheet⟩
  have b7 := F7.binds (ps := ["vector", "by"]) fun _ _ _ _ _ _ us hl => match us, hl with | [_, _], _ => rfl
  have g7 : FnIs l.prog w K mg base 4 "scaled" 2 s_scaled := def_ok (k := 3) ((TabOk.start nk).add (g3.mono (by decide))) F7 zsc_scaled zcs_scaled (PySem.W.mg_of X G a7) b7 ok_scaled
  have b8 := F8.binds (ps := ["one", "other"]) fun _ _ _ _ _ _ us hl => match us, hl with | [_, _], _ => rfl
  have g8 : FnIs l.prog w K mg base 4 "dot" 2 s_dot := def_ok (k := 3) (((TabOk.start nk).add (g3.mono (by decide))).add (g2.mono (by decide))) F8 zsc_dot zcs_dot (PySem.W.mg_of X G a8) b8 ok_dot
  have b9 := F9.binds (ps := ["vector"]) fun _ _ _ _ _ _ us hl => match us, hl with | [_], _ => rfl
  have g9 : FnIs l.prog w K mg base 5 "length_of" 1 s_length_of := def_ok (k := 4) (((TabOk.start nk).add (g8.mono (by decide))).add (g6.mono (by decide))) F9 zsc_length_of zcs_length_of (PySem.W.mg_of X G a9) b9 ok_length_of
  have b10 := F10.binds (ps := ["vector"]) fun _ _ _ _ _ _ us hl => match us, hl with | [_], _ => rfl
  have g10 : FnIs l.prog w K mg base 6 "unit_of" 1 s_unit_of := def_ok (k := 5) ((((TabOk.start nk).cn (p := .tup [.int 0, .int 1]) (PySem.W.mg_of X G g_NOUGHT) (v := .ref ca0) (rfl) (fun H => ⟨ca0, [.int 0, .int 1], rfl, .inr (.inr ⟨_, _, _, q0, rfl, rfl, by show 2 ≤ 16777216; decide, .cons (⟨_, rfl⟩) (.cons (⟨_, rfl⟩) (.nil))⟩), ⟨_, _, rfl, (fun _ => rfl) H, ⟨_, _, rfl, (fun _ => rfl) H, rfl⟩⟩⟩)).add (g9.mono (by decide))).add (g4.mono (by decide))) F10 zsc_unit_of zcs_unit_of (PySem.W.mg_of X G a10) b10 ok_unit_of
  have b19 := F19.binds (ps := ["_law_found", "_law_due"]) fun _ _ _ _ _ _ us hl => match us, hl with | [_, _], _ => rfl
  have g19 : FnIs l.prog w K mg base 9 "_law_like" 2 (likeN 9) := by
    have key : ∀ n, FnIs l.prog w K mg base (0 + n) "_law_like" 2 (likeN n) := by
      intro n
      induction n with
      | zero => exact def_no F19 (PySem.W.mg_of X G a19) b19 (by rintro _ _ _ ⟨_, _, _, h, _⟩; exact h)
      | succ n ih => exact def_ok (k := 0 + n) ((TabOk.start nk).add ih) F19 zsc_law_like (zcs_law_like _) (PySem.W.mg_of X G a19) b19 (ok_l_like n)
    exact key 9
  have b22 := F22.binds (ps := ["_law_vector"]) fun _ _ _ _ _ _ us hl => match us, hl with | [_], _ => rfl
  have g22 : FnIs l.prog w K mg base 10 "_law_right" 1 sl_right := def_ok (k := 9) ((((((((TabOk.start nk).add (g21.mono (by decide))).add (g19.mono (by decide))).add (g16.mono (by decide))).add (g10.mono (by decide))).add (g9.mono (by decide))).add (g8.mono (by decide))).add (g7.mono (by decide))) F22 zsc_law_right zcs_law_right (PySem.W.mg_of X G a22) b22 ok_l_right
  exact def_fn (k := 10) ((((((((((((TabOk.start nk).add (g23.mono (by decide))).add (g22.mono (by decide))).add (g18.mono (by decide))).add (g17.mono (by decide))).add (g16.mono (by decide))).add (g15.mono (by decide))).add (g13.mono (by decide))).add (g12.mono (by decide))).add (g11.mono (by decide))).add (g10.mono (by decide))).add (g7.mono (by decide))) F24 zsc_law zcs_law ok_l_law
end Mp
open PySem PySem.W PyProof.Rows
set_option maxHeartbeats 0 in
theorem PySem.Challenge.cw_sidecut_k05_lengths_and_units_holds : PySem.Challenge.rw_sidecut_k05_lengths_and_units.Holds := by
  w_on; o_law; k_head; (case hw => w_witness2)
  k_fill
  refine Mp.g_walk (l := PySem.Challenge.rw_sidecut_k05_lengths_and_units) (n := 63) (k := 11) (x := "_law_script") (sp := fun w => Mp.liftSp _ 1 Mp.sl_law) rfl (by decide) rfl ⟨rfl, by decide, by decide⟩ (fun w h Y => PySem.W.kIn_of Y) ?F (fun _ _ a ns hl hO hS => Mp.law_sp hO hS ⟨ns, rfl, fun _ => rfl⟩)
  case F =>
    intro w mg fa h KX G hmg
    refine' Mp.zall_mk KX G hmg ?a0 ?l0 ?c0 ?k0 ?a1 ?l1 ?c1 ?k1 ?a2 ?l2 ?c2 ?k2 ?a3 ?l3 ?c3 ?k3 ?a4 ?l4 ?c4 ?k4 ?a5 ?l5 ?c5 ?k5 ?a6 ?l6 ?c6 ?k6 ?a7 ?l7 ?c7 ?k7 ?a8 ?l8 ?c8 ?k8 ?a9 ?l9 ?c9 ?k9 ?a10 ?l10 ?c10 ?k10 ?a11 ?l11 ?c11 ?k11 ?a12 ?l12 ?c12 ?k12 ?a13 ?l13 ?c13 ?k13 ?a14 ?l14 ?c14 ?k14 ?a15 ?l15 ?c15 ?k15 ?a16 ?l16 ?c16 ?k16 ?a17 ?l17 ?c17 ?k17 ?a18 ?l18 ?c18 ?k18 ?a19 ?l19 ?c19 ?k19 ?a20 ?l20 ?c20 ?k20 ?a21 ?l21 ?c21 ?k21 ?a22 ?l22 ?c22 ?k22 ?a23 ?l23 ?c23 ?k23 ?a24 ?l24 ?c24 ?k24 ?g_NOUGHT ?q0 ?n_BadNumber ?n_BadPath ?n_BadSheet ?n_SideError ?b_BadNumber ?t_BadNumber ?d_BadNumber ?x_BadNumber ?k_BadNumber ?e1_BadNumber ?e2_BadNumber ?e3_BadNumber ?e4_BadNumber ?i_BadNumber_BadNumber ?i_BadNumber_BadPath ?i_BadNumber_BadSheet ?i_BadNumber_SideError ?i_BadNumber_ValueError ?b_BadPath ?t_BadPath ?d_BadPath ?x_BadPath ?k_BadPath ?e1_BadPath ?e2_BadPath ?e3_BadPath ?e4_BadPath ?i_BadPath_BadNumber ?i_BadPath_BadPath ?i_BadPath_BadSheet ?i_BadPath_SideError ?i_BadPath_ValueError ?b_BadSheet ?t_BadSheet ?d_BadSheet ?k_BadSheet ?e1_BadSheet ?e2_BadSheet ?e3_BadSheet ?e4_BadSheet ?i_BadSheet_BadNumber ?i_BadSheet_BadPath ?i_BadSheet_BadSheet ?i_BadSheet_SideError ?i_BadSheet_ValueError ?rL ?rsa ?rnb ?ra1 ?rt1 ?rl1 ?rc1 ?y1 ?y2 ?z0 ?z1 ?z2 ?z3 ?z4 ?z5 ?z6 ?z7 ?z8 ?z9 ?z10 ?z11 ?z12 ?z13
    (case a0 => k_is); (case l0 => k_is); (case c0 => k_is); (case k0 => k_is); (case a1 => k_is); (case l1 => k_is); (case c1 => k_is); (case k1 => k_is); (case a2 => k_is); (case l2 => k_is); (case c2 => k_is); (case k2 => k_is); (case a3 => k_is); (case l3 => k_is); (case c3 => k_is); (case k3 => k_is); (case a4 => k_is); (case l4 => k_is); (case c4 => k_is); (case k4 => k_is); (case a5 => k_is); (case l5 => k_is); (case c5 => k_is); (case k5 => k_is); (case a6 => k_is); (case l6 => k_is); (case c6 => k_is); (case k6 => k_is); (case a7 => k_is); (case l7 => k_is); (case c7 => k_is); (case k7 => k_is); (case a8 => k_is); (case l8 => k_is); (case c8 => k_is); (case k8 => k_is); (case a9 => k_is); (case l9 => k_is); (case c9 => k_is); (case k9 => k_is); (case a10 => k_is); (case l10 => k_is); (case c10 => k_is); (case k10 => k_is); (case a11 => k_is); (case l11 => k_is); (case c11 => k_is); (case k11 => k_is); (case a12 => k_is); (case l12 => k_is); (case c12 => k_is); (case k12 => k_is); (case a13 => k_is); (case l13 => k_is); (case c13 => k_is); (case k13 => k_is); (case a14 => k_is); (case l14 => k_is); (case c14 => k_is); (case k14 => k_is); (case a15 => k_is); (case l15 => k_is); (case c15 => k_is); (case k15 => k_is); (case a16 => k_is); (case l16 => k_is); (case c16 => k_is); (case k16 => k_is); (case a17 => k_is); (case l17 => k_is); (case c17 => k_is); (case k17 => k_is); (case a18 => k_is); (case l18 => k_is); (case c18 => k_is); (case k18 => k_is); (case a19 => k_is); (case l19 => k_is); (case c19 => k_is); (case k19 => k_is); (case a20 => k_is); (case l20 => k_is); (case c20 => k_is); (case k20 => k_is); (case a21 => k_is); (case l21 => k_is); (case c21 => k_is); (case k21 => k_is); (case a22 => k_is); (case l22 => k_is); (case c22 => k_is); (case k22 => k_is); (case a23 => k_is); (case l23 => k_is); (case c23 => k_is); (case k23 => k_is); (case a24 => k_is); (case l24 => k_is); (case c24 => k_is); (case k24 => k_is); (case g_NOUGHT => k_is); (case q0 => k_is); (case n_BadNumber => k_is); (case n_BadPath => k_is); (case n_BadSheet => k_is); (case n_SideError => k_is); (case b_BadNumber => k_is); (case t_BadNumber => k_is); (case d_BadNumber => k_is); (case x_BadNumber => k_exc); (case k_BadNumber => k_is); (case e1_BadNumber => k_is); (case e2_BadNumber => k_is); (case e3_BadNumber => k_is); (case e4_BadNumber => k_is); (case i_BadNumber_BadNumber => kit_is); (case i_BadNumber_BadPath => kit_is); (case i_BadNumber_BadSheet => kit_is); (case i_BadNumber_SideError => kit_is); (case i_BadNumber_ValueError => kit_is); (case b_BadPath => k_is); (case t_BadPath => k_is); (case d_BadPath => k_is); (case x_BadPath => k_exc); (case k_BadPath => k_is); (case e1_BadPath => k_is); (case e2_BadPath => k_is); (case e3_BadPath => k_is); (case e4_BadPath => k_is); (case i_BadPath_BadNumber => kit_is); (case i_BadPath_BadPath => kit_is); (case i_BadPath_BadSheet => kit_is); (case i_BadPath_SideError => kit_is); (case i_BadPath_ValueError => kit_is); (case b_BadSheet => k_is); (case t_BadSheet => k_is); (case d_BadSheet => k_is); (case k_BadSheet => k_is); (case e1_BadSheet => k_is); (case e2_BadSheet => k_is); (case e3_BadSheet => k_is); (case e4_BadSheet => k_is); (case i_BadSheet_BadNumber => kit_is); (case i_BadSheet_BadPath => kit_is); (case i_BadSheet_BadSheet => kit_is); (case i_BadSheet_SideError => kit_is); (case i_BadSheet_ValueError => kit_is); (case rL => k_is); (case rsa => k_is); (case rnb => k_is); (case ra1 => k_is); (case rt1 => k_is); (case rl1 => k_is); (case rc1 => k_is); (case y1 => k_is); (case y2 => k_is); (case z0 => k_is); (case z1 => k_is); (case z2 => k_is); (case z3 => k_is); (case z4 => k_is); (case z5 => k_is); (case z6 => k_is); (case z7 => k_is); (case z8 => k_is); (case z9 => k_is); (case z10 => k_is); (case z11 => k_is); (case z12 => k_is); (case z13 => k_is)
