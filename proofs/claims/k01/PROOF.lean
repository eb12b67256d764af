import PyProof.Rows.All
import Wide.All
import OpenK.AllK
import Wide.FinOn
import HandS.ForMost
import HandS.Wide
import HandS.IsInst
import HandS.Walk
import HandS.Zip
import HandS.Rev
import HandS.Conv
import HandS.TupAny
import HandS.Style
import HandS.Deep
import HandS.FStrTup
import HandS.WordsDict
import PySem.Challenge.RW_sidecut_k01_what_a_fraction_is
set_option Elab.async false
set_option linter.all false
set_option maxRecDepth 100000
set_option maxHeartbeats 4000000
namespace Mp
open PySem PySem.Spec PyProof.Rows L2

/-! ### pure data over a store of lists and dicts -/
inductive PV where
  | non | bl (b : Bool) | int (i : Int) | str (x : Str) | ref (a : Addr) | ty (n : String) | fz (ns : List Int) | tup (xs : List PV)
inductive SO where
  | l (xs : List PV) | d (kvs : List (Key × PV))
abbrev Sto := Addr → Option SO
def put (L : Sto) (a : Addr) (o : SO) : Sto := fun b => if b = a then some o else L b
theorem put_same {L : Sto} {a : Addr} {o : SO} : put L a o a = some o := by unfold put; rw [if_pos rfl]
theorem put_ne {L : Sto} {a b : Addr} {o : SO} (h : b ≠ a) : put L a o b = L b := by unfold put; rw [if_neg h]

def TupAt (K : PySem.W.Frag) (H : Hp) (a : Addr) (vs : List V) : Prop := H a = some (.tup vs) ∨ SqT K (fun _ => none) a vs
mutual
def RepV (K : PySem.W.Frag) (H : Hp) : PV → V → Prop
  | .non, v => v = .non
  | .bl b, v => v = .bl b
  | .int i, v => v = .int i
  | .str x, v => v = .str x
  | .ref a, v => v = .ref a
  | .ty n, v => v = .ty n
  | .fz ns, v => ∃ a, v = .ref a ∧ ((∃ o, H a = some (.frz o (.lst (ns.map V.int)))) ∨ SqL K (fun _ => none) a (ns.map V.int))
  | .tup xs, v => ∃ a vs, v = .ref a ∧ TupAt K H a vs ∧ RepVs K H xs vs
def RepVs (K : PySem.W.Frag) (H : Hp) : List PV → List V → Prop
  | [], vs => vs = []
  | x :: xs, vs => ∃ v r, vs = v :: r ∧ RepV K H x v ∧ RepVs K H xs r
end
def RepKs (K : PySem.W.Frag) (H : Hp) : List (Key × PV) → List (Key × V) → Prop
  | [], ks => ks = []
  | (k, x) :: xs, ks => ∃ v r, ks = (k, v) :: r ∧ RepV K H x v ∧ RepKs K H xs r
def RepO (K : PySem.W.Frag) (H : Hp) (a : Addr) : SO → Prop
  | .l xs => ∃ vs, H a = some (.lst vs) ∧ RepVs K H xs vs
  | .d kvs => ∃ ks, H a = some (.dK ks) ∧ RepKs K H kvs ks
def RepH (K : PySem.W.Frag) (H : Hp) (L : Sto) : Prop := ∀ a o, L a = some o → RepO K H a o
/-- what is not in the store stays -/
def Fm (H : Hp) (L : Sto) (H' : Hp) (L' : Sto) : Prop := ∀ a o, H a = some o → L a = none → H' a = some o ∧ L' a = none
abbrev Env := List (Option PV)
def RepS (K : PySem.W.Frag) (H : Hp) (σ : L2.St) (env : Env) : Prop := σ.length = env.length ∧ ∀ (i : Nat) (x : PV), env[i]? = some (some x) → ∃ v, σ[i]? = some (some v) ∧ RepV K H x v

/-- tuples and frozen lists stay -/
def Ex (H H' : Hp) : Prop := (∀ a xs, H a = some (.tup xs) → H' a = some (.tup xs)) ∧ (∀ a o xs, H a = some (.frz o (.lst xs)) → H' a = some (.frz o (.lst xs)))

section
variable {K : PySem.W.Frag} {H H' H1 H2 : Hp} {L L' La Lb : Sto}
theorem Fm.refl : Fm H L H L := fun _ _ h n => ⟨h, n⟩
theorem Fm.trans (a : Fm H L H1 La) (b : Fm H1 La H2 Lb) : Fm H L H2 Lb := fun c o h n => let ⟨x, y⟩ := a c o h n; b c o x y
theorem RepH.notTup (r : RepH K H L) {a : Addr} {xs : List V} (h : H a = some (.tup xs)) : L a = none := by
  cases e : L a with
  | none => rfl
  | some o =>
    cases o with
    | l ys => obtain ⟨vs, q, _⟩ := r a _ e; rw [h] at q; cases q
    | d ys => obtain ⟨vs, q, _⟩ := r a _ e; rw [h] at q; cases q
theorem RepH.notFrz (r : RepH K H L) {a : Addr} {o : Obj} {u : HO} (h : H a = some (.frz o u)) : L a = none := by
  cases e : L a with
  | none => rfl
  | some o =>
    cases o with
    | l ys => obtain ⟨vs, q, _⟩ := r a _ e; rw [h] at q; cases q
    | d ys => obtain ⟨vs, q, _⟩ := r a _ e; rw [h] at q; cases q
theorem RepH.fresh (r : RepH K H L) {a : Addr} (h : H a = none) : L a = none := by
  cases e : L a with
  | none => rfl
  | some o =>
    cases o with
    | l ys => obtain ⟨vs, q, _⟩ := r a _ e; rw [h] at q; cases q
    | d ys => obtain ⟨vs, q, _⟩ := r a _ e; rw [h] at q; cases q
theorem Fm.ex (f : Fm H L H' L') (r : RepH K H L) : Ex H H' := ⟨fun a xs h => (f a _ h (r.notTup h)).1, fun a o xs h => (f a _ h (r.notFrz h)).1⟩
theorem Ex.refl : Ex H H := ⟨fun _ _ h => h, fun _ _ _ h => h⟩
theorem Ex.trans (a : Ex H H1) (b : Ex H1 H2) : Ex H H2 := ⟨fun c xs h => b.1 c xs (a.1 c xs h), fun c o xs h => b.2 c o xs (a.2 c o xs h)⟩
theorem sqT_up {a : Addr} {xs : List V} (h : SqT K (fun _ => none) a xs) : SqT K H a xs := by
  rcases h with (h | ⟨o, h⟩) | h
  · cases h
  · cases h
  · exact .inr h
theorem sqL_up {a : Addr} {xs : List V} (h : SqL K (fun _ => none) a xs) : SqL K H a xs := by
  rcases h with (h | ⟨o, h⟩) | h
  · cases h
  · cases h
  · exact .inr h
theorem TupAt.sq {a : Addr} {xs : List V} (h : TupAt K H a xs) : SqT K H a xs := by
  rcases h with h | h
  · exact .inl (.inl h)
  · exact sqT_up h
theorem TupAt.ex {a : Addr} {xs : List V} (e : Ex H H') (h : TupAt K H a xs) : TupAt K H' a xs := h.elim (fun q => .inl (e.1 _ _ q)) .inr
mutual
theorem RepV.ex (e : Ex H H') : ∀ {x : PV} {v : V}, RepV K H x v → RepV K H' x v
  | .non, _, h => h
  | .bl _, _, h => h
  | .int _, _, h => h
  | .str _, _, h => h
  | .ref _, _, h => h
  | .ty _, _, h => h
  | .fz _, _, ⟨a, h1, h2⟩ => ⟨a, h1, h2.elim (fun ⟨o, q⟩ => .inl ⟨o, e.2 _ _ _ q⟩) .inr⟩
  | .tup _, _, ⟨a, vs, h1, h2, h3⟩ => ⟨a, vs, h1, h2.ex e, RepVs.ex e h3⟩
theorem RepVs.ex (e : Ex H H') : ∀ {x : List PV} {v : List V}, RepVs K H x v → RepVs K H' x v
  | [], _, h => h
  | _ :: _, _, ⟨v, r, h1, h2, h3⟩ => ⟨v, r, h1, RepV.ex e h2, RepVs.ex e h3⟩
end
theorem RepKs.ex (e : Ex H H') : ∀ {x : List (Key × PV)} {v : List (Key × V)}, RepKs K H x v → RepKs K H' x v
  | [], _, h => h
  | _ :: _, _, ⟨v, r, h1, h2, h3⟩ => ⟨v, r, h1, RepV.ex e h2, RepKs.ex e h3⟩
theorem RepVs.length : ∀ {x : List PV} {v : List V}, RepVs K H x v → x.length = v.length
  | [], _, h => by
    have h : _ = [] := h
    rw [h]
    rfl
  | _ :: _, _, ⟨v, r, h1, h2, h3⟩ => by rw [h1, List.length_cons, List.length_cons, RepVs.length h3]
theorem RepVs.get : ∀ {xs : List PV} {vs : List V} {i : Nat} {x : PV}, RepVs K H xs vs → xs[i]? = some x → ∃ v, vs[i]? = some v ∧ RepV K H x v
  | [], _, _, _, _, e => by simp at e
  | y :: ys, _, 0, x, ⟨v, r, h1, h2, h3⟩, e => by
    simp at e
    subst e
    exact ⟨v, by rw [h1]; rfl, h2⟩
  | y :: ys, _, i + 1, x, ⟨v, r, h1, h2, h3⟩, e => by
    obtain ⟨w, q1, q2⟩ := RepVs.get (i := i) h3 (by simpa using e)
    exact ⟨w, by rw [h1]; simpa using q1, q2⟩
theorem RepVs.getV : ∀ {xs : List PV} {vs : List V} {i : Nat} {v : V}, RepVs K H xs vs → vs[i]? = some v → ∃ x, xs[i]? = some x ∧ RepV K H x v
  | [], _, _, _, h, e => by
    have h : _ = [] := h
    rw [h] at e
    simp at e
  | y :: ys, _, 0, x, ⟨v, r, h1, h2, h3⟩, e => by
    subst h1
    simp at e
    subst e
    exact ⟨y, rfl, h2⟩
  | y :: ys, _, i + 1, x, ⟨v, r, h1, h2, h3⟩, e => by
    subst h1
    obtain ⟨w, q1, q2⟩ := RepVs.getV (i := i) h3 (by simpa using e)
    exact ⟨w, by simpa using q1, q2⟩
theorem RepVs.append : ∀ {xs ys : List PV} {vs ws : List V}, RepVs K H xs vs → RepVs K H ys ws → RepVs K H (xs ++ ys) (vs ++ ws)
  | [], _, _, _, h, q => by
    have h : _ = [] := h
    rw [h]
    exact q
  | _ :: _, _, _, _, ⟨v, r, h1, h2, h3⟩, q => ⟨v, r ++ _, by rw [h1]; rfl, h2, RepVs.append h3 q⟩
theorem RepVs.take : ∀ {xs : List PV} {vs : List V} (n : Nat), RepVs K H xs vs → RepVs K H (xs.take n) (vs.take n)
  | _, _, 0, _ => rfl
  | [], _, _ + 1, h => by
    have h : _ = [] := h
    rw [h]
    rfl
  | _ :: _, _, n + 1, ⟨v, r, h1, h2, h3⟩ => ⟨v, r.take n, by rw [h1]; rfl, h2, RepVs.take n h3⟩
theorem RepVs.drop : ∀ {xs : List PV} {vs : List V} (n : Nat), RepVs K H xs vs → RepVs K H (xs.drop n) (vs.drop n)
  | _, _, 0, h => h
  | [], _, _ + 1, h => by
    have h : _ = [] := h
    rw [h]
    rfl
  | _ :: _, _, n + 1, ⟨v, r, h1, h2, h3⟩ => by
    rw [h1]
    exact RepVs.drop n h3
theorem RepVs.set : ∀ {xs : List PV} {vs : List V} (n : Nat) {x : PV} {v : V}, RepVs K H xs vs → RepV K H x v → RepVs K H (xs.set n x) (vs.set n v)
  | [], _, _, _, _, h, _ => by
    have h : _ = [] := h
    rw [h]
    rfl
  | _ :: _, _, 0, _, _, ⟨v, r, h1, h2, h3⟩, q => ⟨_, r, by rw [h1]; rfl, q, h3⟩
  | _ :: _, _, n + 1, _, _, ⟨v, r, h1, h2, h3⟩, q => ⟨v, r.set n _, by rw [h1]; rfl, h2, RepVs.set n h3 q⟩
theorem RepVs.eraseIdx : ∀ {xs : List PV} {vs : List V} (n : Nat), RepVs K H xs vs → RepVs K H (xs.eraseIdx n) (vs.eraseIdx n)
  | [], _, _, h => by
    have h : _ = [] := h
    rw [h]
    rfl
  | _ :: _, _, 0, ⟨v, r, h1, h2, h3⟩ => by rw [h1]; exact h3
  | _ :: _, _, n + 1, ⟨v, r, h1, h2, h3⟩ => ⟨v, r.eraseIdx n, by rw [h1]; rfl, h2, RepVs.eraseIdx n h3⟩
theorem RepVs.reverse : ∀ {xs : List PV} {vs : List V}, RepVs K H xs vs → RepVs K H xs.reverse vs.reverse
  | [], _, h => by
    have h : _ = [] := h
    rw [h]
    rfl
  | _ :: _, _, ⟨v, r, h1, h2, h3⟩ => by
    rw [h1, List.reverse_cons, List.reverse_cons]
    exact RepVs.append (RepVs.reverse h3) ⟨v, [], rfl, h2, rfl⟩
theorem RepVs.dropLast : ∀ {xs : List PV} {vs : List V}, RepVs K H xs vs → RepVs K H xs.dropLast vs.dropLast := fun {xs vs} h => by
  rw [List.dropLast_eq_take, List.dropLast_eq_take, h.length]
  exact h.take _
theorem RepVs.rep {xs : List PV} {vs : List V} (h : RepVs K H xs vs) : ∀ k : Nat, RepVs K H (List.replicate k xs).flatten (List.replicate k vs).flatten
  | 0 => rfl
  | k + 1 => by
    rw [List.replicate_succ, List.replicate_succ, List.flatten_cons, List.flatten_cons]
    exact h.append (RepVs.rep h k)
theorem RepVs.ints : ∀ {ns : List Int} {vs : List V}, RepVs K H (ns.map PV.int) vs → vs = ns.map V.int
  | [], _, h => h
  | n :: ns, _, ⟨v, r, h1, h2, h3⟩ => by
    have h2 : v = .int n := h2
    rw [h1, h2, RepVs.ints h3]
    rfl
theorem RepVs.ofInts : ∀ {ns : List Int}, RepVs K H (ns.map PV.int) (ns.map V.int)
  | [] => rfl
  | n :: ns => ⟨.int n, _, rfl, rfl, RepVs.ofInts⟩
theorem RepVs.bls : ∀ {ns : List Bool} {vs : List V}, RepVs K H (ns.map PV.bl) vs → vs = ns.map V.bl
  | [], _, h => h
  | n :: ns, _, ⟨v, r, h1, h2, h3⟩ => by
    have h2 : v = .bl n := h2
    rw [h1, h2, RepVs.bls h3]
    rfl
theorem RepVs.strs : ∀ {ns : List Str} {vs : List V}, RepVs K H (ns.map PV.str) vs → vs = ns.map V.str
  | [], _, h => h
  | n :: ns, _, ⟨v, r, h1, h2, h3⟩ => by
    have h2 : v = .str n := h2
    rw [h1, h2, RepVs.strs h3]
    rfl
theorem RepVs.one {x : PV} {vs : List V} (h : RepVs K H [x] vs) : ∃ v, vs = [v] ∧ RepV K H x v := by
  obtain ⟨v, r, h1, h2, h3⟩ := h
  have h3 : r = [] := h3
  subst h3
  exact ⟨v, h1, h2⟩
theorem RepVs.two {x y : PV} {vs : List V} (h : RepVs K H [x, y] vs) : ∃ v w, vs = [v, w] ∧ RepV K H x v ∧ RepV K H y w := by
  obtain ⟨v, r, h1, h2, h3⟩ := h
  obtain ⟨w, h4, h5⟩ := h3.one
  subst h4
  exact ⟨v, w, h1, h2, h5⟩
theorem RepVs.three {x y z : PV} {vs : List V} (h : RepVs K H [x, y, z] vs) : ∃ v w u, vs = [v, w, u] ∧ RepV K H x v ∧ RepV K H y w ∧ RepV K H z u := by
  obtain ⟨v, r, h1, h2, h3⟩ := h
  obtain ⟨w, u, h4, h5, h6⟩ := h3.two
  subst h4
  exact ⟨v, w, u, h1, h2, h5, h6⟩
theorem RepO.ex (e : Ex H H') {a : Addr} {o : SO} (h : RepO K H a o) (k : ∀ u, H a = some u → H' a = some u) : RepO K H' a o := by
  cases o with
  | l xs => obtain ⟨vs, h1, h2⟩ := h; exact ⟨vs, k _ h1, h2.ex e⟩
  | d xs => obtain ⟨vs, h1, h2⟩ := h; exact ⟨vs, k _ h1, h2.ex e⟩
theorem RepS.ex {σ : L2.St} {env : Env} (e : Ex H H') (h : RepS K H σ env) : RepS K H' σ env := ⟨h.1, fun i x q => let ⟨v, a, b⟩ := h.2 i x q; ⟨v, a, b.ex e⟩⟩
/-- the store's entry, in the heap -/
theorem RepH.lst (r : RepH K H L) {a : Addr} {xs : List PV} (h : L a = some (.l xs)) : ∃ vs, H a = some (.lst vs) ∧ RepVs K H xs vs := r a _ h
theorem RepH.dct (r : RepH K H L) {a : Addr} {xs : List (Key × PV)} (h : L a = some (.d xs)) : ∃ vs, H a = some (.dK vs) ∧ RepKs K H xs vs := r a _ h

/-! ### a new object, an object written -/
theorem ex_new {p : Addr} {o : HO} (hp : H p = none) : Ex H (upd H p o) := ⟨fun a xs h => by rw [upd_ne (ne_of_none h hp)]; exact h, fun a o' xs h => by rw [upd_ne (ne_of_none h hp)]; exact h⟩
theorem fm_tup {p : Addr} {vs : List V} (r : RepH K H L) (hp : H p = none) : Fm H L (upd H p (.tup vs)) L := fun a o h n => ⟨by rw [upd_ne (ne_of_none h hp)]; exact h, n⟩
theorem reph_tup {p : Addr} {vs : List V} (r : RepH K H L) (hp : H p = none) : RepH K (upd H p (.tup vs)) L := fun a o h => (r a o h).ex (ex_new hp) fun u q => by rw [upd_ne (ne_of_none q hp)]; exact q
theorem repv_tup {p : Addr} {xs : List PV} {vs : List V} (h : RepVs K H xs vs) (hp : H p = none) : RepV K (upd H p (.tup vs)) (.tup xs) (.ref p) :=
  ⟨p, vs, rfl, .inl upd_same, h.ex (ex_new hp)⟩
theorem fm_new {p : Addr} {o : HO} {u : SO} (hp : H p = none) : Fm H L (upd H p o) (put L p u) := fun a o' h n => ⟨by rw [upd_ne (ne_of_none h hp)]; exact h, by rw [put_ne (ne_of_none h hp)]; exact n⟩
theorem reph_new {p : Addr} {xs : List PV} {vs : List V} (r : RepH K H L) (hp : H p = none) (h : RepVs K H xs vs) : RepH K (upd H p (.lst vs)) (put L p (.l xs)) := fun a o e => by
  by_cases q : a = p
  · subst q
    rw [put_same] at e
    cases e
    exact ⟨vs, upd_same, h.ex (ex_new hp)⟩
  · rw [put_ne q] at e
    exact (r a o e).ex (ex_new hp) fun u q' => by rw [upd_ne q]; exact q'
theorem reph_newD {p : Addr} {xs : List (Key × PV)} {vs : List (Key × V)} (r : RepH K H L) (hp : H p = none) (h : RepKs K H xs vs) : RepH K (upd H p (.dK vs)) (put L p (.d xs)) := fun a o e => by
  by_cases q : a = p
  · subst q
    rw [put_same] at e
    cases e
    exact ⟨vs, upd_same, h.ex (ex_new hp)⟩
  · rw [put_ne q] at e
    exact (r a o e).ex (ex_new hp) fun u q' => by rw [upd_ne q]; exact q'
theorem ex_put {p : Addr} {o : HO} {u : SO} (r : RepH K H L) (hp : L p = some u) : Ex H (upd H p o) :=
  ⟨fun a xs h => by
    have n := r.notTup h
    rw [upd_ne (fun z => by rw [z, hp] at n; cases n)]; exact h,
   fun a o' xs h => by
    have n := r.notFrz h
    rw [upd_ne (fun z => by rw [z, hp] at n; cases n)]; exact h⟩
theorem fm_put {p : Addr} {o : HO} {u u' : SO} (hp : L p = some u) : Fm H L (upd H p o) (put L p u') := fun a o' h n => by
  have ne : a ≠ p := fun z => by rw [z, hp] at n; cases n
  exact ⟨by rw [upd_ne ne]; exact h, by rw [put_ne ne]; exact n⟩
theorem reph_put {p : Addr} {u : SO} {xs : List PV} {vs : List V} (r : RepH K H L) (hp : L p = some u) (h : RepVs K H xs vs) : RepH K (upd H p (.lst vs)) (put L p (.l xs)) := fun a o e => by
  by_cases q : a = p
  · subst q
    rw [put_same] at e
    cases e
    exact ⟨vs, upd_same, h.ex (ex_put r hp)⟩
  · rw [put_ne q] at e
    exact (r a o e).ex (ex_put r hp) fun u q' => by rw [upd_ne q]; exact q'
theorem reph_putD {p : Addr} {u : SO} {xs : List (Key × PV)} {vs : List (Key × V)} (r : RepH K H L) (hp : L p = some u) (h : RepKs K H xs vs) : RepH K (upd H p (.dK vs)) (put L p (.d xs)) := fun a o e => by
  by_cases q : a = p
  · subst q
    rw [put_same] at e
    cases e
    exact ⟨vs, upd_same, h.ex (ex_put r hp)⟩
  · rw [put_ne q] at e
    exact (r a o e).ex (ex_put r hp) fun u q' => by rw [upd_ne q]; exact q'

/-! ### readings over pure data -/
abbrev PK := PV → Sto → Prop
abbrev WE := Env → Sto → PK → Prop
abbrev WA := Env → Sto → (List PV → Sto → Prop) → Prop
/-- what R promises reaches Q, from H, L on -/
def Kt (K : PySem.W.Frag) (H : Hp) (L : Sto) (R : PK) (Q : VK) : Prop := ∀ x L' v H', R x L' → Fm H L H' L' → RepV K H' x v → RepH K H' L' → Q v H'
def KtA (K : PySem.W.Frag) (n : Nat) (H : Hp) (L : Sto) (R : List PV → Sto → Prop) (Q : List V → Hp → Prop) : Prop := ∀ x L' v H', R x L' → x.length = n → Fm H L H' L' → RepVs K H' x v → RepH K H' L' → Q v H'
def liftE (K : PySem.W.Frag) (w : WE) : TE := fun σ H Q => ∃ env L R, RepS K H σ env ∧ RepH K H L ∧ w env L R ∧ Kt K H L R Q
def wAr : List WE → WA
  | [], _, L, R => R [] L
  | w :: ws, env, L, R => w env L fun x La => wAr ws env La fun xs Lb => R (x :: xs) Lb
def liftA (K : PySem.W.Frag) (ws : List WE) : TA := fun σ H Q => ∃ env L R, RepS K H σ env ∧ RepH K H L ∧ wAr ws env L R ∧ KtA K ws.length H L R Q
/-- a test: the value is a bool -/
def liftT (K : PySem.W.Frag) (w : WE) : TT := fun σ H Q => ∃ env L R, RepS K H σ env ∧ RepH K H L ∧ w env L R ∧ ∀ x L' H', R x L' → Fm H L H' L' → RepH K H' L' → ∃ b, x = .bl b ∧ Q b H'
theorem Kt.fm {R : PK} {Q : VK} (k : Kt K H L R Q) (f : Fm H L H1 La) : Kt K H1 La R Q := fun x L' v H' r f' => k x L' v H' r (f.trans f')
theorem _root_.L2.PE.weak {X : Cx} {e : Expr} {t t' : TE} (h : PE X e t) (w : ∀ σ H Q, t' σ H Q → t σ H Q) : PE X e t' := ⟨fun pins s σ H Q I q => h.run pins s σ H Q I (w σ H Q q)⟩
theorem _root_.L2.PT.weak {X : Cx} {e : Expr} {t t' : TT} (h : PT X e t) (w : ∀ σ H Q, t' σ H Q → t σ H Q) : PT X e t' := ⟨fun pins s σ H Q I q => h.run pins s σ H Q I (w σ H Q q)⟩
theorem _root_.L2.PA.weak {X : Cx} {e : List Expr} {t t' : TA} (h : PA X e t) (w : ∀ σ H Q, t' σ H Q → t σ H Q) : PA X e t' := ⟨fun pos pins s σ H Q I q => h.run pos pins s σ H Q I (w σ H Q q)⟩
theorem _root_.L2.PS.weak {X : Cx} {e : Stmt} {t t' : TS} (h : PS X e t) (w : ∀ D σ H, t' D σ H → t D σ H) : PS X e t' := ⟨fun pins s σ H D I q => h.run pins s σ H D I (w D σ H q)⟩
theorem _root_.L2.PSs.weak {X : Cx} {e : List Stmt} {t t' : TS} (h : PSs X e t) (w : ∀ D σ H, t' D σ H → t D σ H) : PSs X e t' := ⟨fun pins s σ H D I q => h.run pins s σ H D I (w D σ H q)⟩
end
end Mp
namespace Mp
open PySem PySem.Spec PyProof.Rows L2

/-! ### operations on data -/
abbrev Op2 := PV → PV → Sto → PK → Prop
abbrev BiF := List PV → Sto → PK → Prop
def newL (L : Sto) (xs : List PV) (R : PK) : Prop := ∀ p, L p = none → R (.ref p) (put L p (.l xs))
def oAdd : Op2 := fun x y L R => match x, y with
  | .int i, .int j => R (.int (i + j)) L
  | .str a, .str b => a.length + b.length ≤ sizeLine ∧ R (.str (a ++ b)) L
  | .tup xs, .tup ys => xs.length + ys.length ≤ sizeLine ∧ R (.tup (xs ++ ys)) L
  | .ref a, .ref b => ∃ xs ys, L a = some (.l xs) ∧ L b = some (.l ys) ∧ xs.length + ys.length ≤ sizeLine ∧ newL L (xs ++ ys) R
  | _, _ => False
def oSub : Op2 := fun x y L R => match x, y with
  | .int i, .int j => R (.int (i - j)) L
  | _, _ => False
structure MulOk (i j : Int) : Prop where
  ok : IntMulOk i j
structure PowOk (i j : Int) : Prop where
  nn : 0 ≤ j
  sz : (Builtin.Int.intBits i : Int) * j ≤ 2 ^ 27
def oMul : Op2 := fun x y L R => match x, y with
  | .int i, .int j => MulOk i j ∧ R (.int (i * j)) L
  | .ref a, .int k => ∃ xs, L a = some (.l xs) ∧ -(2 ^ 63) ≤ k ∧ k < 2 ^ 63 ∧ xs.length * k.toNat ≤ sizeLine ∧ newL L (List.replicate k.toNat xs).flatten R
  | _, _ => False
structure NoPl (i j : Int) : Prop where
  ok : Builtin.divisionGoesByPylong i j = false
def oDiv : Op2 := fun x y L R => match x, y with
  | .int i, .int j => j ≠ 0 ∧ NoPl i j ∧ R (.int (i.fdiv j)) L
  | _, _ => False
def oMod : Op2 := fun x y L R => match x, y with
  | .int i, .int j => j ≠ 0 ∧ R (.int (i.fmod j)) L
  | _, _ => False
def oPow : Op2 := fun x y L R => match x, y with
  | .int i, .int j => PowOk i j ∧ R (.int (i ^ j.toNat)) L
  | _, _ => False
def oI (g : Int → Int → Bool) : Op2 := fun x y L R => match x, y with
  | .int i, .int j => R (.bl (g i j)) L
  | _, _ => False
abbrev oLt : Op2 := oI fun i j => decide (i < j)
abbrev oLe : Op2 := oI fun i j => decide (i ≤ j)
abbrev oGt : Op2 := oI fun i j => decide (j < i)
abbrev oGe : Op2 := oI fun i j => decide (j ≤ i)
def isN : PV → Bool
  | .non => true
  | _ => false
def oIs : Op2 := fun x y L R => match y with
  | .non => R (.bl (isN x)) L
  | .bl b => (match x with
    | .bl a => R (.bl (decide (a = b))) L
    | _ => False)
  | _ => False
def oIsNot : Op2 := fun x y L R => match y with
  | .non => R (.bl (!isN x)) L
  | .bl b => (match x with
    | .bl a => R (.bl (!decide (a = b))) L
    | _ => False)
  | _ => False

mutual
inductive PD (L : Sto) : PV → PyData → Prop
  | non : PD L .non .none
  | bl (b : Bool) : PD L (.bl b) (.bool b)
  | int (i : Int) : PD L (.int i) (.int i)
  | str (x : Str) : PD L (.str x) (.str x)
  | lst {a : Addr} {xs : List PV} {ds : List PyData} : L a = some (.l xs) → PDs L xs ds → PD L (.ref a) (.list ds)
  | tup {xs : List PV} {ds : List PyData} : PDs L xs ds → PD L (.tup xs) (.tuple ds)
inductive PDs (L : Sto) : List PV → List PyData → Prop
  | nil : PDs L [] []
  | cons {x : PV} {xs : List PV} {d : PyData} {ds : List PyData} : PD L x d → PDs L xs ds → PDs L (x :: xs) (d :: ds)
end
def oEq : Op2 := fun x y L R => ∃ d e, PD L x d ∧ PD L y e ∧ SeqAt.shaped d = true ∧ SeqAt.shaped e = true ∧ R (.bl (PyData.eqv d e)) L
def oNe : Op2 := fun x y L R => ∃ d e, PD L x d ∧ PD L y e ∧ SeqAt.shaped d = true ∧ SeqAt.shaped e = true ∧ R (.bl (!PyData.eqv d e)) L

section
variable {K : PySem.W.Frag} {H H' : Hp} {L : Sto}
mutual
theorem PD.dp (r : RepH K H L) : ∀ {x : PV} {d : PyData} {v : V}, PD L x d → RepV K H x v → Dp K H v d
  | _, _, _, .non, h => by cases (show _ = _ from h); exact .non
  | _, _, _, .bl b, h => by cases (show _ = _ from h); exact .bl b
  | _, _, _, .int b, h => by cases (show _ = _ from h); exact .int b
  | _, _, _, .str b, h => by cases (show _ = _ from h); exact .str b
  | _, _, _, .lst ha hs, h => by
    cases (show _ = _ from h)
    obtain ⟨vs, h1, h2⟩ := r.lst ha
    exact .lst (.inl (.inl h1)) (PDs.dp r hs h2)
  | _, _, _, .tup hs, h => by
    obtain ⟨a, vs, rfl, h1, h2⟩ := h
    exact .tup h1.sq (PDs.dp r hs h2)
theorem PDs.dp (r : RepH K H L) : ∀ {x : List PV} {d : List PyData} {v : List V}, PDs L x d → RepVs K H x v → DpAll K H v d
  | _, _, _, .nil, h => by cases (show _ = _ from h); exact .nil
  | _, _, _, .cons h1 h2, h => by
    obtain ⟨v, r', rfl, q1, q2⟩ := h
    exact .cons (PD.dp r h1 q1) (PDs.dp r h2 q2)
end
end

/-! ### soundness of the two-place operations -/
def OpS (K : PySem.W.Frag) (f : Op2) (r : R2) : Prop := ∀ (x y : PV) (v u : V) (H : Hp) (L : Sto) (R : PK) (Q : VK), RepV K H x v → RepV K H y u → RepH K H L → f x y L R → Kt K H L R Q → r v u H Q
/-- the machine's operation fn keeps to f -/
def OpOk (X : Cx) (fn : Value → Value → Sem Value) (f : Op2) : Prop := ∃ r, OpR X fn r ∧ OpS X.K f r
section
variable {X : Cx} {K : PySem.W.Frag} {H H' : Hp} {L : Sto} {R : PK} {Q : VK}
theorem Kt.here (k : Kt K H L R Q) (rh : RepH K H L) {x : PV} {v : V} (h : R x L) (rv : RepV K H x v) : Q v H := k x L v H h .refl rv rh
theorem Kt.newl (k : Kt K H L R Q) (rh : RepH K H L) {xs : List PV} {vs : List V} (h : newL L xs R) (rv : RepVs K H xs vs) : ∀ p, H p = none → Q (.ref p) (upd H p (.lst vs)) := fun p hp =>
  k _ _ _ _ (h p (rh.fresh hp)) (fm_new hp) rfl (reph_new rh hp rv)
theorem Kt.newt (k : Kt K H L R Q) (rh : RepH K H L) {xs : List PV} {vs : List V} (h : R (.tup xs) L) (rv : RepVs K H xs vs) : ∀ p, H p = none → Q (.ref p) (upd H p (.tup vs)) := fun p hp =>
  k _ _ _ _ h (fm_tup rh hp) (repv_tup rv hp) (reph_tup rh hp)
theorem ok_add : OpOk X (binaryOp .Add) oAdd := by
  refine ⟨_, op_add.or (op_add_str.or (op_catA.or op_cat)), ?_⟩
  intro x y v u H L R Q rx ry rh h k
  cases x <;> cases y <;> first | exact absurd h (fun z => z) | skip
  · cases (show _ = _ from rx); cases (show _ = _ from ry)
    exact .inl ⟨_, _, rfl, rfl, k.here rh h rfl⟩
  · cases (show _ = _ from rx); cases (show _ = _ from ry)
    exact .inr (.inl ⟨_, _, rfl, rfl, h.1, k.here rh h.2 rfl⟩)
  · cases (show _ = _ from rx); cases (show _ = _ from ry)
    obtain ⟨xs, ys, h1, h2, h3, h4⟩ := h
    obtain ⟨vs, e1, r1⟩ := rh.lst h1
    obtain ⟨ws, e2, r2⟩ := rh.lst h2
    exact .inr (.inr (.inr ⟨_, _, vs, ws, rfl, rfl, e1, e2, by rw [← r1.length, ← r2.length]; exact h3, k.newl rh h4 (r1.append r2)⟩))
  · obtain ⟨a, vs, rfl, t1, r1⟩ := rx
    obtain ⟨b, ws, rfl, t2, r2⟩ := ry
    refine .inr (.inr (.inl ⟨a, b, vs, ws, rfl, rfl, t1.sq, t2.sq, by rw [← r1.length, ← r2.length]; exact h.1, fun z => ?_, fun z1 z2 => ?_, fun _ _ => k.newt rh h.2 (r1.append r2)⟩))
    · subst z
      rename_i xs ys
      have e : xs = [] := List.eq_nil_of_length_eq_zero (by rw [r1.length]; rfl)
      subst e
      exact k.here rh h.2 ⟨b, ws, rfl, t2, r2⟩
    · subst z2
      rename_i xs ys
      have e : ys = [] := List.eq_nil_of_length_eq_zero (by rw [r2.length]; rfl)
      subst e
      refine k.here rh (x := .tup (xs ++ [])) h.2 ⟨a, vs, rfl, t1, ?_⟩
      rw [List.append_nil]
      exact r1
theorem ok_sub : OpOk X (binaryOp .Sub) oSub := by
  refine ⟨_, op_sub, ?_⟩
  intro x y v u H L R Q rx ry rh h k
  cases x <;> cases y <;> first | exact absurd h (fun z => z) | skip
  cases (show _ = _ from rx); cases (show _ = _ from ry)
  exact ⟨_, _, rfl, rfl, k.here rh h rfl⟩
theorem op_mulA : OpR X (binaryOp .Mult) (rI MulOk fun i j => .int (i * j)) := opI fun _ _ _ _ _ _ _ hc q => mul_int q hc.ok
theorem op_powA : OpR X (binaryOp .Pow) (rI PowOk fun i j => .int (i ^ j.toNat)) := opI fun _ _ _ _ _ _ _ hc q => pow_int hc.nn hc.sz q
theorem op_fdivA : OpR X (binaryOp .FloorDiv) (rI (fun i j => j ≠ 0 ∧ NoPl i j) fun i j => .int (i.fdiv j)) := opI fun _ _ _ _ _ _ _ hc q => floordiv_int hc.1 q (.inl hc.2.ok)
theorem ok_mul : OpOk X (binaryOp .Mult) oMul := by
  refine ⟨_, op_mulA.or op_rep, ?_⟩
  intro x y v u H L R Q rx ry rh h k
  cases x <;> cases y <;> first | exact absurd h (fun z => z) | skip
  · cases (show _ = _ from rx); cases (show _ = _ from ry)
    exact .inl ⟨_, _, rfl, rfl, h.1, k.here rh h.2 rfl⟩
  · cases (show _ = _ from rx); cases (show _ = _ from ry)
    obtain ⟨xs, h1, h2, h3, h4, h5⟩ := h
    obtain ⟨vs, e1, r1⟩ := rh.lst h1
    exact .inr ⟨_, _, vs, rfl, rfl, e1, h2, h3, by rw [← r1.length]; exact h4, k.newl rh h5 (r1.rep _)⟩
theorem ok_div : OpOk X (binaryOp .FloorDiv) oDiv := by
  refine ⟨_, op_fdivA, ?_⟩
  intro x y v u H L R Q rx ry rh h k
  cases x <;> cases y <;> first | exact absurd h (fun z => z) | skip
  cases (show _ = _ from rx); cases (show _ = _ from ry)
  exact ⟨_, _, rfl, rfl, ⟨h.1, h.2.1⟩, k.here rh h.2.2 rfl⟩
theorem ok_mod : OpOk X (binaryOp .Mod) oMod := by
  refine ⟨_, op_modN, ?_⟩
  intro x y v u H L R Q rx ry rh h k
  cases x <;> cases y <;> first | exact absurd h (fun z => z) | skip
  cases (show _ = _ from rx); cases (show _ = _ from ry)
  exact ⟨_, _, rfl, rfl, h.1, k.here rh h.2 rfl⟩
theorem ok_pow : OpOk X (binaryOp .Pow) oPow := by
  refine ⟨_, op_powA, ?_⟩
  intro x y v u H L R Q rx ry rh h k
  cases x <;> cases y <;> first | exact absurd h (fun z => z) | skip
  cases (show _ = _ from rx); cases (show _ = _ from ry)
  exact ⟨_, _, rfl, rfl, h.1, k.here rh h.2 rfl⟩
theorem okI {op : CmpOp} {g : Int → Int → Bool} (ho : OpR X (compareOp op) (rI0 fun i j => .bl (g i j))) : OpOk X (compareOp op) (oI g) := by
  refine ⟨_, ho, ?_⟩
  intro x y v u H L R Q rx ry rh h k
  cases x <;> cases y <;> first | exact absurd h (fun z => z) | skip
  cases (show _ = _ from rx); cases (show _ = _ from ry)
  exact ⟨_, _, rfl, rfl, k.here rh h rfl⟩
theorem ok_lt : OpOk X (compareOp .Lt) oLt := okI op_lt
theorem ok_le : OpOk X (compareOp .LtE) oLe := okI op_le
theorem ok_gt : OpOk X (compareOp .Gt) oGt := okI op_gt
theorem ok_ge : OpOk X (compareOp .GtE) oGe := okI op_ge
theorem repv_non {x : PV} {v : V} (r : RepV K H x v) : decide (v = .non) = isN x := by
  cases x with
  | non => cases (show _ = _ from r); rfl
  | fz ns => obtain ⟨a, rfl, _⟩ := r; rfl
  | tup ns => obtain ⟨a, vs, rfl, _⟩ := r; rfl
  | _ => cases (show _ = _ from r); rfl
theorem ok_is : OpOk X (compareOp .Is) oIs := by
  refine ⟨_, op_isN.or op_isBl, ?_⟩
  intro x y v u H L R Q rx ry rh h k
  have e := repv_non rx
  unfold oIs at h
  split at h
  · cases (show _ = _ from ry)
    exact .inl ⟨rfl, by rw [e]; exact k.here rh h rfl⟩
  · cases (show _ = _ from ry)
    split at h
    · cases (show _ = _ from rx)
      exact .inr ⟨_, _, rfl, rfl, k.here rh h rfl⟩
    · exact h.elim
  · exact h.elim
theorem ok_isnot : OpOk X (compareOp .IsNot) oIsNot := by
  refine ⟨_, op_notN.or op_notBl, ?_⟩
  intro x y v u H L R Q rx ry rh h k
  have e := repv_non rx
  unfold oIsNot at h
  split at h
  · cases (show _ = _ from ry)
    exact .inl ⟨rfl, by rw [e]; exact k.here rh h rfl⟩
  · cases (show _ = _ from ry)
    split at h
    · cases (show _ = _ from rx)
      exact .inr ⟨_, _, rfl, rfl, k.here rh h rfl⟩
    · exact h.elim
  · exact h.elim
theorem ok_eq (hu : X.A.units + 64 < cLine) : OpOk X (compareOp .Eq) oEq := by
  refine ⟨_, op_eqD hu, ?_⟩
  rintro x y v u H L R Q rx ry rh ⟨d, e, h1, h2, h3, h4, h5⟩ k
  exact ⟨d, e, h1.dp rh rx, h2.dp rh ry, h3, h4, k.here rh h5 rfl⟩
theorem ok_ne (hu : X.A.units + 64 < cLine) : OpOk X (compareOp .NotEq) oNe := by
  refine ⟨_, op_neD hu, ?_⟩
  rintro x y v u H L R Q rx ry rh ⟨d, e, h1, h2, h3, h4, h5⟩ k
  exact ⟨d, e, h1.dp rh rx, h2.dp rh ry, h3, h4, k.here rh h5 rfl⟩
end

/-! ### expressions -/
def gv : Env → Nat → Option PV
  | [], _ => none
  | x :: _, 0 => x
  | _ :: r, i + 1 => gv r i
theorem gv_some : ∀ {env : Env} {i : Nat} {x : PV}, gv env i = some x → env[i]? = some (some x)
  | [], _, _, h => by cases h
  | _ :: _, 0, _, h => by
    have h : _ = _ := h
    simp only [gv] at h
    rw [h]
    rfl
  | _ :: r, i + 1, x, h => by
    have := gv_some (env := r) (i := i) h
    simpa using this
def wVar (i : Nat) : WE := fun env L R => match gv env i with
  | some x => R x L
  | none => False
def wC (x : PV) : WE := fun _ L R => R x L
def wBin (f : Op2) (a b : WE) : WE := fun env L R => a env L fun x La => b env La fun y Lb => f x y Lb R
def wUn (f : PV → Sto → PK → Prop) (a : WE) : WE := fun env L R => a env L fun x La => f x La R
def oNeg : PV → Sto → PK → Prop := fun x L R => match x with
  | .int i => R (.int (-i)) L
  | _ => False
def bIf (x : PV) (A B : Prop) : Prop := match x with
  | .bl c => if c = true then A else B
  | _ => False
def wAnd (a b : WE) : WE := fun env L R => a env L fun x La => bIf x (b env La R) (R (.bl false) La)
def wOr (a b : WE) : WE := fun env L R => a env L fun x La => bIf x (R (.bl true) La) (b env La R)
def oNot : PV → Sto → PK → Prop := fun x L R => match x with
  | .bl c => R (.bl (!c)) L
  | _ => False
def wIfE (t a b : WE) : WE := fun env L R => t env L fun x La => bIf x (a env La R) (b env La R)
def wChain (f g : Op2) (a b c : WE) : WE := fun env L R => a env L fun x La => b env La fun y Lb => f x y Lb fun z Lc => bIf z (c env Lc fun w Ld => g y w Ld R) (R (.bl false) Lc)
def wTup (ws : List WE) : WE := fun env L R => wAr ws env L fun xs La => xs.length ≤ sizeLine ∧ R (.tup xs) La
def wLst (ws : List WE) : WE := fun env L R => wAr ws env L fun xs La => xs.length ≤ sizeLine ∧ newL La xs R
def wBi (g : BiF) (ws : List WE) : WE := fun env L R => wAr ws env L fun xs La => g xs La R

section
variable {X : Cx} {pos : Pos} {a b c : Expr} {wa wb wc : WE}
theorem lift_bin {f : Op2} {r : R2} {σ : L2.St} {H : Hp} {Q : VK} (hf : OpS X.K f r) (h : liftE X.K (wBin f wa wb) σ H Q) : tOp r (liftE X.K wa) (liftE X.K wb) σ H Q := by
  obtain ⟨env, L, R, hs, hL, hw, k⟩ := h
  refine ⟨env, L, _, hs, hL, hw, fun x La v H1 hb f1 rx r1 => ?_⟩
  refine ⟨env, La, _, hs.ex (f1.ex hL), r1, hb, fun y Lb u H2 hc f2 ry r2 => ?_⟩
  exact hf x y v u H2 Lb R Q (rx.ex (f2.ex r1)) ry r2 hc (k.fm (f1.trans f2))
theorem q_var {i : Nat} {x : Str} (hN : X.N[i]? = some x) (hv : Vis X.env.scope x) (hd : (x == ("__debug__" : Str)) = false) (hcd : (x == ("__classdict__" : Str)) = false) : PE X (.Name x pos) (liftE X.K (wVar i)) :=
  (pe_var hN hv hd hcd).weak fun σ H Q h => by
    obtain ⟨env, L, R, hs, hL, hw, k⟩ := h
    unfold wVar at hw
    cases e : gv env i with
    | none => rw [e] at hw; exact hw.elim
    | some x =>
      rw [e] at hw
      obtain ⟨v, e1, r1⟩ := hs.2 i x (gv_some e)
      exact ⟨v, e1, k.here hL hw r1⟩
theorem q_const {e : Expr} {v : V} {x : PV} (h : PE X e (tC v)) (r : ∀ H, RepV X.K H x v) : PE X e (liftE X.K (wC x)) := h.weak fun σ H Q h => by
  obtain ⟨env, L, R, hs, hL, hw, k⟩ := h
  exact k.here hL hw (r H)
theorem q_bin {op : Operator} {f : Op2} (ho : OpOk X (binaryOp op) f) (ha : PE X a (liftE X.K wa)) (hb : PE X b (liftE X.K wb)) : PE X (.BinOp a op b pos) (liftE X.K (wBin f wa wb)) := by
  obtain ⟨r, h1, h2⟩ := ho
  exact (pe_op h1 ha hb).weak fun σ H Q h => lift_bin h2 h
theorem q_cmp {op : CmpOp} {f : Op2} (ho : OpOk X (compareOp op) f) (ha : PE X a (liftE X.K wa)) (hb : PE X b (liftE X.K wb)) (hm : behindInMarks op b = false) : PE X (.Compare a [op] [b] pos) (liftE X.K (wBin f wa wb)) := by
  obtain ⟨r, h1, h2⟩ := ho
  exact (pe_cmpR h1 ha hb hm).weak fun σ H Q h => lift_bin h2 h
theorem lift_test {w : WE} {te : TE} (hw : ∀ σ H Q, liftE X.K w σ H Q → te σ H Q) {σ : L2.St} {H : Hp} {Q : Bool → Hp → Prop} (h : liftT X.K w σ H Q) : te σ H fun x H' => ∃ k, x = .bl k ∧ Q k H' := by
  obtain ⟨env, L, R, hs, hL, hw', k⟩ := h
  refine hw σ H _ ⟨env, L, R, hs, hL, hw', fun x L' v H' r f rv rh => ?_⟩
  obtain ⟨b, rfl, q⟩ := k x L' H' r f rh
  exact ⟨b, rv, q⟩
theorem t_cmp {op : CmpOp} {f : Op2} (ho : OpOk X (compareOp op) f) (ha : PE X a (liftE X.K wa)) (hb : PE X b (liftE X.K wb)) (hm : behindInMarks op b = false) : PT X (.Compare a [op] [b] pos) (liftT X.K (wBin f wa wb)) := by
  obtain ⟨r, h1, h2⟩ := ho
  exact (pt_cmpR h1 ha hb hm).weak fun σ H Q h => lift_test (fun σ H Q h => lift_bin h2 h) h
theorem t_val {e : Expr} {w : WE} (h : PE X e (liftE X.K w)) (he : ∀ whole, isTrue e X.env whole = (do let v ← whole; standAt e.pos; holding [v] (truthy v))) : PT X e (liftT X.K w) :=
  (pt_val h he).weak fun σ H Q h => lift_test (fun σ H Q h => h) h
theorem lift_chain {f g : Op2} {r r' : R2} {σ : L2.St} {H : Hp} {Q : VK} (hf : OpS X.K f r) (hg : OpS X.K g r') (h : liftE X.K (wChain f g wa wb wc) σ H Q) : tChain r r' (liftE X.K wa) (liftE X.K wb) (liftE X.K wc) σ H Q := by
  obtain ⟨env, L, R, hs, hL, hw, k⟩ := h
  refine ⟨env, L, _, hs, hL, hw, fun x La v H1 hb f1 rx r1 => ?_⟩
  refine ⟨env, La, _, hs.ex (f1.ex hL), r1, hb, fun y Lb u H2 hc f2 ry r2 => ?_⟩
  refine hf x y v u H2 Lb _ _ (rx.ex (f2.ex r1)) ry r2 hc fun z Lc zv H3 hz f3 rz r3 => ?_
  cases z <;> first | exact absurd hz (fun z => z) | skip
  rename_i k'
  cases (show _ = _ from rz)
  refine ⟨k', rfl, ?_⟩
  have hz : if k' = true then _ else _ := hz
  cases k' with
  | false =>
    rw [if_neg Bool.false_ne_true] at hz ⊢
    exact (k.fm ((f1.trans f2).trans f3)).here r3 hz rfl
  | true =>
    rw [if_pos rfl] at hz ⊢
    refine ⟨env, Lc, _, ((hs.ex (f1.ex hL)).ex (f2.ex r1)).ex (f3.ex r2), r3, hz, fun w Ld wv H4 hw4 f4 rw r4 => ?_⟩
    exact hg y w u wv H4 Ld R Q ((ry.ex (f3.ex r2)).ex (f4.ex r3)) rw r4 hw4 (k.fm (((f1.trans f2).trans f3).trans f4))
theorem q_chain {op op' : CmpOp} {f g : Op2} (ho : OpOk X (compareOp op) f) (ho' : OpOk X (compareOp op') g) (ha : PE X a (liftE X.K wa)) (hb : PE X b (liftE X.K wb)) (hc : PE X c (liftE X.K wc)) (hm : lastMarks [op, op'] [b, c] = false) :
    PE X (.Compare a [op, op'] [b, c] pos) (liftE X.K (wChain f g wa wb wc)) := by
  obtain ⟨r, h1, h2⟩ := ho
  obtain ⟨r', h1', h2'⟩ := ho'
  exact (pe_chain h1 h1' ha hb hc hm).weak fun σ H Q h => lift_chain h2 h2' h
theorem t_chain {op op' : CmpOp} {f g : Op2} (ho : OpOk X (compareOp op) f) (ho' : OpOk X (compareOp op') g) (ha : PE X a (liftE X.K wa)) (hb : PE X b (liftE X.K wb)) (hc : PE X c (liftE X.K wc)) (hm : lastMarks [op, op'] [b, c] = false) :
    PT X (.Compare a [op, op'] [b, c] pos) (liftT X.K (wChain f g wa wb wc)) := by
  obtain ⟨r, h1, h2⟩ := ho
  obtain ⟨r', h1', h2'⟩ := ho'
  exact (pt_chain h1 h1' ha hb hc hm).weak fun σ H Q h => lift_test (fun σ H Q h => lift_chain h2 h2' h) h
theorem q_neg (ha : PE X a (liftE X.K wa)) : PE X (.UnaryOp .USub a pos) (liftE X.K (wUn oNeg wa)) := (pe_un un_neg ha).weak fun σ H Q h => by
  obtain ⟨env, L, R, hs, hL, hw, k⟩ := h
  refine ⟨env, L, _, hs, hL, hw, fun x La v H1 hb f1 rx r1 => ?_⟩
  cases x <;> first | exact absurd hb (fun z => z) | skip
  cases (show _ = _ from rx)
  exact ⟨_, rfl, (k.fm f1).here r1 hb rfl⟩
theorem q_not (ha : PE X a (liftE X.K wa)) : PE X (.UnaryOp .Not a pos) (liftE X.K (wUn oNot wa)) := (pe_not ha).weak fun σ H Q h => by
  obtain ⟨env, L, R, hs, hL, hw, k⟩ := h
  refine ⟨env, L, _, hs, hL, hw, fun x La v H1 hb f1 rx r1 => ?_⟩
  cases x <;> first | exact absurd hb (fun z => z) | skip
  cases (show _ = _ from rx)
  exact ⟨_, rfl, (k.fm f1).here r1 hb rfl⟩
theorem t_not (ha : PT X a (liftT X.K wa)) : PT X (.UnaryOp .Not a pos) (liftT X.K (wUn oNot wa)) := (pt_not ha).weak fun σ H Q h => by
  obtain ⟨env, L, R, hs, hL, hw, k⟩ := h
  refine ⟨env, L, _, hs, hL, hw, fun x La H1 hb f1 r1 => ?_⟩
  cases x <;> first | exact absurd hb (fun z => z) | skip
  refine ⟨_, rfl, ?_⟩
  obtain ⟨b, e, q⟩ := k _ La H1 hb f1 r1
  cases e
  exact q
variable {rest : List Expr}
theorem bIf_bl {x : PV} {A B : Prop} (h : bIf x A B) : ∃ c, x = .bl c ∧ if c = true then A else B := by
  cases x <;> first | exact absurd h (fun z => z) | exact ⟨_, rfl, h⟩
theorem q_and (ha : PE X a (liftE X.K wa)) (hb : PE X (.BoolOp .And (b :: rest) pos) (liftE X.K wb)) : PE X (.BoolOp .And (a :: b :: rest) pos) (liftE X.K (wAnd wa wb)) := (pe_and ha hb).weak fun σ H Q h => by
  obtain ⟨env, L, R, hs, hL, hw, k⟩ := h
  refine ⟨env, L, _, hs, hL, hw, fun x La v H1 hb f1 rx r1 => ?_⟩
  obtain ⟨c, rfl, hc⟩ := bIf_bl hb
  cases (show _ = _ from rx)
  refine ⟨c, rfl, ?_⟩
  cases c with
  | true => exact ⟨env, La, R, hs.ex (f1.ex hL), r1, hc, k.fm f1⟩
  | false => exact (k.fm f1).here r1 hc rfl
theorem q_or (ha : PE X a (liftE X.K wa)) (hb : PE X (.BoolOp .Or (b :: rest) pos) (liftE X.K wb)) : PE X (.BoolOp .Or (a :: b :: rest) pos) (liftE X.K (wOr wa wb)) := (pe_or ha hb).weak fun σ H Q h => by
  obtain ⟨env, L, R, hs, hL, hw, k⟩ := h
  refine ⟨env, L, _, hs, hL, hw, fun x La v H1 hb f1 rx r1 => ?_⟩
  obtain ⟨c, rfl, hc⟩ := bIf_bl hb
  cases (show _ = _ from rx)
  refine ⟨c, rfl, ?_⟩
  cases c with
  | false => exact ⟨env, La, R, hs.ex (f1.ex hL), r1, hc, k.fm f1⟩
  | true => exact (k.fm f1).here r1 hc rfl
theorem q_one {op} (ha : PE X a (liftE X.K wa)) : PE X (.BoolOp op [a] pos) (liftE X.K wa) := pe_one ha
theorem w_and1 (ha : PT X a (liftT X.K wa)) : PW X (.BoolOp .And [a] pos) (liftT X.K wa) := pw_and1 ha
theorem w_or1 (ha : PT X a (liftT X.K wa)) : PW X (.BoolOp .Or [a] pos) (liftT X.K wa) := pw_or1 ha
theorem pw_weak {e : Expr} {t t' : TT} (h : PW X e t) (w : ∀ σ H Q, t' σ H Q → t σ H Q) : PW X e t' := ⟨fun wh pins s σ H Q I q => h.run wh pins s σ H Q I (w σ H Q q)⟩
theorem w_and (ha : PT X a (liftT X.K wa)) (hb : PW X (.BoolOp .And (b :: rest) pos) (liftT X.K wb)) : PW X (.BoolOp .And (a :: b :: rest) pos) (liftT X.K (wAnd wa wb)) := pw_weak (pw_and ha hb) fun σ H Q h => by
  obtain ⟨env, L, R, hs, hL, hw, k⟩ := h
  refine ⟨env, L, _, hs, hL, hw, fun x La H1 hb f1 r1 => ?_⟩
  obtain ⟨c, rfl, hc⟩ := bIf_bl hb
  refine ⟨c, rfl, ?_⟩
  cases c with
  | true => exact ⟨env, La, R, hs.ex (f1.ex hL), r1, hc, fun x L' H' r f rh => k x L' H' r (f1.trans f) rh⟩
  | false =>
    obtain ⟨b, e, q⟩ := k _ La H1 hc f1 r1
    cases e
    exact q
theorem w_or (ha : PT X a (liftT X.K wa)) (hb : PW X (.BoolOp .Or (b :: rest) pos) (liftT X.K wb)) : PW X (.BoolOp .Or (a :: b :: rest) pos) (liftT X.K (wOr wa wb)) := pw_weak (pw_or ha hb) fun σ H Q h => by
  obtain ⟨env, L, R, hs, hL, hw, k⟩ := h
  refine ⟨env, L, _, hs, hL, hw, fun x La H1 hb f1 r1 => ?_⟩
  obtain ⟨c, rfl, hc⟩ := bIf_bl hb
  refine ⟨c, rfl, ?_⟩
  cases c with
  | false => exact ⟨env, La, R, hs.ex (f1.ex hL), r1, hc, fun x L' H' r f rh => k x L' H' r (f1.trans f) rh⟩
  | true =>
    obtain ⟨b, e, q⟩ := k _ La H1 hc f1 r1
    cases e
    exact q
theorem q_ifE (hc : PT X c (liftT X.K wc)) (ha : PE X a (liftE X.K wa)) (hb : PE X b (liftE X.K wb)) : PE X (.IfExp c a b pos) (liftE X.K (wIfE wc wa wb)) := (pe_ifExp hc ha hb).weak fun σ H Q h => by
  obtain ⟨env, L, R, hs, hL, hw, k⟩ := h
  refine ⟨env, L, _, hs, hL, hw, fun x La H1 hb f1 r1 => ?_⟩
  obtain ⟨c, rfl, hc⟩ := bIf_bl hb
  refine ⟨c, rfl, ?_⟩
  cases c with
  | true => exact ⟨env, La, R, hs.ex (f1.ex hL), r1, hc, k.fm f1⟩
  | false => exact ⟨env, La, R, hs.ex (f1.ex hL), r1, hc, k.fm f1⟩
/-- arguments -/
theorem q_nil : PA X [] (liftA X.K []) := (pa_nil).weak fun σ H Q h => by
  obtain ⟨env, L, R, hs, hL, hw, k⟩ := h
  exact k [] L [] H hw rfl .refl rfl hL
theorem q_cons {es : List Expr} {ws : List WE} (ha : PE X a (liftE X.K wa)) (hr : PA X es (liftA X.K ws)) (hs : starEach (a :: es) X.env = (false, eval a X.env) :: starEach es X.env) : PA X (a :: es) (liftA X.K (wa :: ws)) := (pa_cons ha hr hs).weak fun σ H Q h => by
  obtain ⟨env, L, R, hs, hL, hw, k⟩ := h
  refine ⟨env, L, _, hs, hL, hw, fun x La v H1 hb f1 rx r1 => ?_⟩
  refine ⟨env, La, _, hs.ex (f1.ex hL), r1, hb, fun xs Lb vs H2 hc hn f2 rxs r2 => ?_⟩
  exact k (x :: xs) Lb (v :: vs) H2 hc (by rw [List.length_cons, List.length_cons, hn]) (f1.trans f2) ⟨v, vs, rfl, rx.ex (f2.ex r1), rxs⟩ r2
theorem q_tup {es : List Expr} {ws : List WE} {x1} (h : PA X es (liftA X.K ws)) : PE X (.Tuple es x1 pos) (liftE X.K (wTup ws)) := (pe_tup h).weak fun σ H Q h => by
  obtain ⟨env, L, R, hs, hL, hw, k⟩ := h
  exact ⟨env, L, _, hs, hL, hw, fun xs La vs H1 hb hn f1 rx r1 => ⟨by rw [← rx.length]; exact hb.1, (k.fm f1).newt r1 hb.2 rx⟩⟩
theorem q_lst {es : List Expr} {ws : List WE} (h : PA X es (liftA X.K ws)) : PE X (.List es pos) (liftE X.K (wLst ws)) := (pe_lst h).weak fun σ H Q h => by
  obtain ⟨env, L, R, hs, hL, hw, k⟩ := h
  exact ⟨env, L, _, hs, hL, hw, fun xs La vs H1 hb hn f1 rx r1 => ⟨by rw [← rx.length]; exact hb.1, (k.fm f1).newl r1 hb.2 rx⟩⟩
/-- a builtin's rule over data -/
def BiS (K : PySem.W.Frag) (g : BiF) (r : List V → Hp → VK → Prop) : Prop := ∀ (xs : List PV) (vs : List V) (H : Hp) (L : Sto) (R : PK) (Q : VK), RepVs K H xs vs → RepH K H L → g xs L R → Kt K H L R Q → r vs H Q
def BiOk (X : Cx) (f : Value) (g : BiF) : Prop := ∃ r, CallR X f r ∧ BiS X.K g r
theorem lift_bi {g : BiF} {r : List V → Hp → VK → Prop} {ws : List WE} {σ : L2.St} {H : Hp} {Q : VK} (hg : BiS X.K g r) (h : liftE X.K (wBi g ws) σ H Q) : tCB r (liftA X.K ws) σ H Q := by
  obtain ⟨env, L, R, hs, hL, hw, k⟩ := h
  exact ⟨env, L, _, hs, hL, hw, fun xs La vs H1 hb hn f1 rx r1 => hg xs vs H1 La R Q rx r1 hb (k.fm f1)⟩
end
end Mp
namespace Mp
open PySem PySem.Spec PyProof.Rows L2

/-! ### subscripts, slices -/
def cutP {α : Type} (xs : List α) (lo hi : Option Int) : List α := (xs.drop (HT.sIx xs.length 0 lo)).take (HT.sIx xs.length xs.length hi - HT.sIx xs.length 0 lo)
def oIx : Op2 := fun x y L R => match x, y with
  | .tup xs, .int i => match atI xs i with
    | some v => R v L
    | none => False
  | .ref a, y => match L a with
    | some (.l xs) => (match y with
      | .int i => (match atI xs i with
        | some v => R v L
        | none => False)
      | _ => False)
    | some (.d kvs) => (match y with
      | .int i => (match kvs.find? (fun kv => decide (kv.1 = .inl i)) with
        | some kv => R kv.2 L
        | none => False)
      | .str i => (match kvs.find? (fun kv => decide (kv.1 = .inr i)) with
        | some kv => R kv.2 L
        | none => False)
      | _ => False)
    | none => False
  | .fz ns, .int i => match atI ns i with
    | some v => R (.int v) L
    | none => False
  | .str z, .int i => z.length ≤ sizeLine ∧ match atI z.cps.toList i with
    | some c => R (.str ⟨#[c]⟩) L
    | none => False
  | _, _ => False
def oSl (x : PV) (lo hi : Option Int) (L : Sto) (R : PK) : Prop := match x with
  | .tup xs => R (.tup (cutP xs lo hi)) L
  | .ref a => match L a with
    | some (.l xs) => newL L (cutP xs lo hi) R
    | _ => False
  | .fz ns => newL L ((cutP ns lo hi).map PV.int) R
  | .str z => z.length ≤ sizeLine ∧ R (.str (cutS z lo hi)) L
  | _ => False
section
variable {K : PySem.W.Frag} {H : Hp} {L : Sto}
theorem RepVs.at {xs : List PV} {vs : List V} {i : Int} {x : PV} (r : RepVs K H xs vs) (h : atI xs i = some x) : ∃ v, atI vs i = some v ∧ RepV K H x v := by
  unfold atI at h ⊢
  rw [← r.length]
  cases e : ixN xs.length i with
  | none => rw [e] at h; cases h
  | some j =>
    rw [e] at h
    obtain ⟨v, h1, h2⟩ := r.get (i := j) h
    exact ⟨v, h1, h2⟩
theorem RepVs.cut {xs : List PV} {vs : List V} (r : RepVs K H xs vs) (lo hi : Option Int) : RepVs K H (cutP xs lo hi) (cutV vs lo hi) := by
  unfold cutP cutV
  rw [r.length]
  exact (r.drop _).take _
theorem atI_map {α β : Type} (f : α → β) (xs : List α) (i : Int) : atI (xs.map f) i = (atI xs i).map f := by
  unfold atI
  rw [List.length_map]
  cases ixN xs.length i with
  | none => rfl
  | some j => exact List.getElem?_map
theorem cut_map (xs : List Int) (lo hi : Option Int) : cutV (xs.map V.int) lo hi = (cutP xs lo hi).map V.int := by
  unfold cutP cutV
  rw [List.length_map, List.map_take, List.map_drop]
theorem RepKs.find {k : Key} {kv : Key × PV} : ∀ {kvs : List (Key × PV)} {ks : List (Key × V)}, RepKs K H kvs ks → kvs.find? (fun kv => decide (kv.1 = k)) = some kv → ∃ v, valV ks k = some v ∧ RepV K H kv.2 v
  | [], _, _, e => by cases e
  | (k', x) :: r, _, ⟨v, ks, h1, h2, h3⟩, e => by
    subst h1
    rw [List.find?_cons] at e
    unfold valV
    rw [List.find?_cons]
    by_cases q : k' = k
    · rw [show decide (k' = k) = true from decide_eq_true q] at e ⊢
      cases e
      exact ⟨v, rfl, h2⟩
    · rw [show decide (k' = k) = false from decide_eq_false q] at e ⊢
      exact RepKs.find h3 e
theorem fz_sq {ns : List Int} {v : V} (h : RepV K H (.fz ns) v) : ∃ a, v = .ref a ∧ SqL K H a (ns.map V.int) := by
  obtain ⟨a, rfl, h⟩ := h
  refine ⟨a, rfl, ?_⟩
  rcases h with ⟨o, h⟩ | h
  · exact .inl (.inr ⟨o, h⟩)
  · exact sqL_up h
end
section
variable {X : Cx} {pos : Pos} {a b c : Expr} {wa wb wc : WE}
theorem ix_dict (hu : X.A.units + 1 < cLine) : IxR X (fun x y H Q => ∃ a v, x = .ref a ∧ DGet H a y (some v) ∧ Q v H) := by
  intro value slice pins s σ H x y v u Q I rx ry h hs
  obtain ⟨a, w, rfl, g, q⟩ := h
  cases rx
  exact tail_any (dict_typeIs I g) PySem.F.slot_dict_getitem.lookup (d_getItem hu I g ry fun w' s3 I3 rw' => ⟨w, H, I3, rw', q⟩) hs
def IxOk (X : Cx) (f : Op2) : Prop := ∃ r, IxR X r ∧ OpS X.K f r
theorem ok_ix (hu : X.A.units + 1 < cLine) : IxOk X oIx := by
  refine ⟨_, ix_list.or (ix_tup.or (ix_str.or (ix_dict hu))), ?_⟩
  intro x y v u H L R Q rx ry rh h k
  cases x with
  | tup xs =>
    cases y <;> first | exact absurd h (fun z => z) | skip
    rename_i i
    obtain ⟨a, vs, rfl, t, r⟩ := rx
    cases (show _ = _ from ry)
    simp only [oIx] at h
    cases e : atI xs i with
    | none => rw [e] at h; exact h.elim
    | some z =>
      rw [e] at h
      obtain ⟨w, h1, h2⟩ := r.at e
      exact .inr (.inl ⟨a, vs, i, w, rfl, rfl, t.sq, h1, k.here rh h h2⟩)
  | ref a =>
    cases (show _ = _ from rx)
    simp only [oIx] at h
    cases e : L a with
    | none => rw [e] at h; exact h.elim
    | some o =>
      rw [e] at h
      cases o with
      | d kvs =>
        obtain ⟨ks, h1, r⟩ := rh.dct e
        cases y <;> first | exact absurd h (fun z => z) | skip
        · rename_i i
          cases (show _ = _ from ry)
          simp only at h
          split at h
          · rename_i kv e2
            obtain ⟨w, h3, h4⟩ := RepKs.find r e2
            exact .inr (.inr (.inr ⟨a, w, rfl, .inl ⟨ks, .inl i, .inl h1, rfl, h3.symm⟩, k.here rh h h4⟩))
          · exact h.elim
        · rename_i i
          cases (show _ = _ from ry)
          simp only at h
          split at h
          · rename_i kv e2
            obtain ⟨w, h3, h4⟩ := RepKs.find r e2
            exact .inr (.inr (.inr ⟨a, w, rfl, .inl ⟨ks, .inr i, .inl h1, rfl, h3.symm⟩, k.here rh h h4⟩))
          · exact h.elim
      | l xs =>
        obtain ⟨vs, h1, r⟩ := rh.lst e
        cases y <;> first | exact absurd h (fun z => z) | skip
        rename_i i
        cases (show _ = _ from ry)
        simp only at h
        cases e2 : atI xs i with
        | none => rw [e2] at h; exact h.elim
        | some z =>
          rw [e2] at h
          obtain ⟨w, h3, h4⟩ := r.at e2
          exact .inl ⟨a, vs, i, w, rfl, rfl, .inl (.inl h1), h3, k.here rh h h4⟩
  | fz ns =>
    cases y <;> first | exact absurd h (fun z => z) | skip
    rename_i i
    obtain ⟨a, rfl, hq⟩ := fz_sq rx
    cases (show _ = _ from ry)
    simp only [oIx] at h
    cases e : atI ns i with
    | none => rw [e] at h; exact h.elim
    | some z =>
      rw [e] at h
      exact .inl ⟨a, _, i, .int z, rfl, rfl, hq, by rw [atI_map, e]; rfl, k.here rh h rfl⟩
  | str z =>
    cases y <;> first | exact absurd h (fun z => z) | skip
    rename_i i
    cases (show _ = _ from rx)
    cases (show _ = _ from ry)
    obtain ⟨h1, h⟩ := h
    cases e : atI z.cps.toList i with
    | none => rw [e] at h; exact h.elim
    | some c =>
      rw [e] at h
      exact .inr (.inr (.inl ⟨z, i, c, rfl, rfl, h1, e, k.here rh h rfl⟩))
  | _ => exact absurd h (by cases y <;> exact (fun z => z))
theorem q_ix (hu : X.A.units + 1 < cLine) (ha : PE X a (liftE X.K wa)) (hb : PE X b (liftE X.K wb)) (hs : PlainIx b) : PE X (.Subscript a b pos) (liftE X.K (wBin oIx wa wb)) := by
  obtain ⟨r, h1, h2⟩ := ok_ix hu
  exact (pe_ix h1 ha hb hs).weak fun σ H Q h => lift_bin h2 h

/-! slices -/
abbrev WO := Env → Sto → (Option Int → Sto → Prop) → Prop
def wNo : WO := fun _ L R => R none L
def wSo (a : WE) : WO := fun env L R => a env L fun x La => match x with
  | .int i => R (some i) La
  | _ => False
def liftO (K : PySem.W.Frag) (w : WO) : TO := fun σ H Q => ∃ env L R, RepS K H σ env ∧ RepH K H L ∧ w env L R ∧ ∀ x L' H', R x L' → Fm H L H' L' → RepH K H' L' → Q x H'
def wSl (a : WE) (lo hi : WO) : WE := fun env L R => a env L fun x La => lo env La fun l Lb => hi env Lb fun u Lc => oSl x l u Lc R
theorem po_weak {e : Option Expr} {t t' : TO} (h : PO X e t) (w : ∀ σ H Q, t' σ H Q → t σ H Q) : PO X e t' := ⟨fun pins s σ H Q I q => h.run pins s σ H Q I (w σ H Q q)⟩
theorem o_no : PO X none (liftO X.K wNo) := po_weak po_none fun σ H Q h => by
  obtain ⟨env, L, R, hs, hL, hw, k⟩ := h
  exact k none L H hw .refl hL
theorem o_so (ha : PE X a (liftE X.K wa)) : PO X (some a) (liftO X.K (wSo wa)) := po_weak (po_some ha) fun σ H Q h => by
  obtain ⟨env, L, R, hs, hL, hw, k⟩ := h
  refine ⟨env, L, _, hs, hL, hw, fun x La v H1 hb f1 rx r1 => ?_⟩
  cases x <;> first | exact absurd hb (fun z => z) | skip
  cases (show _ = _ from rx)
  exact ⟨_, rfl, k _ La H1 hb f1 r1⟩
theorem q_sl {lo hi : Option Expr} {wl wh : WO} {p2 : Pos} (ha : PE X a (liftE X.K wa)) (hl : PO X lo (liftO X.K wl)) (hh : PO X hi (liftO X.K wh)) : PE X (.Subscript a (.Slice lo hi none p2) pos) (liftE X.K (wSl wa wl wh)) :=
  (pe_slice (sl_list.or (sl_tupA.or sl_str)) ha hl hh).weak fun σ H Q h => by
  obtain ⟨env, L, R, hs, hL, hw, k⟩ := h
  refine ⟨env, L, _, hs, hL, hw, fun x La v H1 hb f1 rx r1 => ?_⟩
  refine ⟨env, La, _, hs.ex (f1.ex hL), r1, hb, fun l Lb H2 hc f2 r2 => ?_⟩
  refine ⟨env, Lb, _, (hs.ex (f1.ex hL)).ex (f2.ex r1), r2, hc, fun u Lc H3 hd f3 r3 => ?_⟩
  have kk := k.fm ((f1.trans f2).trans f3)
  have rx3 := (rx.ex (f2.ex r1)).ex (f3.ex r2)
  cases x with
  | tup xs =>
    obtain ⟨p, vs, rfl, t, r⟩ := rx3
    refine .inr (.inl ⟨p, vs, rfl, t.sq, fun z => ?_, fun _ => kk.newt r3 hd (r.cut l u)⟩)
    have e : cutP xs l u = xs := by
      unfold cutP
      rw [r.length, z.1, z.2, List.drop_zero, Nat.sub_zero, ← r.length, List.take_length]
    refine kk.here r3 (x := .tup (cutP xs l u)) hd ?_
    rw [e]
    exact ⟨p, vs, rfl, t, r⟩
  | ref p =>
    cases (show _ = _ from rx3)
    simp only [oSl] at hd
    split at hd
    · rename_i xs e
      obtain ⟨vs, h1, r⟩ := r3.lst e
      exact .inl ⟨p, vs, rfl, .inl (.inl h1), kk.newl r3 hd (r.cut l u)⟩
    · exact hd.elim
  | fz ns =>
    obtain ⟨p, rfl, hq⟩ := fz_sq rx3
    refine .inl ⟨p, _, rfl, hq, ?_⟩
    rw [cut_map]
    exact kk.newl r3 hd RepVs.ofInts
  | str z =>
    cases (show _ = _ from rx3)
    exact .inr (.inr ⟨z, rfl, hd.1, kk.here r3 hd.2 rfl⟩)
  | _ => exact absurd hd (fun z => z)
def oRev (x : PV) (L : Sto) (R : PK) : Prop := match x with
  | .ref a => match L a with
    | some (.l xs) => newL L xs.reverse R
    | _ => False
  | _ => False
theorem q_rev {k : Nat} {p1 p2 p3 : Pos} (ha : PE X a (liftE X.K wa)) : PE X (.Subscript a (.Slice none none (some (.UnaryOp .USub (.Constant (.int 1) k p1) p2)) p3) pos) (liftE X.K (wUn oRev wa)) := (pe_revL ha).weak fun σ H Q h => by
  obtain ⟨env, L, R, hs, hL, hw, k⟩ := h
  refine ⟨env, L, _, hs, hL, hw, fun x La v H1 hb f1 rx r1 => ?_⟩
  cases x <;> first | exact absurd hb (fun z => z) | skip
  rename_i p
  cases (show _ = _ from rx)
  simp only [oRev] at hb
  split at hb
  · rename_i xs e
    obtain ⟨vs, h1, r⟩ := r1.lst e
    exact ⟨p, vs, rfl, .inl (.inl h1), (k.fm f1).newl r1 hb r.reverse⟩
  · exact hb.elim
end

/-! ### built-ins by name -/
def gLen : BiF := fun xs L R => match xs with
  | [.tup ys] => R (.int ys.length) L
  | [.ref a] => (match L a with
    | some (.l ys) => R (.int ys.length) L
    | some (.d ys) => R (.int ys.length) L
    | none => False)
  | [.fz ns] => R (.int ns.length) L
  | [.str z] => z.length ≤ sizeLine ∧ R (.int z.length) L
  | _ => False
def gAbs : BiF := fun xs L R => match xs with
  | [.int i] => R (.int (i.natAbs : Int)) L
  | _ => False
def gMin : BiF := fun xs L R => match xs with
  | [.int i, .int j] => R (.int (min i j)) L
  | [.ref a] => ∃ ns : List Int, L a = some (.l (ns.map PV.int)) ∧ 0 < ns.length ∧ ∀ m, m ∈ ns → (∀ y, y ∈ ns → m ≤ y) → R (.int m) L
  | _ => False
def gMax : BiF := fun xs L R => match xs with
  | [.int i, .int j] => R (.int (max i j)) L
  | [.ref a] => ∃ ns : List Int, L a = some (.l (ns.map PV.int)) ∧ 0 < ns.length ∧ ∀ m, m ∈ ns → (∀ y, y ∈ ns → y ≤ m) → R (.int m) L
  | _ => False
def gInt : BiF := fun xs L R => match xs with
  | [.int i] => R (.int i) L
  | [.bl k] => R (.int (if k then 1 else 0)) L
  | _ => False
def gDivmod : BiF := fun xs L R => match xs with
  | [.int i, .int j] => 0 < j ∧ NoPl i j ∧ R (.tup [.int (i / j), .int (i % j)]) L
  | _ => False
def gList : BiF := fun xs L R => match xs with
  | [.tup ys] => newL L ys R
  | [.ref a] => (match L a with
    | some (.l ys) => newL L ys R
    | _ => False)
  | [.fz ns] => newL L (ns.map PV.int) R
  | _ => False
def gTuple : BiF := fun xs L R => match xs with
  | [.tup ys] => R (.tup ys) L
  | [.ref a] => (match L a with
    | some (.l ys) => R (.tup ys) L
    | _ => False)
  | _ => False
def gAll : BiF := fun xs L R => match xs with
  | [.ref a] => ∃ bs : List Bool, L a = some (.l (bs.map PV.bl)) ∧ R (.bl (bs.all id)) L
  | _ => False
def gAny : BiF := fun xs L R => match xs with
  | [.ref a] => ∃ bs : List Bool, L a = some (.l (bs.map PV.bl)) ∧ R (.bl (bs.any id)) L
  | _ => False
def gSum : BiF := fun xs L R => match xs with
  | [.ref a] => ∃ ns : List Int, L a = some (.l (ns.map PV.int)) ∧ R (.int ns.sum) L
  | _ => False
def gSorted : BiF := fun xs L R => match xs with
  | [.ref a] => ∃ ns : List Int, L a = some (.l (ns.map PV.int)) ∧ ns.length < 64 ∧ ∀ ns' : List Int, ns'.Perm ns → ns'.Pairwise (· ≤ ·) → newL L (ns'.map PV.int) R
  | _ => False
def gStr : BiF := fun xs L R => match xs with
  | [.int i] => i.natAbs.log2 < 1920 ∧ R (.str (Str.ofString (toString i))) L
  | [.tup xs] => ∃ ns : List Int, xs = ns.map PV.int ∧ (∀ i ∈ ns, i.natAbs < 100000) ∧ ns.length ≤ 100 ∧ ∀ m, R (.str m) L
  | _ => False
def tyName : PV → Sto → String
  | .non, _ => "NoneType"
  | .bl _, _ => "bool"
  | .int _, _ => "int"
  | .str _, _ => "str"
  | .tup _, _ => "tuple"
  | .fz _, _ => "list"
  | .ref a, L => (match L a with
    | some (.l _) => "list"
    | some (.d _) => "dict"
    | none => "")
  | .ty _, _ => ""
def isiB (t c : String) : Option Bool := match t, c with
  | "NoneType", "int" => some false | "NoneType", "bool" => some false | "NoneType", "str" => some false | "NoneType", "tuple" => some false | "NoneType", "list" => some false | "NoneType", "dict" => some false
  | "bool", "int" => some true | "bool", "bool" => some true | "bool", "str" => some false | "bool", "tuple" => some false | "bool", "list" => some false | "bool", "dict" => some false
  | "int", "int" => some true | "int", "bool" => some false | "int", "str" => some false | "int", "tuple" => some false | "int", "list" => some false | "int", "dict" => some false
  | "str", "int" => some false | "str", "bool" => some false | "str", "str" => some true | "str", "tuple" => some false | "str", "list" => some false | "str", "dict" => some false
  | "tuple", "int" => some false | "tuple", "bool" => some false | "tuple", "str" => some false | "tuple", "tuple" => some true | "tuple", "list" => some false | "tuple", "dict" => some false
  | "list", "int" => some false | "list", "bool" => some false | "list", "str" => some false | "list", "tuple" => some false | "list", "list" => some true | "list", "dict" => some false
  | "dict", "int" => some false | "dict", "bool" => some false | "dict", "str" => some false | "dict", "tuple" => some false | "dict", "list" => some false | "dict", "dict" => some true
  | _, _ => none
def isiBs (t : String) : List PV → Option Bool
  | [] => some false
  | .ty c :: r => (match isiB t c, isiBs t r with
    | some a, some b => some (a || b)
    | _, _ => none)
  | _ => none
def gIsi : BiF := fun xs L R => match xs with
  | [x, .ty c] => (match isiB (tyName x L) c with
    | some b => R (.bl b) L
    | none => False)
  | [x, .tup cs] => cs ≠ [] ∧ (match isiBs (tyName x L) cs with
    | some b => R (.bl b) L
    | none => False)
  | _ => False
end Mp
namespace Mp
open PySem PySem.Spec PyProof.Rows L2

section
variable {X : Cx} {K : PySem.W.Frag} {H : Hp} {L : Sto}
theorem b_len : BiOk X (.builtin "len") gLen := by
  refine ⟨_, call_len.or call_lenD, ?_⟩
  intro xs vs H L R Q rx rh h k
  unfold gLen at h
  split at h
  · obtain ⟨v, rfl, p, ws, rfl, t, r⟩ := rx.one
    exact .inl ⟨_, _, rfl, .inr ⟨ws, t.sq, rfl⟩, by rw [← r.length]; exact k.here rh h rfl⟩
  · obtain ⟨v, rfl, rv⟩ := rx.one
    cases (show _ = _ from rv)
    split at h
    · rename_i ys e
      obtain ⟨ws, h1, r⟩ := rh.lst e
      exact .inl ⟨_, _, rfl, .inl ⟨ws, .inl (.inl h1), rfl⟩, by rw [← r.length]; exact k.here rh h rfl⟩
    · rename_i ys e
      obtain ⟨ws, h1, r⟩ := rh.dct e
      have len : ∀ {a : List (Key × PV)} {b : List (Key × V)}, RepKs X.K H a b → a.length = b.length := fun {a} => by
        induction a with
        | nil => intro b q; cases (show _ = _ from q); rfl
        | cons p a ih => intro b q; obtain ⟨v, r', rfl, _, q⟩ := q; rw [List.length_cons, List.length_cons, ih q]
      exact .inr ⟨_, ws, rfl, h1, by rw [← len r]; exact k.here rh h rfl⟩
    · exact h.elim
  · obtain ⟨v, rfl, rv⟩ := rx.one
    obtain ⟨a, rfl, hq⟩ := fz_sq rv
    refine .inl ⟨_, _, rfl, .inl ⟨_, hq, rfl⟩, ?_⟩
    rw [List.length_map]
    exact k.here rh h rfl
  · obtain ⟨v, rfl, rv⟩ := rx.one
    cases (show _ = _ from rv)
    exact .inl ⟨_, _, rfl, ⟨h.1, rfl⟩, k.here rh h.2 rfl⟩
  · exact h.elim
theorem b_abs : BiOk X (.builtin "abs") gAbs := by
  refine ⟨_, call_abs, ?_⟩
  intro xs vs H L R Q rx rh h k
  unfold gAbs at h
  split at h
  · rename_i i
    obtain ⟨v, rfl, rv⟩ := rx.one
    cases (show _ = _ from rv)
    refine ⟨i, rfl, ?_⟩
    rw [show (if i < 0 then -i else i) = (i.natAbs : Int) by split <;> omega]
    exact k.here rh h rfl
  · exact h.elim
theorem b_min (hc : X.calm = true) : BiOk X (.builtin "min") gMin := by
  refine ⟨_, (call_min2 hc).or (cr_min hc), ?_⟩
  intro xs vs H L R Q rx rh h k
  unfold gMin at h
  split at h
  · rename_i i j
    obtain ⟨v, w, rfl, rv, rw'⟩ := rx.two
    cases (show _ = _ from rv)
    cases (show _ = _ from rw')
    refine .inl ⟨i, j, rfl, ?_⟩
    rw [show (if j < i then j else i) = min i j by rw [Int.min_def]; split <;> split <;> omega]
    exact k.here rh h rfl
  · obtain ⟨v, rfl, rv⟩ := rx.one
    cases (show _ = _ from rv)
    obtain ⟨ns, e, h0, h1⟩ := h
    obtain ⟨ws, h2, r⟩ := rh.lst e
    have := r.ints
    subst this
    exact .inr ⟨_, ns, rfl, .inl (.inl h2), h0, fun m hm hl => k.here rh (h1 m hm hl) rfl⟩
  · exact h.elim
theorem b_max (hc : X.calm = true) : BiOk X (.builtin "max") gMax := by
  refine ⟨_, (call_max2 hc).or (cr_max hc), ?_⟩
  intro xs vs H L R Q rx rh h k
  unfold gMax at h
  split at h
  · rename_i i j
    obtain ⟨v, w, rfl, rv, rw'⟩ := rx.two
    cases (show _ = _ from rv)
    cases (show _ = _ from rw')
    refine .inl ⟨i, j, rfl, ?_⟩
    rw [show (if j > i then j else i) = max i j by rw [Int.max_def]; split <;> split <;> omega]
    exact k.here rh h rfl
  · obtain ⟨v, rfl, rv⟩ := rx.one
    cases (show _ = _ from rv)
    obtain ⟨ns, e, h0, h1⟩ := h
    obtain ⟨ws, h2, r⟩ := rh.lst e
    have := r.ints
    subst this
    exact .inr ⟨_, ns, rfl, .inl (.inl h2), h0, fun m hm hl => k.here rh (h1 m hm hl) rfl⟩
  · exact h.elim
theorem b_int : BiOk X (.type "int") gInt := by
  refine ⟨_, call_int1, ?_⟩
  intro xs vs H L R Q rx rh h k
  unfold gInt at h
  split at h
  · obtain ⟨v, rfl, rv⟩ := rx.one
    cases (show _ = _ from rv)
    exact .inl ⟨_, rfl, k.here rh h rfl⟩
  · obtain ⟨v, rfl, rv⟩ := rx.one
    cases (show _ = _ from rv)
    exact .inr ⟨_, rfl, k.here rh h rfl⟩
  · exact h.elim
theorem call_divmodA : CallR X (.builtin "divmod") (fun xs H Q => ∃ i j, xs = [.int i, .int j] ∧ (0 < j ∧ NoPl i j) ∧ ∀ p, H p = none → Q (.ref p) (upd H p (.tup [.int (i / j), .int (i % j)]))) := by
  intro pins s σ H xs us Q I r h
  obtain ⟨i, j, rfl, ⟨h1, h2⟩, q⟩ := h
  obtain ⟨u, w', rfl, ⟨t, rfl⟩, ⟨t', rfl⟩⟩ := vals2 r
  refine divmod_int (by omega) ?_ (.inl h2.ok)
  rw [Int.fdiv_eq_ediv_of_nonneg i (by omega), Int.fmod_eq_emod_of_nonneg i (by omega)]
  have hn : H s.heap.objs.size = none := I.hok.fresh (Nat.le_refl _)
  refine ⟨.ref s.heap.objs.size, _, ?_, rfl, q _ hn⟩
  refine I.laid (fun b o e => Heap.get?_push_of_some _ e) (Nat.le_refl _) ⟨by simp only [List.length_cons, List.length_nil]; rw [sizeLine_eq]; decide, [.int (i / j) s.toks, .int (i % j) (s.toks + 1)], .cons ⟨_, rfl⟩ (.cons ⟨_, rfl⟩ .nil), ?_⟩
  exact ⟨_, Heap.get?_push_size s.heap rfl, rfl, 0, rfl⟩
theorem b_divmod : BiOk X (.builtin "divmod") gDivmod := by
  refine ⟨_, call_divmodA, ?_⟩
  intro xs vs H L R Q rx rh h k
  unfold gDivmod at h
  split at h
  · obtain ⟨v, w, rfl, rv, rw'⟩ := rx.two
    cases (show _ = _ from rv)
    cases (show _ = _ from rw')
    exact ⟨_, _, rfl, ⟨h.1, h.2.1⟩, k.newt rh h.2.2 ⟨_, _, rfl, rfl, _, _, rfl, rfl, rfl⟩⟩
  · exact h.elim
theorem b_list : BiOk X (.type "list") gList := by
  refine ⟨_, call_list_of, ?_⟩
  intro xs vs H L R Q rx rh h k
  unfold gList at h
  split at h
  · obtain ⟨v, rfl, p, ws, rfl, t, r⟩ := rx.one
    exact ⟨p, ws, rfl, .inr t.sq, k.newl rh h r⟩
  · obtain ⟨v, rfl, rv⟩ := rx.one
    cases (show _ = _ from rv)
    split at h
    · rename_i ys e
      obtain ⟨ws, h1, r⟩ := rh.lst e
      exact ⟨_, ws, rfl, .inl (.inl (.inl h1)), k.newl rh h r⟩
    · exact h.elim
  · obtain ⟨v, rfl, rv⟩ := rx.one
    obtain ⟨a, rfl, hq⟩ := fz_sq rv
    exact ⟨a, _, rfl, .inl hq, k.newl rh h RepVs.ofInts⟩
  · exact h.elim
theorem b_tuple : BiOk X (.type "tuple") gTuple := by
  refine ⟨_, call_tuple_of, ?_⟩
  intro xs vs H L R Q rx rh h k
  unfold gTuple at h
  split at h
  · obtain ⟨v, rfl, p, ws, rfl, t, r⟩ := rx.one
    exact ⟨p, ws, rfl, .inr ⟨t.sq, k.here rh h ⟨p, ws, rfl, t, r⟩⟩⟩
  · obtain ⟨v, rfl, rv⟩ := rx.one
    cases (show _ = _ from rv)
    split at h
    · rename_i ys e
      obtain ⟨ws, h1, r⟩ := rh.lst e
      exact ⟨_, ws, rfl, .inl ⟨.inl (.inl h1), k.newt rh h r⟩⟩
    · exact h.elim
  · exact h.elim
theorem b_all (hc : X.calm = true) : BiOk X (.builtin "all") gAll := by
  refine ⟨_, cr_all hc, ?_⟩
  intro xs vs H L R Q rx rh h k
  unfold gAll at h
  split at h
  · obtain ⟨v, rfl, rv⟩ := rx.one
    cases (show _ = _ from rv)
    obtain ⟨bs, e, h1⟩ := h
    obtain ⟨ws, h2, r⟩ := rh.lst e
    have := r.bls
    subst this
    exact ⟨_, bs, rfl, .inl (.inl h2), k.here rh h1 rfl⟩
  · exact h.elim
theorem b_any (hc : X.calm = true) : BiOk X (.builtin "any") gAny := by
  refine ⟨_, cr_any hc, ?_⟩
  intro xs vs H L R Q rx rh h k
  unfold gAny at h
  split at h
  · obtain ⟨v, rfl, rv⟩ := rx.one
    cases (show _ = _ from rv)
    obtain ⟨bs, e, h1⟩ := h
    obtain ⟨ws, h2, r⟩ := rh.lst e
    have := r.bls
    subst this
    exact ⟨_, bs, rfl, .inl (.inl h2), k.here rh h1 rfl⟩
  · exact h.elim
theorem b_sum (hc : X.calm = true) : BiOk X (.builtin "sum") gSum := by
  refine ⟨_, cr_sum hc, ?_⟩
  intro xs vs H L R Q rx rh h k
  unfold gSum at h
  split at h
  · obtain ⟨v, rfl, rv⟩ := rx.one
    cases (show _ = _ from rv)
    obtain ⟨bs, e, h1⟩ := h
    obtain ⟨ws, h2, r⟩ := rh.lst e
    have := r.ints
    subst this
    exact ⟨_, bs, rfl, .inl (.inl h2), k.here rh h1 rfl⟩
  · exact h.elim
theorem b_sorted : BiOk X (.builtin "sorted") gSorted := by
  refine ⟨_, cr_sorted, ?_⟩
  intro xs vs H L R Q rx rh h k
  unfold gSorted at h
  split at h
  · obtain ⟨v, rfl, rv⟩ := rx.one
    cases (show _ = _ from rv)
    obtain ⟨ns, e, h0, h1⟩ := h
    obtain ⟨ws, h2, r⟩ := rh.lst e
    have := r.ints
    subst this
    exact ⟨_, ns, rfl, .inl (.inl h2), h0, fun ns' p hp hs hn => k.newl rh (h1 ns' hp hs) RepVs.ofInts p hn⟩
  · exact h.elim
theorem str_of_tup {prog : Program} {w : World} {A : Around} {E : Value → Shared → Prop} {s : Shared} {a : Addr} {o : Obj} {items : Array Value} {n : Nat} {ts : List Str} {Q : Value → Shared → Prop} (hu : A.units + 8 < cLine) (ha : s.heap.get? a = some o) (hc : o.cls = .type "tuple") (hd : o.data = .seq items n)
    (hT : ∀ (prog : Program) (w : World), ReprAll prog w items.toList ts) (hsz : (tupleText ts).length + 5 ≤ sizeLine) (h : ∀ (m : Str) (u tk : Tok), Q (.str m u) { s with toks := tk }) : wpAny (model prog w) A (call (.type "str") [.ref a]) Q E s :=
  callType_new F.called_str (by decide) (F.typeCall_str_1 _) (F.newCall_str_1 _) (fun obj => F.args_object_init_2 obj _) F.entry_str_new
    (meets_str_new (S := fun A R s => A.units + 4 < cLine ∧ s.heap.get? a = some o ∧ ∀ (m : Str) (u tk : Tok), R (.ok (.ret (.str m u))) { s with toks := tk }) fun prog w A R s hq =>
      wpAny_strOf_slot rfl (by show A.units + 1 + 1 < cLine; have := hq.1; omega) ⟨o, hq.2.1, hc⟩ F.slot_tuple_str F.slot_tuple_repr
        (fmt_tuple_repr (s := s) hq.2.1 hc hd (hT _ _) (by omega) fun m u tk hm => ⟨m, u, rfl, hq.2.2 m u tk⟩))
    ⟨by show _ + 4 < cLine; first | (show A.units + 4 < cLine; omega) | (show A.units + 1 + 4 < cLine; omega) | (show A.units + 1 + 1 + 4 < cLine; omega), ha, fun m u tk => ⟨typeIs_str _ _ _, h m u tk⟩⟩
theorem ints_repr {prog : Program} {w : World} : ∀ {ns : List Int} {its : List Value}, Vals (ns.map V.int) its → (∀ i ∈ ns, i.natAbs.log2 < 1920) → ReprAll prog w its (ns.map fun i => Str.ofString (toString i))
  | [], _, r, _ => by cases r; exact .nil
  | i :: ns, _, r, h => by
    cases r with
    | cons r1 r2 =>
      obtain ⟨t, rfl⟩ := r1
      exact .cons (ReprIs.int t (h i List.mem_cons_self)) (ints_repr r2 fun z hz => h z (List.mem_cons_of_mem _ hz))
theorem ints_piled : ∀ (ns : List Int), (∀ i ∈ ns, i.natAbs < 100000) → piled (ns.map fun i => Str.ofString (toString i)) ≤ ns.length * 100010
  | [], _ => Nat.zero_le _
  | i :: ns, h => by
    have h1 := PyProof.Rows.len_str_of_int i
    have h2 := h i List.mem_cons_self
    have h3 := ints_piled ns fun z hz => h z (List.mem_cons_of_mem _ hz)
    rw [List.map_cons, piled_cons, List.length_cons, Nat.succ_mul]
    omega
theorem log_small {i : Int} (h : i.natAbs < 100000) : i.natAbs.log2 < 1920 := by
  by_cases h0 : i.natAbs = 0
  · rw [h0]; decide
  · exact (Nat.log2_lt h0).mpr (Nat.lt_trans h (Nat.lt_trans (show 100000 < 2 ^ 20 by decide) (Nat.pow_lt_pow_right (by decide) (by decide))))
theorem call_str_tup {X : Cx} (hu : X.A.units + 64 < cLine) : CallR X (.type "str") (fun xs H Q => ∃ (a : Addr) (ns : List Int), xs = [.ref a] ∧ SqT X.K H a (ns.map V.int) ∧ (∀ i ∈ ns, i.natAbs < 100000) ∧ ns.length ≤ 100 ∧ ∀ m, Q (.str m) H) := by
  intro pins s σ H xs us Q I r h
  obtain ⟨a, ns, rfl, hs, hb, hl, q⟩ := h
  obtain ⟨u, rfl, r1⟩ := vals1 r
  cases r1
  obtain ⟨its, rv, ⟨o, ho, hcl, n, hd⟩, _⟩ := I.tuple hs
  have hp := ints_piled ns hb
  have htx := fmt_text (ns.map fun i => Str.ofString (toString i))
  refine str_of_tup (ts := ns.map fun i => Str.ofString (toString i)) (by omega) ho hcl hd (fun _ _ => ints_repr rv fun i hi => log_small (hb i hi)) ?_ fun m u tk => ⟨.str m, H, I.tok _, ⟨u, rfl⟩, q m⟩
  show _ ≤ 16777216
  omega
theorem b_str (hu : X.A.units + 65 < cLine) : BiOk X (.type "str") gStr := by
  refine ⟨_, call_str_int.or (call_str_tup (by omega)), ?_⟩
  intro xs vs H L R Q rx rh h k
  unfold gStr at h
  split at h
  · obtain ⟨v, rfl, rv⟩ := rx.one
    cases (show _ = _ from rv)
    exact .inl ⟨_, rfl, h.1, k.here rh h.2 rfl⟩
  · obtain ⟨v, rfl, rv⟩ := rx.one
    obtain ⟨ns, rfl, h1, h2, h3⟩ := h
    obtain ⟨a, ws, rfl, t, r⟩ := rv
    rw [RepVs.ints r] at t
    exact .inr ⟨a, ns, rfl, t.sq, h1, h2, fun m => k.here rh (h3 m) rfl⟩
  · exact h.elim
theorem tup_ty {a : Addr} {vs : List V} (h : TupAt K H a vs) : TyX K H (.ref a) (.type "tuple") := by
  rcases h with h | (h | ⟨o, h⟩) | ⟨o, its, n, h1, h2, _⟩
  · exact .base (.tup h)
  · cases h
  · cases h
  · exact .kTuple h1 h2
theorem fz_ty {ns : List Int} {v : V} (h : RepV K H (.fz ns) v) : TyX K H v (.type "list") := by
  obtain ⟨a, rfl, h⟩ := h
  rcases h with ⟨o, h⟩ | (h | ⟨o, h⟩) | ⟨o, its, n, h1, h2, _⟩
  · exact .base (.frz h)
  · cases h
  · cases h
  · exact .kList h1 h2
theorem ty_of (rh : RepH K H L) {x : PV} {v : V} (r : RepV K H x v) {c : String} {b : Bool} (h : isiB (tyName x L) c = some b) : TyX K H v (.type (tyName x L)) := by
  cases x with
  | non => cases (show _ = _ from r); exact .base .non
  | bl => cases (show _ = _ from r); exact .base (.bl _)
  | int => cases (show _ = _ from r); exact .base (.int _)
  | str => cases (show _ = _ from r); exact .base (.str _)
  | tup => obtain ⟨a, vs, rfl, t, _⟩ := r; exact tup_ty t
  | fz => exact fz_ty r
  | ref a =>
    cases (show _ = _ from r)
    cases e : L a with
    | none => simp [tyName, e, isiB] at h
    | some o =>
      cases o with
      | l xs =>
        obtain ⟨ws, h1, _⟩ := rh.lst e
        simp only [tyName, e]
        exact .base (.lst h1)
      | d xs =>
        obtain ⟨ws, h1, _⟩ := rh.dct e
        simp only [tyName, e]
        exact .base (.dK h1)
  | ty => simp [tyName, isiB] at h
theorem isiB_ok : ∀ {t c : String} {b : Bool}, isiB t c = some b → kitB t c = some b := by
  intro t c b h
  unfold isiB at h
  split at h <;> first | (cases h; decide +kernel) | cases h
theorem isiBs_ok {t : String} : ∀ {cs : List PV} {vs : List V} {b : Bool}, RepVs K H cs vs → isiBs t cs = some b → (cs ≠ [] → ∃ c b', isiB t c = some b') ∧ ∃ us, Paired ClsV vs us ∧ PySem.W.kitAny K (.type t) us = some b
  | [], _, _, h, e => by
    cases (show _ = _ from h)
    cases e
    exact ⟨fun z => absurd rfl z, [], .nil, kitAny_nil⟩
  | c :: r, _, b, ⟨w, ws, h1, h2, h3⟩, h => by
    subst h1
    cases c <;> first | (cases h; done) | skip
    rename_i c
    cases (show _ = _ from h2)
    unfold isiBs at h
    split at h
    · rename_i x y e1 e2
      cases h
      obtain ⟨_, us, q2, q3⟩ := isiBs_ok h3 e2
      refine ⟨fun _ => ⟨c, x, e1⟩, _, .cons (.ty c) q2, kitAny_cons (kit_ty (isiB_ok e1)) (fun z => ?_) (fun z => ?_)⟩
      · rw [z, Bool.false_or]; exact q3
      · rw [z]; rfl
    · cases h
theorem b_isi : BiOk X (.builtin "isinstance") gIsi := by
  refine ⟨_, call_isi.or (call_isiT.or call_isiK), ?_⟩
  intro xs vs H L R Q rx rh h k
  unfold gIsi at h
  split at h
  · rename_i x c
    split at h
    · rename_i b e
      obtain ⟨v, w, rfl, rv, rw'⟩ := rx.two
      cases (show _ = _ from rw')
      exact .inl ⟨v, _, _, _, b, rfl, .ty c, ty_of rh rv e, kit_ty (isiB_ok e), k.here rh h rfl⟩
    · exact h.elim
  · rename_i x cs
    obtain ⟨hne, h⟩ := h
    split at h
    · rename_i b e
      obtain ⟨v, w, rfl, rv, a, ws, rfl, t, r⟩ := rx.two
      obtain ⟨q0, us, q1, q2⟩ := isiBs_ok r e
      obtain ⟨c, b', e'⟩ := q0 hne
      rcases t with t | (t | ⟨o, t⟩) | ⟨⟨oc, od, dt, sl⟩, its, n, t1, t2, t3, t4, t5⟩
      · exact .inr (.inl ⟨v, a, ws, _, us, b, rfl, t, q1, ty_of rh rv e', q2, k.here rh h rfl⟩)
      · cases t
      · cases t
      · simp only at t2 t3
        subst t2 t3
        have e3 := ClsV.all q1 t5
        refine .inr (.inr ⟨v, a, od, us, n, sl, _, b, rfl, ?_, ty_of rh rv e', q2, k.here rh h rfl⟩)
        rw [t1, ← e3]
    · exact h.elim
  · exact h.elim

/-! ### methods of lists -/
abbrev MtF := PV → BiF
def mAppend : MtF := fun x xs L R => match x, xs with
  | .ref a, [y] => ∃ ys, L a = some (.l ys) ∧ ys.length < sizeLine ∧ R .non (put L a (.l (ys ++ [y])))
  | _, _ => False
def mExtend : MtF := fun x xs L R => match x, xs with
  | .ref a, [.ref b] => ∃ ys zs, L a = some (.l ys) ∧ L b = some (.l zs) ∧ ys.length + zs.length ≤ sizeLine ∧ R .non (put L a (.l (ys ++ zs)))
  | _, _ => False
def mPop : MtF := fun x xs L R => match x, xs with
  | .ref a, [] => ∃ ys y, L a = some (.l ys) ∧ ys[ys.length - 1]? = some y ∧ R y (put L a (.l ys.dropLast))
  | .ref a, [.int i] => ∃ ys k y, L a = some (.l ys) ∧ -(2 ^ 63) ≤ i ∧ i < 2 ^ 63 ∧ seqIndex? i ys.length = some k ∧ ys[k]? = some y ∧ R y (put L a (.l (ys.eraseIdx k)))
  | _, _ => False
def mReverse : MtF := fun x xs L R => match x, xs with
  | .ref a, [] => ∃ ys, L a = some (.l ys) ∧ R .non (put L a (.l ys.reverse))
  | _, _ => False
def mClear : MtF := fun x xs L R => match x, xs with
  | .ref a, [] => ∃ ys, L a = some (.l ys) ∧ R .non (put L a (.l []))
  | _, _ => False
def MtS (K : PySem.W.Frag) (g : MtF) (r : V → List V → Hp → VK → Prop) : Prop := ∀ (x : PV) (v : V) (xs : List PV) (vs : List V) (H : Hp) (L : Sto) (R : PK) (Q : VK), RepV K H x v → RepVs K H xs vs → RepH K H L → g x xs L R → Kt K H L R Q → r v vs H Q
theorem Kt.putl {R : PK} {Q : VK} (k : Kt K H L R Q) (rh : RepH K H L) {a : Addr} {xs : List PV} {vs : List V} {u : SO} {x : PV} {v : V} (hp : L a = some u) (h : R x (put L a (.l xs))) (rv : RepVs K H xs vs) (rx : RepV K H x v) : Q v (upd H a (.lst vs)) :=
  k _ _ _ _ h (fm_put hp) (rx.ex (ex_put rh hp)) (reph_put rh hp rv)
theorem s_append : MtS K mAppend rAppend := by
  intro x v xs vs H L R Q rx rxs rh h k
  unfold mAppend at h
  split at h
  · obtain ⟨w, rfl, rw'⟩ := rxs.one
    cases (show _ = _ from rx)
    obtain ⟨ys, e, h1, h2⟩ := h
    obtain ⟨ws, h3, r⟩ := rh.lst e
    exact ⟨_, ws, w, rfl, rfl, h3, by rw [← r.length]; exact h1, k.putl rh e h2 (r.append ⟨w, [], rfl, rw', rfl⟩) rfl⟩
  · exact h.elim
theorem s_extend : MtS K mExtend rExtend := by
  intro x v xs vs H L R Q rx rxs rh h k
  unfold mExtend at h
  split at h
  · obtain ⟨w, rfl, rw'⟩ := rxs.one
    cases (show _ = _ from rx)
    cases (show _ = _ from rw')
    obtain ⟨ys, zs, e, e2, h1, h2⟩ := h
    obtain ⟨ws, h3, r⟩ := rh.lst e
    obtain ⟨us, h4, r2⟩ := rh.lst e2
    exact ⟨_, _, ws, us, rfl, rfl, h3, h4, by rw [← r.length, ← r2.length]; exact h1, k.putl rh e h2 (r.append r2) rfl⟩
  · exact h.elim
theorem s_pop : MtS K mPop (fun x vs H Q => rPop x vs H Q ∨ rPopAt x vs H Q) := by
  intro x v xs vs H L R Q rx rxs rh h k
  unfold mPop at h
  split at h
  · cases (show _ = _ from rx)
    cases (show _ = _ from rxs)
    obtain ⟨ys, y, e, h1, h2⟩ := h
    obtain ⟨ws, h3, r⟩ := rh.lst e
    rw [r.length] at h1
    obtain ⟨z, h4, h5⟩ := r.get h1
    exact .inl ⟨_, ws, z, rfl, rfl, h3, h4, k.putl rh e h2 r.dropLast h5⟩
  · obtain ⟨w, rfl, rw'⟩ := rxs.one
    cases (show _ = _ from rx)
    cases (show _ = _ from rw')
    obtain ⟨ys, j, y, e, h0, h1, h2, h3, h4⟩ := h
    obtain ⟨ws, h5, r⟩ := rh.lst e
    rw [r.length] at h2
    obtain ⟨z, h6, h7⟩ := r.get h3
    exact .inr ⟨_, ws, _, j, z, rfl, rfl, h5, h0, h1, h2, h6, k.putl rh e h4 (r.eraseIdx j) h7⟩
  · exact h.elim
theorem s_reverse : MtS K mReverse rReverse := by
  intro x v xs vs H L R Q rx rxs rh h k
  unfold mReverse at h
  split at h
  · cases (show _ = _ from rx)
    cases (show _ = _ from rxs)
    obtain ⟨ys, e, h2⟩ := h
    obtain ⟨ws, h3, r⟩ := rh.lst e
    exact ⟨_, ws, rfl, rfl, h3, k.putl rh e h2 r.reverse rfl⟩
  · exact h.elim
theorem s_clear : MtS K mClear rClear := by
  intro x v xs vs H L R Q rx rxs rh h k
  unfold mClear at h
  split at h
  · cases (show _ = _ from rx)
    cases (show _ = _ from rxs)
    obtain ⟨ys, e, h2⟩ := h
    obtain ⟨ws, h3, r⟩ := rh.lst e
    exact ⟨_, ws, rfl, rfl, h3, k.putl rh e h2 (xs := []) rfl rfl⟩
  · exact h.elim
def tyOk (T : String) (x : PV) (L : Sto) : Prop := match x with
  | .ref a => (T = "list" ∧ ∃ ys, L a = some (.l ys)) ∨ (T = "dict" ∧ ∃ ys, L a = some (.d ys))
  | .str _ => T = "str"
  | _ => False
def wMt (T : String) (g : MtF) (o : WE) (ws : List WE) : WE := fun env L R => o env L fun x La => tyOk T x La ∧ wAr ws env La fun xs Lb => g x xs Lb R
theorem tyOk_V {T : String} {x : PV} {v : V} (rh : RepH K H L) (r : RepV K H x v) (h : tyOk T x L) : tyV K T v H := by
  cases x <;> first | exact absurd h (fun z => z) | skip
  · cases (show _ = _ from r)
    exact h
  · cases (show _ = _ from r)
    rcases h with ⟨h1, ys, h2⟩ | ⟨h1, ys, h2⟩
    · obtain ⟨vs, h3, _⟩ := rh.lst h2
      exact .inl ⟨h1, vs, .inl (.inl h3)⟩
    · obtain ⟨vs, h3, _⟩ := rh.dct h2
      exact .inr (.inr (.inl ⟨h1, .inl ⟨vs, h3⟩⟩))
/-- a built-in type's method -/
structure MtOk (X : Cx) (T : String) (name : Str) (g : MtF) : Prop where
  ex : ∃ (id : String) (r : V → List V → Hp → VK → Prop), PlainAttrs T ∧ Slot T name id ∧ typeOf (.builtin id) = pure (.type "method_descriptor") ∧ MtR X id r ∧ MtS X.K g r
variable {pos apos cpos : Pos} {o e : Expr} {es : List Expr} {name : Str} {id T : String} {wo : WE} {ws : List WE}
theorem q_mt {g : MtF} (hm : MtOk X T name g) (ho : PE X o (liftE X.K wo)) (ha : PA X (e :: es) (liftA X.K ws))
    (hbase : attributeBase o name X.env (eval o X.env) = eval o X.env)
    (hfew : ((backTo cpos (starEach (e :: es) X.env)).all (fun x => !x.1) && (backToKw cpos (keywordEach [] X.env)).all (fun x => x.1.isSome)
      && decide ((e :: es).length + ([] : List Keyword).length + (if ([] : List Keyword).isEmpty then 0 else 1) < 30)) = true)
    (hline : (apos.endLine == cpos.line) = true) (hs : starEach (e :: es) X.env = (false, eval e X.env) :: starEach es X.env) (hplain : (backTo cpos (starEach es X.env)).any (·.1) = false) :
    PE X (.Call (.Attribute o name apos) (e :: es) [] cpos) (liftE X.K (wMt T g wo ws)) := by
  obtain ⟨id, r, pa, slot, hty, hr, hg⟩ := hm.ex
  refine (pe_bm pa slot hty hr ho ha hbase hfew hline hs hplain).weak fun σ H Q h => ?_
  obtain ⟨env, L, R, hs, hL, hw, k⟩ := h
  refine ⟨env, L, _, hs, hL, hw, fun x La v H1 hb f1 rx r1 => ⟨tyOk_V r1 rx hb.1, ?_⟩⟩
  refine ⟨env, La, _, hs.ex (f1.ex hL), r1, hb.2, fun xs Lb vs H2 hc hn f2 rxs r2 => ?_⟩
  exact hg x v xs vs H2 Lb R Q (rx.ex (f2.ex r1)) rxs r2 hc (k.fm (f1.trans f2))
theorem q_mt0 {g : MtF} (hm : MtOk X T name g) (ho : PE X o (liftE X.K wo)) (hbase : attributeBase o name X.env (eval o X.env) = eval o X.env) (hline : (apos.endLine == cpos.line) = true) :
    PE X (.Call (.Attribute o name apos) [] [] cpos) (liftE X.K (wMt T g wo [])) := by
  obtain ⟨id, r, pa, slot, hty, hr, hg⟩ := hm.ex
  refine (pe_bm0 pa slot hty hr ho hbase hline).weak fun σ H Q h => ?_
  obtain ⟨env, L, R, hs, hL, hw, k⟩ := h
  refine ⟨env, L, _, hs, hL, hw, fun x La v H1 hb f1 rx r1 => ⟨tyOk_V r1 rx hb.1, ?_⟩⟩
  exact hg x v [] [] H1 La R Q rx rfl r1 hb.2 (k.fm f1)
theorem k_append : MtOk X "list" "append" mAppend := ⟨_, _, PySem.F.plainAttrs_list, PySem.F.slot_list_append, PySem.F.type_list_append, mt_append, s_append⟩
theorem k_extend : MtOk X "list" "extend" mExtend := ⟨_, _, PySem.F.plainAttrs_list, PySem.F.slot_list_extend, PySem.F.type_list_extend, mt_extend, s_extend⟩
theorem k_pop : MtOk X "list" "pop" mPop := ⟨_, _, PySem.F.plainAttrs_list, PySem.F.slot_list_pop, PySem.F.type_list_pop, MtR.or mt_pop mt_popAt, s_pop⟩
theorem k_reverse : MtOk X "list" "reverse" mReverse := ⟨_, _, PySem.F.plainAttrs_list, PySem.F.slot_list_reverse, PySem.F.type_list_reverse, mt_reverse, s_reverse⟩
theorem k_clear : MtOk X "list" "clear" mClear := ⟨_, _, PySem.F.plainAttrs_list, PySem.F.slot_list_clear, PySem.F.type_list_clear, mt_clear, s_clear⟩

/-! ### calls of defs -/
abbrev Spec := List PV → Sto → PK → Prop
/-- a def's promise over data -/
def liftSp (K : PySem.W.Frag) (n : Nat) (S : Spec) : Sp := fun vs H Q _ => vs.length = n ∧ ∃ args L R, RepVs K H args vs ∧ RepH K H L ∧ S args L R ∧ Kt K H L R Q
def wCall (S : Spec) (ws : List WE) : WE := fun env L R => wAr ws env L fun xs La => S xs La R
/-- a def of the text that keeps S -/
structure FnIs (P : Program) (w : World) (K : PySem.W.Frag) (mg : Str → Option Value) (base : Heap) (k : Nat) (x : Str) (n : Nat) (S : Spec) : Prop where
  ex : ∃ (f : Addr) (fd : FuncData) (ps : List Str), mg x = some (.ref f) ∧ PySem.W.keepIn K (.ref f) = true ∧ Binds K fd ps [] ∧ FnOk P w K mg base CX0 k f fd ps (liftSp K n S)
theorem FnIs.mono {P : Program} {w : World} {K : PySem.W.Frag} {mg : Str → Option Value} {base : Heap} {k k' : Nat} {x : Str} {n : Nat} {S : Spec} (h : FnIs P w K mg base k x n S) (hk : k ≤ k') : FnIs P w K mg base k' x n S := by
  obtain ⟨f, fd, ps, h1, h2, h3, h4⟩ := h.ex
  exact ⟨f, fd, ps, h1, h2, h3, h4.mono hk⟩
theorem lift_call {S : Spec} {n : Nat} {E : XK} (hn : ws.length = n) {σ : L2.St} {H : Hp} {Q : VK} (h : liftE X.K (wCall S ws) σ H Q) : tCall (liftSp X.K n S) [] E (liftA X.K ws) σ H Q := by
  obtain ⟨env, L, R, hs, hL, hw, k⟩ := h
  refine ⟨env, L, _, hs, hL, hw, fun xs La vs H1 hb hl f1 rx r1 => ?_⟩
  show liftSp X.K n S (vs ++ []) H1 Q E
  rw [List.append_nil]
  exact ⟨by rw [← rx.length, hl, hn], xs, La, R, rx, r1, hb, k.fm f1⟩
theorem q_call {x : Str} {p : Pos} {k n : Nat} {S : Spec} (F : FnIs X.prog X.w X.K X.mg X.base k x n S) (hr : Room k X.A) (hg : Gl X x) (hn : ws.length = n) (ha : PA X (e :: es) (liftA X.K ws))
    (hdb : (x == ("__debug__" : Str)) = false) (he : starEach (e :: es) X.env = (false, eval e X.env) :: starEach es X.env) (hpl : (backTo pos (starEach es X.env)).any (·.1) = false) :
    PE X (.Call (.Name x p) (e :: es) [] pos) (liftE X.K (wCall S ws)) := by
  obtain ⟨f, fd, ps, h1, h2, h3, h4⟩ := F.ex
  exact (pe_call h4 hr hg h1 h2 h3 .nil pass0 ha hdb he hpl).weak fun σ H Q h => lift_call hn h
theorem q_call0 {x : Str} {p : Pos} {k : Nat} {S : Spec} (F : FnIs X.prog X.w X.K X.mg X.base k x 0 S) (hr : Room k X.A) (hg : Gl X x) (hdb : (x == ("__debug__" : Str)) = false) :
    PE X (.Call (.Name x p) [] [] pos) (liftE X.K (wCall S [])) := by
  obtain ⟨f, fd, ps, h1, h2, h3, h4⟩ := F.ex
  refine (pe_call0 h4 hr hg h1 h2 h3 .nil pass0 hdb).weak fun σ H Q h => ?_
  obtain ⟨env, L, R, hs, hL, hw, k⟩ := h
  exact ⟨rfl, [], L, R, rfl, hL, hw, k⟩
/-- a built-in, by its name -/
theorem q_bi {x : Str} {p : Pos} {g : BiF} (hb : BiOk X (.builtin id) g) (hg : Gl X x) (hm : X.mg x = none) (hv : bootBuiltins x = some (.builtin id)) (ha : PA X (e :: es) (liftA X.K ws)) (hn : x ≠ "__name__") (hdb : (x == ("__debug__" : Str)) = false)
    (he : starEach (e :: es) X.env = (false, eval e X.env) :: starEach es X.env) (hpl : (backTo pos (starEach es X.env)).any (·.1) = false) : PE X (.Call (.Name x p) (e :: es) [] pos) (liftE X.K (wBi g ws)) := by
  obtain ⟨r, h1, h2⟩ := hb
  exact (pe_callB h1 hg hm hv ha hn hdb he hpl).weak fun σ H Q h => lift_bi h2 h
theorem q_ty {x : Str} {p : Pos} {g : BiF} (hb : BiOk X (.type id) g) (hg : Gl X x) (hm : X.mg x = none) (hv : bootBuiltins x = some (.type id)) (ha : PA X (e :: es) (liftA X.K ws)) (hn : x ≠ "__name__") (hdb : (x == ("__debug__" : Str)) = false)
    (he : starEach (e :: es) X.env = (false, eval e X.env) :: starEach es X.env) (hpl : (backTo pos (starEach es X.env)).any (·.1) = false) : PE X (.Call (.Name x p) (e :: es) [] pos) (liftE X.K (wBi g ws)) := by
  obtain ⟨r, h1, h2⟩ := hb
  exact (pe_callTy h1 hg hm hv ha hn hdb he hpl).weak fun σ H Q h => lift_bi h2 h
end
end Mp
namespace Mp
open PySem PySem.Spec PyProof.Rows L2

/-! ### what is walked -/
structure Src where
  items : List PV
  keep : Sto → Prop
abbrev WI := Env → Sto → (Src → Sto → Prop) → Prop
def WalkR (K : PySem.W.Frag) (c : Src) (J : It) (Ha : Hp) (La : Sto) : Prop := ∀ i H L, Fm Ha La H L → RepH K H L → c.keep L →
  (i < c.items.length → J.go i H ∧ ∀ v H', J.yld i H v H' → ∃ x, c.items[i]? = some x ∧ RepV K H' x v ∧ Fm H L H' L ∧ RepH K H' L) ∧ (i = c.items.length → J.stop i H)
def liftI (K : PySem.W.Frag) (w : WI) : TI := fun σ H R => ∃ env L R', RepS K H σ env ∧ RepH K H L ∧ w env L R' ∧ ∀ c L' H' J, R' c L' → Fm H L H' L' → RepH K H' L' → WalkR K c J H' L' → R J H'
theorem pi_weak {X : Cx} {tg iter : Expr} {wi wi' : TI} (h : PI X tg iter wi) (w : ∀ σ H R, wi' σ H R → wi σ H R) : PI X tg iter wi' := ⟨fun pins s σ H R I q => h.run pins s σ H R I (w σ H R q)⟩
/-- over a list -/
def iLs (e : WE) : WI := fun env L R => e env L fun x La => match x with
  | .ref a => match La a with
    | some (.l xs) => R ⟨xs, fun Lx => Lx a = some (.l xs)⟩ La
    | _ => False
  | _ => False
/-- over a tuple -/
def iTp (e : WE) : WI := fun env L R => e env L fun x La => match x with
  | .tup xs => R ⟨xs, fun _ => True⟩ La
  | _ => False
/-- over the signs of a text -/
def iSt (e : WE) : WI := fun env L R => e env L fun x La => match x with
  | .str z => R ⟨z.cps.toList.map fun c => .str ⟨#[c]⟩, fun _ => True⟩ La
  | _ => False
def rgL (lo : Int) (n : Nat) : List PV := (List.range n).map fun k => PV.int (lo + (k : Nat))
def rgLc (lo c : Int) (n : Nat) : List PV := (List.range n).map fun k => PV.int (lo + (k : Nat) * c)
def RgB (j : Int) : Prop := -(2 ^ 62) ≤ j ∧ j < 2 ^ 62
def iR1 (b : WE) : WI := fun env L R => b env L fun y La => match y with
  | .int j => RgB j ∧ R ⟨rgL 0 j.toNat, fun _ => True⟩ La
  | _ => False
def iR2 (a b : WE) : WI := fun env L R => a env L fun x La => b env La fun y Lb => match x, y with
  | .int i, .int j => RgB i ∧ RgB j ∧ R ⟨rgL i (j - i).toNat, fun _ => True⟩ Lb
  | _, _ => False
def iR3 (a b c : WE) : WI := fun env L R => a env L fun x La => b env La fun y Lb => c env Lb fun z Lc => match x, y, z with
  | .int i, .int j, .int c => ∃ n, RgC i j c n ∧ R ⟨rgLc i c n, fun _ => True⟩ Lc
  | _, _, _ => False
def enL (xs : List PV) : List PV := (List.range xs.length).map fun k => PV.tup [.int (k : Nat), xs.getD k .non]
def zipL (xs ys : List PV) : List PV := List.zipWith (fun x y => PV.tup [x, y]) xs ys
def iEn (e : WE) : WI := fun env L R => e env L fun x La => match x with
  | .ref a => match La a with
    | some (.l xs) => R ⟨enL xs, fun Lx => Lx a = some (.l xs)⟩ La
    | _ => False
  | _ => False
def iZp (a b : WE) : WI := fun env L R => a env L fun x La => b env La fun y Lb => match x, y with
  | .ref a, .ref b => match Lb a, Lb b with
    | some (.l xs), some (.l ys) => R ⟨zipL xs ys, fun Lx => Lx a = some (.l xs) ∧ Lx b = some (.l ys)⟩ Lb
    | _, _ => False
  | .tup xs, .tup ys => R ⟨zipL xs ys, fun _ => True⟩ Lb
  | _, _ => False
def iRv (e : WE) : WI := fun env L R => e env L fun x La => match x with
  | .ref a => match La a with
    | some (.l xs) => R ⟨xs.reverse, fun Lx => Lx a = some (.l xs)⟩ La
    | _ => False
  | _ => False

section
variable {X : Cx} {K : PySem.W.Frag} {Ha : Hp} {La : Sto}
theorem Rd.lst_inj {H : Hp} {a : Addr} {vs ws : List V} (h : H a = some (.lst vs)) (q : SqL K H a ws) (hk : K.lookup a = none ∨ True) : True := trivial
theorem wk_range {lo : Int} {n : Nat} : WalkR K ⟨rgL lo n, fun _ => True⟩ (Itr lo n) Ha La := by
  intro i H L f r k
  have hl : (rgL lo n).length = n := by unfold rgL; rw [List.length_map, List.length_range]
  refine ⟨fun hi => ⟨by show i < n; rw [← hl]; exact hi, fun v H' y => ?_⟩, fun hi => by show n ≤ i; rw [hi]; show n ≤ (rgL lo n).length; rw [hl]; exact Nat.le_refl _⟩
  obtain ⟨rfl, rfl⟩ := y
  have hi' : i < n := by rw [← hl]; exact hi
  refine ⟨.int (lo + i), ?_, rfl, .refl, r⟩
  show (rgL lo n)[i]? = _
  unfold rgL
  rw [List.getElem?_map, List.getElem?_range hi']
  rfl
theorem wk_rangeC {lo c : Int} {n : Nat} : WalkR K ⟨rgLc lo c n, fun _ => True⟩ (Itc lo c n) Ha La := by
  intro i H L f r k
  have hl : (rgLc lo c n).length = n := by unfold rgLc; rw [List.length_map, List.length_range]
  refine ⟨fun hi => ⟨by show i < n; rw [← hl]; exact hi, fun v H' y => ?_⟩, fun hi => by show n ≤ i; rw [hi]; show n ≤ (rgLc lo c n).length; rw [hl]; exact Nat.le_refl _⟩
  obtain ⟨rfl, rfl⟩ := y
  have hi' : i < n := by rw [← hl]; exact hi
  refine ⟨.int (lo + (i : Nat) * c), ?_, rfl, .refl, r⟩
  show (rgLc lo c n)[i]? = _
  unfold rgLc
  rw [List.getElem?_map, List.getElem?_range hi']
  rfl
theorem wk_tup {a : Addr} {xs : List PV} {vs : List V} (ra : RepH K Ha La) (t : TupAt K Ha a vs) (rv : RepVs K Ha xs vs) : WalkR K ⟨xs, fun _ => True⟩ (Itt K a) Ha La := by
  intro i H L f r k
  have t' := t.ex (f.ex ra)
  have rv' := rv.ex (f.ex ra)
  refine ⟨fun hi => ?_, fun hi => ⟨vs, t'.sq, by rw [hi]; show vs.length ≤ xs.length; rw [rv.length]; exact Nat.le_refl _⟩⟩
  have hx : xs[i]? = some xs[i] := List.getElem?_eq_getElem hi
  obtain ⟨v, h1, h2⟩ := rv'.get hx
  refine ⟨⟨vs, v, t'.sq, h1⟩, fun u H' y => ?_⟩
  obtain ⟨rfl, y⟩ := y
  have e := y vs t'.sq
  rw [h1] at e
  cases e
  exact ⟨_, hx, h2, .refl, r⟩
theorem wk_list {a : Addr} {xs : List PV} : WalkR K ⟨xs, fun Lx => Lx a = some (.l xs)⟩ (Itl K a) Ha La := by
  intro i H L f r k
  obtain ⟨vs, h1, rv⟩ := r.lst k
  refine ⟨fun hi => ?_, fun hi => ⟨vs, .of h1, by rw [hi]; show vs.length ≤ xs.length; rw [rv.length]; exact Nat.le_refl _⟩⟩
  have hx : xs[i]? = some xs[i] := List.getElem?_eq_getElem hi
  obtain ⟨v, h2, h3⟩ := rv.get hx
  refine ⟨⟨vs, v, .of h1, h2⟩, fun u H' y => ?_⟩
  obtain ⟨rfl, y⟩ := y
  have e := y vs (.of h1)
  rw [h2] at e
  cases e
  exact ⟨_, hx, h3, .refl, r⟩
theorem wk_rev {a : Addr} {xs : List PV} {n : Nat} (hn : n = xs.length) : WalkR K ⟨xs.reverse, fun Lx => Lx a = some (.l xs)⟩ (Itv K a n) Ha La := by
  subst hn
  intro i H L f r k
  obtain ⟨vs, h1, rv⟩ := r.lst k
  refine ⟨fun hi => ?_, fun hi => by show xs.length ≤ i; rw [hi]; show xs.length ≤ xs.reverse.length; rw [List.length_reverse]; exact Nat.le_refl _⟩
  have hi' : i < xs.length := by
    have : i < xs.reverse.length := hi
    rw [List.length_reverse] at this
    exact this
  have hj : xs.length - 1 - i < xs.length := by omega
  have hx : xs[xs.length - 1 - i]? = some xs[xs.length - 1 - i] := List.getElem?_eq_getElem hj
  obtain ⟨v, h2, h3⟩ := rv.get hx
  refine ⟨⟨hi', vs, v, .of h1, h2⟩, fun u H' y => ?_⟩
  obtain ⟨rfl, y⟩ := y
  have e := y vs (.of h1)
  rw [h2] at e
  cases e
  refine ⟨_, ?_, h3, .refl, r⟩
  show xs.reverse[i]? = _
  rw [List.getElem?_reverse hi', hx]
theorem wk_str {z : Str} : WalkR K ⟨z.cps.toList.map fun c => .str ⟨#[c]⟩, fun _ => True⟩ (Its z) Ha La := by
  intro i H L f r k
  refine ⟨fun hi => ?_, fun hi => by show z.cps.size ≤ i; rw [hi]; show z.cps.size ≤ (z.cps.toList.map _).length; rw [List.length_map, Array.length_toList]; exact Nat.le_refl _⟩
  have hi' : i < z.cps.size := by
    have : i < (z.cps.toList.map fun c => PV.str ⟨#[c]⟩).length := hi
    rw [List.length_map, Array.length_toList] at this
    exact this
  refine ⟨hi', fun v H' y => ?_⟩
  obtain ⟨rfl, c, e, rfl⟩ := y
  refine ⟨.str ⟨#[c]⟩, ?_, rfl, .refl, r⟩
  show (z.cps.toList.map _)[i]? = _
  rw [List.getElem?_map, Array.getElem?_toList, e]
  rfl
theorem pair_ok {H : Hp} {L : Sto} (r : RepH K H L) {T : Addr} {x y : PV} {v w : V} (hT : H T = none) (rx : RepV K H x v) (ry : RepV K H y w) :
    RepV K (upd H T (.tup [v, w])) (.tup [x, y]) (.ref T) ∧ Fm H L (upd H T (.tup [v, w])) L ∧ RepH K (upd H T (.tup [v, w])) L :=
  ⟨repv_tup ⟨v, [w], rfl, rx, w, [], rfl, ry, rfl⟩ hT, fm_tup r hT, reph_tup r hT⟩
theorem wk_enum {a : Addr} {xs : List PV} : WalkR K ⟨enL xs, fun Lx => Lx a = some (.l xs)⟩ (Ite K a) Ha La := by
  intro i H L f r k
  obtain ⟨vs, h1, rv⟩ := r.lst k
  have hl : (enL xs).length = xs.length := by unfold enL; rw [List.length_map, List.length_range]
  refine ⟨fun hi => ?_, fun hi => ⟨vs, .of h1, by rw [hi]; show vs.length ≤ (enL xs).length; rw [hl, rv.length]; exact Nat.le_refl _⟩⟩
  have hi' : i < xs.length := by rw [← hl]; exact hi
  have hx : xs[i]? = some xs[i] := List.getElem?_eq_getElem hi'
  obtain ⟨v, h2, h3⟩ := rv.get hx
  refine ⟨⟨vs, v, .of h1, h2⟩, fun u H' y => ?_⟩
  obtain ⟨T, w, rfl, hT, rfl, y⟩ := y
  have e := y vs (.of h1)
  rw [h2] at e
  cases e
  obtain ⟨q1, q2, q3⟩ := pair_ok r (x := .int (i : Nat)) (v := .int (i : Nat)) hT rfl h3
  refine ⟨_, ?_, q1, q2, q3⟩
  show (enL xs)[i]? = _
  unfold enL
  rw [List.getElem?_map, List.getElem?_range hi']
  simp [List.getD, hx]
theorem wk_zip {a b : Addr} {xs ys : List PV} : WalkR K ⟨zipL xs ys, fun Lx => Lx a = some (.l xs) ∧ Lx b = some (.l ys)⟩ (Itz K a b) Ha La := by
  intro i H L f r k
  obtain ⟨vs, h1, rv⟩ := r.lst k.1
  obtain ⟨ws, g1, rw'⟩ := r.lst k.2
  have hl : (zipL xs ys).length = min xs.length ys.length := by unfold zipL; rw [List.length_zipWith]
  refine ⟨fun hi => ?_, fun hi => ⟨vs, ws, .of h1, .of g1, ?_⟩⟩
  · have hi' : i < min xs.length ys.length := by rw [← hl]; exact hi
    have hx : xs[i]? = some xs[i] := List.getElem?_eq_getElem (by omega)
    have hy : ys[i]? = some ys[i] := List.getElem?_eq_getElem (by omega)
    obtain ⟨v, h2, h3⟩ := rv.get hx
    obtain ⟨w, g2, g3⟩ := rw'.get hy
    refine ⟨⟨vs, ws, v, w, .of h1, .of g1, h2, g2⟩, fun u H' y => ?_⟩
    obtain ⟨T, v', w', rfl, hT, rfl, y1, y2⟩ := y
    have e := y1 vs (.of h1)
    rw [h2] at e
    cases e
    have e := y2 ws (.of g1)
    rw [g2] at e
    cases e
    obtain ⟨q1, q2, q3⟩ := pair_ok r hT h3 g3
    refine ⟨_, ?_, q1, q2, q3⟩
    show (zipL xs ys)[i]? = _
    unfold zipL
    rw [List.getElem?_zipWith, hx, hy]
  · have e : i = min xs.length ys.length := by rw [hi]; exact hl
    rw [← rv.length, ← rw'.length, e]
    omega
theorem wk_zipT {a b : Addr} {xs ys : List PV} {vs ws : List V} (ra : RepH K Ha La) (t : TupAt K Ha a vs) (rv : RepVs K Ha xs vs) (u : TupAt K Ha b ws) (rw' : RepVs K Ha ys ws) : WalkR K ⟨zipL xs ys, fun _ => True⟩ (RZ.ItzT K a b) Ha La := by
  intro i H L f r k
  have t := t.ex (f.ex ra)
  have rv := rv.ex (f.ex ra)
  have u := u.ex (f.ex ra)
  have rw' := rw'.ex (f.ex ra)
  have hl : (zipL xs ys).length = min xs.length ys.length := by unfold zipL; rw [List.length_zipWith]
  refine ⟨fun hi => ?_, fun hi => ⟨vs, ws, t.sq, u.sq, ?_⟩⟩
  · have hi' : i < min xs.length ys.length := by rw [← hl]; exact hi
    have hx : xs[i]? = some xs[i] := List.getElem?_eq_getElem (by omega)
    have hy : ys[i]? = some ys[i] := List.getElem?_eq_getElem (by omega)
    obtain ⟨v, h2, h3⟩ := rv.get hx
    obtain ⟨w, g2, g3⟩ := rw'.get hy
    refine ⟨⟨vs, ws, v, w, t.sq, u.sq, h2, g2⟩, fun u' H' y => ?_⟩
    obtain ⟨T, v', w', rfl, hT, rfl, y1, y2⟩ := y
    have e := y1 vs t.sq
    rw [h2] at e
    cases e
    have e := y2 ws u.sq
    rw [g2] at e
    cases e
    obtain ⟨q1, q2, q3⟩ := pair_ok r hT h3 g3
    refine ⟨_, ?_, q1, q2, q3⟩
    show (zipL xs ys)[i]? = _
    unfold zipL
    rw [List.getElem?_zipWith, hx, hy]
  · have e : i = min xs.length ys.length := by rw [hi]; exact hl
    rw [← rv.length, ← rw'.length, e]
    omega
end

section
variable {X : Cx} {pos p : Pos} {a b c tg : Expr} {wa wb wc : WE}
theorem i_ls (ha : PE X a (liftE X.K wa)) : PI X tg a (liftI X.K (iLs wa)) := pi_weak (pi_list ha) fun σ H R h => by
  obtain ⟨env, L, R', hs, hL, hw, k⟩ := h
  refine ⟨env, L, _, hs, hL, hw, fun x La v H1 hb f1 rx r1 => ?_⟩
  cases x <;> first | exact absurd hb (fun z => z) | skip
  cases (show _ = _ from rx)
  simp only at hb
  split at hb
  · rename_i xs e
    obtain ⟨vs, h1, _⟩ := r1.lst e
    exact ⟨_, rfl, ⟨vs, .of h1⟩, k _ La H1 _ hb f1 r1 wk_list⟩
  · exact hb.elim
theorem i_tp (ha : PE X a (liftE X.K wa)) : PI X tg a (liftI X.K (iTp wa)) := pi_weak (pi_tup ha) fun σ H R h => by
  obtain ⟨env, L, R', hs, hL, hw, k⟩ := h
  refine ⟨env, L, _, hs, hL, hw, fun x La v H1 hb f1 rx r1 => ?_⟩
  cases x <;> first | exact absurd hb (fun z => z) | skip
  obtain ⟨p, vs, rfl, t, r⟩ := rx
  exact ⟨p, rfl, ⟨vs, t.sq⟩, k _ La H1 _ hb f1 r1 (wk_tup r1 t r)⟩
theorem i_st (ha : PE X a (liftE X.K wa)) : PI X tg a (liftI X.K (iSt wa)) := pi_weak (pi_str ha) fun σ H R h => by
  obtain ⟨env, L, R', hs, hL, hw, k⟩ := h
  refine ⟨env, L, _, hs, hL, hw, fun x La v H1 hb f1 rx r1 => ?_⟩
  cases x <;> first | exact absurd hb (fun z => z) | skip
  cases (show _ = _ from rx)
  exact ⟨_, rfl, k _ La H1 _ hb f1 r1 wk_str⟩
theorem lift_a1 {σ : L2.St} {H : Hp} {T : List V → Hp → Prop} {env : Env} {L : Sto} {R : PK} (hs : RepS X.K H σ env) (hL : RepH X.K H L) (hw : wa env L R)
    (k : ∀ x La v H1, R x La → Fm H L H1 La → RepV X.K H1 x v → RepH X.K H1 La → T [v] H1) : liftA X.K [wa] σ H T := by
  refine ⟨env, L, fun xs La => match xs with | [x] => R x La | _ => False, hs, hL, hw, fun xs La vs H1 hb hn f1 rx r1 => ?_⟩
  match xs, hb with
  | [x], hb =>
    obtain ⟨v, rfl, rv⟩ := rx.one
    exact k x La v H1 hb f1 rv r1
theorem lift_a2 {σ : L2.St} {H : Hp} {T : List V → Hp → Prop} {env : Env} {L : Sto} {R : PV → PV → Sto → Prop} (hs : RepS X.K H σ env) (hL : RepH X.K H L) (hw : wa env L fun x La => wb env La fun y Lb => R x y Lb)
    (k : ∀ x y La v w H1, R x y La → Fm H L H1 La → RepV X.K H1 x v → RepV X.K H1 y w → RepH X.K H1 La → T [v, w] H1) : liftA X.K [wa, wb] σ H T := by
  refine ⟨env, L, fun xs La => match xs with | [x, y] => R x y La | _ => False, hs, hL, hw, fun xs La vs H1 hb hn f1 rx r1 => ?_⟩
  match xs, hb with
  | [x, y], hb =>
    obtain ⟨v, w, rfl, rv, rw'⟩ := rx.two
    exact k x y La v w H1 hb f1 rv rw' r1
theorem lift_a3 {σ : L2.St} {H : Hp} {T : List V → Hp → Prop} {env : Env} {L : Sto} {R : PV → PV → PV → Sto → Prop} (hs : RepS X.K H σ env) (hL : RepH X.K H L) (hw : wa env L fun x La => wb env La fun y Lb => wc env Lb fun z Lc => R x y z Lc)
    (k : ∀ x y z La v w u H1, R x y z La → Fm H L H1 La → RepV X.K H1 x v → RepV X.K H1 y w → RepV X.K H1 z u → RepH X.K H1 La → T [v, w, u] H1) : liftA X.K [wa, wb, wc] σ H T := by
  refine ⟨env, L, fun xs La => match xs with | [x, y, z] => R x y z La | _ => False, hs, hL, hw, fun xs La vs H1 hb hn f1 rx r1 => ?_⟩
  match xs, hb with
  | [x, y, z], hb =>
    obtain ⟨v, w, u, rfl, rv, rw', ru⟩ := rx.three
    exact k x y z La v w u H1 hb f1 rv rw' ru r1
theorem i_r1 (hg : Gl X "range") (hm : X.mg "range" = none) (ha : PA X [a] (liftA X.K [wa])) (hs : starEach [a] X.env = [(false, eval a X.env)]) : PI X tg (.Call (.Name "range" p) [a] [] pos) (liftI X.K (iR1 wa)) := pi_weak (pi_range1 hg hm ha hs) fun σ H R h => by
  obtain ⟨env, L, R', hs, hL, hw, k⟩ := h
  refine lift_a1 hs hL hw fun x La v H1 hb f1 rx r1 => ?_
  cases x <;> first | exact absurd hb (fun z => z) | skip
  cases (show _ = _ from rx)
  exact ⟨_, rfl, hb.1.1, hb.1.2, k _ La H1 _ hb.2 f1 r1 wk_range⟩
theorem i_r2 (hg : Gl X "range") (hm : X.mg "range" = none) (ha : PA X [a, b] (liftA X.K [wa, wb])) (hs : starEach [a, b] X.env = [(false, eval a X.env), (false, eval b X.env)]) (hs2 : starEach [b] X.env = [(false, eval b X.env)]) :
    PI X tg (.Call (.Name "range" p) [a, b] [] pos) (liftI X.K (iR2 wa wb)) := pi_weak (pi_range2 hg hm ha hs hs2) fun σ H R h => by
  obtain ⟨env, L, R', hs, hL, hw, k⟩ := h
  refine lift_a2 hs hL hw fun x y La v w H1 hb f1 rx ry r1 => ?_
  cases x <;> cases y <;> first | exact absurd hb (fun z => z) | skip
  cases (show _ = _ from rx)
  cases (show _ = _ from ry)
  exact ⟨_, _, rfl, ⟨hb.1.1, hb.1.2, hb.2.1.1, hb.2.1.2⟩, k _ La H1 _ hb.2.2 f1 r1 wk_range⟩
theorem i_r3 (hg : Gl X "range") (hm : X.mg "range" = none) (ha : PA X [a, b, c] (liftA X.K [wa, wb, wc])) (hs : starEach [a, b, c] X.env = (false, eval a X.env) :: starEach [b, c] X.env) (hpl : (backTo pos (starEach [b, c] X.env)).any (·.1) = false) :
    PI X tg (.Call (.Name "range" p) [a, b, c] [] pos) (liftI X.K (iR3 wa wb wc)) := pi_weak (pi_range3 hg hm ha hs hpl) fun σ H R h => by
  obtain ⟨env, L, R', hs, hL, hw, k⟩ := h
  refine lift_a3 hs hL hw fun x y z La v w u H1 hb f1 rx ry rz r1 => ?_
  cases x <;> cases y <;> cases z <;> first | exact absurd hb (fun z => z) | skip
  cases (show _ = _ from rx)
  cases (show _ = _ from ry)
  cases (show _ = _ from rz)
  obtain ⟨n, h1, h2⟩ := hb
  exact ⟨_, _, _, n, rfl, h1, k _ La H1 _ h2 f1 r1 wk_rangeC⟩
theorem i_en {elts : List Expr} {kk : Nat} {tpos : Pos} (hg : Gl X "enumerate") (hm : X.mg "enumerate" = none) (ha : PA X [a] (liftA X.K [wa])) (hs : starEach [a] X.env = [(false, eval a X.env)]) : PI X (.Tuple elts kk tpos) (.Call (.Name "enumerate" p) [a] [] pos) (liftI X.K (iEn wa)) := pi_weak (pi_enum hg hm ha hs) fun σ H R h => by
  obtain ⟨env, L, R', hs, hL, hw, k⟩ := h
  refine lift_a1 hs hL hw fun x La v H1 hb f1 rx r1 => ?_
  cases x <;> first | exact absurd hb (fun z => z) | skip
  cases (show _ = _ from rx)
  simp only at hb
  split at hb
  · rename_i xs e
    obtain ⟨vs, h1, _⟩ := r1.lst e
    exact ⟨_, vs, rfl, .of h1, k _ La H1 _ hb f1 r1 wk_enum⟩
  · exact hb.elim
theorem i_rv (hg : Gl X "reversed") (hm : X.mg "reversed" = none) (ha : PA X [a] (liftA X.K [wa])) (hs : starEach [a] X.env = [(false, eval a X.env)]) : PI X tg (.Call (.Name "reversed" p) [a] [] pos) (liftI X.K (iRv wa)) := pi_weak (pi_reversed hg hm ha hs) fun σ H R h => by
  obtain ⟨env, L, R', hs, hL, hw, k⟩ := h
  refine lift_a1 hs hL hw fun x La v H1 hb f1 rx r1 => ?_
  cases x <;> first | exact absurd hb (fun z => z) | skip
  cases (show _ = _ from rx)
  simp only at hb
  split at hb
  · rename_i xs e
    obtain ⟨vs, h1, rv⟩ := r1.lst e
    exact ⟨_, vs, rfl, .of h1, k _ La H1 _ hb f1 r1 (wk_rev rv.length.symm)⟩
  · exact hb.elim
theorem i_zp {elts : List Expr} {kk : Nat} {tpos : Pos} (hg : Gl X "zip") (hm : X.mg "zip" = none) (ha : PA X [a, b] (liftA X.K [wa, wb])) (hs : starEach [a, b] X.env = (false, eval a X.env) :: starEach [b] X.env) (hpl : (backTo pos (starEach [b] X.env)).any (·.1) = false) :
    PI X (.Tuple elts kk tpos) (.Call (.Name "zip" p) [a, b] [] pos) (liftI X.K (iZp wa wb)) := pi_weak (RZ.pi_zipA hg hm ha hs hpl) fun σ H R h => by
  obtain ⟨env, L, R', hs, hL, hw, k⟩ := h
  refine lift_a2 hs hL hw fun x y La v w H1 hb f1 rx ry r1 => ?_
  cases x <;> cases y <;> first | exact absurd hb (fun z => z) | skip
  · cases (show _ = _ from rx)
    cases (show _ = _ from ry)
    simp only at hb
    split at hb
    · rename_i xs ys e e2
      obtain ⟨vs, h1, _⟩ := r1.lst e
      obtain ⟨ws, h2, _⟩ := r1.lst e2
      exact ⟨_, _, vs, ws, rfl, .inl ⟨.of h1, .of h2, k _ La H1 _ hb f1 r1 wk_zip⟩⟩
    · exact hb.elim
  · obtain ⟨p, vs, rfl, t, r⟩ := rx
    obtain ⟨q, ws, rfl, t', r'⟩ := ry
    exact ⟨p, q, vs, ws, rfl, .inr ⟨t.sq, t'.sq, k _ La H1 _ hb f1 r1 (wk_zipT r1 t r t' r')⟩⟩
end

/-! ### targets -/
abbrev WG := PV → Env → Sto → (Env → Sto → Prop) → Prop
abbrev WGs := List PV → Env → Sto → (Env → Sto → Prop) → Prop
def liftG (K : PySem.W.Frag) (g : WG) : TG := fun v σ H Q => ∃ x env L R, RepV K H x v ∧ RepS K H σ env ∧ RepH K H L ∧ g x env L R ∧ ∀ env' L' σ' H', R env' L' → Fm H L H' L' → RepS K H' σ' env' → RepH K H' L' → Q σ' H'
def liftGs (K : PySem.W.Frag) (g : WGs) : TGs := fun v σ H Q => ∃ x env L R, RepVs K H x v ∧ RepS K H σ env ∧ RepH K H L ∧ g x env L R ∧ ∀ env' L' σ' H', R env' L' → Fm H L H' L' → RepS K H' σ' env' → RepH K H' L' → Q σ' H'
def gN (i : Nat) : WG := fun x env L R => R (env.set i (some x)) L
def gsNil : WGs := fun xs env L R => match xs with
  | [] => R env L
  | _ => False
def gsCons (g : WG) (gs : WGs) : WGs := fun xs env L R => match xs with
  | x :: r => g x env L fun env' L' => gs r env' L' R
  | _ => False
def gT (n : Nat) (gs : WGs) : WG := fun x env L R => match x with
  | .tup xs => xs.length = n ∧ gs xs env L R
  | _ => False
/-- o[i] = x, of a list or a dict -/
def gS (o i : WE) : WG := fun x env L R => o env L fun y La => i env La fun z Lb => match y, z with
  | .ref a, .int k => ∃ xs j, Lb a = some (.l xs) ∧ ixN xs.length k = some j ∧ R env (put Lb a (.l (xs.set j x)))
  | _, _ => False
section
variable {X : Cx} {pos p : Pos} {a b tg : Expr} {wa wb wc : WE} {K : PySem.W.Frag} {H H' : Hp} {σ : L2.St} {env : Env} {L : Sto}
theorem RepS.set (h : RepS K H σ env) (i : Nat) {x : PV} {v : V} (r : RepV K H x v) : RepS K H (σ.set i (some v)) (env.set i (some x)) := by
  refine ⟨by rw [List.length_set, List.length_set]; exact h.1, fun j y e => ?_⟩
  by_cases hj : j = i
  · subst hj
    by_cases hl : j < env.length
    · rw [List.getElem?_set_self hl] at e
      cases e
      exact ⟨v, by rw [List.getElem?_set_self (by rw [h.1]; exact hl)], r⟩
    · rw [List.getElem?_eq_none (by rw [List.length_set]; omega)] at e
      cases e
  · rw [List.getElem?_set_ne (Ne.symm hj)] at e
    obtain ⟨w, h1, h2⟩ := h.2 j y e
    exact ⟨w, by rw [List.getElem?_set_ne (Ne.symm hj)]; exact h1, h2⟩
theorem pg_weak {t t' : TG} (h : PG X tg t) (w : ∀ v σ H Q, t' v σ H Q → t v σ H Q) : PG X tg t' := ⟨fun pins s σ H v u Q I r q => h.run pins s σ H v u Q I r (w v σ H Q q)⟩
theorem pgs_weak {tgs : List Expr} {t t' : TGs} (h : PGs X tgs t) (w : ∀ v σ H Q, t' v σ H Q → t v σ H Q) : PGs X tgs t' := ⟨fun pins s σ H v u Q I r q => h.run pins s σ H v u Q I r (w v σ H Q q)⟩
theorem g_name {i : Nat} {x : Str} (hN : X.N.Nodup) (hi : X.N[i]? = some x) (hx : Loc X.env.scope x) (hf : X.fn x = true ∨ X.env.scope.names.lookup x = some .local) : PG X (.Name x pos) (liftG X.K (gN i)) :=
  pg_weak (pg_name hN hi hx hf) fun v σ H Q h => by
    obtain ⟨x, env, L, R, rx, hs, hL, hw, k⟩ := h
    exact k _ L _ H hw .refl (hs.set i rx) hL
theorem g_nil : PGs X [] (liftGs X.K gsNil) := pgs_weak pgs_nil fun v σ H Q h => by
  obtain ⟨x, env, L, R, rx, hs, hL, hw, k⟩ := h
  match x, hw with
  | [], hw =>
    cases (show _ = _ from rx)
    exact ⟨rfl, k _ L _ H hw .refl hs hL⟩
theorem g_cons {es : List Expr} {g : WG} {gs : WGs} (h1 : PG X tg (liftG X.K g)) (h2 : PGs X es (liftGs X.K gs)) (hs : (assignEach (tg :: es) X.env).map (·.2) = assign tg X.env :: (assignEach es X.env).map (·.2)) : PGs X (tg :: es) (liftGs X.K (gsCons g gs)) :=
  pgs_weak (pgs_cons h1 h2 hs) fun v σ H Q h => by
    obtain ⟨x, env, L, R, rx, hs, hL, hw, k⟩ := h
    match x, hw with
    | x :: r, hw =>
      obtain ⟨w, ws, rfl, rw', rr⟩ := rx
      refine ⟨w, ws, rfl, x, env, L, _, rw', hs, hL, hw, fun env' L' σ' H' hb f1 hs' r1 => ?_⟩
      exact ⟨r, env', L', R, rr.ex (f1.ex hL), hs', r1, hb, fun e2 l2 s2 h2 hr f2 => k e2 l2 s2 h2 hr (f1.trans f2)⟩
theorem g_tup {es : List Expr} {kk n : Nat} {gs : WGs} (hc : X.calm = true) (h : PGs X es (liftGs X.K gs)) (hn : (assignEach es X.env).length = n) (hst : (assignEach es X.env).findIdx? (·.1) = none) : PG X (.Tuple es kk pos) (liftG X.K (gT n gs)) :=
  pg_weak (pg_tup hc h hn hst) fun v σ H Q h => by
    obtain ⟨x, env, L, R, rx, hs, hL, hw, k⟩ := h
    match x, hw with
    | .tup xs, hw =>
      obtain ⟨a, vs, rfl, t, r⟩ := rx
      exact ⟨a, vs, rfl, t.sq, by rw [← r.length]; exact hw.1, xs, env, L, R, r, hs, hL, hw.2, k⟩
theorem g_sub (ha : PE X a (liftE X.K wa)) (hb : PE X b (liftE X.K wb)) (hq : ∀ v, assign (.Subscript a b pos) X.env v = (do
      let ov ← holding [v] (eval a X.env)
      let iv ← holding [v, ov] (eval b X.env)
      standAt pos
      holding [v, ov, iv] (setItem ov iv v)
      release [v, ov, iv] [])) : PG X (.Subscript a b pos) (liftG X.K (gS wa wb)) :=
  pg_weak (pg_sub ha hb set_list hq) fun v σ H Q h => by
    obtain ⟨x, env, L, R, rx, hs, hL, hw, k⟩ := h
    refine ⟨env, L, _, hs, hL, hw, fun y La u H1 hb f1 ry r1 => ?_⟩
    refine ⟨env, La, _, hs.ex (f1.ex hL), r1, hb, fun z Lb w H2 hc f2 rz r2 => ?_⟩
    match y, z, hc with
    | .ref q, .int i, hc =>
      cases (show _ = _ from ry)
      cases (show _ = _ from rz)
      obtain ⟨xs, j, e, hj, hr⟩ := hc
      obtain ⟨vs, h1, r⟩ := r2.lst e
      have ex := (f1.ex hL).trans (f2.ex r1)
      refine ⟨q, vs, i, j, rfl, rfl, h1, by rw [← r.length]; exact hj, ?_⟩
      exact k env _ σ _ hr ((f1.trans f2).trans (fm_put e)) ((hs.ex ex).ex (ex_put r2 e)) (reph_put r2 e (r.set j (rx.ex ex)))
end
end Mp
namespace Mp
open PySem PySem.Spec PyProof.Rows L2

/-! ### comprehensions -/
def wipeE (env : Env) : List Nat → Env
  | [] => env
  | v :: vs => (wipeE env vs).set v none
def compW (keep : Sto → Prop) (g : WG) (t e : WE) (env : Env) : List PV → List PV → Sto → (List PV → Sto → Prop) → Prop
  | [], acc, L, R => keep L ∧ R acc L
  | x :: r, acc, L, R => keep L ∧ g x env L fun env' La => t env' La fun b Lb => bIf b (e env' Lb fun y Lc => acc.length < sizeLine ∧ compW keep g t e env r (acc ++ [y]) Lc R) (compW keep g t e env r acc Lb R)
def wComp (own : List Nat) (it : WI) (g : WG) (t e : WE) : WE := fun env L R => it env L fun c La => compW c.keep g t e (wipeE env own) c.items [] La fun acc Lb => newL Lb acc R
def gsN : List Nat → WGs
  | [] => gsNil
  | i :: is => gsCons (gN i) (gsN is)
/-- a comprehension's target: names of its own -/
def CtOk (K : PySem.W.Frag) (g : TG) (wg : WG) (vs : List Nat) : Prop := ∀ (v : V) (x : PV) (σ : L2.St) (env : Env) (H : Hp) (L : Sto) (R : Env → Sto → Prop) (Q : L2.St → Hp → Prop), RepV K H x v → RepS K H σ env → RepH K H L → wg x env L R →
  (∀ σ2 env2, R env2 L → RepS K H σ2 env2 → wipe σ2 vs = wipe σ vs → Q σ2 H) → g v σ H Q
def CtsOk (K : PySem.W.Frag) (g : TGs) (wg : WGs) (vs : List Nat) : Prop := ∀ (v : List V) (x : List PV) (σ : L2.St) (env : Env) (H : Hp) (L : Sto) (R : Env → Sto → Prop) (Q : L2.St → Hp → Prop), RepVs K H x v → RepS K H σ env → RepH K H L → wg x env L R →
  (∀ σ2 env2, R env2 L → RepS K H σ2 env2 → wipe σ2 vs = wipe σ vs → Q σ2 H) → g v σ H Q
section
variable {X : Cx} {K : PySem.W.Frag} {H H' : Hp} {σ : L2.St} {env : Env} {L : Sto}
theorem wipe_set {σ : L2.St} {i : Nat} {v : Option V} : ∀ {vs : List Nat}, i ∈ vs → wipe (σ.set i v) vs = wipe σ vs
  | a :: vs, h => by
    show (wipe (σ.set i v) vs).set a none = (wipe σ vs).set a none
    by_cases hi : i ∈ vs
    · rw [wipe_set hi]
    · have e : i = a := by
        rcases List.mem_cons.mp h with h | h
        · exact h
        · exact absurd h hi
      subst e
      have com : ∀ (vs : List Nat) (σ : L2.St), i ∉ vs → wipe (σ.set i v) vs = (wipe σ vs).set i v := by
        intro vs
        induction vs with
        | nil => intro σ _; rfl
        | cons b vs ih =>
          intro σ hb
          rw [List.mem_cons, not_or] at hb
          show (wipe (σ.set i v) vs).set b none = ((wipe σ vs).set b none).set i v
          rw [ih σ hb.2, List.set_comm _ _ hb.1]
      rw [com vs σ hi, List.set_set]
theorem wipe_get (σ : L2.St) (i : Nat) : ∀ vs : List Nat, (wipe σ vs)[i]? = if i ∈ vs then (if i < σ.length then some none else none) else σ[i]?
  | [] => by rw [if_neg (by simp)]; rfl
  | v :: vs => by
    show ((wipe σ vs).set v none)[i]? = _
    by_cases h : v = i
    · subst h
      rw [if_pos List.mem_cons_self]
      by_cases hl : v < σ.length
      · rw [List.getElem?_set_self (by rw [wipe_length]; exact hl), if_pos hl]
      · rw [List.getElem?_eq_none (by rw [List.length_set, wipe_length]; omega), if_neg hl]
    · rw [List.getElem?_set_ne h, wipe_get σ i vs]
      have e : (i ∈ v :: vs) = (i ∈ vs) := by
        rw [List.mem_cons]
        exact propext ⟨fun q => q.elim (fun z => absurd z.symm h) id, .inr⟩
      simp only [e]
theorem wipe_idem (σ : L2.St) (vs : List Nat) : wipe (wipe σ vs) vs = wipe σ vs := by
  refine List.ext_getElem? fun i => ?_
  rw [wipe_get (wipe σ vs) i vs, wipe_get σ i vs, wipe_length]
  split <;> rfl
theorem wipe_lenE (env : Env) : ∀ vs : List Nat, (wipeE env vs).length = env.length
  | [] => rfl
  | v :: vs => by unfold wipeE; rw [List.length_set, wipe_lenE env vs]
theorem RepS.wipe (h : RepS K H σ env) : ∀ vs : List Nat, RepS K H (L2.wipe σ vs) (wipeE env vs)
  | [] => h
  | v :: vs => by
    have ih := RepS.wipe h vs
    refine ⟨by rw [wipe_length, wipe_lenE]; exact h.1, fun i x e => ?_⟩
    unfold wipeE at e
    unfold L2.wipe
    by_cases hi : v = i
    · subst hi
      by_cases hl : v < (wipeE env vs).length
      · rw [List.getElem?_set_self hl] at e; cases e
      · rw [List.getElem?_eq_none (by rw [List.length_set]; omega)] at e; cases e
    · rw [List.getElem?_set_ne hi] at e
      obtain ⟨w, h1, h2⟩ := ih.2 i x e
      exact ⟨w, by rw [List.getElem?_set_ne hi]; exact h1, h2⟩
theorem ct_one {i : Nat} {vs : List Nat} (hi : i ∈ vs) : CtOk K (gName i) (gN i) vs := fun v x σ env H L R Q rx hs hL hw k => k _ _ hw (hs.set i rx) (wipe_set hi)
theorem cts_nil {vs : List Nat} : CtsOk K gNil gsNil vs := fun v x σ env H L R Q rx hs hL hw k => by
  match x, hw with
  | [], hw =>
    cases (show _ = _ from rx)
    exact ⟨rfl, k _ _ hw hs rfl⟩
theorem cts_cons {i : Nat} {vs : List Nat} {g : TGs} {wg : WGs} (hi : i ∈ vs) (h : CtsOk K g wg vs) : CtsOk K (gCons (gName i) g) (gsCons (gN i) wg) vs := fun v x σ env H L R Q rx hs hL hw k => by
  match x, hw with
  | x :: r, hw =>
    obtain ⟨w, ws, rfl, rw', rr⟩ := rx
    refine ⟨w, ws, rfl, ?_⟩
    exact h ws r _ _ H L R Q rr (hs.set i rw') hL hw fun σ2 env2 h1 h2 h3 => k σ2 env2 h1 h2 (h3.trans (wipe_set hi))
theorem gsN_len : ∀ {is : List Nat} {xs : List PV} {env : Env} {L : Sto} {R : Env → Sto → Prop}, gsN is xs env L R → xs.length = is.length
  | [], [], _, _, _, _ => rfl
  | [], _ :: _, _, _, _, h => h.elim
  | _ :: _, [], _, _, _, h => h.elim
  | i :: is, x :: xs, env, L, R, h => by rw [List.length_cons, List.length_cons, gsN_len (is := is) (show gsN is xs _ L R from h)]
theorem ct_many {is vs : List Nat} {n : Nat} {g : TGs} (hn : n = is.length) (h : CtsOk K g (gsN is) vs) : CtOk K (gTup K n g) (gT is.length (gsN is)) vs := fun v x σ env H L R Q rx hs hL hw k => by
  match x, hw with
  | .tup xs, hw =>
    obtain ⟨a, ws, rfl, t, r⟩ := rx
    exact ⟨a, ws, rfl, t.sq, by rw [← r.length, hn]; exact hw.1, h ws xs σ env H L R Q r hs hL hw.2 k⟩
theorem compW_keep {keep : Sto → Prop} {g : WG} {t e : WE} {env : Env} {xs acc : List PV} {L : Sto} {R : List PV → Sto → Prop} (h : compW keep g t e env xs acc L R) : keep L := by
  cases xs with
  | nil => exact h.1
  | cons x r => exact h.1
theorem lift_comp {own : List Nat} {wi : WI} {g : TG} {wg : WG} {tt : TT} {wt we : WE} {σ : L2.St} {H : Hp} {Q : VK} (hg : CtOk K g wg own) (ht : ∀ σ H Q, liftT K wt σ H Q → tt σ H Q) (h : liftE K (wComp own wi wg wt we) σ H Q) :
    tLc (liftI K wi) g tt (liftE K we) own σ H Q := by
  obtain ⟨env, L, R, hs, hL, hw, k⟩ := h
  refine ⟨env, L, _, hs, hL, hw, fun c La H1 J hb f1 r1 wk => ?_⟩
  intro D hD
  have LaD := r1.fresh hD
  refine ⟨fun i m H2 => m = c.items.length - i ∧ i ≤ c.items.length ∧ ∃ Lx acc vs, RepH K H2 Lx ∧ Fm H1 La H2 Lx ∧ H2 D = some (.lst vs) ∧ Lx D = none ∧ RepVs K H2 acc vs ∧
      compW c.keep wg wt we (wipeE env own) (c.items.drop i) acc Lx fun acc Lb => newL Lb acc R, ⟨c.items.length, (Nat.sub_zero _).symm, Nat.zero_le _, La, [], [], ?_, ?_, upd_same, LaD, rfl, hb⟩, ?_⟩
  · exact fun a o e => (r1 a o e).ex (ex_new hD) fun u q => by rw [upd_ne (ne_of_none q hD)]; exact q
  · exact fun a o e n => ⟨by rw [upd_ne (ne_of_none e hD)]; exact e, n⟩
  rintro i m H2 ⟨rfl, hi, Lx, acc, vs, r2, f2, hD2, LD2, rv, hc⟩
  have q := wk i H2 Lx f2 r2 (compW_keep hc)
  by_cases hlt : i < c.items.length
  · refine .inr ⟨(q.1 hlt).1, fun H3 => i + 1 ≤ c.items.length ∧ ∃ Lx acc vs, RepH K H3 Lx ∧ Fm H1 La H3 Lx ∧ H3 D = some (.lst vs) ∧ Lx D = none ∧ RepVs K H3 acc vs ∧
      compW c.keep wg wt we (wipeE env own) (c.items.drop (i + 1)) acc Lx fun acc Lb => newL Lb acc R, fun H' hN => ⟨c.items.length - (i + 1), by omega, rfl, hN.1, hN.2⟩, fun v H' hy => ?_⟩
    obtain ⟨x, hx, rx, f3, r3⟩ := (q.1 hlt).2 v H' hy
    have hdrop : c.items.drop i = x :: c.items.drop (i + 1) := by
      rw [List.drop_eq_getElem_cons hlt]
      rw [List.getElem?_eq_getElem hlt] at hx
      rw [Option.some.inj hx]
    rw [hdrop] at hc
    obtain ⟨_, hc⟩ := hc
    have e3 := f3.ex r2
    have ex13 := (f1.ex hL).trans ((f2.ex r1).trans e3)
    obtain ⟨hD3, LD3⟩ := f3 D _ hD2 LD2
    refine hg v x _ (wipeE env own) H' Lx _ _ rx ((hs.ex ex13).wipe own) r3 hc fun σ2 env2 hc2 hs2 hw2 => ⟨by rw [hw2, wipe_idem], ?_⟩
    refine ht _ _ _ ⟨env2, Lx, _, hs2, r3, hc2, fun b Lb H4 hb4 f4 r4 => ?_⟩
    obtain ⟨b, rfl, hb6⟩ := bIf_bl hb4
    clear hb4
    have hb4 := hb6
    refine ⟨b, rfl, ?_⟩
    obtain ⟨hD4, LD4⟩ := f4 D _ hD3 LD3
    have e4 := f4.ex r3
    cases b with
    | false =>
      rw [if_neg Bool.false_ne_true] at hb4 ⊢
      exact ⟨hlt, Lb, acc, vs, r4, f2.trans (f3.trans f4), hD4, LD4, (rv.ex e3).ex e4, hb4⟩
    | true =>
      rw [if_pos rfl] at hb4 ⊢
      refine ⟨env2, Lb, _, hs2.ex e4, r4, hb4, fun y Lc w H5 hb5 f5 ry r5 => ?_⟩
      obtain ⟨hD5, LD5⟩ := f5 D _ hD4 LD4
      have e5 := f5.ex r4
      have rv5 := ((rv.ex e3).ex e4).ex e5
      have exD : Ex H5 (upd H5 D (.lst (vs ++ [w]))) :=
        ⟨fun a xs q => by rw [upd_ne (fun z => by rw [z, hD5] at q; cases q)]; exact q, fun a o xs q => by rw [upd_ne (fun z => by rw [z, hD5] at q; cases q)]; exact q⟩
      refine ⟨vs, hD5, by rw [← rv.length]; exact hb5.1, hlt, Lc, acc ++ [y], vs ++ [w], ?_, ?_, upd_same, LD5, (rv5.append (show RepVs K H5 [y] [w] from ⟨w, [], rfl, ry, rfl⟩)).ex exD, hb5.2⟩
      · intro a o e
        have ne : a ≠ D := fun z => by rw [z, LD5] at e; cases e
        exact (r5 a o e).ex exD fun u q => by rw [upd_ne ne]; exact q
      · intro a o e n
        have ne : a ≠ D := ne_of_none e hD
        obtain ⟨e1, n1⟩ := (f2.trans (f3.trans (f4.trans f5))) a o e n
        exact ⟨by rw [upd_ne ne]; exact e1, n1⟩
  · have ei : i = c.items.length := by omega
    refine .inl ⟨q.2 ei, ?_⟩
    rw [ei, List.drop_length] at hc
    obtain ⟨_, hc⟩ := hc
    -- the list enters the store
    have exS : Ex H2 H2 := .refl
    refine k _ _ _ _ (hc D LD2) ?_ rfl ?_
    · intro a o e n
      obtain ⟨e1, n1⟩ := f1 a o e n
      obtain ⟨e2, n2⟩ := f2 a o e1 n1
      have ne : a ≠ D := ne_of_none e1 hD
      exact ⟨e2, by rw [put_ne ne]; exact n2⟩
    · intro a o e
      by_cases ne : a = D
      · subst ne
        rw [put_same] at e
        cases e
        exact ⟨vs, hD2, rv⟩
      · rw [put_ne ne] at e
        exact r2 a o e
end

/-! ### statements -/
structure Nd where
  nx : Env → Sto → Prop
  rt : PK
  bk : Env → Sto → Prop := fun _ _ => False
  ct : Env → Sto → Prop := fun _ _ => False
abbrev WS := Env → Sto → Nd → Prop
structure NdK (K : PySem.W.Frag) (H : Hp) (L : Sto) (N : Nd) (D : Ends) : Prop where
  nx : ∀ env' L' σ' H', N.nx env' L' → Fm H L H' L' → RepS K H' σ' env' → RepH K H' L' → D.nx σ' H'
  rt : Kt K H L N.rt D.rt
  bk : ∀ env' L' σ' H', N.bk env' L' → Fm H L H' L' → RepS K H' σ' env' → RepH K H' L' → D.bk σ' H'
  ct : ∀ env' L' σ' H', N.ct env' L' → Fm H L H' L' → RepS K H' σ' env' → RepH K H' L' → D.ct σ' H'
theorem NdK.fm {K : PySem.W.Frag} {H H1 : Hp} {L La : Sto} {N : Nd} {D : Ends} (k : NdK K H L N D) (f : Fm H L H1 La) : NdK K H1 La N D :=
  ⟨fun a b c d h f' => k.nx a b c d h (f.trans f'), k.rt.fm f, fun a b c d h f' => k.bk a b c d h (f.trans f'), fun a b c d h f' => k.ct a b c d h (f.trans f')⟩
def liftS (K : PySem.W.Frag) (w : WS) : TS := fun D σ H => ∃ env L N, RepS K H σ env ∧ RepH K H L ∧ w env L N ∧ NdK K H L N D
def sNil : WS := fun env L N => N.nx env L
def sSeq (s t : WS) : WS := fun env L N => s env L { N with nx := fun e l => t e l N }
def sExpr (e : WE) : WS := fun env L N => e env L fun _ La => N.nx env La
def sRet (e : WE) : WS := fun env L N => e env L N.rt
def sRetN : WS := fun _ L N => N.rt .non L
def sAsg (g : WG) (e : WE) : WS := fun env L N => e env L fun x La => g x env La N.nx
def sIf (c : WE) (a b : WS) : WS := fun env L N => c env L fun x La => bIf x (a env La N) (b env La N)
def sBrk : WS := fun env L N => N.bk env L
def sCnt : WS := fun env L N => N.ct env L
def sPar (is : List Nat) (ws : List WE) : WS := fun env L N => wAr ws env L fun xs La => N.nx ((is.zip xs).foldl (fun e p => e.set p.1 (some p.2)) env) La
def sAug (i : Nat) (f : Op2) (e : WE) : WS := fun env L N => match gv env i with
  | some x => e env L fun y La => f x y La fun z Lb => N.nx (env.set i (some z)) Lb
  | none => False
def loopW (keep : Sto → Prop) (g : WG) (b : WS) : List PV → Env → Sto → Nd → Prop
  | [], env, L, N => keep L ∧ N.nx env L
  | x :: r, env, L, N => keep L ∧ g x env L fun env' La => b env' La { nx := fun e l => loopW keep g b r e l N, rt := N.rt, bk := N.nx, ct := fun e l => loopW keep g b r e l N }
def sFor (it : WI) (g : WG) (b : WS) : WS := fun env L N => it env L fun c La => loopW c.keep g b c.items env La N
def sWhile (c : WE) (b : WS) : WS := fun env L N => ∃ W : Nat → Env → Sto → Prop, (∃ m, W m env L) ∧ ∀ m env L, W m env L → c env L fun x La => bIf x (b env La { nx := fun e l => ∃ m', m' < m ∧ W m' e l, rt := N.rt, bk := N.nx, ct := fun e l => ∃ m', m' < m ∧ W m' e l }) (N.nx env La)
section
variable {X : Cx} {K : PySem.W.Frag} {pos p : Pos} {a b c e tg iter : Expr} {st : Stmt} {rest ss : List Stmt} {wa wb wc we : WE} {ws wt : WS} {g : WG}
theorem s_nil : PSs X [] (liftS X.K sNil) := pss_nil.weak fun D σ H h => by
  obtain ⟨env, L, N, hs, hL, hw, k⟩ := h
  exact k.nx env L σ H hw .refl hs hL
theorem s_pass : PS X (.Pass pos) (liftS X.K sNil) := ps_pass.weak fun D σ H h => by
  obtain ⟨env, L, N, hs, hL, hw, k⟩ := h
  exact k.nx env L σ H hw .refl hs hL
theorem s_brk : PS X (.Break pos) (liftS X.K sBrk) := ps_break.weak fun D σ H h => by
  obtain ⟨env, L, N, hs, hL, hw, k⟩ := h
  exact k.bk env L σ H hw .refl hs hL
theorem s_cnt : PS X (.Continue pos) (liftS X.K sCnt) := ps_continue.weak fun D σ H h => by
  obtain ⟨env, L, N, hs, hL, hw, k⟩ := h
  exact k.ct env L σ H hw .refl hs hL
theorem s_cons (h1 : PS X st (liftS X.K ws)) (h2 : PSs X rest (liftS X.K wt)) : PSs X (st :: rest) (liftS X.K (sSeq ws wt)) := (pss_cons h1 h2).weak fun D σ H h => by
  obtain ⟨env, L, N, hs, hL, hw, k⟩ := h
  exact ⟨env, L, _, hs, hL, hw, ⟨fun env' L' σ' H' h f hs' r' => ⟨env', L', N, hs', r', h, k.fm f⟩, k.rt, k.bk, k.ct⟩⟩
theorem s_one (h1 : PS X st (liftS X.K ws)) : PSs X [st] (liftS X.K ws) := pss_one h1
theorem s_expr (he : PE X e (liftE X.K we)) (hs : swapsWith e none pos.line X.env = pure false) : PS X (.Expr e pos) (liftS X.K (sExpr we)) := (ps_expr he hs).weak fun D σ H h => by
  obtain ⟨env, L, N, hs, hL, hw, k⟩ := h
  exact ⟨env, L, _, hs, hL, hw, fun x La v H1 hb f1 rx r1 => k.nx env La σ H1 hb f1 (hs.ex (f1.ex hL)) r1⟩
theorem s_ret (he : PE X e (liftE X.K we)) : PS X (.Return (some e) pos) (liftS X.K (sRet we)) := (ps_ret he).weak fun D σ H h => by
  obtain ⟨env, L, N, hs, hL, hw, k⟩ := h
  exact ⟨env, L, _, hs, hL, hw, k.rt⟩
theorem s_retN : PS X (.Return none pos) (liftS X.K sRetN) := ps_retN.weak fun D σ H h => by
  obtain ⟨env, L, N, hs, hL, hw, k⟩ := h
  exact k.rt.here hL hw rfl
theorem s_asg (he : PE X e (liftE X.K we)) (hg : PG X tg (liftG X.K g)) (hs : swapsWithSole [tg] e pos.line X.env = pure false) (hw : swappedStores [tg] e X.env = pure none) (h1 : (assignEach [tg] X.env).map (·.2) = [assign tg X.env]) :
    PS X (.Assign [tg] e pos) (liftS X.K (sAsg g we)) := (ps_asg he hg hs hw h1).weak fun D σ H h => by
  obtain ⟨env, L, N, hs, hL, hw, k⟩ := h
  refine ⟨env, L, _, hs, hL, hw, fun x La v H1 hb f1 rx r1 => ?_⟩
  exact ⟨x, env, La, N.nx, rx, hs.ex (f1.ex hL), r1, hb, fun env' L' σ' H' h f hs' r' => k.nx env' L' σ' H' h (f1.trans f) hs' r'⟩
theorem s_if {aa bb : List Stmt} (hc : PT X c (liftT X.K wc)) (ha : PSs X aa (liftS X.K ws)) (hb : PSs X bb (liftS X.K wt)) : PS X (.If c aa bb pos) (liftS X.K (sIf wc ws wt)) := (ps_if hc ha hb).weak fun D σ H h => by
  obtain ⟨env, L, N, hs, hL, hw, k⟩ := h
  refine ⟨env, L, _, hs, hL, hw, fun x La H1 hb f1 r1 => ?_⟩
  obtain ⟨c, rfl, hc⟩ := bIf_bl hb
  refine ⟨c, rfl, ?_⟩
  cases c with
  | true => exact ⟨env, La, N, hs.ex (f1.ex hL), r1, hc, k.fm f1⟩
  | false => exact ⟨env, La, N, hs.ex (f1.ex hL), r1, hc, k.fm f1⟩
theorem s_aug {i : Nat} {x : Str} {op : Operator} {r : TIp} {f : Op2} (hN : X.N.Nodup) (hi : X.N[i]? = some x) (hx : Loc X.env.scope x) (hf : X.fn x = true ∨ X.env.scope.names.lookup x = some .local) (ho : PIp X op r) (hr : OpS X.K f r) (he : PE X e (liftE X.K we)) :
    PS X (.AugAssign (.Name x p) op e pos) (liftS X.K (sAug i f we)) := (ps_aug hN hi hx he ho hf).weak fun D σ H h => by
  obtain ⟨env, L, N, hs, hL, hw, k⟩ := h
  unfold sAug at hw
  cases e0 : gv env i with
  | none => rw [e0] at hw; exact hw.elim
  | some x0 =>
    rw [e0] at hw
    obtain ⟨v, e1, r1⟩ := hs.2 i x0 (gv_some e0)
    refine ⟨v, e1, env, L, _, hs, hL, hw, fun y La u H1 hb f1 ry r2 => ?_⟩
    refine hr x0 y v u H1 La _ _ (r1.ex (f1.ex hL)) ry r2 hb fun z Lb w H2 hz f2 rz r3 => ?_
    exact k.nx _ Lb _ H2 hz (f1.trans f2) (((hs.ex (f1.ex hL)).ex (f2.ex r2)).set i rz) r3
def oAddI : Op2 := fun x y L R => match x, y with
  | .int i, .int j => R (.int (i + j)) L
  | _, _ => False
theorem ip_addI : OpS K oAddI (ipI fun i j => i + j) := by
  intro x y v u H L R Q rx ry rh h k
  cases x <;> cases y <;> first | exact absurd h (fun z => z) | skip
  cases (show _ = _ from rx); cases (show _ = _ from ry)
  exact ⟨_, _, rfl, rfl, k.here rh h rfl⟩
theorem s_while {body : List Stmt} (hp : PassesOwn (model X.prog X.w) X.A X.env X.xe) (hc : PT X c (liftT X.K wc)) (hb : PSs X body (liftS X.K ws)) : PS X (.While c body [] pos) (liftS X.K (sWhile wc ws)) := (ps_while hp hc hb).weak fun D σ H h => by
  obtain ⟨env, L, N, hs, hL, ⟨W, ⟨m0, w0⟩, turn⟩, k⟩ := h
  refine ⟨fun m σ' H' => ∃ env' L', W m env' L' ∧ RepS X.K H' σ' env' ∧ RepH X.K H' L' ∧ Fm H L H' L', ⟨m0, env, L, w0, hs, hL, .refl⟩, ?_⟩
  rintro m σ1 H1 ⟨env1, La, w1, hs1, r1, f1⟩
  refine ⟨env1, La, _, hs1, r1, turn m env1 La w1, fun x Lb H2 hb f2 r2 => ?_⟩
  obtain ⟨c, rfl, hc⟩ := bIf_bl hb
  refine ⟨c, rfl, ?_⟩
  cases c with
  | true =>
    rw [if_pos rfl] at hc ⊢
    refine ⟨fun σ' H' => ∃ m', m' < m ∧ ∃ env' L', W m' env' L' ∧ RepS X.K H' σ' env' ∧ RepH X.K H' L' ∧ Fm H L H' L', fun σ' H' q => q, env1, Lb, _, hs1.ex (f2.ex r1), r2, hc, ?_⟩
    exact ⟨fun env' L' σ' H' ⟨m', hm, hw⟩ f hs' r' => ⟨m', hm, env', L', hw, hs', r', f1.trans (f2.trans f)⟩, k.rt.fm (f1.trans f2), fun env' L' σ' H' h f hs' r' => k.nx env' L' σ' H' h (f1.trans (f2.trans f)) hs' r',
      fun env' L' σ' H' ⟨m', hm, hw⟩ f hs' r' => ⟨m', hm, env', L', hw, hs', r', f1.trans (f2.trans f)⟩⟩
  | false =>
    rw [if_neg Bool.false_ne_true] at hc ⊢
    exact k.nx env1 Lb σ1 H2 hc (f1.trans f2) (hs1.ex (f2.ex r1)) r2
theorem loopW_keep {keep : Sto → Prop} {xs : List PV} {env : Env} {L : Sto} {N : Nd} (h : loopW keep g ws xs env L N) : keep L := by
  cases xs with
  | nil => exact h.1
  | cons x r => exact h.1
theorem s_for {body : List Stmt} {wi : WI} (hp : PassesOwn (model X.prog X.w) X.A X.env X.xe) (hc : X.calm = true) (hi : PI X tg iter (liftI X.K wi)) (hg : PG X tg (liftG X.K g)) (hb : PSs X body (liftS X.K ws))
    (hfs : ∀ x, foldedSetIterable iter X.env x = pure x) : PS X (.For tg iter body [] pos) (liftS X.K (sFor wi g ws)) := (ps_for hp hc hi hg hb hfs).weak fun D σ H h => by
  obtain ⟨env, L, N, hs, hL, hw, k⟩ := h
  refine ⟨env, L, _, hs, hL, hw, fun c La H1 J hb f1 r1 wk => ?_⟩
  refine ⟨fun i m σ2 H2 => m = c.items.length - i ∧ i ≤ c.items.length ∧ ∃ env2 Lx, RepS X.K H2 σ2 env2 ∧ RepH X.K H2 Lx ∧ Fm H1 La H2 Lx ∧ loopW c.keep g ws (c.items.drop i) env2 Lx N,
    ⟨c.items.length, (Nat.sub_zero _).symm, Nat.zero_le _, env, La, hs.ex (f1.ex hL), r1, .refl, hb⟩, ?_⟩
  rintro i m σ2 H2 ⟨rfl, hi, env2, Lx, hs2, r2, f2, hc⟩
  have q := wk i H2 Lx f2 r2 (loopW_keep hc)
  by_cases hlt : i < c.items.length
  · refine .inr ⟨(q.1 hlt).1, fun σ3 H3 => i + 1 ≤ c.items.length ∧ ∃ env2 Lx, RepS X.K H3 σ3 env2 ∧ RepH X.K H3 Lx ∧ Fm H1 La H3 Lx ∧ loopW c.keep g ws (c.items.drop (i + 1)) env2 Lx N,
      fun σ' H' hN => ⟨c.items.length - (i + 1), by omega, rfl, hN.1, hN.2⟩, fun v H' hy => ?_⟩
    obtain ⟨x, hx, rx, f3, r3⟩ := (q.1 hlt).2 v H' hy
    have hdrop : c.items.drop i = x :: c.items.drop (i + 1) := by
      rw [List.drop_eq_getElem_cons hlt]
      rw [List.getElem?_eq_getElem hlt] at hx
      rw [Option.some.inj hx]
    rw [hdrop] at hc
    obtain ⟨_, hc⟩ := hc
    refine ⟨x, env2, Lx, _, rx, hs2.ex (f3.ex r2), r3, hc, fun env3 Ly σ3 H3 hc3 f4 hs3 r4 => ?_⟩
    refine ⟨env3, Ly, _, hs3, r4, hc3, ?_⟩
    have ff := f2.trans (f3.trans f4)
    have kk := k.fm (f1.trans ff)
    exact ⟨fun env' L' σ' H' h f hs' r' => ⟨hlt, env', L', hs', r', ff.trans f, h⟩, kk.rt, kk.nx, fun env' L' σ' H' h f hs' r' => ⟨hlt, env', L', hs', r', ff.trans f, h⟩⟩
  · have ei : i = c.items.length := by omega
    refine .inl ⟨q.2 ei, ?_⟩
    rw [ei, List.drop_length] at hc
    exact k.nx env2 Lx σ2 H2 hc.2 (f1.trans f2) hs2 r2
end
end Mp
namespace Mp
open PySem PySem.Spec PyProof.Rows L2

/-! ### in, not in -/
def flP : PV → Bool
  | .non => true | .bl _ => true | .int _ => true | .str _ => true
  | _ => false
def toV : PV → V
  | .bl b => .bl b | .int i => .int i | .str x => .str x
  | _ => .non
def inB (x : PV) (ys : List PV) : Bool := inV (toV x) (ys.map toV)
def oInG (f : Bool → Bool) : Op2 := fun x y L R => match y with
  | .tup ys => flP x = true ∧ ys.all flP = true ∧ R (.bl (f (inB x ys))) L
  | .str z => (match x with
    | .str u => R (.bl (f (!(Builtin.Str.occurrences z u 0 z.length 1).isEmpty))) L
    | _ => False)
  | .ref a => (match L a with
    | some (.l ys) => ∃ d ds, PD L x d ∧ PDs L ys ds ∧ SeqAt.shaped d = true ∧ SeqAt.shaped (.list ds) = true ∧ R (.bl (f (ds.any fun z => PyData.eqv z d))) L
    | some (.d kvs) => (match x with
      | .int i => R (.bl (f (kvs.find? (fun kv => decide (kv.1 = .inl i))).isSome)) L
      | .str i => R (.bl (f (kvs.find? (fun kv => decide (kv.1 = .inr i))).isSome)) L
      | _ => False)
    | none => False)
  | _ => False
abbrev oIn : Op2 := oInG id
abbrev oNotIn : Op2 := oInG not
section
variable {X : Cx} {K : PySem.W.Frag} {H : Hp} {L : Sto}
theorem flP_V {x : PV} {v : V} (r : RepV K H x v) (h : flP x = true) : v = toV x ∧ flatV v = true := by
  cases x <;> first | (cases (show _ = _ from r); exact ⟨rfl, rfl⟩) | cases h
theorem flP_Vs : ∀ {xs : List PV} {vs : List V}, RepVs K H xs vs → xs.all flP = true → vs = xs.map toV ∧ vs.all flatV = true
  | [], _, r, _ => by cases (show _ = _ from r); exact ⟨rfl, rfl⟩
  | x :: xs, _, ⟨v, vs, h1, h2, h3⟩, h => by
    subst h1
    rw [List.all_cons, Bool.and_eq_true] at h
    obtain ⟨e1, f1⟩ := flP_V h2 h.1
    obtain ⟨e2, f2⟩ := flP_Vs h3 h.2
    exact ⟨by rw [e1, e2]; rfl, by rw [List.all_cons, f1, f2]; rfl⟩
theorem RepKs.miss {k : Key} : ∀ {kvs : List (Key × PV)} {ks : List (Key × V)}, RepKs K H kvs ks → (valV ks k).isSome = (kvs.find? (fun kv => decide (kv.1 = k))).isSome
  | [], _, h => by cases (show _ = _ from h); rfl
  | (k', x) :: r, _, ⟨v, ks, h1, h2, h3⟩ => by
    subst h1
    unfold valV
    rw [List.find?_cons, List.find?_cons]
    by_cases q : k' = k
    · rw [show decide (k' = k) = true from decide_eq_true q]; rfl
    · rw [show decide (k' = k) = false from decide_eq_false q]
      exact RepKs.miss h3
def rInDk (f : Bool → Bool) : R2 := fun x y H Q => ∃ a o, y = .ref a ∧ DGet H a x o ∧ Q (.bl (f o.isSome)) H
theorem op_inDk (hu : X.A.units + 1 < cLine) : OpR X (compareOp .In) (rInDk id) := by
  intro pins s σ H x y v u Q I rx ry h
  obtain ⟨a, o, rfl, g, q⟩ := h
  cases ry
  exact d_in hu I g rx fun s' I' => ⟨.bl o.isSome, H, I', rfl, q⟩
theorem op_notinDk (hu : X.A.units + 1 < cLine) : OpR X (compareOp .NotIn) (rInDk not) := by
  intro pins s σ H x y v u Q I rx ry h
  obtain ⟨a, o, rfl, g, q⟩ := h
  cases ry
  exact d_notIn hu I g rx fun s' I' => ⟨.bl (!o.isSome), H, I', rfl, q⟩
theorem ok_inG {op : CmpOp} {f : Bool → Bool} (h1 : OpR X (compareOp op) fun x y H Q => ∃ p xs, y = .ref p ∧ (SqL X.K H p xs ∨ SqT X.K H p xs) ∧ flatV x = true ∧ xs.all flatV = true ∧ Q (.bl (f (inV x xs))) H)
    (h2 : OpR X (compareOp op) fun x y H Q => ∃ i j, x = .str i ∧ y = .str j ∧ Q (.bl (f (!(Builtin.Str.occurrences j i 0 j.length 1).isEmpty))) H)
    (h3 : OpR X (compareOp op) fun x y H Q => ∃ d ds, Dp X.K H x d ∧ Dp X.K H y (.list ds) ∧ SeqAt.shaped d = true ∧ SeqAt.shaped (.list ds) = true ∧ Q (.bl (f (ds.any fun z => PyData.eqv z d))) H)
    (h4 : OpR X (compareOp op) (rInDk f)) : OpOk X (compareOp op) (oInG f) := by
  refine ⟨_, h1.or (h2.or (h3.or h4)), ?_⟩
  intro x y v u H L R Q rx ry rh h k
  unfold oInG at h
  split at h
  · obtain ⟨a, vs, rfl, t, r⟩ := ry
    obtain ⟨g1, g2, g3⟩ := h
    obtain ⟨e1, f1⟩ := flP_V rx g1
    obtain ⟨e2, f2⟩ := flP_Vs r g2
    refine .inl ⟨a, vs, rfl, .inr t.sq, f1, f2, ?_⟩
    rw [e1, e2]
    exact k.here rh g3 rfl
  · cases (show _ = _ from ry)
    split at h
    · cases (show _ = _ from rx)
      exact .inr (.inl ⟨_, _, rfl, rfl, k.here rh h rfl⟩)
    · exact h.elim
  · cases (show _ = _ from ry)
    split at h
    · rename_i ys e
      obtain ⟨vs, e1, r⟩ := rh.lst e
      obtain ⟨d, ds, g1, g2, g3, g4, g5⟩ := h
      exact .inr (.inr (.inl ⟨d, ds, g1.dp rh rx, .lst (.inl (.inl e1)) (g2.dp rh r), g3, g4, k.here rh g5 rfl⟩))
    · rename_i ys e
      obtain ⟨vs, e1, r⟩ := rh.dct e
      split at h
      · cases (show _ = _ from rx)
        rename_i i
        refine .inr (.inr (.inr ⟨_, valV vs (.inl i), rfl, .inl ⟨vs, .inl i, .inl e1, rfl, rfl⟩, ?_⟩))
        rw [RepKs.miss r]
        exact k.here rh h rfl
      · cases (show _ = _ from rx)
        rename_i i
        refine .inr (.inr (.inr ⟨_, valV vs (.inr i), rfl, .inl ⟨vs, .inr i, .inl e1, rfl, rfl⟩, ?_⟩))
        rw [RepKs.miss r]
        exact k.here rh h rfl
      · exact h.elim
    · exact h.elim
  · exact h.elim
theorem ok_in (hu : X.A.units + 65 < cLine) : OpOk X (compareOp .In) oIn := ok_inG op_in_seq op_in_str (op_inD hu) (op_inDk (by omega))
theorem ok_notin (hu : X.A.units + 65 < cLine) : OpOk X (compareOp .NotIn) oNotIn := ok_inG op_notIn_seq L2.op_notin_str (op_notInD hu) (op_notinDk (by omega))
end

/-! ### a thing that is walked, whatever it is -/
def iAny (e : WE) : WI := fun env L R => e env L fun x La => match x with
  | .ref a => match La a with
    | some (.l xs) => R ⟨xs, fun Lx => Lx a = some (.l xs)⟩ La
    | _ => False
  | .tup xs => R ⟨xs, fun _ => True⟩ La
  | .str z => R ⟨z.cps.toList.map fun c => .str ⟨#[c]⟩, fun _ => True⟩ La
  | _ => False
section
variable {X : Cx} {tg l : Expr} {wl : WE}
def iAnyT (K : PySem.W.Frag) (tl : TE) : TI := fun σ H R => tl σ H fun x H1 => (∃ a, x = .ref a ∧ (∃ xs, SqL K H1 a xs) ∧ R (Itl K a) H1) ∨ (∃ a, x = .ref a ∧ (∃ xs, SqT K H1 a xs) ∧ R (Itt K a) H1) ∨ ∃ z, x = .str z ∧ R (Its z) H1
theorem pi_any {tl : TE} (hl : PE X l tl) : PI X tg l (iAnyT X.K tl) := by
  refine ⟨fun pins s σ H R I h => ?_⟩
  refine thn (hl.run pins s σ H _ I h) fun v s1 ⟨x, H1, I1, r1, q1⟩ => ?_
  rcases q1 with ⟨a, e, ⟨xs, hq⟩, q⟩ | ⟨a, e, ⟨xs, hq⟩, q⟩ | ⟨z, e, q⟩
  · subst e
    cases r1
    obtain ⟨its, rv, p, hz⟩ := I1.list hq
    refine wpAny_pyIter_list p.isList ?_
    refine ⟨s1.heap.objs.size, [s1.heap.objs.size], _, _, H1, rfl, I1.kept (t' := s1.toks) fun b o e => Heap.get?_push_of_some _ e, turn_list a _, ⟨_, Heap.get?_push_size _ rfl, rfl, rfl⟩, fun b hb => ?_, q⟩
    have e : b = s1.heap.objs.size := by simpa using hb
    subst e
    exact I1.fpOk (Nat.le_refl _) (I1.hok.fresh (Nat.le_refl _))
  · subst e
    cases r1
    obtain ⟨its, rv, p, hz⟩ := I1.tuple hq
    refine wpAny_pyIter_tuple (show s1.heap.IsTuple a its.toArray from p) ?_
    refine ⟨s1.heap.objs.size, [s1.heap.objs.size], _, _, H1, rfl, I1.kept (t' := s1.toks) fun b o e => Heap.get?_push_of_some _ e, turn_tuple a _, ⟨_, Heap.get?_push_size _ rfl, rfl, rfl⟩, fun b hb => ?_, q⟩
    have e : b = s1.heap.objs.size := by simpa using hb
    subst e
    exact I1.fpOk (Nat.le_refl _) (I1.hok.fresh (Nat.le_refl _))
  · subst e
    obtain ⟨t, rfl⟩ := r1
    cases ha : z.cps.all (· < 128)
    · exact wpAny_pyIter_wide ha (pi_one (tk := s1.toks) I1 _ (turn_str _ z t "str_iterator" (.inr rfl)) ⟨_, Heap.get?_push_size _ rfl, rfl, rfl⟩ q)
    · exact wpAny_pyIter_ascii ha (pi_one (tk := s1.toks) I1 _ (turn_str _ z t "str_ascii_iterator" (.inl rfl)) ⟨_, Heap.get?_push_size _ rfl, rfl, rfl⟩ q)
theorem i_any (ha : PE X l (liftE X.K wl)) : PI X tg l (liftI X.K (iAny wl)) := pi_weak (pi_any ha) fun σ H R h => by
  obtain ⟨env, L, R', hs, hL, hw, k⟩ := h
  refine ⟨env, L, _, hs, hL, hw, fun x La v H1 hb f1 rx r1 => ?_⟩
  cases x <;> first | exact absurd hb (fun z => z) | skip
  · cases (show _ = _ from rx)
    exact .inr (.inr ⟨_, rfl, k _ La H1 _ hb f1 r1 wk_str⟩)
  · cases (show _ = _ from rx)
    simp only at hb
    split at hb
    · rename_i xs e
      obtain ⟨vs, h1, _⟩ := r1.lst e
      exact .inl ⟨_, rfl, ⟨vs, .of h1⟩, k _ La H1 _ hb f1 r1 wk_list⟩
    · exact hb.elim
  · obtain ⟨p, vs, rfl, t, r⟩ := rx
    exact .inr (.inl ⟨p, rfl, ⟨vs, t.sq⟩, k _ La H1 _ hb f1 r1 (wk_tup r1 t r)⟩)
end

/-! ### from the text to readings -/
inductive Bk where
  | fn (id : String) (g : BiF) | ty (id : String) (g : BiF)
structure Tab where
  fns : List (Str × Nat × Spec)
  con : List (Str × PV)
  non : List Str
structure Ct where
  N : List Str
  sc : Scope
  co : Str → Bool
def ixOf : List Str → Str → Option Nat
  | [], _ => none
  | y :: r, x => if y = x then some 0 else (ixOf r x).map (· + 1)
theorem ixOf_get : ∀ {N : List Str} {x : Str} {i : Nat}, ixOf N x = some i → N[i]? = some x
  | [], _, _, h => by cases h
  | y :: r, x, i, h => by
    unfold ixOf at h
    split at h
    · rename_i e
      cases h
      rw [e]
      rfl
    · cases e : ixOf r x with
      | none => rw [e] at h; cases h
      | some j =>
        rw [e] at h
        cases h
        simpa using ixOf_get e
/-- the built-ins, by name -/
def bkTab : List (Str × Bk) := [("len", .fn "len" gLen), ("isinstance", .fn "isinstance" gIsi), ("abs", .fn "abs" gAbs), ("int", .ty "int" gInt), ("list", .ty "list" gList), ("tuple", .ty "tuple" gTuple), ("all", .fn "all" gAll), ("any", .fn "any" gAny),
  ("min", .fn "min" gMin), ("max", .fn "max" gMax), ("divmod", .fn "divmod" gDivmod), ("sum", .fn "sum" gSum), ("sorted", .fn "sorted" gSorted), ("str", .ty "str" gStr)]
def bkOf (x : Str) : Option Bk := bkTab.lookup x
def tyOf (x : Str) : Option String :=
  if x = "int" then some "int" else
  if x = "bool" then some "bool" else
  if x = "str" then some "str" else
  if x = "tuple" then some "tuple" else
  if x = "list" then some "list" else
  if x = "dict" then some "dict" else none
def mtOf (x : Str) : Option (String × MtF) :=
  if x = "append" then some ("list", mAppend) else
  if x = "extend" then some ("list", mExtend) else
  if x = "pop" then some ("list", mPop) else
  if x = "reverse" then some ("list", mReverse) else
  if x = "clear" then some ("list", mClear) else none
def opOf : Operator → Option Op2
  | .Add => some oAdd | .Sub => some oSub | .Mult => some oMul | .FloorDiv => some oDiv | .Mod => some oMod | .Pow => some oPow
  | _ => none
def cmOf : CmpOp → Option Op2
  | .Lt => some oLt | .LtE => some oLe | .Gt => some oGt | .GtE => some oGe | .Eq => some oEq | .NotEq => some oNe | .Is => some oIs | .IsNot => some oIsNot | .In => some oIn | .NotIn => some oNotIn
def noStar : Expr → Bool
  | .Starred _ _ => false
  | _ => true
def noSuper : Expr → Bool
  | .Call _ [] _ _ => false
  | _ => true
def noComp : Expr → Bool
  | .ListComp _ _ _ _ | .SetComp _ _ _ _ | .DictComp _ _ _ _ _ => false
  | _ => true
def noSetE : Expr → Bool
  | .Set _ _ _ => false
  | _ => true
def noSlice : Expr → Bool
  | .Slice _ _ _ _ => false
  | _ => true
def okName (x : Str) : Bool := !(x == ("__debug__" : Str)) && !(x == ("__classdict__" : Str)) && !(x == ("__name__" : Str))
def cVar (c : Ct) (x : Str) : Option Nat := match c.sc.names.lookup x with
  | some .local => ixOf c.N x
  | some .cell => ixOf c.N x
  | some .free => ixOf c.N x
  | _ => none
/-- a name that is stored -/
def cSto (c : Ct) (x : Str) : Option Nat := match c.sc.names.lookup x with
  | some .local => ixOf c.N x
  | some .cell => if c.co x = true then ixOf c.N x else none
  | _ => none
def isGl (c : Ct) (x : Str) : Bool := c.sc.names.lookup x == some .globalImplicit
def optAll {α β : Type} (f : α → Option β) : List α → Option (List β)
  | [] => some []
  | a :: r => match f a, optAll f r with
    | some b, some bs => some (b :: bs)
    | _, _ => none
def op2 {α β γ : Type} (f : α → β → γ) : Option α → Option β → Option γ
  | some a, some b => some (f a b)
  | _, _ => none
def op3 {α β γ δ : Type} (f : α → β → γ → δ) : Option α → Option β → Option γ → Option δ
  | some a, some b, some c => some (f a b c)
  | _, _, _ => none
def wName (T : Tab) (c : Ct) (x : Str) : Option WE :=
  if okName x = false then none else
  match cVar c x with
  | some i => some (wVar i)
  | none => if isGl c x = false then none else
    match T.con.lookup x with
    | some p => some (wC p)
    | none => if T.non.contains x = true then (tyOf x).map fun s => wC (.ty s) else none
def wConst : Const → Option WE
  | .int i => some (wC (.int i)) | .bool b => some (wC (.bl b)) | .str x => some (wC (.str x)) | .none => some (wC .non)
  | _ => none
def negC : Expr → Option Int
  | .Constant (.int i) _ _ => some i
  | _ => none
/-- a call by a name -/
def wCallN (T : Tab) (c : Ct) (x : Str) (n : Nat) (ws : Option (List WE)) : Option WE :=
  if okName x = false || isGl c x = false then none else
  match ws with
  | none => none
  | some ws => match T.fns.lookup x with
    | some (m, S) => if m = n then some (wCall S ws) else none
    | none => if T.non.contains x = true then (match bkOf x with
      | some (.fn _ g) => if n = 0 then none else some (wBi g ws)
      | some (.ty _ g) => if n = 0 then none else some (wBi g ws)
      | none => none) else none
def tgOne (c : Ct) : Expr → Option Nat
  | .Name x _ => if okName x = true then cSto c x else none
  | _ => none
/-- a comprehension's target -/
def cTg (c : Ct) : Expr → Option (WG × List Nat)
  | .Name x _ => (if okName x = true then cSto c x else none).map fun i => (gN i, [i])
  | .Tuple es _ _ => (optAll (tgOne c) es).map fun is => (gT is.length (gsN is), is)
  | _ => none
def ownOf (c : Ct) (scope : Scope) : List (Str × Nat) := scope.names.filterMap fun (n, k) => match k with
  | .local => (ixOf c.N n).map fun i => (n, i)
  | .cell => (ixOf c.N n).map fun i => (n, i)
  | _ => none
def blkCt (c : Ct) (scope : Scope) : Ct := { N := c.N, sc := relS scope c.sc, co := fun x => scope.names.lookup x == some .cell }
section
variable (T : Tab)
mutual
def cE : Nat → Ct → Expr → Option WE
  | 0, _, _ => none
  | n + 1, c, e => match e with
    | .Constant k _ _ => wConst k
    | .Name x _ => wName T c x
    | .BinOp a op b _ => op3 wBin (opOf op) (cE n c a) (cE n c b)
    | .UnaryOp .USub a _ => (match negC a with
      | some i => some (wC (.int (-i)))
      | none => (cE n c a).map (wUn oNeg))
    | .UnaryOp .Not a _ => (cE n c a).map (wUn oNot)
    | .BoolOp .And es _ => cAnd n c es
    | .BoolOp .Or es _ => cOr n c es
    | .Compare a [op] [b] _ => if noSetE b = true then op3 wBin (cmOf op) (cE n c a) (cE n c b) else none
    | .Compare a [op, op'] [b, d] _ => if noSetE d = true then (match op2 wChain (cmOf op) (cmOf op') with
      | some f => op3 f (cE n c a) (cE n c b) (cE n c d)
      | none => none) else none
    | .IfExp t a b _ => op3 wIfE (cT n c t) (cE n c a) (cE n c b)
    | .Tuple es _ _ => (cEs n c es).map wTup
    | .List es _ => (cEs n c es).map wLst
    | .Subscript a s _ => cSub n c a s
    | .Call f args kws pos => if kws.isEmpty = true then cCall n c f args pos else none
    | .ListComp elt [⟨tg, iter, ifs, 0⟩] scope _ => cComp n c elt tg iter ifs scope
    | _ => none
def cEs : Nat → Ct → List Expr → Option (List WE)
  | 0, _, _ => none
  | n + 1, c, es => match es with
    | [] => some []
    | e :: r => if noStar e = true then op2 List.cons (cE n c e) (cEs n c r) else none
def cAnd : Nat → Ct → List Expr → Option WE
  | 0, _, _ => none
  | n + 1, c, es => match es with
    | [] => none
    | [e] => cE n c e
    | e :: r => op2 wAnd (cE n c e) (cAnd n c r)
def cOr : Nat → Ct → List Expr → Option WE
  | 0, _, _ => none
  | n + 1, c, es => match es with
    | [] => none
    | [e] => cE n c e
    | e :: r => op2 wOr (cE n c e) (cOr n c r)
/-- a test -/
def cT : Nat → Ct → Expr → Option WE
  | 0, _, _ => none
  | n + 1, c, e => match e with
    | .UnaryOp .Not a _ => (cT n c a).map (wUn oNot)
    | .BoolOp .And es _ => cTAnd n c es
    | .BoolOp .Or es _ => cTOr n c es
    | .Compare a [op] [b] _ => if noSetE b = true then op3 wBin (cmOf op) (cE n c a) (cE n c b) else none
    | .Compare a [op, op'] [b, d] _ => if noSetE d = true then (match op2 wChain (cmOf op) (cmOf op') with
      | some f => op3 f (cE n c a) (cE n c b) (cE n c d)
      | none => none) else none
    | .Name x _ => wName T c x
    | .Subscript a s _ => cSub n c a s
    | .Call f args kws pos => if kws.isEmpty = true then cCall n c f args pos else none
    | _ => none
def cTAnd : Nat → Ct → List Expr → Option WE
  | 0, _, _ => none
  | n + 1, c, es => match es with
    | [] => none
    | [e] => cT n c e
    | e :: r => op2 wAnd (cT n c e) (cTAnd n c r)
def cTOr : Nat → Ct → List Expr → Option WE
  | 0, _, _ => none
  | n + 1, c, es => match es with
    | [] => none
    | [e] => cT n c e
    | e :: r => op2 wOr (cT n c e) (cTOr n c r)
def cSub : Nat → Ct → Expr → Expr → Option WE
  | 0, _, _, _ => none
  | n + 1, c, a, s => match s with
    | .Slice lo hi none _ => op3 wSl (cE n c a) (cO n c lo) (cO n c hi)
    | .Slice none none (some (.UnaryOp .USub (.Constant (.int 1) _ _) _)) _ => (cE n c a).map (wUn oRev)
    | .Slice _ _ _ _ => none
    | i => op2 (wBin oIx) (cE n c a) (cE n c i)
def cO : Nat → Ct → Option Expr → Option WO
  | 0, _, _ => none
  | _ + 1, _, none => some wNo
  | n + 1, c, some e => (cE n c e).map wSo
def cCall : Nat → Ct → Expr → List Expr → Pos → Option WE
  | 0, _, _, _, _ => none
  | n + 1, c, f, args, pos => match f with
    | .Name x _ => wCallN T c x args.length (cEs n c args)
    | .Attribute o m apos => if noSuper o = true ∧ (apos.endLine == pos.line) = true ∧ args.length < 29 then (match mtOf m with
      | some (s, g) => op2 (wMt s g) (cE n c o) (cEs n c args)
      | none => none) else none
    | _ => none
def cComp : Nat → Ct → Expr → Expr → Expr → List Expr → Scope → Option WE
  | 0, _, _, _, _, _, _ => none
  | n + 1, c, elt, tg, iter, ifs, scope =>
    if blkC c.N c.sc scope (ownOf c scope) = true then
      match cI n c tg iter, cTg (blkCt c scope) tg, cE n (blkCt c scope) elt with
      | some wi, some (g, is), some we => if is.all (fun i => (ownOf c scope).any fun p => p.2 == i) = true then (match ifs with
        | [] => some (wComp ((ownOf c scope).map (·.2)) wi g (wC (.bl true)) we)
        | [t] => (cT n (blkCt c scope) t).map fun wt => wComp ((ownOf c scope).map (·.2)) wi g wt we
        | _ => none) else none
      | _, _, _ => none
    else none
/-- what is walked -/
def cI : Nat → Ct → Expr → Expr → Option WI
  | 0, _, _, _ => none
  | n + 1, c, tg, iter => match iter with
    | .Call (.Name x _) args [] _ =>
      if x = "range" then (if T.non.contains "range" = true ∧ isGl c "range" = true then (match cEs n c args with
        | some [a] => some (iR1 a)
        | some [a, b] => some (iR2 a b)
        | some [a, b, d] => some (iR3 a b d)
        | _ => none) else none)
      else if x = "enumerate" then (if T.non.contains "enumerate" = true ∧ isGl c "enumerate" = true then (match tg, cEs n c args with
        | .Tuple _ _ _, some [a] => some (iEn a)
        | _, _ => none) else none)
      else if x = "zip" then (if T.non.contains "zip" = true ∧ isGl c "zip" = true then (match tg, cEs n c args with
        | .Tuple _ _ _, some [a, b] => some (iZp a b)
        | _, _ => none) else none)
      else if x = "reversed" then (if T.non.contains "reversed" = true ∧ isGl c "reversed" = true then (match cEs n c args with
        | some [a] => some (iRv a)
        | _ => none) else none)
      else (cE n c iter).map iAny
    | .Set _ _ _ => none
    | e => (cE n c e).map iAny
end
end
end Mp
namespace Mp
open PySem PySem.Spec PyProof.Rows L2

structure XOk (X : Cx) (T : Tab) (c : Ct) : Prop where
  N : X.N = c.N
  nd : X.N.Nodup
  sc : X.env.scope = c.sc
  kd : c.sc.kind = .function
  co : ∀ x, c.co x = true → X.fn x = true
  calm : X.calm = true
  fns : ∃ k, Room k X.A ∧ ∀ x n S, T.fns.lookup x = some (n, S) → FnIs X.prog X.w X.K X.mg X.base k x n S
  non : ∀ x, T.non.contains x = true → X.mg x = none
  con : ∀ x p, T.con.lookup x = some p → ∃ u v, X.mg x = some u ∧ RelV v u ∧ ∀ H, RepV X.K H p v
section
variable {X : Cx} {T : Tab} {c : Ct}
theorem XOk.hu (h : XOk X T c) : X.A.units + 65 < cLine := by
  obtain ⟨k, hr, _⟩ := h.fns
  have := hr.un
  omega
theorem op2_some {α β γ : Type} {f : α → β → γ} {a : Option α} {b : Option β} {z : γ} (h : op2 f a b = some z) : ∃ x y, a = some x ∧ b = some y ∧ z = f x y := by
  cases a <;> cases b <;> first | (cases h; done) | exact ⟨_, _, rfl, rfl, (Option.some.inj h).symm⟩
theorem op3_some {α β γ δ : Type} {f : α → β → γ → δ} {a : Option α} {b : Option β} {d : Option γ} {z : δ} (h : op3 f a b d = some z) : ∃ x y w, a = some x ∧ b = some y ∧ d = some w ∧ z = f x y w := by
  cases a <;> cases b <;> cases d <;> first | (cases h; done) | exact ⟨_, _, _, rfl, rfl, rfl, (Option.some.inj h).symm⟩
theorem map_some' {α β : Type} {f : α → β} {a : Option α} {z : β} (h : a.map f = some z) : ∃ x, a = some x ∧ z = f x := by
  cases a <;> first | (cases h; done) | exact ⟨_, rfl, (Option.some.inj h).symm⟩
theorem opOf_ok {op : Operator} {f : Op2} (h : opOf op = some f) : OpOk X (binaryOp op) f := by
  cases op <;> first | (cases h; done) | skip
  · cases h; exact ok_add
  · cases h; exact ok_sub
  · cases h; exact ok_mul
  · cases h; exact ok_mod
  · cases h; exact ok_pow
  · cases h; exact ok_div
theorem cmOf_ok (hx : XOk X T c) {op : CmpOp} {f : Op2} (h : cmOf op = some f) : OpOk X (compareOp op) f := by
  have hu := hx.hu
  cases op <;> (cases h) <;> first | exact ok_eq (by omega) | exact ok_ne (by omega) | exact ok_lt | exact ok_le | exact ok_gt | exact ok_ge | exact ok_is | exact ok_isnot | exact ok_in hu | exact ok_notin hu
theorem setE_marks {op : CmpOp} {b : Expr} (h : noSetE b = true) : behindInMarks op b = false := by
  cases b <;> first | rfl | cases h
theorem setE_last {op op' : CmpOp} {b d : Expr} (h : noSetE d = true) : lastMarks [op, op'] [b, d] = false := setE_marks h
theorem okName_of {x : Str} (h : okName x = true) : (x == ("__debug__" : Str)) = false ∧ (x == ("__classdict__" : Str)) = false ∧ x ≠ "__name__" := by
  unfold okName at h
  simp only [Bool.and_eq_true, Bool.not_eq_true'] at h
  exact ⟨h.1.1, h.1.2, fun e => by rw [e] at h; exact absurd h.2 (by decide +kernel)⟩
theorem cVar_ok (hx : XOk X T c) {x : Str} {i : Nat} (h : cVar c x = some i) : X.N[i]? = some x ∧ Vis X.env.scope x := by
  unfold cVar at h
  rw [hx.N, hx.sc]
  split at h
  · rename_i e; exact ⟨ixOf_get h, .inl e⟩
  · rename_i e; exact ⟨ixOf_get h, .inr (.inl e)⟩
  · rename_i e; exact ⟨ixOf_get h, .inr (.inr e)⟩
  · cases h
theorem cSto_ok (hx : XOk X T c) {x : Str} {i : Nat} (h : cSto c x = some i) : X.N[i]? = some x ∧ Loc X.env.scope x ∧ (X.fn x = true ∨ X.env.scope.names.lookup x = some .local) := by
  unfold cSto at h
  rw [hx.N, hx.sc]
  split at h
  · rename_i e; exact ⟨ixOf_get h, .inl e, .inr e⟩
  · rename_i e
    split at h
    · rename_i e2
      exact ⟨ixOf_get h, .inr e, .inl (hx.co x e2)⟩
    · cases h
  · cases h
theorem isGl_ok (hx : XOk X T c) {x : Str} (h : isGl c x = true) : Gl X x := by
  unfold isGl at h
  show X.env.scope.names.lookup x = some .globalImplicit
  rw [hx.sc]
  simpa using h
theorem tyOf_ok {x : Str} {s : String} (h : tyOf x = some s) : bootBuiltins x = some (.type s) := by
  unfold tyOf at h
  repeat' (split at h; · rename_i e; cases h; rw [e]; decide +kernel)
  cases h
theorem wName_ok (hx : XOk X T c) {x : Str} {w : WE} {pos : Pos} (h : wName T c x = some w) : PE X (.Name x pos) (liftE X.K w) := by
  unfold wName at h
  split at h
  · cases h
  · rename_i hok
    have hok : okName x = true := by simpa using hok
    obtain ⟨h1, h2, h3⟩ := okName_of hok
    split at h
    · rename_i i e
      cases h
      obtain ⟨e1, e2⟩ := cVar_ok hx e
      exact q_var e1 e2 h1 h2
    · split at h
      · cases h
      · rename_i hg
        have hg := isGl_ok hx (by simpa using hg)
        split at h
        · rename_i p e
          cases h
          obtain ⟨u, v, e1, e2, e3⟩ := hx.con x p e
          exact q_const (pe_glob hg e1 e2 h1) e3
        · split at h
          · rename_i hn
            obtain ⟨s, e1, rfl⟩ := map_some' h
            exact q_const (pe_bltn hg (hx.non x hn) (tyOf_ok e1) (v := .ty s) rfl h3 h1) fun _ => rfl
          · cases h
theorem wConst_ok {k : Const} {w : WE} {j : Nat} {pos : Pos} (h : wConst k = some w) : PE X (.Constant k j pos) (liftE X.K w) := by
  cases k <;> first | (cases h; done) | skip
  all_goals cases h
  · exact q_const pe_non fun _ => rfl
  · exact q_const pe_bl fun _ => rfl
  · exact q_const pe_int fun _ => rfl
  · exact q_const pe_str fun _ => rfl
theorem star_cons {e : Expr} {es : List Expr} {env : PySem.Env} (h : noStar e = true) : starEach (e :: es) env = (false, eval e env) :: starEach es env := by
  cases e <;> first | rfl | cases h
theorem star_any {pos : Pos} {env : PySem.Env} : ∀ {es : List Expr}, es.all noStar = true → (backTo pos (starEach es env)).any (·.1) = false
  | [], _ => rfl
  | e :: r, h => by
    rw [List.all_cons, Bool.and_eq_true] at h
    rw [star_cons h.1]
    show (false || (backTo pos (starEach r env)).any (·.1)) = false
    rw [star_any h.2]
    rfl
theorem star_few {pos : Pos} {env : PySem.Env} : ∀ {es : List Expr}, es.all noStar = true → (backTo pos (starEach es env)).all (fun x => !x.1) = true
  | [], _ => rfl
  | e :: r, h => by
    rw [List.all_cons, Bool.and_eq_true] at h
    rw [star_cons h.1]
    show (!false && (backTo pos (starEach r env)).all (fun x => !x.1)) = true
    rw [star_few h.2]
    rfl
theorem super_base {o : Expr} {m : Str} {env : PySem.Env} {whole : Sem Value} (h : noSuper o = true) : attributeBase o m env whole = whole := by
  cases o <;> first | rfl | skip
  rename_i f args kws p
  cases args with
  | nil => cases h
  | cons a as => cases f <;> rfl
def BkOk (X : Cx) (x : Str) : Bk → Prop
  | .fn id g => BiOk X (.builtin id) g ∧ bootBuiltins x = some (.builtin id)
  | .ty id g => BiOk X (.type id) g ∧ bootBuiltins x = some (.type id)
theorem bkOf_ok (hx : XOk X T c) {x : Str} {b : Bk} (h : bkOf x = some b) : BkOk X x b := by
  have hc := hx.calm
  have hm := PySem.mem_of_lookup (show bkTab.lookup x = some b from h)
  unfold bkTab at hm
  rcases List.mem_cons.mp hm with e | hm
  · cases e; exact ⟨b_len, by decide +kernel⟩
  rcases List.mem_cons.mp hm with e | hm
  · cases e; exact ⟨b_isi, by decide +kernel⟩
  rcases List.mem_cons.mp hm with e | hm
  · cases e; exact ⟨b_abs, by decide +kernel⟩
  rcases List.mem_cons.mp hm with e | hm
  · cases e; exact ⟨b_int, by decide +kernel⟩
  rcases List.mem_cons.mp hm with e | hm
  · cases e; exact ⟨b_list, by decide +kernel⟩
  rcases List.mem_cons.mp hm with e | hm
  · cases e; exact ⟨b_tuple, by decide +kernel⟩
  rcases List.mem_cons.mp hm with e | hm
  · cases e; exact ⟨b_all hc, by decide +kernel⟩
  rcases List.mem_cons.mp hm with e | hm
  · cases e; exact ⟨b_any hc, by decide +kernel⟩
  rcases List.mem_cons.mp hm with e | hm
  · cases e; exact ⟨b_min hc, by decide +kernel⟩
  rcases List.mem_cons.mp hm with e | hm
  · cases e; exact ⟨b_max hc, by decide +kernel⟩
  rcases List.mem_cons.mp hm with e | hm
  · cases e; exact ⟨b_divmod, by decide +kernel⟩
  rcases List.mem_cons.mp hm with e | hm
  · cases e; exact ⟨b_sum hc, by decide +kernel⟩
  rcases List.mem_cons.mp hm with e | hm
  · cases e; exact ⟨b_sorted, by decide +kernel⟩
  rcases List.mem_cons.mp hm with e | hm
  · cases e; exact ⟨b_str hx.hu, by decide +kernel⟩
  cases hm
theorem mtOf_ok {m : Str} {s : String} {g : MtF} (h : mtOf m = some (s, g)) : MtOk X s m g := by
  unfold mtOf at h
  repeat' (split at h; · (rename_i e; cases h; rw [e]; first | exact k_append | exact k_extend | exact k_pop | exact k_reverse | exact k_clear))
  cases h
theorem wCallN_ok (hx : XOk X T c) {x : Str} {args : List Expr} {ws : Option (List WE)} {w : WE} {p pos : Pos} (h : wCallN T c x args.length ws = some w)
    (ha : ∀ vs, ws = some vs → PA X args (liftA X.K vs) ∧ args.all noStar = true ∧ vs.length = args.length) : PE X (.Call (.Name x p) args [] pos) (liftE X.K w) := by
  unfold wCallN at h
  split at h
  · cases h
  · rename_i hok
    rw [Bool.or_eq_true, not_or] at hok
    obtain ⟨h1, h2, h3⟩ := okName_of (x := x) (by simpa using hok.1)
    have hg := isGl_ok hx (x := x) (by simpa using hok.2)
    split at h
    · cases h
    · rename_i vs
      obtain ⟨hpa, hns, hlen⟩ := ha vs rfl
      split at h
      · rename_i m S e
        split at h
        · rename_i hm
          subst hm
          cases h
          obtain ⟨k, hr, hf⟩ := hx.fns
          have F := hf x _ S e
          cases args with
          | nil =>
            have ev : vs = [] := List.eq_nil_of_length_eq_zero hlen
            subst ev
            exact q_call0 F hr hg h1
          | cons a as =>
            rw [List.all_cons, Bool.and_eq_true] at hns
            exact q_call F hr hg hlen hpa h1 (star_cons hns.1) (star_any hns.2)
        · cases h
      · split at h
        · rename_i hn
          have hm := hx.non x hn
          split at h
          · rename_i id g e
            split at h
            · cases h
            · rename_i hz
              cases h
              obtain ⟨b1, b2⟩ := (show BiOk X (.builtin id) g ∧ _ from bkOf_ok hx e)
              cases args with
              | nil => exact absurd rfl hz
              | cons a as =>
                rw [List.all_cons, Bool.and_eq_true] at hns
                exact q_bi b1 hg hm b2 hpa h3 h1 (star_cons hns.1) (star_any hns.2)
          · rename_i id g e
            split at h
            · cases h
            · rename_i hz
              cases h
              obtain ⟨b1, b2⟩ := (show BiOk X (.type id) g ∧ _ from bkOf_ok hx e)
              cases args with
              | nil => exact absurd rfl hz
              | cons a as =>
                rw [List.all_cons, Bool.and_eq_true] at hns
                exact q_ty b1 hg hm b2 hpa h3 h1 (star_cons hns.1) (star_any hns.2)
          · cases h
        · cases h
theorem tgOne_ok {X : Cx} {c : Ct} (hx : XOk X T c) {e : Expr} {i : Nat} (h : tgOne c e = some i) : PG X e (gName i) ∧ noStar e = true := by
  cases e <;> first | (cases h; done) | skip
  rename_i x p
  have h : (if okName x = true then cSto c x else none) = some i := h
  split at h
  · obtain ⟨h1, h2, h3⟩ := cSto_ok hx h
    exact ⟨pg_name hx.nd h1 h2 h3, rfl⟩
  · cases h
theorem asg_len {env : PySem.Env} : ∀ {es : List Expr}, es.all noStar = true → (assignEach es env).length = es.length ∧ (assignEach es env).findIdx? (·.1) = none ∧ (assignEach es env).map (·.2) = es.map fun e => assign e env
  | [], _ => ⟨rfl, rfl, rfl⟩
  | e :: r, h => by
    rw [List.all_cons, Bool.and_eq_true] at h
    obtain ⟨h1, h2, h3⟩ := asg_len (env := env) h.2
    have e1 : assignEach (e :: r) env = (false, assign e env) :: assignEach r env := by
      have := h.1
      cases e <;> first | rfl | cases this
    rw [e1]
    refine ⟨by rw [List.length_cons, List.length_cons, h1], ?_, by rw [List.map_cons, List.map_cons, h3]⟩
    rw [List.findIdx?_cons]
    simp [h2]
theorem tgs_ok {X : Cx} {c : Ct} (hx : XOk X T c) {vs : List Nat} : ∀ {es : List Expr} {is : List Nat}, optAll (tgOne c) es = some is → (∀ i ∈ is, i ∈ vs) → es.all noStar = true ∧ is.length = es.length ∧ ∃ g, PGs X es g ∧ ∀ K, CtsOk K g (gsN is) vs
  | [], is, h, _ => by cases h; exact ⟨rfl, rfl, _, pgs_nil, fun K => cts_nil⟩
  | e :: r, is, h, hm => by
    unfold optAll at h
    split at h
    · rename_i i js h1 h2
      cases h
      obtain ⟨p1, p2⟩ := tgOne_ok hx h1
      obtain ⟨q1, q2, g, q3, q4⟩ := tgs_ok hx h2 fun j hj => hm j (List.mem_cons_of_mem _ hj)
      have hns : (e :: r).all noStar = true := by rw [List.all_cons, p2, q1]; rfl
      refine ⟨hns, by rw [List.length_cons, List.length_cons, q2], _, pgs_cons p1 q3 ?_, fun K => cts_cons (hm i List.mem_cons_self) (q4 K)⟩
      have e1 : assignEach (e :: r) X.env = (false, assign e X.env) :: assignEach r X.env := by
        cases e <;> first | rfl | cases p2
      rw [e1]
      rfl
    · cases h
theorem cTg_ok {X : Cx} {c : Ct} (hx : XOk X T c) {e : Expr} {g : WG} {is vs : List Nat} (h : cTg c e = some (g, is)) (hm : ∀ i ∈ is, i ∈ vs) : ∃ t, PG X e t ∧ CtOk X.K t g vs := by
  cases e <;> first | (cases h; done) | skip
  · rename_i x p
    obtain ⟨i, h1, h2⟩ := map_some' h
    cases h2
    have h1' : tgOne c (.Name x p) = some i := h1
    exact ⟨_, (tgOne_ok hx h1').1, ct_one (hm i (by simp))⟩
  · rename_i es k p
    obtain ⟨js, h1, h2⟩ := map_some' h
    cases h2
    obtain ⟨q1, q2, t, q3, q4⟩ := tgs_ok hx h1 hm
    obtain ⟨l1, l2, _⟩ := asg_len (env := X.env) q1
    exact ⟨_, pg_tup (n := es.length) hx.calm q3 l1 l2, ct_many q2.symm (q4 X.K)⟩
theorem blk_ok (hx : XOk X T c) {scope : Scope} (hk : BlkOk X.N X.env.scope scope (ownOf c scope)) (s : Shared) (H : Hp) (C : Addr) (cl : List (Str × Addr)) (fp : List Addr) : XOk (X.blk s H scope (compEnvC scope cl C X.env) fp) T (blkCt c scope) := by
  refine ⟨hx.N, hx.nd, ?_, hk.kind, fun x h => h, hx.calm, hx.fns, hx.non, hx.con⟩
  show relS scope X.env.scope = relS scope c.sc
  rw [hx.sc]
end
end Mp
namespace Mp
open PySem PySem.Spec PyProof.Rows L2

theorem plain_ix {s : Expr} (h : noSlice s = true) : PlainIx s := fun o i => by cases s <;> first | rfl | cases h
theorem no_fold {iter : Expr} {env : PySem.Env} (h : noSetE iter = true) (x : Value) : foldedSetIterable iter env x = pure x := by cases iter <;> first | rfl | cases h
theorem cI_set {T : Tab} {n : Nat} {c : Ct} {tg iter : Expr} {w : WI} (h : cI T n c tg iter = some w) : noSetE iter = true := by
  cases n with
  | zero => simp only [cI] at h; cases h
  | succ n => cases iter <;> first | rfl | (simp only [cI] at h; cases h)
structure Sn (T : Tab) (n : Nat) : Prop where
  e : ∀ {X : Cx} {c : Ct} {e : Expr} {w : WE}, XOk X T c → cE T n c e = some w → PE X e (liftE X.K w)
  es : ∀ {X : Cx} {c : Ct} {es : List Expr} {ws : List WE}, XOk X T c → cEs T n c es = some ws → PA X es (liftA X.K ws) ∧ es.all noStar = true ∧ ws.length = es.length
  and : ∀ {X : Cx} {c : Ct} {es : List Expr} {w : WE} {pos : Pos}, XOk X T c → cAnd T n c es = some w → PE X (.BoolOp .And es pos) (liftE X.K w)
  or : ∀ {X : Cx} {c : Ct} {es : List Expr} {w : WE} {pos : Pos}, XOk X T c → cOr T n c es = some w → PE X (.BoolOp .Or es pos) (liftE X.K w)
  t : ∀ {X : Cx} {c : Ct} {e : Expr} {w : WE}, XOk X T c → cT T n c e = some w → PT X e (liftT X.K w)
  tand : ∀ {X : Cx} {c : Ct} {es : List Expr} {w : WE} {pos : Pos}, XOk X T c → cTAnd T n c es = some w → PW X (.BoolOp .And es pos) (liftT X.K w)
  tor : ∀ {X : Cx} {c : Ct} {es : List Expr} {w : WE} {pos : Pos}, XOk X T c → cTOr T n c es = some w → PW X (.BoolOp .Or es pos) (liftT X.K w)
  sub : ∀ {X : Cx} {c : Ct} {a s : Expr} {w : WE} {pos : Pos}, XOk X T c → cSub T n c a s = some w → PE X (.Subscript a s pos) (liftE X.K w)
  o : ∀ {X : Cx} {c : Ct} {o : Option Expr} {w : WO}, XOk X T c → cO T n c o = some w → PO X o (liftO X.K w)
  call : ∀ {X : Cx} {c : Ct} {f : Expr} {args : List Expr} {w : WE} {pos : Pos}, XOk X T c → cCall T n c f args pos = some w → PE X (.Call f args [] pos) (liftE X.K w)
  comp : ∀ {X : Cx} {c : Ct} {elt tg iter : Expr} {ifs : List Expr} {scope : Scope} {w : WE}, XOk X T c → cComp T n c elt tg iter ifs scope = some w →
    (∀ pos, PE X (.ListComp elt [⟨tg, iter, ifs, 0⟩] scope pos) (liftE X.K w)) ∧
    ∀ (pos spos py : Pos) (i : Nat) (y : Str), X.N[i]? = some y → X.env.scope.names.lookup y = some .local → swapsWith (.ListComp elt [⟨tg, iter, ifs, 0⟩] scope pos) (some (.Name y py)) spos.line X.env = pure true →
      PS X (.Assign [.Name y py] (.ListComp elt [⟨tg, iter, ifs, 0⟩] scope pos) spos) (liftS X.K (sAsg (gN i) w))
  i : ∀ {X : Cx} {c : Ct} {tg iter : Expr} {w : WI}, XOk X T c → cI T n c tg iter = some w → PI X tg iter (liftI X.K w)
section
variable {T : Tab}
theorem sn_zero : Sn T 0 := by
  refine ⟨?_, ?_, ?_, ?_, ?_, ?_, ?_, ?_, ?_, ?_, ?_, ?_⟩ <;> (intros; rename_i h; first | (simp only [cE] at h; cases h) | (simp only [cEs] at h; cases h) | (simp only [cAnd] at h; cases h) | (simp only [cOr] at h; cases h) | (simp only [cT] at h; cases h) | (simp only [cTAnd] at h; cases h) | (simp only [cTOr] at h; cases h) | (simp only [cSub] at h; cases h) | (simp only [cO] at h; cases h) | (simp only [cCall] at h; cases h) | (simp only [cComp] at h; cases h) | (simp only [cI] at h; cases h))
variable {n : Nat} {X : Cx} {c : Ct}
theorem sn_cmp (ih : Sn T n) (hx : XOk X T c) {a b : Expr} {op : CmpOp} {w : WE} {pos : Pos} (h : (if noSetE b = true then op3 wBin (cmOf op) (cE T n c a) (cE T n c b) else none) = some w) :
    PE X (.Compare a [op] [b] pos) (liftE X.K w) ∧ PT X (.Compare a [op] [b] pos) (liftT X.K w) := by
  split at h
  · rename_i hs
    obtain ⟨f, wa, wb, h1, h2, h3, rfl⟩ := op3_some h
    exact ⟨q_cmp (cmOf_ok hx h1) (ih.e hx h2) (ih.e hx h3) (setE_marks hs), t_cmp (cmOf_ok hx h1) (ih.e hx h2) (ih.e hx h3) (setE_marks hs)⟩
  · cases h
theorem sn_chain (ih : Sn T n) (hx : XOk X T c) {a b d : Expr} {op op' : CmpOp} {w : WE} {pos : Pos}
    (h : (if noSetE d = true then (match op2 wChain (cmOf op) (cmOf op') with | some f => op3 f (cE T n c a) (cE T n c b) (cE T n c d) | none => none) else none) = some w) :
    PE X (.Compare a [op, op'] [b, d] pos) (liftE X.K w) ∧ PT X (.Compare a [op, op'] [b, d] pos) (liftT X.K w) := by
  split at h
  · rename_i hs
    split at h
    · rename_i f e
      obtain ⟨f1, f2, g1, g2, rfl⟩ := op2_some e
      obtain ⟨wa, wb, wc, h1, h2, h3, rfl⟩ := op3_some h
      exact ⟨q_chain (cmOf_ok hx g1) (cmOf_ok hx g2) (ih.e hx h1) (ih.e hx h2) (ih.e hx h3) (setE_last hs), t_chain (cmOf_ok hx g1) (cmOf_ok hx g2) (ih.e hx h1) (ih.e hx h2) (ih.e hx h3) (setE_last hs)⟩
    · cases h
  · cases h
theorem sn_neg (ih : Sn T n) (hx : XOk X T c) {a : Expr} {w : WE} {pos : Pos} (h : (match negC a with | some i => some (wC (.int (-i))) | none => (cE T n c a).map (wUn oNeg)) = some w) : PE X (.UnaryOp .USub a pos) (liftE X.K w) := by
  split at h
  · rename_i i e
    cases h
    cases a <;> first | (cases e; done) | skip
    rename_i k j p
    cases k <;> first | (cases e; done) | skip
    cases e
    exact q_neg (wa := wC (.int i)) (q_const pe_int fun _ => rfl)
  · obtain ⟨wa, h1, rfl⟩ := map_some' h
    exact q_neg (ih.e hx h1)
theorem sn_e (ih : Sn T n) (hx : XOk X T c) {e : Expr} {w : WE} (h : cE T (n + 1) c e = some w) : PE X e (liftE X.K w) := by
  cases e with
  | Constant k j p => simp only [cE] at h; exact wConst_ok h
  | Name x p => simp only [cE] at h; exact wName_ok hx h
  | BinOp a op b p =>
    simp only [cE] at h
    obtain ⟨f, wa, wb, h1, h2, h3, rfl⟩ := op3_some h
    exact q_bin (opOf_ok h1) (ih.e hx h2) (ih.e hx h3)
  | UnaryOp op a p =>
    cases op with
    | USub => simp only [cE] at h; exact sn_neg ih hx h
    | Not =>
      simp only [cE] at h
      obtain ⟨wa, h1, rfl⟩ := map_some' h
      exact q_not (ih.e hx h1)
    | _ => simp only [cE] at h; cases h
  | BoolOp op es p =>
    cases op with
    | And => simp only [cE] at h; exact ih.and hx h
    | Or => simp only [cE] at h; exact ih.or hx h
  | Compare a ops bs p =>
    match ops, bs, h with
    | [op], [b], h => simp only [cE] at h; exact (sn_cmp ih hx h).1
    | [op, op'], [b, d], h => simp only [cE] at h; exact (sn_chain ih hx h).1
    | [], _, h => simp only [cE] at h; cases h
    | [_], [], h => simp only [cE] at h; cases h
    | [_], _ :: _ :: _, h => simp only [cE] at h; cases h
    | [_, _], [], h => simp only [cE] at h; cases h
    | [_, _], [_], h => simp only [cE] at h; cases h
    | [_, _], _ :: _ :: _ :: _, h => simp only [cE] at h; cases h
    | _ :: _ :: _ :: _, _, h => simp only [cE] at h; cases h
  | IfExp t a b p =>
    simp only [cE] at h
    obtain ⟨wt, wa, wb, h1, h2, h3, rfl⟩ := op3_some h
    exact q_ifE (ih.t hx h1) (ih.e hx h2) (ih.e hx h3)
  | Tuple es k p =>
    simp only [cE] at h
    obtain ⟨ws, h1, rfl⟩ := map_some' h
    exact q_tup (ih.es hx h1).1
  | List es p =>
    simp only [cE] at h
    obtain ⟨ws, h1, rfl⟩ := map_some' h
    exact q_lst (ih.es hx h1).1
  | Subscript a s p => simp only [cE] at h; exact ih.sub hx h
  | Call f args kws p =>
    simp only [cE] at h
    split at h
    · rename_i hk
      have : kws = [] := by simpa using hk
      subst this
      exact ih.call hx h
    · cases h
  | ListComp elt gs scope p =>
    match gs, h with
    | [⟨tg, iter, ifs, 0⟩], h => simp only [cE] at h; exact (ih.comp hx h).1 p
    | [], h => simp only [cE] at h; cases h
    | [⟨tg, iter, ifs, .ofNat (k + 1)⟩], h => simp only [cE] at h; cases h
    | [⟨tg, iter, ifs, .negSucc k⟩], h => simp only [cE] at h; cases h
    | _ :: _ :: _, h => simp only [cE] at h; cases h
  | _ => simp only [cE] at h; cases h
theorem sn_t (ih : Sn T n) (hx : XOk X T c) {e : Expr} {w : WE} (h : cT T (n + 1) c e = some w) : PT X e (liftT X.K w) := by
  cases e with
  | Name x p => simp only [cT] at h; exact t_val (wName_ok hx h) fun _ => rfl
  | UnaryOp op a p =>
    cases op with
    | Not =>
      simp only [cT] at h
      obtain ⟨wa, h1, rfl⟩ := map_some' h
      exact t_not (ih.t hx h1)
    | _ => simp only [cT] at h; cases h
  | BoolOp op es p =>
    cases op with
    | And => simp only [cT] at h; exact (ih.tand hx h).pt
    | Or => simp only [cT] at h; exact (ih.tor hx h).pt
  | Compare a ops bs p =>
    match ops, bs, h with
    | [op], [b], h => simp only [cT] at h; exact (sn_cmp ih hx h).2
    | [op, op'], [b, d], h => simp only [cT] at h; exact (sn_chain ih hx h).2
    | [], _, h => simp only [cT] at h; cases h
    | [_], [], h => simp only [cT] at h; cases h
    | [_], _ :: _ :: _, h => simp only [cT] at h; cases h
    | [_, _], [], h => simp only [cT] at h; cases h
    | [_, _], [_], h => simp only [cT] at h; cases h
    | [_, _], _ :: _ :: _ :: _, h => simp only [cT] at h; cases h
    | _ :: _ :: _ :: _, _, h => simp only [cT] at h; cases h
  | Subscript a s p => simp only [cT] at h; exact t_val (ih.sub hx h) fun _ => rfl
  | Call f args kws p =>
    simp only [cT] at h
    split at h
    · rename_i hk
      have : kws = [] := by simpa using hk
      subst this
      exact t_val (ih.call hx h) fun _ => rfl
    · cases h
  | _ => simp only [cT] at h; cases h
theorem sn_es (ih : Sn T n) (hx : XOk X T c) {es : List Expr} {ws : List WE} (h : cEs T (n + 1) c es = some ws) : PA X es (liftA X.K ws) ∧ es.all noStar = true ∧ ws.length = es.length := by
  cases es with
  | nil => simp only [cEs] at h; cases h; exact ⟨q_nil, rfl, rfl⟩
  | cons e r =>
    simp only [cEs] at h
    split at h
    · rename_i hs
      obtain ⟨w, vs, h1, h2, rfl⟩ := op2_some h
      obtain ⟨p1, p2, p3⟩ := ih.es hx h2
      exact ⟨q_cons (ih.e hx h1) p1 (star_cons hs), by rw [List.all_cons, hs, p2]; rfl, by rw [List.length_cons, List.length_cons, p3]⟩
    · cases h
theorem sn_and (ih : Sn T n) (hx : XOk X T c) {es : List Expr} {w : WE} {pos : Pos} (h : cAnd T (n + 1) c es = some w) : PE X (.BoolOp .And es pos) (liftE X.K w) := by
  match es, h with
  | [], h => simp only [cAnd] at h; cases h
  | [e], h => simp only [cAnd] at h; exact q_one (ih.e hx h)
  | e :: b :: r, h =>
    simp only [cAnd] at h
    obtain ⟨wa, wb, h1, h2, rfl⟩ := op2_some h
    exact q_and (ih.e hx h1) (ih.and hx h2)
theorem sn_or (ih : Sn T n) (hx : XOk X T c) {es : List Expr} {w : WE} {pos : Pos} (h : cOr T (n + 1) c es = some w) : PE X (.BoolOp .Or es pos) (liftE X.K w) := by
  match es, h with
  | [], h => simp only [cOr] at h; cases h
  | [e], h => simp only [cOr] at h; exact q_one (ih.e hx h)
  | e :: b :: r, h =>
    simp only [cOr] at h
    obtain ⟨wa, wb, h1, h2, rfl⟩ := op2_some h
    exact q_or (ih.e hx h1) (ih.or hx h2)
theorem sn_tand (ih : Sn T n) (hx : XOk X T c) {es : List Expr} {w : WE} {pos : Pos} (h : cTAnd T (n + 1) c es = some w) : PW X (.BoolOp .And es pos) (liftT X.K w) := by
  match es, h with
  | [], h => simp only [cTAnd] at h; cases h
  | [e], h => simp only [cTAnd] at h; exact w_and1 (ih.t hx h)
  | e :: b :: r, h =>
    simp only [cTAnd] at h
    obtain ⟨wa, wb, h1, h2, rfl⟩ := op2_some h
    exact w_and (ih.t hx h1) (ih.tand hx h2)
theorem sn_tor (ih : Sn T n) (hx : XOk X T c) {es : List Expr} {w : WE} {pos : Pos} (h : cTOr T (n + 1) c es = some w) : PW X (.BoolOp .Or es pos) (liftT X.K w) := by
  match es, h with
  | [], h => simp only [cTOr] at h; cases h
  | [e], h => simp only [cTOr] at h; exact w_or1 (ih.t hx h)
  | e :: b :: r, h =>
    simp only [cTOr] at h
    obtain ⟨wa, wb, h1, h2, rfl⟩ := op2_some h
    exact w_or (ih.t hx h1) (ih.tor hx h2)
theorem sn_o (ih : Sn T n) (hx : XOk X T c) {o : Option Expr} {w : WO} (h : cO T (n + 1) c o = some w) : PO X o (liftO X.K w) := by
  cases o with
  | none => simp only [cO] at h; cases h; exact o_no
  | some e =>
    simp only [cO] at h
    obtain ⟨wa, h1, rfl⟩ := map_some' h
    exact o_so (ih.e hx h1)
theorem sn_call (ih : Sn T n) (hx : XOk X T c) {f : Expr} {args : List Expr} {w : WE} {pos : Pos} (h : cCall T (n + 1) c f args pos = some w) : PE X (.Call f args [] pos) (liftE X.K w) := by
  cases f with
  | Name x p => simp only [cCall] at h; exact wCallN_ok hx h fun vs hv => ih.es hx hv
  | Attribute o m ap =>
    simp only [cCall] at h
    split at h
    · rename_i hc
      obtain ⟨h1, h2, h3⟩ := hc
      split at h
      · rename_i s g e
        obtain ⟨wo, ws, g1, g2, rfl⟩ := op2_some h
        obtain ⟨p1, p2, p3⟩ := ih.es hx g2
        cases args with
        | nil =>
          have e2 : ws = [] := List.eq_nil_of_length_eq_zero p3
          subst e2
          exact q_mt0 (mtOf_ok e) (ih.e hx g1) (super_base h1) h2
        | cons a as =>
          have hst := p2
          rw [List.all_cons, Bool.and_eq_true] at p2
          refine q_mt (mtOf_ok e) (ih.e hx g1) p1 (super_base h1) ?_ h2 (star_cons p2.1) (star_any p2.2)
          rw [star_few hst]
          have e3 : (a :: as).length + ([] : List Keyword).length + (if ([] : List Keyword).isEmpty then 0 else 1) < 30 := by
            show (a :: as).length + 0 + 0 < 30
            omega
          rw [decide_eq_true e3]
          rfl
      · cases h
    · cases h
  | _ => simp only [cCall] at h; cases h
theorem sn_sub (ih : Sn T n) (hx : XOk X T c) {a s : Expr} {w : WE} {pos : Pos} (h : cSub T (n + 1) c a s = some w) : PE X (.Subscript a s pos) (liftE X.K w) := by
  have hu := hx.hu
  have go : ∀ {s : Expr}, noSlice s = true → op2 (wBin oIx) (cE T n c a) (cE T n c s) = some w → PE X (.Subscript a s pos) (liftE X.K w) := fun hs h => by
    obtain ⟨wa, wb, h1, h2, rfl⟩ := op2_some h
    exact q_ix (by omega) (ih.e hx h1) (ih.e hx h2) (plain_ix hs)
  cases s with
  | Slice lo hi st p =>
    cases st with
    | none =>
      simp only [cSub] at h
      obtain ⟨wa, wl, wh, h1, h2, h3, rfl⟩ := op3_some h
      exact q_sl (ih.e hx h1) (ih.o hx h2) (ih.o hx h3)
    | some st =>
      unfold cSub at h
      split at h
      · rename_i e; cases e
      · rename_i e
        cases e
        obtain ⟨wa, h1, rfl⟩ := map_some' h
        exact q_rev (ih.e hx h1)
      · cases h
      · rename_i e1 e2 e3
        exact absurd rfl (e3 _ _ _ _)
  | _ => simp only [cSub] at h; exact go rfl h
theorem sn_comp (ih : Sn T n) (hx : XOk X T c) {elt tg iter : Expr} {ifs : List Expr} {scope : Scope} {w : WE} (h : cComp T (n + 1) c elt tg iter ifs scope = some w) :
    (∀ pos, PE X (.ListComp elt [⟨tg, iter, ifs, 0⟩] scope pos) (liftE X.K w)) ∧
    ∀ (pos spos py : Pos) (i : Nat) (y : Str), X.N[i]? = some y → X.env.scope.names.lookup y = some .local → swapsWith (.ListComp elt [⟨tg, iter, ifs, 0⟩] scope pos) (some (.Name y py)) spos.line X.env = pure true →
      PS X (.Assign [.Name y py] (.ListComp elt [⟨tg, iter, ifs, 0⟩] scope pos) spos) (liftS X.K (sAsg (gN i) w)) := by
  simp only [cComp] at h
  split at h
  · rename_i hb
    have hk : BlkOk X.N X.env.scope scope (ownOf c scope) := by
      rw [hx.N, hx.sc]
      exact blkOk_by hb
    split at h
    · rename_i wi g is we h1 h2 h3
      split at h
      · rename_i hm
        have hm' : ∀ i ∈ is, i ∈ (ownOf c scope).map (·.2) := fun i hi => by
          have := List.all_eq_true.mp hm i hi
          rw [List.any_eq_true] at this
          obtain ⟨p, hp, e⟩ := this
          exact List.mem_map.mpr ⟨p, hp, by simpa using e⟩
        have hbx := fun s H C cl fp => blk_ok hx hk s H C cl fp
        -- the target's reading does not hang on the block's state
        have tg0 : ∃ t, (∀ s H C cl fp, PG (X.blk s H scope (compEnvC scope cl C X.env) fp) tg t) ∧ CtOk X.K t g ((ownOf c scope).map (·.2)) := by
          cases tg <;> first | (cases h2; done) | skip
          · rename_i x p
            obtain ⟨i, g1, g2⟩ := map_some' h2
            cases g2
            have g1' : tgOne (blkCt c scope) (.Name x p) = some i := g1
            exact ⟨_, fun s H C cl fp => (tgOne_ok (hbx s H C cl fp) g1').1, ct_one (hm' i (by simp))⟩
          · rename_i es k p
            obtain ⟨js, g1, g2⟩ := map_some' h2
            cases g2
            have main : ∀ {es : List Expr} {is : List Nat}, optAll (tgOne (blkCt c scope)) es = some is → (∀ i ∈ is, i ∈ (ownOf c scope).map (·.2)) →
                es.all noStar = true ∧ is.length = es.length ∧ ∃ g, (∀ s H C cl fp, PGs (X.blk s H scope (compEnvC scope cl C X.env) fp) es g) ∧ CtsOk X.K g (gsN is) ((ownOf c scope).map (·.2)) := by
              intro es
              induction es with
              | nil => intro is h _; cases h; exact ⟨rfl, rfl, _, fun s H C cl fp => pgs_nil, cts_nil⟩
              | cons e r ihr =>
                intro is h hm
                unfold optAll at h
                split at h
                · rename_i i js h1 h2
                  cases h
                  obtain ⟨q1, q2, t, q3, q4⟩ := ihr h2 fun j hj => hm j (List.mem_cons_of_mem _ hj)
                  have p2 : noStar e = true := by cases e <;> first | rfl | cases h1
                  have p1 : ∀ s H C cl fp, PG (X.blk s H scope (compEnvC scope cl C X.env) fp) e (gName i) := fun s H C cl fp => (tgOne_ok (hbx s H C cl fp) h1).1
                  refine ⟨by rw [List.all_cons, p2, q1]; rfl, by rw [List.length_cons, List.length_cons, q2], _, fun s H C cl fp => pgs_cons (p1 s H C cl fp) (q3 s H C cl fp) ?_, cts_cons (hm i List.mem_cons_self) q4⟩
                  have e1 : ∀ env, assignEach (e :: r) env = (false, assign e env) :: assignEach r env := fun env => by
                    cases e <;> first | rfl | cases p2
                  rw [e1]
                  rfl
                · cases h
            obtain ⟨q1, q2, t, q3, q4⟩ := main g1 hm'
            refine ⟨_, fun s H C cl fp => ?_, ct_many q2.symm q4⟩
            obtain ⟨l1, l2, _⟩ := asg_len (env := (X.blk s H scope (compEnvC scope cl C X.env) fp).env) q1
            exact pg_tup (n := es.length) hx.calm (q3 s H C cl fp) l1 l2
        obtain ⟨t, pg, ct⟩ := tg0
        have pe : ∀ s H C cl fp, PE (X.blk s H scope (compEnvC scope cl C X.env) fp) elt (liftE X.K we) := fun s H C cl fp => ih.e (hbx s H C cl fp) h3
        have pi := ih.i hx h1
        have hset := no_fold (env := X.env) (cI_set h1)
        have fin : ∀ {tt : TT} {wt : WE}, (∀ s H C cl fp, PTs (X.blk s H scope (compEnvC scope cl C X.env) fp) ifs tt) → (∀ σ H Q, liftT X.K wt σ H Q → tt σ H Q) →
            (∀ pos, PE X (.ListComp elt [⟨tg, iter, ifs, 0⟩] scope pos) (liftE X.K (wComp ((ownOf c scope).map (·.2)) wi g wt we))) ∧
            ∀ (pos spos py : Pos) (i : Nat) (y : Str), X.N[i]? = some y → X.env.scope.names.lookup y = some .local → swapsWith (.ListComp elt [⟨tg, iter, ifs, 0⟩] scope pos) (some (.Name y py)) spos.line X.env = pure true →
              PS X (.Assign [.Name y py] (.ListComp elt [⟨tg, iter, ifs, 0⟩] scope pos) spos) (liftS X.K (sAsg (gN i) (wComp ((ownOf c scope).map (·.2)) wi g wt we))) := fun {tt wt} pt tw => by
          refine ⟨fun pos => (pe_lc hx.calm hx.nd pi hk pg pt pe hset).weak fun σ H Q q => lift_comp ct tw q, fun pos spos py i y hy hyl hsw => ?_⟩
          refine (ps_setLc hx.calm hx.nd hy hyl hsw pi hk pg pt pe hset).weak fun D σ H q => ?_
          obtain ⟨env, L, N, hs, hL, hw, k⟩ := q
          exact lift_comp ct tw ⟨env, L, _, hs, hL, hw, fun x La v H1 hb f1 rx r1 => k.nx _ La _ H1 hb f1 ((hs.ex (f1.ex hL)).set i rx) r1⟩
        match ifs, h with
        | [], h =>
          cases h
          refine fin (fun s H C cl fp => pts_nil) fun σ H Q q => ?_
          obtain ⟨env, L, R, hs, hL, hw, k⟩ := q
          obtain ⟨b, e, q⟩ := k _ L H hw .refl hL
          cases e
          exact q
        | [tst], h =>
          obtain ⟨wt, g1, rfl⟩ := map_some' h
          exact fin (fun s H C cl fp => pts_one (ih.t (hbx s H C cl fp) g1)) fun σ H Q q => q
        | _ :: _ :: _, h => cases h
      · cases h
    · cases h
  · cases h
theorem cEs_one {es : List Expr} {a : WE} (ih : Sn T n) (hx : XOk X T c) (h : cEs T n c es = some [a]) : ∃ e, es = [e] ∧ PA X [e] (liftA X.K [a]) ∧ noStar e = true := by
  obtain ⟨p1, p2, p3⟩ := ih.es hx h
  match es, p3 with
  | [e], _ => exact ⟨e, rfl, p1, by simpa using p2⟩
theorem sn_i (ih : Sn T n) (hx : XOk X T c) {tg iter : Expr} {w : WI} (h : cI T (n + 1) c tg iter = some w) : PI X tg iter (liftI X.K w) := by
  have any : ∀ {e : Expr}, (cE T n c e).map iAny = some w → PI X tg e (liftI X.K w) := fun h => by
    obtain ⟨wa, h1, rfl⟩ := map_some' h
    exact i_any (ih.e hx h1)
  have hgl : ∀ {x : Str}, isGl c x = true → Gl X x := fun h => isGl_ok hx h
  cases iter with
  | Set a b d => simp only [cI] at h; cases h
  | Call f args kws pos =>
    cases f with
    | Name x p =>
      cases kws with
      | cons k ks => simp only [cI] at h; exact any h
      | nil =>
        simp only [cI] at h
        split at h
        · rename_i ex
          subst ex
          split at h
          · rename_i hc
            obtain ⟨hn, hg⟩ := hc
            split at h
            · rename_i a ea
              cases h
              obtain ⟨e, rfl, p1, p2⟩ := cEs_one ih hx ea
              exact i_r1 (hgl hg) (hx.non _ hn) p1 (star_cons p2)
            · rename_i a b ea
              cases h
              obtain ⟨p1, p2, p3⟩ := ih.es hx ea
              match args, p3 with
              | [e, e2], _ =>
                simp only [List.all_cons, List.all_nil, Bool.and_true, Bool.and_eq_true] at p2
                have s2 : starEach [e2] X.env = [(false, eval e2 X.env)] := star_cons p2.2
                exact i_r2 (hgl hg) (hx.non _ hn) p1 (by rw [star_cons p2.1, s2]) s2
            · rename_i a b d ea
              cases h
              obtain ⟨p1, p2, p3⟩ := ih.es hx ea
              match args, p3 with
              | [e, e2, e3], _ =>
                rw [List.all_cons, Bool.and_eq_true] at p2
                exact i_r3 (hgl hg) (hx.non _ hn) p1 (star_cons p2.1) (star_any p2.2)
            · cases h
          · cases h
        · split at h
          · rename_i ex
            subst ex
            split at h
            · rename_i hc
              obtain ⟨hn, hg⟩ := hc
              split at h
              · rename_i a ea
                cases h
                obtain ⟨e, rfl, p1, p2⟩ := cEs_one ih hx ea
                exact i_en (hgl hg) (hx.non _ hn) p1 (star_cons p2)
              · cases h
            · cases h
          · split at h
            · rename_i ex
              subst ex
              split at h
              · rename_i hc
                obtain ⟨hn, hg⟩ := hc
                split at h
                · rename_i a b ea
                  cases h
                  obtain ⟨p1, p2, p3⟩ := ih.es hx ea
                  match args, p3 with
                  | [e, e2], _ =>
                    rw [List.all_cons, Bool.and_eq_true] at p2
                    exact i_zp (hgl hg) (hx.non _ hn) p1 (star_cons p2.1) (star_any p2.2)
                · cases h
              · cases h
            · split at h
              · rename_i ex
                subst ex
                split at h
                · rename_i hc
                  obtain ⟨hn, hg⟩ := hc
                  split at h
                  · rename_i a ea
                    cases h
                    obtain ⟨e, rfl, p1, p2⟩ := cEs_one ih hx ea
                    exact i_rv (hgl hg) (hx.non _ hn) p1 (star_cons p2)
                  · cases h
                · cases h
              · exact any h
    | _ => simp only [cI] at h; exact any h
  | _ => simp only [cI] at h; exact any h
theorem sn_all : ∀ n, Sn T n
  | 0 => sn_zero
  | n + 1 => have ih := sn_all n; ⟨fun hx h => sn_e ih hx h, fun hx h => sn_es ih hx h, fun hx h => sn_and ih hx h, fun hx h => sn_or ih hx h, fun hx h => sn_t ih hx h, fun hx h => sn_tand ih hx h, fun hx h => sn_tor ih hx h, fun hx h => sn_sub ih hx h, fun hx h => sn_o ih hx h, fun hx h => sn_call ih hx h, fun hx h => sn_comp ih hx h, fun hx h => sn_i ih hx h⟩
end
end Mp
namespace Mp
open PySem PySem.Spec PyProof.Rows L2

def gsL : List WG → WGs
  | [] => gsNil
  | g :: r => gsCons g (gsL r)
/-- whether a swap of a comprehension's block with the store happens -/
def swC (sc : Scope) (e tg : Expr) : Bool := match e, tg with
  | .ListComp a b s p, .Name t pos => sc.names.lookup t == some .local && pos.line == p.line && !(s.names.any fun (n, k) => n == t && (k == .local || k == .cell))
  | _, _ => false
/-- whether two or three stores are exchanged -/
def swS (sc : Scope) (ts vs : List Expr) : Option (Option (List Str)) :=
  if !(ts.length == 2 || ts.length == 3) || vs.length != ts.length then some none
  else if (vs.any fun | .Starred .. => true | _ => false) = true then some none
  else if (ts.filterMap fun
    | .Name id pos => if sc.names.lookup id == some .local && pos.line == (ts.head?.map (·.pos.line)).getD 0 then some id else none
    | _ => none).length != ts.length || (ts.filterMap fun
    | .Name id pos => if sc.names.lookup id == some .local && pos.line == (ts.head?.map (·.pos.line)).getD 0 then some id else none
    | _ => none).eraseDups.length != (ts.filterMap fun
    | .Name id pos => if sc.names.lookup id == some .local && pos.line == (ts.head?.map (·.pos.line)).getD 0 then some id else none
    | _ => none).length then some none
  else if vs.all (foldedForSure 8) then some none
  else if vs.all (constantsAlone 8) then none
  else some (some (ts.filterMap fun
    | .Name id pos => if sc.names.lookup id == some .local && pos.line == (ts.head?.map (·.pos.line)).getD 0 then some id else none
    | _ => none))
theorem swS_ok {sc : Scope} {env : PySem.Env} (hs : env.scope = sc) (hk : sc.kind = .function) {ts vs : List Expr} {k k' : Nat} {p p' : Pos} {r : Option (List Str)} (h : swS sc ts vs = some r) :
    swappedStores [.Tuple ts k p] (.Tuple vs k' p') env = pure r := by
  have hb : env.blockKind = .function := by unfold Env.blockKind; rw [hs, hk]; rfl
  have hkk : ∀ id, env.kindOf id = sc.names.lookup id := fun id => by unfold Env.kindOf; rw [hs]
  unfold swS at h
  unfold swappedStores
  simp only [hb, hkk]
  have e0 : ∀ b : Bool, (b || (ScopeKind.function != ScopeKind.function)) = b := fun b => by cases b <;> rfl
  rw [e0]
  split at h
  · rename_i q
    cases h
    exact if_pos q
  rename_i q
  refine (if_neg q).trans ?_
  split at h
  · rename_i q
    cases h
    exact if_pos q
  rename_i q
  refine (if_neg q).trans ?_
  split at h
  · rename_i q
    cases h
    exact if_pos q
  rename_i q
  refine (if_neg q).trans ?_
  split at h
  · rename_i q
    cases h
    exact if_pos q
  rename_i q
  refine (if_neg q).trans ?_
  split at h
  · cases h
  rename_i q
  refine (if_neg q).trans ?_
  cases h
  rfl
def isLC : Expr → Bool
  | .ListComp _ _ _ _ => true
  | _ => false
section
variable (T : Tab)
mutual
def cG : Nat → Ct → Expr → Option WG
  | 0, _, _ => none
  | n + 1, c, e => match e with
    | .Name x _ => if okName x = true then (cSto c x).map gN else none
    | .Tuple es _ _ => (cGs n c es).map fun gs => gT gs.length (gsL gs)
    | .Subscript o i _ => if noSlice i = true then op2 gS (cE T n c o) (cE T n c i) else none
    | _ => none
def cGs : Nat → Ct → List Expr → Option (List WG)
  | 0, _, _ => none
  | n + 1, c, es => match es with
    | [] => some []
    | e :: r => if noStar e = true then op2 List.cons (cG n c e) (cGs n c r) else none
end
def cAsg (n : Nat) (c : Ct) (tg e : Expr) : Option WS := match tg, e with
  | .Tuple ts _ _, .Tuple vs _ _ => (match swS c.sc ts vs with
    | some none => op2 sAsg (cG T n c tg) (cE T n c e)
    | some (some _) => if ts.length == 2 || ts.length == 3 then op2 sPar (optAll (tgOne c) ts) (cEs T n c vs) else none
    | none => none)
  | _, _ => if (noComp e || isLC e) = true then op2 sAsg (cG T n c tg) (cE T n c e) else none
mutual
def cS : Nat → Ct → Stmt → Option WS
  | 0, _, _ => none
  | n + 1, c, s => match s with
    | .Return (some e) _ => (cE T n c e).map sRet
    | .Return none _ => some sRetN
    | .Expr e _ => if noComp e = true then (cE T n c e).map sExpr else none
    | .Assign [tg] e _ => cAsg T n c tg e
    | .AugAssign (.Name x _) .Add e _ => if okName x = true then op2 (fun i w => sAug i oAddI w) (cSto c x) (cE T n c e) else none
    | .If t a b _ => op3 sIf (cT T n c t) (cSs n c a) (cSs n c b)
    | .While t b [] _ => op2 sWhile (cT T n c t) (cSs n c b)
    | .For tg it b [] _ => op3 sFor (cI T n c tg it) (cG T n c tg) (cSs n c b)
    | .Pass _ => some sNil
    | .Break _ => some sBrk
    | .Continue _ => some sCnt
    | _ => none
def cSs : Nat → Ct → List Stmt → Option WS
  | 0, _, _ => none
  | n + 1, c, ss => match ss with
    | [] => some sNil
    | [s] => cS n c s
    | s :: r => op2 sSeq (cS n c s) (cSs n c r)
end
end
section
variable {T : Tab} {X : Cx} {c : Ct}
theorem cG_ok (hx : XOk X T c) : ∀ n, (∀ {e : Expr} {g : WG}, cG T n c e = some g → PG X e (liftG X.K g) ∧ noStar e = true) ∧ ∀ {es : List Expr} {gs : List WG}, cGs T n c es = some gs → PGs X es (liftGs X.K (gsL gs)) ∧ es.all noStar = true ∧ gs.length = es.length
  | 0 => ⟨fun h => (by simp only [cG] at h; cases h), fun h => (by simp only [cGs] at h; cases h)⟩
  | n + 1 => by
    obtain ⟨ih1, ih2⟩ := cG_ok hx n
    refine ⟨fun {e g} h => ?_, fun {es gs} h => ?_⟩
    · cases e with
      | Name x p =>
        simp only [cG] at h
        split at h
        · obtain ⟨i, h1, rfl⟩ := map_some' h
          obtain ⟨e1, e2, e3⟩ := cSto_ok hx h1
          exact ⟨g_name hx.nd e1 e2 e3, rfl⟩
        · cases h
      | Tuple es k p =>
        simp only [cG] at h
        obtain ⟨gs, h1, rfl⟩ := map_some' h
        obtain ⟨p1, p2, p3⟩ := ih2 h1
        obtain ⟨l1, l2, _⟩ := asg_len (env := X.env) p2
        exact ⟨g_tup hx.calm p1 (by rw [l1, p3]) l2, rfl⟩
      | Subscript o i p =>
        simp only [cG] at h
        split at h
        · rename_i hs
          obtain ⟨wo, wi, h1, h2, rfl⟩ := op2_some h
          refine ⟨g_sub ((sn_all n).e hx h1) ((sn_all n).e hx h2) fun v => ?_, rfl⟩
          cases i <;> first | rfl | cases hs
        · cases h
      | _ => simp only [cG] at h; cases h
    · cases es with
      | nil => simp only [cGs] at h; cases h; exact ⟨g_nil, rfl, rfl⟩
      | cons e r =>
        simp only [cGs] at h
        split at h
        · rename_i hs
          obtain ⟨g, gr, h1, h2, rfl⟩ := op2_some h
          obtain ⟨p1, p2, p3⟩ := ih2 h2
          refine ⟨g_cons (ih1 h1).1 p1 ?_, by rw [List.all_cons, hs, p2]; rfl, by rw [List.length_cons, List.length_cons, p3]⟩
          have e1 : assignEach (e :: r) X.env = (false, assign e X.env) :: assignEach r X.env := by
            cases e <;> first | rfl | cases hs
          rw [e1]
          rfl
        · cases h
theorem sole_none {tg e : Expr} {l : Nat} {env : PySem.Env} (h : noComp e = true) : swapsWith e (some tg) l env = pure false := by cases e <;> first | rfl | cases h
theorem sole_expr {e : Expr} {l : Nat} {env : PySem.Env} (h : noComp e = true) : swapsWith e none l env = pure false := by cases e <;> first | rfl | cases h
theorem asg_one {tg : Expr} {env : PySem.Env} (h : noStar tg = true) : (assignEach [tg] env).map (·.2) = [assign tg env] := by
  cases tg <;> first | rfl | cases h
/-- the names of the targets, and their places -/
theorem sw_names {sc : Scope} {ts vs : List Expr} {ns : List Str} (h : swS sc ts vs = some (some ns)) : ns = (ts.filterMap fun
    | .Name id pos => if sc.names.lookup id == some .local && pos.line == (ts.head?.map (·.pos.line)).getD 0 then some id else none
    | _ => none) ∧ ns.length = ts.length ∧ vs.length = ts.length ∧ ns.eraseDups.length = ns.length := by
  unfold swS at h
  split at h
  · cases h
  rename_i q0
  split at h
  · cases h
  split at h
  · cases h
  rename_i q
  split at h
  · cases h
  split at h
  · cases h
  cases h
  rw [Bool.or_eq_true, not_or] at q q0
  exact ⟨rfl, Classical.byContradiction fun z => q.1 (bne_iff_ne.mpr z), Classical.byContradiction fun z => q0.2 (bne_iff_ne.mpr z), Classical.byContradiction fun z => q.2 (bne_iff_ne.mpr z)⟩
theorem filt2 {α β : Type} {f : α → Option β} {a b : α} (h : ([a, b].filterMap f).length = 2) : ∃ x y, f a = some x ∧ f b = some y ∧ [a, b].filterMap f = [x, y] := by
  cases ha : f a <;> cases hb : f b <;> simp [List.filterMap, ha, hb] at h ⊢
theorem filt3 {α β : Type} {f : α → Option β} {a b d : α} (h : ([a, b, d].filterMap f).length = 3) : ∃ x y z, f a = some x ∧ f b = some y ∧ f d = some z ∧ [a, b, d].filterMap f = [x, y, z] := by
  cases ha : f a <;> cases hb : f b <;> cases hd : f d <;> simp [List.filterMap, ha, hb, hd] at h ⊢
theorem name_of {sc : Scope} {l : Nat} {e : Expr} {x : Str} (h : (match e with
    | .Name id pos => if sc.names.lookup id == some .local && pos.line == l then some id else none
    | _ => none) = some x) : (∃ p, e = .Name x p) ∧ sc.names.lookup x = some .local := by
  cases e <;> first | (cases h; done) | skip
  rename_i id pos
  have h : (if (sc.names.lookup id == some .local && pos.line == l) = true then some id else none) = some x := h
  split at h
  · rename_i q
    cases h
    rw [Bool.and_eq_true] at q
    exact ⟨⟨_, rfl⟩, by simpa using q.1⟩
  · cases h
theorem tgOne_get (hx : XOk X T c) {x : Str} {p : Pos} {i : Nat} (h : tgOne c (.Name x p) = some i) : X.N[i]? = some x := by
  have h : (if okName x = true then cSto c x else none) = some i := h
  split at h
  · exact (cSto_ok hx h).1
  · cases h
theorem nodup_ne {α : Type} {l : List α} (hN : l.Nodup) {i j : Nat} {x y : α} (a : l[i]? = some x) (b : l[j]? = some y) (h : x ≠ y) : i ≠ j := fun e => by
  subst e
  rw [a] at b
  exact h (Option.some.inj b)
theorem sw_false {elt : Expr} {gs : List Comprehension} {scope : Scope} {pos py : Pos} {y : Str} {l : Nat} {env : PySem.Env} (hk : env.scope.kind = .function)
    (hb : (env.scope.names.lookup y == some .local && py.line == pos.line && !(scope.names.any fun (n, k) => n == y && (k == .local || k == .cell))) = false) : swapsWithSole [.Name y py] (.ListComp elt gs scope pos) l env = pure false := by
  have hbk : env.blockKind = .function := by unfold Env.blockKind; rw [hk]; rfl
  have hkk : env.kindOf y = env.scope.names.lookup y := rfl
  unfold swapsWithSole swapsWith
  simp only [hbk, hkk, Expr.pos]
  have e0 : ∀ b : Bool, ((ScopeKind.function == ScopeKind.function) && b) = b := fun b => by cases b <;> rfl
  rw [Bool.and_assoc, Bool.and_assoc, e0, ← Bool.and_assoc, hb]
theorem cAsg_ok (hx : XOk X T c) {n : Nat} {tg e : Expr} {w : WS} {pos : Pos} (h : cAsg T n c tg e = some w) : PS X (.Assign [tg] e pos) (liftS X.K w) := by
  have hk := hx.kd
  have hsc := hx.sc
  have plain : ∀ {g : WG} {we : WE}, cG T n c tg = some g → cE T n c e = some we → swapsWithSole [tg] e pos.line X.env = pure false → swappedStores [tg] e X.env = pure none → PS X (.Assign [tg] e pos) (liftS X.K (sAsg g we)) := fun hg he h1 h2 => by
    obtain ⟨p1, p2⟩ := (cG_ok hx n).1 hg
    exact s_asg ((sn_all n).e hx he) p1 h1 h2 (asg_one p2)
  have other : ∀ (hnt : ¬ ((∃ ts k p, tg = .Tuple ts k p) ∧ ∃ vs k p, e = .Tuple vs k p)), (if (noComp e || isLC e) = true then op2 sAsg (cG T n c tg) (cE T n c e) else none) = some w → PS X (.Assign [tg] e pos) (liftS X.K w) := fun hnt h => by
    have hst : ∀ g, cG T n c tg = some g → swappedStores [tg] e X.env = pure none := fun g hg => by
      cases n with
      | zero => simp only [cG] at hg; cases hg
      | succ n =>
        cases tg <;> first | (simp only [cG] at hg; cases hg; done) | rfl | skip
        cases e <;> first | rfl | skip
        exact absurd ⟨⟨_, _, _, rfl⟩, _, _, _, rfl⟩ hnt
    split at h
    · rename_i hc
      obtain ⟨g, we, h1, h2, rfl⟩ := op2_some h
      by_cases hn : noComp e = true
      · exact plain h1 h2 (sole_none hn) (hst g h1)
      · -- a comprehension
        have hl : isLC e = true := by
          rw [Bool.or_eq_true] at hc
          exact hc.resolve_left hn
        obtain ⟨elt, gs, scope, lp, rfl⟩ : ∃ elt gs scope lp, e = .ListComp elt gs scope lp := by
          cases e <;> first | exact ⟨_, _, _, _, rfl⟩ | cases hl
        cases n with
        | zero => simp only [cG] at h1; cases h1
        | succ n =>
          by_cases htn : ∃ y py, tg = .Name y py
          case neg =>
            refine plain h1 h2 ?_ (hst g h1)
            cases tg <;> first | rfl | exact absurd ⟨_, _, rfl⟩ htn
          obtain ⟨y, py, rfl⟩ := htn
          cases hb : (c.sc.names.lookup y == some .local && py.line == lp.line && !(scope.names.any fun (n, k) => n == y && (k == .local || k == .cell)))
          · refine plain h1 h2 ?_ (hst g h1)
            exact sw_false (by rw [hsc]; exact hk) (by rw [hsc]; exact hb)
          · rw [Bool.and_eq_true, Bool.and_eq_true] at hb
            have hloc : X.env.scope.names.lookup y = some .local := by rw [hsc]; simpa using hb.1.1
            have hsw : swapsWith (.ListComp elt gs scope lp) (some (.Name y py)) pos.line X.env = pure true := sw_true (by rw [hsc]; exact hk) hloc hb.1.2 (by simpa using hb.2)
            simp only [cG] at h1
            split at h1
            · obtain ⟨i, g1, rfl⟩ := map_some' h1
              obtain ⟨e1, e2, e3⟩ := cSto_ok hx g1
              match gs, h2, hsw with
              | [⟨tg, iter, ifs, 0⟩], h2, hsw =>
                simp only [cE] at h2
                exact ((sn_all n).comp hx h2).2 lp pos py i y e1 hloc hsw
              | [], h2, _ => simp only [cE] at h2; cases h2
              | [⟨tg, iter, ifs, .ofNat (k + 1)⟩], h2, _ => simp only [cE] at h2; cases h2
              | [⟨tg, iter, ifs, .negSucc k⟩], h2, _ => simp only [cE] at h2; cases h2
              | _ :: _ :: _, h2, _ => simp only [cE] at h2; cases h2
            · cases h1
    · cases h
  unfold cAsg at h
  split at h
  · rename_i ts k p vs k' p'
    split at h
    · rename_i hs
      obtain ⟨g, we, h1, h2, rfl⟩ := op2_some h
      exact plain h1 h2 rfl (swS_ok hsc hk hs)
    · rename_i ns hs
      split at h
      · rename_i hl
        obtain ⟨is, ws, h1, h2, rfl⟩ := op2_some h
        obtain ⟨n1, n2, n3, n4⟩ := sw_names hs
        obtain ⟨p1, p2, p3⟩ := (sn_all n).es hx h2
        have hsw := swS_ok (k := k) (k' := k') (p := p) (p' := p') hsc hk hs
        match ts, vs, n3, hl, h1 with
        | [ta, tb], [va, vb], _, _, h1 =>
          rw [n1] at n2
          obtain ⟨x, y, f1, f2, f3⟩ := filt2 n2
          obtain ⟨⟨px, rfl⟩, lx⟩ := name_of f1
          obtain ⟨⟨py, rfl⟩, ly⟩ := name_of f2
          rw [n1, f3] at hsw
          rw [n1, f3] at n4
          have hxy : x ≠ y := fun z => by
            subst z
            rw [List.eraseDups_cons] at n4
            simp at n4
          unfold optAll optAll optAll at h1
          split at h1
          · rename_i i js g1 g2
            split at g2
            · rename_i j ks g3 g4
              cases g4
              cases g2
              cases h1
              have e1 := tgOne_get hx g1
              have e2 := tgOne_get hx g3
              have hij := nodup_ne hx.nd e1 e2 hxy
              refine (ps_par hx.calm hx.nd e1 e2 hij (by rw [hsc]; exact lx) (by rw [hsc]; exact ly) p1 hsw rfl).weak fun D σ H q => ?_
              obtain ⟨env, L, N, hs, hL, hw, k⟩ := q
              refine ⟨env, L, _, hs, hL, hw, fun xs La vs H1 hb hn f1 rx r1 => ?_⟩
              rw [p3] at hn
              match xs, hn with
              | [u, v], _ =>
                obtain ⟨uu, vv, rfl, ru, rv⟩ := rx.two
                exact ⟨uu, vv, rfl, k.nx _ La _ H1 hb f1 (((hs.ex (f1.ex hL)).set i ru).set j rv) r1⟩
            · cases g2
          · cases h1
        | [ta, tb, td], [va, vb, vd], _, _, h1 =>
          rw [n1] at n2
          obtain ⟨x, y, z, f1, f2, f4, f3⟩ := filt3 n2
          obtain ⟨⟨px, rfl⟩, lx⟩ := name_of f1
          obtain ⟨⟨py, rfl⟩, ly⟩ := name_of f2
          obtain ⟨⟨pz, rfl⟩, lz⟩ := name_of f4
          rw [n1, f3] at hsw
          rw [n1, f3] at n4
          have hxy : x ≠ y := fun q => by
            subst q
            rw [List.eraseDups_cons, List.filter_cons] at n4
            simp at n4
            by_cases q : z = x
            · subst q; simp at n4
            · simp [q, List.eraseDups_cons] at n4
          have hxz : x ≠ z := fun q => by
            subst q
            rw [List.eraseDups_cons] at n4
            by_cases q : y = x
            · subst q; simp at n4
            · simp [q, List.eraseDups_cons] at n4
          have hyz : y ≠ z := fun q => by
            subst q
            rw [List.eraseDups_cons] at n4
            by_cases q : y = x
            · subst q; simp at n4
            · simp [q, List.eraseDups_cons] at n4
          unfold optAll optAll optAll optAll at h1
          split at h1
          · rename_i i js g1 g2
            split at g2
            · rename_i j ks g3 g4
              split at g4
              · rename_i l ms g5 g6
                cases g6
                cases g4
                cases g2
                cases h1
                have e1 := tgOne_get hx g1
                have e2 := tgOne_get hx g3
                have e3 := tgOne_get hx g5
                refine (ps_par3 hx.calm hx.nd e1 e2 e3 (nodup_ne hx.nd e1 e2 hxy) (nodup_ne hx.nd e1 e3 hxz) (nodup_ne hx.nd e2 e3 hyz) (by rw [hsc]; exact lx) (by rw [hsc]; exact ly) (by rw [hsc]; exact lz) p1 hsw rfl).weak fun D σ H q => ?_
                obtain ⟨env, L, N, hs, hL, hw, k⟩ := q
                refine ⟨env, L, _, hs, hL, hw, fun xs La vs H1 hb hn f1 rx r1 => ?_⟩
                rw [p3] at hn
                match xs, hn with
                | [u, v, w], _ =>
                  obtain ⟨uu, vv, ww, rfl, ru, rv, rw'⟩ := rx.three
                  exact ⟨uu, vv, ww, rfl, k.nx _ La _ H1 hb f1 ((((hs.ex (f1.ex hL)).set i ru).set j rv).set l rw') r1⟩
              · cases g4
            · cases g2
          · cases h1
        | [], vs, _, hl, _ => cases hl
        | [_], vs, _, hl, _ => cases hl
        | _ :: _ :: _ :: _ :: _, vs, _, hl, _ => simp at hl
      · cases h
    · cases h
  · rename_i hnt
    refine other (fun ⟨⟨ts, k, p, e1⟩, vs, k', p', e2⟩ => ?_) h
    exact hnt ts k p vs k' p' e1 e2
end
end Mp
namespace Mp
open PySem PySem.Spec PyProof.Rows L2

section
variable {T : Tab} {X : Cx} {c : Ct}
theorem cS_ok (hx : XOk X T c) (hp : PassesOwn (model X.prog X.w) X.A X.env X.xe) : ∀ n, (∀ {s : Stmt} {w : WS}, cS T n c s = some w → PS X s (liftS X.K w)) ∧ ∀ {ss : List Stmt} {w : WS}, cSs T n c ss = some w → PSs X ss (liftS X.K w)
  | 0 => ⟨fun h => (by simp only [cS] at h; cases h), fun h => (by simp only [cSs] at h; cases h)⟩
  | n + 1 => by
    obtain ⟨ih1, ih2⟩ := cS_ok hx hp n
    have sn := sn_all (T := T) n
    refine ⟨fun {s w} h => ?_, fun {ss w} h => ?_⟩
    · cases s with
      | Return o p =>
        cases o with
        | none => simp only [cS] at h; cases h; exact s_retN
        | some e =>
          simp only [cS] at h
          obtain ⟨we, h1, rfl⟩ := map_some' h
          exact s_ret (sn.e hx h1)
      | Expr e p =>
        simp only [cS] at h
        split at h
        · rename_i hn
          obtain ⟨we, h1, rfl⟩ := map_some' h
          exact s_expr (sn.e hx h1) (sole_expr hn)
        · cases h
      | Assign tgs e p =>
        match tgs, h with
        | [tg], h => simp only [cS] at h; exact cAsg_ok hx h
        | [], h => simp only [cS] at h; cases h
        | _ :: _ :: _, h => simp only [cS] at h; cases h
      | AugAssign tg op e p =>
        cases tg with
        | Name x p2 =>
          cases op with
          | Add =>
            simp only [cS] at h
            split at h
            · obtain ⟨i, we, h1, h2, rfl⟩ := op2_some h
              obtain ⟨e1, e2, e3⟩ := cSto_ok hx h1
              exact s_aug hx.nd e1 e2 e3 ip_add ip_addI (sn.e hx h2)
            · cases h
          | _ => simp only [cS] at h; cases h
        | _ => simp only [cS] at h; cases h
      | If t a b p =>
        simp only [cS] at h
        obtain ⟨wt, wa, wb, h1, h2, h3, rfl⟩ := op3_some h
        exact s_if (sn.t hx h1) (ih2 h2) (ih2 h3)
      | While t b o p =>
        cases o with
        | nil =>
          simp only [cS] at h
          obtain ⟨wt, wb, h1, h2, rfl⟩ := op2_some h
          exact s_while hp (sn.t hx h1) (ih2 h2)
        | cons _ _ => simp only [cS] at h; cases h
      | For tg it b o p =>
        cases o with
        | nil =>
          simp only [cS] at h
          obtain ⟨wi, g, wb, h1, h2, h3, rfl⟩ := op3_some h
          exact s_for hp hx.calm (sn.i hx h1) ((cG_ok hx n).1 h2).1 (ih2 h3) (no_fold (cI_set h1))
        | cons _ _ => simp only [cS] at h; cases h
      | Pass p => simp only [cS] at h; cases h; exact s_pass
      | Break p => simp only [cS] at h; cases h; exact s_brk
      | Continue p => simp only [cS] at h; cases h; exact s_cnt
      | _ => simp only [cS] at h; cases h
    · match ss, h with
      | [], h => simp only [cSs] at h; cases h; exact s_nil
      | [s], h => simp only [cSs] at h; exact s_one (ih1 h)
      | s :: s2 :: r, h =>
        simp only [cSs] at h
        obtain ⟨wa, wb, h1, h2, rfl⟩ := op2_some h
        exact s_cons (ih1 h1) (ih2 h2)
end

/-! ### a def of the text -/
def initE (n : Nat) (args : List PV) : Env := args.map some ++ List.replicate (n - args.length) none
structure TabOk (P : Program) (w : World) (K : PySem.W.Frag) (mg : Str → Option Value) (base : Heap) (k : Nat) (T : Tab) : Prop where
  fns : ∀ x n S, T.fns.lookup x = some (n, S) → FnIs P w K mg base k x n S
  non : ∀ x, T.non.contains x = true → mg x = none
  con : ∀ x p, T.con.lookup x = some p → ∃ u v, mg x = some u ∧ RelV v u ∧ ∀ H, RepV K H p v
section
variable {P : Program} {w : World} {K : PySem.W.Frag} {mg : Str → Option Value} {base : Heap} {k : Nat} {T : Tab}
theorem TabOk.mono {k' : Nat} (h : TabOk P w K mg base k T) (hk : k ≤ k') : TabOk P w K mg base k' T := ⟨fun x n S e => (h.fns x n S e).mono hk, h.non, h.con⟩
theorem TabOk.add (h : TabOk P w K mg base k T) {x : Str} {n : Nat} {S : Spec} (f : FnIs P w K mg base k x n S) : TabOk P w K mg base k { T with fns := (x, n, S) :: T.fns } := by
  refine ⟨fun y m S' e => ?_, h.non, h.con⟩
  have e : ((x, n, S) :: T.fns).lookup y = some (m, S') := e
  rw [List.lookup_cons] at e
  split at e
  · rename_i q
    cases e
    have q : y = x := by simpa using q
    subst q
    exact f
  · exact h.fns y m S' e
theorem start_rep {N : List Str} {H : Hp} {args : List PV} {vs : List V} (r : RepVs K H args vs) : RepS K H (L2.start N vs) (initE N.length args) := by
  have hl := r.length
  refine ⟨?_, fun i x e => ?_⟩
  · unfold L2.start initE
    rw [List.length_append, List.length_append, List.length_map, List.length_map, List.length_replicate, List.length_replicate, hl]
  · unfold initE at e
    by_cases hi : i < args.length
    · rw [List.getElem?_append_left (by rw [List.length_map]; exact hi), List.getElem?_map] at e
      cases q : args[i]? with
      | none => rw [q] at e; cases e
      | some y =>
        rw [q] at e
        cases e
        obtain ⟨v, h1, h2⟩ := r.get q
        refine ⟨v, ?_, h2⟩
        unfold L2.start
        rw [List.getElem?_append_left (by rw [List.length_map]; omega), List.getElem?_map, h1]
        rfl
    · rw [List.getElem?_append_right (by rw [List.length_map]; omega), List.getElem?_replicate] at e
      split at e <;> cases e
/-- THE RULE for a def, over data -/
theorem def_fn (hT : TabOk P w K mg base k T) {x qual : Str} {st : Stmt} {f : Addr} {fd : FuncData} {N ps : List Str} {n : Nat} {body : WS} {S : Spec} (F : Fun K x qual st f fd) (sc : FnScope N ps (defScope st)) (hc : cSs T n ⟨N, defScope st, fun _ => true⟩ (defBody st) = some body)
    (hS : ∀ args L R, args.length = ps.length → S args L R → body (initE N.length args) L { nx := fun _ L' => R .non L', rt := R }) : FnOk P w K mg base CX0 (k + 1) f fd ps (liftSp K ps.length S) := by
  refine F.ok sc (fun vs H Q E h => h.1) fun cdv A outer s H vs Q E hr h => ?_
  obtain ⟨hl, args, L, R, ra, rh, hs, kt⟩ := h
  have hx : XOk (cxOf CX0 P w K mg base N qual (defScope st) f cdv A outer s H E).nox T ⟨N, defScope st, fun _ => true⟩ :=
    ⟨rfl, sc.nd, rfl, sc.kind, fun _ _ => rfl, rfl, ⟨k, hr, hT.fns⟩, hT.non, hT.con⟩
  refine ⟨_, (cS_ok hx PassesOwn.never n).2 hc, ?_⟩
  refine ⟨initE N.length args, L, _, start_rep ra, rh, hS args L R (by rw [ra.length, hl]) hs, ?_⟩
  exact ⟨fun env' L' σ' H' h f r' rh' => kt .non L' .non H' h f rfl rh', kt, fun _ _ _ _ h => h.elim, fun _ _ _ _ h => h.elim⟩
theorem def_ok (hT : TabOk P w K mg base k T) {x qual : Str} {st : Stmt} {f : Addr} {fd : FuncData} {N ps : List Str} {n : Nat} {body : WS} {S : Spec} (F : Fun K x qual st f fd) (sc : FnScope N ps (defScope st)) (hc : cSs T n ⟨N, defScope st, fun _ => true⟩ (defBody st) = some body)
    (hm : mg x = some (.ref f)) (hb : Binds K fd ps []) (hS : ∀ args L R, args.length = ps.length → S args L R → body (initE N.length args) L { nx := fun _ L' => R .non L', rt := R }) : FnIs P w K mg base (k + 1) x ps.length S :=
  ⟨f, fd, ps, hm, F.kp, hb, def_fn hT F sc hc hS⟩
/-- a def of the text of which nothing is asked -/
theorem def_no {x qual : Str} {st : Stmt} {f : Addr} {fd : FuncData} {ps : List Str} {S : Spec} (F : Fun K x qual st f fd) (hm : mg x = some (.ref f)) (hb : Binds K fd ps []) (hS : ∀ args L R, ¬ S args L R) : FnIs P w K mg base k x ps.length S :=
  ⟨f, fd, ps, hm, F.kp, hb, ⟨fun vs H Q E h => h.1, fun A outer s H args us vs Q E hr he hb hv h => by
    obtain ⟨_, args, L, R, _, _, h, _⟩ := h
    exact (hS _ _ _ h).elim⟩⟩
def NonOk (mg : Str → Option Value) (l : List Str) : Prop := ∀ x, l.contains x = true → mg x = none
theorem NonOk.nil : NonOk mg [] := fun x h => by cases h
theorem NonOk.cons {l : List Str} {y : Str} (hy : mg y = none) (h : NonOk mg l) : NonOk mg (y :: l) := fun x e => by
  rw [List.contains_cons, Bool.or_eq_true] at e
  rcases e with e | e
  · have : x = y := by simpa using e
    rw [this]
    exact hy
  · exact h x e
theorem TabOk.start {non : List Str} (h : NonOk mg non) : TabOk P w K mg base k ⟨[], [], non⟩ := ⟨fun x n S e => (by cases e), h, fun x p e => (by cases e)⟩
theorem TabOk.cn (h : TabOk P w K mg base k T) {x : Str} {p : PV} {u : Value} {v : V} (h1 : mg x = some u) (h2 : RelV v u) (h3 : ∀ H, RepV K H p v) : TabOk P w K mg base k { T with con := (x, p) :: T.con } := by
  refine ⟨h.fns, h.non, fun y p' e => ?_⟩
  have e : ((x, p) :: T.con).lookup y = some p' := e
  rw [List.lookup_cons] at e
  split at e
  · rename_i q
    cases e
    have q : y = x := by simpa using q
    subst q
    exact ⟨u, v, h1, h2, h3⟩
  · exact h.con y p' e
end

/-- what the law's promise asks at the entry -/
theorem law_sp {K : PySem.W.Frag} {S : Spec} {H : Hp} {a : Addr} {ns : List Int} (hO : Only H) (hS : SqL K H a (ns.map V.int)) (h : S [.fz ns] (fun _ => none) fun x _ => x = .bl true) : liftSp K 1 S [.ref a] H (fun v _ => v = .bl true) fun _ _ _ => False := by
  refine ⟨rfl, [.fz ns], fun _ => none, _, ⟨.ref a, [], rfl, ⟨a, rfl, ?_⟩, rfl⟩, fun b o e => (by cases e), h, fun x L' v H' hx f rv rh => ?_⟩
  · rcases hS with (h | ⟨o, h⟩) | h
    · rcases hO a with q | ⟨o, xs, q⟩
      · rw [q] at h; cases h
      · rw [q] at h; cases h
    · exact .inl ⟨o, h⟩
    · exact .inr (.inr h)
  · subst hx
    exact rv
end Mp
namespace Mp
open PySem PySem.Spec PyProof.Rows L2

/-! ### reckoning readings -/
section
variable {L : Sto} {R : PK} {a b c d e f g h : PV} {r : List PV}
theorem ix0 : oIx (.tup (a :: r)) (.int 0) L R = R a L := by
  show (match atI (a :: r) 0 with | some v => R v L | none => False) = _
  rw [show atI (a :: r) 0 = some a from atI_nat (j := 0) rfl]
theorem ix1 : oIx (.tup (a :: b :: r)) (.int 1) L R = R b L := by
  show (match atI (a :: b :: r) 1 with | some v => R v L | none => False) = _
  rw [show atI (a :: b :: r) 1 = some b from atI_nat (j := 1) rfl]
theorem ix2 : oIx (.tup (a :: b :: c :: r)) (.int 2) L R = R c L := by
  show (match atI (a :: b :: c :: r) 2 with | some v => R v L | none => False) = _
  rw [show atI (a :: b :: c :: r) 2 = some c from atI_nat (j := 2) rfl]
theorem ix3 : oIx (.tup (a :: b :: c :: d :: r)) (.int 3) L R = R d L := by
  show (match atI (a :: b :: c :: d :: r) 3 with | some v => R v L | none => False) = _
  rw [show atI (a :: b :: c :: d :: r) 3 = some d from atI_nat (j := 3) rfl]
theorem ix_nat {xs : List PV} {j : Nat} {x : PV} (h : xs[j]? = some x) (k : R x L) : oIx (.tup xs) (.int j) L R := by
  show (match atI xs j with | some v => R v L | none => False)
  rw [atI_nat h]
  exact k
theorem ixl_nat {p : Addr} {xs : List PV} {j : Nat} {x : PV} (e : L p = some (.l xs)) (h : xs[j]? = some x) (k : R x L) : oIx (.ref p) (.int j) L R := by
  unfold oIx
  simp only [e, atI_nat h]
  exact k
theorem ixl_at {p : Addr} {xs : List PV} {j : Int} {x : PV} (e : L p = some (.l xs)) (h : atI xs j = some x) (k : R x L) : oIx (.ref p) (.int j) L R := by
  unfold oIx
  simp only [e, h]
  exact k
theorem ix_at {xs : List PV} {j : Int} {x : PV} (h : atI xs j = some x) (k : R x L) : oIx (.tup xs) (.int j) L R := by
  unfold oIx
  simp only [h]
  exact k
theorem bIf_t {A B : Prop} : bIf (.bl true) A B = A := by show (if true = true then A else B) = A; exact if_pos rfl
theorem bIf_f {A B : Prop} : bIf (.bl false) A B = B := by show (if false = true then A else B) = B; exact if_neg Bool.false_ne_true
theorem bIf_d {p : Prop} [Decidable p] {A B : Prop} : bIf (.bl (decide p)) A B = if p then A else B := by
  show (if decide p = true then A else B) = _
  by_cases h : p <;> simp [h]
theorem bIf_n {x : Bool} {A B : Prop} : bIf (.bl (!x)) A B = bIf (.bl x) B A := by cases x <;> simp [bIf]
theorem bIf_i {A B : Prop} {x : Bool} (h1 : x = true → A) (h2 : x = false → B) : bIf (.bl x) A B := by
  cases x
  · exact h2 rfl
  · exact h1 rfl
end
/-! growing stores -/
def Le (L L' : Sto) : Prop := ∀ a o, L a = some o → L' a = some o
theorem Le.refl {L : Sto} : Le L L := fun _ _ h => h
theorem Le.trans {L La Lb : Sto} (x : Le L La) (y : Le La Lb) : Le L Lb := fun a o h => y a o (x a o h)
theorem Le.new {L : Sto} {p : Addr} {o : SO} (h : L p = none) : Le L (put L p o) := fun a u e => by
  rw [put_ne (fun z => by rw [z, h] at e; cases e)]
  exact e
theorem Le.free {L La : Sto} (x : Le L La) {p : Addr} (h : La p = none) : L p = none := by
  cases e : L p with
  | none => rfl
  | some o => rw [x p o e] at h; cases h
/-- but one list -/
def LeB (b : Addr) (L L' : Sto) : Prop := ∀ a o, a ≠ b → L a = some o → L' a = some o
theorem Le.b {L L' : Sto} (h : Le L L') (b : Addr) : LeB b L L' := fun a o _ e => h a o e
theorem LeB.trans {b : Addr} {L La Lb : Sto} (x : LeB b L La) (y : LeB b La Lb) : LeB b L Lb := fun a o n h => y a o n (x a o n h)
theorem LeB.put {b : Addr} {L : Sto} {o : SO} : LeB b L (put L b o) := fun a u n e => by rw [put_ne n]; exact e

/-! ### fractions -/
def fr (q : Rat) : PV := .tup [.int q.num, .int q.den]
theorem fr0 {q : Rat} {L : Sto} {R : PK} : oIx (fr q) (.int 0) L R = R (.int q.num) L := ix0
theorem fr1 {q : Rat} {L : Sto} {R : PK} : oIx (fr q) (.int 1) L R = R (.int q.den) L := ix1
def Sz (b : Nat) (q : Rat) : Prop := q.num.natAbs < 2 ^ b ∧ q.den < 2 ^ b
theorem mulOk {i j : Int} (a b : Nat) (ha : i.natAbs < 2 ^ a) (hb : j.natAbs < 2 ^ b) (h : a + b ≤ 134217000) : MulOk i j := by
  constructor
  have key : ∀ (x : Int) (c : Nat), x.natAbs < 2 ^ c → Builtin.Int.intBits x ≤ c := fun x c hc => by
    unfold Builtin.Int.intBits
    split
    · exact Nat.zero_le _
    · rename_i hx
      have hx' : x.natAbs ≠ 0 := fun z => hx (by simpa using z)
      have := (Nat.log2_lt hx').mpr hc
      omega
  have h1 := key i a ha
  have h2 := key j b hb
  have e : bitsLine = 134217728 := by decide
  unfold IntMulOk
  intro z
  rw [Bool.and_eq_true] at z
  have z2 := z.2
  unfold Builtin.Int.intTooBig at z2
  have z3 := of_decide_eq_true z2
  rw [e] at z3
  omega
theorem noPl {i j : Int} (h : j.natAbs < 2 ^ 9000) : NoPl i j := by
  constructor
  refine PyProof.noPylong_of_log2 ?_
  by_cases h0 : j.natAbs = 0
  · rw [h0]; decide +kernel
  · exact (Nat.log2_lt h0).mpr h

/-! ### equality -/
section
variable {L : Sto} {R : PK} {i j : Int} {x y : Str} {a : PV}
theorem oEq_ii : oEq (.int i) (.int j) L R = R (.bl (decide (i = j))) L := by
  refine propext ⟨fun h => ?_, fun h => ⟨_, _, .int i, .int j, rfl, rfl, h⟩⟩
  match h with
  | ⟨_, _, .int _, .int _, _, _, h⟩ => exact h
theorem oNe_ii : oNe (.int i) (.int j) L R = R (.bl (!decide (i = j))) L := by
  refine propext ⟨fun h => ?_, fun h => ⟨_, _, .int i, .int j, rfl, rfl, h⟩⟩
  match h with
  | ⟨_, _, .int _, .int _, _, _, h⟩ => exact h
theorem oEq_bb {i j : Bool} : oEq (.bl i) (.bl j) L R = R (.bl (decide (i = j))) L := by
  have e : PyData.eqv (.bool i) (.bool j) = decide (i = j) := by cases i <;> cases j <;> rfl
  refine propext ⟨fun h => ?_, fun h => ⟨_, _, .bl i, .bl j, rfl, rfl, by rw [e]; exact h⟩⟩
  match h with
  | ⟨_, _, .bl _, .bl _, _, _, h⟩ =>
    rw [e] at h
    exact h
theorem oNe_bb {i j : Bool} : oNe (.bl i) (.bl j) L R = R (.bl (!decide (i = j))) L := by
  have e : PyData.eqv (.bool i) (.bool j) = decide (i = j) := by cases i <;> cases j <;> rfl
  refine propext ⟨fun h => ?_, fun h => ⟨_, _, .bl i, .bl j, rfl, rfl, by rw [e]; exact h⟩⟩
  match h with
  | ⟨_, _, .bl _, .bl _, _, _, h⟩ =>
    rw [e] at h
    exact h
end
/-! ### classes -/
def tyN : PV → String
  | .non => "NoneType" | .bl _ => "bool" | .int _ => "int" | .str _ => "str" | .tup _ => "tuple" | .fz _ => "list" | .ref _ => "" | .ty _ => ""
section
variable {L : Sto} {R : PK} {x : PV} {c : String}
theorem isi_of {b : Bool} (h : isiB (tyName x L) c = some b) : gIsi [x, .ty c] L R = R (.bl b) L := by
  unfold gIsi
  simp only [h]
theorem isi_non_int  : gIsi [.non, .ty "int"] L R = R (.bl false) L := isi_of rfl
theorem isi_non_bool  : gIsi [.non, .ty "bool"] L R = R (.bl false) L := isi_of rfl
theorem isi_non_str  : gIsi [.non, .ty "str"] L R = R (.bl false) L := isi_of rfl
theorem isi_non_tuple  : gIsi [.non, .ty "tuple"] L R = R (.bl false) L := isi_of rfl
theorem isi_non_list  : gIsi [.non, .ty "list"] L R = R (.bl false) L := isi_of rfl
theorem isi_non_dict  : gIsi [.non, .ty "dict"] L R = R (.bl false) L := isi_of rfl
theorem isi_bl_int {u : Bool} : gIsi [(.bl u), .ty "int"] L R = R (.bl true) L := isi_of rfl
theorem isi_bl_bool {u : Bool} : gIsi [(.bl u), .ty "bool"] L R = R (.bl true) L := isi_of rfl
theorem isi_bl_str {u : Bool} : gIsi [(.bl u), .ty "str"] L R = R (.bl false) L := isi_of rfl
theorem isi_bl_tuple {u : Bool} : gIsi [(.bl u), .ty "tuple"] L R = R (.bl false) L := isi_of rfl
theorem isi_bl_list {u : Bool} : gIsi [(.bl u), .ty "list"] L R = R (.bl false) L := isi_of rfl
theorem isi_bl_dict {u : Bool} : gIsi [(.bl u), .ty "dict"] L R = R (.bl false) L := isi_of rfl
theorem isi_int_int {u : Int} : gIsi [(.int u), .ty "int"] L R = R (.bl true) L := isi_of rfl
theorem isi_int_bool {u : Int} : gIsi [(.int u), .ty "bool"] L R = R (.bl false) L := isi_of rfl
theorem isi_int_str {u : Int} : gIsi [(.int u), .ty "str"] L R = R (.bl false) L := isi_of rfl
theorem isi_int_tuple {u : Int} : gIsi [(.int u), .ty "tuple"] L R = R (.bl false) L := isi_of rfl
theorem isi_int_list {u : Int} : gIsi [(.int u), .ty "list"] L R = R (.bl false) L := isi_of rfl
theorem isi_int_dict {u : Int} : gIsi [(.int u), .ty "dict"] L R = R (.bl false) L := isi_of rfl
theorem isi_str_int {u : Str} : gIsi [(.str u), .ty "int"] L R = R (.bl false) L := isi_of rfl
theorem isi_str_bool {u : Str} : gIsi [(.str u), .ty "bool"] L R = R (.bl false) L := isi_of rfl
theorem isi_str_str {u : Str} : gIsi [(.str u), .ty "str"] L R = R (.bl true) L := isi_of rfl
theorem isi_str_tuple {u : Str} : gIsi [(.str u), .ty "tuple"] L R = R (.bl false) L := isi_of rfl
theorem isi_str_list {u : Str} : gIsi [(.str u), .ty "list"] L R = R (.bl false) L := isi_of rfl
theorem isi_str_dict {u : Str} : gIsi [(.str u), .ty "dict"] L R = R (.bl false) L := isi_of rfl
theorem isi_tup_int {u : List PV} : gIsi [(.tup u), .ty "int"] L R = R (.bl false) L := isi_of rfl
theorem isi_tup_bool {u : List PV} : gIsi [(.tup u), .ty "bool"] L R = R (.bl false) L := isi_of rfl
theorem isi_tup_str {u : List PV} : gIsi [(.tup u), .ty "str"] L R = R (.bl false) L := isi_of rfl
theorem isi_tup_tuple {u : List PV} : gIsi [(.tup u), .ty "tuple"] L R = R (.bl true) L := isi_of rfl
theorem isi_tup_list {u : List PV} : gIsi [(.tup u), .ty "list"] L R = R (.bl false) L := isi_of rfl
theorem isi_tup_dict {u : List PV} : gIsi [(.tup u), .ty "dict"] L R = R (.bl false) L := isi_of rfl
theorem isi_fz_int {u : List Int} : gIsi [(.fz u), .ty "int"] L R = R (.bl false) L := isi_of rfl
theorem isi_fz_bool {u : List Int} : gIsi [(.fz u), .ty "bool"] L R = R (.bl false) L := isi_of rfl
theorem isi_fz_str {u : List Int} : gIsi [(.fz u), .ty "str"] L R = R (.bl false) L := isi_of rfl
theorem isi_fz_tuple {u : List Int} : gIsi [(.fz u), .ty "tuple"] L R = R (.bl false) L := isi_of rfl
theorem isi_fz_list {u : List Int} : gIsi [(.fz u), .ty "list"] L R = R (.bl true) L := isi_of rfl
theorem isi_fz_dict {u : List Int} : gIsi [(.fz u), .ty "dict"] L R = R (.bl false) L := isi_of rfl
theorem isi_rl_int {p : Addr} {xs} (h : L p = some (.l xs)) : gIsi [.ref p, .ty "int"] L R = R (.bl false) L := isi_of (by unfold tyName; simp only [h]; rfl)
theorem isi_rl_bool {p : Addr} {xs} (h : L p = some (.l xs)) : gIsi [.ref p, .ty "bool"] L R = R (.bl false) L := isi_of (by unfold tyName; simp only [h]; rfl)
theorem isi_rl_str {p : Addr} {xs} (h : L p = some (.l xs)) : gIsi [.ref p, .ty "str"] L R = R (.bl false) L := isi_of (by unfold tyName; simp only [h]; rfl)
theorem isi_rl_tuple {p : Addr} {xs} (h : L p = some (.l xs)) : gIsi [.ref p, .ty "tuple"] L R = R (.bl false) L := isi_of (by unfold tyName; simp only [h]; rfl)
theorem isi_rl_list {p : Addr} {xs} (h : L p = some (.l xs)) : gIsi [.ref p, .ty "list"] L R = R (.bl true) L := isi_of (by unfold tyName; simp only [h]; rfl)
theorem isi_rl_dict {p : Addr} {xs} (h : L p = some (.l xs)) : gIsi [.ref p, .ty "dict"] L R = R (.bl false) L := isi_of (by unfold tyName; simp only [h]; rfl)
theorem isi_rd_int {p : Addr} {xs} (h : L p = some (.d xs)) : gIsi [.ref p, .ty "int"] L R = R (.bl false) L := isi_of (by unfold tyName; simp only [h]; rfl)
theorem isi_rd_bool {p : Addr} {xs} (h : L p = some (.d xs)) : gIsi [.ref p, .ty "bool"] L R = R (.bl false) L := isi_of (by unfold tyName; simp only [h]; rfl)
theorem isi_rd_str {p : Addr} {xs} (h : L p = some (.d xs)) : gIsi [.ref p, .ty "str"] L R = R (.bl false) L := isi_of (by unfold tyName; simp only [h]; rfl)
theorem isi_rd_tuple {p : Addr} {xs} (h : L p = some (.d xs)) : gIsi [.ref p, .ty "tuple"] L R = R (.bl false) L := isi_of (by unfold tyName; simp only [h]; rfl)
theorem isi_rd_list {p : Addr} {xs} (h : L p = some (.d xs)) : gIsi [.ref p, .ty "list"] L R = R (.bl false) L := isi_of (by unfold tyName; simp only [h]; rfl)
theorem isi_rd_dict {p : Addr} {xs} (h : L p = some (.d xs)) : gIsi [.ref p, .ty "dict"] L R = R (.bl true) L := isi_of (by unfold tyName; simp only [h]; rfl)
end
/-! ### explicit readings -/
section
variable {L : Sto} {R : PK} {i j : Int} {x y a b : PV} {xs ys : List PV} {u v : Bool} {A B : Prop} {env : Env} {N : Nd}
theorem e_add : (oAdd (.int i) (.int j) L R) = (R (.int (i + j)) L) := propext Iff.rfl
theorem e_addI : (oAddI (.int i) (.int j) L R) = (R (.int (i + j)) L) := propext Iff.rfl
theorem e_addt : (oAdd (.tup xs) (.tup ys) L R) = (xs.length + ys.length ≤ sizeLine ∧ R (.tup (xs ++ ys)) L) := propext Iff.rfl
theorem e_addl {p q : Addr} : (oAdd (.ref p) (.ref q) L R) = (∃ xs ys, L p = some (.l xs) ∧ L q = some (.l ys) ∧ xs.length + ys.length ≤ sizeLine ∧ newL L (xs ++ ys) R) := propext Iff.rfl
theorem e_sub : (oSub (.int i) (.int j) L R) = (R (.int (i - j)) L) := propext Iff.rfl
theorem e_mul : (oMul (.int i) (.int j) L R) = (MulOk i j ∧ R (.int (i * j)) L) := propext Iff.rfl
theorem e_div : (oDiv (.int i) (.int j) L R) = (j ≠ 0 ∧ NoPl i j ∧ R (.int (i.fdiv j)) L) := propext Iff.rfl
theorem e_mod : (oMod (.int i) (.int j) L R) = (j ≠ 0 ∧ R (.int (i.fmod j)) L) := propext Iff.rfl
theorem e_pow : (oPow (.int i) (.int j) L R) = (PowOk i j ∧ R (.int (i ^ j.toNat)) L) := propext Iff.rfl
theorem e_oI {g : Int → Int → Bool} : (oI g (.int i) (.int j) L R) = (R (.bl (g i j)) L) := propext Iff.rfl
theorem e_neg : (oNeg (.int i) L R) = (R (.int (-i)) L) := propext Iff.rfl
theorem e_not : (oNot (.bl u) L R) = (R (.bl (!u)) L) := propext Iff.rfl
theorem e_isn : (oIs x .non L R) = (R (.bl (isN x)) L) := propext Iff.rfl
theorem e_isnn : (oIsNot x .non L R) = (R (.bl (!isN x)) L) := propext Iff.rfl
theorem e_isb : (oIs (.bl u) (.bl v) L R) = (R (.bl (decide (u = v))) L) := propext Iff.rfl
theorem e_isnb : (oIsNot (.bl u) (.bl v) L R) = (R (.bl (!decide (u = v))) L) := propext Iff.rfl
theorem e_isN_non : isN .non = true := rfl
theorem e_isN_bl : isN (.bl u) = false := rfl
theorem e_isN_int : isN (.int i) = false := rfl
theorem e_isN_tup : isN (.tup xs) = false := rfl
theorem e_isN_ref {p : Addr} : isN (.ref p) = false := rfl
theorem e_isN_fz {q : List Int} : isN (.fz q) = false := rfl
theorem e_isN_fr {w : Rat} : isN (fr w) = false := rfl
theorem e_isN_str {z : Str} : isN (.str z) = false := rfl
theorem e_lent : (gLen [.tup xs] L R) = (R (.int xs.length) L) := propext Iff.rfl
theorem e_lenz {ns : List Int} : (gLen [.fz ns] L R) = (R (.int ns.length) L) := propext Iff.rfl
theorem e_abs : (gAbs [.int i] L R) = (R (.int (i.natAbs : Int)) L) := propext Iff.rfl
theorem e_int : (gInt [.int i] L R) = (R (.int i) L) := propext Iff.rfl
theorem e_intb : (gInt [.bl u] L R) = (R (.int (if u then 1 else 0)) L) := propext Iff.rfl
theorem e_dvm : (gDivmod [.int i, .int j] L R) = (0 < j ∧ NoPl i j ∧ R (.tup [.int (i / j), .int (i % j)]) L) := propext Iff.rfl
theorem e_min : (gMin [.int i, .int j] L R) = (R (.int (min i j)) L) := propext Iff.rfl
theorem e_max : (gMax [.int i, .int j] L R) = (R (.int (max i j)) L) := propext Iff.rfl
theorem e_listt : (gList [.tup xs] L R) = (newL L xs R) := propext Iff.rfl
theorem e_listz {ns : List Int} : (gList [.fz ns] L R) = (newL L (ns.map PV.int) R) := propext Iff.rfl
theorem e_tupt : (gTuple [.tup xs] L R) = (R (.tup xs) L) := propext Iff.rfl
theorem e_str : (gStr [.int i] L R) = (i.natAbs.log2 < 1920 ∧ R (.str (Str.ofString (toString i))) L) := propext Iff.rfl
theorem e_gv0 : (match gv (some x :: env) 0 with | some x => R x L | none => False) = (R x L) := propext Iff.rfl
theorem gv_0 {z : Option PV} : gv (z :: env) 0 = z := rfl
theorem gv_s {z : Option PV} {n : Nat} : gv (z :: env) (n + 1) = gv env n := rfl
theorem e_lenl {p : Addr} (h : L p = some (.l xs)) : gLen [.ref p] L R = R (.int xs.length) L := by
  show (match L p with | some (.l ys) => R (.int ys.length) L | some (.d ys) => R (.int ys.length) L | none => False) = _
  rw [h]
theorem e_listl {p : Addr} (h : L p = some (.l xs)) : gList [.ref p] L R = newL L xs R := by
  show (match L p with | some (.l ys) => newL L ys R | _ => False) = _
  rw [h]
theorem e_tupl {p : Addr} (h : L p = some (.l xs)) : gTuple [.ref p] L R = R (.tup xs) L := by
  show (match L p with | some (.l ys) => R (.tup ys) L | _ => False) = _
  rw [h]
theorem e_sll {p : Addr} {lo hi : Option Int} (h : L p = some (.l xs)) : oSl (.ref p) lo hi L R = newL L (cutP xs lo hi) R := by
  show (match L p with | some (.l xs) => newL L (cutP xs lo hi) R | _ => False) = _
  rw [h]
theorem e_slt {lo hi : Option Int} : (oSl (.tup xs) lo hi L R) = (R (.tup (cutP xs lo hi)) L) := propext Iff.rfl
theorem e_slz {lo hi : Option Int} {ns : List Int} : (oSl (.fz ns) lo hi L R) = (newL L ((cutP ns lo hi).map PV.int) R) := propext Iff.rfl
theorem e_var {n : Nat} : (wVar n env L R) = (match gv env n with | some x => R x L | none => False) := propext Iff.rfl
theorem e_varT : (wVar 0 (some x :: env) L R) = (R x L) := propext Iff.rfl
theorem e_v0 : wVar 0 (some x :: env) L R = R x L := propext Iff.rfl
theorem e_v1 {z0 : Option PV} : wVar 1 (z0 :: some x :: env) L R = R x L := propext Iff.rfl
theorem e_v2 {z0 : Option PV} {z1 : Option PV} : wVar 2 (z0 :: z1 :: some x :: env) L R = R x L := propext Iff.rfl
theorem e_v3 {z0 : Option PV} {z1 : Option PV} {z2 : Option PV} : wVar 3 (z0 :: z1 :: z2 :: some x :: env) L R = R x L := propext Iff.rfl
theorem e_v4 {z0 : Option PV} {z1 : Option PV} {z2 : Option PV} {z3 : Option PV} : wVar 4 (z0 :: z1 :: z2 :: z3 :: some x :: env) L R = R x L := propext Iff.rfl
theorem e_v5 {z0 : Option PV} {z1 : Option PV} {z2 : Option PV} {z3 : Option PV} {z4 : Option PV} : wVar 5 (z0 :: z1 :: z2 :: z3 :: z4 :: some x :: env) L R = R x L := propext Iff.rfl
theorem e_v6 {z0 : Option PV} {z1 : Option PV} {z2 : Option PV} {z3 : Option PV} {z4 : Option PV} {z5 : Option PV} : wVar 6 (z0 :: z1 :: z2 :: z3 :: z4 :: z5 :: some x :: env) L R = R x L := propext Iff.rfl
theorem e_v7 {z0 : Option PV} {z1 : Option PV} {z2 : Option PV} {z3 : Option PV} {z4 : Option PV} {z5 : Option PV} {z6 : Option PV} : wVar 7 (z0 :: z1 :: z2 :: z3 :: z4 :: z5 :: z6 :: some x :: env) L R = R x L := propext Iff.rfl
theorem e_v8 {z0 : Option PV} {z1 : Option PV} {z2 : Option PV} {z3 : Option PV} {z4 : Option PV} {z5 : Option PV} {z6 : Option PV} {z7 : Option PV} : wVar 8 (z0 :: z1 :: z2 :: z3 :: z4 :: z5 :: z6 :: z7 :: some x :: env) L R = R x L := propext Iff.rfl
theorem e_v9 {z0 : Option PV} {z1 : Option PV} {z2 : Option PV} {z3 : Option PV} {z4 : Option PV} {z5 : Option PV} {z6 : Option PV} {z7 : Option PV} {z8 : Option PV} : wVar 9 (z0 :: z1 :: z2 :: z3 :: z4 :: z5 :: z6 :: z7 :: z8 :: some x :: env) L R = R x L := propext Iff.rfl
theorem e_v10 {z0 : Option PV} {z1 : Option PV} {z2 : Option PV} {z3 : Option PV} {z4 : Option PV} {z5 : Option PV} {z6 : Option PV} {z7 : Option PV} {z8 : Option PV} {z9 : Option PV} : wVar 10 (z0 :: z1 :: z2 :: z3 :: z4 :: z5 :: z6 :: z7 :: z8 :: z9 :: some x :: env) L R = R x L := propext Iff.rfl
theorem e_v11 {z0 : Option PV} {z1 : Option PV} {z2 : Option PV} {z3 : Option PV} {z4 : Option PV} {z5 : Option PV} {z6 : Option PV} {z7 : Option PV} {z8 : Option PV} {z9 : Option PV} {z10 : Option PV} : wVar 11 (z0 :: z1 :: z2 :: z3 :: z4 :: z5 :: z6 :: z7 :: z8 :: z9 :: z10 :: some x :: env) L R = R x L := propext Iff.rfl
theorem e_v12 {z0 : Option PV} {z1 : Option PV} {z2 : Option PV} {z3 : Option PV} {z4 : Option PV} {z5 : Option PV} {z6 : Option PV} {z7 : Option PV} {z8 : Option PV} {z9 : Option PV} {z10 : Option PV} {z11 : Option PV} : wVar 12 (z0 :: z1 :: z2 :: z3 :: z4 :: z5 :: z6 :: z7 :: z8 :: z9 :: z10 :: z11 :: some x :: env) L R = R x L := propext Iff.rfl
theorem e_v13 {z0 : Option PV} {z1 : Option PV} {z2 : Option PV} {z3 : Option PV} {z4 : Option PV} {z5 : Option PV} {z6 : Option PV} {z7 : Option PV} {z8 : Option PV} {z9 : Option PV} {z10 : Option PV} {z11 : Option PV} {z12 : Option PV} : wVar 13 (z0 :: z1 :: z2 :: z3 :: z4 :: z5 :: z6 :: z7 :: z8 :: z9 :: z10 :: z11 :: z12 :: some x :: env) L R = R x L := propext Iff.rfl
theorem e_v14 {z0 : Option PV} {z1 : Option PV} {z2 : Option PV} {z3 : Option PV} {z4 : Option PV} {z5 : Option PV} {z6 : Option PV} {z7 : Option PV} {z8 : Option PV} {z9 : Option PV} {z10 : Option PV} {z11 : Option PV} {z12 : Option PV} {z13 : Option PV} : wVar 14 (z0 :: z1 :: z2 :: z3 :: z4 :: z5 :: z6 :: z7 :: z8 :: z9 :: z10 :: z11 :: z12 :: z13 :: some x :: env) L R = R x L := propext Iff.rfl
theorem e_v15 {z0 : Option PV} {z1 : Option PV} {z2 : Option PV} {z3 : Option PV} {z4 : Option PV} {z5 : Option PV} {z6 : Option PV} {z7 : Option PV} {z8 : Option PV} {z9 : Option PV} {z10 : Option PV} {z11 : Option PV} {z12 : Option PV} {z13 : Option PV} {z14 : Option PV} : wVar 15 (z0 :: z1 :: z2 :: z3 :: z4 :: z5 :: z6 :: z7 :: z8 :: z9 :: z10 :: z11 :: z12 :: z13 :: z14 :: some x :: env) L R = R x L := propext Iff.rfl
theorem e_v16 {z0 : Option PV} {z1 : Option PV} {z2 : Option PV} {z3 : Option PV} {z4 : Option PV} {z5 : Option PV} {z6 : Option PV} {z7 : Option PV} {z8 : Option PV} {z9 : Option PV} {z10 : Option PV} {z11 : Option PV} {z12 : Option PV} {z13 : Option PV} {z14 : Option PV} {z15 : Option PV} : wVar 16 (z0 :: z1 :: z2 :: z3 :: z4 :: z5 :: z6 :: z7 :: z8 :: z9 :: z10 :: z11 :: z12 :: z13 :: z14 :: z15 :: some x :: env) L R = R x L := propext Iff.rfl
theorem e_v17 {z0 : Option PV} {z1 : Option PV} {z2 : Option PV} {z3 : Option PV} {z4 : Option PV} {z5 : Option PV} {z6 : Option PV} {z7 : Option PV} {z8 : Option PV} {z9 : Option PV} {z10 : Option PV} {z11 : Option PV} {z12 : Option PV} {z13 : Option PV} {z14 : Option PV} {z15 : Option PV} {z16 : Option PV} : wVar 17 (z0 :: z1 :: z2 :: z3 :: z4 :: z5 :: z6 :: z7 :: z8 :: z9 :: z10 :: z11 :: z12 :: z13 :: z14 :: z15 :: z16 :: some x :: env) L R = R x L := propext Iff.rfl
theorem e_v18 {z0 : Option PV} {z1 : Option PV} {z2 : Option PV} {z3 : Option PV} {z4 : Option PV} {z5 : Option PV} {z6 : Option PV} {z7 : Option PV} {z8 : Option PV} {z9 : Option PV} {z10 : Option PV} {z11 : Option PV} {z12 : Option PV} {z13 : Option PV} {z14 : Option PV} {z15 : Option PV} {z16 : Option PV} {z17 : Option PV} : wVar 18 (z0 :: z1 :: z2 :: z3 :: z4 :: z5 :: z6 :: z7 :: z8 :: z9 :: z10 :: z11 :: z12 :: z13 :: z14 :: z15 :: z16 :: z17 :: some x :: env) L R = R x L := propext Iff.rfl
theorem e_v19 {z0 : Option PV} {z1 : Option PV} {z2 : Option PV} {z3 : Option PV} {z4 : Option PV} {z5 : Option PV} {z6 : Option PV} {z7 : Option PV} {z8 : Option PV} {z9 : Option PV} {z10 : Option PV} {z11 : Option PV} {z12 : Option PV} {z13 : Option PV} {z14 : Option PV} {z15 : Option PV} {z16 : Option PV} {z17 : Option PV} {z18 : Option PV} : wVar 19 (z0 :: z1 :: z2 :: z3 :: z4 :: z5 :: z6 :: z7 :: z8 :: z9 :: z10 :: z11 :: z12 :: z13 :: z14 :: z15 :: z16 :: z17 :: z18 :: some x :: env) L R = R x L := propext Iff.rfl
theorem e_v20 {z0 : Option PV} {z1 : Option PV} {z2 : Option PV} {z3 : Option PV} {z4 : Option PV} {z5 : Option PV} {z6 : Option PV} {z7 : Option PV} {z8 : Option PV} {z9 : Option PV} {z10 : Option PV} {z11 : Option PV} {z12 : Option PV} {z13 : Option PV} {z14 : Option PV} {z15 : Option PV} {z16 : Option PV} {z17 : Option PV} {z18 : Option PV} {z19 : Option PV} : wVar 20 (z0 :: z1 :: z2 :: z3 :: z4 :: z5 :: z6 :: z7 :: z8 :: z9 :: z10 :: z11 :: z12 :: z13 :: z14 :: z15 :: z16 :: z17 :: z18 :: z19 :: some x :: env) L R = R x L := propext Iff.rfl
theorem e_v21 {z0 : Option PV} {z1 : Option PV} {z2 : Option PV} {z3 : Option PV} {z4 : Option PV} {z5 : Option PV} {z6 : Option PV} {z7 : Option PV} {z8 : Option PV} {z9 : Option PV} {z10 : Option PV} {z11 : Option PV} {z12 : Option PV} {z13 : Option PV} {z14 : Option PV} {z15 : Option PV} {z16 : Option PV} {z17 : Option PV} {z18 : Option PV} {z19 : Option PV} {z20 : Option PV} : wVar 21 (z0 :: z1 :: z2 :: z3 :: z4 :: z5 :: z6 :: z7 :: z8 :: z9 :: z10 :: z11 :: z12 :: z13 :: z14 :: z15 :: z16 :: z17 :: z18 :: z19 :: z20 :: some x :: env) L R = R x L := propext Iff.rfl
theorem e_v22 {z0 : Option PV} {z1 : Option PV} {z2 : Option PV} {z3 : Option PV} {z4 : Option PV} {z5 : Option PV} {z6 : Option PV} {z7 : Option PV} {z8 : Option PV} {z9 : Option PV} {z10 : Option PV} {z11 : Option PV} {z12 : Option PV} {z13 : Option PV} {z14 : Option PV} {z15 : Option PV} {z16 : Option PV} {z17 : Option PV} {z18 : Option PV} {z19 : Option PV} {z20 : Option PV} {z21 : Option PV} : wVar 22 (z0 :: z1 :: z2 :: z3 :: z4 :: z5 :: z6 :: z7 :: z8 :: z9 :: z10 :: z11 :: z12 :: z13 :: z14 :: z15 :: z16 :: z17 :: z18 :: z19 :: z20 :: z21 :: some x :: env) L R = R x L := propext Iff.rfl
theorem e_v23 {z0 : Option PV} {z1 : Option PV} {z2 : Option PV} {z3 : Option PV} {z4 : Option PV} {z5 : Option PV} {z6 : Option PV} {z7 : Option PV} {z8 : Option PV} {z9 : Option PV} {z10 : Option PV} {z11 : Option PV} {z12 : Option PV} {z13 : Option PV} {z14 : Option PV} {z15 : Option PV} {z16 : Option PV} {z17 : Option PV} {z18 : Option PV} {z19 : Option PV} {z20 : Option PV} {z21 : Option PV} {z22 : Option PV} : wVar 23 (z0 :: z1 :: z2 :: z3 :: z4 :: z5 :: z6 :: z7 :: z8 :: z9 :: z10 :: z11 :: z12 :: z13 :: z14 :: z15 :: z16 :: z17 :: z18 :: z19 :: z20 :: z21 :: z22 :: some x :: env) L R = R x L := propext Iff.rfl
theorem e_v24 {z0 : Option PV} {z1 : Option PV} {z2 : Option PV} {z3 : Option PV} {z4 : Option PV} {z5 : Option PV} {z6 : Option PV} {z7 : Option PV} {z8 : Option PV} {z9 : Option PV} {z10 : Option PV} {z11 : Option PV} {z12 : Option PV} {z13 : Option PV} {z14 : Option PV} {z15 : Option PV} {z16 : Option PV} {z17 : Option PV} {z18 : Option PV} {z19 : Option PV} {z20 : Option PV} {z21 : Option PV} {z22 : Option PV} {z23 : Option PV} : wVar 24 (z0 :: z1 :: z2 :: z3 :: z4 :: z5 :: z6 :: z7 :: z8 :: z9 :: z10 :: z11 :: z12 :: z13 :: z14 :: z15 :: z16 :: z17 :: z18 :: z19 :: z20 :: z21 :: z22 :: z23 :: some x :: env) L R = R x L := propext Iff.rfl
theorem e_v25 {z0 : Option PV} {z1 : Option PV} {z2 : Option PV} {z3 : Option PV} {z4 : Option PV} {z5 : Option PV} {z6 : Option PV} {z7 : Option PV} {z8 : Option PV} {z9 : Option PV} {z10 : Option PV} {z11 : Option PV} {z12 : Option PV} {z13 : Option PV} {z14 : Option PV} {z15 : Option PV} {z16 : Option PV} {z17 : Option PV} {z18 : Option PV} {z19 : Option PV} {z20 : Option PV} {z21 : Option PV} {z22 : Option PV} {z23 : Option PV} {z24 : Option PV} : wVar 25 (z0 :: z1 :: z2 :: z3 :: z4 :: z5 :: z6 :: z7 :: z8 :: z9 :: z10 :: z11 :: z12 :: z13 :: z14 :: z15 :: z16 :: z17 :: z18 :: z19 :: z20 :: z21 :: z22 :: z23 :: z24 :: some x :: env) L R = R x L := propext Iff.rfl
theorem e_v26 {z0 : Option PV} {z1 : Option PV} {z2 : Option PV} {z3 : Option PV} {z4 : Option PV} {z5 : Option PV} {z6 : Option PV} {z7 : Option PV} {z8 : Option PV} {z9 : Option PV} {z10 : Option PV} {z11 : Option PV} {z12 : Option PV} {z13 : Option PV} {z14 : Option PV} {z15 : Option PV} {z16 : Option PV} {z17 : Option PV} {z18 : Option PV} {z19 : Option PV} {z20 : Option PV} {z21 : Option PV} {z22 : Option PV} {z23 : Option PV} {z24 : Option PV} {z25 : Option PV} : wVar 26 (z0 :: z1 :: z2 :: z3 :: z4 :: z5 :: z6 :: z7 :: z8 :: z9 :: z10 :: z11 :: z12 :: z13 :: z14 :: z15 :: z16 :: z17 :: z18 :: z19 :: z20 :: z21 :: z22 :: z23 :: z24 :: z25 :: some x :: env) L R = R x L := propext Iff.rfl
theorem e_v27 {z0 : Option PV} {z1 : Option PV} {z2 : Option PV} {z3 : Option PV} {z4 : Option PV} {z5 : Option PV} {z6 : Option PV} {z7 : Option PV} {z8 : Option PV} {z9 : Option PV} {z10 : Option PV} {z11 : Option PV} {z12 : Option PV} {z13 : Option PV} {z14 : Option PV} {z15 : Option PV} {z16 : Option PV} {z17 : Option PV} {z18 : Option PV} {z19 : Option PV} {z20 : Option PV} {z21 : Option PV} {z22 : Option PV} {z23 : Option PV} {z24 : Option PV} {z25 : Option PV} {z26 : Option PV} : wVar 27 (z0 :: z1 :: z2 :: z3 :: z4 :: z5 :: z6 :: z7 :: z8 :: z9 :: z10 :: z11 :: z12 :: z13 :: z14 :: z15 :: z16 :: z17 :: z18 :: z19 :: z20 :: z21 :: z22 :: z23 :: z24 :: z25 :: z26 :: some x :: env) L R = R x L := propext Iff.rfl
theorem e_v28 {z0 : Option PV} {z1 : Option PV} {z2 : Option PV} {z3 : Option PV} {z4 : Option PV} {z5 : Option PV} {z6 : Option PV} {z7 : Option PV} {z8 : Option PV} {z9 : Option PV} {z10 : Option PV} {z11 : Option PV} {z12 : Option PV} {z13 : Option PV} {z14 : Option PV} {z15 : Option PV} {z16 : Option PV} {z17 : Option PV} {z18 : Option PV} {z19 : Option PV} {z20 : Option PV} {z21 : Option PV} {z22 : Option PV} {z23 : Option PV} {z24 : Option PV} {z25 : Option PV} {z26 : Option PV} {z27 : Option PV} : wVar 28 (z0 :: z1 :: z2 :: z3 :: z4 :: z5 :: z6 :: z7 :: z8 :: z9 :: z10 :: z11 :: z12 :: z13 :: z14 :: z15 :: z16 :: z17 :: z18 :: z19 :: z20 :: z21 :: z22 :: z23 :: z24 :: z25 :: z26 :: z27 :: some x :: env) L R = R x L := propext Iff.rfl
theorem e_v29 {z0 : Option PV} {z1 : Option PV} {z2 : Option PV} {z3 : Option PV} {z4 : Option PV} {z5 : Option PV} {z6 : Option PV} {z7 : Option PV} {z8 : Option PV} {z9 : Option PV} {z10 : Option PV} {z11 : Option PV} {z12 : Option PV} {z13 : Option PV} {z14 : Option PV} {z15 : Option PV} {z16 : Option PV} {z17 : Option PV} {z18 : Option PV} {z19 : Option PV} {z20 : Option PV} {z21 : Option PV} {z22 : Option PV} {z23 : Option PV} {z24 : Option PV} {z25 : Option PV} {z26 : Option PV} {z27 : Option PV} {z28 : Option PV} : wVar 29 (z0 :: z1 :: z2 :: z3 :: z4 :: z5 :: z6 :: z7 :: z8 :: z9 :: z10 :: z11 :: z12 :: z13 :: z14 :: z15 :: z16 :: z17 :: z18 :: z19 :: z20 :: z21 :: z22 :: z23 :: z24 :: z25 :: z26 :: z27 :: z28 :: some x :: env) L R = R x L := propext Iff.rfl
theorem e_v30 {z0 : Option PV} {z1 : Option PV} {z2 : Option PV} {z3 : Option PV} {z4 : Option PV} {z5 : Option PV} {z6 : Option PV} {z7 : Option PV} {z8 : Option PV} {z9 : Option PV} {z10 : Option PV} {z11 : Option PV} {z12 : Option PV} {z13 : Option PV} {z14 : Option PV} {z15 : Option PV} {z16 : Option PV} {z17 : Option PV} {z18 : Option PV} {z19 : Option PV} {z20 : Option PV} {z21 : Option PV} {z22 : Option PV} {z23 : Option PV} {z24 : Option PV} {z25 : Option PV} {z26 : Option PV} {z27 : Option PV} {z28 : Option PV} {z29 : Option PV} : wVar 30 (z0 :: z1 :: z2 :: z3 :: z4 :: z5 :: z6 :: z7 :: z8 :: z9 :: z10 :: z11 :: z12 :: z13 :: z14 :: z15 :: z16 :: z17 :: z18 :: z19 :: z20 :: z21 :: z22 :: z23 :: z24 :: z25 :: z26 :: z27 :: z28 :: z29 :: some x :: env) L R = R x L := propext Iff.rfl
theorem e_v31 {z0 : Option PV} {z1 : Option PV} {z2 : Option PV} {z3 : Option PV} {z4 : Option PV} {z5 : Option PV} {z6 : Option PV} {z7 : Option PV} {z8 : Option PV} {z9 : Option PV} {z10 : Option PV} {z11 : Option PV} {z12 : Option PV} {z13 : Option PV} {z14 : Option PV} {z15 : Option PV} {z16 : Option PV} {z17 : Option PV} {z18 : Option PV} {z19 : Option PV} {z20 : Option PV} {z21 : Option PV} {z22 : Option PV} {z23 : Option PV} {z24 : Option PV} {z25 : Option PV} {z26 : Option PV} {z27 : Option PV} {z28 : Option PV} {z29 : Option PV} {z30 : Option PV} : wVar 31 (z0 :: z1 :: z2 :: z3 :: z4 :: z5 :: z6 :: z7 :: z8 :: z9 :: z10 :: z11 :: z12 :: z13 :: z14 :: z15 :: z16 :: z17 :: z18 :: z19 :: z20 :: z21 :: z22 :: z23 :: z24 :: z25 :: z26 :: z27 :: z28 :: z29 :: z30 :: some x :: env) L R = R x L := propext Iff.rfl
theorem e_v32 {z0 : Option PV} {z1 : Option PV} {z2 : Option PV} {z3 : Option PV} {z4 : Option PV} {z5 : Option PV} {z6 : Option PV} {z7 : Option PV} {z8 : Option PV} {z9 : Option PV} {z10 : Option PV} {z11 : Option PV} {z12 : Option PV} {z13 : Option PV} {z14 : Option PV} {z15 : Option PV} {z16 : Option PV} {z17 : Option PV} {z18 : Option PV} {z19 : Option PV} {z20 : Option PV} {z21 : Option PV} {z22 : Option PV} {z23 : Option PV} {z24 : Option PV} {z25 : Option PV} {z26 : Option PV} {z27 : Option PV} {z28 : Option PV} {z29 : Option PV} {z30 : Option PV} {z31 : Option PV} : wVar 32 (z0 :: z1 :: z2 :: z3 :: z4 :: z5 :: z6 :: z7 :: z8 :: z9 :: z10 :: z11 :: z12 :: z13 :: z14 :: z15 :: z16 :: z17 :: z18 :: z19 :: z20 :: z21 :: z22 :: z23 :: z24 :: z25 :: z26 :: z27 :: z28 :: z29 :: z30 :: z31 :: some x :: env) L R = R x L := propext Iff.rfl
theorem e_v33 {z0 : Option PV} {z1 : Option PV} {z2 : Option PV} {z3 : Option PV} {z4 : Option PV} {z5 : Option PV} {z6 : Option PV} {z7 : Option PV} {z8 : Option PV} {z9 : Option PV} {z10 : Option PV} {z11 : Option PV} {z12 : Option PV} {z13 : Option PV} {z14 : Option PV} {z15 : Option PV} {z16 : Option PV} {z17 : Option PV} {z18 : Option PV} {z19 : Option PV} {z20 : Option PV} {z21 : Option PV} {z22 : Option PV} {z23 : Option PV} {z24 : Option PV} {z25 : Option PV} {z26 : Option PV} {z27 : Option PV} {z28 : Option PV} {z29 : Option PV} {z30 : Option PV} {z31 : Option PV} {z32 : Option PV} : wVar 33 (z0 :: z1 :: z2 :: z3 :: z4 :: z5 :: z6 :: z7 :: z8 :: z9 :: z10 :: z11 :: z12 :: z13 :: z14 :: z15 :: z16 :: z17 :: z18 :: z19 :: z20 :: z21 :: z22 :: z23 :: z24 :: z25 :: z26 :: z27 :: z28 :: z29 :: z30 :: z31 :: z32 :: some x :: env) L R = R x L := propext Iff.rfl
theorem e_v34 {z0 : Option PV} {z1 : Option PV} {z2 : Option PV} {z3 : Option PV} {z4 : Option PV} {z5 : Option PV} {z6 : Option PV} {z7 : Option PV} {z8 : Option PV} {z9 : Option PV} {z10 : Option PV} {z11 : Option PV} {z12 : Option PV} {z13 : Option PV} {z14 : Option PV} {z15 : Option PV} {z16 : Option PV} {z17 : Option PV} {z18 : Option PV} {z19 : Option PV} {z20 : Option PV} {z21 : Option PV} {z22 : Option PV} {z23 : Option PV} {z24 : Option PV} {z25 : Option PV} {z26 : Option PV} {z27 : Option PV} {z28 : Option PV} {z29 : Option PV} {z30 : Option PV} {z31 : Option PV} {z32 : Option PV} {z33 : Option PV} : wVar 34 (z0 :: z1 :: z2 :: z3 :: z4 :: z5 :: z6 :: z7 :: z8 :: z9 :: z10 :: z11 :: z12 :: z13 :: z14 :: z15 :: z16 :: z17 :: z18 :: z19 :: z20 :: z21 :: z22 :: z23 :: z24 :: z25 :: z26 :: z27 :: z28 :: z29 :: z30 :: z31 :: z32 :: z33 :: some x :: env) L R = R x L := propext Iff.rfl
theorem e_v35 {z0 : Option PV} {z1 : Option PV} {z2 : Option PV} {z3 : Option PV} {z4 : Option PV} {z5 : Option PV} {z6 : Option PV} {z7 : Option PV} {z8 : Option PV} {z9 : Option PV} {z10 : Option PV} {z11 : Option PV} {z12 : Option PV} {z13 : Option PV} {z14 : Option PV} {z15 : Option PV} {z16 : Option PV} {z17 : Option PV} {z18 : Option PV} {z19 : Option PV} {z20 : Option PV} {z21 : Option PV} {z22 : Option PV} {z23 : Option PV} {z24 : Option PV} {z25 : Option PV} {z26 : Option PV} {z27 : Option PV} {z28 : Option PV} {z29 : Option PV} {z30 : Option PV} {z31 : Option PV} {z32 : Option PV} {z33 : Option PV} {z34 : Option PV} : wVar 35 (z0 :: z1 :: z2 :: z3 :: z4 :: z5 :: z6 :: z7 :: z8 :: z9 :: z10 :: z11 :: z12 :: z13 :: z14 :: z15 :: z16 :: z17 :: z18 :: z19 :: z20 :: z21 :: z22 :: z23 :: z24 :: z25 :: z26 :: z27 :: z28 :: z29 :: z30 :: z31 :: z32 :: z33 :: z34 :: some x :: env) L R = R x L := propext Iff.rfl
theorem e_v36 {z0 : Option PV} {z1 : Option PV} {z2 : Option PV} {z3 : Option PV} {z4 : Option PV} {z5 : Option PV} {z6 : Option PV} {z7 : Option PV} {z8 : Option PV} {z9 : Option PV} {z10 : Option PV} {z11 : Option PV} {z12 : Option PV} {z13 : Option PV} {z14 : Option PV} {z15 : Option PV} {z16 : Option PV} {z17 : Option PV} {z18 : Option PV} {z19 : Option PV} {z20 : Option PV} {z21 : Option PV} {z22 : Option PV} {z23 : Option PV} {z24 : Option PV} {z25 : Option PV} {z26 : Option PV} {z27 : Option PV} {z28 : Option PV} {z29 : Option PV} {z30 : Option PV} {z31 : Option PV} {z32 : Option PV} {z33 : Option PV} {z34 : Option PV} {z35 : Option PV} : wVar 36 (z0 :: z1 :: z2 :: z3 :: z4 :: z5 :: z6 :: z7 :: z8 :: z9 :: z10 :: z11 :: z12 :: z13 :: z14 :: z15 :: z16 :: z17 :: z18 :: z19 :: z20 :: z21 :: z22 :: z23 :: z24 :: z25 :: z26 :: z27 :: z28 :: z29 :: z30 :: z31 :: z32 :: z33 :: z34 :: z35 :: some x :: env) L R = R x L := propext Iff.rfl
theorem e_v37 {z0 : Option PV} {z1 : Option PV} {z2 : Option PV} {z3 : Option PV} {z4 : Option PV} {z5 : Option PV} {z6 : Option PV} {z7 : Option PV} {z8 : Option PV} {z9 : Option PV} {z10 : Option PV} {z11 : Option PV} {z12 : Option PV} {z13 : Option PV} {z14 : Option PV} {z15 : Option PV} {z16 : Option PV} {z17 : Option PV} {z18 : Option PV} {z19 : Option PV} {z20 : Option PV} {z21 : Option PV} {z22 : Option PV} {z23 : Option PV} {z24 : Option PV} {z25 : Option PV} {z26 : Option PV} {z27 : Option PV} {z28 : Option PV} {z29 : Option PV} {z30 : Option PV} {z31 : Option PV} {z32 : Option PV} {z33 : Option PV} {z34 : Option PV} {z35 : Option PV} {z36 : Option PV} : wVar 37 (z0 :: z1 :: z2 :: z3 :: z4 :: z5 :: z6 :: z7 :: z8 :: z9 :: z10 :: z11 :: z12 :: z13 :: z14 :: z15 :: z16 :: z17 :: z18 :: z19 :: z20 :: z21 :: z22 :: z23 :: z24 :: z25 :: z26 :: z27 :: z28 :: z29 :: z30 :: z31 :: z32 :: z33 :: z34 :: z35 :: z36 :: some x :: env) L R = R x L := propext Iff.rfl
theorem e_v38 {z0 : Option PV} {z1 : Option PV} {z2 : Option PV} {z3 : Option PV} {z4 : Option PV} {z5 : Option PV} {z6 : Option PV} {z7 : Option PV} {z8 : Option PV} {z9 : Option PV} {z10 : Option PV} {z11 : Option PV} {z12 : Option PV} {z13 : Option PV} {z14 : Option PV} {z15 : Option PV} {z16 : Option PV} {z17 : Option PV} {z18 : Option PV} {z19 : Option PV} {z20 : Option PV} {z21 : Option PV} {z22 : Option PV} {z23 : Option PV} {z24 : Option PV} {z25 : Option PV} {z26 : Option PV} {z27 : Option PV} {z28 : Option PV} {z29 : Option PV} {z30 : Option PV} {z31 : Option PV} {z32 : Option PV} {z33 : Option PV} {z34 : Option PV} {z35 : Option PV} {z36 : Option PV} {z37 : Option PV} : wVar 38 (z0 :: z1 :: z2 :: z3 :: z4 :: z5 :: z6 :: z7 :: z8 :: z9 :: z10 :: z11 :: z12 :: z13 :: z14 :: z15 :: z16 :: z17 :: z18 :: z19 :: z20 :: z21 :: z22 :: z23 :: z24 :: z25 :: z26 :: z27 :: z28 :: z29 :: z30 :: z31 :: z32 :: z33 :: z34 :: z35 :: z36 :: z37 :: some x :: env) L R = R x L := propext Iff.rfl
theorem e_v39 {z0 : Option PV} {z1 : Option PV} {z2 : Option PV} {z3 : Option PV} {z4 : Option PV} {z5 : Option PV} {z6 : Option PV} {z7 : Option PV} {z8 : Option PV} {z9 : Option PV} {z10 : Option PV} {z11 : Option PV} {z12 : Option PV} {z13 : Option PV} {z14 : Option PV} {z15 : Option PV} {z16 : Option PV} {z17 : Option PV} {z18 : Option PV} {z19 : Option PV} {z20 : Option PV} {z21 : Option PV} {z22 : Option PV} {z23 : Option PV} {z24 : Option PV} {z25 : Option PV} {z26 : Option PV} {z27 : Option PV} {z28 : Option PV} {z29 : Option PV} {z30 : Option PV} {z31 : Option PV} {z32 : Option PV} {z33 : Option PV} {z34 : Option PV} {z35 : Option PV} {z36 : Option PV} {z37 : Option PV} {z38 : Option PV} : wVar 39 (z0 :: z1 :: z2 :: z3 :: z4 :: z5 :: z6 :: z7 :: z8 :: z9 :: z10 :: z11 :: z12 :: z13 :: z14 :: z15 :: z16 :: z17 :: z18 :: z19 :: z20 :: z21 :: z22 :: z23 :: z24 :: z25 :: z26 :: z27 :: z28 :: z29 :: z30 :: z31 :: z32 :: z33 :: z34 :: z35 :: z36 :: z37 :: z38 :: some x :: env) L R = R x L := propext Iff.rfl
theorem e_ar0 {R : List PV → Sto → Prop} : wAr [] env L R = R [] L := propext Iff.rfl
theorem e_ar1 {w : WE} {ws : List WE} {R : List PV → Sto → Prop} : wAr (w :: ws) env L R = w env L fun x La => wAr ws env La fun xs Lb => R (x :: xs) Lb := propext Iff.rfl
theorem e_gN {n : Nat} {R : Env → Sto → Prop} : gN n x env L R = R (env.set n (some x)) L := propext Iff.rfl
theorem e_par {is : List Nat} {ws : List WE} : sPar is ws env L N = wAr ws env L fun xs La => N.nx ((is.zip xs).foldl (fun e p => e.set p.1 (some p.2)) env) La := propext Iff.rfl
theorem e_c : (wC x env L R) = (R x L) := propext Iff.rfl
theorem e_bin {f : Op2} {p q : WE} : (wBin f p q env L R) = (p env L fun x La => q env La fun y Lb => f x y Lb R) := propext Iff.rfl
theorem e_un {p : WE} {h : PV → Sto → PK → Prop} : (wUn h p env L R) = (p env L fun x La => h x La R) := propext Iff.rfl
theorem e_and {p q : WE} : (wAnd p q env L R) = (p env L fun x La => bIf x (q env La R) (R (.bl false) La)) := propext Iff.rfl
theorem e_or {p q : WE} : (wOr p q env L R) = (p env L fun x La => bIf x (R (.bl true) La) (q env La R)) := propext Iff.rfl
theorem e_ife {p q s : WE} : (wIfE p q s env L R) = (p env L fun x La => bIf x (q env La R) (s env La R)) := propext Iff.rfl
theorem e_chain {f : Op2} {p q s : WE} {f2 : Op2} : (wChain f f2 p q s env L R) = (p env L fun x La => q env La fun y Lb => f x y Lb fun z Lc => bIf z (s env Lc fun w Ld => f2 y w Ld R) (R (.bl false) Lc)) := propext Iff.rfl
theorem e_tup {ws : List WE} : (wTup ws env L R) = (wAr ws env L fun xs La => xs.length ≤ sizeLine ∧ R (.tup xs) La) := propext Iff.rfl
theorem e_lst {ws : List WE} : (wLst ws env L R) = (wAr ws env L fun xs La => xs.length ≤ sizeLine ∧ newL La xs R) := propext Iff.rfl
theorem e_bi {ws : List WE} {gf : BiF} : (wBi gf ws env L R) = (wAr ws env L fun xs La => gf xs La R) := propext Iff.rfl
theorem e_call {ws : List WE} {S : Spec} : (wCall S ws env L R) = (wAr ws env L fun xs La => S xs La R) := propext Iff.rfl
theorem e_sl {p : WE} {lo hi : WO} : (wSl p lo hi env L R) = (p env L fun x La => lo env La fun l Lb => hi env Lb fun u Lc => oSl x l u Lc R) := propext Iff.rfl
theorem e_no {R : Option Int → Sto → Prop} : wNo env L R = R none L := propext Iff.rfl
theorem e_so {p : WE} {R : Option Int → Sto → Prop} : wSo p env L R = p env L fun x La => match x with | .int i => R (some i) La | _ => False := propext Iff.rfl
theorem e_nil : (sNil env L N) = (N.nx env L) := propext Iff.rfl
theorem e_seq {s s2 : WS} : (sSeq s s2 env L N) = (s env L { N with nx := fun e l => s2 e l N }) := propext Iff.rfl
theorem e_expr {p : WE} : (sExpr p env L N) = (p env L fun _ La => N.nx env La) := propext Iff.rfl
theorem e_ret {p : WE} : (sRet p env L N) = (p env L N.rt) := propext Iff.rfl
theorem e_retn : (sRetN env L N) = (N.rt .non L) := propext Iff.rfl
theorem e_asg {p : WE} {g : WG} : (sAsg g p env L N) = (p env L fun x La => g x env La N.nx) := propext Iff.rfl
theorem e_if {s s2 : WS} {p : WE} : (sIf p s s2 env L N) = (p env L fun x La => bIf x (s env La N) (s2 env La N)) := propext Iff.rfl
theorem e_brk : (sBrk env L N) = (N.bk env L) := propext Iff.rfl
theorem e_cnt : (sCnt env L N) = (N.ct env L) := propext Iff.rfl
theorem sz_0 : (([] : List PV).length ≤ sizeLine) = True := eq_true (by show 0 ≤ sizeLine; decide)
theorem sz_1 {z0 : PV} : (([z0] : List PV).length ≤ sizeLine) = True := eq_true (by show 1 ≤ sizeLine; decide)
theorem sz_2 {z0 z1 : PV} : (([z0, z1] : List PV).length ≤ sizeLine) = True := eq_true (by show 2 ≤ sizeLine; decide)
theorem sz_3 {z0 z1 z2 : PV} : (([z0, z1, z2] : List PV).length ≤ sizeLine) = True := eq_true (by show 3 ≤ sizeLine; decide)
theorem sz_4 {z0 z1 z2 z3 : PV} : (([z0, z1, z2, z3] : List PV).length ≤ sizeLine) = True := eq_true (by show 4 ≤ sizeLine; decide)
theorem sz_5 {z0 z1 z2 z3 z4 : PV} : (([z0, z1, z2, z3, z4] : List PV).length ≤ sizeLine) = True := eq_true (by show 5 ≤ sizeLine; decide)
theorem sz_6 {z0 z1 z2 z3 z4 z5 : PV} : (([z0, z1, z2, z3, z4, z5] : List PV).length ≤ sizeLine) = True := eq_true (by show 6 ≤ sizeLine; decide)
theorem sz_7 {z0 z1 z2 z3 z4 z5 z6 : PV} : (([z0, z1, z2, z3, z4, z5, z6] : List PV).length ≤ sizeLine) = True := eq_true (by show 7 ≤ sizeLine; decide)
theorem sz_8 {z0 z1 z2 z3 z4 z5 z6 z7 : PV} : (([z0, z1, z2, z3, z4, z5, z6, z7] : List PV).length ≤ sizeLine) = True := eq_true (by show 8 ≤ sizeLine; decide)
theorem sz_9 {z0 z1 z2 z3 z4 z5 z6 z7 z8 : PV} : (([z0, z1, z2, z3, z4, z5, z6, z7, z8] : List PV).length ≤ sizeLine) = True := eq_true (by show 9 ≤ sizeLine; decide)
theorem sz_10 {z0 z1 z2 z3 z4 z5 z6 z7 z8 z9 : PV} : (([z0, z1, z2, z3, z4, z5, z6, z7, z8, z9] : List PV).length ≤ sizeLine) = True := eq_true (by show 10 ≤ sizeLine; decide)
theorem sz_11 {z0 z1 z2 z3 z4 z5 z6 z7 z8 z9 z10 : PV} : (([z0, z1, z2, z3, z4, z5, z6, z7, z8, z9, z10] : List PV).length ≤ sizeLine) = True := eq_true (by show 11 ≤ sizeLine; decide)
theorem sz_12 {z0 z1 z2 z3 z4 z5 z6 z7 z8 z9 z10 z11 : PV} : (([z0, z1, z2, z3, z4, z5, z6, z7, z8, z9, z10, z11] : List PV).length ≤ sizeLine) = True := eq_true (by show 12 ≤ sizeLine; decide)
theorem sz_13 {z0 z1 z2 z3 z4 z5 z6 z7 z8 z9 z10 z11 z12 : PV} : (([z0, z1, z2, z3, z4, z5, z6, z7, z8, z9, z10, z11, z12] : List PV).length ≤ sizeLine) = True := eq_true (by show 13 ≤ sizeLine; decide)
theorem sz_14 {z0 z1 z2 z3 z4 z5 z6 z7 z8 z9 z10 z11 z12 z13 : PV} : (([z0, z1, z2, z3, z4, z5, z6, z7, z8, z9, z10, z11, z12, z13] : List PV).length ≤ sizeLine) = True := eq_true (by show 14 ≤ sizeLine; decide)
theorem sz_15 {z0 z1 z2 z3 z4 z5 z6 z7 z8 z9 z10 z11 z12 z13 z14 : PV} : (([z0, z1, z2, z3, z4, z5, z6, z7, z8, z9, z10, z11, z12, z13, z14] : List PV).length ≤ sizeLine) = True := eq_true (by show 15 ≤ sizeLine; decide)
theorem sz_16 {z0 z1 z2 z3 z4 z5 z6 z7 z8 z9 z10 z11 z12 z13 z14 z15 : PV} : (([z0, z1, z2, z3, z4, z5, z6, z7, z8, z9, z10, z11, z12, z13, z14, z15] : List PV).length ≤ sizeLine) = True := eq_true (by show 16 ≤ sizeLine; decide)
theorem sz_17 {z0 z1 z2 z3 z4 z5 z6 z7 z8 z9 z10 z11 z12 z13 z14 z15 z16 : PV} : (([z0, z1, z2, z3, z4, z5, z6, z7, z8, z9, z10, z11, z12, z13, z14, z15, z16] : List PV).length ≤ sizeLine) = True := eq_true (by show 17 ≤ sizeLine; decide)
theorem sz_18 {z0 z1 z2 z3 z4 z5 z6 z7 z8 z9 z10 z11 z12 z13 z14 z15 z16 z17 : PV} : (([z0, z1, z2, z3, z4, z5, z6, z7, z8, z9, z10, z11, z12, z13, z14, z15, z16, z17] : List PV).length ≤ sizeLine) = True := eq_true (by show 18 ≤ sizeLine; decide)
theorem sz_19 {z0 z1 z2 z3 z4 z5 z6 z7 z8 z9 z10 z11 z12 z13 z14 z15 z16 z17 z18 : PV} : (([z0, z1, z2, z3, z4, z5, z6, z7, z8, z9, z10, z11, z12, z13, z14, z15, z16, z17, z18] : List PV).length ≤ sizeLine) = True := eq_true (by show 19 ≤ sizeLine; decide)
end
/-! ### end of readings -/
end Mp
namespace Mp
open PySem PySem.Spec PyProof.Rows L2
local macro_rules | `(tactic| walk_at "ev") => `(tactic| try simp only [fr0, fr1, ix0, ix1, ix2, ix3, bIf_t, bIf_f, bIf_d, bIf_n, oEq_ii, oNe_ii, oEq_bb, oNe_bb, List.set_cons_zero, List.set_cons_succ, List.zip_cons_cons, List.zip_nil_right, List.foldl_cons, List.foldl_nil, e_add, e_addI, e_addt, e_addl, e_sub, e_mul, e_div, e_mod, e_pow, e_oI, e_neg, e_not, e_isn, e_isnn, e_isb, e_isnb, e_isN_non, e_isN_bl, e_isN_int, e_isN_tup, e_isN_ref, e_isN_fz, e_isN_fr, e_isN_str, e_lent, e_lenz, e_abs, e_int, e_intb, e_dvm, e_min, e_max, e_listt, e_listz, e_tupt, e_str, gv_0, gv_s, e_slt, e_slz, e_v0, e_v1, e_v2, e_v3, e_v4, e_v5, e_v6, e_v7, e_v8, e_v9, e_v10, e_v11, e_v12, e_v13, e_v14, e_v15, e_v16, e_v17, e_v18, e_v19, e_v20, e_v21, e_v22, e_v23, e_v24, e_v25, e_v26, e_v27, e_v28, e_v29, e_v30, e_v31, e_v32, e_v33, e_v34, e_v35, e_v36, e_v37, e_v38, e_v39, e_ar0, e_ar1, e_gN, e_par, e_c, e_bin, e_un, e_and, e_or, e_ife, e_chain, e_tup, e_lst, e_bi, e_call, e_sl, e_no, e_so, e_nil, e_seq, e_expr, e_ret, e_retn, e_asg, e_if, e_brk, e_cnt, sz_0, sz_1, sz_2, sz_3, sz_4, sz_5, sz_6, sz_7, sz_8, sz_9, sz_10, sz_11, sz_12, sz_13, sz_14, sz_15, sz_16, sz_17, sz_18, sz_19, true_and, isi_non_int, isi_non_bool, isi_non_str, isi_non_tuple, isi_non_list, isi_non_dict, isi_bl_int, isi_bl_bool, isi_bl_str, isi_bl_tuple, isi_bl_list, isi_bl_dict, isi_int_int, isi_int_bool, isi_int_str, isi_int_tuple, isi_int_list, isi_int_dict, isi_str_int, isi_str_bool, isi_str_str, isi_str_tuple, isi_str_list, isi_str_dict, isi_tup_int, isi_tup_bool, isi_tup_str, isi_tup_tuple, isi_tup_list, isi_tup_dict, isi_fz_int, isi_fz_bool, isi_fz_str, isi_fz_tuple, isi_fz_list, isi_fz_dict])

def s_divisor_of : Spec := fun args L R => ∃ a b : Nat, args = [.int a, .int b] ∧ R (.int (Nat.gcd a b)) L
/-! divisor_of(one, other): 0 one, 1 other -/
def d_divisor_of_1 : WS := sRet (wVar 0)
def d_divisor_of_0w_0 : WS := sPar [0, 1] [wVar 1, wBin oMod (wVar 0) (wVar 1)]
def d_divisor_of_0 : WS := sSeq (sWhile (wBin oGt (wVar 1) (wC (.int 0))) d_divisor_of_0w_0) d_divisor_of_1
theorem ok_divisor_of : ∀ args L R, args.length = 2 → s_divisor_of args L R → d_divisor_of_0 (initE 2 args) L { nx := fun _ L' => R .non L', rt := R } := by
  rintro _ L R _ ⟨a, b, rfl, h⟩
  unfold d_divisor_of_0
  show sWhile _ _ [some (.int a), some (.int b)] L _
  refine ⟨fun m env L' => L' = L ∧ ∃ x y : Nat, env = [some (.int x), some (.int y)] ∧ Nat.gcd x y = Nat.gcd a b ∧ m = y, ⟨b, rfl, a, b, rfl, rfl, rfl⟩, ?_⟩
  rintro m env _ ⟨rfl, x, y, rfl, hg, rfl⟩
  walk_at "ev"
  split
  · rename_i hy
    unfold d_divisor_of_0w_0
    walk_at "ev"
    have hy' : 0 < m := by omega
    refine ⟨by omega, x % m, Nat.mod_lt _ hy', m, x % m, ?_, ?_, rfl⟩
    · rw [Int.fmod_eq_emod_of_nonneg _ (by omega)]; rfl
    · rw [← hg, Nat.gcd_comm m, ← Nat.gcd_rec, Nat.gcd_comm]
  · rename_i hy
    have hm : m = 0 := by omega
    subst hm
    unfold d_divisor_of_1
    walk_at "ev"
    rw [Nat.gcd_zero_right] at hg
    rw [hg]
    exact h

/-! fractions reckoned -/
theorem fdiv_num {n d : Int} (hd : d ≠ 0) : (.tup [.int (n.fdiv (if d < 0 then -((Nat.gcd n.natAbs d.natAbs : Nat) : Int) else ((Nat.gcd n.natAbs d.natAbs : Nat) : Int))), .int (d.fdiv (if d < 0 then -((Nat.gcd n.natAbs d.natAbs : Nat) : Int) else ((Nat.gcd n.natAbs d.natAbs : Nat) : Int)))] : PV) = fr ((n : Rat) / (d : Rat)) := by
  rw [← Rat.divInt_eq_div]
  unfold fr
  rw [Rat.num_divInt, Rat.den_divInt, if_neg hd]
  have hg : (Int.gcd d n) = Nat.gcd n.natAbs d.natAbs := by rw [Int.gcd, Nat.gcd_comm]
  rw [hg]
  generalize hgg : Nat.gcd n.natAbs d.natAbs = g
  have g0 : 0 < g := by
    rw [← hgg]
    exact Nat.gcd_pos_of_pos_right _ (by omega)
  have dg : g ∣ d.natAbs := by rw [← hgg]; exact Nat.gcd_dvd_right _ _
  by_cases h : d < 0
  · rw [if_pos h, Int.sign_eq_neg_one_of_neg h]
    have e1 : n.fdiv (-(g : Int)) = -1 * n / (g : Int) := by
      have : n.fdiv (-(g : Int)) = (-n).fdiv (g : Int) := by
        have := Int.neg_fdiv_neg (-n) (g : Int)
        rw [Int.neg_neg] at this
        exact this
      rw [this, Int.fdiv_eq_ediv_of_nonneg _ (by omega), Int.neg_one_mul]
    have e2 : d.fdiv (-(g : Int)) = ((d.natAbs / g : Nat) : Int) := by
      have : d.fdiv (-(g : Int)) = (-d).fdiv (g : Int) := by
        have := Int.neg_fdiv_neg (-d) (g : Int)
        rw [Int.neg_neg] at this
        exact this
      rw [this, Int.fdiv_eq_ediv_of_nonneg _ (by omega), Int.natCast_ediv]
      congr 1
      omega
    rw [e1, e2]
  · rw [if_neg h, Int.sign_eq_one_of_pos (by omega), Int.one_mul, Int.fdiv_eq_ediv_of_nonneg _ (by omega), Int.fdiv_eq_ediv_of_nonneg _ (by omega), Int.natCast_ediv]
    congr 3
    congr 2
    omega
def DenOk (d : Int) : Prop := d.natAbs < 2 ^ 9000
theorem DenOk.of {d : Int} {a : Nat} (h : d.natAbs < 2 ^ a) (ha : a ≤ 9000) : DenOk d := Nat.lt_of_lt_of_le h (Nat.pow_le_pow_right (by decide) ha)
theorem DenOk.gcd {n d : Int} (h : DenOk d) (hd : d ≠ 0) : ((Nat.gcd n.natAbs d.natAbs : Nat) : Int).natAbs < 2 ^ 9000 := by exact Nat.lt_of_le_of_lt (Nat.le_of_dvd (by omega) (Nat.gcd_dvd_right _ _)) h
theorem DenOk.gcdN {n d : Int} (h : DenOk d) (hd : d ≠ 0) : (-((Nat.gcd n.natAbs d.natAbs : Nat) : Int)).natAbs < 2 ^ 9000 := by rw [Int.natAbs_neg]; exact h.gcd hd
def s_fraction : Spec := fun args L R => ∃ n d : Int, args = [.int n, .int d] ∧ d ≠ 0 ∧ DenOk d ∧ R (fr ((n : Rat) / (d : Rat))) L
/-! fraction(n, d): 0 n, 1 d, 2 divisor -/
def d_fraction_2 : WS := sRet (wTup [wBin oDiv (wVar 0) (wVar 2), wBin oDiv (wVar 1) (wVar 2)])
def d_fraction_1a_0 : WS := sAsg (gN 2) (wUn oNeg (wVar 2))
def d_fraction_1 : WS := sSeq (sIf (wBin oLt (wVar 1) (wC (.int 0))) d_fraction_1a_0 sNil) d_fraction_2
def d_fraction_0 : WS := sSeq (sAsg (gN 2) (wCall s_divisor_of [wBi gAbs [wVar 0], wBi gAbs [wVar 1]])) d_fraction_1
theorem size2 {xs : List PV} (h : xs.length ≤ 1000) : xs.length ≤ sizeLine := Nat.le_trans h (by decide)
theorem ok_fraction : ∀ args L R, args.length = 2 → s_fraction args L R → d_fraction_0 (initE 3 args) L { nx := fun _ L' => R .non L', rt := R } := by
  rintro _ L R _ ⟨n, d, rfl, hd, hz, h⟩
  unfold d_fraction_0
  show sSeq _ _ [some (.int n), some (.int d), none] L _
  walk_at "ev"
  refine ⟨_, _, rfl, ?_⟩
  rw [← fdiv_num hd] at h
  have g0 : 0 < Nat.gcd n.natAbs d.natAbs := Nat.gcd_pos_of_pos_right _ (by omega)
  unfold d_fraction_1 d_fraction_1a_0
  walk_at "ev"
  split
  · rename_i hn
    rw [if_pos hn] at h
    unfold d_fraction_2
    walk_at "ev"
    exact ⟨by omega, noPl (hz.gcdN hd), by omega, noPl (hz.gcdN hd), h⟩
  · rename_i hn
    rw [if_neg hn] at h
    unfold d_fraction_2
    walk_at "ev"
    exact ⟨by omega, noPl (hz.gcd hd), by omega, noPl (hz.gcd hd), h⟩

/-! two fractions -/
theorem den_pos (q : Rat) : (0 : Int) < q.den := by have := q.den_nz; omega
theorem den_ne (q : Rat) : ((q.den : Int) : Rat) ≠ 0 := by
  intro h
  have := Rat.intCast_inj.mp (show ((q.den : Int) : Rat) = ((0 : Int) : Rat) from h)
  have := q.den_nz
  omega
theorem num_den (q : Rat) : q = (q.num : Rat) / ((q.den : Int) : Rat) := by rw [← Rat.divInt_eq_div]; exact (Rat.num_divInt_den q).symm
theorem num_eq (q : Rat) : (q.num : Rat) = q * ((q.den : Int) : Rat) := by
  have h := num_den q
  have hd := den_ne q
  grind
theorem add_eq (p q : Rat) : ((p.num * q.den + q.num * p.den : Int) : Rat) / ((p.den * q.den : Int) : Rat) = p + q := by
  have h1 := num_eq p
  have h2 := num_eq q
  have d1 := den_ne p
  have d2 := den_ne q
  rw [Rat.intCast_add, Rat.intCast_mul, Rat.intCast_mul, Rat.intCast_mul, h1, h2]
  grind
theorem sub_eq (p q : Rat) : ((p.num * q.den - q.num * p.den : Int) : Rat) / ((p.den * q.den : Int) : Rat) = p - q := by
  have h1 := num_eq p
  have h2 := num_eq q
  have d1 := den_ne p
  have d2 := den_ne q
  rw [Rat.intCast_sub, Rat.intCast_mul, Rat.intCast_mul, Rat.intCast_mul, h1, h2]
  grind
theorem mul_eq (p q : Rat) : ((p.num * q.num : Int) : Rat) / ((p.den * q.den : Int) : Rat) = p * q := by
  have h1 := num_eq p
  have h2 := num_eq q
  have d1 := den_ne p
  have d2 := den_ne q
  rw [Rat.intCast_mul, Rat.intCast_mul, h1, h2]
  grind
theorem div_eq (p q : Rat) (hq : q ≠ 0) : ((p.num * q.den : Int) : Rat) / ((p.den * q.num : Int) : Rat) = p / q := by
  have h1 := num_eq p
  have h2 := num_eq q
  have d1 := den_ne p
  have d2 := den_ne q
  rw [Rat.intCast_mul, Rat.intCast_mul, h1, h2]
  grind

/-! sizes -/
theorem Sz.mono {a b : Nat} {q : Rat} (h : Sz a q) (hb : a ≤ b) : Sz b q := ⟨Nat.lt_of_lt_of_le h.1 (Nat.pow_le_pow_right (by decide) hb), Nat.lt_of_lt_of_le h.2 (Nat.pow_le_pow_right (by decide) hb)⟩
theorem Sz.of {n d : Int} {b : Nat} (hd : d ≠ 0) (h1 : n.natAbs < 2 ^ b) (h2 : d.natAbs < 2 ^ b) : Sz b ((n : Rat) / (d : Rat)) := by
  rw [← Rat.divInt_eq_div]
  unfold Sz
  rw [Rat.num_divInt, Rat.den_divInt, if_neg hd]
  refine ⟨Nat.lt_of_le_of_lt ?_ h1, Nat.lt_of_le_of_lt (Nat.div_le_self _ _) h2⟩
  have e : (d.sign * n / ((Int.gcd d n : Nat) : Int)).natAbs = (d.sign * n).natAbs / Int.gcd d n := by
    rw [Int.natAbs_ediv_of_dvd]
    · rfl
    · exact Int.dvd_trans (Int.gcd_dvd_right _ _) (Int.dvd_mul_left _ _)
  rw [e]
  refine Nat.le_trans (Nat.div_le_self _ _) ?_
  rw [Int.natAbs_mul, Int.natAbs_sign_of_ne_zero hd, Nat.one_mul]
  exact Nat.le_refl _
theorem abs_mul_lt {i j : Int} {a b : Nat} (h1 : i.natAbs < 2 ^ a) (h2 : j.natAbs < 2 ^ b) : (i * j).natAbs < 2 ^ (a + b) := by
  rw [Int.natAbs_mul, Nat.pow_add]
  exact Nat.mul_lt_mul'' h1 h2
theorem abs_add_lt {i j : Int} {a : Nat} (h1 : i.natAbs < 2 ^ a) (h2 : j.natAbs < 2 ^ a) : (i + j).natAbs < 2 ^ (a + 1) := by
  rw [Nat.pow_succ]
  omega
theorem abs_sub_lt {i j : Int} {a : Nat} (h1 : i.natAbs < 2 ^ a) (h2 : j.natAbs < 2 ^ a) : (i - j).natAbs < 2 ^ (a + 1) := by
  rw [Nat.pow_succ]
  omega
theorem abs_mono {i : Int} {a b : Nat} (h : i.natAbs < 2 ^ a) (hb : a ≤ b) : i.natAbs < 2 ^ b := Nat.lt_of_lt_of_le h (Nat.pow_le_pow_right (by decide) hb)
theorem den_abs (q : Rat) : ((q.den : Int)).natAbs = q.den := Int.natAbs_natCast _
theorem mul_den_ne (p q : Rat) : (p.den : Int) * (q.den : Int) ≠ 0 := Int.mul_ne_zero (Int.ne_of_gt (den_pos p)) (Int.ne_of_gt (den_pos q))
theorem Sz.add {p q : Rat} {a b : Nat} (h1 : Sz a p) (h2 : Sz b q) : Sz (a + b + 1) (p + q) := by
  rw [← add_eq]
  refine Sz.of (mul_den_ne p q) (abs_add_lt (abs_mul_lt h1.1 (by rw [den_abs]; exact h2.2)) ?_) (abs_mono (abs_mul_lt (by rw [den_abs]; exact h1.2) (by rw [den_abs]; exact h2.2)) (by omega))
  rw [Nat.add_comm a b]
  exact abs_mul_lt h2.1 (by rw [den_abs]; exact h1.2)
theorem Sz.sub {p q : Rat} {a b : Nat} (h1 : Sz a p) (h2 : Sz b q) : Sz (a + b + 1) (p - q) := by
  rw [← sub_eq]
  refine Sz.of (mul_den_ne p q) (abs_sub_lt (abs_mul_lt h1.1 (by rw [den_abs]; exact h2.2)) ?_) (abs_mono (abs_mul_lt (by rw [den_abs]; exact h1.2) (by rw [den_abs]; exact h2.2)) (by omega))
  rw [Nat.add_comm a b]
  exact abs_mul_lt h2.1 (by rw [den_abs]; exact h1.2)
theorem Sz.mul {p q : Rat} {a b : Nat} (h1 : Sz a p) (h2 : Sz b q) : Sz (a + b) (p * q) := by
  rw [← mul_eq]
  exact Sz.of (mul_den_ne p q) (abs_mul_lt h1.1 h2.1) (abs_mul_lt (by rw [den_abs]; exact h1.2) (by rw [den_abs]; exact h2.2))
theorem num_ne {q : Rat} (h : q ≠ 0) : q.num ≠ 0 := fun e => h (Rat.num_eq_zero.mp e)
theorem Sz.div {p q : Rat} {a b : Nat} (h1 : Sz a p) (h2 : Sz b q) (hq : q ≠ 0) : Sz (a + b) (p / q) := by
  rw [← div_eq p q hq]
  exact Sz.of (Int.mul_ne_zero (Int.ne_of_gt (den_pos p)) (num_ne hq)) (abs_mul_lt h1.1 (by rw [den_abs]; exact h2.2)) (abs_mul_lt (by rw [den_abs]; exact h1.2) h2.1)
theorem Sz.neg {p : Rat} {a : Nat} (h : Sz a p) : Sz a (-p) := ⟨by rw [Rat.neg_num, Int.natAbs_neg]; exact h.1, by rw [Rat.neg_den]; exact h.2⟩
theorem Sz.int {n : Int} {a : Nat} (h : n.natAbs < 2 ^ a) (ha : 0 < a) : Sz a (n : Rat) := ⟨h, by
  show 1 < 2 ^ a
  exact Nat.one_lt_two_pow (by omega)⟩

section
variable {p q : Rat} {a b : Nat}
theorem Sz.nn (hp : Sz a p) (hq : Sz b q) (h : a + b ≤ 134217000) : MulOk p.num q.num := mulOk a b hp.1 hq.1 h
theorem Sz.nd (hp : Sz a p) (hq : Sz b q) (h : a + b ≤ 134217000) : MulOk p.num q.den := mulOk a b hp.1 (by rw [den_abs]; exact hq.2) h
theorem Sz.dn (hp : Sz a p) (hq : Sz b q) (h : a + b ≤ 134217000) : MulOk p.den q.num := mulOk a b (by rw [den_abs]; exact hp.2) hq.1 h
theorem Sz.dd (hp : Sz a p) (hq : Sz b q) (h : a + b ≤ 134217000) : MulOk p.den q.den := mulOk a b (by rw [den_abs]; exact hp.2) (by rw [den_abs]; exact hq.2) h
theorem Sz.okd (hp : Sz a p) (hq : Sz b q) (h : a + b ≤ 9000) : DenOk ((p.den : Int) * q.den) := DenOk.of (abs_mul_lt (by rw [den_abs]; exact hp.2) (by rw [den_abs]; exact hq.2)) h
theorem Sz.okn (hp : Sz a p) (hq : Sz b q) (h : a + b ≤ 9000) : DenOk ((p.den : Int) * q.num) := DenOk.of (abs_mul_lt (by rw [den_abs]; exact hp.2) hq.1) h
end

/-! the specs -/
abbrev SzB (q : Rat) : Prop := Sz 4000 q
def s_added : Spec := fun args L R => ∃ p q : Rat, args = [fr p, fr q] ∧ SzB p ∧ SzB q ∧ R (fr (p + q)) L
def s_taken : Spec := fun args L R => ∃ p q : Rat, args = [fr p, fr q] ∧ SzB p ∧ SzB q ∧ R (fr (p - q)) L
def s_times : Spec := fun args L R => ∃ p q : Rat, args = [fr p, fr q] ∧ SzB p ∧ SzB q ∧ R (fr (p * q)) L
def s_over : Spec := fun args L R => ∃ p q : Rat, args = [fr p, fr q] ∧ q ≠ 0 ∧ SzB p ∧ SzB q ∧ R (fr (p / q)) L
def cmpI (p q : Rat) : Int := if q < p then 1 else if p < q then -1 else 0
def s_compared : Spec := fun args L R => ∃ p q : Rat, args = [fr p, fr q] ∧ SzB p ∧ SzB q ∧ R (.int (cmpI p q)) L
/-! added(one, other): 0 one, 1 other -/
def d_added_0 : WS := sRet (wCall s_fraction [wBin oAdd (wBin oMul (wBin oIx (wVar 0) (wC (.int 0))) (wBin oIx (wVar 1) (wC (.int 1)))) (wBin oMul (wBin oIx (wVar 1) (wC (.int 0))) (wBin oIx (wVar 0) (wC (.int 1)))), wBin oMul (wBin oIx (wVar 0) (wC (.int 1))) (wBin oIx (wVar 1) (wC (.int 1)))])
/-! taken(one, other): 0 one, 1 other -/
def d_taken_0 : WS := sRet (wCall s_fraction [wBin oSub (wBin oMul (wBin oIx (wVar 0) (wC (.int 0))) (wBin oIx (wVar 1) (wC (.int 1)))) (wBin oMul (wBin oIx (wVar 1) (wC (.int 0))) (wBin oIx (wVar 0) (wC (.int 1)))), wBin oMul (wBin oIx (wVar 0) (wC (.int 1))) (wBin oIx (wVar 1) (wC (.int 1)))])
/-! times(one, other): 0 one, 1 other -/
def d_times_0 : WS := sRet (wCall s_fraction [wBin oMul (wBin oIx (wVar 0) (wC (.int 0))) (wBin oIx (wVar 1) (wC (.int 0))), wBin oMul (wBin oIx (wVar 0) (wC (.int 1))) (wBin oIx (wVar 1) (wC (.int 1)))])
/-! over(one, other): 0 one, 1 other -/
def d_over_0 : WS := sRet (wCall s_fraction [wBin oMul (wBin oIx (wVar 0) (wC (.int 0))) (wBin oIx (wVar 1) (wC (.int 1))), wBin oMul (wBin oIx (wVar 0) (wC (.int 1))) (wBin oIx (wVar 1) (wC (.int 0)))])
/-! compared(one, other): 0 one, 1 other, 2 left, 3 right -/
def d_compared_1 : WS := sRet (wBin oSub (wBi gInt [wBin oGt (wVar 2) (wVar 3)]) (wBi gInt [wBin oLt (wVar 2) (wVar 3)]))
def d_compared_0 : WS := sSeq (sPar [2, 3] [wBin oMul (wBin oIx (wVar 0) (wC (.int 0))) (wBin oIx (wVar 1) (wC (.int 1))), wBin oMul (wBin oIx (wVar 1) (wC (.int 0))) (wBin oIx (wVar 0) (wC (.int 1)))]) d_compared_1
theorem ok_added : ∀ args L R, args.length = 2 → s_added args L R → d_added_0 (initE 2 args) L { nx := fun _ L' => R .non L', rt := R } := by
  rintro _ L R _ ⟨p, q, rfl, hp, hq, h⟩
  unfold d_added_0
  show sRet _ [some (fr p), some (fr q)] L _
  walk_at "ev"
  refine ⟨hp.nd hq (by decide), hq.nd hp (by decide), hp.dd hq (by decide), _, _, rfl, mul_den_ne p q, ?_, ?_⟩
  · exact hp.okd hq (by decide)
  · rw [← add_eq] at h
    exact h
theorem ok_taken : ∀ args L R, args.length = 2 → s_taken args L R → d_taken_0 (initE 2 args) L { nx := fun _ L' => R .non L', rt := R } := by
  rintro _ L R _ ⟨p, q, rfl, hp, hq, h⟩
  unfold d_taken_0
  show sRet _ [some (fr p), some (fr q)] L _
  walk_at "ev"
  refine ⟨hp.nd hq (by decide), hq.nd hp (by decide), hp.dd hq (by decide), _, _, rfl, mul_den_ne p q, ?_, ?_⟩
  · exact hp.okd hq (by decide)
  · rw [← sub_eq] at h
    exact h
theorem ok_times : ∀ args L R, args.length = 2 → s_times args L R → d_times_0 (initE 2 args) L { nx := fun _ L' => R .non L', rt := R } := by
  rintro _ L R _ ⟨p, q, rfl, hp, hq, h⟩
  unfold d_times_0
  show sRet _ [some (fr p), some (fr q)] L _
  walk_at "ev"
  refine ⟨hp.nn hq (by decide), hp.dd hq (by decide), _, _, rfl, mul_den_ne p q, ?_, ?_⟩
  · exact hp.okd hq (by decide)
  · rw [← mul_eq] at h
    exact h
theorem ok_over : ∀ args L R, args.length = 2 → s_over args L R → d_over_0 (initE 2 args) L { nx := fun _ L' => R .non L', rt := R } := by
  rintro _ L R _ ⟨p, q, rfl, h0, hp, hq, h⟩
  unfold d_over_0
  show sRet _ [some (fr p), some (fr q)] L _
  walk_at "ev"
  refine ⟨hp.nd hq (by decide), hp.dn hq (by decide), _, _, rfl, Int.mul_ne_zero (Int.ne_of_gt (den_pos p)) (num_ne h0), ?_, ?_⟩
  · exact hp.okn hq (by decide)
  · rw [← div_eq p q h0] at h
    exact h
theorem lt_num (p q : Rat) : p.num * (q.den : Int) < q.num * (p.den : Int) ↔ p < q := (Rat.lt_iff p q).symm
theorem ok_compared : ∀ args L R, args.length = 2 → s_compared args L R → d_compared_0 (initE 4 args) L { nx := fun _ L' => R .non L', rt := R } := by
  rintro _ L R _ ⟨p, q, rfl, hp, hq, h⟩
  unfold d_compared_0
  show sSeq _ _ [some (fr p), some (fr q), none, none] L _
  walk_at "ev"
  refine ⟨hp.nd hq (by decide), hq.nd hp (by decide), ?_⟩
  unfold d_compared_1
  walk_at "ev"
  simp only [lt_num, decide_eq_true_eq]
  have e : (if q < p then (1 : Int) else 0) - (if p < q then (1 : Int) else 0) = cmpI p q := by
    unfold cmpI
    by_cases h1 : q < p
    · rw [if_pos h1, if_pos h1, if_neg (fun h2 => by grind)]; rfl
    · rw [if_neg h1, if_neg h1]
      split <;> rfl
  rw [e]
  exact h
end Mp
namespace Mp
open PySem PySem.Spec PyProof.Rows L2
/-! ### lists in the store -/
section
variable {L : Sto} {R : PK} {p : Addr} {x y z u : PV} {xs : List PV} {env : Env}
theorem ixl0 (e : L p = some (.l (x :: xs))) : oIx (.ref p) (.int 0) L R = R x L := by
  unfold oIx
  simp only [e, show atI (x :: xs) 0 = some x from atI_nat (j := 0) rfl]
theorem ixl1 (e : L p = some (.l (x :: y :: xs))) : oIx (.ref p) (.int 1) L R = R y L := by
  unfold oIx
  simp only [e, show atI (x :: y :: xs) 1 = some y from atI_nat (j := 1) rfl]
theorem ixl2 (e : L p = some (.l (x :: y :: z :: xs))) : oIx (.ref p) (.int 2) L R = R z L := by
  unfold oIx
  simp only [e, show atI (x :: y :: z :: xs) 2 = some z from atI_nat (j := 2) rfl]
theorem ixl3 (e : L p = some (.l (x :: y :: z :: u :: xs))) : oIx (.ref p) (.int 3) L R = R u L := by
  unfold oIx
  simp only [e, show atI (x :: y :: z :: u :: xs) 3 = some u from atI_nat (j := 3) rfl]
def gSt (y z x : PV) (env : Env) (Lb : Sto) (R : Env → Sto → Prop) : Prop := match y, z with
  | .ref a, .int k => ∃ xs j, Lb a = some (.l xs) ∧ ixN xs.length k = some j ∧ R env (put Lb a (.l (xs.set j x)))
  | _, _ => False
theorem e_gS {o i : WE} {R : Env → Sto → Prop} : gS o i x env L R = o env L fun y La => i env La fun z Lb => gSt y z x env Lb R := propext Iff.rfl
theorem e_gSt {k : Int} {j : Nat} {R : Env → Sto → Prop} (e : L p = some (.l xs)) (hj : ixN xs.length k = some j) : gSt (.ref p) (.int k) x env L R = R env (put L p (.l (xs.set j x))) := by
  refine propext ⟨?_, fun h => ⟨xs, j, e, hj, h⟩⟩
  rintro ⟨xs', j', e', hj', h⟩
  rw [e] at e'
  cases e'
  rw [hj] at hj'
  cases hj'
  exact h
theorem e_gT {n : Nat} {gs : WGs} {R : Env → Sto → Prop} : gT n gs (.tup xs) env L R = (xs.length = n ∧ gs xs env L R) := propext Iff.rfl
theorem e_gsL0 {R : Env → Sto → Prop} : gsL [] [] env L R = R env L := propext Iff.rfl
theorem e_gsL1 {g : WG} {gs : List WG} {R : Env → Sto → Prop} : gsL (g :: gs) (x :: xs) env L R = g x env L fun env' L' => gsL gs xs env' L' R := propext Iff.rfl
theorem e_gsN0 {R : Env → Sto → Prop} : gsN [] [] env L R = R env L := propext Iff.rfl
theorem e_gsN1 {i : Nat} {gs : List Nat} {R : Env → Sto → Prop} : gsN (i :: gs) (x :: xs) env L R = gsN gs xs (env.set i (some x)) L R := propext Iff.rfl
end
theorem mulL {i j : Int} (h : -18446744073709551616 < i ∧ i < 18446744073709551616) : MulOk i j := ⟨(CMul.ok (.inl h))⟩
theorem mulR {i j : Int} (h : -18446744073709551616 < j ∧ j < 18446744073709551616) : MulOk i j := ⟨(CMul.ok (.inr h))⟩
theorem bits_le {i : Int} {a : Nat} (h : i.natAbs < 2 ^ a) : Builtin.Int.intBits i ≤ a := by
  unfold Builtin.Int.intBits
  split
  · exact Nat.zero_le _
  · rename_i hx
    have hx' : i.natAbs ≠ 0 := fun z => hx (by simpa using z)
    have := (Nat.log2_lt hx').mpr h
    omega
theorem powOk {i j : Int} (a : Nat) (h : i.natAbs < 2 ^ a) (h0 : 0 ≤ j) (h1 : (a : Int) * j ≤ 134217728) : PowOk i j := by
  refine ⟨h0, ?_⟩
  have : (Builtin.Int.intBits i : Int) ≤ a := by exact_mod_cast bits_le h
  refine Int.le_trans (Int.mul_le_mul_of_nonneg_right this h0) ?_
  exact h1
/-! ### rules for loops -/
theorem loop_i {keep : Sto → Prop} {g : WG} {b : WS} {N : Nd} (I : Nat → Env → Sto → Prop) {xs : List PV} {env : Env} {L : Sto} (h0 : I 0 env L) (hk : ∀ i e l, I i e l → keep l)
    (hs : ∀ i x e l (K : Env → Sto → Prop), xs[i]? = some x → I i e l → (∀ e l, I (i + 1) e l → K e l) → g x e l fun e' l' => b e' l' { nx := K, rt := N.rt, bk := N.nx, ct := K })
    (he : ∀ e l, I xs.length e l → N.nx e l) : loopW keep g b xs env L N := by
  have key : ∀ ys i e l, xs.drop i = ys → i ≤ xs.length → I i e l → loopW keep g b ys e l N := by
    intro ys
    induction ys with
    | nil =>
      intro i e l hd hi hI
      have : i = xs.length := by
        have := congrArg List.length hd
        rw [List.length_drop, List.length_nil] at this
        omega
      exact ⟨hk i e l hI, he e l (this ▸ hI)⟩
    | cons y ys ih =>
      intro i e l hd hi hI
      have hl := congrArg List.length hd
      rw [List.length_drop, List.length_cons] at hl
      have hx : xs[i]? = some y := by
        have := congrArg (fun z => z[0]?) hd
        simpa using this
      have hd' : xs.drop (i + 1) = ys := by
        have := congrArg List.tail hd
        simpa using this
      exact ⟨hk i e l hI, hs i y e l (fun e l => loopW keep g b ys e l N) hx hI fun e l h => ih (i + 1) e l hd' (by omega) h⟩
  exact key xs 0 env L rfl (Nat.zero_le _) h0
theorem comp_i {keep : Sto → Prop} {g : WG} {t e : WE} {env : Env} {R : List PV → Sto → Prop} (I : Nat → List PV → Sto → Prop) {xs : List PV} {L : Sto} (h0 : I 0 [] L) (hk : ∀ i a l, I i a l → keep l) (hn : xs.length < sizeLine)
    (hs : ∀ i x acc l (K : List PV → Sto → Prop), xs[i]? = some x → I i acc l → acc.length ≤ i → (∀ acc l, acc.length ≤ i + 1 → I (i + 1) acc l → K acc l) → g x env l fun env' La => t env' La fun b Lb => bIf b (e env' Lb fun y Lc => acc.length < sizeLine ∧ K (acc ++ [y]) Lc) (K acc Lb))
    (he : ∀ acc l, I xs.length acc l → R acc l) : compW keep g t e env xs [] L R := by
  have key : ∀ ys i acc l, xs.drop i = ys → i ≤ xs.length → acc.length ≤ i → I i acc l → compW keep g t e env ys acc l R := by
    intro ys
    induction ys with
    | nil =>
      intro i acc l hd hi _ hI
      have : i = xs.length := by
        have := congrArg List.length hd
        rw [List.length_drop, List.length_nil] at this
        omega
      exact ⟨hk i acc l hI, he acc l (this ▸ hI)⟩
    | cons y ys ih =>
      intro i acc l hd hi ha hI
      have hl := congrArg List.length hd
      rw [List.length_drop, List.length_cons] at hl
      have hx : xs[i]? = some y := by
        have := congrArg (fun z => z[0]?) hd
        simpa using this
      have hd' : xs.drop (i + 1) = ys := by
        have := congrArg List.tail hd
        simpa using this
      exact ⟨hk i acc l hI, hs i y acc l (fun acc l => compW keep g t e env ys acc l R) hx hI ha fun acc l ha' h => ih (i + 1) acc l hd' (by omega) ha' h⟩
  exact key xs 0 [] L rfl (Nat.zero_le _) (Nat.le_refl _) h0

/-! ### iteration sources -/
section
variable {L : Sto} {R : Src → Sto → Prop} {p q : Addr} {xs ys : List PV} {env : Env} {a b : WE}
def r1K (y : PV) (La : Sto) (R : Src → Sto → Prop) : Prop := match y with
  | .int j => RgB j ∧ R ⟨rgL 0 j.toNat, fun _ => True⟩ La
  | _ => False
theorem e_r1 : iR1 a env L R = a env L fun y La => r1K y La R := propext Iff.rfl
theorem e_r1K {j : Int} : r1K (.int j) L R = (RgB j ∧ R ⟨rgL 0 j.toNat, fun _ => True⟩ L) := propext Iff.rfl
def r2K (x y : PV) (La : Sto) (R : Src → Sto → Prop) : Prop := match x, y with
  | .int i, .int j => RgB i ∧ RgB j ∧ R ⟨rgL i (j - i).toNat, fun _ => True⟩ La
  | _, _ => False
theorem e_r2 : iR2 a b env L R = a env L fun x La => b env La fun y Lb => r2K x y Lb R := propext Iff.rfl
theorem e_r2K {i j : Int} : r2K (.int i) (.int j) L R = (RgB i ∧ RgB j ∧ R ⟨rgL i (j - i).toNat, fun _ => True⟩ L) := propext Iff.rfl
def lsK (x : PV) (La : Sto) (R : Src → Sto → Prop) : Prop := match x with
  | .ref a => match La a with
    | some (.l xs) => R ⟨xs, fun Lx => Lx a = some (.l xs)⟩ La
    | _ => False
  | .tup xs => R ⟨xs, fun _ => True⟩ La
  | .str z => R ⟨z.cps.toList.map fun c => .str ⟨#[c]⟩, fun _ => True⟩ La
  | _ => False
theorem e_any : iAny a env L R = a env L fun x La => lsK x La R := propext Iff.rfl
theorem e_lsK (e : L p = some (.l xs)) : lsK (.ref p) L R = R ⟨xs, fun Lx => Lx p = some (.l xs)⟩ L := by
  unfold lsK
  simp only [e]
theorem e_lsT : lsK (.tup xs) L R = R ⟨xs, fun _ => True⟩ L := propext Iff.rfl
def enK (x : PV) (La : Sto) (R : Src → Sto → Prop) : Prop := match x with
  | .ref a => match La a with
    | some (.l xs) => R ⟨enL xs, fun Lx => Lx a = some (.l xs)⟩ La
    | _ => False
  | _ => False
theorem e_en : iEn a env L R = a env L fun x La => enK x La R := propext Iff.rfl
theorem e_enK (e : L p = some (.l xs)) : enK (.ref p) L R = R ⟨enL xs, fun Lx => Lx p = some (.l xs)⟩ L := by
  unfold enK
  simp only [e]
def zpK (x y : PV) (Lb : Sto) (R : Src → Sto → Prop) : Prop := match x, y with
  | .ref a, .ref b => match Lb a, Lb b with
    | some (.l xs), some (.l ys) => R ⟨zipL xs ys, fun Lx => Lx a = some (.l xs) ∧ Lx b = some (.l ys)⟩ Lb
    | _, _ => False
  | .tup xs, .tup ys => R ⟨zipL xs ys, fun _ => True⟩ Lb
  | _, _ => False
theorem e_zpT : zpK (.tup xs) (.tup ys) L R = R ⟨zipL xs ys, fun _ => True⟩ L := propext Iff.rfl
theorem e_zp : iZp a b env L R = a env L fun x La => b env La fun y Lb => zpK x y Lb R := propext Iff.rfl
theorem e_zpK (e : L p = some (.l xs)) (f : L q = some (.l ys)) : zpK (.ref p) (.ref q) L R = R ⟨zipL xs ys, fun Lx => Lx p = some (.l xs) ∧ Lx q = some (.l ys)⟩ L := by
  unfold zpK
  simp only [e, f]
def rvK (x : PV) (La : Sto) (R : Src → Sto → Prop) : Prop := match x with
  | .ref a => match La a with
    | some (.l xs) => R ⟨xs.reverse, fun Lx => Lx a = some (.l xs)⟩ La
    | _ => False
  | _ => False
theorem e_rv : iRv a env L R = a env L fun x La => rvK x La R := propext Iff.rfl
theorem e_rvK (e : L p = some (.l xs)) : rvK (.ref p) L R = R ⟨xs.reverse, fun Lx => Lx p = some (.l xs)⟩ L := by
  unfold rvK
  simp only [e]
theorem e_for {it : WI} {g : WG} {s : WS} {N : Nd} : sFor it g s env L N = it env L fun c La => loopW c.keep g s c.items env La N := propext Iff.rfl
theorem e_comp {own : List Nat} {it : WI} {g : WG} {t e : WE} {R : PK} : wComp own it g t e env L R = it env L fun c La => compW c.keep g t e (wipeE env own) c.items [] La fun acc Lb => newL Lb acc R := propext Iff.rfl
theorem e_mt {T : String} {g : MtF} {o : WE} {ws : List WE} {R : PK} : wMt T g o ws env L R = o env L fun x La => tyOk T x La ∧ wAr ws env La fun xs Lb => g x xs Lb R := propext Iff.rfl
theorem e_wipe0 : wipeE env [] = env := rfl
theorem e_wipe1 {i : Nat} {is : List Nat} : wipeE env (i :: is) = (wipeE env is).set i none := rfl
theorem e_aug {i : Nat} {f : Op2} {N : Nd} {x : PV} (h : gv env i = some x) : sAug i f a env L N = a env L fun y La => f x y La fun z Lb => N.nx (env.set i (some z)) Lb := by
  unfold sAug
  rw [h]
end
local macro_rules | `(tactic| walk_at "ev") => `(tactic| try simp only [if_true, if_false, decide_true, decide_false, Bool.not_true, Bool.not_false, Bool.false_eq_true, reduceCtorEq, e_gS, e_gT, e_gsL0, e_gsL1, e_gsN0, e_gsN1, e_r1, e_r1K, e_r2, e_r2K, e_any, e_lsT, e_zpT, e_en, e_zp, e_rv, e_for, e_comp, e_mt, e_wipe0, e_wipe1, fr0, fr1, ix0, ix1, ix2, ix3, bIf_t, bIf_f, bIf_d, bIf_n, oEq_ii, oNe_ii, oEq_bb, oNe_bb, List.set_cons_zero, List.set_cons_succ, List.zip_cons_cons, List.zip_nil_right, List.foldl_cons, List.foldl_nil, e_add, e_addI, e_addt, e_addl, e_sub, e_mul, e_div, e_mod, e_pow, e_oI, e_neg, e_not, e_isn, e_isnn, e_isb, e_isnb, e_isN_non, e_isN_bl, e_isN_int, e_isN_tup, e_isN_ref, e_isN_fz, e_isN_fr, e_isN_str, e_lent, e_lenz, e_abs, e_int, e_intb, e_dvm, e_min, e_max, e_listt, e_listz, e_tupt, e_str, gv_0, gv_s, e_slt, e_slz, e_v0, e_v1, e_v2, e_v3, e_v4, e_v5, e_v6, e_v7, e_v8, e_v9, e_v10, e_v11, e_v12, e_v13, e_v14, e_v15, e_v16, e_v17, e_v18, e_v19, e_v20, e_v21, e_v22, e_v23, e_v24, e_v25, e_v26, e_v27, e_v28, e_v29, e_v30, e_v31, e_v32, e_v33, e_v34, e_v35, e_v36, e_v37, e_v38, e_v39, e_ar0, e_ar1, e_gN, e_par, e_c, e_bin, e_un, e_and, e_or, e_ife, e_chain, e_tup, e_lst, e_bi, e_call, e_sl, e_no, e_so, e_nil, e_seq, e_expr, e_ret, e_retn, e_asg, e_if, e_brk, e_cnt, sz_0, sz_1, sz_2, sz_3, sz_4, sz_5, sz_6, sz_7, sz_8, sz_9, sz_10, sz_11, sz_12, sz_13, sz_14, sz_15, sz_16, sz_17, sz_18, sz_19, true_and, isi_non_int, isi_non_bool, isi_non_str, isi_non_tuple, isi_non_list, isi_non_dict, isi_bl_int, isi_bl_bool, isi_bl_str, isi_bl_tuple, isi_bl_list, isi_bl_dict, isi_int_int, isi_int_bool, isi_int_str, isi_int_tuple, isi_int_list, isi_int_dict, isi_str_int, isi_str_bool, isi_str_str, isi_str_tuple, isi_str_list, isi_str_dict, isi_tup_int, isi_tup_bool, isi_tup_str, isi_tup_tuple, isi_tup_list, isi_tup_dict, isi_fz_int, isi_fz_bool, isi_fz_str, isi_fz_tuple, isi_fz_list, isi_fz_dict])
/-! ### the law's box of chance -/
def Bx (b : Addr) (n : Int) (L : Sto) : Prop := ∃ c0 c1 c2 : Int, L b = some (.l [.int c0, .int c1, .int c2]) ∧ 0 ≤ c0 ∧ 0 ≤ c1 ∧ c1 < 2147483647 ∧ 0 ≤ c2 ∧ c2 ≤ n
theorem Bx.mono {b : Addr} {n m : Int} {L : Sto} (h : Bx b n L) (k : n ≤ m) : Bx b m L := by
  obtain ⟨c0, c1, c2, h1, h2, h3, h4, h5, h6⟩ := h
  exact ⟨c0, c1, c2, h1, h2, h3, h4, h5, Int.le_trans h6 k⟩
theorem Bx.le {b : Addr} {n : Int} {L L' : Sto} (h : Bx b n L) (k : Le L L') : Bx b n L' := by
  obtain ⟨c0, c1, c2, h1, h2⟩ := h
  exact ⟨c0, c1, c2, k _ _ h1, h2⟩
theorem Bx.leb {b p : Addr} {n : Int} {L L' : Sto} (h : Bx b n L) (hp : b ≠ p) (k : LeB p L L') : Bx b n L' := by
  obtain ⟨c0, c1, c2, h1, h2⟩ := h
  exact ⟨c0, c1, c2, k _ _ hp h1, h2⟩
def sl_take : Spec := fun args L R => ∃ (b : Addr) (m n : Int), args = [.ref b, .int m] ∧ Bx b n L ∧ n < 1152921504606846976 ∧ 0 < m ∧ DenOk m ∧ ∀ r L', 0 ≤ r → r < m → Bx b (n + 1) L' → LeB b L L' → R (.int r) L'
/-! _law_take(_law_box, _law_many): 0 _law_box, 1 _law_many, 2 _law_found, 3 _law_once -/
def l_take_3 : WS := sRet (wBin oMod (wBin oDiv (wBin oMod (wBin oAdd (wBin oMul (wVar 3) (wC (.int 48271))) (wBin oMul (wBin oMul (wBin oIx (wVar 0) (wC (.int 2))) (wBin oIx (wVar 0) (wC (.int 2)))) (wC (.int 7919)))) (wC (.int 2147483629))) (wC (.int 64))) (wVar 1))
def l_take_2 : WS := sSeq (sAsg (gN 3) (wBin oMod (wBin oPow (wBin oAdd (wBin oIx (wVar 0) (wC (.int 1))) (wBin oMul (wC (.int 39373)) (wBin oIx (wVar 0) (wC (.int 2))))) (wC (.int 5))) (wC (.int 2147483647)))) l_take_3
def l_take_1 : WS := sSeq (sAsg (gS (wVar 0) (wC (.int 2))) (wBin oAdd (wBin oIx (wVar 0) (wC (.int 2))) (wC (.int 1)))) l_take_2
def l_take_0a_1 : WS := sRet (wVar 2)
def l_take_0a_0 : WS := sSeq (sAsg (gT 2 (gsL [gS (wVar 0) (wC (.int 0)), gN 2])) (wBi gDivmod [wBin oIx (wVar 0) (wC (.int 0)), wVar 1])) l_take_0a_1
def l_take_0 : WS := sSeq (sIf (wBin oGt (wBin oIx (wVar 0) (wC (.int 0))) (wC (.int 0))) l_take_0a_0 sNil) l_take_1
theorem fm_pos {i j : Int} (h : 0 < j) : i.fmod j = i % j := Int.fmod_eq_emod_of_nonneg _ (by omega)
theorem fd_pos {i j : Int} (h : 0 < j) : i.fdiv j = i / j := Int.fdiv_eq_ediv_of_nonneg _ (by omega)
theorem noPlS {i j : Int} (h : j.natAbs < 2 ^ 64) : NoPl i j := noPl (Nat.lt_trans h (Nat.pow_lt_pow_right (by decide) (by decide)))
theorem ok_l_take : ∀ args L R, args.length = 2 → sl_take args L R → l_take_0 (initE 4 args) L { nx := fun _ L' => R .non L', rt := R } := by
  rintro _ L R _ ⟨b, m, n, rfl, ⟨c0, c1, c2, e, h0, h1, h2, h3, h4⟩, hn, hm, hd, h⟩
  unfold l_take_0
  show sSeq _ _ [some (.ref b), some (.int m), none, none] L _
  walk_at "ev"
  rw [ixl0 e]
  walk_at "ev"
  split
  · rename_i hc
    unfold l_take_0a_0
    walk_at "ev"
    rw [ixl0 e]
    walk_at "ev"
    refine ⟨hm, noPl hd, rfl, ?_⟩
    rw [e_gSt (j := 0) e rfl]
    unfold l_take_0a_1
    walk_at "ev"
    refine h _ _ (Int.emod_nonneg _ (by omega)) (Int.emod_lt_of_pos _ hm) ⟨c0 / m, c1, c2, put_same, Int.ediv_nonneg h0 (by omega), h1, h2, h3, by omega⟩ LeB.put
  · rename_i hc
    unfold l_take_1
    walk_at "ev"
    rw [ixl2 e]
    walk_at "ev"
    rw [e_gSt (j := 2) e rfl]
    unfold l_take_2
    walk_at "ev"
    rw [ixl1 put_same]
    walk_at "ev"
    rw [ixl2 put_same]
    walk_at "ev"
    refine ⟨mulL (by decide), powOk 80 ?_ (by decide) (by decide), by decide, ?_⟩
    · have : (2 : Nat) ^ 80 = 1208925819614629174706176 := by decide
      rw [this]
      omega
    unfold l_take_3
    walk_at "ev"
    refine ⟨mulR (by decide), ?_⟩
    rw [ixl2 put_same]
    rw [ixl2 put_same]
    walk_at "ev"
    refine ⟨mulL (by omega), mulR (by decide), by decide, by decide, noPlS (by decide), by omega, ?_⟩
    rw [fm_pos hm]
    exact h _ _ (Int.emod_nonneg _ (by omega)) (Int.emod_lt_of_pos _ hm) ⟨c0, c1, c2 + 1, put_same, h0, h1, h2, by omega, by omega⟩ LeB.put
def sl_box_of : Spec := fun args L R => ∃ (c : Addr) (ns : List Int) (k : Int), args = [.ref c, .int k] ∧ L c = some (.l (ns.map PV.int)) ∧ 0 ≤ k ∧ k < 1000000 ∧ ∀ b L', L b = none → Le L L' → Bx b 0 L' → R (.ref b) L'
/-! _law_box_of(_law_script, _law_k): 0 _law_script, 1 _law_k, 2 _law_cell -/
def l_box_of_2 : WS := sRet (wLst [wBin oMul (wBi gAbs [wVar 2]) (wBi gInt [wBin oGe (wBi gAbs [wVar 2]) (wBin oPow (wC (.int 10)) (wC (.int 18)))]), wBin oMod (wBin oAdd (wVar 2) (wBin oMul (wBin oMul (wC (.int 7919)) (wVar 1)) (wVar 1))) (wC (.int 2147483647)), wC (.int 0)])
def l_box_of_1a_0 : WS := sAsg (gN 2) (wBin oIx (wVar 0) (wVar 1))
def l_box_of_1 : WS := sSeq (sIf (wBin oLt (wVar 1) (wBi gLen [wVar 0])) l_box_of_1a_0 sNil) l_box_of_2
def l_box_of_0 : WS := sSeq (sAsg (gN 2) (wC (.int 0))) l_box_of_1
theorem mod_rng {i j : Int} (h : 0 < j) : 0 ≤ i.fmod j ∧ i.fmod j < j := by
  rw [fm_pos h]
  exact ⟨Int.emod_nonneg _ (by omega), Int.emod_lt_of_pos _ h⟩
theorem box_end {x k : Int} {c : Addr} {L : Sto} {N : Nd} (hk : 0 ≤ k) (hk' : k < 1000000) (h : ∀ b L', L b = none → Le L L' → Bx b 0 L' → N.rt (.ref b) L') : l_box_of_2 [some (.ref c), some (.int k), some (.int x)] L N := by
  unfold l_box_of_2
  walk_at "ev"
  refine ⟨powOk 4 (by decide) (by decide) (by decide), mulR ?_, mulL (by decide), mulR (by omega), by decide, ?_⟩
  · split <;> decide
  intro p hp
  obtain ⟨r1, r2⟩ := mod_rng (i := x + 7919 * k * k) (j := 2147483647) (by decide)
  refine h p _ hp (Le.new hp) ⟨_, _, _, put_same, Int.mul_nonneg (by omega) (by split <;> decide), r1, r2, by decide, by decide⟩
theorem ok_l_box_of : ∀ args L R, args.length = 2 → sl_box_of args L R → l_box_of_0 (initE 3 args) L { nx := fun _ L' => R .non L', rt := R } := by
  rintro _ L R _ ⟨c, ns, k, rfl, e, hk, hk', h⟩
  unfold l_box_of_0
  show sSeq _ _ [some (.ref c), some (.int k), none] L _
  walk_at "ev"
  unfold l_box_of_1
  walk_at "ev"
  rw [e_lenl e]
  walk_at "ev"
  split
  · rename_i hl
    rw [List.length_map] at hl
    unfold l_box_of_1a_0
    walk_at "ev"
    obtain ⟨j, rfl⟩ := Int.eq_ofNat_of_zero_le hk
    have hj : j < ns.length := by omega
    refine ixl_nat e (x := .int ns[j]) ?_ ?_
    · rw [List.getElem?_map, List.getElem?_eq_getElem hj]; rfl
    · show l_box_of_2 [some (.ref c), some (.int j), some (.int ns[j])] L _
      exact box_end hk hk' h
  · exact box_end hk hk' h

/-! ### the law's fractions -/
def sl_lowest : Spec := fun args L R => ∃ n d : Int, args = [.int n, .int d] ∧ d ≠ 0 ∧ DenOk d ∧ R (fr ((n : Rat) / (d : Rat))) L
/-! _law_lowest(_law_n, _law_d): 0 _law_n, 1 _law_d, 2 _law_one, 3 _law_other -/
def l_lowest_2 : WS := sRet (wIfE (wBin oGt (wVar 1) (wC (.int 0))) (wTup [wBin oDiv (wVar 0) (wVar 2), wBin oDiv (wVar 1) (wVar 2)]) (wTup [wBin oDiv (wUn oNeg (wVar 0)) (wVar 2), wBin oDiv (wUn oNeg (wVar 1)) (wVar 2)]))
def l_lowest_1w_0 : WS := sPar [2, 3] [wVar 3, wBin oMod (wVar 2) (wVar 3)]
def l_lowest_1 : WS := sSeq (sWhile (wBin oGt (wVar 3) (wC (.int 0))) l_lowest_1w_0) l_lowest_2
def l_lowest_0 : WS := sSeq (sPar [2, 3] [wBi gAbs [wVar 0], wBi gAbs [wVar 1]]) l_lowest_1
theorem fdiv_neg_neg (i j : Int) : (-i).fdiv j = i.fdiv (-j) := by
  have := Int.neg_fdiv_neg i (-j)
  rw [Int.neg_neg] at this
  exact this
theorem ok_l_lowest : ∀ args L R, args.length = 2 → sl_lowest args L R → l_lowest_0 (initE 4 args) L { nx := fun _ L' => R .non L', rt := R } := by
  rintro _ L R _ ⟨n, d, rfl, hd, hz, h⟩
  unfold l_lowest_0
  show sSeq _ _ [some (.int n), some (.int d), none, none] L _
  walk_at "ev"
  unfold l_lowest_1
  walk_at "ev"
  refine ⟨fun m env L' => L' = L ∧ ∃ x y : Nat, env = [some (.int n), some (.int d), some (.int x), some (.int y)] ∧ Nat.gcd x y = Nat.gcd n.natAbs d.natAbs ∧ m = y, ⟨d.natAbs, rfl, n.natAbs, d.natAbs, rfl, rfl, rfl⟩, ?_⟩
  rintro m env _ ⟨rfl, x, y, rfl, hg, rfl⟩
  walk_at "ev"
  split
  · rename_i hy
    unfold l_lowest_1w_0
    walk_at "ev"
    have hy' : 0 < m := by omega
    refine ⟨by omega, x % m, Nat.mod_lt _ hy', m, x % m, ?_, ?_, rfl⟩
    · rw [Int.fmod_eq_emod_of_nonneg _ (by omega)]; rfl
    · rw [← hg, Nat.gcd_comm m, ← Nat.gcd_rec, Nat.gcd_comm]
  · rename_i hy
    have hm : m = 0 := by omega
    subst hm
    rw [Nat.gcd_zero_right] at hg
    subst hg
    unfold l_lowest_2
    walk_at "ev"
    have g0 : 0 < Nat.gcd n.natAbs d.natAbs := Nat.gcd_pos_of_pos_right _ (by omega)
    rw [← fdiv_num hd] at h
    split
    · rename_i hp
      rw [if_neg (by omega)] at h
      exact ⟨by omega, noPl (hz.gcd hd), by omega, noPl (hz.gcd hd), h⟩
    · rename_i hp
      rw [if_pos (by omega)] at h
      refine ⟨by omega, noPl (hz.gcd hd), by omega, noPl (hz.gcd hd), ?_⟩
      rw [fdiv_neg_neg, fdiv_neg_neg]
      exact h
def sl_sum : Spec := fun args L R => ∃ p q : Rat, args = [fr p, fr q] ∧ SzB p ∧ SzB q ∧ R (fr (p + q)) L
def sl_less : Spec := fun args L R => ∃ p q : Rat, args = [fr p, fr q] ∧ SzB p ∧ SzB q ∧ R (fr (p - q)) L
def sl_product : Spec := fun args L R => ∃ p q : Rat, args = [fr p, fr q] ∧ SzB p ∧ SzB q ∧ R (fr (p * q)) L
/-! _law_sum(_law_p, _law_q): 0 _law_p, 1 _law_q -/
def l_sum_0 : WS := sRet (wCall sl_lowest [wBin oAdd (wBin oMul (wBin oIx (wVar 0) (wC (.int 0))) (wBin oIx (wVar 1) (wC (.int 1)))) (wBin oMul (wBin oIx (wVar 1) (wC (.int 0))) (wBin oIx (wVar 0) (wC (.int 1)))), wBin oMul (wBin oIx (wVar 0) (wC (.int 1))) (wBin oIx (wVar 1) (wC (.int 1)))])
/-! _law_less(_law_p, _law_q): 0 _law_p, 1 _law_q -/
def l_less_0 : WS := sRet (wCall sl_lowest [wBin oSub (wBin oMul (wBin oIx (wVar 0) (wC (.int 0))) (wBin oIx (wVar 1) (wC (.int 1)))) (wBin oMul (wBin oIx (wVar 1) (wC (.int 0))) (wBin oIx (wVar 0) (wC (.int 1)))), wBin oMul (wBin oIx (wVar 0) (wC (.int 1))) (wBin oIx (wVar 1) (wC (.int 1)))])
/-! _law_product(_law_p, _law_q): 0 _law_p, 1 _law_q -/
def l_product_0 : WS := sRet (wCall sl_lowest [wBin oMul (wBin oIx (wVar 0) (wC (.int 0))) (wBin oIx (wVar 1) (wC (.int 0))), wBin oMul (wBin oIx (wVar 0) (wC (.int 1))) (wBin oIx (wVar 1) (wC (.int 1)))])
theorem ok_l_sum : ∀ args L R, args.length = 2 → sl_sum args L R → l_sum_0 (initE 2 args) L { nx := fun _ L' => R .non L', rt := R } := by
  rintro _ L R _ ⟨p, q, rfl, hp, hq, h⟩
  unfold l_sum_0
  show sRet _ [some (fr p), some (fr q)] L _
  walk_at "ev"
  refine ⟨hp.nd hq (by decide), hq.nd hp (by decide), hp.dd hq (by decide), _, _, rfl, mul_den_ne p q, hp.okd hq (by decide), ?_⟩
  rw [← add_eq] at h
  exact h
theorem ok_l_less : ∀ args L R, args.length = 2 → sl_less args L R → l_less_0 (initE 2 args) L { nx := fun _ L' => R .non L', rt := R } := by
  rintro _ L R _ ⟨p, q, rfl, hp, hq, h⟩
  unfold l_less_0
  show sRet _ [some (fr p), some (fr q)] L _
  walk_at "ev"
  refine ⟨hp.nd hq (by decide), hq.nd hp (by decide), hp.dd hq (by decide), _, _, rfl, mul_den_ne p q, hp.okd hq (by decide), ?_⟩
  rw [← sub_eq] at h
  exact h
theorem ok_l_product : ∀ args L R, args.length = 2 → sl_product args L R → l_product_0 (initE 2 args) L { nx := fun _ L' => R .non L', rt := R } := by
  rintro _ L R _ ⟨p, q, rfl, hp, hq, h⟩
  unfold l_product_0
  show sRet _ [some (fr p), some (fr q)] L _
  walk_at "ev"
  refine ⟨hp.nn hq (by decide), hp.dd hq (by decide), _, _, rfl, mul_den_ne p q, hp.okd hq (by decide), ?_⟩
  rw [← mul_eq] at h
  exact h
end Mp
namespace Mp
open PySem PySem.Spec PyProof.Rows L2
local macro_rules | `(tactic| walk_at "ev") => `(tactic| try simp only [if_true, if_false, decide_true, decide_false, Bool.not_true, Bool.not_false, Bool.false_eq_true, reduceCtorEq, e_gS, e_gT, e_gsL0, e_gsL1, e_gsN0, e_gsN1, e_r1, e_r1K, e_r2, e_r2K, e_any, e_lsT, e_zpT, e_en, e_zp, e_rv, e_for, e_comp, e_mt, e_wipe0, e_wipe1, fr0, fr1, ix0, ix1, ix2, ix3, bIf_t, bIf_f, bIf_d, bIf_n, oEq_ii, oNe_ii, oEq_bb, oNe_bb, List.set_cons_zero, List.set_cons_succ, List.zip_cons_cons, List.zip_nil_right, List.foldl_cons, List.foldl_nil, e_add, e_addI, e_addt, e_addl, e_sub, e_mul, e_div, e_mod, e_pow, e_oI, e_neg, e_not, e_isn, e_isnn, e_isb, e_isnb, e_isN_non, e_isN_bl, e_isN_int, e_isN_tup, e_isN_ref, e_isN_fz, e_isN_fr, e_isN_str, e_lent, e_lenz, e_abs, e_int, e_intb, e_dvm, e_min, e_max, e_listt, e_listz, e_tupt, e_str, gv_0, gv_s, e_slt, e_slz, e_v0, e_v1, e_v2, e_v3, e_v4, e_v5, e_v6, e_v7, e_v8, e_v9, e_v10, e_v11, e_v12, e_v13, e_v14, e_v15, e_v16, e_v17, e_v18, e_v19, e_v20, e_v21, e_v22, e_v23, e_v24, e_v25, e_v26, e_v27, e_v28, e_v29, e_v30, e_v31, e_v32, e_v33, e_v34, e_v35, e_v36, e_v37, e_v38, e_v39, e_ar0, e_ar1, e_gN, e_par, e_c, e_bin, e_un, e_and, e_or, e_ife, e_chain, e_tup, e_lst, e_bi, e_call, e_sl, e_no, e_so, e_nil, e_seq, e_expr, e_ret, e_retn, e_asg, e_if, e_brk, e_cnt, sz_0, sz_1, sz_2, sz_3, sz_4, sz_5, sz_6, sz_7, sz_8, sz_9, sz_10, sz_11, sz_12, sz_13, sz_14, sz_15, sz_16, sz_17, sz_18, sz_19, true_and, isi_non_int, isi_non_bool, isi_non_str, isi_non_tuple, isi_non_list, isi_non_dict, isi_bl_int, isi_bl_bool, isi_bl_str, isi_bl_tuple, isi_bl_list, isi_bl_dict, isi_int_int, isi_int_bool, isi_int_str, isi_int_tuple, isi_int_list, isi_int_dict, isi_str_int, isi_str_bool, isi_str_str, isi_str_tuple, isi_str_list, isi_str_dict, isi_tup_int, isi_tup_bool, isi_tup_str, isi_tup_tuple, isi_tup_list, isi_tup_dict, isi_fz_int, isi_fz_bool, isi_fz_str, isi_fz_tuple, isi_fz_list, isi_fz_dict])
/-! ### folding a script -/
def sl_folded : Spec := fun args L R => ∃ (ns : List Int) (m : Int), args = [.fz ns, .int m] ∧ 0 < m ∧ m < 1000 ∧ ∀ p L' (ms : List Int), L p = none → Le L L' → L' p = some (.l (ms.map PV.int)) → 2 ≤ ms.length → ms.length ≤ 1000 → R (.ref p) L'
/-! _law_folded(_law_script, _law_many): 0 _law_script, 1 _law_many, 2 _law_cells, 3 _law_k, 4 _law_cell -/
def l_folded_2 : WS := sRet (wBin oAdd (wVar 2) (wBin oMul (wLst [wC (.int 0)]) (wBin oSub (wC (.int 2)) (wBi gLen [wVar 2]))))
def l_folded_1f_0 : WS := sAsg (gS (wVar 2) (wBin oMod (wVar 3) (wVar 1))) (wBin oAdd (wBin oIx (wVar 2) (wBin oMod (wVar 3) (wVar 1))) (wBin oMul (wVar 4) (wBin oAdd (wVar 3) (wC (.int 2)))))
def l_folded_1 : WS := sSeq (sFor (iEn (wSl (wVar 0) (wSo (wVar 1)) (wSo (wC (.int 63))))) (gT 2 (gsL [gN 3, gN 4])) l_folded_1f_0) l_folded_2
def l_folded_0 : WS := sSeq (sAsg (gN 2) (wBi gList [wSl (wVar 0) wNo (wSo (wVar 1))])) l_folded_1
theorem enL_get {xs : List PV} {i : Nat} {x : PV} (h : (enL xs)[i]? = some x) : ∃ y, xs[i]? = some y ∧ x = .tup [.int i, y] := by
  unfold enL at h
  rw [List.getElem?_map] at h
  have hi : i < xs.length := by
    by_cases q : i < xs.length
    · exact q
    · rw [List.getElem?_eq_none (by rw [List.length_range]; omega)] at h
      cases h
  rw [List.getElem?_range hi] at h
  cases h
  exact ⟨xs[i], List.getElem?_eq_getElem hi, by show PV.tup [.int i, xs.getD i .non] = _; rw [List.getD_eq_getElem?_getD, List.getElem?_eq_getElem hi]; rfl⟩
theorem enL_len (xs : List PV) : (enL xs).length = xs.length := by unfold enL; rw [List.length_map, List.length_range]
theorem cut_to {α : Type} (xs : List α) (m : Nat) : cutP xs none (some (m : Int)) = xs.take m := by
  unfold cutP
  have h0 : HT.sIx xs.length 0 none = 0 := rfl
  have h1 : HT.sIx xs.length xs.length (some (m : Int)) = min m xs.length := HT.sIx_nat _ _ _
  rw [h0, h1, List.drop_zero, Nat.sub_zero]
  by_cases h : m ≤ xs.length
  · rw [Nat.min_eq_left h]
  · rw [Nat.min_eq_right (by omega), List.take_length, List.take_of_length_le (by omega)]
theorem cut_len {α : Type} (xs : List α) (lo hi : Nat) : cutP xs (some (lo : Int)) (some (hi : Int)) = (xs.drop lo).take (hi - lo) := by
  unfold cutP
  have h0 : HT.sIx xs.length 0 (some (lo : Int)) = min lo xs.length := HT.sIx_nat _ _ _
  have h1 : HT.sIx xs.length xs.length (some (hi : Int)) = min hi xs.length := HT.sIx_nat _ _ _
  rw [h0, h1]
  by_cases h : lo ≤ xs.length
  · rw [Nat.min_eq_left h]
    by_cases h' : hi ≤ xs.length
    · rw [Nat.min_eq_left h']
    · rw [Nat.min_eq_right (by omega), List.take_of_length_le (by rw [List.length_drop]; omega), List.take_of_length_le (by rw [List.length_drop]; omega)]
  · rw [List.drop_eq_nil_of_le (by omega), List.drop_eq_nil_of_le (by omega), List.take_nil, List.take_nil]
theorem map_take {ns : List Int} {m : Nat} : (ns.map PV.int).take m = (ns.take m).map PV.int := (List.map_take).symm
theorem set_int {ms : List Int} {j : Nat} {i : Int} : (ms.map PV.int).set j (.int i) = (ms.set j i).map PV.int := (List.map_set).symm

theorem e_rep {L : Sto} {R : PK} {p : Addr} {xs : List PV} {k : Int} (e : L p = some (.l xs)) (h : -(2 ^ 63) ≤ k ∧ k < 2 ^ 63 ∧ xs.length * k.toNat ≤ sizeLine ∧ newL L (List.replicate k.toNat xs).flatten R) : oMul (.ref p) (.int k) L R := ⟨xs, e, h⟩
theorem e_cat {L : Sto} {R : PK} {p q : Addr} {xs ys : List PV} (e : L p = some (.l xs)) (f : L q = some (.l ys)) (h : xs.length + ys.length ≤ sizeLine ∧ newL L (xs ++ ys) R) : oAdd (.ref p) (.ref q) L R := ⟨xs, ys, e, f, h⟩
theorem sizeL (n : Nat) (h : n ≤ 16777216) : n ≤ sizeLine := h
theorem ne_adr {L : Sto} {p q : Addr} {o : SO} (h : L p = none) (h' : L q = some o) : q ≠ p := fun e => by rw [e, h] at h'; cases h'
theorem Le.put {L La : Sto} (h : Le L La) {p : Addr} {o : SO} (hp : L p = none) : Le L (put La p o) := fun a u e => by
  rw [put_ne (ne_adr hp e)]
  exact h a u e
theorem folded_end {ns ms : List Int} {m : Int} {L l : Sto} {p : Addr} {z3 z4 : Option PV} {N : Nd} (hp : L p = none) (hle : Le L l) (e : l p = some (.l (ms.map PV.int))) (hl : ms.length ≤ 1000)
    (h : ∀ p L' (ms : List Int), L p = none → Le L L' → L' p = some (.l (ms.map PV.int)) → 2 ≤ ms.length → ms.length ≤ 1000 → N.rt (.ref p) L') : l_folded_2 [some (.fz ns), some (.int m), some (.ref p), z3, z4] l N := by
  unfold l_folded_2
  walk_at "ev"
  intro p1 h1
  have e1 := (Le.new (o := .l [.int 0]) h1) _ _ e
  rw [e_lenl e1]
  walk_at "ev"
  rw [List.length_map]
  refine e_rep put_same ⟨by omega, by omega, sizeL _ (by show 1 * _ ≤ _; omega), ?_⟩
  intro p2 h2
  have e2 := (Le.new (o := .l (List.replicate (2 - (ms.length : Int)).toNat [.int 0]).flatten) h2) _ _ e1
  refine e_cat e2 put_same ⟨sizeL _ (by rw [List.length_map, List.length_flatten, List.map_replicate, List.sum_replicate_nat]; show _ + _ * 1 ≤ _; omega), ?_⟩
  intro p3 h3
  have f1 : (List.replicate (2 - (ms.length : Int)).toNat [PV.int 0]).flatten = (List.replicate (2 - (ms.length : Int)).toNat (0 : Int)).map PV.int := by
    rw [List.map_replicate]
    generalize (2 - (ms.length : Int)).toNat = k
    induction k with
    | zero => rfl
    | succ k ih => rw [List.replicate_succ, List.flatten_cons, ih, List.replicate_succ]; rfl
  refine h p3 _ (ms ++ List.replicate (2 - (ms.length : Int)).toNat (0 : Int)) ?_ ?_ ?_ ?_ ?_
  · exact ((hle.trans (Le.new h1)).trans (Le.new h2)).free h3
  · exact ((hle.trans (Le.new h1)).trans (Le.new h2)).trans (Le.new h3)
  · rw [put_same, List.map_append, f1]
  · rw [List.length_append, List.length_replicate]; omega
  · rw [List.length_append, List.length_replicate]; omega
theorem ok_l_folded : ∀ args L R, args.length = 2 → sl_folded args L R → l_folded_0 (initE 5 args) L { nx := fun _ L' => R .non L', rt := R } := by
  rintro _ L R _ ⟨ns, m, rfl, hm, hm', h⟩
  obtain ⟨m, rfl⟩ := Int.eq_ofNat_of_zero_le (show 0 ≤ m by omega)
  unfold l_folded_0
  show sSeq _ _ [some (.fz ns), some (.int m), none, none, none] L _
  walk_at "ev"
  intro p0 h0
  rw [e_listl put_same]
  intro p1 h1
  rw [cut_to] at *
  unfold l_folded_1
  walk_at "ev"
  intro p2 h2
  rw [e_enK put_same, show ((63 : Int)) = ((63 : Nat) : Int) from rfl, cut_len]
  generalize hL2 : put (put (put L p0 _) p1 _) p2 _ = L2 at *
  have hp1 : L p1 = none := (Le.new h0).free h1
  have hp2 : L p2 = none := ((Le.new h0).trans (Le.new h1)).free h2
  have n12 : p2 ≠ p1 := fun e => by rw [e, put_same] at h2; cases h2
  have hle : Le L L2 := by rw [← hL2]; exact ((Le.new h0).trans (Le.new h1)).trans (Le.new h2)
  have e1 : L2 p1 = some (.l ((ns.take m).map PV.int)) := by rw [← hL2, put_ne n12.symm, put_same]
  have e2 : L2 p2 = some (.l (((ns.drop m).take (63 - m)).map PV.int)) := by rw [← hL2, put_same]
  refine loop_i (fun i e l => (∃ z3 z4, e = [some (.fz ns), some (.int m), some (.ref p1), z3, z4]) ∧ Le L l ∧ l p2 = L2 p2 ∧ ∃ ms : List Int, l p1 = some (.l (ms.map PV.int)) ∧ ms.length = (ns.take m).length)
    ⟨⟨_, _, rfl⟩, hle, rfl, _, e1, rfl⟩ ?_ ?_ ?_
  · rintro i e l ⟨_, _, h3, _⟩
    show l p2 = _
    rw [h3, e2]
  · rintro i x e l K hx ⟨⟨z3, z4, rfl⟩, hl, hp, ms, hms, hlen⟩ hK
    obtain ⟨y, hy, rfl⟩ := enL_get hx
    rw [List.getElem?_map] at hy
    cases hyy : ((ns.drop m).take (63 - m))[i]? with
    | none => rw [hyy] at hy; cases hy
    | some c =>
    rw [hyy] at hy
    cases hy
    have hi := (List.getElem?_eq_some_iff.mp hyy).1
    rw [List.length_take, List.length_drop] at hi
    rw [List.length_take, Nat.min_eq_left (by omega)] at hlen
    walk_at "ev"
    refine ⟨rfl, ?_⟩
    unfold l_folded_1f_0
    walk_at "ev"
    have hmm : ((i : Int)).fmod m = ((i % m : Nat) : Int) := by rw [fm_pos hm]; rfl
    have hlt : i % m < m := Nat.mod_lt _ (by omega)
    rw [hmm]
    refine ⟨by omega, ixl_nat hms (x := .int (ms[i % m]'(by omega))) (by rw [List.getElem?_map, List.getElem?_eq_getElem (by omega)]; rfl) ?_⟩
    walk_at "ev"
    refine ⟨mulR (by omega), by omega, ?_⟩
    rw [e_gSt (j := i % m) hms (by unfold ixN; rw [List.length_map, if_pos (by omega), if_pos (by omega), Int.toNat_natCast])]
    refine hK _ _ ⟨⟨_, _, rfl⟩, hl.put hp1, ?_, ms.set (i % m) (ms[i % m]'(by omega) + c * ((i : Int) + 2)), ?_, ?_⟩
    · rw [put_ne n12, hp]
    · rw [put_same, set_int]
    · rw [List.length_set, hlen, List.length_take, Nat.min_eq_left (by omega)]
  · rintro e l ⟨⟨z3, z4, rfl⟩, hl, hp, ms, hms, hlen⟩
    exact folded_end hp1 hl hms (by rw [hlen, List.length_take]; omega) h
/-! ### alike -/
def All2 (r : PV → PV → Prop) : List PV → List PV → Prop
  | [], [] => True
  | x :: xs, y :: ys => r x y ∧ All2 r xs ys
  | _, _ => False
def Sm (L : Sto) : Nat → PV → PV → Prop
  | 0, _, _ => False
  | n + 1, x, y => match x, y with
    | .non, .non => True
    | .bl a, .bl b => a = b
    | .int a, .int b => a = b
    | .str a, .str b => a = b ∧ SeqAt.shaped (.str a) = true
    | .tup xs, .tup ys => xs.length ≤ 1000000 ∧ All2 (Sm L n) xs ys
    | .ref a, .ref b => ∃ xs ys, L a = some (.l xs) ∧ L b = some (.l ys) ∧ xs.length ≤ 1000000 ∧ All2 (Sm L n) xs ys
    | _, _ => False
theorem All2.mono {r s : PV → PV → Prop} (h : ∀ x y, r x y → s x y) : ∀ {xs ys : List PV}, All2 r xs ys → All2 s xs ys
  | [], [], _ => trivial
  | _ :: _, _ :: _, ⟨a, b⟩ => ⟨h _ _ a, b.mono h⟩
  | [], _ :: _, h => h.elim
  | _ :: _, [], h => h.elim
theorem All2.len {r : PV → PV → Prop} : ∀ {xs ys : List PV}, All2 r xs ys → xs.length = ys.length
  | [], [], _ => rfl
  | _ :: _, _ :: _, ⟨_, b⟩ => by rw [List.length_cons, List.length_cons, b.len]
  | [], _ :: _, h => h.elim
  | _ :: _, [], h => h.elim
theorem All2.get {r : PV → PV → Prop} : ∀ {xs ys : List PV} {i : Nat} {x y : PV}, All2 r xs ys → xs[i]? = some x → ys[i]? = some y → r x y
  | _ :: _, _ :: _, 0, _, _, h, e, f => by cases e; cases f; exact h.1
  | _ :: _, _ :: _, i + 1, _, _, h, e, f => h.2.get (i := i) (by simpa using e) (by simpa using f)
  | [], _, _, _, _, _, e, _ => by simp at e
  | _ :: _, [], _, _, _, h, _, _ => h.elim
theorem All2.map {α : Type} {r : PV → PV → Prop} {f g : α → PV} (h : ∀ a, r (f a) (g a)) : ∀ xs : List α, All2 r (xs.map f) (xs.map g)
  | [] => trivial
  | a :: xs => ⟨h a, All2.map h xs⟩
theorem Sm.le {L L' : Sto} (hl : Le L L') : ∀ {n : Nat} {x y : PV}, Sm L n x y → Sm L' n x y
  | 0, _, _, h => h.elim
  | n + 1, x, y, h => by
    have ih := fun x y => Sm.le hl (n := n) (x := x) (y := y)
    cases x <;> cases y <;> first | exact h | skip
    · obtain ⟨xs, ys, h1, h2, h3, h4⟩ := h
      exact ⟨xs, ys, hl _ _ h1, hl _ _ h2, h3, h4.mono ih⟩
    · exact ⟨h.1, All2.mono ih h.2⟩
theorem Sm.fr {L : Sto} {n : Nat} {p q : Rat} (h : p = q) : Sm L (n + 2) (fr p) (fr q) := by
  subst h
  exact ⟨by show 2 ≤ 1000000; decide, rfl, rfl, trivial⟩
theorem zipL_get : ∀ {xs ys : List PV} {i : Nat} {z : PV}, (zipL xs ys)[i]? = some z → ∃ x y, xs[i]? = some x ∧ ys[i]? = some y ∧ z = .tup [x, y] := by
  intro xs ys i z h
  unfold zipL at h
  rw [List.getElem?_zipWith] at h
  cases hx : xs[i]? with
  | none => rw [hx] at h; cases h
  | some x =>
    cases hy : ys[i]? with
    | none => rw [hx, hy] at h; cases h
    | some y =>
      rw [hx, hy] at h
      cases h
      exact ⟨x, y, rfl, rfl, rfl⟩
def likeN (n : Nat) : Spec := fun args L R => ∃ x y, args = [x, y] ∧ Sm L n x y ∧ ∀ L', Le L L' → R (.bl true) L'
/-! _law_like(_law_found, _law_due): 0 _law_found, 1 _law_due, 2 _law_one, 3 _law_other -/
def l_like_3 (S : Spec) : WS := sRet (wAnd (wBi gIsi [wVar 0, wC (.ty "int")]) (wAnd (wUn oNot (wBi gIsi [wVar 0, wC (.ty "bool")])) (wBin oEq (wVar 0) (wVar 1))))
def l_like_2a_0 (S : Spec) : WS := sRet (wAnd (wBi gIsi [wVar 0, wC (.ty "bool")]) (wBin oEq (wVar 0) (wVar 1)))
def l_like_2 (S : Spec) : WS := sSeq (sIf (wBi gIsi [wVar 1, wC (.ty "bool")]) (l_like_2a_0 S) sNil) (l_like_3 S)
def l_like_1a_0 (S : Spec) : WS := sRet (wAnd (wBin oEq (wVar 0) (wVar 1)) (wBin oEq (wBi gIsi [wVar 0, wC (.ty "str")]) (wBi gIsi [wVar 1, wC (.ty "str")])))
def l_like_1 (S : Spec) : WS := sSeq (sIf (wOr (wBin oIs (wVar 1) (wC .non)) (wBi gIsi [wVar 1, wC (.ty "str")])) (l_like_1a_0 S) sNil) (l_like_2 S)
def l_like_0a_1 (S : Spec) : WS := sRet (wAnd (wBin oEq (wBi gLen [wVar 0]) (wBi gLen [wVar 1])) (wBi gAll [wComp [2, 3] (iZp (wVar 0) (wVar 1)) (gT 2 (gsN [2, 3])) (wC (.bl true)) (wCall S [wVar 2, wVar 3])]))
def l_like_0a_0a_0 (S : Spec) : WS := sRet (wC (.bl false))
def l_like_0a_0 (S : Spec) : WS := sSeq (sIf (wOr (wBin oNe (wBi gIsi [wVar 0, wC (.ty "list")]) (wBi gIsi [wVar 1, wC (.ty "list")])) (wBin oNe (wBi gIsi [wVar 0, wC (.ty "tuple")]) (wBi gIsi [wVar 1, wC (.ty "tuple")]))) (l_like_0a_0a_0 S) sNil) (l_like_0a_1 S)
def l_like_0 (S : Spec) : WS := sSeq (sIf (wBi gIsi [wVar 1, wTup [wC (.ty "list"), wC (.ty "tuple")]]) (l_like_0a_0 S) sNil) (l_like_1 S)


theorem e_isis {L : Sto} {R : PK} {x : PV} {cs : List PV} {b : Bool} (h : cs ≠ []) (hb : isiBs (tyName x L) cs = some b) : gIsi [x, .tup cs] L R = R (.bl b) L := by
  show (cs ≠ [] ∧ (match isiBs (tyName x L) cs with | some b => R (.bl b) L | none => False)) = _
  rw [hb]
  exact propext ⟨fun z => z.2, fun z => ⟨h, z⟩⟩
theorem isis_tup {L : Sto} {R : PK} {xs : List PV} : gIsi [.tup xs, .tup [.ty "list", .ty "tuple"]] L R = R (.bl true) L := e_isis (by simp) rfl
theorem isis_non {L : Sto} {R : PK} : gIsi [.non, .tup [.ty "list", .ty "tuple"]] L R = R (.bl false) L := e_isis (by simp) rfl
theorem isis_int {L : Sto} {R : PK} {i : Int} : gIsi [.int i, .tup [.ty "list", .ty "tuple"]] L R = R (.bl false) L := e_isis (by simp) rfl
theorem isis_bl {L : Sto} {R : PK} {i : Bool} : gIsi [.bl i, .tup [.ty "list", .ty "tuple"]] L R = R (.bl false) L := e_isis (by simp) rfl
theorem isis_str {L : Sto} {R : PK} {i : Str} : gIsi [.str i, .tup [.ty "list", .ty "tuple"]] L R = R (.bl false) L := e_isis (by simp) rfl
theorem isis_lst {L : Sto} {R : PK} {p : Addr} {xs : List PV} (h : L p = some (.l xs)) : gIsi [.ref p, .tup [.ty "list", .ty "tuple"]] L R = R (.bl true) L := e_isis (by simp) (by unfold tyName; simp only [h]; rfl)
theorem eqv_str (x : Str) : PyData.eqv (.str x) (.str x) = true := by unfold PyData.eqv; simp
theorem oEq_ss {L : Sto} {R : PK} {x : Str} (hx : SeqAt.shaped (.str x) = true) (h : R (.bl true) L) : oEq (.str x) (.str x) L R := ⟨_, _, .str x, .str x, hx, hx, by rw [eqv_str]; exact h⟩
theorem oEq_nn {L : Sto} {R : PK} (h : R (.bl true) L) : oEq .non .non L R := ⟨_, _, .non, .non, rfl, rfl, h⟩
theorem like_comp {keep : Sto → Prop} {n : Nat} {L : Sto} {x y : PV} {xs ys : List PV} {R : List PV → Sto → Prop} (hk : ∀ l, Le L l → keep l) (h : All2 (Sm L n) xs ys) (hn : xs.length ≤ 1000000)
    (hR : ∀ l, Le L l → R (List.replicate xs.length (.bl true)) l) : compW keep (gT 2 (gsN [2, 3])) (wC (.bl true)) (wCall (likeN n) [wVar 2, wVar 3]) [some x, some y, none, none] (zipL xs ys) [] L R := by
  have hz : (zipL xs ys).length = xs.length := by unfold zipL; rw [List.length_zipWith, h.len, Nat.min_self]
  refine comp_i (fun i acc l => Le L l ∧ acc = List.replicate i (.bl true)) ⟨.refl, rfl⟩ (fun i a l q => hk l q.1) (by rw [hz]; show _ < 16777216; omega) ?_ ?_
  · rintro i z acc l K hx ⟨hl, rfl⟩ ha hK
    obtain ⟨u, v, hu, hv, rfl⟩ := zipL_get hx
    walk_at "ev"
    refine ⟨rfl, u, v, rfl, (h.get hu hv).le hl, fun l' hl' => ⟨?_, ?_⟩⟩
    · rw [List.length_replicate]
      have := (List.getElem?_eq_some_iff.mp hu).1
      show i < 16777216
      omega
    · refine hK _ _ (by rw [List.length_append, List.length_replicate]; exact Nat.le_refl _) ⟨hl.trans hl', ?_⟩
      rw [List.replicate_succ']
  · rintro acc l ⟨hl, rfl⟩
    rw [hz]
    exact hR l hl
theorem all_true {L : Sto} {R : PK} {p : Addr} {n : Nat} (h : R (.bl true) (put L p (.l (List.replicate n (.bl true))))) : gAll [.ref p] (put L p (.l (List.replicate n (.bl true)))) R := by
  refine ⟨List.replicate n true, by rw [put_same, List.map_replicate], ?_⟩
  have : (List.replicate n true).all id = true := by
    rw [List.all_eq_true]
    intro b hb
    exact (List.mem_replicate.mp hb).2
  rw [this]
  exact h
theorem ok_l_like (n : Nat) : ∀ args L R, args.length = 2 → likeN (n + 1) args L R → l_like_0 (likeN n) (initE 4 args) L { nx := fun _ L' => R .non L', rt := R } := by
  rintro _ L R hl0 ⟨x, y, rfl, h, k⟩
  clear hl0
  unfold l_like_0
  show sSeq _ _ [some x, some y, none, none] L _
  cases x <;> cases y <;> first | exact h.elim | skip
  · walk_at "ev"
    rw [isis_non]
    walk_at "ev"
    unfold l_like_1 l_like_1a_0
    walk_at "ev"
    refine oEq_nn ?_
    walk_at "ev"
    exact k L .refl
  · rename_i a b
    have h : a = b := h
    subst h
    walk_at "ev"
    rw [isis_bl]
    walk_at "ev"
    unfold l_like_1 l_like_1a_0
    walk_at "ev"
    unfold l_like_2 l_like_2a_0
    walk_at "ev"
    exact k L .refl
  · rename_i a b
    have h : a = b := h
    subst h
    walk_at "ev"
    rw [isis_int]
    walk_at "ev"
    unfold l_like_1 l_like_1a_0
    walk_at "ev"
    unfold l_like_2 l_like_2a_0
    walk_at "ev"
    unfold l_like_3
    walk_at "ev"
    exact k L .refl
  · rename_i a b
    obtain ⟨h, hx⟩ : a = b ∧ SeqAt.shaped (.str a) = true := h
    subst h
    walk_at "ev"
    rw [isis_str]
    walk_at "ev"
    unfold l_like_1 l_like_1a_0
    walk_at "ev"
    refine oEq_ss hx ?_
    walk_at "ev"
    exact k L .refl
  · rename_i a b
    obtain ⟨xs, ys, ea, eb, hn, h⟩ := h
    walk_at "ev"
    rw [isis_lst eb]
    walk_at "ev"
    unfold l_like_0a_0 l_like_0a_0a_0
    walk_at "ev"
    rw [isi_rl_list ea, isi_rl_list eb]
    walk_at "ev"
    rw [isi_rl_tuple ea, isi_rl_tuple eb]
    walk_at "ev"
    unfold l_like_0a_1
    walk_at "ev"
    rw [e_lenl ea, e_lenl eb, h.len]
    walk_at "ev"
    rw [e_zpK ea eb]
    refine like_comp (fun l hl => ⟨hl _ _ ea, hl _ _ eb⟩) h hn fun l hl => ?_
    intro p hp
    exact all_true (k _ (hl.trans (Le.new hp)))
  · rename_i xs ys
    obtain ⟨hn, h⟩ := h
    walk_at "ev"
    rw [isis_tup]
    walk_at "ev"
    unfold l_like_0a_0 l_like_0a_0a_0
    walk_at "ev"
    unfold l_like_0a_1
    walk_at "ev"
    rw [h.len]
    walk_at "ev"
    refine like_comp (fun l hl => trivial) h hn fun l hl => ?_
    intro p hp
    exact all_true (k _ (hl.trans (Le.new hp)))
/-! ### chance fractions -/
def sl_fraction_by : Spec := fun args L R => ∃ (b : Addr) (n : Int), args = [.ref b] ∧ Bx b n L ∧ n < 1152921504606840000 ∧ ∀ q L', Sz 14 q → Bx b (n + 6) L' → LeB b L L' → R (fr q) L'
/-! _law_fraction_by(_law_box): 0 _law_box, 1 _law_way, 2 _law_hand -/
def l_fraction_by_4 : WS := sRet (wCall sl_lowest [wBin oMul (wVar 2) (wCall sl_take [wVar 0, wC (.int 10000)]), wBin oAdd (wC (.int 1)) (wCall sl_take [wVar 0, wBin oIx (wLst [wC (.int 65), wC (.int 999)]) (wBin oSub (wVar 1) (wC (.int 4)))])])
def l_fraction_by_3a_0 : WS := sRet (wCall sl_lowest [wBin oMul (wVar 2) (wC (.int 9999)), wBin oSub (wC (.int 999)) (wCall sl_take [wVar 0, wC (.int 3)])])
def l_fraction_by_3 : WS := sSeq (sIf (wBin oEq (wVar 1) (wC (.int 3))) l_fraction_by_3a_0 sNil) l_fraction_by_4
def l_fraction_by_2a_0 : WS := sRet (wCall sl_lowest [wBin oMul (wVar 2) (wCall sl_take [wVar 0, wC (.int 20)]), wBin oAdd (wC (.int 1)) (wCall sl_take [wVar 0, wC (.int 12)])])
def l_fraction_by_2 : WS := sSeq (sIf (wBin oEq (wVar 1) (wC (.int 2))) l_fraction_by_2a_0 sNil) l_fraction_by_3
def l_fraction_by_1a_0 : WS := sRet (wTup [wBin oMul (wBin oMul (wVar 2) (wCall sl_take [wVar 0, wC (.int 12)])) (wVar 1), wC (.int 1)])
def l_fraction_by_1 : WS := sSeq (sIf (wBin oLt (wVar 1) (wC (.int 2))) l_fraction_by_1a_0 sNil) l_fraction_by_2
def l_fraction_by_0 : WS := sSeq (sPar [1, 2] [wCall sl_take [wVar 0, wC (.int 6)], wBin oSub (wC (.int 1)) (wBin oMul (wC (.int 2)) (wCall sl_take [wVar 0, wC (.int 2)]))]) l_fraction_by_1
theorem fr_int {n : Int} : PV.tup [.int n, .int 1] = fr (n : Rat) := rfl
theorem denS {d : Int} (h : d.natAbs < 2 ^ 64) : DenOk d := DenOk.of h (by decide)
theorem szd {n d : Int} (hd : d ≠ 0) (h1 : n.natAbs < 16384) (h2 : d.natAbs < 16384) : Sz 14 ((n : Rat) / (d : Rat)) := Sz.of hd h1 h2
theorem LeB.le {b : Addr} {L La : Sto} (h : LeB b L La) {p : Addr} {o : SO} (hp : La p = none) : LeB b L (Mp.put La p o) := fun a u n e => by
  rw [put_ne (ne_adr hp (h a u n e))]
  exact h a u n e
theorem Bx.new {b p : Addr} {n : Int} {L : Sto} {o : SO} (h : Bx b n L) (hp : L p = none) : Bx b n (put L p o) := h.le (Le.new hp)
theorem hand_rng {r : Int} (h0 : 0 ≤ r) (h1 : r < 2) : 1 - 2 * r = 1 ∨ 1 - 2 * r = -1 := by omega
theorem hand_abs {h r : Int} {c : Nat} (hh : h = 1 ∨ h = -1) (h0 : 0 ≤ r) (h1 : r < c) : (h * r).natAbs < c := by
  rcases hh with rfl | rfl <;> omega
theorem ok_l_fraction_by : ∀ args L R, args.length = 1 → sl_fraction_by args L R → l_fraction_by_0 (initE 3 args) L { nx := fun _ L' => R .non L', rt := R } := by
  rintro _ L R _ ⟨b, n, rfl, hb, hn, h⟩
  unfold l_fraction_by_0
  show sSeq _ _ [some (.ref b), none, none] L _
  walk_at "ev"
  refine ⟨b, 6, n, rfl, hb, by omega, by decide, denS (by decide), fun w L1 w0 w1 b1 l1 => ⟨b, 2, _, rfl, b1, by omega, by decide, denS (by decide), fun r L2 r0 r1 b2 l2 => ⟨mulL (by decide), ?_⟩⟩⟩
  walk_at "ev"
  have l2 := l1.trans l2
  have hh := hand_rng r0 r1
  generalize hhd : 1 - 2 * r = hd at *
  unfold l_fraction_by_1 l_fraction_by_1a_0
  walk_at "ev"
  split
  · refine ⟨b, 12, _, rfl, b2, by omega, by decide, denS (by decide), fun s L3 s0 s1 b3 l3 => ⟨mulL (by omega), mulL (by rcases hh with rfl | rfl <;> omega), ?_⟩⟩
    walk_at "ev"
    rw [fr_int]
    refine h _ _ (Sz.int ?_ (by decide)) (b3.mono (by omega)) (l2.trans l3)
    show _ < 16384
    have e1 := hand_abs (c := 12) hh s0 (by omega)
    have e2 : w = 0 ∨ w = 1 := by omega
    rcases e2 with rfl | rfl <;> omega
  unfold l_fraction_by_2 l_fraction_by_2a_0
  walk_at "ev"
  split
  · refine ⟨b, 20, _, rfl, b2, by omega, by decide, denS (by decide), fun s L3 s0 s1 b3 l3 => ⟨mulL (by omega), b, 12, _, rfl, b3, by omega, by decide, denS (by decide), fun t L4 t0 t1 b4 l4 => ⟨_, _, rfl, by omega, denS ?_, ?_⟩⟩⟩
    · have : (2 : Nat) ^ 64 = 18446744073709551616 := by decide
      omega
    · exact h _ _ (szd (by omega) (by have := hand_abs (c := 20) hh s0 (by omega); omega) (by omega)) (b4.mono (by omega)) ((l2.trans l3).trans l4)
  unfold l_fraction_by_3 l_fraction_by_3a_0
  walk_at "ev"
  split
  · refine ⟨mulR (by decide), b, 3, _, rfl, b2, by omega, by decide, denS (by decide), fun t L4 t0 t1 b4 l4 => ⟨_, _, rfl, by omega, denS ?_, ?_⟩⟩
    · have : (2 : Nat) ^ 64 = 18446744073709551616 := by decide
      omega
    · exact h _ _ (szd (by omega) (by rcases hh with rfl | rfl <;> omega) (by omega)) (b4.mono (by omega)) (l2.trans l4)
  unfold l_fraction_by_4
  walk_at "ev"
  refine ⟨b, 10000, _, rfl, b2, by omega, by decide, denS (by decide), fun s L3 s0 s1 b3 l3 => ⟨mulL (by omega), fun p hp => ?_⟩⟩
  have b3' := b3.new (o := .l [.int 65, .int 999]) hp
  have l3' := (l2.trans l3).le (o := .l [.int 65, .int 999]) hp
  walk_at "ev"
  have hw : w - 4 = 0 ∨ w - 4 = 1 := by omega
  have fin : ∀ m : Int, 0 < m → m ≤ 999 → sl_take [.ref b, .int m] (put L3 p (.l [.int 65, .int 999])) fun x La => sl_lowest [.int (hd * s), .int (1 + match x with | .int i => i | _ => 0)] La R := fun m m0 m1 => by
    refine ⟨b, m, _, rfl, b3', by omega, m0, denS ?_, fun t L4 t0 t1 b4 l4 => ⟨_, _, rfl, ?_, denS ?_, ?_⟩⟩
    · have : (2 : Nat) ^ 64 = 18446744073709551616 := by decide
      omega
    · show (1 : Int) + t ≠ 0
      omega
    · have : (2 : Nat) ^ 64 = 18446744073709551616 := by decide
      show ((1 : Int) + t).natAbs < _
      omega
    · refine h _ _ (szd ?_ (by have := hand_abs (c := 10000) hh s0 (by omega); omega) ?_) (b4.mono (by omega)) (l3'.trans l4)
      · show (1 : Int) + t ≠ 0
        omega
      · show ((1 : Int) + t).natAbs < _
        omega
  have conv : ∀ m : Int, 0 < m → m ≤ 999 → sl_take [.ref b, .int m] (put L3 p (.l [.int 65, .int 999])) fun x La => oAdd (.int 1) x La fun x La => sl_lowest [.int (hd * s), x] La R := fun m m0 m1 => by
    obtain ⟨b', m', n', e, q1, q2, q3, q4, q5⟩ := fin m m0 m1
    cases e
    exact ⟨b, m, n', rfl, q1, q2, q3, q4, fun r L' a1 a2 a3 a4 => q5 r L' a1 a2 a3 a4⟩
  rcases hw with hw | hw
  · rw [hw, ixl0 put_same]
    exact conv 65 (by decide) (by decide)
  · rw [hw, ixl1 put_same]
    exact conv 999 (by decide) (by decide)
/-! ### is_number, is_fraction -/
def numB (L : Sto) : PV → Option Bool
  | .int _ => some true
  | .bl _ | .non | .str _ | .tup _ | .fz _ => some false
  | .ref a => (L a).map fun _ => false
  | .ty _ => none
def s_is_number : Spec := fun args L R => ∃ x b, args = [x] ∧ numB L x = some b ∧ R (.bl b) L
/-! is_number(thing): 0 thing -/
def d_is_number_0 : WS := sRet (wAnd (wBi gIsi [wVar 0, wC (.ty "int")]) (wUn oNot (wBi gIsi [wVar 0, wC (.ty "bool")])))
theorem isi_rd {L : Sto} {R : PK} {p : Addr} {o : SO} (h : L p = some o) : gIsi [.ref p, .ty "int"] L R = R (.bl false) L := by
  cases o
  · rw [isi_rl_int h]
  · rw [isi_rd_int h]
theorem ok_is_number : ∀ args L R, args.length = 1 → s_is_number args L R → d_is_number_0 (initE 1 args) L { nx := fun _ L' => R .non L', rt := R } := by
  rintro _ L R hl0 ⟨x, b, rfl, hb, h⟩
  clear hl0
  unfold d_is_number_0
  show sRet _ [some x] L _
  cases x <;> first | (cases hb; walk_at "ev"; exact h) | skip
  · rename_i a
    have hb : (L a).map (fun _ => false) = some b := hb
    cases e : L a with
    | none => rw [e] at hb; cases hb
    | some o =>
      rw [e] at hb
      cases hb
      walk_at "ev"
      rw [isi_rd e]
      exact h
  · cases hb
/-! is_fraction, of anything -/
def fracB (L : Sto) : PV → Option Bool
  | .tup [a, b] => match numB L a, numB L b, a, b with
    | some false, _, _, _ => some false
    | some true, some false, _, _ => some false
    | some true, some true, .int n, .int d => some (decide (1 ≤ d) && decide (Nat.gcd n.natAbs d.natAbs = 1))
    | _, _, _, _ => none
  | .tup _ => some false
  | .ref p => (L p).map fun _ => false
  | .ty _ => none
  | _ => some false
def s_is_fraction : Spec := fun args L R => ∃ x b, args = [x] ∧ fracB L x = some b ∧ R (.bl b) L
/-! is_fraction(thing): 0 thing -/
def d_is_fraction_1 : WS := sRet (wAnd (wBin oGe (wBin oIx (wVar 0) (wC (.int 1))) (wC (.int 1))) (wBin oEq (wCall s_divisor_of [wBi gAbs [wBin oIx (wVar 0) (wC (.int 0))], wBin oIx (wVar 0) (wC (.int 1))]) (wC (.int 1))))
def d_is_fraction_0a_0 : WS := sRet (wC (.bl false))
def d_is_fraction_0 : WS := sSeq (sIf (wOr (wUn oNot (wBi gIsi [wVar 0, wC (.ty "tuple")])) (wOr (wBin oNe (wBi gLen [wVar 0]) (wC (.int 2))) (wOr (wUn oNot (wCall s_is_number [wBin oIx (wVar 0) (wC (.int 0))])) (wUn oNot (wCall s_is_number [wBin oIx (wVar 0) (wC (.int 1))]))))) d_is_fraction_0a_0 sNil) d_is_fraction_1
theorem fracB_fr {L : Sto} {q : Rat} : fracB L (fr q) = some true := by
  show some (decide ((1 : Int) ≤ q.den) && decide (Nat.gcd q.num.natAbs ((q.den : Int)).natAbs = 1)) = some true
  have h1 : (1 : Int) ≤ q.den := den_pos q
  have h2 : Nat.gcd q.num.natAbs ((q.den : Int)).natAbs = 1 := q.reduced
  rw [decide_eq_true h1, decide_eq_true h2]; rfl
theorem isi_rt {L : Sto} {R : PK} {p : Addr} {o : SO} (h : L p = some o) : gIsi [.ref p, .ty "tuple"] L R = R (.bl false) L := by
  cases o
  · rw [isi_rl_tuple h]
  · rw [isi_rd_tuple h]
theorem ok_is_fraction : ∀ args L R, args.length = 1 → s_is_fraction args L R → d_is_fraction_0 (initE 1 args) L { nx := fun _ L' => R .non L', rt := R } := by
  rintro _ L R hl0 ⟨x, b, rfl, hb, h⟩
  clear hl0
  unfold d_is_fraction_0 d_is_fraction_0a_0
  show sSeq _ _ [some x] L _
  cases x with
  | non => cases hb; walk_at "ev"; exact h
  | bl u => cases hb; walk_at "ev"; exact h
  | int u => cases hb; walk_at "ev"; exact h
  | str u => cases hb; walk_at "ev"; exact h
  | fz u => cases hb; walk_at "ev"; exact h
  | ty u => cases hb
  | ref p =>
    have hb : (L p).map (fun _ => false) = some b := hb
    cases e : L p with
    | none => rw [e] at hb; cases hb
    | some o =>
      rw [e] at hb
      cases hb
      walk_at "ev"
      rw [isi_rt e]
      walk_at "ev"
      exact h
  | tup xs =>
    match xs, hb with
    | [], hb => cases hb; walk_at "ev"; exact h
    | [a], hb => cases hb; walk_at "ev"; exact h
    | a :: c :: d :: r, hb =>
      cases hb
      walk_at "ev"
      rw [if_neg (by rw [List.length_cons, List.length_cons, List.length_cons]; omega)]
      exact h
    | [a, c], hb =>
      walk_at "ev"
      rw [if_pos (show (([a, c] : List PV).length : Int) = 2 from rfl)]
      cases ha : numB L a with
      | none => simp only [fracB, ha] at hb; cases hb
      | some u =>
      refine ⟨a, u, rfl, ha, ?_⟩
      cases u with
      | false =>
        simp only [fracB, ha] at hb
        cases hb
        walk_at "ev"
        exact h
      | true =>
      walk_at "ev"
      cases hc : numB L c with
      | none => simp only [fracB, ha, hc] at hb; cases hb
      | some u =>
      refine ⟨c, u, rfl, hc, ?_⟩
      cases u with
      | false =>
        simp only [fracB, ha, hc] at hb
        cases hb
        walk_at "ev"
        exact h
      | true =>
        have ia : ∃ n, a = .int n := by cases a <;> first | exact ⟨_, rfl⟩ | (simp [numB] at ha)
        have ic : ∃ n, c = .int n := by cases c <;> first | exact ⟨_, rfl⟩ | (simp [numB] at hc)
        obtain ⟨n, rfl⟩ := ia
        obtain ⟨d, rfl⟩ := ic
        walk_at "ev"
        have hb : some (decide (1 ≤ d) && decide (Nat.gcd n.natAbs d.natAbs = 1)) = some b := hb
        cases hb
        unfold d_is_fraction_1
        walk_at "ev"
        by_cases hd : 1 ≤ d
        · rw [if_pos hd]
          obtain ⟨m, rfl⟩ := Int.eq_ofNat_of_zero_le (show 0 ≤ d by omega)
          refine ⟨n.natAbs, m, rfl, ?_⟩
          walk_at "ev"
          rw [decide_eq_true hd, Bool.true_and] at h
          have e : decide (((Nat.gcd n.natAbs m : Nat) : Int) = 1) = decide (Nat.gcd n.natAbs ((m : Int)).natAbs = 1) := decide_eq_decide.mpr ⟨fun z => by rw [Int.natAbs_natCast]; omega, fun z => by rw [Int.natAbs_natCast] at z; omega⟩
          rw [e]
          exact h
        · rw [if_neg hd]
          rw [decide_eq_false hd, Bool.false_and] at h
          exact h
end Mp
namespace Mp
open PySem PySem.Spec PyProof.Rows L2
local macro_rules | `(tactic| walk_at "ev") => `(tactic| try simp only [if_true, if_false, decide_true, decide_false, Bool.not_true, Bool.not_false, Bool.false_eq_true, reduceCtorEq, e_gS, e_gT, e_gsL0, e_gsL1, e_gsN0, e_gsN1, e_r1, e_r1K, e_r2, e_r2K, e_any, e_lsT, e_zpT, e_en, e_zp, e_rv, e_for, e_comp, e_mt, e_wipe0, e_wipe1, fr0, fr1, ix0, ix1, ix2, ix3, bIf_t, bIf_f, bIf_d, bIf_n, oEq_ii, oNe_ii, oEq_bb, oNe_bb, List.set_cons_zero, List.set_cons_succ, List.zip_cons_cons, List.zip_nil_right, List.foldl_cons, List.foldl_nil, e_add, e_addI, e_addt, e_addl, e_sub, e_mul, e_div, e_mod, e_pow, e_oI, e_neg, e_not, e_isn, e_isnn, e_isb, e_isnb, e_isN_non, e_isN_bl, e_isN_int, e_isN_tup, e_isN_ref, e_isN_fz, e_isN_fr, e_isN_str, e_lent, e_lenz, e_abs, e_int, e_intb, e_dvm, e_min, e_max, e_listt, e_listz, e_tupt, e_str, gv_0, gv_s, e_slt, e_slz, e_v0, e_v1, e_v2, e_v3, e_v4, e_v5, e_v6, e_v7, e_v8, e_v9, e_v10, e_v11, e_v12, e_v13, e_v14, e_v15, e_v16, e_v17, e_v18, e_v19, e_v20, e_v21, e_v22, e_v23, e_v24, e_v25, e_v26, e_v27, e_v28, e_v29, e_v30, e_v31, e_v32, e_v33, e_v34, e_v35, e_v36, e_v37, e_v38, e_v39, e_ar0, e_ar1, e_gN, e_par, e_c, e_bin, e_un, e_and, e_or, e_ife, e_chain, e_tup, e_lst, e_bi, e_call, e_sl, e_no, e_so, e_nil, e_seq, e_expr, e_ret, e_retn, e_asg, e_if, e_brk, e_cnt, sz_0, sz_1, sz_2, sz_3, sz_4, sz_5, sz_6, sz_7, sz_8, sz_9, sz_10, sz_11, sz_12, sz_13, sz_14, sz_15, sz_16, sz_17, sz_18, sz_19, true_and, isi_non_int, isi_non_bool, isi_non_str, isi_non_tuple, isi_non_list, isi_non_dict, isi_bl_int, isi_bl_bool, isi_bl_str, isi_bl_tuple, isi_bl_list, isi_bl_dict, isi_int_int, isi_int_bool, isi_int_str, isi_int_tuple, isi_int_list, isi_int_dict, isi_str_int, isi_str_bool, isi_str_str, isi_str_tuple, isi_str_list, isi_str_dict, isi_tup_int, isi_tup_bool, isi_tup_str, isi_tup_tuple, isi_tup_list, isi_tup_dict, isi_fz_int, isi_fz_bool, isi_fz_str, isi_fz_tuple, isi_fz_list, isi_fz_dict])
/-! ### roots -/
theorem pow4k {n : Nat} (h : n < 2 ^ 4000) : ((n : Int)).natAbs < 2 ^ 4000 := by rw [Int.natAbs_natCast]; exact h
def s_whole_root : Spec := fun args L R => ∃ n b : Nat, args = [.int n] ∧ n < 2 ^ b ∧ b ≤ 60000000 ∧ ∀ r : Nat, r * r ≤ n → n < (r + 1) * (r + 1) → R (.int r) L
/-! whole_root(number): 0 number, 1 low, 2 high, 3 middle -/
def d_whole_root_2 : WS := sRet (wVar 1)
def d_whole_root_1w_1a_0 : WS := sAsg (gN 1) (wVar 3)
def d_whole_root_1w_1b_0 : WS := sAsg (gN 2) (wVar 3)
def d_whole_root_1w_1 : WS := sIf (wBin oLe (wBin oMul (wVar 3) (wVar 3)) (wVar 0)) d_whole_root_1w_1a_0 d_whole_root_1w_1b_0
def d_whole_root_1w_0 : WS := sSeq (sAsg (gN 3) (wBin oDiv (wBin oAdd (wVar 1) (wVar 2)) (wC (.int 2)))) d_whole_root_1w_1
def d_whole_root_1 : WS := sSeq (sWhile (wBin oGt (wBin oSub (wVar 2) (wVar 1)) (wC (.int 1))) d_whole_root_1w_0) d_whole_root_2
def d_whole_root_0 : WS := sSeq (sPar [1, 2] [wC (.int 0), wBin oAdd (wVar 0) (wC (.int 1))]) d_whole_root_1
/-! root_of(one): 0 one, 1 top, 2 bottom -/
def d_root_of_3 : WS := sRet (wTup [wVar 1, wVar 2])
def d_root_of_2a_0 : WS := sRet (wC .non)
def d_root_of_2 : WS := sSeq (sIf (wOr (wBin oNe (wBin oMul (wVar 1) (wVar 1)) (wBin oIx (wVar 0) (wC (.int 0)))) (wBin oNe (wBin oMul (wVar 2) (wVar 2)) (wBin oIx (wVar 0) (wC (.int 1))))) d_root_of_2a_0 sNil) d_root_of_3
def d_root_of_1 : WS := sSeq (sPar [1, 2] [wCall s_whole_root [wBin oIx (wVar 0) (wC (.int 0))], wCall s_whole_root [wBin oIx (wVar 0) (wC (.int 1))]]) d_root_of_2
def d_root_of_0a_0 : WS := sRet (wC .non)
def d_root_of_0 : WS := sSeq (sIf (wBin oLt (wBin oIx (wVar 0) (wC (.int 0))) (wC (.int 0))) d_root_of_0a_0 sNil) d_root_of_1
theorem noPl2 {i : Int} : NoPl i 2 := noPlS (by decide)
theorem half_nat (a : Nat) : ((a : Int)).fdiv 2 = ((a / 2 : Nat) : Int) := by rw [fd_pos (by decide)]; rfl
theorem mulN {a b c : Nat} (ha : a < 2 ^ c) (hb : b < 2 ^ c) (h : c ≤ 60000000) : MulOk a b := mulOk c c (by rw [Int.natAbs_natCast]; exact ha) (by rw [Int.natAbs_natCast]; exact hb) (by omega)
theorem ok_whole_root : ∀ args L R, args.length = 1 → s_whole_root args L R → d_whole_root_0 (initE 4 args) L { nx := fun _ L' => R .non L', rt := R } := by
  rintro _ L R _ ⟨n, b, rfl, hb, hb', h⟩
  unfold d_whole_root_0
  show sSeq _ _ [some (.int n), none, none, none] L _
  walk_at "ev"
  unfold d_whole_root_1
  walk_at "ev"
  refine ⟨fun m env L' => L' = L ∧ ∃ (lo hi : Nat) (z : Option PV), env = [some (.int n), some (.int lo), some (.int hi), z] ∧ lo * lo ≤ n ∧ n < hi * hi ∧ hi ≤ n + 1 ∧ lo < hi ∧ m = hi - lo, ⟨n + 1, rfl, 0, n + 1, none, rfl, Nat.zero_le _, ?_, Nat.le_refl _, by omega, by omega⟩, ?_⟩
  · exact Nat.lt_of_lt_of_le (Nat.lt_succ_self n) (Nat.le_mul_of_pos_left _ (by omega))
  rintro m env _ ⟨rfl, lo, hi, z, rfl, h1, h2, h3, h4, rfl⟩
  walk_at "ev"
  split
  · rename_i hc
    unfold d_whole_root_1w_0
    walk_at "ev"
    refine ⟨by decide, noPl2, ?_⟩
    rw [← Int.natCast_add, half_nat]
    unfold d_whole_root_1w_1 d_whole_root_1w_1a_0 d_whole_root_1w_1b_0
    walk_at "ev"
    have hm : (lo + hi) / 2 < 2 ^ b := by omega
    refine ⟨mulN hm hm hb', ?_⟩
    have ec : ((((lo + hi) / 2 : Nat) : Int) * (((lo + hi) / 2 : Nat) : Int) ≤ (n : Int)) ↔ (lo + hi) / 2 * ((lo + hi) / 2) ≤ n := by
      rw [← Int.natCast_mul]; omega
    split
    · rename_i hq
      exact ⟨hi - (lo + hi) / 2, by omega, (lo + hi) / 2, hi, _, rfl, ec.mp hq, h2, h3, by omega, rfl⟩
    · rename_i hq
      exact ⟨(lo + hi) / 2 - lo, by omega, lo, (lo + hi) / 2, _, rfl, h1, Nat.lt_of_not_le fun z => hq (ec.mpr z), by omega, by omega, rfl⟩
  · rename_i hc
    unfold d_whole_root_2
    walk_at "ev"
    have e : hi = lo + 1 := by omega
    subst e
    exact h lo h1 h2
/-! a square of fractions -/
theorem sq_num (r : Rat) : (r * r).num = r.num * r.num ∧ (r * r).den = r.den * r.den := by
  have hc : Nat.Coprime (r.num * r.num).natAbs (r.den * r.den) := by
    rw [Int.natAbs_mul]
    exact Nat.Coprime.mul_left (Nat.Coprime.mul_right r.reduced r.reduced) (Nat.Coprime.mul_right r.reduced r.reduced)
  have e : (⟨r.num * r.num, r.den * r.den, Nat.mul_ne_zero r.den_nz r.den_nz, hc⟩ : Rat) = r * r := by
    have := num_den ⟨r.num * r.num, r.den * r.den, Nat.mul_ne_zero r.den_nz r.den_nz, hc⟩
    rw [this]
    show ((r.num * r.num : Int) : Rat) / (((r.den * r.den : Nat) : Int) : Rat) = _
    rw [Int.natCast_mul]
    exact mul_eq r r
  rw [← e]
  exact ⟨rfl, rfl⟩
/-- what root_of tells of q -/
def RootIs (q : Rat) (x : PV) : Prop := (x = .non ∧ ∀ r : Rat, r * r ≠ q) ∨ ∃ r : Rat, x = fr r ∧ 0 ≤ r ∧ r * r = q
theorem root_mk {q : Rat} {a b : Nat} (ha : (a : Int) * a = q.num) (hb : b * b = q.den) : ∃ r : Rat, .tup [.int a, .int b] = fr r ∧ 0 ≤ r ∧ r * r = q := by
  have hb0 : b ≠ 0 := fun e => q.den_nz (by rw [← hb, e])
  have hc : Nat.Coprime a b := by
    have := q.reduced
    rw [← ha, ← hb, Int.natAbs_mul, Int.natAbs_natCast] at this
    have h1 : Nat.gcd a b ∣ Nat.gcd (a * a) (b * b) := Nat.dvd_gcd (Nat.dvd_trans (Nat.gcd_dvd_left _ _) (Nat.dvd_mul_left _ _)) (Nat.dvd_trans (Nat.gcd_dvd_right _ _) (Nat.dvd_mul_left _ _))
    rw [show Nat.gcd (a * a) (b * b) = 1 from this] at h1
    exact Nat.dvd_one.mp h1
  refine ⟨⟨a, b, hb0, hc⟩, rfl, ?_, ?_⟩
  · rw [← Rat.num_nonneg]
    exact Int.natCast_nonneg a
  · have h := sq_num ⟨a, b, hb0, hc⟩
    exact Rat.ext (h.1.trans ha) (h.2.trans hb)
theorem root_no {q r : Rat} (h : r * r = q) : q.num = r.num * r.num ∧ q.den = r.den * r.den := by rw [← h]; exact sq_num r
theorem sqrt_uniq {a n r : Nat} (h1 : a * a ≤ n) (h2 : n < (a + 1) * (a + 1)) (h : r * r = n) : r = a := by
  subst h
  have h3 : a ≤ r := Nat.mul_self_le_mul_self_iff.mp h1
  have h4 : r < a + 1 := Nat.mul_self_lt_mul_self_iff.mp h2
  omega
theorem natAbs_sq (i : Int) : ((i.natAbs * i.natAbs : Nat) : Int) = i * i := by rw [Int.natCast_mul]; exact Int.natAbs_mul_self' i
def s_root_of : Spec := fun args L R => ∃ q : Rat, args = [fr q] ∧ SzB q ∧ ∀ x, RootIs q x → R x L
theorem ok_root_of : ∀ args L R, args.length = 1 → s_root_of args L R → d_root_of_0 (initE 3 args) L { nx := fun _ L' => R .non L', rt := R } := by
  rintro _ L R _ ⟨q, rfl, hq, h⟩
  unfold d_root_of_0 d_root_of_0a_0
  show sSeq _ _ [some (fr q), none, none] L _
  walk_at "ev"
  split
  · rename_i hn
    refine h _ (.inl ⟨rfl, fun r hr => ?_⟩)
    have := (root_no hr).1
    have := natAbs_sq r.num
    omega
  · rename_i hn
    obtain ⟨n, hnn⟩ := Int.eq_ofNat_of_zero_le (show 0 ≤ q.num by omega)
    unfold d_root_of_1
    walk_at "ev"
    refine ⟨n, 4000, by rw [hnn], by have := hq.1; rw [hnn] at this; exact this, by decide, fun a a1 a2 => ?_⟩
    walk_at "ev"
    refine ⟨q.den, 4000, rfl, hq.2, by decide, fun b b1 b2 => ?_⟩
    walk_at "ev"
    unfold d_root_of_2 d_root_of_2a_0 d_root_of_3
    walk_at "ev"
    have ha : a < 2 ^ 4000 := Nat.lt_of_le_of_lt (Nat.le_trans (Nat.le_mul_self a) a1) (by have := hq.1; rw [hnn] at this; exact this)
    have hb : b < 2 ^ 4000 := Nat.lt_of_le_of_lt (Nat.le_trans (Nat.le_mul_self b) b1) hq.2
    refine ⟨mulN ha ha (by decide), ?_⟩
    by_cases e1 : (a : Int) * a = q.num
    · rw [if_pos e1]
      refine ⟨mulN hb hb (by decide), ?_⟩
      by_cases e2 : (b : Int) * b = q.den
      · rw [if_pos e2]
        obtain ⟨r, hr, h0, h1⟩ := root_mk e1 (by exact_mod_cast e2)
        rw [hr]
        exact h _ (.inr ⟨r, rfl, h0, h1⟩)
      · rw [if_neg e2]
        refine h _ (.inl ⟨rfl, fun r hr => e2 ?_⟩)
        have h3 := (root_no hr).2
        have := sqrt_uniq b1 b2 h3.symm
        rw [← this, h3, Int.natCast_mul]
    · rw [if_neg e1]
      refine h _ (.inl ⟨rfl, fun r hr => e1 ?_⟩)
      have h3 := (root_no hr).1
      have h4 : r.num.natAbs * r.num.natAbs = n := by
        have := natAbs_sq r.num
        rw [← h3, hnn] at this
        exact_mod_cast this
      have := sqrt_uniq a1 a2 h4
      rw [← this, h3]
      exact Int.natAbs_mul_self' _
theorem RootIs.uniq {q : Rat} {x y : PV} (hx : RootIs q x) (hy : RootIs q y) : x = y := by
  rcases hx with ⟨rfl, h1⟩ | ⟨r, rfl, h0, h1⟩ <;> rcases hy with ⟨rfl, h2⟩ | ⟨s, rfl, h3, h2⟩
  · rfl
  · exact absurd h2 (h1 s)
  · exact absurd h1 (h2 r)
  · have : r = s := by
      have h : (r - s) * (r + s) = 0 := by grind
      rcases Rat.mul_eq_zero.mp h with h | h
      · grind
      · have h5 : r = 0 := by grind
        have h6 : s = 0 := by grind
        rw [h5, h6]
    rw [this]
theorem rgL_get {lo : Int} {n i : Nat} {t : PV} (h : (rgL lo n)[i]? = some t) : t = .int (lo + (i : Nat)) ∧ i < n := by
  have hi := (List.getElem?_eq_some_iff.mp h).1
  unfold rgL at h hi
  rw [List.length_map, List.length_range] at hi
  rw [List.getElem?_map, List.getElem?_range hi] at h
  cases h
  exact ⟨rfl, hi⟩
theorem fr_unit {s d : Int} (hs : s = 1 ∨ s = -1) (hd : 0 < d) : ∃ q : Rat, .tup [.int s, .int d] = fr q ∧ q.num = s ∧ (q.den : Int) = d := by
  obtain ⟨n, rfl⟩ := Int.eq_ofNat_of_zero_le (Int.le_of_lt hd)
  have hc : s.natAbs.Coprime n := by
    rcases hs with rfl | rfl
    · exact Nat.coprime_one_left n
    · exact Nat.coprime_one_left n
  exact ⟨⟨s, n, by omega, hc⟩, rfl, rfl, rfl⟩
theorem Sz.B {a : Nat} {q : Rat} (h : Sz a q) (ha : a ≤ 4000) : SzB q := h.mono ha
end Mp
namespace Mp
open PySem PySem.Spec PyProof.Rows L2
local macro_rules | `(tactic| walk_at "ev") => `(tactic| try simp only [if_true, if_false, decide_true, decide_false, Bool.not_true, Bool.not_false, Bool.false_eq_true, reduceCtorEq, e_gS, e_gT, e_gsL0, e_gsL1, e_gsN0, e_gsN1, e_r1, e_r1K, e_r2, e_r2K, e_any, e_lsT, e_zpT, e_en, e_zp, e_rv, e_for, e_comp, e_mt, e_wipe0, e_wipe1, fr0, fr1, ix0, ix1, ix2, ix3, bIf_t, bIf_f, bIf_d, bIf_n, oEq_ii, oNe_ii, oEq_bb, oNe_bb, List.set_cons_zero, List.set_cons_succ, List.zip_cons_cons, List.zip_nil_right, List.foldl_cons, List.foldl_nil, e_add, e_addI, e_addt, e_addl, e_sub, e_mul, e_div, e_mod, e_pow, e_oI, e_neg, e_not, e_isn, e_isnn, e_isb, e_isnb, e_isN_non, e_isN_bl, e_isN_int, e_isN_tup, e_isN_ref, e_isN_fz, e_isN_fr, e_isN_str, e_lent, e_lenz, e_abs, e_int, e_intb, e_dvm, e_min, e_max, e_listt, e_listz, e_tupt, e_str, gv_0, gv_s, e_slt, e_slz, e_v0, e_v1, e_v2, e_v3, e_v4, e_v5, e_v6, e_v7, e_v8, e_v9, e_v10, e_v11, e_v12, e_v13, e_v14, e_v15, e_v16, e_v17, e_v18, e_v19, e_v20, e_v21, e_v22, e_v23, e_v24, e_v25, e_v26, e_v27, e_v28, e_v29, e_v30, e_v31, e_v32, e_v33, e_v34, e_v35, e_v36, e_v37, e_v38, e_v39, e_ar0, e_ar1, e_gN, e_par, e_c, e_bin, e_un, e_and, e_or, e_ife, e_chain, e_tup, e_lst, e_bi, e_call, e_sl, e_no, e_so, e_nil, e_seq, e_expr, e_ret, e_retn, e_asg, e_if, e_brk, e_cnt, sz_0, sz_1, sz_2, sz_3, sz_4, sz_5, sz_6, sz_7, sz_8, sz_9, sz_10, sz_11, sz_12, sz_13, sz_14, sz_15, sz_16, sz_17, sz_18, sz_19, true_and, isi_non_int, isi_non_bool, isi_non_str, isi_non_tuple, isi_non_list, isi_non_dict, isi_bl_int, isi_bl_bool, isi_bl_str, isi_bl_tuple, isi_bl_list, isi_bl_dict, isi_int_int, isi_int_bool, isi_int_str, isi_int_tuple, isi_int_list, isi_int_dict, isi_str_int, isi_str_bool, isi_str_str, isi_str_tuple, isi_str_list, isi_str_dict, isi_tup_int, isi_tup_bool, isi_tup_str, isi_tup_tuple, isi_tup_list, isi_tup_dict, isi_fz_int, isi_fz_bool, isi_fz_str, isi_fz_tuple, isi_fz_list, isi_fz_dict])
/-! ### the law's own telling -/
def Small2 (x : PV) : Prop := match x with
  | .tup [.int n, .int d] => min n.natAbs d.natAbs < 1000000
  | _ => True
def sl_due : Spec := fun args L R => ∃ x b, args = [x] ∧ fracB L x = some b ∧ Small2 x ∧ (∀ a c, x = .tup [a, c] → ∃ v, numB L c = some v) ∧ ∀ L', Le L L' → R (.bl b) L'
/-! _law_due(_law_thing): 0 _law_thing, 1 _law_n, 2 _law_d, 3 _law_one, 4 _law_k -/
def l_due_4 : WS := sRet (wBi gAll [wComp [4] (iR2 (wC (.int 2)) (wBin oAdd (wBi gMin [wBi gAbs [wVar 1], wVar 2]) (wC (.int 1)))) (gN 4) (wC (.bl true)) (wOr (wBin oGt (wBin oMod (wVar 1) (wVar 4)) (wC (.int 0))) (wBin oGt (wBin oMod (wVar 2) (wVar 4)) (wC (.int 0))))])
def l_due_3a_0 : WS := sRet (wAnd (wBin oEq (wVar 2) (wC (.int 1))) (wBin oEq (wVar 1) (wC (.int 0))))
def l_due_3 : WS := sSeq (sIf (wOr (wBin oLt (wVar 2) (wC (.int 1))) (wBin oEq (wVar 1) (wC (.int 0)))) l_due_3a_0 sNil) l_due_4
def l_due_2 : WS := sSeq (sAsg (gT 2 (gsL [gN 1, gN 2])) (wVar 0)) l_due_3
def l_due_1a_0 : WS := sRet (wC (.bl false))
def l_due_1 : WS := sSeq (sIf (wUn oNot (wBi gAll [wComp [3] (iAny (wVar 0)) (gN 3) (wC (.bl true)) (wAnd (wBi gIsi [wVar 3, wC (.ty "int")]) (wUn oNot (wBi gIsi [wVar 3, wC (.ty "bool")])))])) l_due_1a_0 sNil) l_due_2
def l_due_0a_0 : WS := sRet (wC (.bl false))
def l_due_0 : WS := sSeq (sIf (wOr (wUn oNot (wBi gIsi [wVar 0, wC (.ty "tuple")])) (wBin oNe (wBi gLen [wVar 0]) (wC (.int 2)))) l_due_0a_0 sNil) l_due_1
theorem gcd_all {n d : Int} (hn : n ≠ 0) (hd : 1 ≤ d) : (((List.range (min n.natAbs d.natAbs - 1)).map fun k => (decide (0 < n.fmod (2 + (k : Nat))) || decide (0 < d.fmod (2 + (k : Nat))))).all id) = decide (Nat.gcd n.natAbs d.natAbs = 1) := by
  have dv : ∀ (m : Int) (k : Nat), (0 < m.fmod (2 + (k : Nat))) ↔ ¬ (2 + k) ∣ m.natAbs := fun m k => by
    rw [fm_pos (by omega)]
    have h0 := Int.emod_nonneg m (show (2 : Int) + (k : Nat) ≠ 0 by omega)
    have h1 : ((2 + k) ∣ m.natAbs) ↔ m % (2 + (k : Nat)) = 0 := by
      rw [← Int.natCast_dvd_natCast, Int.dvd_natAbs, Int.dvd_iff_emod_eq_zero]
      rfl
    rw [h1]
    omega
  rw [List.all_map, Bool.eq_iff_iff, List.all_eq_true, decide_eq_true_eq]
  constructor
  · intro h
    rcases Nat.lt_or_ge (Nat.gcd n.natAbs d.natAbs) 2 with g | g
    · have : 0 < Nat.gcd n.natAbs d.natAbs := Nat.gcd_pos_of_pos_right _ (by omega)
      omega
    · exfalso
      have g1 := Nat.le_of_dvd (by omega) (Nat.gcd_dvd_left n.natAbs d.natAbs)
      have g2 := Nat.le_of_dvd (by omega) (Nat.gcd_dvd_right n.natAbs d.natAbs)
      have := h (Nat.gcd n.natAbs d.natAbs - 2) (List.mem_range.mpr (by omega))
      have e : 2 + (Nat.gcd n.natAbs d.natAbs - 2) = Nat.gcd n.natAbs d.natAbs := by omega
      have this : (decide (0 < n.fmod (2 + ((Nat.gcd n.natAbs d.natAbs - 2 : Nat) : Int))) || decide (0 < d.fmod (2 + ((Nat.gcd n.natAbs d.natAbs - 2 : Nat) : Int)))) = true := this
      rw [Bool.or_eq_true, decide_eq_true_eq, decide_eq_true_eq, dv, dv, e] at this
      rcases this with z | z
      · exact z (Nat.gcd_dvd_left _ _)
      · exact z (Nat.gcd_dvd_right _ _)
  · intro h k hk
    show (decide (0 < n.fmod (2 + (k : Nat))) || decide (0 < d.fmod (2 + (k : Nat)))) = true
    rw [Bool.or_eq_true, decide_eq_true_eq, decide_eq_true_eq, dv, dv]
    by_cases z : (2 + k) ∣ n.natAbs
    · refine .inr fun y => ?_
      have := Nat.dvd_gcd z y
      rw [h] at this
      have := Nat.le_of_dvd (by decide) this
      omega
    · exact .inl z
theorem all_bs {L : Sto} {R : PK} {p : Addr} {bs : List Bool} (h : R (.bl (bs.all id)) (put L p (.l (bs.map PV.bl)))) : gAll [.ref p] (put L p (.l (bs.map PV.bl))) R := ⟨bs, put_same, h⟩
theorem int_test {L : Sto} {R : PK} {x : PV} {u : Bool} (h : numB L x = some u) (k : R (.bl u) L) : wAnd (wBi gIsi [wVar 3, wC (.ty "int")]) (wUn oNot (wBi gIsi [wVar 3, wC (.ty "bool")])) [z0, z1, z2, some x, z4] L R := by
  cases x <;> first | (cases h; walk_at "ev"; exact k) | skip
  · rename_i a
    have hb : (L a).map (fun _ => false) = some u := h
    cases e : L a with
    | none => rw [e] at hb; cases hb
    | some o =>
      rw [e] at hb
      cases hb
      walk_at "ev"
      rw [isi_rd e]
      walk_at "ev"
      exact k
  · cases h
theorem numB_le {L L' : Sto} (hl : Le L L') {x : PV} {u : Bool} (h : numB L x = some u) : numB L' x = some u := by
  cases x <;> first | exact h | skip
  rename_i a
  have hb : (L a).map (fun _ => false) = some u := h
  cases e : L a with
  | none => rw [e] at hb; cases hb
  | some o => rw [e] at hb; cases hb; show (L' a).map _ = _; rw [hl _ _ e]; rfl
theorem ok_l_due : ∀ args L R, args.length = 1 → sl_due args L R → l_due_0 (initE 5 args) L { nx := fun _ L' => R .non L', rt := R } := by
  rintro _ L R hl0 ⟨x, b, rfl, hb, hsm, hv, h⟩
  clear hl0
  unfold l_due_0 l_due_0a_0
  show sSeq _ _ [some x, none, none, none, none] L _
  cases x with
  | non => cases hb; walk_at "ev"; exact h _ .refl
  | bl u => cases hb; walk_at "ev"; exact h _ .refl
  | int u => cases hb; walk_at "ev"; exact h _ .refl
  | str u => cases hb; walk_at "ev"; exact h _ .refl
  | fz u => cases hb; walk_at "ev"; exact h _ .refl
  | ty u => cases hb
  | ref p =>
    have hb : (L p).map (fun _ => false) = some b := hb
    cases e : L p with
    | none => rw [e] at hb; cases hb
    | some o =>
      rw [e] at hb
      cases hb
      walk_at "ev"
      rw [isi_rt e]
      walk_at "ev"
      exact h _ .refl
  | tup xs =>
    match xs, hb, hsm with
    | [], hb, _ => cases hb; walk_at "ev"; exact h _ .refl
    | [a], hb, _ => cases hb; walk_at "ev"; exact h _ .refl
    | a :: c :: d :: r, hb, _ =>
      cases hb
      walk_at "ev"
      rw [if_neg (by rw [List.length_cons, List.length_cons, List.length_cons]; omega)]
      exact h _ .refl
    | [a, c], hb, hsm =>
      walk_at "ev"
      rw [if_pos (show (([a, c] : List PV).length : Int) = 2 from rfl)]
      unfold l_due_1 l_due_1a_0
      walk_at "ev"
      have hu : ∃ u, numB L a = some u := by
        cases ha : numB L a with
        | none => simp only [fracB, ha] at hb; cases hb
        | some u => exact ⟨u, rfl⟩
      obtain ⟨u, ha⟩ := hu
      obtain ⟨v, hc⟩ := hv a c rfl
      refine ⟨trivial, ?_⟩
      show wAnd (wBi gIsi [wVar 3, wC (.ty "int")]) (wUn oNot (wBi gIsi [wVar 3, wC (.ty "bool")])) [some (.tup [a, c]), none, none, some a, none] L _
      refine int_test ha ⟨by show 0 < 16777216; decide, trivial, ?_⟩
      show wAnd (wBi gIsi [wVar 3, wC (.ty "int")]) (wUn oNot (wBi gIsi [wVar 3, wC (.ty "bool")])) [some (.tup [a, c]), none, none, some c, none] L _
      refine int_test hc ⟨by show 1 < 16777216; decide, trivial, ?_⟩
      intro p hp
      refine all_bs (bs := [u, v]) ?_
      have hl1 : Le L (put L p (.l ([u, v].map PV.bl))) := Le.new hp
      generalize put L p _ = L1 at *
      rw [show [u, v].all id = (u && v) by simp]
      cases u with
      | false =>
        simp only [fracB, ha] at hb
        cases hb
        walk_at "ev"
        exact h _ hl1
      | true =>
      cases v with
      | false =>
        simp only [fracB, ha, hc] at hb
        cases hb
        walk_at "ev"
        exact h _ hl1
      | true =>
        have ia : ∃ n, a = .int n := by cases a <;> first | exact ⟨_, rfl⟩ | (simp [numB] at ha)
        have ic : ∃ n, c = .int n := by cases c <;> first | exact ⟨_, rfl⟩ | (simp [numB] at hc)
        obtain ⟨n, rfl⟩ := ia
        obtain ⟨d, rfl⟩ := ic
        have hb : some (decide (1 ≤ d) && decide (Nat.gcd n.natAbs d.natAbs = 1)) = some b := hb
        cases hb
        have hsm : min n.natAbs d.natAbs < 1000000 := hsm
        walk_at "ev"
        unfold l_due_2
        walk_at "ev"
        refine ⟨rfl, ?_⟩
        walk_at "ev"
        unfold l_due_3 l_due_3a_0
        walk_at "ev"
        by_cases hd : d < 1
        · rw [if_pos hd]
          rw [if_neg (show ¬ d = 1 by omega)]
          have h := h _ hl1
          rw [decide_eq_false (show ¬ 1 ≤ d by omega), Bool.false_and] at h
          exact h
        · rw [if_neg hd]
          by_cases hn : n = 0
          · rw [if_pos hn]
            have h := h _ hl1
            subst hn
            rw [decide_eq_true (show 1 ≤ d by omega), Bool.true_and] at h
            by_cases h1 : d = 1
            · rw [if_pos h1]
              subst h1
              exact h
            · rw [if_neg h1]
              rw [show decide (Nat.gcd (0 : Int).natAbs d.natAbs = 1) = false from decide_eq_false (by rw [show (0 : Int).natAbs = 0 from rfl, Nat.gcd_zero_left]; omega)] at h
              exact h
          · rw [if_neg hn]
            unfold l_due_4
            walk_at "ev"
            have em : min ((n.natAbs : Nat) : Int) d = ((min n.natAbs d.natAbs : Nat) : Int) := by omega
            rw [em]
            refine ⟨⟨by decide, by decide⟩, ⟨by omega, by omega⟩, ?_⟩
            rw [show (((min n.natAbs d.natAbs : Nat) : Int) + 1 - 2).toNat = min n.natAbs d.natAbs - 1 by omega]
            have hrl : (rgL 2 (min n.natAbs d.natAbs - 1)).length = min n.natAbs d.natAbs - 1 := by unfold rgL; rw [List.length_map, List.length_range]
            refine comp_i (fun i acc l => l = L1 ∧ acc = ((List.range i).map fun k => PV.bl (decide (0 < n.fmod (2 + (k : Nat))) || decide (0 < d.fmod (2 + (k : Nat)))))) ⟨rfl, rfl⟩ (fun _ _ _ _ => trivial) (by show (rgL _ _).length < 16777216; omega) ?_ ?_
            · rintro i t acc l K hx ⟨rfl, rfl⟩ hi hK
              obtain ⟨rfl, hin⟩ := rgL_get hx
              walk_at "ev"
              have go : ∀ w : Bool, w = (decide (0 < n.fmod (2 + (i : Nat))) || decide (0 < d.fmod (2 + (i : Nat)))) → ((List.range i).map fun k => PV.bl (decide (0 < n.fmod (2 + (k : Nat))) || decide (0 < d.fmod (2 + (k : Nat))))).length < sizeLine ∧ K (((List.range i).map fun k => PV.bl (decide (0 < n.fmod (2 + (k : Nat))) || decide (0 < d.fmod (2 + (k : Nat))))) ++ [.bl w]) l := by
                intro w hw
                refine ⟨by rw [List.length_map, List.length_range]; show i < 16777216; omega, hK _ _ (by rw [List.length_append, List.length_map, List.length_range]; exact Nat.le_refl _) ⟨rfl, ?_⟩⟩
                rw [hw, List.range_succ, List.map_append]
                rfl
              refine ⟨by omega, ?_⟩
              by_cases q1 : 0 < n.fmod (2 + (i : Nat))
              · rw [if_pos q1]
                exact go true (by rw [decide_eq_true q1]; rfl)
              · rw [if_neg q1]
                refine ⟨by omega, ?_⟩
                exact go _ (by rw [decide_eq_false q1]; rfl)
            · rintro acc l ⟨rfl, rfl⟩ p2 hp2
              rw [hrl]
              have e : ((List.range (min n.natAbs d.natAbs - 1)).map fun k => PV.bl (decide (0 < n.fmod (2 + (k : Nat))) || decide (0 < d.fmod (2 + (k : Nat))))) = (((List.range (min n.natAbs d.natAbs - 1)).map fun k => (decide (0 < n.fmod (2 + (k : Nat))) || decide (0 < d.fmod (2 + (k : Nat))))).map PV.bl) := by rw [List.map_map]; rfl
              rw [e]
              refine all_bs ?_
              rw [gcd_all hn (by omega)]
              have h := h _ (hl1.trans (Le.new (o := .l (((List.range (min n.natAbs d.natAbs - 1)).map fun k => (decide (0 < n.fmod (2 + (k : Nat))) || decide (0 < d.fmod (2 + (k : Nat))))).map PV.bl)) hp2))
              rw [decide_eq_true (show 1 ≤ d by omega), Bool.true_and] at h
              exact h
/-! ### things that are bent -/
def Sol (b : Addr) (L : Sto) : PV → Prop
  | .ref p => p ≠ b ∧ ∃ o, L p = some o
  | .ty _ => False
  | _ => True
def Thg (b : Addr) (L : Sto) : PV → Prop
  | .tup [a, c] => Sol b L a ∧ Sol b L c ∧ ∀ n d, a = .int n → c = .int d → min n.natAbs d.natAbs < 1000000
  | x => Sol b L x
theorem Sol.leb {b : Addr} {L L' : Sto} (hl : LeB b L L') {x : PV} (h : Sol b L x) : Sol b L' x := by
  cases x <;> first | exact h | skip
  obtain ⟨h1, o, h2⟩ := h
  exact ⟨h1, o, hl _ _ h1 h2⟩
theorem Thg.leb {b : Addr} {L L' : Sto} (hl : LeB b L L') {x : PV} (h : Thg b L x) : Thg b L' x := by
  cases x with
  | tup xs =>
    match xs, h with
    | [], h => exact h
    | [_], h => exact h
    | _ :: _ :: _ :: _, h => exact h
    | [a, c], h => exact ⟨h.1.leb hl, h.2.1.leb hl, h.2.2⟩
  | ref p => exact Sol.leb (x := .ref p) hl h
  | _ => exact h
theorem Sol.num {b : Addr} {L : Sto} {x : PV} (h : Sol b L x) : ∃ u, numB L x = some u := by
  cases x <;> first | exact ⟨_, rfl⟩ | skip
  · obtain ⟨_, o, e⟩ := h
    exact ⟨false, by show (L _).map _ = _; rw [e]; rfl⟩
  · exact h.elim
theorem Thg.ok {b : Addr} {L : Sto} {x : PV} (h : Thg b L x) : (∃ u, fracB L x = some u) ∧ Small2 x ∧ ∀ a c, x = .tup [a, c] → ∃ v, numB L c = some v := by
  cases x with
  | tup xs =>
    match xs, h with
    | [], h => exact ⟨⟨_, rfl⟩, trivial, fun a c e => (by cases e)⟩
    | [_], h => exact ⟨⟨_, rfl⟩, (by unfold Small2; split <;> first | trivial | (rename_i e; cases e)), fun a c e => (by cases e)⟩
    | _ :: _ :: _ :: _, h => exact ⟨⟨_, rfl⟩, (by unfold Small2; split <;> first | trivial | (rename_i e; cases e)), fun a c e => (by cases e)⟩
    | [a, c], h =>
      obtain ⟨u, hu⟩ := h.1.num
      obtain ⟨v, hv⟩ := h.2.1.num
      refine ⟨?_, ?_, fun a' c' e => by cases e; exact ⟨v, hv⟩⟩
      · cases u
        · exact ⟨false, by simp only [fracB, hu]⟩
        · cases v
          · exact ⟨false, by simp only [fracB, hu, hv]⟩
          · cases a <;> first | (simp [numB] at hu; done) | skip
            cases c <;> first | (simp [numB] at hv; done) | skip
            exact ⟨_, rfl⟩
      · unfold Small2
        split
        · rename_i n d e
          cases e
          exact h.2.2 _ _ rfl rfl
        · trivial
  | ref p =>
    obtain ⟨_, o, e⟩ := h
    exact ⟨⟨false, by show (L p).map _ = _; rw [e]; rfl⟩, trivial, fun a c e => (by cases e)⟩
  | ty u => exact h.elim
  | _ => exact ⟨⟨_, rfl⟩, trivial, fun a c e => (by cases e)⟩
def sl_bent : Spec := fun args L R => ∃ (b : Addr) (q : Rat) (n : Int), args = [.ref b, fr q] ∧ Sz 14 q ∧ Bx b n L ∧ n < 1152921504606840000 ∧ ∀ x L', Thg b L' x → Bx b (n + 6) L' → LeB b L L' → R x L'
/-! _law_bent(_law_box, _law_one): 0 _law_box, 1 _law_one, 2 _law_way, 3 _law_at, 4 _law_by, 5 _law_n, 6 _law_d, 7 _law_many, 8 _law_odd, 9 _law_some -/
def l_bent_9 : WS := sRet (wBin oIx (wVar 9) (wCall sl_take [wVar 0, wC (.int 8)]))
def l_bent_8 : WS := sSeq (sAsg (gN 9) (wLst [wLst [wVar 5, wVar 6], wTup [wVar 5], wTup [wVar 5, wVar 6, wC (.int 1)], wTup [wVar 1], wTup [wTup [wTup [wTup [wTup [wTup [wVar 1, wVar 1]]]]]], wTup [wVar 1, wVar 6], wBi gStr [wVar 1], wC .non])) l_bent_9
def l_bent_7a_0 : WS := sRet (wBin oIx (wLst [wTup [wVar 8, wVar 6], wTup [wVar 5, wVar 8]]) (wVar 3))
def l_bent_7 : WS := sSeq (sIf (wBin oLt (wVar 2) (wC (.int 7))) l_bent_7a_0 sNil) l_bent_8
def l_bent_6 : WS := sSeq (sAsg (gN 8) (wBin oIx (wLst [wC (.bl true), wC (.bl false), wC .non, wC (.str "1"), wTup [wC (.int 1)], wLst [wC (.int 1)], wTup [], wBin oPow (wC (.int 10)) (wC (.int 20))]) (wCall sl_take [wVar 0, wC (.int 8)]))) l_bent_7
def l_bent_5a_1 : WS := sRet (wBin oIx (wLst [wTup [wBin oMul (wVar 5) (wVar 7), wBin oMul (wVar 6) (wVar 7)], wTup [wVar 6, wVar 5]]) (wVar 3))
def l_bent_5a_0 : WS := sSeq (sAsg (gN 7) (wBin oAdd (wC (.int 2)) (wCall sl_take [wVar 0, wC (.int 6)]))) l_bent_5a_1
def l_bent_5 : WS := sSeq (sIf (wBin oEq (wVar 2) (wC (.int 4))) l_bent_5a_0 sNil) l_bent_6
def l_bent_4a_0 : WS := sRet (wBin oIx (wLst [wTup [wC (.int 0), wVar 6], wTup [wVar 5, wC (.int 0)]]) (wVar 3))
def l_bent_4 : WS := sSeq (sIf (wBin oEq (wVar 2) (wC (.int 3))) l_bent_4a_0 sNil) l_bent_5
def l_bent_3a_0 : WS := sRet (wBin oIx (wLst [wTup [wUn oNeg (wVar 5), wVar 6], wTup [wVar 5, wUn oNeg (wVar 6)]]) (wVar 3))
def l_bent_3 : WS := sSeq (sIf (wBin oEq (wVar 2) (wC (.int 2))) l_bent_3a_0 sNil) l_bent_4
def l_bent_2a_0 : WS := sRet (wBin oIx (wLst [wTup [wBin oAdd (wVar 5) (wVar 4), wVar 6], wTup [wVar 5, wBin oAdd (wVar 6) (wVar 4)]]) (wVar 3))
def l_bent_2 : WS := sSeq (sIf (wBin oLt (wVar 2) (wC (.int 2))) l_bent_2a_0 sNil) l_bent_3
def l_bent_1 : WS := sSeq (sAsg (gT 2 (gsL [gN 5, gN 6])) (wVar 1)) l_bent_2
def l_bent_0 : WS := sSeq (sPar [2, 3, 4] [wCall sl_take [wVar 0, wC (.int 9)], wCall sl_take [wVar 0, wC (.int 2)], wBin oIx (wLst [wC (.int 1), wC (.int (-1)), wC (.int 2), wC (.int (-2)), wC (.int 10)]) (wCall sl_take [wVar 0, wC (.int 5)])]) l_bent_1
theorem ixl_i {L : Sto} {R : PK} {p : Addr} {xs : List PV} {j : Int} {P : PV → Prop} (e : L p = some (.l xs)) (h0 : 0 ≤ j) (h1 : j < xs.length) (hx : ∀ x ∈ xs, P x) (k : ∀ x, P x → R x L) : oIx (.ref p) (.int j) L R := by
  obtain ⟨i, rfl⟩ := Int.eq_ofNat_of_zero_le h0
  have hi : i < xs.length := by omega
  exact ixl_nat e (List.getElem?_eq_getElem hi) (k _ (hx _ (List.getElem_mem hi)))
theorem e_gTf {q : Rat} {env : Env} {L : Sto} {gs : WGs} {R : Env → Sto → Prop} : gT 2 gs (fr q) env L R = gs [.int q.num, .int q.den] env L R := propext ⟨fun h => h.2, fun h => ⟨rfl, h⟩⟩
theorem ok_l_bent : ∀ args L R, args.length = 2 → sl_bent args L R → l_bent_0 (initE 10 args) L { nx := fun _ L' => R .non L', rt := R } := by
  rintro _ L R _ ⟨b, q, n, rfl, hq, hb, hn, h⟩
  have q1 : q.num.natAbs < 16384 := hq.1
  have q2 : q.den < 16384 := hq.2
  unfold l_bent_0
  show sSeq _ _ [some (.ref b), some (fr q), none, none, none, none, none, none, none, none] L _
  walk_at "ev"
  refine ⟨b, 9, n, rfl, hb, by omega, by decide, denS (by decide), fun way L1 w0 w1 b1 l1 => ⟨b, 2, _, rfl, b1, by omega, by decide, denS (by decide), fun at' L2 a0 a1 b2 l2 => ?_⟩⟩
  walk_at "ev"
  intro p hp
  have b3 := b2.new (o := .l [.int 1, .int (-1), .int 2, .int (-2), .int 10]) hp
  have l3 := (l1.trans l2).le (o := .l [.int 1, .int (-1), .int 2, .int (-2), .int 10]) hp
  have hbp : b ≠ p := by
    obtain ⟨c0, c1, c2, e, _⟩ := b2
    exact ne_adr hp e
  refine ⟨b, 5, _, rfl, b3, by omega, by decide, denS (by decide), fun s L5 s0 s1 b5 l5 => ?_⟩
  have e5 := l5 _ _ hbp.symm put_same
  have l5 := l3.trans l5
  refine ixl_i (P := fun x => ∃ i : Int, x = .int i ∧ i.natAbs ≤ 10) e5 s0 s1 (by
    intro x hx
    simp only [List.mem_cons, List.not_mem_nil, or_false] at hx
    rcases hx with rfl | rfl | rfl | rfl | rfl <;> exact ⟨_, rfl, by decide⟩) ?_
  rintro _ ⟨by', rfl, hby⟩
  walk_at "ev"
  unfold l_bent_1
  walk_at "ev"
  rw [e_gTf]
  walk_at "ev"
  have pick : ∀ m L6 xs (j : Int), Bx b m L6 → m ≤ n + 6 → LeB b L L6 → 0 ≤ j → j < xs.length → (∀ x ∈ xs, Thg b L6 x) → ∀ p, L6 p = none → oIx (.ref p) (.int j) (put L6 p (.l xs)) R := by
    intro m L6 xs j hb6 hm hl6 h0 h1 hx p hp
    refine ixl_i (P := Thg b L6) put_same h0 h1 hx fun x hx => ?_
    exact h x _ (hx.leb ((Le.new hp).b b)) ((hb6.mono hm).new hp) (hl6.le hp)
  have two : ∀ m L6 (x y : PV), Bx b m L6 → m ≤ n + 6 → LeB b L L6 → Thg b L6 x → Thg b L6 y → ∀ p, L6 p = none → oIx (.ref p) (.int at') (put L6 p (.l [x, y])) R := fun m L6 x y hb6 hm hl6 hx hy p hp =>
    pick m L6 [x, y] at' hb6 hm hl6 a0 (by show at' < 2; omega) (by intro z hz; simp only [List.mem_cons, List.not_mem_nil, or_false] at hz; rcases hz with rfl | rfl <;> assumption) p hp
  have ti : ∀ L6 (i j : Int), min i.natAbs j.natAbs < 1000000 → Thg b L6 (.tup [.int i, .int j]) := fun L6 i j hij => ⟨trivial, trivial, fun n d e f => by cases e; cases f; exact hij⟩
  unfold l_bent_2 l_bent_2a_0
  walk_at "ev"
  split
  · exact two _ _ _ _ b5 (by omega) l5 (ti _ _ _ (by omega)) (ti _ _ _ (by omega))
  unfold l_bent_3 l_bent_3a_0
  walk_at "ev"
  split
  · exact two _ _ _ _ b5 (by omega) l5 (ti _ _ _ (by omega)) (ti _ _ _ (by omega))
  unfold l_bent_4 l_bent_4a_0
  walk_at "ev"
  split
  · exact two _ _ _ _ b5 (by omega) l5 (ti _ _ _ (by omega)) (ti _ _ _ (by omega))
  unfold l_bent_5 l_bent_5a_0
  walk_at "ev"
  split
  · refine ⟨b, 6, _, rfl, b5, by omega, by decide, denS (by decide), fun m L6 m0 m1 b6 l6 => ?_⟩
    walk_at "ev"
    unfold l_bent_5a_1
    walk_at "ev"
    refine ⟨mulR (by omega), mulR (by omega), ?_⟩
    have hd : ((q.den : Int) * (2 + m)).natAbs < 1000000 := by
      rw [Int.natAbs_mul, Int.natAbs_natCast]
      have : q.den * (2 + m).natAbs ≤ 16384 * 7 := Nat.mul_le_mul (by omega) (by omega)
      omega
    exact two _ _ _ _ b6 (by omega) (l5.trans l6) (ti _ _ _ (by omega)) (ti _ _ _ (by omega))
  unfold l_bent_6
  walk_at "ev"
  intro p6 hp6
  refine ⟨powOk 4 (by decide) (by decide) (by decide), ?_⟩
  intro p7 hp7
  have b7 := (b5.new (o := .l [.int 1]) hp6).new (o := .l [.bl true, .bl false, .non, .str "1", .tup [.int 1], .ref p6, .tup [], .int (10 ^ (20 : Int).toNat)]) hp7
  have l7 := (l5.le (o := .l [.int 1]) hp6).le (o := .l [.bl true, .bl false, .non, .str "1", .tup [.int 1], .ref p6, .tup [], .int (10 ^ (20 : Int).toNat)]) hp7
  have n6 : p6 ≠ b := by
    obtain ⟨c0, c1, c2, e, _⟩ := b5
    exact (ne_adr hp6 e).symm
  have n7 : p7 ≠ b := by
    obtain ⟨c0, c1, c2, e, _⟩ := b5.new (o := .l [.int 1]) hp6
    exact (ne_adr hp7 e).symm
  have e6 := (Le.new (o := .l [.bl true, .bl false, .non, .str "1", .tup [.int 1], .ref p6, .tup [], .int (10 ^ (20 : Int).toNat)]) hp7) _ _ (put_same (L := L5) (a := p6) (o := .l [.int 1]))
  refine ⟨b, 8, _, rfl, b7, by omega, by decide, denS (by decide), fun t L8 t0 t1 b8 l8 => ?_⟩
  have e8 := l8 _ _ n7 put_same
  have e86 := l8 _ _ n6 e6
  have l8 := l7.trans l8
  refine ixl_i (P := fun x => Sol b L8 x) e8 t0 (by show t < 8; omega) (by
    intro x hx
    simp only [List.mem_cons, List.not_mem_nil, or_false] at hx
    rcases hx with rfl | rfl | rfl | rfl | rfl | rfl | rfl | rfl
    · trivial
    · trivial
    · trivial
    · trivial
    · trivial
    · exact ⟨n6, _, e86⟩
    · trivial
    · trivial) ?_
  intro odd hodd
  walk_at "ev"
  unfold l_bent_7 l_bent_7a_0
  walk_at "ev"
  split
  · refine two _ _ _ _ b8 (by omega) l8 ⟨hodd, trivial, fun n d e f => ?_⟩ ⟨trivial, hodd, fun n d e f => ?_⟩
    · cases f; omega
    · cases e; omega
  unfold l_bent_8
  walk_at "ev"
  intro p9 hp9
  have n9 : p9 ≠ b := by
    obtain ⟨c0, c1, c2, e, _⟩ := b8
    exact (ne_adr hp9 e).symm
  refine ⟨[q.num, q.den], rfl, by intro i hi; simp only [List.mem_cons, List.not_mem_nil, or_false] at hi; rcases hi with rfl | rfl <;> omega, by show 2 ≤ 100; decide, fun tx => ?_⟩
  walk_at "ev"
  intro p10 hp10
  unfold l_bent_9
  walk_at "ev"
  have b9 := b8.new (o := .l [.int q.num, .int q.den]) hp9
  have n10 : p10 ≠ b := by
    obtain ⟨c0, c1, c2, e, _⟩ := b9
    exact (ne_adr hp10 e).symm
  have b10 := b9.new (o := .l [.ref p9, .tup [.int q.num], .tup [.int q.num, .int q.den, .int 1], .tup [fr q], .tup [.tup [.tup [.tup [.tup [.tup [fr q, fr q]]]]]], .tup [fr q, .int q.den], .str tx, .non]) hp10
  have l10 := (l8.le (o := .l [.int q.num, .int q.den]) hp9).le (o := .l [.ref p9, .tup [.int q.num], .tup [.int q.num, .int q.den, .int 1], .tup [fr q], .tup [.tup [.tup [.tup [.tup [.tup [fr q, fr q]]]]]], .tup [fr q, .int q.den], .str tx, .non]) hp10
  have e9 := (Le.new (o := .l [.ref p9, .tup [.int q.num], .tup [.int q.num, .int q.den, .int 1], .tup [fr q], .tup [.tup [.tup [.tup [.tup [.tup [fr q, fr q]]]]]], .tup [fr q, .int q.den], .str tx, .non]) hp10) _ _ (put_same (L := L8) (a := p9) (o := .l [.int q.num, .int q.den]))
  refine ⟨b, 8, _, rfl, b10, by omega, by decide, denS (by decide), fun t L11 t0 t1 b11 l11 => ?_⟩
  have e11 := l11 _ _ n10 put_same
  have e119 := l11 _ _ n9 e9
  refine ixl_i (P := fun x => Thg b L11 x) e11 t0 (by show t < 8; omega) (by
    intro x hx
    simp only [List.mem_cons, List.not_mem_nil, or_false] at hx
    rcases hx with rfl | rfl | rfl | rfl | rfl | rfl | rfl | rfl
    · exact ⟨n9, _, e119⟩
    · trivial
    · trivial
    · trivial
    · trivial
    · exact ⟨trivial, trivial, fun n d e f => by cases e⟩
    · trivial
    · trivial) ?_
  intro x hx
  exact h x _ hx (b11.mono (by omega)) (l10.trans l11)
def sl_law : Spec := fun args L R => ∃ ns : List Int, args = [.fz ns] ∧ ∀ L', R (.bl true) L'
/-! law(_law_script): 0 _law_script, 1 _law_cells, 2 _law_k, 3 _law_box, 4 _law_one, 5 _law_things, 6 _law_thing, 7 _law_found, 8 _law_turn -/
def l_law_2 : WS := sRet (wC (.bl true))
def l_law_1f_4f_1a_0 : WS := sRet (wC (.bl false))
def l_law_1f_4f_1 : WS := sIf (wOr (wUn oNot (wBi gIsi [wVar 7, wC (.ty "bool")])) (wBin oNe (wVar 7) (wCall sl_due [wVar 6]))) l_law_1f_4f_1a_0 sNil
def l_law_1f_4f_0 : WS := sSeq (sAsg (gN 7) (wCall s_is_fraction [wVar 6])) l_law_1f_4f_1
def l_law_1f_4 : WS := sFor (iAny (wVar 5)) (gN 6) l_law_1f_4f_0
def l_law_1f_3 : WS := sSeq (sAsg (gN 5) (wBin oAdd (wVar 5) (wComp [8] (iR1 (wC (.int 12))) (gN 8) (wC (.bl true)) (wCall sl_bent [wVar 3, wVar 4])))) l_law_1f_4
def l_law_1f_2 : WS := sSeq (sAsg (gN 5) (wLst [wVar 4, wC .non, wC (.bl true), wC (.bl false), wC (.int 0), wC (.int 1), wC (.str ""), wC (.str "1/2"), wTup [], wLst [], wTup [wC (.int 1), wC (.int 1)], wTup [wC (.int 0), wC (.int 1)], wTup [wC (.int 0), wC (.int 2)], wTup [wC (.int 1), wC (.bl true)], wTup [wC (.bl true), wC (.int 1)]])) l_law_1f_3
def l_law_1f_1 : WS := sSeq (sAsg (gN 4) (wCall sl_fraction_by [wVar 3])) l_law_1f_2
def l_law_1f_0 : WS := sSeq (sAsg (gN 3) (wCall sl_box_of [wVar 1, wVar 2])) l_law_1f_1
def l_law_1 : WS := sSeq (sFor (iR1 (wBi gLen [wVar 1])) (gN 2) l_law_1f_0) l_law_2
def l_law_0 : WS := sSeq (sAsg (gN 1) (wCall sl_folded [wVar 0, wC (.int 6)])) l_law_1
theorem Thg.le {b : Addr} {L L' : Sto} (hl : Le L L') {x : PV} (h : Thg b L x) : Thg b L' x := h.leb (hl.b b)
theorem law_4 {z0 z1 z2 z4 z6 z7 z8 : Option PV} {b p : Addr} {xs : List PV} {L : Sto} {N : Nd} (e : L p = some (.l xs)) (hx : ∀ x ∈ xs, Thg b L x) (h : ∀ z6 z7 l, Le L l → N.nx [z0, z1, z2, some (.ref b), z4, some (.ref p), z6, z7, z8] l) :
    l_law_1f_4 [z0, z1, z2, some (.ref b), z4, some (.ref p), z6, z7, z8] L N := by
  unfold l_law_1f_4
  walk_at "ev"
  rw [e_lsK e]
  refine loop_i (fun i e l => Le L l ∧ ∃ z6 z7, e = [z0, z1, z2, some (.ref b), z4, some (.ref p), z6, z7, z8]) ⟨.refl, _, _, rfl⟩ (fun i e' l q => q.1 _ _ e) ?_ ?_
  · rintro i t e' l K hi ⟨hl, z6, z7, rfl⟩ hK
    have ht := (hx _ (List.mem_of_getElem? hi)).le hl
    obtain ⟨⟨u, hu⟩, hs, hv⟩ := ht.ok
    walk_at "ev"
    unfold l_law_1f_4f_0
    walk_at "ev"
    refine ⟨t, u, rfl, hu, ?_⟩
    unfold l_law_1f_4f_1 l_law_1f_4f_1a_0
    walk_at "ev"
    refine ⟨t, u, rfl, hu, hs, hv, fun l1 k1 => ?_⟩
    walk_at "ev"
    exact hK _ _ ⟨hl.trans k1, _, _, rfl⟩
  · rintro e' l ⟨hl, z6, z7, rfl⟩
    exact h _ _ _ hl
theorem law_2 {z0 z1 z2 z5 z6 z7 z8 : Option PV} {b : Addr} {n : Int} {q : Rat} {L : Sto} {N : Nd} (hq : Sz 14 q) (hb : Bx b n L) (hn : n < 100) (h : ∀ z5 z6 z7 z8 l, LeB b L l → N.nx [z0, z1, z2, some (.ref b), some (fr q), z5, z6, z7, z8] l) :
    l_law_1f_2 [z0, z1, z2, some (.ref b), some (fr q), z5, z6, z7, z8] L N := by
  have q1 : q.num.natAbs < 16384 := hq.1
  have q2 : q.den < 16384 := hq.2
  unfold l_law_1f_2
  walk_at "ev"
  intro p1 hp1
  intro p2 hp2
  have bb : ∃ o, L b = some o := by
    obtain ⟨c0, c1, c2, e, _⟩ := hb
    exact ⟨_, e⟩
  obtain ⟨ob, eb⟩ := bb
  have n1 : p1 ≠ b := (ne_adr hp1 eb).symm
  have n2 : p2 ≠ b := (ne_adr hp2 (Le.new hp1 _ _ eb)).symm
  have b2 := (hb.new (o := .l []) hp1).new (o := .l [fr q, .non, .bl true, .bl false, .int 0, .int 1, .str "", .str "1/2", .tup [], .ref p1, .tup [.int 1, .int 1], .tup [.int 0, .int 1], .tup [.int 0, .int 2], .tup [.int 1, .bl true], .tup [.bl true, .int 1]]) hp2
  have l2 : LeB b L _ := ((Le.new (o := .l []) hp1).trans (Le.new (o := .l [fr q, .non, .bl true, .bl false, .int 0, .int 1, .str "", .str "1/2", .tup [], .ref p1, .tup [.int 1, .int 1], .tup [.int 0, .int 1], .tup [.int 0, .int 2], .tup [.int 1, .bl true], .tup [.bl true, .int 1]]) hp2)).b b
  have e1 := (Le.new (o := .l [fr q, .non, .bl true, .bl false, .int 0, .int 1, .str "", .str "1/2", .tup [], .ref p1, .tup [.int 1, .int 1], .tup [.int 0, .int 1], .tup [.int 0, .int 2], .tup [.int 1, .bl true], .tup [.bl true, .int 1]]) hp2) _ _ (put_same (L := L) (a := p1) (o := .l []))
  have e2 := put_same (L := put L p1 (.l [])) (a := p2) (o := .l [fr q, .non, .bl true, .bl false, .int 0, .int 1, .str "", .str "1/2", .tup [], .ref p1, .tup [.int 1, .int 1], .tup [.int 0, .int 1], .tup [.int 0, .int 2], .tup [.int 1, .bl true], .tup [.bl true, .int 1]])
  generalize put (put L p1 _) p2 _ = L2 at *
  have t2 : ∀ x ∈ [fr q, .non, .bl true, .bl false, .int 0, .int 1, .str "", .str "1/2", .tup [], .ref p1, .tup [.int 1, .int 1], .tup [.int 0, .int 1], .tup [.int 0, .int 2], .tup [.int 1, .bl true], .tup [.bl true, .int 1]], Thg b L2 x := by
    intro x hx
    simp only [List.mem_cons, List.not_mem_nil, or_false] at hx
    rcases hx with rfl | rfl | rfl | rfl | rfl | rfl | rfl | rfl | rfl | rfl | rfl | rfl | rfl | rfl | rfl
    · exact ⟨trivial, trivial, fun n d e f => by cases e; cases f; omega⟩
    · trivial
    · trivial
    · trivial
    · trivial
    · trivial
    · trivial
    · trivial
    · trivial
    · exact ⟨n1, _, e1⟩
    · exact ⟨trivial, trivial, fun n d e f => by cases e; cases f; decide⟩
    · exact ⟨trivial, trivial, fun n d e f => by cases e; cases f; decide⟩
    · exact ⟨trivial, trivial, fun n d e f => by cases e; cases f; decide⟩
    · exact ⟨trivial, trivial, fun n d e f => by cases f⟩
    · exact ⟨trivial, trivial, fun n d e f => by cases e⟩
  have hxl : ([fr q, .non, .bl true, .bl false, .int 0, .int 1, .str "", .str "1/2", .tup [], .ref p1, .tup [.int 1, .int 1], .tup [.int 0, .int 1], .tup [.int 0, .int 2], .tup [.int 1, .bl true], .tup [.bl true, .int 1]] : List PV).length ≤ 100 := by show 15 ≤ 100; decide
  generalize [fr q, .non, .bl true, .bl false, .int 0, .int 1, .str "", .str "1/2", .tup [], .ref p1, .tup [.int 1, .int 1], .tup [.int 0, .int 1], .tup [.int 0, .int 2], .tup [.int 1, .bl true], .tup [.bl true, .int 1]] = xs at *
  have hlen : xs.length ≤ 100 := hxl
  unfold l_law_1f_3
  walk_at "ev"
  refine ⟨⟨by decide, by decide⟩, ?_⟩
  refine comp_i (fun i acc l => LeB b L2 l ∧ Bx b (n + 6 * i) l ∧ acc.length = i ∧ ∀ x ∈ acc, Thg b l x) ⟨fun a o _ e => e, b2.mono (by omega), rfl, by simp⟩ (fun _ _ _ _ => trivial) (by show 12 < 16777216; decide) ?_ ?_
  · rintro i t acc l K hi ⟨hl, hbx, hlen, hacc⟩ ha hK
    have hi12 : i < 12 := (List.getElem?_eq_some_iff.mp hi).1
    walk_at "ev"
    refine ⟨b, q, _, rfl, hq, hbx, by omega, fun x l' hx bx lx => ⟨by show acc.length < 16777216; omega, ?_⟩⟩
    refine hK _ _ (by rw [List.length_append]; simp only [List.length_cons, List.length_nil]; omega) ⟨fun a o na e => lx _ _ na (hl _ _ na e), bx.mono (by omega), by rw [List.length_append, hlen]; rfl, ?_⟩
    intro y hy
    rcases List.mem_append.mp hy with hy | hy
    · exact (hacc y hy).leb lx
    · rw [List.mem_singleton.mp hy]; exact hx
  rintro acc L3 ⟨l3, b3, hal, hacc⟩ p3 hp3
  have hal : acc.length = 12 := hal
  have e3 := l3 _ _ n2 e2
  refine e_cat (Le.new hp3 _ _ e3) put_same ⟨sizeL _ (by omega), fun p4 hp4 => ?_⟩
  have l4 := (Le.new (o := .l acc) hp3).trans (Le.new (o := .l (xs ++ acc)) hp4)
  refine law_4 put_same (fun x hx => ?_) fun z6 z7 l hl => h _ _ _ _ _ fun a o na ha => hl _ _ (l4 _ _ (l3 _ _ na (l2 _ _ na ha)))
  rcases List.mem_append.mp hx with hx | hx
  · exact ((t2 x hx).leb l3).le l4
  · exact (hacc x hx).le l4
theorem ok_l_law : ∀ args L R, args.length = 1 → sl_law args L R → l_law_0 (initE 9 args) L { nx := fun _ L' => R .non L', rt := R } := by
  rintro _ L R _ ⟨ns, rfl, h⟩
  unfold l_law_0
  show sSeq _ _ [some (.fz ns), none, none, none, none, none, none, none, none] L _
  walk_at "ev"
  refine ⟨ns, 6, rfl, by decide, by decide, fun c L1 ms hc l1 e1 m2 mk => ?_⟩
  walk_at "ev"
  unfold l_law_1
  walk_at "ev"
  rw [e_lenl e1, e_r1K, List.length_map]
  refine ⟨⟨by omega, by omega⟩, ?_⟩
  refine loop_i (fun i e l => l c = some (.l (ms.map PV.int)) ∧ ∃ z2 z3 z4 z5 z6 z7 z8, e = [some (.fz ns), some (.ref c), z2, z3, z4, z5, z6, z7, z8]) ⟨e1, _, _, _, _, _, _, _, rfl⟩ (fun _ _ _ _ => trivial) ?_ ?_
  · rintro i t e l K hx ⟨e1, z2, z3, z4, z5, z6, z7, z8, rfl⟩ hK
    obtain ⟨rfl, hi⟩ := rgL_get hx
    walk_at "ev"
    unfold l_law_1f_0
    walk_at "ev"
    refine ⟨c, ms, _, rfl, e1, by omega, by omega, fun b L2 hb l2 b2 => ?_⟩
    have e2 := l2 _ _ e1
    have hcb : c ≠ b := ne_adr hb e1
    unfold l_law_1f_1
    walk_at "ev"
    refine ⟨b, _, rfl, b2, by decide, fun q L3 hq b3 l3 => ?_⟩
    walk_at "ev"
    exact law_2 hq b3 (by decide) fun z5 z6 z7 z8 l hl => hK _ _ ⟨hl _ _ hcb (l3 _ _ hcb e2), _, _, _, _, _, _, _, rfl⟩
  · rintro e l ⟨e1, z2, z3, z4, z5, z6, z7, z8, rfl⟩
    unfold l_law_2
    walk_at "ev"
    exact h _
end Mp
namespace Mp
open PySem PySem.Spec PyProof.Rows L2
/-! ### the text -/
def ztp (i : Nat) : Stmt := PySem.Challenge.pw_sidecut_k01_what_a_fraction_is.main.body.getD i (.Pass ⟨0, 0, 0, 0⟩)
def nn : List Str := ["bool", "int", "isinstance", "abs", "len", "tuple", "divmod", "enumerate", "list", "all", "min", "range", "str"]
abbrev zst_is_number : Stmt := ztp 1
theorem zsc_is_number : FnScope ["thing"] ["thing"] (defScope zst_is_number) := ⟨rfl, rfl, rfl, by decide +kernel, rfl, by decide +kernel, by decide +kernel⟩
def ztb_is_number : Tab := ⟨[], [], nn⟩
theorem zcs_is_number : cSs ztb_is_number 60 ⟨["thing"], defScope zst_is_number, fun _ => true⟩ (defBody zst_is_number) = some d_is_number_0 := by rfl
abbrev zst_divisor_of : Stmt := ztp 2
theorem zsc_divisor_of : FnScope ["one", "other"] ["one", "other"] (defScope zst_divisor_of) := ⟨rfl, rfl, rfl, by decide +kernel, rfl, by decide +kernel, by decide +kernel⟩
def ztb_divisor_of : Tab := ⟨[], [], nn⟩
theorem zcs_divisor_of : cSs ztb_divisor_of 60 ⟨["one", "other"], defScope zst_divisor_of, fun _ => true⟩ (defBody zst_divisor_of) = some d_divisor_of_0 := by rfl
abbrev zst_is_fraction : Stmt := ztp 3
theorem zsc_is_fraction : FnScope ["thing"] ["thing"] (defScope zst_is_fraction) := ⟨rfl, rfl, rfl, by decide +kernel, rfl, by decide +kernel, by decide +kernel⟩
def ztb_is_fraction : Tab := ⟨[("is_number", 1, s_is_number), ("divisor_of", 2, s_divisor_of)], [], nn⟩
theorem zcs_is_fraction : cSs ztb_is_fraction 60 ⟨["thing"], defScope zst_is_fraction, fun _ => true⟩ (defBody zst_is_fraction) = some d_is_fraction_0 := by rfl
abbrev zst_law_box_of : Stmt := ztp 5
theorem zsc_law_box_of : FnScope ["_law_script", "_law_k", "_law_cell"] ["_law_script", "_law_k"] (defScope zst_law_box_of) := ⟨rfl, rfl, rfl, by decide +kernel, rfl, by decide +kernel, by decide +kernel⟩
def ztb_law_box_of : Tab := ⟨[], [], nn⟩
theorem zcs_law_box_of : cSs ztb_law_box_of 60 ⟨["_law_script", "_law_k", "_law_cell"], defScope zst_law_box_of, fun _ => true⟩ (defBody zst_law_box_of) = some l_box_of_0 := by rfl
abbrev zst_law_take : Stmt := ztp 6
theorem zsc_law_take : FnScope ["_law_box", "_law_many", "_law_found", "_law_once"] ["_law_box", "_law_many"] (defScope zst_law_take) := ⟨rfl, rfl, rfl, by decide +kernel, rfl, by decide +kernel, by decide +kernel⟩
def ztb_law_take : Tab := ⟨[], [], nn⟩
theorem zcs_law_take : cSs ztb_law_take 60 ⟨["_law_box", "_law_many", "_law_found", "_law_once"], defScope zst_law_take, fun _ => true⟩ (defBody zst_law_take) = some l_take_0 := by rfl
abbrev zst_law_folded : Stmt := ztp 7
theorem zsc_law_folded : FnScope ["_law_script", "_law_many", "_law_cells", "_law_k", "_law_cell"] ["_law_script", "_law_many"] (defScope zst_law_folded) := ⟨rfl, rfl, rfl, by decide +kernel, rfl, by decide +kernel, by decide +kernel⟩
def ztb_law_folded : Tab := ⟨[], [], nn⟩
theorem zcs_law_folded : cSs ztb_law_folded 60 ⟨["_law_script", "_law_many", "_law_cells", "_law_k", "_law_cell"], defScope zst_law_folded, fun _ => true⟩ (defBody zst_law_folded) = some l_folded_0 := by rfl
abbrev zst_law_lowest : Stmt := ztp 8
theorem zsc_law_lowest : FnScope ["_law_n", "_law_d", "_law_one", "_law_other"] ["_law_n", "_law_d"] (defScope zst_law_lowest) := ⟨rfl, rfl, rfl, by decide +kernel, rfl, by decide +kernel, by decide +kernel⟩
def ztb_law_lowest : Tab := ⟨[], [], nn⟩
theorem zcs_law_lowest : cSs ztb_law_lowest 60 ⟨["_law_n", "_law_d", "_law_one", "_law_other"], defScope zst_law_lowest, fun _ => true⟩ (defBody zst_law_lowest) = some l_lowest_0 := by rfl
abbrev zst_law_fraction_by : Stmt := ztp 9
theorem zsc_law_fraction_by : FnScope ["_law_box", "_law_way", "_law_hand"] ["_law_box"] (defScope zst_law_fraction_by) := ⟨rfl, rfl, rfl, by decide +kernel, rfl, by decide +kernel, by decide +kernel⟩
def ztb_law_fraction_by : Tab := ⟨[("_law_take", 2, sl_take), ("_law_lowest", 2, sl_lowest)], [], nn⟩
theorem zcs_law_fraction_by : cSs ztb_law_fraction_by 60 ⟨["_law_box", "_law_way", "_law_hand"], defScope zst_law_fraction_by, fun _ => true⟩ (defBody zst_law_fraction_by) = some l_fraction_by_0 := by rfl
abbrev zst_law_due : Stmt := ztp 10
theorem zsc_law_due : FnScope ["_law_thing", "_law_n", "_law_d", "_law_one", "_law_k"] ["_law_thing"] (defScope zst_law_due) := ⟨rfl, rfl, rfl, by decide +kernel, rfl, by decide +kernel, by decide +kernel⟩
def ztb_law_due : Tab := ⟨[], [], nn⟩
theorem zcs_law_due : cSs ztb_law_due 60 ⟨["_law_thing", "_law_n", "_law_d", "_law_one", "_law_k"], defScope zst_law_due, fun _ => true⟩ (defBody zst_law_due) = some l_due_0 := by rfl
abbrev zst_law_bent : Stmt := ztp 11
theorem zsc_law_bent : FnScope ["_law_box", "_law_one", "_law_way", "_law_at", "_law_by", "_law_n", "_law_d", "_law_many", "_law_odd", "_law_some"] ["_law_box", "_law_one"] (defScope zst_law_bent) := ⟨rfl, rfl, rfl, by decide +kernel, rfl, by decide +kernel, by decide +kernel⟩
def ztb_law_bent : Tab := ⟨[("_law_take", 2, sl_take)], [], nn⟩
theorem zcs_law_bent : cSs ztb_law_bent 60 ⟨["_law_box", "_law_one", "_law_way", "_law_at", "_law_by", "_law_n", "_law_d", "_law_many", "_law_odd", "_law_some"], defScope zst_law_bent, fun _ => true⟩ (defBody zst_law_bent) = some l_bent_0 := by rfl
abbrev zst_law : Stmt := ztp 12
theorem zsc_law : FnScope ["_law_script", "_law_cells", "_law_k", "_law_box", "_law_one", "_law_things", "_law_thing", "_law_found", "_law_turn"] ["_law_script"] (defScope zst_law) := ⟨rfl, rfl, rfl, by decide +kernel, rfl, by decide +kernel, by decide +kernel⟩
def ztb_law : Tab := ⟨[("is_fraction", 1, s_is_fraction), ("_law_box_of", 2, sl_box_of), ("_law_folded", 2, sl_folded), ("_law_fraction_by", 1, sl_fraction_by), ("_law_due", 1, sl_due), ("_law_bent", 2, sl_bent)], [], nn⟩
theorem zcs_law : cSs ztb_law 60 ⟨["_law_script", "_law_cells", "_law_k", "_law_box", "_law_one", "_law_things", "_law_thing", "_law_found", "_law_turn"], defScope zst_law, fun _ => true⟩ (defBody zst_law) = some l_law_0 := by rfl
theorem zall_mk {l : PySem.W.OpenLaw} {w : World} {K : PySem.W.Frag} {h : Heap} {mg : Str → Option Value} {fa : Addr} (X : K.In h) (G : h.Ns mainGlobals mg) (hfa : mg "law" = some (.ref fa))
    {f0 : Addr} {od0 an0 : Option Addr} {sl0 : Array (Option Value)} {oc0 kV0 dc0 pm0 cd0 ct0 : Value}
    {f1 : Addr} {od1 an1 : Option Addr} {sl1 : Array (Option Value)} {oc1 kV1 dc1 pm1 cd1 ct1 : Value}
    {f2 : Addr} {od2 an2 : Option Addr} {sl2 : Array (Option Value)} {oc2 kV2 dc2 pm2 cd2 ct2 : Value}
    {f3 : Addr} {od3 an3 : Option Addr} {sl3 : Array (Option Value)} {oc3 kV3 dc3 pm3 cd3 ct3 : Value}
    {f4 : Addr} {od4 an4 : Option Addr} {sl4 : Array (Option Value)} {oc4 kV4 dc4 pm4 cd4 ct4 : Value}
    {f5 : Addr} {od5 an5 : Option Addr} {sl5 : Array (Option Value)} {oc5 kV5 dc5 pm5 cd5 ct5 : Value}
    {f6 : Addr} {od6 an6 : Option Addr} {sl6 : Array (Option Value)} {oc6 kV6 dc6 pm6 cd6 ct6 : Value}
    {f7 : Addr} {od7 an7 : Option Addr} {sl7 : Array (Option Value)} {oc7 kV7 dc7 pm7 cd7 ct7 : Value}
    {f8 : Addr} {od8 an8 : Option Addr} {sl8 : Array (Option Value)} {oc8 kV8 dc8 pm8 cd8 ct8 : Value}
    {f9 : Addr} {od9 an9 : Option Addr} {sl9 : Array (Option Value)} {oc9 kV9 dc9 pm9 cd9 ct9 : Value}
    {f10 : Addr} {od10 an10 : Option Addr} {sl10 : Array (Option Value)} {oc10 kV10 dc10 pm10 cd10 ct10 : Value}
    (a0 : PySem.W.nsIn K mainGlobals "is_number" = some (some (.ref f0)))
    (l0 : K.lookup f0 = some ⟨oc0, od0, .func (PySem.W.fnOf "is_number" "is_number" (defArgs zst_is_number) (defBody zst_is_number) (defScope zst_is_number) .none kV0 dc0 pm0 an0 cd0 ct0), sl0⟩)
    (c0 : PySem.W.codeIn K cd0 "is_number" = true) (k0 : PySem.W.keepIn K (.ref f0) = true)
    (a1 : PySem.W.nsIn K mainGlobals "divisor_of" = some (some (.ref f1)))
    (l1 : K.lookup f1 = some ⟨oc1, od1, .func (PySem.W.fnOf "divisor_of" "divisor_of" (defArgs zst_divisor_of) (defBody zst_divisor_of) (defScope zst_divisor_of) .none kV1 dc1 pm1 an1 cd1 ct1), sl1⟩)
    (c1 : PySem.W.codeIn K cd1 "divisor_of" = true) (k1 : PySem.W.keepIn K (.ref f1) = true)
    (a2 : PySem.W.nsIn K mainGlobals "is_fraction" = some (some (.ref f2)))
    (l2 : K.lookup f2 = some ⟨oc2, od2, .func (PySem.W.fnOf "is_fraction" "is_fraction" (defArgs zst_is_fraction) (defBody zst_is_fraction) (defScope zst_is_fraction) .none kV2 dc2 pm2 an2 cd2 ct2), sl2⟩)
    (c2 : PySem.W.codeIn K cd2 "is_fraction" = true) (k2 : PySem.W.keepIn K (.ref f2) = true)
    (a3 : PySem.W.nsIn K mainGlobals "_law_box_of" = some (some (.ref f3)))
    (l3 : K.lookup f3 = some ⟨oc3, od3, .func (PySem.W.fnOf "_law_box_of" "_law_box_of" (defArgs zst_law_box_of) (defBody zst_law_box_of) (defScope zst_law_box_of) .none kV3 dc3 pm3 an3 cd3 ct3), sl3⟩)
    (c3 : PySem.W.codeIn K cd3 "_law_box_of" = true) (k3 : PySem.W.keepIn K (.ref f3) = true)
    (a4 : PySem.W.nsIn K mainGlobals "_law_take" = some (some (.ref f4)))
    (l4 : K.lookup f4 = some ⟨oc4, od4, .func (PySem.W.fnOf "_law_take" "_law_take" (defArgs zst_law_take) (defBody zst_law_take) (defScope zst_law_take) .none kV4 dc4 pm4 an4 cd4 ct4), sl4⟩)
    (c4 : PySem.W.codeIn K cd4 "_law_take" = true) (k4 : PySem.W.keepIn K (.ref f4) = true)
    (a5 : PySem.W.nsIn K mainGlobals "_law_folded" = some (some (.ref f5)))
    (l5 : K.lookup f5 = some ⟨oc5, od5, .func (PySem.W.fnOf "_law_folded" "_law_folded" (defArgs zst_law_folded) (defBody zst_law_folded) (defScope zst_law_folded) .none kV5 dc5 pm5 an5 cd5 ct5), sl5⟩)
    (c5 : PySem.W.codeIn K cd5 "_law_folded" = true) (k5 : PySem.W.keepIn K (.ref f5) = true)
    (a6 : PySem.W.nsIn K mainGlobals "_law_lowest" = some (some (.ref f6)))
    (l6 : K.lookup f6 = some ⟨oc6, od6, .func (PySem.W.fnOf "_law_lowest" "_law_lowest" (defArgs zst_law_lowest) (defBody zst_law_lowest) (defScope zst_law_lowest) .none kV6 dc6 pm6 an6 cd6 ct6), sl6⟩)
    (c6 : PySem.W.codeIn K cd6 "_law_lowest" = true) (k6 : PySem.W.keepIn K (.ref f6) = true)
    (a7 : PySem.W.nsIn K mainGlobals "_law_fraction_by" = some (some (.ref f7)))
    (l7 : K.lookup f7 = some ⟨oc7, od7, .func (PySem.W.fnOf "_law_fraction_by" "_law_fraction_by" (defArgs zst_law_fraction_by) (defBody zst_law_fraction_by) (defScope zst_law_fraction_by) .none kV7 dc7 pm7 an7 cd7 ct7), sl7⟩)
    (c7 : PySem.W.codeIn K cd7 "_law_fraction_by" = true) (k7 : PySem.W.keepIn K (.ref f7) = true)
    (a8 : PySem.W.nsIn K mainGlobals "_law_due" = some (some (.ref f8)))
    (l8 : K.lookup f8 = some ⟨oc8, od8, .func (PySem.W.fnOf "_law_due" "_law_due" (defArgs zst_law_due) (defBody zst_law_due) (defScope zst_law_due) .none kV8 dc8 pm8 an8 cd8 ct8), sl8⟩)
    (c8 : PySem.W.codeIn K cd8 "_law_due" = true) (k8 : PySem.W.keepIn K (.ref f8) = true)
    (a9 : PySem.W.nsIn K mainGlobals "_law_bent" = some (some (.ref f9)))
    (l9 : K.lookup f9 = some ⟨oc9, od9, .func (PySem.W.fnOf "_law_bent" "_law_bent" (defArgs zst_law_bent) (defBody zst_law_bent) (defScope zst_law_bent) .none kV9 dc9 pm9 an9 cd9 ct9), sl9⟩)
    (c9 : PySem.W.codeIn K cd9 "_law_bent" = true) (k9 : PySem.W.keepIn K (.ref f9) = true)
    (a10 : PySem.W.nsIn K mainGlobals "law" = some (some (.ref f10)))
    (l10 : K.lookup f10 = some ⟨oc10, od10, .func (PySem.W.fnOf "law" "law" (defArgs zst_law) (defBody zst_law) (defScope zst_law) .none kV10 dc10 pm10 an10 cd10 ct10), sl10⟩)
    (c10 : PySem.W.codeIn K cd10 "law" = true) (k10 : PySem.W.keepIn K (.ref f10) = true)
    (z0 : PySem.W.nsIn K mainGlobals "bool" = some none)
    (z1 : PySem.W.nsIn K mainGlobals "int" = some none)
    (z2 : PySem.W.nsIn K mainGlobals "isinstance" = some none)
    (z3 : PySem.W.nsIn K mainGlobals "abs" = some none)
    (z4 : PySem.W.nsIn K mainGlobals "len" = some none)
    (z5 : PySem.W.nsIn K mainGlobals "tuple" = some none)
    (z6 : PySem.W.nsIn K mainGlobals "divmod" = some none)
    (z7 : PySem.W.nsIn K mainGlobals "enumerate" = some none)
    (z8 : PySem.W.nsIn K mainGlobals "list" = some none)
    (z9 : PySem.W.nsIn K mainGlobals "all" = some none)
    (z10 : PySem.W.nsIn K mainGlobals "min" = some none)
    (z11 : PySem.W.nsIn K mainGlobals "range" = some none)
    (z12 : PySem.W.nsIn K mainGlobals "str" = some none) :
    ∃ fd : FuncData, (∀ (s : Shared) (v : Value), BindsTo s fd ⟨[v], []⟩ [("_law_script", v)]) ∧ ∀ base : Heap, K.In base → base.Ns mainGlobals mg → FnOk l.prog w K mg base CX0 3 fa fd ["_law_script"] (liftSp K 1 sl_law) := by
  have e := hfa.symm.trans (PySem.W.mg_of X G a10)
  cases e
  have F0 := fun_mk (st := zst_is_number) l0 c0 k0
  have F1 := fun_mk (st := zst_divisor_of) l1 c1 k1
  have F2 := fun_mk (st := zst_is_fraction) l2 c2 k2
  have F3 := fun_mk (st := zst_law_box_of) l3 c3 k3
  have F4 := fun_mk (st := zst_law_take) l4 c4 k4
  have F5 := fun_mk (st := zst_law_folded) l5 c5 k5
  have F6 := fun_mk (st := zst_law_lowest) l6 c6 k6
  have F7 := fun_mk (st := zst_law_fraction_by) l7 c7 k7
  have F8 := fun_mk (st := zst_law_due) l8 c8 k8
  have F9 := fun_mk (st := zst_law_bent) l9 c9 k9
  have F10 := fun_mk (st := zst_law) l10 c10 k10
  have nk : NonOk mg nn := .cons (PySem.W.mg_none_of X G z0) (.cons (PySem.W.mg_none_of X G z1) (.cons (PySem.W.mg_none_of X G z2) (.cons (PySem.W.mg_none_of X G z3) (.cons (PySem.W.mg_none_of X G z4) (.cons (PySem.W.mg_none_of X G z5) (.cons (PySem.W.mg_none_of X G z6) (.cons (PySem.W.mg_none_of X G z7) (.cons (PySem.W.mg_none_of X G z8) (.cons (PySem.W.mg_none_of X G z9) (.cons (PySem.W.mg_none_of X G z10) (.cons (PySem.W.mg_none_of X G z11) (.cons (PySem.W.mg_none_of X G z12) (.nil)))))))))))))
  refine ⟨PySem.W.fnOf "law" "law" (defArgs zst_law) (defBody zst_law) (defScope zst_law) .none kV10 dc10 pm10 an10 cd10 ct10, fun s v => .of_eq rfl, fun base _ _ => ?_⟩
  have b0 := F0.binds (ps := ["thing"]) fun _ _ _ _ _ _ us hl => match us, hl with | [_], _ => rfl
  have g0 : FnIs l.prog w K mg base 1 "is_number" 1 s_is_number := def_ok (k := 0) (TabOk.start nk) F0 zsc_is_number zcs_is_number (PySem.W.mg_of X G a0) b0 ok_is_number
  have b1 := F1.binds (ps := ["one", "other"]) fun _ _ _ _ _ _ us hl => match us, hl with | [_, _], _ => rfl
  have g1 : FnIs l.prog w K mg base 1 "divisor_of" 2 s_divisor_of := def_ok (k := 0) (TabOk.start nk) F1 zsc_divisor_of zcs_divisor_of (PySem.W.mg_of X G a1) b1 ok_divisor_of
  have b3 := F3.binds (ps := ["_law_script", "_law_k"]) fun _ _ _ _ _ _ us hl => match us, hl with | [_, _], _ => rfl
  have g3 : FnIs l.prog w K mg base 1 "_law_box_of" 2 sl_box_of := def_ok (k := 0) (TabOk.start nk) F3 zsc_law_box_of zcs_law_box_of (PySem.W.mg_of X G a3) b3 ok_l_box_of
  have b4 := F4.binds (ps := ["_law_box", "_law_many"]) fun _ _ _ _ _ _ us hl => match us, hl with | [_, _], _ => rfl
  have g4 : FnIs l.prog w K mg base 1 "_law_take" 2 sl_take := def_ok (k := 0) (TabOk.start nk) F4 zsc_law_take zcs_law_take (PySem.W.mg_of X G a4) b4 ok_l_take
  have b5 := F5.binds (ps := ["_law_script", "_law_many"]) fun _ _ _ _ _ _ us hl => match us, hl with | [_, _], _ => rfl
  have g5 : FnIs l.prog w K mg base 1 "_law_folded" 2 sl_folded := def_ok (k := 0) (TabOk.start nk) F5 zsc_law_folded zcs_law_folded (PySem.W.mg_of X G a5) b5 ok_l_folded
  have b6 := F6.binds (ps := ["_law_n", "_law_d"]) fun _ _ _ _ _ _ us hl => match us, hl with | [_, _], _ => rfl
  have g6 : FnIs l.prog w K mg base 1 "_law_lowest" 2 sl_lowest := def_ok (k := 0) (TabOk.start nk) F6 zsc_law_lowest zcs_law_lowest (PySem.W.mg_of X G a6) b6 ok_l_lowest
  have b8 := F8.binds (ps := ["_law_thing"]) fun _ _ _ _ _ _ us hl => match us, hl with | [_], _ => rfl
  have g8 : FnIs l.prog w K mg base 1 "_law_due" 1 sl_due := def_ok (k := 0) (TabOk.start nk) F8 zsc_law_due zcs_law_due (PySem.W.mg_of X G a8) b8 ok_l_due
  have b2 := F2.binds (ps := ["thing"]) fun _ _ _ _ _ _ us hl => match us, hl with | [_], _ => rfl
  have g2 : FnIs l.prog w K mg base 2 "is_fraction" 1 s_is_fraction := def_ok (k := 1) (((TabOk.start nk).add (g1.mono (by decide))).add (g0.mono (by decide))) F2 zsc_is_fraction zcs_is_fraction (PySem.W.mg_of X G a2) b2 ok_is_fraction
  have b7 := F7.binds (ps := ["_law_box"]) fun _ _ _ _ _ _ us hl => match us, hl with | [_], _ => rfl
  have g7 : FnIs l.prog w K mg base 2 "_law_fraction_by" 1 sl_fraction_by := def_ok (k := 1) (((TabOk.start nk).add (g6.mono (by decide))).add (g4.mono (by decide))) F7 zsc_law_fraction_by zcs_law_fraction_by (PySem.W.mg_of X G a7) b7 ok_l_fraction_by
  have b9 := F9.binds (ps := ["_law_box", "_law_one"]) fun _ _ _ _ _ _ us hl => match us, hl with | [_, _], _ => rfl
  have g9 : FnIs l.prog w K mg base 2 "_law_bent" 2 sl_bent := def_ok (k := 1) ((TabOk.start nk).add (g4.mono (by decide))) F9 zsc_law_bent zcs_law_bent (PySem.W.mg_of X G a9) b9 ok_l_bent
  exact def_fn (k := 2) (((((((TabOk.start nk).add (g9.mono (by decide))).add (g8.mono (by decide))).add (g7.mono (by decide))).add (g5.mono (by decide))).add (g3.mono (by decide))).add (g2.mono (by decide))) F10 zsc_law zcs_law ok_l_law
end Mp
open PySem PySem.W PyProof.Rows
set_option maxHeartbeats 0 in
theorem PySem.Challenge.cw_sidecut_k01_what_a_fraction_is_holds : PySem.Challenge.rw_sidecut_k01_what_a_fraction_is.Holds := by
  w_on; o_law; k_head; (case hw => w_witness2)
  k_fill
  refine L2.walk_of (l := PySem.Challenge.rw_sidecut_k01_what_a_fraction_is) (n := 63) (k := 3) (x := "_law_script") (CX := fun _ => L2.CX0) (sp := fun w => Mp.liftSp _ 1 Mp.sl_law) rfl (by decide) rfl ⟨rfl, by decide, by decide⟩ (fun w h Y => PySem.W.kIn_of Y) ?F (fun _ _ a ns hl hO hS => Mp.law_sp hO hS ⟨ns, rfl, fun _ => rfl⟩) (fun _ _ _ _ _ h => h)
  case F =>
    intro w mg fa h KX G hmg
    refine' Mp.zall_mk KX G hmg ?a0 ?l0 ?c0 ?k0 ?a1 ?l1 ?c1 ?k1 ?a2 ?l2 ?c2 ?k2 ?a3 ?l3 ?c3 ?k3 ?a4 ?l4 ?c4 ?k4 ?a5 ?l5 ?c5 ?k5 ?a6 ?l6 ?c6 ?k6 ?a7 ?l7 ?c7 ?k7 ?a8 ?l8 ?c8 ?k8 ?a9 ?l9 ?c9 ?k9 ?a10 ?l10 ?c10 ?k10 ?z0 ?z1 ?z2 ?z3 ?z4 ?z5 ?z6 ?z7 ?z8 ?z9 ?z10 ?z11 ?z12
    (case a0 => k_is); (case l0 => k_is); (case c0 => k_is); (case k0 => k_is); (case a1 => k_is); (case l1 => k_is); (case c1 => k_is); (case k1 => k_is); (case a2 => k_is); (case l2 => k_is); (case c2 => k_is); (case k2 => k_is); (case a3 => k_is); (case l3 => k_is); (case c3 => k_is); (case k3 => k_is); (case a4 => k_is); (case l4 => k_is); (case c4 => k_is); (case k4 => k_is); (case a5 => k_is); (case l5 => k_is); (case c5 => k_is); (case k5 => k_is); (case a6 => k_is); (case l6 => k_is); (case c6 => k_is); (case k6 => k_is); (case a7 => k_is); (case l7 => k_is); (case c7 => k_is); (case k7 => k_is); (case a8 => k_is); (case l8 => k_is); (case c8 => k_is); (case k8 => k_is); (case a9 => k_is); (case l9 => k_is); (case c9 => k_is); (case k9 => k_is); (case a10 => k_is); (case l10 => k_is); (case c10 => k_is); (case k10 => k_is); (case z0 => k_is); (case z1 => k_is); (case z2 => k_is); (case z3 => k_is); (case z4 => k_is); (case z5 => k_is); (case z6 => k_is); (case z7 => k_is); (case z8 => k_is); (case z9 => k_is); (case z10 => k_is); (case z11 => k_is); (case z12 => k_is)
