import PyProof.Rows.All
import Wide.All
import OpenK.AllK
import Wide.FinOn
import HandS.ForMost
import HandS.Wide
import HandS.IsInst
import HandS.Walk
import HandS.Zip
import HandS.Rev
import HandS.Conv
import HandS.TupAny
import HandS.Style
import HandS.Deep
import HandS.More
import HandS.FStrTup
import KE.SortData
import PyProof.Rows.IntBool
import HandS.Words
import KE.KStateDown
import HandS.Head0
import HandS.Head1
import HandS.Head2
import HandS.HeadHook1
import HandS.Ends
import HandS.WordsDict
import KE.GoesMore
import HandS.NoneIn
import HandS.RevRange
import HandS.Text
import HandS.StrMore
import KE.KDictZip
import PyProof.ListNew
import HandS.Zip0
import HandS.Iter
import HandS.DictTup
import PyProof.DictMoreH
import HandS.ExcOwn
import HandS.ExcIs
import PySem.Challenge.RW_sidecut_k50_texts_again_and_shared
set_option Elab.async false
set_option linter.all false
set_option maxRecDepth 100000
set_option maxHeartbeats 4000000
namespace Mp
open PySem PySem.Spec PyProof.Rows L2
inductive PV where
  | non | bl (b : Bool) | int (i : Int) | str (x : Str) | ref (a : Addr) | ty (n : String) | fz (ns : List Int) | tup (xs : List PV)
inductive SO where
  | l (xs : List PV) | d (kvs : List (Key × PV)) | t (kvs : List (List Key × PV))
abbrev Sto := Addr → Option SO
def put (L : Sto) (a : Addr) (o : SO) : Sto := fun b => if b = a then some o else L b
theorem put_same {L : Sto} {a : Addr} {o : SO} : put L a o a = some o := by unfold put; rw [if_pos rfl]
theorem put_ne {L : Sto} {a b : Addr} {o : SO} (h : b ≠ a) : put L a o b = L b := by unfold put; rw [if_neg h]
def TupAt (K : PySem.W.Frag) (H : Hp) (a : Addr) (vs : List V) : Prop := H a = some (.tup vs) ∨ SqT K (fun _ => none) a vs
mutual
def RepV (K : PySem.W.Frag) (H : Hp) : PV → V → Prop
  | .non, v => v = .non
  | .bl b, v => v = .bl b
  | .int i, v => v = .int i
  | .str x, v => v = .str x
  | .ref a, v => v = .ref a
  | .ty n, v => v = .ty n
  | .fz ns, v => ∃ a, v = .ref a ∧ ((∃ o, H a = some (.frz o (.lst (ns.map V.int)))) ∨ SqL K (fun _ => none) a (ns.map V.int))
  | .tup xs, v => ∃ a vs, v = .ref a ∧ TupAt K H a vs ∧ RepVs K H xs vs
def RepVs (K : PySem.W.Frag) (H : Hp) : List PV → List V → Prop
  | [], vs => vs = []
  | x :: xs, vs => ∃ v r, vs = v :: r ∧ RepV K H x v ∧ RepVs K H xs r
end
def RepKs (K : PySem.W.Frag) (H : Hp) : List (Key × PV) → List (Key × V) → Prop
  | [], ks => ks = []
  | (k, x) :: xs, ks => ∃ v r, ks = (k, v) :: r ∧ RepV K H x v ∧ RepKs K H xs r
def RepKt (K : PySem.W.Frag) (H : Hp) : List (List Key × PV) → List (List Key × V) → Prop
  | [], ks => ks = []
  | (k, x) :: xs, ks => ∃ v r, ks = (k, v) :: r ∧ RepV K H x v ∧ RepKt K H xs r
def RepO (K : PySem.W.Frag) (H : Hp) (a : Addr) : SO → Prop
  | .l xs => ∃ vs, H a = some (.lst vs) ∧ RepVs K H xs vs
  | .d kvs => ∃ ks, H a = some (.dK ks) ∧ RepKs K H kvs ks
  | .t kvs => ∃ ks, H a = some (.dT ks) ∧ RepKt K H kvs ks
def RepH (K : PySem.W.Frag) (H : Hp) (L : Sto) : Prop := ∀ a o, L a = some o → RepO K H a o
/-- what is not in the store stays -/
def Fm (H : Hp) (L : Sto) (H' : Hp) (L' : Sto) : Prop := ∀ a o, H a = some o → L a = none → H' a = some o ∧ L' a = none
abbrev Env := List (Option PV)
def RepS (K : PySem.W.Frag) (H : Hp) (σ : L2.St) (env : Env) : Prop := σ.length = env.length ∧ ∀ (i : Nat) (x : PV), env[i]? = some (some x) → ∃ v, σ[i]? = some (some v) ∧ RepV K H x v
/-- tuples and frozen lists stay -/
def Ex (H H' : Hp) : Prop := (∀ a xs, H a = some (.tup xs) → H' a = some (.tup xs)) ∧ (∀ a o xs, H a = some (.frz o (.lst xs)) → H' a = some (.frz o (.lst xs)))
section
variable {K : PySem.W.Frag} {H H' H1 H2 : Hp} {L L' La Lb : Sto}
theorem Fm.refl : Fm H L H L := fun _ _ h n => ⟨h, n⟩
theorem Fm.trans (a : Fm H L H1 La) (b : Fm H1 La H2 Lb) : Fm H L H2 Lb := fun c o h n => let ⟨x, y⟩ := a c o h n; b c o x y
theorem RepH.notTup (r : RepH K H L) {a : Addr} {xs : List V} (h : H a = some (.tup xs)) : L a = none := by
  cases e : L a with
  | none => rfl
  | some o =>
    cases o with
    | l ys => obtain ⟨vs, q, _⟩ := r a _ e; rw [h] at q; cases q
    | d ys => obtain ⟨vs, q, _⟩ := r a _ e; rw [h] at q; cases q
    | t ys => obtain ⟨vs, q, _⟩ := r a _ e; rw [h] at q; cases q
theorem RepH.notFrz (r : RepH K H L) {a : Addr} {o : Obj} {u : HO} (h : H a = some (.frz o u)) : L a = none := by
  cases e : L a with
  | none => rfl
  | some o =>
    cases o with
    | l ys => obtain ⟨vs, q, _⟩ := r a _ e; rw [h] at q; cases q
    | d ys => obtain ⟨vs, q, _⟩ := r a _ e; rw [h] at q; cases q
    | t ys => obtain ⟨vs, q, _⟩ := r a _ e; rw [h] at q; cases q
theorem RepH.fresh (r : RepH K H L) {a : Addr} (h : H a = none) : L a = none := by
  cases e : L a with
  | none => rfl
  | some o =>
    cases o with
    | l ys => obtain ⟨vs, q, _⟩ := r a _ e; rw [h] at q; cases q
    | d ys => obtain ⟨vs, q, _⟩ := r a _ e; rw [h] at q; cases q
    | t ys => obtain ⟨vs, q, _⟩ := r a _ e; rw [h] at q; cases q
theorem Fm.ex (f : Fm H L H' L') (r : RepH K H L) : Ex H H' := ⟨fun a xs h => (f a _ h (r.notTup h)).1, fun a o xs h => (f a _ h (r.notFrz h)).1⟩
theorem Ex.refl : Ex H H := ⟨fun _ _ h => h, fun _ _ _ h => h⟩
theorem Ex.trans (a : Ex H H1) (b : Ex H1 H2) : Ex H H2 := ⟨fun c xs h => b.1 c xs (a.1 c xs h), fun c o xs h => b.2 c o xs (a.2 c o xs h)⟩
theorem sqT_up {a : Addr} {xs : List V} (h : SqT K (fun _ => none) a xs) : SqT K H a xs := by
  rcases h with (h | ⟨o, h⟩) | h
  · cases h
  · cases h
  · exact .inr h
theorem sqL_up {a : Addr} {xs : List V} (h : SqL K (fun _ => none) a xs) : SqL K H a xs := by
  rcases h with (h | ⟨o, h⟩) | h
  · cases h
  · cases h
  · exact .inr h
theorem TupAt.sq {a : Addr} {xs : List V} (h : TupAt K H a xs) : SqT K H a xs := by
  rcases h with h | h
  · exact .inl (.inl h)
  · exact sqT_up h
theorem TupAt.ex {a : Addr} {xs : List V} (e : Ex H H') (h : TupAt K H a xs) : TupAt K H' a xs := h.elim (fun q => .inl (e.1 _ _ q)) .inr
mutual
theorem RepV.ex (e : Ex H H') : ∀ {x : PV} {v : V}, RepV K H x v → RepV K H' x v
  | .non, _, h => h
  | .bl _, _, h => h
  | .int _, _, h => h
  | .str _, _, h => h
  | .ref _, _, h => h
  | .ty _, _, h => h
  | .fz _, _, ⟨a, h1, h2⟩ => ⟨a, h1, h2.elim (fun ⟨o, q⟩ => .inl ⟨o, e.2 _ _ _ q⟩) .inr⟩
  | .tup _, _, ⟨a, vs, h1, h2, h3⟩ => ⟨a, vs, h1, h2.ex e, RepVs.ex e h3⟩
theorem RepVs.ex (e : Ex H H') : ∀ {x : List PV} {v : List V}, RepVs K H x v → RepVs K H' x v
  | [], _, h => h
  | _ :: _, _, ⟨v, r, h1, h2, h3⟩ => ⟨v, r, h1, RepV.ex e h2, RepVs.ex e h3⟩
end
theorem RepKs.ex (e : Ex H H') : ∀ {x : List (Key × PV)} {v : List (Key × V)}, RepKs K H x v → RepKs K H' x v
  | [], _, h => h
  | _ :: _, _, ⟨v, r, h1, h2, h3⟩ => ⟨v, r, h1, RepV.ex e h2, RepKs.ex e h3⟩
theorem RepKt.ex (e : Ex H H') : ∀ {x : List (List Key × PV)} {v : List (List Key × V)}, RepKt K H x v → RepKt K H' x v
  | [], _, h => h
  | _ :: _, _, ⟨v, r, h1, h2, h3⟩ => ⟨v, r, h1, RepV.ex e h2, RepKt.ex e h3⟩
theorem RepVs.length : ∀ {x : List PV} {v : List V}, RepVs K H x v → x.length = v.length
  | [], _, h => by
    have h : _ = [] := h
    rw [h]
    rfl
  | _ :: _, _, ⟨v, r, h1, h2, h3⟩ => by rw [h1, List.length_cons, List.length_cons, RepVs.length h3]
theorem RepVs.get : ∀ {xs : List PV} {vs : List V} {i : Nat} {x : PV}, RepVs K H xs vs → xs[i]? = some x → ∃ v, vs[i]? = some v ∧ RepV K H x v
  | [], _, _, _, _, e => by simp at e
  | y :: ys, _, 0, x, ⟨v, r, h1, h2, h3⟩, e => by
    simp at e
    subst e
    exact ⟨v, by rw [h1]; rfl, h2⟩
  | y :: ys, _, i + 1, x, ⟨v, r, h1, h2, h3⟩, e => by
    obtain ⟨w, q1, q2⟩ := RepVs.get (i := i) h3 (by simpa using e)
    exact ⟨w, by rw [h1]; simpa using q1, q2⟩
theorem RepVs.append : ∀ {xs ys : List PV} {vs ws : List V}, RepVs K H xs vs → RepVs K H ys ws → RepVs K H (xs ++ ys) (vs ++ ws)
  | [], _, _, _, h, q => by
    have h : _ = [] := h
    rw [h]
    exact q
  | _ :: _, _, _, _, ⟨v, r, h1, h2, h3⟩, q => ⟨v, r ++ _, by rw [h1]; rfl, h2, RepVs.append h3 q⟩
theorem RepVs.take : ∀ {xs : List PV} {vs : List V} (n : Nat), RepVs K H xs vs → RepVs K H (xs.take n) (vs.take n)
  | _, _, 0, _ => rfl
  | [], _, _ + 1, h => by
    have h : _ = [] := h
    rw [h]
    rfl
  | _ :: _, _, n + 1, ⟨v, r, h1, h2, h3⟩ => ⟨v, r.take n, by rw [h1]; rfl, h2, RepVs.take n h3⟩
theorem RepVs.drop : ∀ {xs : List PV} {vs : List V} (n : Nat), RepVs K H xs vs → RepVs K H (xs.drop n) (vs.drop n)
  | _, _, 0, h => h
  | [], _, _ + 1, h => by
    have h : _ = [] := h
    rw [h]
    rfl
  | _ :: _, _, n + 1, ⟨v, r, h1, h2, h3⟩ => by
    rw [h1]
    exact RepVs.drop n h3
theorem RepVs.set : ∀ {xs : List PV} {vs : List V} (n : Nat) {x : PV} {v : V}, RepVs K H xs vs → RepV K H x v → RepVs K H (xs.set n x) (vs.set n v)
  | [], _, _, _, _, h, _ => by
    have h : _ = [] := h
    rw [h]
    rfl
  | _ :: _, _, 0, _, _, ⟨v, r, h1, h2, h3⟩, q => ⟨_, r, by rw [h1]; rfl, q, h3⟩
  | _ :: _, _, n + 1, _, _, ⟨v, r, h1, h2, h3⟩, q => ⟨v, r.set n _, by rw [h1]; rfl, h2, RepVs.set n h3 q⟩
theorem RepVs.eraseIdx : ∀ {xs : List PV} {vs : List V} (n : Nat), RepVs K H xs vs → RepVs K H (xs.eraseIdx n) (vs.eraseIdx n)
  | [], _, _, h => by
    have h : _ = [] := h
    rw [h]
    rfl
  | _ :: _, _, 0, ⟨v, r, h1, h2, h3⟩ => by rw [h1]; exact h3
  | _ :: _, _, n + 1, ⟨v, r, h1, h2, h3⟩ => ⟨v, r.eraseIdx n, by rw [h1]; rfl, h2, RepVs.eraseIdx n h3⟩
theorem RepVs.reverse : ∀ {xs : List PV} {vs : List V}, RepVs K H xs vs → RepVs K H xs.reverse vs.reverse
  | [], _, h => by
    have h : _ = [] := h
    rw [h]
    rfl
  | _ :: _, _, ⟨v, r, h1, h2, h3⟩ => by
    rw [h1, List.reverse_cons, List.reverse_cons]
    exact RepVs.append (RepVs.reverse h3) ⟨v, [], rfl, h2, rfl⟩
theorem RepVs.dropLast : ∀ {xs : List PV} {vs : List V}, RepVs K H xs vs → RepVs K H xs.dropLast vs.dropLast := fun {xs vs} h => by
  rw [List.dropLast_eq_take, List.dropLast_eq_take, h.length]
  exact h.take _
theorem RepVs.rep {xs : List PV} {vs : List V} (h : RepVs K H xs vs) : ∀ k : Nat, RepVs K H (List.replicate k xs).flatten (List.replicate k vs).flatten
  | 0 => rfl
  | k + 1 => by
    rw [List.replicate_succ, List.replicate_succ, List.flatten_cons, List.flatten_cons]
    exact h.append (RepVs.rep h k)
theorem RepVs.ints : ∀ {ns : List Int} {vs : List V}, RepVs K H (ns.map PV.int) vs → vs = ns.map V.int
  | [], _, h => h
  | n :: ns, _, ⟨v, r, h1, h2, h3⟩ => by
    have h2 : v = .int n := h2
    rw [h1, h2, RepVs.ints h3]
    rfl
theorem RepVs.ofInts : ∀ {ns : List Int}, RepVs K H (ns.map PV.int) (ns.map V.int)
  | [] => rfl
  | n :: ns => ⟨.int n, _, rfl, rfl, RepVs.ofInts⟩
theorem RepVs.bls : ∀ {ns : List Bool} {vs : List V}, RepVs K H (ns.map PV.bl) vs → vs = ns.map V.bl
  | [], _, h => h
  | n :: ns, _, ⟨v, r, h1, h2, h3⟩ => by
    have h2 : v = .bl n := h2
    rw [h1, h2, RepVs.bls h3]
    rfl
theorem RepVs.strs : ∀ {ns : List Str} {vs : List V}, RepVs K H (ns.map PV.str) vs → vs = ns.map V.str
  | [], _, h => h
  | n :: ns, _, ⟨v, r, h1, h2, h3⟩ => by
    have h2 : v = .str n := h2
    rw [h1, h2, RepVs.strs h3]
    rfl
theorem RepVs.one {x : PV} {vs : List V} (h : RepVs K H [x] vs) : ∃ v, vs = [v] ∧ RepV K H x v := by
  obtain ⟨v, r, h1, h2, h3⟩ := h
  have h3 : r = [] := h3
  subst h3
  exact ⟨v, h1, h2⟩
theorem RepVs.two {x y : PV} {vs : List V} (h : RepVs K H [x, y] vs) : ∃ v w, vs = [v, w] ∧ RepV K H x v ∧ RepV K H y w := by
  obtain ⟨v, r, h1, h2, h3⟩ := h
  obtain ⟨w, h4, h5⟩ := h3.one
  subst h4
  exact ⟨v, w, h1, h2, h5⟩
theorem RepVs.three {x y z : PV} {vs : List V} (h : RepVs K H [x, y, z] vs) : ∃ v w u, vs = [v, w, u] ∧ RepV K H x v ∧ RepV K H y w ∧ RepV K H z u := by
  obtain ⟨v, r, h1, h2, h3⟩ := h
  obtain ⟨w, u, h4, h5, h6⟩ := h3.two
  subst h4
  exact ⟨v, w, u, h1, h2, h5, h6⟩
theorem RepO.ex (e : Ex H H') {a : Addr} {o : SO} (h : RepO K H a o) (k : ∀ u, H a = some u → H' a = some u) : RepO K H' a o := by
  cases o with
  | l xs => obtain ⟨vs, h1, h2⟩ := h; exact ⟨vs, k _ h1, h2.ex e⟩
  | d xs => obtain ⟨vs, h1, h2⟩ := h; exact ⟨vs, k _ h1, h2.ex e⟩
  | t xs => obtain ⟨vs, h1, h2⟩ := h; exact ⟨vs, k _ h1, h2.ex e⟩
theorem RepS.ex {σ : L2.St} {env : Env} (e : Ex H H') (h : RepS K H σ env) : RepS K H' σ env := ⟨h.1, fun i x q => let ⟨v, a, b⟩ := h.2 i x q; ⟨v, a, b.ex e⟩⟩
/-- the store's entry, in the heap -/
theorem RepH.lst (r : RepH K H L) {a : Addr} {xs : List PV} (h : L a = some (.l xs)) : ∃ vs, H a = some (.lst vs) ∧ RepVs K H xs vs := r a _ h
theorem RepH.dct (r : RepH K H L) {a : Addr} {xs : List (Key × PV)} (h : L a = some (.d xs)) : ∃ vs, H a = some (.dK vs) ∧ RepKs K H xs vs := r a _ h
theorem RepH.dct2 (r : RepH K H L) {a : Addr} {xs : List (List Key × PV)} (h : L a = some (.t xs)) : ∃ vs, H a = some (.dT vs) ∧ RepKt K H xs vs := r a _ h
theorem ex_new {p : Addr} {o : HO} (hp : H p = none) : Ex H (upd H p o) := ⟨fun a xs h => by rw [upd_ne (ne_of_none h hp)]; exact h, fun a o' xs h => by rw [upd_ne (ne_of_none h hp)]; exact h⟩
theorem fm_tup {p : Addr} {vs : List V} (r : RepH K H L) (hp : H p = none) : Fm H L (upd H p (.tup vs)) L := fun a o h n => ⟨by rw [upd_ne (ne_of_none h hp)]; exact h, n⟩
theorem reph_tup {p : Addr} {vs : List V} (r : RepH K H L) (hp : H p = none) : RepH K (upd H p (.tup vs)) L := fun a o h => (r a o h).ex (ex_new hp) fun u q => by rw [upd_ne (ne_of_none q hp)]; exact q
theorem repv_tup {p : Addr} {xs : List PV} {vs : List V} (h : RepVs K H xs vs) (hp : H p = none) : RepV K (upd H p (.tup vs)) (.tup xs) (.ref p) :=
  ⟨p, vs, rfl, .inl upd_same, h.ex (ex_new hp)⟩
theorem fm_new {p : Addr} {o : HO} {u : SO} (hp : H p = none) : Fm H L (upd H p o) (put L p u) := fun a o' h n => ⟨by rw [upd_ne (ne_of_none h hp)]; exact h, by rw [put_ne (ne_of_none h hp)]; exact n⟩
theorem reph_new {p : Addr} {xs : List PV} {vs : List V} (r : RepH K H L) (hp : H p = none) (h : RepVs K H xs vs) : RepH K (upd H p (.lst vs)) (put L p (.l xs)) := fun a o e => by
  by_cases q : a = p
  · subst q
    rw [put_same] at e
    cases e
    exact ⟨vs, upd_same, h.ex (ex_new hp)⟩
  · rw [put_ne q] at e
    exact (r a o e).ex (ex_new hp) fun u q' => by rw [upd_ne q]; exact q'
theorem reph_newD {p : Addr} {xs : List (Key × PV)} {vs : List (Key × V)} (r : RepH K H L) (hp : H p = none) (h : RepKs K H xs vs) : RepH K (upd H p (.dK vs)) (put L p (.d xs)) := fun a o e => by
  by_cases q : a = p
  · subst q
    rw [put_same] at e
    cases e
    exact ⟨vs, upd_same, h.ex (ex_new hp)⟩
  · rw [put_ne q] at e
    exact (r a o e).ex (ex_new hp) fun u q' => by rw [upd_ne q]; exact q'
theorem ex_put {p : Addr} {o : HO} {u : SO} (r : RepH K H L) (hp : L p = some u) : Ex H (upd H p o) :=
  ⟨fun a xs h => by
    have n := r.notTup h
    rw [upd_ne (fun z => by rw [z, hp] at n; cases n)]; exact h,
   fun a o' xs h => by
    have n := r.notFrz h
    rw [upd_ne (fun z => by rw [z, hp] at n; cases n)]; exact h⟩
theorem fm_put {p : Addr} {o : HO} {u u' : SO} (hp : L p = some u) : Fm H L (upd H p o) (put L p u') := fun a o' h n => by
  have ne : a ≠ p := fun z => by rw [z, hp] at n; cases n
  exact ⟨by rw [upd_ne ne]; exact h, by rw [put_ne ne]; exact n⟩
theorem reph_put {p : Addr} {u : SO} {xs : List PV} {vs : List V} (r : RepH K H L) (hp : L p = some u) (h : RepVs K H xs vs) : RepH K (upd H p (.lst vs)) (put L p (.l xs)) := fun a o e => by
  by_cases q : a = p
  · subst q
    rw [put_same] at e
    cases e
    exact ⟨vs, upd_same, h.ex (ex_put r hp)⟩
  · rw [put_ne q] at e
    exact (r a o e).ex (ex_put r hp) fun u q' => by rw [upd_ne q]; exact q'
theorem reph_putD {p : Addr} {u : SO} {xs : List (Key × PV)} {vs : List (Key × V)} (r : RepH K H L) (hp : L p = some u) (h : RepKs K H xs vs) : RepH K (upd H p (.dK vs)) (put L p (.d xs)) := fun a o e => by
  by_cases q : a = p
  · subst q
    rw [put_same] at e
    cases e
    exact ⟨vs, upd_same, h.ex (ex_put r hp)⟩
  · rw [put_ne q] at e
    exact (r a o e).ex (ex_put r hp) fun u q' => by rw [upd_ne q]; exact q'
theorem reph_putT {p : Addr} {u : SO} {xs : List (List Key × PV)} {vs : List (List Key × V)} (r : RepH K H L) (hp : L p = some u) (h : RepKt K H xs vs) : RepH K (upd H p (.dT vs)) (put L p (.t xs)) := fun a o e => by
  by_cases q : a = p
  · subst q
    rw [put_same] at e
    cases e
    exact ⟨vs, upd_same, h.ex (ex_put r hp)⟩
  · rw [put_ne q] at e
    exact (r a o e).ex (ex_put r hp) fun u q' => by rw [upd_ne q]; exact q'
abbrev PK := PV → Sto → Prop
abbrev WE := Env → Sto → PK → Prop
abbrev WA := Env → Sto → (List PV → Sto → Prop) → Prop
/-- what R promises reaches Q, from H, L on -/
def Kt (K : PySem.W.Frag) (H : Hp) (L : Sto) (R : PK) (Q : VK) : Prop := ∀ x L' v H', R x L' → Fm H L H' L' → RepV K H' x v → RepH K H' L' → Q v H'
def KtA (K : PySem.W.Frag) (n : Nat) (H : Hp) (L : Sto) (R : List PV → Sto → Prop) (Q : List V → Hp → Prop) : Prop := ∀ x L' v H', R x L' → x.length = n → Fm H L H' L' → RepVs K H' x v → RepH K H' L' → Q v H'
def liftE (K : PySem.W.Frag) (w : WE) : TE := fun σ H Q => ∃ env L R, RepS K H σ env ∧ RepH K H L ∧ w env L R ∧ Kt K H L R Q
def wAr : List WE → WA
  | [], _, L, R => R [] L
  | w :: ws, env, L, R => w env L fun x La => wAr ws env La fun xs Lb => R (x :: xs) Lb
def liftA (K : PySem.W.Frag) (ws : List WE) : TA := fun σ H Q => ∃ env L R, RepS K H σ env ∧ RepH K H L ∧ wAr ws env L R ∧ KtA K ws.length H L R Q
/-- a test: the value is a bool -/
def liftT (K : PySem.W.Frag) (w : WE) : TT := fun σ H Q => ∃ env L R, RepS K H σ env ∧ RepH K H L ∧ w env L R ∧ ∀ x L' H', R x L' → Fm H L H' L' → RepH K H' L' → ∃ b, x = .bl b ∧ Q b H'
theorem Kt.fm {R : PK} {Q : VK} (k : Kt K H L R Q) (f : Fm H L H1 La) : Kt K H1 La R Q := fun x L' v H' r f' => k x L' v H' r (f.trans f')
theorem _root_.L2.PE.weak {X : Cx} {e : Expr} {t t' : TE} (h : PE X e t) (w : ∀ σ H Q, t' σ H Q → t σ H Q) : PE X e t' := ⟨fun pins s σ H Q I q => h.run pins s σ H Q I (w σ H Q q)⟩
theorem _root_.L2.PT.weak {X : Cx} {e : Expr} {t t' : TT} (h : PT X e t) (w : ∀ σ H Q, t' σ H Q → t σ H Q) : PT X e t' := ⟨fun pins s σ H Q I q => h.run pins s σ H Q I (w σ H Q q)⟩
theorem _root_.L2.PA.weak {X : Cx} {e : List Expr} {t t' : TA} (h : PA X e t) (w : ∀ σ H Q, t' σ H Q → t σ H Q) : PA X e t' := ⟨fun pos pins s σ H Q I q => h.run pos pins s σ H Q I (w σ H Q q)⟩
theorem _root_.L2.PS.weak {X : Cx} {e : Stmt} {t t' : TS} (h : PS X e t) (w : ∀ D σ H, t' D σ H → t D σ H) : PS X e t' := ⟨fun pins s σ H D I q => h.run pins s σ H D I (w D σ H q)⟩
theorem _root_.L2.PSs.weak {X : Cx} {e : List Stmt} {t t' : TS} (h : PSs X e t) (w : ∀ D σ H, t' D σ H → t D σ H) : PSs X e t' := ⟨fun pins s σ H D I q => h.run pins s σ H D I (w D σ H q)⟩
end
end Mp
namespace Mp
open PySem PySem.Spec PyProof.Rows L2
/-- what a value of the module reaches: a def with its code, a tuple to any depth -/
def valG (g : Addr → Option Obj) : Nat → Value → List Addr
  | 0, _ => []
  | n + 1, .ref a => a :: (match g a with
    | some ⟨_, _, .func fd, _⟩ => He.refV fd.code
    | some ⟨_, _, .seq its _, _⟩ => its.toList.flatMap (valG g n)
    | _ => [])
  | _, _ => []
def asM (n : Nat) (g : Addr → Option Obj) : List Addr := mainGlobals :: ((match g mainGlobals with
  | some ⟨_, _, .dict es _, _⟩ => es.toList.flatMap fun e => valG g 4 e.val
  | _ => []) ++ (match n with
  | 0 => []
  | n + 1 => He.asG g n))
abbrev OneM : Type := Option (Bool × Str × Str × Arguments × FuncBody × Scope × Addr × List (Str × Addr) × Value × Addr)
def oneM (K : PySem.W.Frag) (x : Str) : OneM := match PySem.W.nsIn K mainGlobals x with
  | some (some (.ref f)) => (match K.lookup f with
    | some ⟨_, _, .func fd, _⟩ => some (PySem.W.codeIn K fd.code x, fd.name, fd.qualname, fd.params, fd.body, fd.scope, fd.globals, fd.closure, fd.defaults, fd.builtins)
    | _ => none)
  | _ => none
def dueM (d : Str × Stmt) : OneM := some (true, d.1, d.1, defArgs d.2, .stmts (defBody d.2), defScope d.2, mainGlobals, [], .none, builtinsNs)
abbrev AlM : Type := Bool × List OneM
def obsM (fb : List (PySem.W.Frag → Bool)) (fn : List (Str × Stmt)) (K : PySem.W.Frag) : AlM := (fb.all fun f => f K, fn.map fun d => oneM K d.1)
def valM (fn : List (Str × Stmt)) : AlM := (true, fn.map dueM)
def SaysM (fb : List (PySem.W.Frag → Bool)) (fn : List (Str × Stmt)) (K : PySem.W.Frag) : Prop := obsM fb fn K = valM fn
def obsMG (n : Nat) (fb : List (PySem.W.Frag → Bool)) (fn : List (Str × Stmt)) (g : Addr → Option Obj) : AlM := obsM fb fn (He.frG g (asM n g))
def hookM (n : Nat) (fb : List (PySem.W.Frag → Bool)) (fn : List (Str × Stmt)) : PySem.W.Hook where
  α := AlM
  obs := fun s => obsMG n fb fn s.heap.get?
  val := fun _ => valM fn
  says := fun _ h => ∃ K : PySem.W.Frag, K.In h ∧ SaysM fb fn K
  of := fun _ _ e => ⟨_, He.frG_in, e⟩
  keeps := fun _ _ _ ⟨K, hK, c⟩ k => ⟨K, PySem.W.Frag.In.keeps hK k, c⟩
theorem obsMG_eq {n : Nat} {fb : List (PySem.W.Frag → Bool)} {fn : List (Str × Stmt)} {g : Addr → Option Obj} {s : Shared} (h : ∀ a, g a = s.heap.get? a) : obsMG n fb fn g = (hookM n fb fn).obs s := by
  have e : g = s.heap.get? := funext h
  rw [e] <;> rfl
theorem oneM_ok {K : PySem.W.Frag} {d : Str × Stmt} (e : oneM K d.1 = dueM d) : ∃ f, PySem.W.nsIn K mainGlobals d.1 = some (some (.ref f)) ∧ ∃ fd, Fun K d.1 d.1 d.2 f fd := by
  obtain ⟨x, st⟩ := d
  unfold oneM at e
  dsimp only at e ⊢
  cases q : PySem.W.nsIn K mainGlobals x with
  | none => rw [q] at e; cases e
  | some o =>
    rw [q] at e
    cases o with
    | none => cases e
    | some v =>
      cases v with
      | ref f =>
        have e : (match K.lookup f with
          | some ⟨_, _, .func fd, _⟩ => some (PySem.W.codeIn K fd.code x, fd.name, fd.qualname, fd.params, fd.body, fd.scope, fd.globals, fd.closure, fd.defaults, fd.builtins)
          | _ => (none : OneM)) = dueM (x, st) := e
        refine ⟨f, rfl, ?_⟩
        cases l : K.lookup f with
        | none => rw [l] at e; cases e
        | some o =>
          obtain ⟨oc, od, dt, osl⟩ := o
          rw [l] at e
          cases dt with
          | func fd =>
            obtain ⟨n1, n2, n3, n4, n5, n6, n7, n8, n9, n10, n11, n12, n13, n14, n15⟩ := fd
            have e2 : some (PySem.W.codeIn K n13 x, n1, n2, n3, n4, n5, n6, n7, n8, n15) = dueM (x, st) := e
            simp only [dueM, Option.some.injEq, Prod.mk.injEq] at e2
            obtain ⟨h0, h1, h2, h3, h4, h5, h6, h7, h8, h9⟩ := e2
            subst h1 h2 h3 h4 h5 h6 h7 h8 h9
            exact ⟨_, fun_mk l h0 (by simp [PySem.W.keepIn, l])⟩
          | _ => cases e
      | _ => cases e
def zfree (x : Str) : PySem.W.Frag → Bool := fun K => He.eqO (PySem.W.nsIn K mainGlobals x) (some none)
/-- a constant of the module, however deep -/
def okT (o : Option Obj) : Option (List Value) := match o with
  | some ⟨.type c, _, .seq its _, _⟩ => if c = "tuple" ∧ its.size ≤ sizeLine then some its.toList else none
  | _ => none
mutual
def cvB (K : PySem.W.Frag) : PV → Value → Bool
  | .non, .none => true
  | .bl b, .bool c => b == c
  | .int i, .int j _ => decide (i = j)
  | .str x, .str y _ => decide (x = y)
  | .tup xs, .ref a => (match okT (K.lookup a) with
    | some us => cvBs K xs us
    | none => false)
  | _, _ => false
def cvBs (K : PySem.W.Frag) : List PV → List Value → Bool
  | [], [] => true
  | x :: xs, u :: us => cvB K x u && cvBs K xs us
  | _, _ => false
end
theorem okT_ok {K : PySem.W.Frag} {a : Addr} {us : List Value} (h : okT (K.lookup a) = some us) : ∃ (o : Obj) (its : Array Value) (n : Nat), K.lookup a = some o ∧ o.cls = .type "tuple" ∧ o.data = .seq its n ∧ its.size ≤ sizeLine ∧ its.toList = us := by
  cases q : K.lookup a with
  | none => rw [q] at h; cases h
  | some o =>
    obtain ⟨oc, od, dt, osl⟩ := o
    rw [q] at h
    unfold okT at h
    cases oc with
    | type c =>
      cases dt with
      | seq its n =>
        have h2 : (if c = "tuple" ∧ its.size ≤ sizeLine then some its.toList else none) = some us := h
        by_cases z : c = "tuple" ∧ its.size ≤ sizeLine
        · rw [if_pos z] at h2
          exact ⟨_, its, n, rfl, congrArg Value.type z.1, rfl, z.2, Option.some.inj h2⟩
        · rw [if_neg z] at h2; cases h2
      | _ => cases h
    | _ => cases dt <;> cases h
mutual
theorem cvB_ok {K : PySem.W.Frag} : ∀ {p : PV} {u : Value}, cvB K p u = true → ∃ v, RelV v u ∧ ∀ H, RepV K H p v
  | .non, .none, _ => ⟨.non, rfl, fun _ => by rw [RepV]⟩
  | .bl b, .bool c, h => ⟨.bl b, by rw [cvB] at h; rw [eq_of_beq h]; rfl, fun _ => by rw [RepV]⟩
  | .int i, .int j _, h => ⟨.int i, by rw [cvB] at h; rw [of_decide_eq_true h]; exact ⟨_, rfl⟩, fun _ => by rw [RepV]⟩
  | .str x, .str y _, h => ⟨.str x, by rw [cvB] at h; rw [of_decide_eq_true h]; exact ⟨_, rfl⟩, fun _ => by rw [RepV]⟩
  | .tup xs, .ref a, h => by
    rw [cvB] at h
    cases q : okT (K.lookup a) with
    | none => rw [q] at h; cases h
    | some us =>
      rw [q] at h
      have h2 : cvBs K xs us = true := h
      obtain ⟨vs, h3, h4⟩ := cvBs_ok h2
      obtain ⟨o, its, n, e1, e2, e3, e4, e5⟩ := okT_ok q
      exact ⟨.ref a, rfl, fun H => by rw [RepV]; exact ⟨a, vs, rfl, .inr (.inr ⟨o, its, n, e1, e2, e3, e4, by rw [e5]; exact h3⟩), h4 H⟩⟩
theorem cvBs_ok {K : PySem.W.Frag} : ∀ {p : List PV} {u : List Value}, cvBs K p u = true → ∃ v, Vals v u ∧ ∀ H, RepVs K H p v
  | [], [], _ => ⟨[], .nil, fun _ => by rw [RepVs]⟩
  | x :: xs, u :: us, h => by
    rw [cvBs, Bool.and_eq_true] at h
    obtain ⟨v, h1, h2⟩ := cvB_ok h.1
    obtain ⟨vs, h3, h4⟩ := cvBs_ok h.2
    exact ⟨v :: vs, .cons h1 h3, fun H => by rw [RepVs]; exact ⟨v, vs, rfl, h2 H, h4 H⟩⟩
end
def zcn (x : Str) (p : PV) : PySem.W.Frag → Bool := fun K => match PySem.W.nsIn K mainGlobals x with
  | some (some u) => cvB K p u
  | _ => false
/-- a question whose answer is told -/
def zeq {α : Type} [DecidableEq α] (f : PySem.W.Frag → α) (a : α) : PySem.W.Frag → Bool := fun K => decide (f K = a)
end Mp
namespace Mp
open PySem PySem.Spec PyProof.Rows L2
def ztp (i : Nat) : Stmt := PySem.Challenge.pw_sidecut_k50_texts_again_and_shared.main.body.getD i (.Pass ⟨0, 0, 0, 0⟩)
abbrev zst_is_number : Stmt := ztp 6
abbrev zst_divisor_of : Stmt := ztp 7
abbrev zst_is_fraction : Stmt := ztp 8
abbrev zst_fraction : Stmt := ztp 9
abbrev zst_added : Stmt := ztp 10
abbrev zst_taken : Stmt := ztp 11
abbrev zst_times : Stmt := ztp 12
abbrev zst_whole_root : Stmt := ztp 13
abbrev zst_root_of : Stmt := ztp 14
abbrev zst_minus : Stmt := ztp 16
abbrev zst_dot : Stmt := ztp 17
abbrev zst_length_of : Stmt := ztp 18
abbrev zst_is_point : Stmt := ztp 24
abbrev zst_is_side : Stmt := ztp 25
abbrev zst_is_arc : Stmt := ztp 26
abbrev zst_is_piece : Stmt := ztp 27
abbrev zst_to_of : Stmt := ztp 28
abbrev zst_is_path : Stmt := ztp 29
abbrev zst_fraction_text : Stmt := ztp 34
abbrev zst_number_in : Stmt := ztp 35
abbrev zst_fraction_in : Stmt := ztp 36
abbrev zst_fraction_from : Stmt := ztp 37
abbrev zst_point_text : Stmt := ztp 38
abbrev zst_piece_text : Stmt := ztp 39
abbrev zst_path_text : Stmt := ztp 40
abbrev zst_point_in : Stmt := ztp 41
abbrev zst_piece_ahead : Stmt := ztp 42
abbrev zst_path_in : Stmt := ztp 43
abbrev zst_path_from : Stmt := ztp 44
abbrev zst_law_box_of : Stmt := ztp 46
abbrev zst_law_take : Stmt := ztp 47
abbrev zst_law_folded : Stmt := ztp 48
abbrev zst_law_lowest : Stmt := ztp 49
abbrev zst_law_sum : Stmt := ztp 50
abbrev zst_law_product : Stmt := ztp 51
abbrev zst_law_less : Stmt := ztp 52
abbrev zst_law_joined : Stmt := ztp 53
abbrev zst_law_off : Stmt := ztp 54
abbrev zst_law_scaled_by : Stmt := ztp 55
abbrev zst_law_to_left : Stmt := ztp 58
abbrev zst_law_unit_of : Stmt := ztp 59
abbrev zst_law_move_by : Stmt := ztp 60
abbrev zst_law_path_of : Stmt := ztp 61
abbrev zst_law_move_back : Stmt := ztp 62
abbrev zst_law_path_by : Stmt := ztp 63
abbrev zst_law_fraction_by : Stmt := ztp 65
abbrev zst_law_asked : Stmt := ztp 66
abbrev zst_law : Stmt := ztp 67
def zfn : List (Str × Stmt) := [(("is_number" : Str), zst_is_number), (("divisor_of" : Str), zst_divisor_of), (("is_fraction" : Str), zst_is_fraction), (("fraction" : Str), zst_fraction), (("added" : Str), zst_added), (("taken" : Str), zst_taken), (("times" : Str), zst_times), (("whole_root" : Str), zst_whole_root), (("root_of" : Str), zst_root_of), (("minus" : Str), zst_minus), (("dot" : Str), zst_dot), (("length_of" : Str), zst_length_of), (("is_point" : Str), zst_is_point), (("is_side" : Str), zst_is_side), (("is_arc" : Str), zst_is_arc), (("is_piece" : Str), zst_is_piece), (("to_of" : Str), zst_to_of), (("is_path" : Str), zst_is_path), (("fraction_text" : Str), zst_fraction_text), (("number_in" : Str), zst_number_in), (("fraction_in" : Str), zst_fraction_in), (("fraction_from" : Str), zst_fraction_from), (("point_text" : Str), zst_point_text), (("piece_text" : Str), zst_piece_text), (("path_text" : Str), zst_path_text), (("point_in" : Str), zst_point_in), (("piece_ahead" : Str), zst_piece_ahead), (("path_in" : Str), zst_path_in), (("path_from" : Str), zst_path_from), (("_law_box_of" : Str), zst_law_box_of), (("_law_take" : Str), zst_law_take), (("_law_folded" : Str), zst_law_folded), (("_law_lowest" : Str), zst_law_lowest), (("_law_sum" : Str), zst_law_sum), (("_law_product" : Str), zst_law_product), (("_law_less" : Str), zst_law_less), (("_law_joined" : Str), zst_law_joined), (("_law_off" : Str), zst_law_off), (("_law_scaled_by" : Str), zst_law_scaled_by), (("_law_to_left" : Str), zst_law_to_left), (("_law_unit_of" : Str), zst_law_unit_of), (("_law_move_by" : Str), zst_law_move_by), (("_law_path_of" : Str), zst_law_path_of), (("_law_move_back" : Str), zst_law_move_back), (("_law_path_by" : Str), zst_law_path_by), (("_law_fraction_by" : Str), zst_law_fraction_by), (("_law_asked" : Str), zst_law_asked), (("law" : Str), zst_law)]
def zfb : List (PySem.W.Frag → Bool) := [zcn "SIDE" (.str "side"), zcn "ARC" (.str "arc"), zcn "NOUGHT" (.tup [.int 0, .int 1]), zcn "TURNS_paths" (.tup [.str "left", .str "right"]), zcn "FIGURES" (.str "0123456789"), zcn "MOST_FIGURES" (.int 60), zcn "TURNS_texts" (.tup [.str "left", .str "right"]), (fun K => decide (PySem.W.nsIn K mainGlobals "BadNumber" = some (some (.ref (He.ga K "BadNumber"))))), (fun K => decide (PySem.W.nsIn K mainGlobals "BadPath" = some (some (.ref (He.ga K "BadPath"))))), (fun K => decide (PySem.W.nsIn K mainGlobals "BadSheet" = some (some (.ref (He.ga K "BadSheet"))))), (fun K => decide (PySem.W.nsIn K mainGlobals "SideError" = some (some (.ref (He.ga K "SideError"))))), zeq (fun K => PySem.W.subIn K (.ref (He.ga K "BadNumber")) (.type "BaseException")) (some true), zeq (fun K => PySem.W.typeIn K (.ref (He.ga K "BadNumber"))) (some (.type "type")), (fun K => PySem.W.hasDictIn K (He.ga K "BadNumber")), zeq (fun K => PySem.W.subIn K (.ref (He.ga K "BadPath")) (.type "BaseException")) (some true), zeq (fun K => PySem.W.typeIn K (.ref (He.ga K "BadPath"))) (some (.type "type")), (fun K => PySem.W.hasDictIn K (He.ga K "BadPath")), zeq (fun K => PySem.W.subIn K (.ref (He.ga K "SideError")) (.type "BaseException")) (some true), zeq (fun K => PySem.W.typeIn K (.ref (He.ga K "SideError"))) (some (.type "type")), (fun K => PySem.W.hasDictIn K (He.ga K "SideError")), (fun K => PySem.W.excIn K (He.ga K "BadNumber") [.type "ValueError", .type "Exception", .type "BaseException", .type "object"] "ValueError.__new__"), (fun K => PySem.W.keepIn K (.ref (He.ga K "BadNumber"))), zeq (fun K => PySem.W.subIn K (.ref (He.ga K "BadNumber")) (.ref (He.ga K "SideError"))) (some true), zeq (fun K => PySem.W.findIn K (.ref (He.ga K "BadNumber")) "__getattribute__") (some (some (.builtin "BaseException.__getattribute__"))), zeq (fun K => PySem.W.findIn K (.ref (He.ga K "BadNumber")) "__getattr__") (some none), zeq (fun K => PySem.W.findIn K (.ref (He.ga K "BadNumber")) "__class__") (some (some (.builtin "object.__class__"))), zeq (fun K => PySem.W.mroIn K (He.ga K "BadNumber") (.type "object")) (some true), zeq (fun K => PySem.W.kitOne K (.ref (He.ga K "BadNumber")) (.ref (He.ga K "BadNumber"))) (some true), zeq (fun K => PySem.W.kitOne K (.ref (He.ga K "BadNumber")) (.ref (He.ga K "BadPath"))) (some false), zeq (fun K => PySem.W.kitOne K (.ref (He.ga K "BadNumber")) (.ref (He.ga K "BadSheet"))) (some false), zeq (fun K => PySem.W.kitOne K (.ref (He.ga K "BadNumber")) (.type "ValueError")) (some true), (fun K => PySem.W.excIn K (He.ga K "BadPath") [.type "ValueError", .type "Exception", .type "BaseException", .type "object"] "ValueError.__new__"), (fun K => PySem.W.keepIn K (.ref (He.ga K "BadPath"))), zeq (fun K => PySem.W.subIn K (.ref (He.ga K "BadPath")) (.ref (He.ga K "SideError"))) (some true), zeq (fun K => PySem.W.findIn K (.ref (He.ga K "BadPath")) "__getattribute__") (some (some (.builtin "BaseException.__getattribute__"))), zeq (fun K => PySem.W.findIn K (.ref (He.ga K "BadPath")) "__getattr__") (some none), zeq (fun K => PySem.W.findIn K (.ref (He.ga K "BadPath")) "__class__") (some (some (.builtin "object.__class__"))), zeq (fun K => PySem.W.mroIn K (He.ga K "BadPath") (.type "object")) (some true), zeq (fun K => PySem.W.kitOne K (.ref (He.ga K "BadPath")) (.ref (He.ga K "BadNumber"))) (some false), zeq (fun K => PySem.W.kitOne K (.ref (He.ga K "BadPath")) (.ref (He.ga K "BadPath"))) (some true), zeq (fun K => PySem.W.kitOne K (.ref (He.ga K "BadPath")) (.ref (He.ga K "BadSheet"))) (some false), zeq (fun K => PySem.W.kitOne K (.ref (He.ga K "BadPath")) (.type "ValueError")) (some true), zeq (fun K => PySem.W.specialIn K (.builtin "object.__class__") "__get__") (some (some (.builtin "getset_descriptor.__get__"))), zeq (fun K => PySem.W.takesIn K (.builtin "object.__class__")) (some true), zfree "bool", zfree "int", zfree "isinstance", zfree "abs", zfree "len", zfree "tuple", zfree "all", zfree "str", zfree "divmod", zfree "enumerate", zfree "list", zfree "range", zfree "ValueError"]
def zhn0 : List Str := ["SideError", "BadNumber", "BadPath", "BadSheet", "is_number", "divisor_of", "is_fraction", "fraction", "added", "taken", "times", "whole_root", "root_of", "minus", "dot", "length_of", "NOUGHT", "SIDE", "ARC", "TURNS_paths"]
def zhn1 : List Str := ["is_point", "is_side", "is_arc", "is_piece", "to_of", "is_path", "FIGURES", "MOST_FIGURES", "TURNS_texts", "fraction_text", "number_in", "fraction_in", "fraction_from", "point_text", "piece_text", "path_text", "point_in", "piece_ahead", "path_in", "path_from"]
def zhn2 : List Str := ["_law_box_of", "_law_take", "_law_folded", "_law_lowest", "_law_sum", "_law_product", "_law_less", "_law_joined", "_law_off", "_law_scaled_by", "_law_crossed", "_law_dotted", "_law_to_left", "_law_unit_of", "_law_move_by", "_law_path_of", "_law_move_back", "_law_path_by", "_law_far_by", "_law_fraction_by"]
def zhn3 : List Str := ["_law_asked"]
def zhnames : List Str := zhn0 ++ zhn1 ++ zhn2 ++ zhn3
abbrev zhR : PySem.W.OpenRow := PySem.W.OpenLaw.row PySem.Challenge.rw_sidecut_k50_texts_again_and_shared
abbrev zhhk : PySem.W.Hook := hookM 7 zfb zfn
def zhob (s : PySem.W.SharedT) : AlM := obsMG 7 zfb zfn (HandSHeadRun.getT s)
theorem zhob_eq (s : PySem.W.SharedT) : zhob s = zhhk.obs s.abs := obsMG_eq (HandSHeadRun.getT_eq s)
theorem zhrun (w : World) : HandSHeadRun.RunEq zhR (PySem.W.view zhR.prog [67]) zhhk zhob 20000 zhnames w := by
  intro os
  kernel_rfl
end Mp
namespace Mp
open PySem PySem.Spec PyProof.Rows L2
structure FnG (P : Program) (w : World) (K : PySem.W.Frag) (mg : Str → Option Value) (base : Heap) (k : Nat) (f : Addr) (fd : FuncData) (ps : List Str) (sp : Sp) : Prop where
  ln : ∀ vs H Q E, sp vs H Q E → vs.length = ps.length
  go : ∀ (A : Around) (fr : List PySem.Env) (s : Shared) (H : Hp) (as : Args) (us : List Value) (vs : List V) (Q : VK) (E : XK), A.guards = some [] → Room k A → Env0 P w K mg base A fr s H →
    BindsTo s fd as (ps.zip us) → Vals vs us → sp vs H Q E → codeAny (model P w) A (.call (.ref f) as) (CR CX0 fr P w H s Q E) s
section
variable {P : Program} {w : World} {K : PySem.W.Frag} {mg : Str → Option Value} {base : Heap} {k : Nat} {f : Addr} {fd : FuncData} {ps : List Str} {sp : Sp}
theorem FnG.up {j : Nat} (g : FnG P w K mg base j f fd ps sp) (h : j ≤ k) : FnG P w K mg base k f fd ps sp :=
  ⟨g.ln, fun A fr s H as us vs Q E gd room => g.go A fr s H as us vs Q E gd (room.mono h)⟩
end
section
variable {X : Cx} {k : Nat} {f : Addr} {fd : FuncData} {ps : List Str} {sp : Sp} {x : Str} {p pos : Pos} {e : Expr} {es : List Expr} {t : TA}
theorem g_runs {pins : List (Addr × Obj)} {σ : L2.St} {H : Hp} {s : Shared} {Q : VK} {us : List Value} {vs : List V} (g : FnG X.prog X.w X.K X.mg X.base k f fd ps sp) (gd : X.A.guards = some []) (room : Room k X.A) (bi : Binds X.K fd ps [])
    (I : Inv X pins σ H s) (rv : Vals vs us) (hs : sp vs H Q E0) : wpAny (model X.prog X.w) X.A (call (.ref f) us) (EP X pins σ Q) X.xe s := by
  have n1 : us.length = ps.length := by
    have := g.ln _ _ _ _ hs
    rw [rv.length] at this
    exact this
  have b1 := bi s us I.kIn (by rw [List.append_nil]; exact n1)
  rw [List.append_nil] at b1
  have c1 := g.go X.A X.stack s H ⟨us, []⟩ us vs Q E0 gd room I.env0 b1 rv hs
  refine wpAny_call (codeAny_mono c1 ?_)
  intro res s2 hres
  match res, hres with
  | .ok (.ret u), hres => exact I.after hres
  | .ok .next, hres => exact hres.elim
  | .ok .brk, hres => exact hres.elim
  | .ok .cont, hres => exact hres.elim
  | .error _, hres => exact hres.elim
theorem g_call (g : FnG X.prog X.w X.K X.mg X.base k f fd ps sp) (gd : X.A.guards = some []) (room : Room k X.A) (gl : Gl X x) (hm : X.mg x = some (.ref f)) (hk : PySem.W.keepIn X.K (.ref f) = true) (bi : Binds X.K fd ps [])
    (ha : PA X (e :: es) t) (hdb : (x == ("__debug__" : Str)) = false) (he : starEach (e :: es) X.env = (false, eval e X.env) :: starEach es X.env) (hpl : (backTo pos (starEach es X.env)).any (·.1) = false) :
    PE X (.Call (.Name x p) (e :: es) [] pos) (tCall sp [] E0 t) := by
  constructor
  intro pins s σ H Q I ht
  apply wpAny_Call_Name_kw
  apply ld_glob I gl hm _ hdb
  have a1 := ha.run pos pins s σ H _ I ht
  refine PySem.W.callWith_K (h₀ := X.base) I.ok.mod.kin hk (thn a1 ?_) he hpl
  rintro us s1 ⟨vs, H1, J, rv, q⟩
  rw [List.append_nil] at q
  exact ⟨J.kIn, g_runs g gd room bi J rv q⟩
theorem g_call0 (g : FnG X.prog X.w X.K X.mg X.base k f fd ps sp) (gd : X.A.guards = some []) (room : Room k X.A) (gl : Gl X x) (hm : X.mg x = some (.ref f)) (hk : PySem.W.keepIn X.K (.ref f) = true) (bi : Binds X.K fd ps [])
    (hdb : (x == ("__debug__" : Str)) = false) : PE X (.Call (.Name x p) [] [] pos) (tCall sp [] E0 tNil) := by
  constructor
  intro pins s σ H Q I ht
  apply wpAny_Call_Name_kw
  apply ld_glob I gl hm _ hdb
  exact PySem.W.callWith_K0 I.kIn hk (g_runs (us := []) g gd room bi I .nil ht)
end
/-- a def by its body, called where nothing is being shown -/
theorem g_def {P : Program} {w : World} {K : PySem.W.Frag} {mg : Str → Option Value} {base : Heap} {k : Nat} {f : Addr} {nm ql : Str} {pr : Arguments} {bd : List Stmt} {sc : Scope} {dV kV doc pm cdv ct oc : Value} {an od : Option Addr}
    {osl : Array (Option Value)} {N ps : List Str} {sp : Sp} (lk : K.lookup f = some ⟨oc, od, .func (PySem.W.fnOf nm ql pr bd sc dV kV doc pm an cdv ct), osl⟩) (cd : PySem.W.codeIn K cdv ql = true) (S : FnScope N ps sc)
    (ln : ∀ vs H Q E, sp vs H Q E → vs.length = ps.length)
    (hb : ∀ (A : Around) (fr : List PySem.Env) (s : Shared) (H : Hp) (vs : List V) (Q : VK) (E : XK), A.guards = some [] → Room k (A.deeper (envOfC ql sc s.heap.objs.size f cdv)) → sp vs H Q E →
      ∃ t, PSs (cxOf CX0 P w K mg base N ql sc f cdv A fr s H E) bd t ∧ t { nx := fun _ H' => Q .non H', rt := Q } (L2.start N vs) H) :
    FnG P w K mg base (k + 1) f (PySem.W.fnOf nm ql pr bd sc dV kV doc pm an cdv ct) ps sp := by
  constructor
  · exact ln
  intro A fr s H as us vs Q E gd room e0 bt rv hs
  have n1 := ln _ _ _ _ hs
  have keep : ∀ b o, base.get? b = some o → s.heap.get? b = some o := fun b o z => (e0.bs b o z).1
  have kin : K.In s.heap := e0.mod.kin.keeps keep
  have nol : s.heap.NoLimit := e0.mod.nolimit.keeps keep
  have kinds : ∀ y ∈ ps.zip us, sc.names.lookup y.1 = some .local ∨ (sc.names.lookup y.1 = some .cell ∧ ((cellsFrom (s.heap.objs.size + 1) sc.names []).lookup y.1).isSome = true) := by
    rintro ⟨y, v⟩ hy
    have hm := (List.of_mem_zip hy).1
    cases S.par y hm with
    | inl z => exact .inl z
    | inr z => exact .inr ⟨z, PySem.W.cellsFrom_some _ _ _ (.inl z)⟩
  apply codeAny_call_function room.depth (kin _ _ lk) rfl S.co S.gen rfl (PySem.W.codeRec_of kin cd)
  apply bt
  apply wpAny_newFunctionEnv_cells S.kind kinds
  rintro en rfl s1 ic
  refine ⟨nol.keeps ic.toInCall.keep, codeAny_func ?_⟩
  obtain ⟨t, pt, q⟩ := hb A fr s H vs Q E gd (room.deeper _) hs
  have J : Inv (cxOf CX0 P w K mg base N ql sc f cdv A fr s H E) [] (L2.start N vs) H s1 := inv_start S room.hd e0 n1 rv ic
  refine wpAny_mono (pt.run [] s1 _ H _ J q) ?_ (fun _ _ z => z)
  intro fl s2 z
  match fl, z with
  | .ret u, ⟨v, σ2, H2, J2, r2, q2⟩ => exact ⟨v, H2, J2.os, J2.bare, J2.base, J2.hok, r2, q2⟩
  | .next, ⟨σ2, H2, J2, q2⟩ => exact ⟨V.non, H2, J2.os, J2.bare, J2.base, J2.hok, rfl, q2⟩
  | .brk, ⟨_, _, _, q2⟩ => exact q2.elim
  | .cont, ⟨_, _, _, q2⟩ => exact q2.elim
/-- the law's call, from its promise -/
theorem g_law {P : Program} {w : World} {K : PySem.W.Frag} {mg mb : Str → Option Value} {k : Nat} {fa a : Addr} {fd : FuncData} {x : Str} {sp : Sp} {s : Shared} {its : List Value} {ns : List Int}
    (kin : K.In s.heap) (nm : s.heap.Ns mainGlobals mg) (nb : s.heap.Ns builtinsNs mb) (bb : ∀ x : Str, x ≠ "__name__" → mb x = bootBuiltins x) (nol : s.heap.NoLimit) (gn : s.gens = #[])
    (oa : s.heap.get? a = some { cls := .type "list", data := .seq its.toArray }) (ia : IntsAre its ns) (len : ns.length ≤ sizeLine) (room : Room k callerA)
    (F : ∀ base : Heap, K.In base → base.Ns mainGlobals mg → FnG P w K mg base k fa fd [x] sp) (bi : ∀ (s : Shared) (u : Value), BindsTo s fd ⟨[u], []⟩ [(x, u)])
    (hs : ∀ H : Hp, Only H → SqL K H a (ns.map V.int) → sp [.ref a] H (fun v _ => v = .bl true) fun _ _ _ => False) :
    codeAny (model P w) callerA (.call (.ref fa) ⟨[.ref a], []⟩) (fun r s' => r = .ok (.ret (.bool true)) ∧ OldK s.heap s'.heap ∧ s'.os = s.os ∧ AllBare s'.gens) s := by
  have ri := vals_ints ia
  have li := ia.length
  have from_H : ∀ H : Hp, Only H → SqL K H a (ns.map V.int) → HOk P w H s.heap → (∀ b, b ≠ a → H b = none) → (K.lookup a = none ∨ H a = none) →
      codeAny (model P w) callerA (.call (.ref fa) ⟨[.ref a], []⟩) (fun r s' => r = .ok (.ret (.bool true)) ∧ OldK s.heap s'.heap ∧ s'.os = s.os ∧ AllBare s'.gens) s := by
    intro H only sq hok off ka
    have seen : ∀ {b : Addr} {o : Obj}, s.heap.get? b = some o → H b = none → (hidT s.heap H).get? b = some o := fun h n => hidT_get h n
    have nsd : ∀ {b : Addr} {m : Str → Option Value}, s.heap.Ns b m → (hidT s.heap H).Ns b m := by
      rintro b m ⟨o, en, ep, h1, h2, h3⟩
      refine ⟨o, en, ep, seen h1 ?_, h2, h3⟩
      by_cases z : b = a
      · exfalso
        rw [z, oa] at h1
        cases h1
        cases (show Data.seq its.toArray _ = Data.dict en ep from h2)
      · exact off b z
    have kb : K.In (hidT s.heap H) := by
      intro b o h1
      refine seen (kin b o h1) ?_
      by_cases z : b = a
      · rw [z] at h1 ⊢
        rcases ka with h | h
        · rw [h] at h1; cases h1
        · exact h
      · exact off b z
    have lim : (hidT s.heap H).NoLimit := by
      obtain ⟨mc, h1, h2⟩ := nol
      exact ⟨mc, nsd h1, h2⟩
    have md : Mod K mg (hidT s.heap H) := ⟨kb, nsd nm, ⟨mb, nsd nb, bb⟩, lim⟩
    have e0 : Env0 P w K mg (hidT s.heap H) callerA [] s H :=
      ⟨rfl, md, fun b o h => of_hidT h, Nat.le_of_eq (hidT_size _ _), trivial, fun b h => absurd (show b ∈ ([] : List Addr) from h) List.not_mem_nil, hok, .of_eq gn⟩
    have run := (F _ kb (nsd nm)).go callerA [] s H ⟨[.ref a], []⟩ [.ref a] [.ref a] _ _ rfl room e0 (bi s (.ref a)) (.cons rfl .nil) (hs H only sq)
    refine codeAny_mono run ?_
    intro r s2 z
    match r, z with
    | .error _, z => exact z.elim
    | .ok .next, z => exact z.elim
    | .ok .brk, z => exact z.elim
    | .ok .cont, z => exact z.elim
    | .ok (.ret u), ⟨v, H2, os, bare, un, hok2, rv, hv⟩ =>
      have hv : v = .bl true := hv
      subst hv
      have hu : u = Value.bool true := rv
      subst hu
      refine ⟨rfl, OldK.of_keep ?_, os, bare⟩
      intro b o h1
      rcases only b with z | ⟨ob, xs, z⟩
      · exact un.keep b o h1 z (fun y => by cases (show b ∈ ([] : List Addr) from y)) (fun y => by cases y)
      · obtain ⟨y1, _⟩ := hok b _ z
        obtain ⟨y2, _⟩ := hok2 b _ (un.frzs b ob _ z)
        rw [h1] at y1
        cases y1
        exact y2
  by_cases hk : K.lookup a = none
  · let H : Hp := fun b => if b = a then some (.frz { cls := .type "list", data := .seq its.toArray } (.lst (ns.map V.int))) else none
    have Ha : H a = some (.frz { cls := .type "list", data := .seq its.toArray } (.lst (ns.map V.int))) := if_pos rfl
    have Hn : ∀ b, b ≠ a → H b = none := fun b z => if_neg z
    refine from_H H ?_ (.inl (.inr ⟨_, Ha⟩)) ?_ Hn (.inl hk)
    · intro b
      by_cases z : b = a
      · exact .inr ⟨_, _, by rw [z]; exact Ha⟩
      · exact .inl (Hn b z)
    · intro b u hu
      by_cases z : b = a
      · subst z
        rw [Ha] at hu
        cases hu
        exact ⟨oa, by rw [List.length_map]; exact len, its, _, ri, oa⟩
      · rw [Hn b z] at hu; cases hu
  · obtain ⟨o, ho⟩ := Option.ne_none_iff_exists'.mp hk
    have h1 := kin a o ho
    rw [oa] at h1
    cases h1
    refine from_H (fun _ => none) (fun _ => .inl rfl) (.inr ⟨_, its.toArray, _, ho, rfl, rfl, rfl, ?_, by simpa using ri⟩) (fun b u z => by cases (show (none : Option HO) = some u from z)) (fun _ _ => rfl) (.inr rfl)
    rw [List.size_toArray, li]
    exact len
end Mp
namespace Mp
open PySem PySem.Spec PyProof.Rows L2
section
variable {fb : List (PySem.W.Frag → Bool)} {fn : List (Str × Stmt)} {K : PySem.W.Frag} {h : Heap} {mg : Str → Option Value}
theorem SaysM.fact (c : SaysM fb fn K) (i : Nat) {f : PySem.W.Frag → Bool} (e : fb[i]? = some f) : f K = true := by
  have c1 : (fb.all fun f => f K) = true := congrArg (fun z : AlM => z.1) c
  exact List.all_eq_true.mp c1 f (List.mem_of_getElem? e)
theorem SaysM.fun_ (c : SaysM fb fn K) {x : Str} {st : Stmt} (i : Nat) (e1 : fn[i]? = some (x, st)) :
    ∃ f, PySem.W.nsIn K mainGlobals x = some (some (.ref f)) ∧ ∃ fd, Fun K x x st f fd := by
  have c2 : fn.map (fun d => oneM K d.1) = fn.map dueM := congrArg (fun z : AlM => z.2) c
  have e3 : (fn.map fun d => oneM K d.1)[i]? = (fn.map dueM)[i]? := by rw [c2]
  rw [List.getElem?_map, List.getElem?_map, e1] at e3
  exact oneM_ok (d := (x, st)) (Option.some.inj e3)
theorem SaysM.cn (c : SaysM fb fn K) (X : K.In h) (G : h.Ns mainGlobals mg) {x : Str} {p : PV} (i : Nat) (e : fb[i]? = some (zcn x p)) : ∃ u v, mg x = some u ∧ RelV v u ∧ ∀ H, RepV K H p v := by
  have k : (match PySem.W.nsIn K mainGlobals x with
    | some (some u) => cvB K p u
    | _ => false) = true := c.fact i e
  cases q : PySem.W.nsIn K mainGlobals x with
  | none => rw [q] at k; cases k
  | some o =>
    rw [q] at k
    cases o with
    | none => cases k
    | some u =>
      obtain ⟨v, h1, h2⟩ := cvB_ok (show cvB K p u = true from k)
      exact ⟨u, v, PySem.W.mg_of X G q, h1, h2⟩
theorem SaysM.free (c : SaysM fb fn K) (X : K.In h) (G : h.Ns mainGlobals mg) {x : Str} (i : Nat) (e : fb[i]? = some (zfree x)) : mg x = none := PySem.W.mg_none_of X G (He.eqO_ok (c.fact i e))
end
/-- the goal that the head's run leaves -/
theorem g_walkE {l : PySem.W.OpenLaw} {n k : Nat} {q : Program} {loose : List Str} {XP : (Str → Option Value) → Heap → Prop} {YP : World → Heap → Prop} {d : DefRec} {sp : PySem.W.Frag → Sp} {x : Str}
    (hn : l.most = some n) (hn2 : n ≤ sizeLine) (hdf : d.params.defaults = []) (room : Room k callerA)
    (F : ∀ (w : World) (mg : Str → Option Value) (fa : Addr) (h : Heap), YP w h → h.Ns mainGlobals mg → mg d.name = some (.ref fa) →
      ∃ K : PySem.W.Frag, K.In h ∧ ∃ fd : FuncData, (∀ (s : Shared) (u : Value), BindsTo s fd ⟨[u], []⟩ [(x, u)]) ∧ ∀ base : Heap, K.In base → base.Ns mainGlobals mg → FnG l.prog w K mg base k fa fd [x] (sp K))
    (hs : ∀ (K : PySem.W.Frag) (H : Hp) (a : Addr) (ns : List Int), ns.length ≤ n → Only H → SqL K H a (ns.map V.int) → sp K [.ref a] H (fun v _ => v = .bl true) fun _ _ _ => False) :
    PySem.W.WalkO q loose XP YP l.row.toRowW d [] (fun f vs => PySem.call f vs) := by
  apply Att.attach_call hn hdf
  intro w s₀ s mg mb fa o pm cd doc a its ns G Y _ _ _ hmg oa ia len gn
  obtain ⟨K, kin, fd, bi, hF⟩ := F w mg fa _ Y G.T.g hmg
  exact g_law kin G.T.g G.T.b G.T.builtins G.T.nolimit gn oa ia (Nat.le_trans len hn2) room hF bi fun H => hs K H a ns len
end Mp
namespace Mp
open PySem PySem.Spec PyProof.Rows L2
abbrev Op2 := PV → PV → Sto → PK → Prop
abbrev BiF := List PV → Sto → PK → Prop
def newL (L : Sto) (xs : List PV) (R : PK) : Prop := ∀ p, L p = none → R (.ref p) (put L p (.l xs))
def oAdd : Op2 := fun x y L R => match x, y with
  | .bl k, .int j => R (.int (b2i k + j)) L
  | .int i, .int j => R (.int (i + j)) L
  | .str a, .str b => a.length + b.length ≤ sizeLine ∧ R (.str (a ++ b)) L
  | .tup xs, .tup ys => xs.length + ys.length ≤ sizeLine ∧ R (.tup (xs ++ ys)) L
  | .ref a, .ref b => ∃ xs ys, L a = some (.l xs) ∧ L b = some (.l ys) ∧ xs.length + ys.length ≤ sizeLine ∧ newL L (xs ++ ys) R
  | _, _ => False
def oSub : Op2 := fun x y L R => match x, y with
  | .bl k, .int j => R (.int (b2i k - j)) L
  | .int i, .int j => R (.int (i - j)) L
  | _, _ => False
structure MulOk (i j : Int) : Prop where
  ok : IntMulOk i j
structure PowOk (i j : Int) : Prop where
  nn : 0 ≤ j
  sz : (Builtin.Int.intBits i : Int) * j ≤ 2 ^ 27
def oMul : Op2 := fun x y L R => match x, y with
  | .int i, .bl k => R (.int (i * b2i k)) L
  | .str z, .int n => PySem.MulOk z n ∧ R (.str (Txt.mul z n)) L
  | .int i, .int j => MulOk i j ∧ R (.int (i * j)) L
  | .ref a, .int k => ∃ xs, L a = some (.l xs) ∧ -(2 ^ 63) ≤ k ∧ k < 2 ^ 63 ∧ xs.length * k.toNat ≤ sizeLine ∧ newL L (List.replicate k.toNat xs).flatten R
  | _, _ => False
structure NoPl (i j : Int) : Prop where
  ok : Builtin.divisionGoesByPylong i j = false
def oDiv : Op2 := fun x y L R => match x, y with
  | .int i, .int j => j ≠ 0 ∧ NoPl i j ∧ R (.int (i.fdiv j)) L
  | _, _ => False
def oMod : Op2 := fun x y L R => match x, y with
  | .int i, .int j => j ≠ 0 ∧ R (.int (i.fmod j)) L
  | _, _ => False
def oPow : Op2 := fun x y L R => match x, y with
  | .int i, .int j => PowOk i j ∧ R (.int (i ^ j.toNat)) L
  | _, _ => False
def oI (g : Int → Int → Bool) : Op2 := fun x y L R => match x, y with
  | .int i, .int j => R (.bl (g i j)) L
  | _, _ => False
abbrev oLt : Op2 := oI fun i j => decide (i < j)
abbrev oLe : Op2 := oI fun i j => decide (i ≤ j)
abbrev oGt : Op2 := oI fun i j => decide (j < i)
abbrev oGe : Op2 := oI fun i j => decide (j ≤ i)
def isN : PV → Bool
  | .non => true
  | _ => false
def oIs : Op2 := fun x y L R => match y with
  | .non => R (.bl (isN x)) L
  | .bl b => (match x with
    | .bl a => R (.bl (decide (a = b))) L
    | _ => False)
  | _ => False
def oIsNot : Op2 := fun x y L R => match y with
  | .non => R (.bl (!isN x)) L
  | .bl b => (match x with
    | .bl a => R (.bl (!decide (a = b))) L
    | _ => False)
  | _ => False
mutual
inductive PD (L : Sto) : PV → PyData → Prop
  | non : PD L .non .none
  | bl (b : Bool) : PD L (.bl b) (.bool b)
  | int (i : Int) : PD L (.int i) (.int i)
  | str (x : Str) : PD L (.str x) (.str x)
  | lst {a : Addr} {xs : List PV} {ds : List PyData} : L a = some (.l xs) → PDs L xs ds → PD L (.ref a) (.list ds)
  | tup {xs : List PV} {ds : List PyData} : PDs L xs ds → PD L (.tup xs) (.tuple ds)
inductive PDs (L : Sto) : List PV → List PyData → Prop
  | nil : PDs L [] []
  | cons {x : PV} {xs : List PV} {d : PyData} {ds : List PyData} : PD L x d → PDs L xs ds → PDs L (x :: xs) (d :: ds)
end
def oEq : Op2 := fun x y L R => ∃ d e, PD L x d ∧ PD L y e ∧ SeqAt.shaped d = true ∧ SeqAt.shaped e = true ∧ R (.bl (PyData.eqv d e)) L
def oNe : Op2 := fun x y L R => ∃ d e, PD L x d ∧ PD L y e ∧ SeqAt.shaped d = true ∧ SeqAt.shaped e = true ∧ R (.bl (!PyData.eqv d e)) L
section
variable {K : PySem.W.Frag} {H H' : Hp} {L : Sto}
mutual
theorem PD.dp (r : RepH K H L) : ∀ {x : PV} {d : PyData} {v : V}, PD L x d → RepV K H x v → Dp K H v d
  | _, _, _, .non, h => by cases (show _ = _ from h); exact .non
  | _, _, _, .bl b, h => by cases (show _ = _ from h); exact .bl b
  | _, _, _, .int b, h => by cases (show _ = _ from h); exact .int b
  | _, _, _, .str b, h => by cases (show _ = _ from h); exact .str b
  | _, _, _, .lst ha hs, h => by
    cases (show _ = _ from h)
    obtain ⟨vs, h1, h2⟩ := r.lst ha
    exact .lst (.inl (.inl h1)) (PDs.dp r hs h2)
  | _, _, _, .tup hs, h => by
    obtain ⟨a, vs, rfl, h1, h2⟩ := h
    exact .tup h1.sq (PDs.dp r hs h2)
theorem PDs.dp (r : RepH K H L) : ∀ {x : List PV} {d : List PyData} {v : List V}, PDs L x d → RepVs K H x v → DpAll K H v d
  | _, _, _, .nil, h => by cases (show _ = _ from h); exact .nil
  | _, _, _, .cons h1 h2, h => by
    obtain ⟨v, r', rfl, q1, q2⟩ := h
    exact .cons (PD.dp r h1 q1) (PDs.dp r h2 q2)
end
end
def OpS (K : PySem.W.Frag) (f : Op2) (r : R2) : Prop := ∀ (x y : PV) (v u : V) (H : Hp) (L : Sto) (R : PK) (Q : VK), RepV K H x v → RepV K H y u → RepH K H L → f x y L R → Kt K H L R Q → r v u H Q
/-- the machine's operation fn keeps to f -/
def OpOk (X : Cx) (fn : Value → Value → Sem Value) (f : Op2) : Prop := ∃ r, OpR X fn r ∧ OpS X.K f r
section
variable {X : Cx} {K : PySem.W.Frag} {H H' : Hp} {L : Sto} {R : PK} {Q : VK}
theorem Kt.here (k : Kt K H L R Q) (rh : RepH K H L) {x : PV} {v : V} (h : R x L) (rv : RepV K H x v) : Q v H := k x L v H h .refl rv rh
theorem Kt.newl (k : Kt K H L R Q) (rh : RepH K H L) {xs : List PV} {vs : List V} (h : newL L xs R) (rv : RepVs K H xs vs) : ∀ p, H p = none → Q (.ref p) (upd H p (.lst vs)) := fun p hp =>
  k _ _ _ _ (h p (rh.fresh hp)) (fm_new hp) rfl (reph_new rh hp rv)
theorem Kt.newt (k : Kt K H L R Q) (rh : RepH K H L) {xs : List PV} {vs : List V} (h : R (.tup xs) L) (rv : RepVs K H xs vs) : ∀ p, H p = none → Q (.ref p) (upd H p (.tup vs)) := fun p hp =>
  k _ _ _ _ h (fm_tup rh hp) (repv_tup rv hp) (reph_tup rh hp)
theorem op_add_bi : OpR X (binaryOp .Add) (fun x y H Q => ∃ k i, x = .bl k ∧ y = .int i ∧ Q (.int (b2i k + i)) H) := by
  intro pins s σ H x y v u Q I rx ry h
  obtain ⟨k, i, rfl, rfl, q⟩ := h
  obtain ⟨t, rfl⟩ := ry
  cases rx
  exact PySem.IntBool.add_bool_int ⟨.int (b2i k + i), H, I.tok _, ⟨_, rfl⟩, q⟩
theorem op_sub_bi : OpR X (binaryOp .Sub) (fun x y H Q => ∃ k i, x = .bl k ∧ y = .int i ∧ Q (.int (b2i k - i)) H) := by
  intro pins s σ H x y v u Q I rx ry h
  obtain ⟨k, i, rfl, rfl, q⟩ := h
  obtain ⟨t, rfl⟩ := ry
  cases rx
  exact PySem.IntBool.sub_bool_int ⟨.int (b2i k - i), H, I.tok _, ⟨_, rfl⟩, q⟩
theorem op_mul_ib : OpR X (binaryOp .Mult) (fun x y H Q => ∃ i k, x = .int i ∧ y = .bl k ∧ Q (.int (i * b2i k)) H) := by
  intro pins s σ H x y v u Q I rx ry h
  obtain ⟨i, k, rfl, rfl, q⟩ := h
  obtain ⟨t, rfl⟩ := rx
  cases ry
  exact PySem.IntBool.mul_int_bool ⟨.int (i * b2i k), H, I.tok _, ⟨_, rfl⟩, q⟩
theorem op_mul_si : OpR X (binaryOp .Mult) (fun x y H Q => ∃ z i, x = .str z ∧ y = .int i ∧ PySem.MulOk z i ∧ Q (.str (Txt.mul z i)) H) := by
  intro pins s σ H x y v u Q I rx ry h
  obtain ⟨z, i, rfl, rfl, ok, q⟩ := h
  obtain ⟨t, rfl⟩ := rx
  obtain ⟨t', rfl⟩ := ry
  exact PySem.SB.mul ok fun t' k => ⟨.str _, H, I.tok _, ⟨_, rfl⟩, q⟩
theorem un_neg_b : UnR X (unaryOp .USub) (fun x H Q => ∃ k, x = .bl k ∧ Q (.int (-b2i k)) H) := by
  intro pins s σ H x v Q I rx h
  obtain ⟨k, rfl, q⟩ := h
  cases rx
  refine unaryOp_gives (op := .USub) (T := "bool") rfl rfl PySem.F.slot_bool_neg PySem.F.entry_int_neg (PySem.F.args_int_neg_1 _) (m := .int (-b2i k)) ?_ ?_
  · cases k <;> exact .of_eq rfl
  · exact ⟨.int (-b2i k), H, I.tok _, ⟨_, rfl⟩, q⟩
theorem UnR.or {f} {r r'} (h : UnR X f r) (h' : UnR X f r') : UnR X f (fun x H Q => r x H Q ∨ r' x H Q) := by
  intro pins s σ H x v Q I rx z
  rcases z with z | z
  · exact h _ _ _ _ _ _ _ I rx z
  · exact h' _ _ _ _ _ _ _ I rx z
theorem ok_add : OpOk X (binaryOp .Add) oAdd := by
  refine ⟨_, op_add_bi.or (op_add.or (op_add_str.or (op_catA.or op_cat))), ?_⟩
  intro x y v u H L R Q rx ry rh h k
  cases x <;> cases y <;> first | exact absurd h (fun z => z) | skip
  · cases (show _ = _ from rx); cases (show _ = _ from ry)
    exact .inl ⟨_, _, rfl, rfl, k.here rh h rfl⟩
  · cases (show _ = _ from rx); cases (show _ = _ from ry)
    exact .inr (.inl ⟨_, _, rfl, rfl, k.here rh h rfl⟩)
  · cases (show _ = _ from rx); cases (show _ = _ from ry)
    exact .inr (.inr (.inl ⟨_, _, rfl, rfl, h.1, k.here rh h.2 rfl⟩))
  · cases (show _ = _ from rx); cases (show _ = _ from ry)
    obtain ⟨xs, ys, h1, h2, h3, h4⟩ := h
    obtain ⟨vs, e1, r1⟩ := rh.lst h1
    obtain ⟨ws, e2, r2⟩ := rh.lst h2
    exact .inr (.inr (.inr (.inr ⟨_, _, vs, ws, rfl, rfl, e1, e2, by rw [← r1.length, ← r2.length]; exact h3, k.newl rh h4 (r1.append r2)⟩)))
  · obtain ⟨a, vs, rfl, t1, r1⟩ := rx
    obtain ⟨b, ws, rfl, t2, r2⟩ := ry
    refine .inr (.inr (.inr (.inl ⟨a, b, vs, ws, rfl, rfl, t1.sq, t2.sq, by rw [← r1.length, ← r2.length]; exact h.1, fun z => ?_, fun z1 z2 => ?_, fun _ _ => k.newt rh h.2 (r1.append r2)⟩)))
    · subst z
      rename_i xs ys
      have e : xs = [] := List.eq_nil_of_length_eq_zero (by rw [r1.length]; rfl)
      subst e
      exact k.here rh h.2 ⟨b, ws, rfl, t2, r2⟩
    · subst z2
      rename_i xs ys
      have e : ys = [] := List.eq_nil_of_length_eq_zero (by rw [r2.length]; rfl)
      subst e
      refine k.here rh (x := .tup (xs ++ [])) h.2 ⟨a, vs, rfl, t1, ?_⟩
      rw [List.append_nil]
      exact r1
theorem ok_sub : OpOk X (binaryOp .Sub) oSub := by
  refine ⟨_, op_sub_bi.or op_sub, ?_⟩
  intro x y v u H L R Q rx ry rh h k
  cases x <;> cases y <;> first | exact absurd h (fun z => z) | skip
  · cases (show _ = _ from rx); cases (show _ = _ from ry)
    exact .inl ⟨_, _, rfl, rfl, k.here rh h rfl⟩
  · cases (show _ = _ from rx); cases (show _ = _ from ry)
    exact .inr ⟨_, _, rfl, rfl, k.here rh h rfl⟩
theorem op_mulA : OpR X (binaryOp .Mult) (rI MulOk fun i j => .int (i * j)) := opI fun _ _ _ _ _ _ _ hc q => mul_int q hc.ok
theorem op_powA : OpR X (binaryOp .Pow) (rI PowOk fun i j => .int (i ^ j.toNat)) := opI fun _ _ _ _ _ _ _ hc q => pow_int hc.nn hc.sz q
theorem op_fdivA : OpR X (binaryOp .FloorDiv) (rI (fun i j => j ≠ 0 ∧ NoPl i j) fun i j => .int (i.fdiv j)) := opI fun _ _ _ _ _ _ _ hc q => floordiv_int hc.1 q (.inl hc.2.ok)
theorem ok_mul : OpOk X (binaryOp .Mult) oMul := by
  refine ⟨_, op_mul_ib.or (op_mulA.or (op_rep.or op_mul_si)), ?_⟩
  intro x y v u H L R Q rx ry rh h k
  cases x <;> cases y <;> first | exact absurd h (fun z => z) | skip
  · cases (show _ = _ from rx); cases (show _ = _ from ry)
    exact .inl ⟨_, _, rfl, rfl, k.here rh h rfl⟩
  · cases (show _ = _ from rx); cases (show _ = _ from ry)
    exact .inr (.inl ⟨_, _, rfl, rfl, h.1, k.here rh h.2 rfl⟩)
  · cases (show _ = _ from rx); cases (show _ = _ from ry)
    exact .inr (.inr (.inr ⟨_, _, rfl, rfl, h.1, k.here rh h.2 rfl⟩))
  · cases (show _ = _ from rx); cases (show _ = _ from ry)
    obtain ⟨xs, h1, h2, h3, h4, h5⟩ := h
    obtain ⟨vs, e1, r1⟩ := rh.lst h1
    exact .inr (.inr (.inl ⟨_, _, vs, rfl, rfl, e1, h2, h3, by rw [← r1.length]; exact h4, k.newl rh h5 (r1.rep _)⟩))
theorem ok_div : OpOk X (binaryOp .FloorDiv) oDiv := by
  refine ⟨_, op_fdivA, ?_⟩
  intro x y v u H L R Q rx ry rh h k
  cases x <;> cases y <;> first | exact absurd h (fun z => z) | skip
  cases (show _ = _ from rx); cases (show _ = _ from ry)
  exact ⟨_, _, rfl, rfl, ⟨h.1, h.2.1⟩, k.here rh h.2.2 rfl⟩
theorem ok_mod : OpOk X (binaryOp .Mod) oMod := by
  refine ⟨_, op_modN, ?_⟩
  intro x y v u H L R Q rx ry rh h k
  cases x <;> cases y <;> first | exact absurd h (fun z => z) | skip
  cases (show _ = _ from rx); cases (show _ = _ from ry)
  exact ⟨_, _, rfl, rfl, h.1, k.here rh h.2 rfl⟩
theorem ok_pow : OpOk X (binaryOp .Pow) oPow := by
  refine ⟨_, op_powA, ?_⟩
  intro x y v u H L R Q rx ry rh h k
  cases x <;> cases y <;> first | exact absurd h (fun z => z) | skip
  cases (show _ = _ from rx); cases (show _ = _ from ry)
  exact ⟨_, _, rfl, rfl, h.1, k.here rh h.2 rfl⟩
theorem okI {op : CmpOp} {g : Int → Int → Bool} (ho : OpR X (compareOp op) (rI0 fun i j => .bl (g i j))) : OpOk X (compareOp op) (oI g) := by
  refine ⟨_, ho, ?_⟩
  intro x y v u H L R Q rx ry rh h k
  cases x <;> cases y <;> first | exact absurd h (fun z => z) | skip
  cases (show _ = _ from rx); cases (show _ = _ from ry)
  exact ⟨_, _, rfl, rfl, k.here rh h rfl⟩
theorem ok_lt : OpOk X (compareOp .Lt) oLt := okI op_lt
theorem ok_le : OpOk X (compareOp .LtE) oLe := okI op_le
theorem ok_gt : OpOk X (compareOp .Gt) oGt := okI op_gt
theorem ok_ge : OpOk X (compareOp .GtE) oGe := okI op_ge
theorem repv_non {x : PV} {v : V} (r : RepV K H x v) : decide (v = .non) = isN x := by
  cases x with
  | non => cases (show _ = _ from r); rfl
  | fz ns => obtain ⟨a, rfl, _⟩ := r; rfl
  | tup ns => obtain ⟨a, vs, rfl, _⟩ := r; rfl
  | _ => cases (show _ = _ from r); rfl
theorem ok_is : OpOk X (compareOp .Is) oIs := by
  refine ⟨_, op_isN.or op_isBl, ?_⟩
  intro x y v u H L R Q rx ry rh h k
  have e := repv_non rx
  unfold oIs at h
  split at h
  · cases (show _ = _ from ry)
    exact .inl ⟨rfl, by rw [e]; exact k.here rh h rfl⟩
  · cases (show _ = _ from ry)
    split at h
    · cases (show _ = _ from rx)
      exact .inr ⟨_, _, rfl, rfl, k.here rh h rfl⟩
    · exact h.elim
  · exact h.elim
theorem ok_isnot : OpOk X (compareOp .IsNot) oIsNot := by
  refine ⟨_, op_notN.or op_notBl, ?_⟩
  intro x y v u H L R Q rx ry rh h k
  have e := repv_non rx
  unfold oIsNot at h
  split at h
  · cases (show _ = _ from ry)
    exact .inl ⟨rfl, by rw [e]; exact k.here rh h rfl⟩
  · cases (show _ = _ from ry)
    split at h
    · cases (show _ = _ from rx)
      exact .inr ⟨_, _, rfl, rfl, k.here rh h rfl⟩
    · exact h.elim
  · exact h.elim
theorem ok_eq (hu : X.A.units + 64 < cLine) : OpOk X (compareOp .Eq) oEq := by
  refine ⟨_, op_eqD hu, ?_⟩
  rintro x y v u H L R Q rx ry rh ⟨d, e, h1, h2, h3, h4, h5⟩ k
  exact ⟨d, e, h1.dp rh rx, h2.dp rh ry, h3, h4, k.here rh h5 rfl⟩
theorem ok_ne (hu : X.A.units + 64 < cLine) : OpOk X (compareOp .NotEq) oNe := by
  refine ⟨_, op_neD hu, ?_⟩
  rintro x y v u H L R Q rx ry rh ⟨d, e, h1, h2, h3, h4, h5⟩ k
  exact ⟨d, e, h1.dp rh rx, h2.dp rh ry, h3, h4, k.here rh h5 rfl⟩
end
def gv : Env → Nat → Option PV
  | [], _ => none
  | x :: _, 0 => x
  | _ :: r, i + 1 => gv r i
theorem gv_some : ∀ {env : Env} {i : Nat} {x : PV}, gv env i = some x → env[i]? = some (some x)
  | [], _, _, h => by cases h
  | _ :: _, 0, _, h => by
    have h : _ = _ := h
    simp only [gv] at h
    rw [h]
    rfl
  | _ :: r, i + 1, x, h => by
    have := gv_some (env := r) (i := i) h
    simpa using this
def wVar (i : Nat) : WE := fun env L R => match gv env i with
  | some x => R x L
  | none => False
def wC (x : PV) : WE := fun _ L R => R x L
def wBin (f : Op2) (a b : WE) : WE := fun env L R => a env L fun x La => b env La fun y Lb => f x y Lb R
def wUn (f : PV → Sto → PK → Prop) (a : WE) : WE := fun env L R => a env L fun x La => f x La R
def oNeg : PV → Sto → PK → Prop := fun x L R => match x with
  | .bl k => R (.int (-b2i k)) L
  | .int i => R (.int (-i)) L
  | _ => False
def bIf (x : PV) (A B : Prop) : Prop := match x with
  | .bl c => if c = true then A else B
  | _ => False
def wAnd (a b : WE) : WE := fun env L R => a env L fun x La => bIf x (b env La R) (R (.bl false) La)
def wOr (a b : WE) : WE := fun env L R => a env L fun x La => bIf x (R (.bl true) La) (b env La R)
def oNot : PV → Sto → PK → Prop := fun x L R => match x with
  | .bl c => R (.bl (!c)) L
  | _ => False
def wIfE (t a b : WE) : WE := fun env L R => t env L fun x La => bIf x (a env La R) (b env La R)
def wChain (f g : Op2) (a b c : WE) : WE := fun env L R => a env L fun x La => b env La fun y Lb => f x y Lb fun z Lc => bIf z (c env Lc fun w Ld => g y w Ld R) (R (.bl false) Lc)
def wTup (ws : List WE) : WE := fun env L R => wAr ws env L fun xs La => xs.length ≤ sizeLine ∧ R (.tup xs) La
def wLst (ws : List WE) : WE := fun env L R => wAr ws env L fun xs La => xs.length ≤ sizeLine ∧ newL La xs R
def wBi (g : BiF) (ws : List WE) : WE := fun env L R => wAr ws env L fun xs La => g xs La R
section
variable {X : Cx} {pos : Pos} {a b c : Expr} {wa wb wc : WE}
theorem lift_bin {f : Op2} {r : R2} {σ : L2.St} {H : Hp} {Q : VK} (hf : OpS X.K f r) (h : liftE X.K (wBin f wa wb) σ H Q) : tOp r (liftE X.K wa) (liftE X.K wb) σ H Q := by
  obtain ⟨env, L, R, hs, hL, hw, k⟩ := h
  refine ⟨env, L, _, hs, hL, hw, fun x La v H1 hb f1 rx r1 => ?_⟩
  refine ⟨env, La, _, hs.ex (f1.ex hL), r1, hb, fun y Lb u H2 hc f2 ry r2 => ?_⟩
  exact hf x y v u H2 Lb R Q (rx.ex (f2.ex r1)) ry r2 hc (k.fm (f1.trans f2))
theorem q_var {i : Nat} {x : Str} (hN : X.N[i]? = some x) (hv : Vis X.env.scope x) (hd : (x == ("__debug__" : Str)) = false) (hcd : (x == ("__classdict__" : Str)) = false) : PE X (.Name x pos) (liftE X.K (wVar i)) :=
  (pe_var hN hv hd hcd).weak fun σ H Q h => by
    obtain ⟨env, L, R, hs, hL, hw, k⟩ := h
    unfold wVar at hw
    cases e : gv env i with
    | none => rw [e] at hw; exact hw.elim
    | some x =>
      rw [e] at hw
      obtain ⟨v, e1, r1⟩ := hs.2 i x (gv_some e)
      exact ⟨v, e1, k.here hL hw r1⟩
theorem q_const {e : Expr} {v : V} {x : PV} (h : PE X e (tC v)) (r : ∀ H, RepV X.K H x v) : PE X e (liftE X.K (wC x)) := h.weak fun σ H Q h => by
  obtain ⟨env, L, R, hs, hL, hw, k⟩ := h
  exact k.here hL hw (r H)
theorem q_bin {op : Operator} {f : Op2} (ho : OpOk X (binaryOp op) f) (ha : PE X a (liftE X.K wa)) (hb : PE X b (liftE X.K wb)) : PE X (.BinOp a op b pos) (liftE X.K (wBin f wa wb)) := by
  obtain ⟨r, h1, h2⟩ := ho
  exact (pe_op h1 ha hb).weak fun σ H Q h => lift_bin h2 h
theorem q_cmp {op : CmpOp} {f : Op2} (ho : OpOk X (compareOp op) f) (ha : PE X a (liftE X.K wa)) (hb : PE X b (liftE X.K wb)) (hm : behindInMarks op b = false) : PE X (.Compare a [op] [b] pos) (liftE X.K (wBin f wa wb)) := by
  obtain ⟨r, h1, h2⟩ := ho
  exact (pe_cmpR h1 ha hb hm).weak fun σ H Q h => lift_bin h2 h
theorem lift_test {w : WE} {te : TE} (hw : ∀ σ H Q, liftE X.K w σ H Q → te σ H Q) {σ : L2.St} {H : Hp} {Q : Bool → Hp → Prop} (h : liftT X.K w σ H Q) : te σ H fun x H' => ∃ k, x = .bl k ∧ Q k H' := by
  obtain ⟨env, L, R, hs, hL, hw', k⟩ := h
  refine hw σ H _ ⟨env, L, R, hs, hL, hw', fun x L' v H' r f rv rh => ?_⟩
  obtain ⟨b, rfl, q⟩ := k x L' H' r f rh
  exact ⟨b, rv, q⟩
theorem t_cmp {op : CmpOp} {f : Op2} (ho : OpOk X (compareOp op) f) (ha : PE X a (liftE X.K wa)) (hb : PE X b (liftE X.K wb)) (hm : behindInMarks op b = false) : PT X (.Compare a [op] [b] pos) (liftT X.K (wBin f wa wb)) := by
  obtain ⟨r, h1, h2⟩ := ho
  exact (pt_cmpR h1 ha hb hm).weak fun σ H Q h => lift_test (fun σ H Q h => lift_bin h2 h) h
theorem t_val {e : Expr} {w : WE} (h : PE X e (liftE X.K w)) (he : ∀ whole, isTrue e X.env whole = (do let v ← whole; standAt e.pos; holding [v] (truthy v))) : PT X e (liftT X.K w) :=
  (pt_val h he).weak fun σ H Q h => lift_test (fun σ H Q h => h) h
theorem lift_chain {f g : Op2} {r r' : R2} {σ : L2.St} {H : Hp} {Q : VK} (hf : OpS X.K f r) (hg : OpS X.K g r') (h : liftE X.K (wChain f g wa wb wc) σ H Q) : tChain r r' (liftE X.K wa) (liftE X.K wb) (liftE X.K wc) σ H Q := by
  obtain ⟨env, L, R, hs, hL, hw, k⟩ := h
  refine ⟨env, L, _, hs, hL, hw, fun x La v H1 hb f1 rx r1 => ?_⟩
  refine ⟨env, La, _, hs.ex (f1.ex hL), r1, hb, fun y Lb u H2 hc f2 ry r2 => ?_⟩
  refine hf x y v u H2 Lb _ _ (rx.ex (f2.ex r1)) ry r2 hc fun z Lc zv H3 hz f3 rz r3 => ?_
  cases z <;> first | exact absurd hz (fun z => z) | skip
  rename_i k'
  cases (show _ = _ from rz)
  refine ⟨k', rfl, ?_⟩
  have hz : if k' = true then _ else _ := hz
  cases k' with
  | false =>
    rw [if_neg Bool.false_ne_true] at hz ⊢
    exact (k.fm ((f1.trans f2).trans f3)).here r3 hz rfl
  | true =>
    rw [if_pos rfl] at hz ⊢
    refine ⟨env, Lc, _, ((hs.ex (f1.ex hL)).ex (f2.ex r1)).ex (f3.ex r2), r3, hz, fun w Ld wv H4 hw4 f4 rw r4 => ?_⟩
    exact hg y w u wv H4 Ld R Q ((ry.ex (f3.ex r2)).ex (f4.ex r3)) rw r4 hw4 (k.fm (((f1.trans f2).trans f3).trans f4))
theorem q_chain {op op' : CmpOp} {f g : Op2} (ho : OpOk X (compareOp op) f) (ho' : OpOk X (compareOp op') g) (ha : PE X a (liftE X.K wa)) (hb : PE X b (liftE X.K wb)) (hc : PE X c (liftE X.K wc)) (hm : lastMarks [op, op'] [b, c] = false) :
    PE X (.Compare a [op, op'] [b, c] pos) (liftE X.K (wChain f g wa wb wc)) := by
  obtain ⟨r, h1, h2⟩ := ho
  obtain ⟨r', h1', h2'⟩ := ho'
  exact (pe_chain h1 h1' ha hb hc hm).weak fun σ H Q h => lift_chain h2 h2' h
theorem t_chain {op op' : CmpOp} {f g : Op2} (ho : OpOk X (compareOp op) f) (ho' : OpOk X (compareOp op') g) (ha : PE X a (liftE X.K wa)) (hb : PE X b (liftE X.K wb)) (hc : PE X c (liftE X.K wc)) (hm : lastMarks [op, op'] [b, c] = false) :
    PT X (.Compare a [op, op'] [b, c] pos) (liftT X.K (wChain f g wa wb wc)) := by
  obtain ⟨r, h1, h2⟩ := ho
  obtain ⟨r', h1', h2'⟩ := ho'
  exact (pt_chain h1 h1' ha hb hc hm).weak fun σ H Q h => lift_test (fun σ H Q h => lift_chain h2 h2' h) h
theorem q_neg (ha : PE X a (liftE X.K wa)) : PE X (.UnaryOp .USub a pos) (liftE X.K (wUn oNeg wa)) := (pe_un (UnR.or un_neg_b un_neg) ha).weak fun σ H Q h => by
  obtain ⟨env, L, R, hs, hL, hw, k⟩ := h
  refine ⟨env, L, _, hs, hL, hw, fun x La v H1 hb f1 rx r1 => ?_⟩
  cases x <;> first | exact absurd hb (fun z => z) | skip
  · cases (show _ = _ from rx)
    exact .inl ⟨_, rfl, (k.fm f1).here r1 hb rfl⟩
  · cases (show _ = _ from rx)
    exact .inr ⟨_, rfl, (k.fm f1).here r1 hb rfl⟩
theorem q_not (ha : PE X a (liftE X.K wa)) : PE X (.UnaryOp .Not a pos) (liftE X.K (wUn oNot wa)) := (pe_not ha).weak fun σ H Q h => by
  obtain ⟨env, L, R, hs, hL, hw, k⟩ := h
  refine ⟨env, L, _, hs, hL, hw, fun x La v H1 hb f1 rx r1 => ?_⟩
  cases x <;> first | exact absurd hb (fun z => z) | skip
  cases (show _ = _ from rx)
  exact ⟨_, rfl, (k.fm f1).here r1 hb rfl⟩
theorem t_not (ha : PT X a (liftT X.K wa)) : PT X (.UnaryOp .Not a pos) (liftT X.K (wUn oNot wa)) := (pt_not ha).weak fun σ H Q h => by
  obtain ⟨env, L, R, hs, hL, hw, k⟩ := h
  refine ⟨env, L, _, hs, hL, hw, fun x La H1 hb f1 r1 => ?_⟩
  cases x <;> first | exact absurd hb (fun z => z) | skip
  refine ⟨_, rfl, ?_⟩
  obtain ⟨b, e, q⟩ := k _ La H1 hb f1 r1
  cases e
  exact q
variable {rest : List Expr}
theorem bIf_bl {x : PV} {A B : Prop} (h : bIf x A B) : ∃ c, x = .bl c ∧ if c = true then A else B := by
  cases x <;> first | exact absurd h (fun z => z) | exact ⟨_, rfl, h⟩
theorem q_and (ha : PE X a (liftE X.K wa)) (hb : PE X (.BoolOp .And (b :: rest) pos) (liftE X.K wb)) : PE X (.BoolOp .And (a :: b :: rest) pos) (liftE X.K (wAnd wa wb)) := (pe_and ha hb).weak fun σ H Q h => by
  obtain ⟨env, L, R, hs, hL, hw, k⟩ := h
  refine ⟨env, L, _, hs, hL, hw, fun x La v H1 hb f1 rx r1 => ?_⟩
  obtain ⟨c, rfl, hc⟩ := bIf_bl hb
  cases (show _ = _ from rx)
  refine ⟨c, rfl, ?_⟩
  cases c with
  | true => exact ⟨env, La, R, hs.ex (f1.ex hL), r1, hc, k.fm f1⟩
  | false => exact (k.fm f1).here r1 hc rfl
theorem q_or (ha : PE X a (liftE X.K wa)) (hb : PE X (.BoolOp .Or (b :: rest) pos) (liftE X.K wb)) : PE X (.BoolOp .Or (a :: b :: rest) pos) (liftE X.K (wOr wa wb)) := (pe_or ha hb).weak fun σ H Q h => by
  obtain ⟨env, L, R, hs, hL, hw, k⟩ := h
  refine ⟨env, L, _, hs, hL, hw, fun x La v H1 hb f1 rx r1 => ?_⟩
  obtain ⟨c, rfl, hc⟩ := bIf_bl hb
  cases (show _ = _ from rx)
  refine ⟨c, rfl, ?_⟩
  cases c with
  | false => exact ⟨env, La, R, hs.ex (f1.ex hL), r1, hc, k.fm f1⟩
  | true => exact (k.fm f1).here r1 hc rfl
theorem q_one {op} (ha : PE X a (liftE X.K wa)) : PE X (.BoolOp op [a] pos) (liftE X.K wa) := pe_one ha
theorem w_and1 (ha : PT X a (liftT X.K wa)) : PW X (.BoolOp .And [a] pos) (liftT X.K wa) := pw_and1 ha
theorem w_or1 (ha : PT X a (liftT X.K wa)) : PW X (.BoolOp .Or [a] pos) (liftT X.K wa) := pw_or1 ha
theorem pw_weak {e : Expr} {t t' : TT} (h : PW X e t) (w : ∀ σ H Q, t' σ H Q → t σ H Q) : PW X e t' := ⟨fun wh pins s σ H Q I q => h.run wh pins s σ H Q I (w σ H Q q)⟩
theorem w_and (ha : PT X a (liftT X.K wa)) (hb : PW X (.BoolOp .And (b :: rest) pos) (liftT X.K wb)) : PW X (.BoolOp .And (a :: b :: rest) pos) (liftT X.K (wAnd wa wb)) := pw_weak (pw_and ha hb) fun σ H Q h => by
  obtain ⟨env, L, R, hs, hL, hw, k⟩ := h
  refine ⟨env, L, _, hs, hL, hw, fun x La H1 hb f1 r1 => ?_⟩
  obtain ⟨c, rfl, hc⟩ := bIf_bl hb
  refine ⟨c, rfl, ?_⟩
  cases c with
  | true => exact ⟨env, La, R, hs.ex (f1.ex hL), r1, hc, fun x L' H' r f rh => k x L' H' r (f1.trans f) rh⟩
  | false =>
    obtain ⟨b, e, q⟩ := k _ La H1 hc f1 r1
    cases e
    exact q
theorem w_or (ha : PT X a (liftT X.K wa)) (hb : PW X (.BoolOp .Or (b :: rest) pos) (liftT X.K wb)) : PW X (.BoolOp .Or (a :: b :: rest) pos) (liftT X.K (wOr wa wb)) := pw_weak (pw_or ha hb) fun σ H Q h => by
  obtain ⟨env, L, R, hs, hL, hw, k⟩ := h
  refine ⟨env, L, _, hs, hL, hw, fun x La H1 hb f1 r1 => ?_⟩
  obtain ⟨c, rfl, hc⟩ := bIf_bl hb
  refine ⟨c, rfl, ?_⟩
  cases c with
  | false => exact ⟨env, La, R, hs.ex (f1.ex hL), r1, hc, fun x L' H' r f rh => k x L' H' r (f1.trans f) rh⟩
  | true =>
    obtain ⟨b, e, q⟩ := k _ La H1 hc f1 r1
    cases e
    exact q
theorem q_ifE (hc : PT X c (liftT X.K wc)) (ha : PE X a (liftE X.K wa)) (hb : PE X b (liftE X.K wb)) : PE X (.IfExp c a b pos) (liftE X.K (wIfE wc wa wb)) := (pe_ifExp hc ha hb).weak fun σ H Q h => by
  obtain ⟨env, L, R, hs, hL, hw, k⟩ := h
  refine ⟨env, L, _, hs, hL, hw, fun x La H1 hb f1 r1 => ?_⟩
  obtain ⟨c, rfl, hc⟩ := bIf_bl hb
  refine ⟨c, rfl, ?_⟩
  cases c with
  | true => exact ⟨env, La, R, hs.ex (f1.ex hL), r1, hc, k.fm f1⟩
  | false => exact ⟨env, La, R, hs.ex (f1.ex hL), r1, hc, k.fm f1⟩
/-- arguments -/
theorem q_nil : PA X [] (liftA X.K []) := (pa_nil).weak fun σ H Q h => by
  obtain ⟨env, L, R, hs, hL, hw, k⟩ := h
  exact k [] L [] H hw rfl .refl rfl hL
theorem q_cons {es : List Expr} {ws : List WE} (ha : PE X a (liftE X.K wa)) (hr : PA X es (liftA X.K ws)) (hs : starEach (a :: es) X.env = (false, eval a X.env) :: starEach es X.env) : PA X (a :: es) (liftA X.K (wa :: ws)) := (pa_cons ha hr hs).weak fun σ H Q h => by
  obtain ⟨env, L, R, hs, hL, hw, k⟩ := h
  refine ⟨env, L, _, hs, hL, hw, fun x La v H1 hb f1 rx r1 => ?_⟩
  refine ⟨env, La, _, hs.ex (f1.ex hL), r1, hb, fun xs Lb vs H2 hc hn f2 rxs r2 => ?_⟩
  exact k (x :: xs) Lb (v :: vs) H2 hc (by rw [List.length_cons, List.length_cons, hn]) (f1.trans f2) ⟨v, vs, rfl, rx.ex (f2.ex r1), rxs⟩ r2
theorem q_tup {es : List Expr} {ws : List WE} {x1} (h : PA X es (liftA X.K ws)) : PE X (.Tuple es x1 pos) (liftE X.K (wTup ws)) := (pe_tup h).weak fun σ H Q h => by
  obtain ⟨env, L, R, hs, hL, hw, k⟩ := h
  exact ⟨env, L, _, hs, hL, hw, fun xs La vs H1 hb hn f1 rx r1 => ⟨by rw [← rx.length]; exact hb.1, (k.fm f1).newt r1 hb.2 rx⟩⟩
theorem q_lst {es : List Expr} {ws : List WE} (h : PA X es (liftA X.K ws)) : PE X (.List es pos) (liftE X.K (wLst ws)) := (pe_lst h).weak fun σ H Q h => by
  obtain ⟨env, L, R, hs, hL, hw, k⟩ := h
  exact ⟨env, L, _, hs, hL, hw, fun xs La vs H1 hb hn f1 rx r1 => ⟨by rw [← rx.length]; exact hb.1, (k.fm f1).newl r1 hb.2 rx⟩⟩
/-- a builtin's rule over data -/
def BiS (K : PySem.W.Frag) (g : BiF) (r : List V → Hp → VK → Prop) : Prop := ∀ (xs : List PV) (vs : List V) (H : Hp) (L : Sto) (R : PK) (Q : VK), RepVs K H xs vs → RepH K H L → g xs L R → Kt K H L R Q → r vs H Q
def BiOk (X : Cx) (f : Value) (g : BiF) : Prop := ∃ r, CallR X f r ∧ BiS X.K g r
theorem lift_bi {g : BiF} {r : List V → Hp → VK → Prop} {ws : List WE} {σ : L2.St} {H : Hp} {Q : VK} (hg : BiS X.K g r) (h : liftE X.K (wBi g ws) σ H Q) : tCB r (liftA X.K ws) σ H Q := by
  obtain ⟨env, L, R, hs, hL, hw, k⟩ := h
  exact ⟨env, L, _, hs, hL, hw, fun xs La vs H1 hb hn f1 rx r1 => hg xs vs H1 La R Q rx r1 hb (k.fm f1)⟩
end
end Mp
namespace HTR
open PySem PySem.Spec PyProof.Rows L2 HT
section
variable {prog : Program} {w : World} {A : Around} {E : Value → Shared → Prop} {s : Shared}
theorem adjust_rev (n : Nat) : Builtin.Slice.sliceAdjust none none (-1) (n : Int) = ((n : Int) - 1, -1) := by
  unfold Builtin.Slice.sliceAdjust
  simp
theorem places_rev (n : Nat) : Builtin.Slice.slicePlaces ((n : Int) - 1) (-1) (-1) = n := by
  unfold Builtin.Slice.slicePlaces
  have h1 : ¬ ((-1 : Int) > 0) := by omega
  rw [if_neg h1]
  split
  · rw [show (- (-1 : Int)) = 1 by omega, Int.ediv_one]
    omega
  · omega
theorem sliceApplied_rev {sl : Addr} {t : Tok} {n : Nat} {Q : Int × Int × Nat → Shared → Prop} (hs : s.heap.IsSliceOf sl .none .none (.int (-1) t))
    (h : Q ((n : Int) - 1, -1, n) s) : wpAny (model prog w) A (Builtin.Slice.sliceApplied (.ref sl) (pure (n : Int))) Q E s := by
  obtain ⟨os, hos, hcs, hds⟩ := id hs
  unfold Builtin.Slice.sliceApplied Builtin.Slice.sliceFields
  refine wpAny_bind (wpAny_bind (wpAny_field hos hds (x := .none) rfl (wpAny_bind (wpAny_field hos hds (x := .none) rfl (wpAny_bind (wpAny_field hos hds (x := .int (-1) t) rfl (wpAny_pure ?_)))))))
  refine wpAny_bind (slicePart_int ?_)
  show wpAny _ _ (if ((-1 : Int) == 0) = true then _ else _) _ _ s
  rw [if_neg (by decide)]
  refine wpAny_bind (slicePart_none (wpAny_bind (slicePart_none (wpAny_bind (wpAny_pure ?_)))))
  show wpAny _ _ (match Builtin.Slice.sliceAdjust none none (-1) (n : Int) with | (lo, hi) => pure (lo, (-1 : Int), Builtin.Slice.slicePlaces lo hi (-1))) _ _ s
  rw [adjust_rev n]
  show wpAny _ _ (pure ((n : Int) - 1, (-1 : Int), Builtin.Slice.slicePlaces ((n : Int) - 1) (-1) (-1))) _ _ s
  rw [places_rev]
  exact wpAny_pure h
theorem filterMap_some {α β : Type} {f : α → Option β} {g : α → β} : ∀ {l : List α}, (∀ m ∈ l, f m = some (g m)) → l.filterMap f = l.map g
  | [], _ => rfl
  | a :: l, h => by
    rw [List.filterMap_cons, h a List.mem_cons_self, filterMap_some fun m hm => h m (List.mem_cons_of_mem _ hm)]
    rfl
theorem pick_rev (xs : Array Value) : ((List.range xs.size).filterMap fun (m : Nat) => xs[((xs.size : Int) - 1 + (m : Int) * -1).toNat]?).toArray = xs.toList.reverse.toArray := by
  congr 1
  apply List.ext_getElem?
  intro i
  have e : (List.range xs.size).filterMap (fun (m : Nat) => xs[((xs.size : Int) - 1 + (m : Int) * -1).toNat]?) = (List.range xs.size).map (fun m => xs.toList.reverse.getD m .none) := by
    refine filterMap_some fun m hm => ?_
    have hm := List.mem_range.mp hm
    rw [show ((xs.size : Int) - 1 + (m : Int) * -1).toNat = xs.size - 1 - m by omega]
    show xs[xs.size - 1 - m]? = some (xs.toList.reverse.getD m .none)
    rw [List.getD_eq_getElem?_getD, List.getElem?_reverse (by simpa using hm)]
    simp only [Array.length_toList]
    rw [Array.getElem?_toList, Array.getElem?_eq_getElem (by omega)]
    rfl
  rw [e, List.getElem?_map]
  by_cases hi : i < xs.size
  · rw [List.getElem?_range hi]
    have : i < xs.toList.reverse.length := by simpa using hi
    rw [List.getElem?_eq_getElem this]
    simp only [Option.map_some, List.getD_eq_getElem?_getD, List.getElem?_eq_getElem this, Option.getD_some]
  · rw [List.getElem?_eq_none (by simpa using hi), List.getElem?_eq_none (by simpa using hi)]
    rfl
theorem getItem_tuple_rev {t sl : Addr} {items : Array Value} {k : Tok} {Q : Value → Shared → Prop} (ht : IsTup s.heap t items) (hs : s.heap.IsSliceOf sl .none .none (.int (-1) k))
    (h : Q (.ref s.heap.objs.size) { s with heap := s.heap.push { cls := .type "tuple", data := .seq items.toList.reverse.toArray } })
    (hsz : items.size ≤ sizeLine) : wpAny (model prog w) A (getItem (.ref t) (.ref sl)) Q E s := by
  have htake : sizeOk (.seq items.toList.reverse.toArray) := by
    show items.toList.reverse.toArray.size ≤ sizeLine
    rw [List.size_toArray, List.length_reverse, Array.length_toList]
    exact hsz
  obtain ⟨os, hos, hcs, hds⟩ := id hs
  have hTs : s.TypeIs (.ref sl) "slice" := ⟨os, hos, hcs⟩
  unfold getItem
  try with_reducible refine wpAny_holding ?_
  first | refine wpAny_bind (wpAny_pure ?_) | skip
  refine wpAny_bind (wpAny_sequenceKey ht.typeIs (by decide) ?_)
  refine wpAny_bind (wpAny_callSpecial?_slot (name := Str.ofString "__getitem__") ht.typeIs PyProof.Rows.slot_tuple_getitem
    (wpAny_call_entry PyProof.Rows.slot_tuple_getitem ht.typeIs entry_tuple_getitem ?_ (args_tuple_getitem _ _)))
  show wpAny _ _ (Builtin.Tuple.tupleItemsOf (.ref t) >>= _) _ _ s
  refine wpAny_bind (tupleItemsOf_ ht ?_)
  refine wpAny_bind (wpAny_typeOf hTs ?_)
  rw [if_pos (by decide)]
  refine wpAny_bind (sliceApplied_rev hs ?_)
  have hno : ¬ ((((items.size : Int) - 1 == 0) && ((-1 : Int) == 1) && (items.size == items.size)) = true) := by
    rw [show ((-1 : Int) == 1) = false by decide, Bool.and_false, Bool.false_and]
    exact Bool.false_ne_true
  show wpAny _ _ (if (((items.size : Int) - 1 == 0) && ((-1 : Int) == 1) && (items.size == items.size)) = true then _ else _) _ _ s
  rw [if_neg hno, pick_rev]
  first
    | exact wpAny_bind (m := Builtin.Tuple.tupleExact _) (wpAny_newObj_type (wpAny_pure ⟨_, rfl, wpAny_pure h⟩) htake)
    | exact wpAny_bind (m := Builtin.Tuple.tupleExact _) (wpAny_newObj_type (wpAny_bind (wpAny_pure (wpAny_pure ⟨_, rfl, wpAny_pure h⟩))) htake)
    | exact wpAny_bind (wpAny_bind (m := Builtin.Tuple.tupleExact _) (wpAny_newObj_type (wpAny_pure (wpAny_pure ⟨_, rfl, wpAny_pure h⟩)) htake))
    | exact wpAny_bind (wpAny_bind (m := Builtin.Tuple.tupleExact _) (wpAny_newObj_type (wpAny_pure ⟨_, rfl, wpAny_pure h⟩) htake))
end
end HTR
namespace Mp
section
open PySem PySem.Spec PyProof.Rows L2
/-- xs[::-1], of a list or a tuple -/
def tRevU (K : PySem.W.Frag) (te : TE) : TE := fun σ H Q => te σ H fun x H1 => (∃ a xs, x = .ref a ∧ SqL K H1 a xs ∧ ∀ p, H1 p = none → Q (.ref p) (upd H1 p (.lst xs.reverse))) ∨ (∃ a xs, x = .ref a ∧ SqT K H1 a xs ∧ ∀ p, H1 p = none → Q (.ref p) (upd H1 p (.tup xs.reverse))) ∨
  ∃ z, x = .str z ∧ z.length ≤ sizeLine ∧ ∀ z' : Str, (∀ c ∈ z'.cps.toList, c ∈ z.cps.toList) → z'.length ≤ z.length → Q (.str z') H1
theorem rev_made {z : Str} {t : Tok} {t1 : Tok} {s : Shared} {Q : Value → Shared → Prop} (hz : z.length ≤ sizeLine)
    (h : ∀ (z' : Str) (t' : Tok) (k : Nat), (∀ c ∈ z'.cps.toList, c ∈ z.cps.toList) → z'.length ≤ z.length → Q (.str z' t') { s with toks := k }) : (sliceMade z t none none (some (-1, t1))).post Q s := by
  unfold sliceMade
  rw [if_neg (by rw [show ((((some ((-1 : Int), t1)).map (·.1)).getD 1) == 1) = false from rfl, Bool.false_and]; exact Bool.false_ne_true)]
  have hl : ((slicePicked z none none (some (-1, t1))).filterMap (z.cps[·]?)).length ≤ z.length := by
    refine Nat.le_trans (List.length_filterMap_le _ _) ?_
    show (Builtin.Str.strSliceIndices none none (-1) z.length).length ≤ _
    unfold Builtin.Str.strSliceIndices sliceRange
    simp only [show ¬ ((-1 : Int) > 0) by decide, if_false, List.length_map, List.length_range]
    split
    · rw [show -(-1 : Int) = 1 by decide, Int.ediv_one]; omega
    · omega
  have hm : ∀ c ∈ ((slicePicked z none none (some (-1, t1))).filterMap (z.cps[·]?)), c ∈ z.cps.toList := fun c hc => by
    obtain ⟨i, _, hi⟩ := List.mem_filterMap.mp hc
    rw [← Array.getElem?_toList] at hi
    exact List.mem_of_getElem? hi
  refine ⟨?_, ?_⟩
  · show (List.toArray _).size ≤ sizeLine
    rw [List.size_toArray]
    exact Nat.le_trans hl hz
  · exact h _ _ _ (fun c hc => hm c (by simpa using hc)) (by show (List.toArray _).size ≤ _; rw [List.size_toArray]; exact hl)
theorem pe_revU {X : Cx} {e : Expr} {te : TE} {k : Nat} {p1 p2 p3 pos : Pos} (he : PE X e te) : PE X (.Subscript e (.Slice none none (some (.UnaryOp .USub (.Constant (.int 1) k p1) p2)) p3) pos) (tRevU X.K te) := by
  refine ⟨fun pins s σ H Q I h => ?_⟩
  refine Subscript_ (thn (he.run pins s σ H _ I h) fun v s1 ⟨x, H1, I1, r1, q1⟩ => ?_)
  have hst : PO X (some (.UnaryOp .USub (.Constant (.int 1) k p1) p2)) (tPart (tUn (rU fun i => .int (-i)) (tC (.int 1)))) := po_some (pe_un un_neg pe_int)
  refine wpAny_Slice (thn (po_none.run pins s1 σ H1 (fun o H2 => o = none ∧ H2 = H1) I1 ⟨rfl, rfl⟩) fun vl s2 ⟨l, H2, I2, pl, el, e2⟩ => ?_)
  subst el e2
  refine thn (po_none.run pins s2 σ H2 (fun o H3 => o = none ∧ H3 = H2) I2 ⟨rfl, rfl⟩) fun vu s3 ⟨u, H3, I3, pu, eu, e3⟩ => ?_
  subst eu e3
  refine thn (hst.run pins s3 σ H3 (fun o H4 => o = some (-1) ∧ H4 = H3) I3 ⟨1, rfl, -1, rfl, rfl, rfl⟩) fun vs s4 ⟨o, H4, I4, ps, eo, e4⟩ => ?_
  subst eo e4
  have I5 : Inv X pins σ H4 { s4 with heap := s4.heap.push { cls := .type "slice", data := .fields #[vl, vu, vs] } } := I4.kept (t' := s4.toks) fun b ob q => Heap.get?_push_of_some _ q
  rcases q1 with ⟨a, xs, ex, hx, q⟩ | ⟨a, xs, ex, hx, q⟩ | ⟨z, ex, hz, q⟩
  · subst ex
    cases r1
    obtain ⟨its, r, ht, hz⟩ := I5.list hx
    have hlen := r.length
    show wpAny (model X.prog X.w) X.A (subscriptTail e (.Slice none none (some (.UnaryOp .USub (.Constant (.int 1) k p1) p2)) p3) (.ref a) (.ref s4.heap.objs.size)) (EP X pins σ Q) X.xe { s4 with heap := s4.heap.push { cls := .type "slice", data := .fields #[vl, vu, vs] } }
    refine tail_any (ops := [.ref a, .ref s4.heap.objs.size]) ht.isList.typeIs (PySem.slot_list_getitem.lookup) ?_ (by with_unfolding_all rfl)
    refine wpAny_getItem_list_slice ht.isList (Heap.IsSliceOf.new _ vl vu vs) pl pu ps (by decide) ?_ (by rw [List.size_toArray]; omega)
    rw [PySem.W.krv_pick]
    refine ⟨.ref _, _, I5.laid (t' := s4.toks) (o := .lst xs.reverse) (fun b ob q => Heap.get?_push_of_some _ q) (Nat.le_refl _) ?_, rfl, q _ (I5.hok.fresh (Nat.le_refl _))⟩
    exact ⟨by rw [List.length_reverse]; exact hz, _, 0, r.reverse, Heap.get?_push_size _ rfl⟩
  · subst ex
    cases r1
    cases pl
    cases pu
    obtain ⟨its, r, ht, hz⟩ := I5.tuple hx
    have hlen := r.length
    show wpAny (model X.prog X.w) X.A (subscriptTail e (.Slice none none (some (.UnaryOp .USub (.Constant (.int 1) k p1) p2)) p3) (.ref a) (.ref s4.heap.objs.size)) (EP X pins σ Q) X.xe { s4 with heap := s4.heap.push { cls := .type "slice", data := .fields #[.none, .none, vs] } }
    refine tail_any (ops := [.ref a, .ref s4.heap.objs.size]) ht.typeIs (PyProof.Rows.slot_tuple_getitem.lookup) ?_ (by with_unfolding_all rfl)
    cases ps with
    | int i t =>
      refine HTR.getItem_tuple_rev ht (Heap.IsSliceOf.new _ .none .none (.int (-1) t)) ?_ (by rw [List.size_toArray]; omega)
      refine ⟨.ref _, _, I5.laid (t' := s4.toks) (o := .tup xs.reverse) (fun b ob q => Heap.get?_push_of_some _ q) (Nat.le_refl _) ?_, rfl, q _ (I5.hok.fresh (Nat.le_refl _))⟩
      exact ⟨by rw [List.length_reverse]; exact hz, _, r.reverse, ⟨_, Heap.get?_push_size _ rfl, rfl, 0, rfl⟩⟩
  · subst ex
    obtain ⟨t, rfl⟩ := r1
    cases pl
    cases pu
    cases ps with
    | int i t2 =>
      show wpAny (model X.prog X.w) X.A (subscriptTail e (.Slice none none (some (.UnaryOp .USub (.Constant (.int 1) k p1) p2)) p3) (.str z t) (.ref s4.heap.objs.size)) (EP X pins σ Q) X.xe { s4 with heap := s4.heap.push { cls := .type "slice", data := .fields #[.none, .none, .int (-1) t2] } }
      refine tail_any (ops := [.str z t, .ref s4.heap.objs.size]) (typeIs_str _ z t) (PySem.F.slot_str_getitem.lookup) ?_ (by with_unfolding_all rfl)
      refine wpAny_getItem_str_slice (l := none) (u := none) (st := some (-1, t2)) ⟨_, Heap.get?_push_size _ rfl, rfl, rfl⟩ rfl (rev_made hz fun z' t' kk h1 h2 => ?_)
      exact ⟨.str z', H4, I5.tok _, ⟨_, rfl⟩, q z' h1 h2⟩
def truP (x : PV) (L : Sto) (R : PK) : Prop := match x with
  | .bl b => R (.bl b) L
  | .int i => R (.bl (i != 0)) L
  | .non => R (.bl false) L
  | .tup xs => R (.bl (!xs.isEmpty)) L
  | .ref a => (match L a with
    | some (.l xs) => R (.bl (!xs.isEmpty)) L
    | _ => False)
  | .str z => z.length ≤ sizeLine ∧ R (.bl ((z.length : Int) != 0)) L
  | _ => False
def wTru (w : WE) : WE := fun env L R => w env L fun x La => truP x La R
theorem RepVs.emp {K : PySem.W.Frag} {H : Hp} {xs : List PV} {vs : List V} (r : RepVs K H xs vs) : xs.isEmpty = vs.isEmpty := by
  have := r.length
  cases xs <;> cases vs <;> first | rfl | simp at this
theorem t_tru {X : Cx} {e : Expr} {w : WE} (h : PE X e (liftE X.K w)) (he : ∀ whole, isTrue e X.env whole = (do let v ← whole; standAt e.pos; holding [v] (truthy v))) : PT X e (liftT X.K (wTru w)) :=
  (pt_truth h he).weak fun σ H Q h => by
  obtain ⟨env, L, R, hs, hL, hw, k⟩ := h
  refine ⟨env, L, _, hs, hL, hw, fun x La v H1 hb f1 rx r1 => ?_⟩
  have fin : ∀ b, R (.bl b) La → Q b H1 := fun b hR => by
    obtain ⟨b', e, q⟩ := k _ La H1 hR f1 r1
    cases e
    exact q
  unfold truP at hb
  split at hb
  · cases (show _ = _ from rx); exact ⟨_, rfl, fin _ hb⟩
  · cases (show _ = _ from rx); exact ⟨_, rfl, fin _ hb⟩
  · cases (show _ = _ from rx); exact ⟨_, rfl, fin _ hb⟩
  · obtain ⟨a, vs, rfl, t, r⟩ := rx
    exact ⟨_, .inr (.inl ⟨vs, t.sq, rfl⟩), by rw [← r.emp]; exact fin _ hb⟩
  · cases (show _ = _ from rx)
    split at hb
    · rename_i xs e
      obtain ⟨vs, h1, r⟩ := r1.lst e
      exact ⟨_, .inl ⟨vs, .of h1, rfl⟩, by rw [← r.emp]; exact fin _ hb⟩
    · exact hb.elim
  · cases (show _ = _ from rx); exact ⟨_, ⟨hb.1, rfl⟩, fin _ hb.2⟩
  · exact hb.elim
end
section
open PySem PySem.Spec PyProof.Rows L2
def cutP {α : Type} (xs : List α) (lo hi : Option Int) : List α := (xs.drop (HT.sIx xs.length 0 lo)).take (HT.sIx xs.length xs.length hi - HT.sIx xs.length 0 lo)
def oIx : Op2 := fun x y L R => match x, y with
  | .tup xs, .int i => match atI xs i with
    | some v => R v L
    | none => False
  | .ref a, y => match L a with
    | some (.l xs) => (match y with
      | .int i => (match atI xs i with
        | some v => R v L
        | none => False)
      | _ => False)
    | some (.d kvs) => (match y with
      | .int i => (match kvs.find? (fun kv => decide (kv.1 = .inl i)) with
        | some kv => R kv.2 L
        | none => False)
      | .str i => (match kvs.find? (fun kv => decide (kv.1 = .inr i)) with
        | some kv => R kv.2 L
        | none => False)
      | _ => False)
    | _ => False
  | .fz ns, .int i => match atI ns i with
    | some v => R (.int v) L
    | none => False
  | .str z, .int i => z.length ≤ sizeLine ∧ match atI z.cps.toList i with
    | some c => R (.str ⟨#[c]⟩) L
    | none => False
  | _, _ => False
def oSl (x : PV) (lo hi : Option Int) (L : Sto) (R : PK) : Prop := match x with
  | .tup xs => R (.tup (cutP xs lo hi)) L
  | .ref a => match L a with
    | some (.l xs) => newL L (cutP xs lo hi) R
    | _ => False
  | .fz ns => newL L ((cutP ns lo hi).map PV.int) R
  | .str z => z.length ≤ sizeLine ∧ R (.str (cutS z lo hi)) L
  | _ => False
section
variable {K : PySem.W.Frag} {H : Hp} {L : Sto}
theorem RepVs.at {xs : List PV} {vs : List V} {i : Int} {x : PV} (r : RepVs K H xs vs) (h : atI xs i = some x) : ∃ v, atI vs i = some v ∧ RepV K H x v := by
  unfold atI at h ⊢
  rw [← r.length]
  cases e : ixN xs.length i with
  | none => rw [e] at h; cases h
  | some j =>
    rw [e] at h
    obtain ⟨v, h1, h2⟩ := r.get (i := j) h
    exact ⟨v, h1, h2⟩
theorem RepVs.cut {xs : List PV} {vs : List V} (r : RepVs K H xs vs) (lo hi : Option Int) : RepVs K H (cutP xs lo hi) (cutV vs lo hi) := by
  unfold cutP cutV
  rw [r.length]
  exact (r.drop _).take _
theorem atI_map {α β : Type} (f : α → β) (xs : List α) (i : Int) : atI (xs.map f) i = (atI xs i).map f := by
  unfold atI
  rw [List.length_map]
  cases ixN xs.length i with
  | none => rfl
  | some j => exact List.getElem?_map
theorem cut_map (xs : List Int) (lo hi : Option Int) : cutV (xs.map V.int) lo hi = (cutP xs lo hi).map V.int := by
  unfold cutP cutV
  rw [List.length_map, List.map_take, List.map_drop]
theorem RepKs.find {k : Key} {kv : Key × PV} : ∀ {kvs : List (Key × PV)} {ks : List (Key × V)}, RepKs K H kvs ks → kvs.find? (fun kv => decide (kv.1 = k)) = some kv → ∃ v, valV ks k = some v ∧ RepV K H kv.2 v
  | [], _, _, e => by cases e
  | (k', x) :: r, _, ⟨v, ks, h1, h2, h3⟩, e => by
    subst h1
    rw [List.find?_cons] at e
    unfold valV
    rw [List.find?_cons]
    by_cases q : k' = k
    · rw [show decide (k' = k) = true from decide_eq_true q] at e ⊢
      cases e
      exact ⟨v, rfl, h2⟩
    · rw [show decide (k' = k) = false from decide_eq_false q] at e ⊢
      exact RepKs.find h3 e
theorem fz_sq {ns : List Int} {v : V} (h : RepV K H (.fz ns) v) : ∃ a, v = .ref a ∧ SqL K H a (ns.map V.int) := by
  obtain ⟨a, rfl, h⟩ := h
  refine ⟨a, rfl, ?_⟩
  rcases h with ⟨o, h⟩ | h
  · exact .inl (.inr ⟨o, h⟩)
  · exact sqL_up h
end
section
variable {X : Cx} {pos : Pos} {a b c : Expr} {wa wb wc : WE}
theorem ix_dict (hu : X.A.units + 1 < cLine) : IxR X (fun x y H Q => ∃ a v, x = .ref a ∧ DGet H a y (some v) ∧ Q v H) := by
  intro value slice pins s σ H x y v u Q I rx ry h hs
  obtain ⟨a, w, rfl, g, q⟩ := h
  cases rx
  exact tail_any (dict_typeIs I g) PySem.F.slot_dict_getitem.lookup (d_getItem hu I g ry fun w' s3 I3 rw' => ⟨w, H, I3, rw', q⟩) hs
def IxOk (X : Cx) (f : Op2) : Prop := ∃ r, IxR X r ∧ OpS X.K f r
theorem ok_ix (hu : X.A.units + 1 < cLine) : IxOk X oIx := by
  refine ⟨_, ix_list.or (ix_tup.or (ix_str.or (ix_dict hu))), ?_⟩
  intro x y v u H L R Q rx ry rh h k
  cases x with
  | tup xs =>
    cases y <;> first | exact absurd h (fun z => z) | skip
    rename_i i
    obtain ⟨a, vs, rfl, t, r⟩ := rx
    cases (show _ = _ from ry)
    simp only [oIx] at h
    cases e : atI xs i with
    | none => rw [e] at h; exact h.elim
    | some z =>
      rw [e] at h
      obtain ⟨w, h1, h2⟩ := r.at e
      exact .inr (.inl ⟨a, vs, i, w, rfl, rfl, t.sq, h1, k.here rh h h2⟩)
  | ref a =>
    cases (show _ = _ from rx)
    simp only [oIx] at h
    cases e : L a with
    | none => rw [e] at h; exact h.elim
    | some o =>
      rw [e] at h
      cases o with
      | t _ => exact h.elim
      | d kvs =>
        obtain ⟨ks, h1, r⟩ := rh.dct e
        cases y <;> first | exact absurd h (fun z => z) | skip
        · rename_i i
          cases (show _ = _ from ry)
          simp only at h
          split at h
          · rename_i kv e2
            obtain ⟨w, h3, h4⟩ := RepKs.find r e2
            exact .inr (.inr (.inr ⟨a, w, rfl, .inl ⟨ks, .inl i, .inl h1, rfl, h3.symm⟩, k.here rh h h4⟩))
          · exact h.elim
        · rename_i i
          cases (show _ = _ from ry)
          simp only at h
          split at h
          · rename_i kv e2
            obtain ⟨w, h3, h4⟩ := RepKs.find r e2
            exact .inr (.inr (.inr ⟨a, w, rfl, .inl ⟨ks, .inr i, .inl h1, rfl, h3.symm⟩, k.here rh h h4⟩))
          · exact h.elim
      | l xs =>
        obtain ⟨vs, h1, r⟩ := rh.lst e
        cases y <;> first | exact absurd h (fun z => z) | skip
        rename_i i
        cases (show _ = _ from ry)
        simp only at h
        cases e2 : atI xs i with
        | none => rw [e2] at h; exact h.elim
        | some z =>
          rw [e2] at h
          obtain ⟨w, h3, h4⟩ := r.at e2
          exact .inl ⟨a, vs, i, w, rfl, rfl, .inl (.inl h1), h3, k.here rh h h4⟩
  | fz ns =>
    cases y <;> first | exact absurd h (fun z => z) | skip
    rename_i i
    obtain ⟨a, rfl, hq⟩ := fz_sq rx
    cases (show _ = _ from ry)
    simp only [oIx] at h
    cases e : atI ns i with
    | none => rw [e] at h; exact h.elim
    | some z =>
      rw [e] at h
      exact .inl ⟨a, _, i, .int z, rfl, rfl, hq, by rw [atI_map, e]; rfl, k.here rh h rfl⟩
  | str z =>
    cases y <;> first | exact absurd h (fun z => z) | skip
    rename_i i
    cases (show _ = _ from rx)
    cases (show _ = _ from ry)
    obtain ⟨h1, h⟩ := h
    cases e : atI z.cps.toList i with
    | none => rw [e] at h; exact h.elim
    | some c =>
      rw [e] at h
      exact .inr (.inr (.inl ⟨z, i, c, rfl, rfl, h1, e, k.here rh h rfl⟩))
  | _ => exact absurd h (by cases y <;> exact (fun z => z))
theorem q_ix (hu : X.A.units + 1 < cLine) (ha : PE X a (liftE X.K wa)) (hb : PE X b (liftE X.K wb)) (hs : PlainIx b) : PE X (.Subscript a b pos) (liftE X.K (wBin oIx wa wb)) := by
  obtain ⟨r, h1, h2⟩ := ok_ix hu
  exact (pe_ix h1 ha hb hs).weak fun σ H Q h => lift_bin h2 h
abbrev WO := Env → Sto → (Option Int → Sto → Prop) → Prop
def wNo : WO := fun _ L R => R none L
def wSo (a : WE) : WO := fun env L R => a env L fun x La => match x with
  | .int i => R (some i) La
  | _ => False
def liftO (K : PySem.W.Frag) (w : WO) : TO := fun σ H Q => ∃ env L R, RepS K H σ env ∧ RepH K H L ∧ w env L R ∧ ∀ x L' H', R x L' → Fm H L H' L' → RepH K H' L' → Q x H'
def wSl (a : WE) (lo hi : WO) : WE := fun env L R => a env L fun x La => lo env La fun l Lb => hi env Lb fun u Lc => oSl x l u Lc R
theorem po_weak {e : Option Expr} {t t' : TO} (h : PO X e t) (w : ∀ σ H Q, t' σ H Q → t σ H Q) : PO X e t' := ⟨fun pins s σ H Q I q => h.run pins s σ H Q I (w σ H Q q)⟩
theorem o_no : PO X none (liftO X.K wNo) := po_weak po_none fun σ H Q h => by
  obtain ⟨env, L, R, hs, hL, hw, k⟩ := h
  exact k none L H hw .refl hL
theorem o_so (ha : PE X a (liftE X.K wa)) : PO X (some a) (liftO X.K (wSo wa)) := po_weak (po_some ha) fun σ H Q h => by
  obtain ⟨env, L, R, hs, hL, hw, k⟩ := h
  refine ⟨env, L, _, hs, hL, hw, fun x La v H1 hb f1 rx r1 => ?_⟩
  cases x <;> first | exact absurd hb (fun z => z) | skip
  cases (show _ = _ from rx)
  exact ⟨_, rfl, k _ La H1 hb f1 r1⟩
theorem q_sl {lo hi : Option Expr} {wl wh : WO} {p2 : Pos} (ha : PE X a (liftE X.K wa)) (hl : PO X lo (liftO X.K wl)) (hh : PO X hi (liftO X.K wh)) : PE X (.Subscript a (.Slice lo hi none p2) pos) (liftE X.K (wSl wa wl wh)) :=
  (pe_slice (sl_list.or (sl_tupA.or sl_str)) ha hl hh).weak fun σ H Q h => by
  obtain ⟨env, L, R, hs, hL, hw, k⟩ := h
  refine ⟨env, L, _, hs, hL, hw, fun x La v H1 hb f1 rx r1 => ?_⟩
  refine ⟨env, La, _, hs.ex (f1.ex hL), r1, hb, fun l Lb H2 hc f2 r2 => ?_⟩
  refine ⟨env, Lb, _, (hs.ex (f1.ex hL)).ex (f2.ex r1), r2, hc, fun u Lc H3 hd f3 r3 => ?_⟩
  have kk := k.fm ((f1.trans f2).trans f3)
  have rx3 := (rx.ex (f2.ex r1)).ex (f3.ex r2)
  cases x with
  | tup xs =>
    obtain ⟨p, vs, rfl, t, r⟩ := rx3
    refine .inr (.inl ⟨p, vs, rfl, t.sq, fun z => ?_, fun _ => kk.newt r3 hd (r.cut l u)⟩)
    have e : cutP xs l u = xs := by
      unfold cutP
      rw [r.length, z.1, z.2, List.drop_zero, Nat.sub_zero, ← r.length, List.take_length]
    refine kk.here r3 (x := .tup (cutP xs l u)) hd ?_
    rw [e]
    exact ⟨p, vs, rfl, t, r⟩
  | ref p =>
    cases (show _ = _ from rx3)
    simp only [oSl] at hd
    split at hd
    · rename_i xs e
      obtain ⟨vs, h1, r⟩ := r3.lst e
      exact .inl ⟨p, vs, rfl, .inl (.inl h1), kk.newl r3 hd (r.cut l u)⟩
    · exact hd.elim
  | fz ns =>
    obtain ⟨p, rfl, hq⟩ := fz_sq rx3
    refine .inl ⟨p, _, rfl, hq, ?_⟩
    rw [cut_map]
    exact kk.newl r3 hd RepVs.ofInts
  | str z =>
    cases (show _ = _ from rx3)
    exact .inr (.inr ⟨z, rfl, hd.1, kk.here r3 hd.2 rfl⟩)
  | _ => exact absurd hd (fun z => z)
def oRev (x : PV) (L : Sto) (R : PK) : Prop := match x with
  | .ref a => match L a with
    | some (.l xs) => newL L xs.reverse R
    | _ => False
  | .tup xs => R (.tup xs.reverse) L
  | .str z => z.length ≤ sizeLine ∧ ∀ z' : Str, (∀ c ∈ z'.cps.toList, c ∈ z.cps.toList) → z'.length ≤ z.length → R (.str z') L
  | _ => False
theorem q_rev {k : Nat} {p1 p2 p3 : Pos} (ha : PE X a (liftE X.K wa)) : PE X (.Subscript a (.Slice none none (some (.UnaryOp .USub (.Constant (.int 1) k p1) p2)) p3) pos) (liftE X.K (wUn oRev wa)) := (pe_revU ha).weak fun σ H Q h => by
  obtain ⟨env, L, R, hs, hL, hw, k⟩ := h
  refine ⟨env, L, _, hs, hL, hw, fun x La v H1 hb f1 rx r1 => ?_⟩
  cases x <;> first | exact absurd hb (fun z => z) | skip
  · cases (show _ = _ from rx)
    exact .inr (.inr ⟨_, rfl, hb.1, fun z' h1 h2 => (k.fm f1).here r1 (hb.2 z' h1 h2) rfl⟩)
  · rename_i p
    cases (show _ = _ from rx)
    simp only [oRev] at hb
    split at hb
    · rename_i xs e
      obtain ⟨vs, h1, r⟩ := r1.lst e
      exact .inl ⟨p, vs, rfl, .inl (.inl h1), (k.fm f1).newl r1 hb r.reverse⟩
    · exact hb.elim
  · obtain ⟨p, vs, rfl, t, r⟩ := rx
    exact .inr (.inl ⟨p, vs, rfl, t.sq, (k.fm f1).newt r1 hb r.reverse⟩)
end
def gLen : BiF := fun xs L R => match xs with
  | [.tup ys] => R (.int ys.length) L
  | [.ref a] => (match L a with
    | some (.l ys) => R (.int ys.length) L
    | some (.d ys) => R (.int ys.length) L
    | _ => False)
  | [.fz ns] => R (.int ns.length) L
  | [.str z] => z.length ≤ sizeLine ∧ R (.int z.length) L
  | _ => False
def gAbs : BiF := fun xs L R => match xs with
  | [.int i] => R (.int (i.natAbs : Int)) L
  | _ => False
def gMin : BiF := fun xs L R => match xs with
  | [.int i, .int j] => R (.int (min i j)) L
  | [.ref a] => ∃ ns : List Int, L a = some (.l (ns.map PV.int)) ∧ 0 < ns.length ∧ ∀ m, m ∈ ns → (∀ y, y ∈ ns → m ≤ y) → R (.int m) L
  | _ => False
def gMax : BiF := fun xs L R => match xs with
  | [.int i, .int j] => R (.int (max i j)) L
  | [.ref a] => ∃ ns : List Int, L a = some (.l (ns.map PV.int)) ∧ 0 < ns.length ∧ ∀ m, m ∈ ns → (∀ y, y ∈ ns → y ≤ m) → R (.int m) L
  | _ => False
def gInt : BiF := fun xs L R => match xs with
  | [.int i] => R (.int i) L
  | [.bl k] => R (.int (if k then 1 else 0)) L
  | [.str z] => ∃ n, PySem.intText? z = some n ∧ z.length ≤ 640 ∧ R (.int n) L
  | _ => False
def gDivmod : BiF := fun xs L R => match xs with
  | [.int i, .int j] => 0 < j ∧ NoPl i j ∧ R (.tup [.int (i / j), .int (i % j)]) L
  | _ => False
def gList : BiF := fun xs L R => match xs with
  | [.tup ys] => newL L ys R
  | [.ref a] => (match L a with
    | some (.l ys) => newL L ys R
    | _ => False)
  | [.fz ns] => newL L (ns.map PV.int) R
  | _ => False
def gTuple : BiF := fun xs L R => match xs with
  | [.tup ys] => R (.tup ys) L
  | [.ref a] => (match L a with
    | some (.l ys) => R (.tup ys) L
    | _ => False)
  | _ => False
def gAll : BiF := fun xs L R => match xs with
  | [.ref a] => ∃ bs : List Bool, L a = some (.l (bs.map PV.bl)) ∧ R (.bl (bs.all id)) L
  | _ => False
def gAny : BiF := fun xs L R => match xs with
  | [.ref a] => ∃ bs : List Bool, L a = some (.l (bs.map PV.bl)) ∧ R (.bl (bs.any id)) L
  | _ => False
def gSum : BiF := fun xs L R => match xs with
  | [.ref a] => ∃ ns : List Int, L a = some (.l (ns.map PV.int)) ∧ R (.int ns.sum) L
  | _ => False
def bLe (a b : Bool) : Bool := !a || b
def gSorted : BiF := fun xs L R => match xs with
  | [.ref a] => (∃ ns : List Int, L a = some (.l (ns.map PV.int)) ∧ ns.length < 64 ∧ ∀ ns' : List Int, ns'.Perm ns → ns'.Pairwise (· ≤ ·) → newL L (ns'.map PV.int) R) ∨
    (∃ ss : List Str, L a = some (.l (ss.map PV.str)) ∧ ss.length < 64 ∧ ∀ ys : List Str, ys.Perm ss → sortedS ys = true → newL L (ys.map PV.str) R) ∨
    (∃ bs : List Bool, L a = some (.l (bs.map PV.bl)) ∧ bs.length < 64 ∧ bs.Pairwise (fun a b => bLe a b = true) ∧ newL L (bs.map PV.bl) R) ∨
    ∃ zs : List (PV × PyData), L a = some (.l (zs.map Prod.fst)) ∧ zs.length ≤ sizeLine ∧ (∀ z ∈ zs, PD L z.1 z.2 ∧ z.2.depth ≤ 40) ∧ PySem.W.AllAlike (zs.map Prod.snd) ∧ PySem.W.Sortable (zs.map Prod.snd) ∧
      newL L ((zs.mergeSort (PySem.W.dataLe false Prod.snd)).map Prod.fst) R
  | _ => False
def gStr : BiF := fun xs L R => match xs with
  | [.int i] => i.natAbs.log2 < 1920 ∧ R (.str (Str.ofString (toString i))) L
  | [.tup xs] => (∃ ns : List Int, xs = ns.map PV.int ∧ (∀ i ∈ ns, i.natAbs < 100000) ∧ ns.length ≤ 100 ∧ ∀ m, R (.str m) L) ∨ ∃ d, PD L (.tup xs) d ∧ d.showable = true ∧ d.hasDict = false ∧ d.depth ≤ 40 ∧ d.shown.length ≤ sizeLine ∧ R (.str d.shown) L
  | [.non] => R (.str "None") L
  | [.bl b] => R (.str (if b then "True" else "False")) L
  | [.str z] => R (.str z) L
  | [.ref a] => ∃ d, PD L (.ref a) d ∧ d.showable = true ∧ d.hasDict = false ∧ d.depth ≤ 40 ∧ d.shown.length ≤ sizeLine ∧ R (.str d.shown) L
  | _ => False
def tyName : PV → Sto → String
  | .non, _ => "NoneType"
  | .bl _, _ => "bool"
  | .int _, _ => "int"
  | .str _, _ => "str"
  | .tup _, _ => "tuple"
  | .fz _, _ => "list"
  | .ref a, L => (match L a with
    | some (.l _) => "list"
    | some (.d _) => "dict"
    | some (.t _) => "dict"
    | none => "")
  | .ty _, _ => ""
def isiB (t c : String) : Option Bool := match t, c with
  | "NoneType", "int" => some false | "NoneType", "bool" => some false | "NoneType", "str" => some false | "NoneType", "tuple" => some false | "NoneType", "list" => some false | "NoneType", "dict" => some false
  | "bool", "int" => some true | "bool", "bool" => some true | "bool", "str" => some false | "bool", "tuple" => some false | "bool", "list" => some false | "bool", "dict" => some false
  | "int", "int" => some true | "int", "bool" => some false | "int", "str" => some false | "int", "tuple" => some false | "int", "list" => some false | "int", "dict" => some false
  | "str", "int" => some false | "str", "bool" => some false | "str", "str" => some true | "str", "tuple" => some false | "str", "list" => some false | "str", "dict" => some false
  | "tuple", "int" => some false | "tuple", "bool" => some false | "tuple", "str" => some false | "tuple", "tuple" => some true | "tuple", "list" => some false | "tuple", "dict" => some false
  | "list", "int" => some false | "list", "bool" => some false | "list", "str" => some false | "list", "tuple" => some false | "list", "list" => some true | "list", "dict" => some false
  | "dict", "int" => some false | "dict", "bool" => some false | "dict", "str" => some false | "dict", "tuple" => some false | "dict", "list" => some false | "dict", "dict" => some true
  | _, _ => none
def isiBs (t : String) : List PV → Option Bool
  | [] => some false
  | .ty c :: r => (match isiB t c, isiBs t r with
    | some a, some b => some (a || b)
    | _, _ => none)
  | _ => none
def gIsi : BiF := fun xs L R => match xs with
  | [x, .ty c] => (match isiB (tyName x L) c with
    | some b => R (.bl b) L
    | none => False)
  | [x, .tup cs] => cs ≠ [] ∧ (match isiBs (tyName x L) cs with
    | some b => R (.bl b) L
    | none => False)
  | _ => False
end
section
open PySem PySem.Spec PyProof.Rows L2
section
variable {X : Cx} {K : PySem.W.Frag} {H : Hp} {L : Sto}
theorem b_len : BiOk X (.builtin "len") gLen := by
  refine ⟨_, call_len.or call_lenD, ?_⟩
  intro xs vs H L R Q rx rh h k
  unfold gLen at h
  split at h
  · obtain ⟨v, rfl, p, ws, rfl, t, r⟩ := rx.one
    exact .inl ⟨_, _, rfl, .inr ⟨ws, t.sq, rfl⟩, by rw [← r.length]; exact k.here rh h rfl⟩
  · obtain ⟨v, rfl, rv⟩ := rx.one
    cases (show _ = _ from rv)
    split at h
    · rename_i ys e
      obtain ⟨ws, h1, r⟩ := rh.lst e
      exact .inl ⟨_, _, rfl, .inl ⟨ws, .inl (.inl h1), rfl⟩, by rw [← r.length]; exact k.here rh h rfl⟩
    · rename_i ys e
      obtain ⟨ws, h1, r⟩ := rh.dct e
      have len : ∀ {a : List (Key × PV)} {b : List (Key × V)}, RepKs X.K H a b → a.length = b.length := fun {a} => by
        induction a with
        | nil => intro b q; cases (show _ = _ from q); rfl
        | cons p a ih => intro b q; obtain ⟨v, r', rfl, _, q⟩ := q; rw [List.length_cons, List.length_cons, ih q]
      exact .inr ⟨_, ws, rfl, h1, by rw [← len r]; exact k.here rh h rfl⟩
    · exact h.elim
  · obtain ⟨v, rfl, rv⟩ := rx.one
    obtain ⟨a, rfl, hq⟩ := fz_sq rv
    refine .inl ⟨_, _, rfl, .inl ⟨_, hq, rfl⟩, ?_⟩
    rw [List.length_map]
    exact k.here rh h rfl
  · obtain ⟨v, rfl, rv⟩ := rx.one
    cases (show _ = _ from rv)
    exact .inl ⟨_, _, rfl, ⟨h.1, rfl⟩, k.here rh h.2 rfl⟩
  · exact h.elim
theorem b_abs : BiOk X (.builtin "abs") gAbs := by
  refine ⟨_, call_abs, ?_⟩
  intro xs vs H L R Q rx rh h k
  unfold gAbs at h
  split at h
  · rename_i i
    obtain ⟨v, rfl, rv⟩ := rx.one
    cases (show _ = _ from rv)
    refine ⟨i, rfl, ?_⟩
    rw [show (if i < 0 then -i else i) = (i.natAbs : Int) by split <;> omega]
    exact k.here rh h rfl
  · exact h.elim
theorem b_min (hc : X.calm = true) : BiOk X (.builtin "min") gMin := by
  refine ⟨_, (call_min2 hc).or (cr_min hc), ?_⟩
  intro xs vs H L R Q rx rh h k
  unfold gMin at h
  split at h
  · rename_i i j
    obtain ⟨v, w, rfl, rv, rw'⟩ := rx.two
    cases (show _ = _ from rv)
    cases (show _ = _ from rw')
    refine .inl ⟨i, j, rfl, ?_⟩
    rw [show (if j < i then j else i) = min i j by rw [Int.min_def]; split <;> split <;> omega]
    exact k.here rh h rfl
  · obtain ⟨v, rfl, rv⟩ := rx.one
    cases (show _ = _ from rv)
    obtain ⟨ns, e, h0, h1⟩ := h
    obtain ⟨ws, h2, r⟩ := rh.lst e
    have := r.ints
    subst this
    exact .inr ⟨_, ns, rfl, .inl (.inl h2), h0, fun m hm hl => k.here rh (h1 m hm hl) rfl⟩
  · exact h.elim
theorem b_max (hc : X.calm = true) : BiOk X (.builtin "max") gMax := by
  refine ⟨_, (call_max2 hc).or (cr_max hc), ?_⟩
  intro xs vs H L R Q rx rh h k
  unfold gMax at h
  split at h
  · rename_i i j
    obtain ⟨v, w, rfl, rv, rw'⟩ := rx.two
    cases (show _ = _ from rv)
    cases (show _ = _ from rw')
    refine .inl ⟨i, j, rfl, ?_⟩
    rw [show (if j > i then j else i) = max i j by rw [Int.max_def]; split <;> split <;> omega]
    exact k.here rh h rfl
  · obtain ⟨v, rfl, rv⟩ := rx.one
    cases (show _ = _ from rv)
    obtain ⟨ns, e, h0, h1⟩ := h
    obtain ⟨ws, h2, r⟩ := rh.lst e
    have := r.ints
    subst this
    exact .inr ⟨_, ns, rfl, .inl (.inl h2), h0, fun m hm hl => k.here rh (h1 m hm hl) rfl⟩
  · exact h.elim
theorem call_int_s : CallR X (.type "int") (fun xs H Q => ∃ z n, xs = [.str z] ∧ (PySem.intText? z = some n ∧ z.length ≤ 640) ∧ Q (.int n) H) := by
  intro pins s σ H xs us Q I r h
  obtain ⟨z, n, rfl, ⟨h1, h2⟩, q⟩ := h
  obtain ⟨u, rfl, t, rfl⟩ := vals1 r
  exact PySem.W.KIN.call_text h1 h2 ⟨.int n, H, I.tok _, ⟨_, rfl⟩, q⟩
theorem b_int : BiOk X (.type "int") gInt := by
  refine ⟨_, call_int1.or call_int_s, ?_⟩
  intro xs vs H L R Q rx rh h k
  unfold gInt at h
  split at h
  · obtain ⟨v, rfl, rv⟩ := rx.one
    cases (show _ = _ from rv)
    exact .inl (.inl ⟨_, rfl, k.here rh h rfl⟩)
  · obtain ⟨v, rfl, rv⟩ := rx.one
    cases (show _ = _ from rv)
    exact .inl (.inr ⟨_, rfl, k.here rh h rfl⟩)
  · obtain ⟨v, rfl, rv⟩ := rx.one
    cases (show _ = _ from rv)
    obtain ⟨n, h1, h2, h3⟩ := h
    exact .inr ⟨_, n, rfl, ⟨h1, h2⟩, k.here rh h3 rfl⟩
  · exact h.elim
theorem call_divmodA : CallR X (.builtin "divmod") (fun xs H Q => ∃ i j, xs = [.int i, .int j] ∧ (0 < j ∧ NoPl i j) ∧ ∀ p, H p = none → Q (.ref p) (upd H p (.tup [.int (i / j), .int (i % j)]))) := by
  intro pins s σ H xs us Q I r h
  obtain ⟨i, j, rfl, ⟨h1, h2⟩, q⟩ := h
  obtain ⟨u, w', rfl, ⟨t, rfl⟩, ⟨t', rfl⟩⟩ := vals2 r
  refine divmod_int (by omega) ?_ (.inl h2.ok)
  rw [Int.fdiv_eq_ediv_of_nonneg i (by omega), Int.fmod_eq_emod_of_nonneg i (by omega)]
  have hn : H s.heap.objs.size = none := I.hok.fresh (Nat.le_refl _)
  refine ⟨.ref s.heap.objs.size, _, ?_, rfl, q _ hn⟩
  refine I.laid (fun b o e => Heap.get?_push_of_some _ e) (Nat.le_refl _) ⟨by simp only [List.length_cons, List.length_nil]; rw [sizeLine_eq]; decide, [.int (i / j) s.toks, .int (i % j) (s.toks + 1)], .cons ⟨_, rfl⟩ (.cons ⟨_, rfl⟩ .nil), ?_⟩
  exact ⟨_, Heap.get?_push_size s.heap rfl, rfl, 0, rfl⟩
theorem b_divmod : BiOk X (.builtin "divmod") gDivmod := by
  refine ⟨_, call_divmodA, ?_⟩
  intro xs vs H L R Q rx rh h k
  unfold gDivmod at h
  split at h
  · obtain ⟨v, w, rfl, rv, rw'⟩ := rx.two
    cases (show _ = _ from rv)
    cases (show _ = _ from rw')
    exact ⟨_, _, rfl, ⟨h.1, h.2.1⟩, k.newt rh h.2.2 ⟨_, _, rfl, rfl, _, _, rfl, rfl, rfl⟩⟩
  · exact h.elim
theorem b_list : BiOk X (.type "list") gList := by
  refine ⟨_, call_list_of, ?_⟩
  intro xs vs H L R Q rx rh h k
  unfold gList at h
  split at h
  · obtain ⟨v, rfl, p, ws, rfl, t, r⟩ := rx.one
    exact ⟨p, ws, rfl, .inr t.sq, k.newl rh h r⟩
  · obtain ⟨v, rfl, rv⟩ := rx.one
    cases (show _ = _ from rv)
    split at h
    · rename_i ys e
      obtain ⟨ws, h1, r⟩ := rh.lst e
      exact ⟨_, ws, rfl, .inl (.inl (.inl h1)), k.newl rh h r⟩
    · exact h.elim
  · obtain ⟨v, rfl, rv⟩ := rx.one
    obtain ⟨a, rfl, hq⟩ := fz_sq rv
    exact ⟨a, _, rfl, .inl hq, k.newl rh h RepVs.ofInts⟩
  · exact h.elim
theorem b_tuple : BiOk X (.type "tuple") gTuple := by
  refine ⟨_, call_tuple_of, ?_⟩
  intro xs vs H L R Q rx rh h k
  unfold gTuple at h
  split at h
  · obtain ⟨v, rfl, p, ws, rfl, t, r⟩ := rx.one
    exact ⟨p, ws, rfl, .inr ⟨t.sq, k.here rh h ⟨p, ws, rfl, t, r⟩⟩⟩
  · obtain ⟨v, rfl, rv⟩ := rx.one
    cases (show _ = _ from rv)
    split at h
    · rename_i ys e
      obtain ⟨ws, h1, r⟩ := rh.lst e
      exact ⟨_, ws, rfl, .inl ⟨.inl (.inl h1), k.newt rh h r⟩⟩
    · exact h.elim
  · exact h.elim
theorem b_all (hc : X.calm = true) : BiOk X (.builtin "all") gAll := by
  refine ⟨_, cr_all hc, ?_⟩
  intro xs vs H L R Q rx rh h k
  unfold gAll at h
  split at h
  · obtain ⟨v, rfl, rv⟩ := rx.one
    cases (show _ = _ from rv)
    obtain ⟨bs, e, h1⟩ := h
    obtain ⟨ws, h2, r⟩ := rh.lst e
    have := r.bls
    subst this
    exact ⟨_, bs, rfl, .inl (.inl h2), k.here rh h1 rfl⟩
  · exact h.elim
theorem b_any (hc : X.calm = true) : BiOk X (.builtin "any") gAny := by
  refine ⟨_, cr_any hc, ?_⟩
  intro xs vs H L R Q rx rh h k
  unfold gAny at h
  split at h
  · obtain ⟨v, rfl, rv⟩ := rx.one
    cases (show _ = _ from rv)
    obtain ⟨bs, e, h1⟩ := h
    obtain ⟨ws, h2, r⟩ := rh.lst e
    have := r.bls
    subst this
    exact ⟨_, bs, rfl, .inl (.inl h2), k.here rh h1 rfl⟩
  · exact h.elim
theorem b_sum (hc : X.calm = true) : BiOk X (.builtin "sum") gSum := by
  refine ⟨_, cr_sum hc, ?_⟩
  intro xs vs H L R Q rx rh h k
  unfold gSum at h
  split at h
  · obtain ⟨v, rfl, rv⟩ := rx.one
    cases (show _ = _ from rv)
    obtain ⟨bs, e, h1⟩ := h
    obtain ⟨ws, h2, r⟩ := rh.lst e
    have := r.ints
    subst this
    exact ⟨_, bs, rfl, .inl (.inl h2), k.here rh h1 rfl⟩
  · exact h.elim
theorem RepVs.ofStrs' {K : PySem.W.Frag} {H : Hp} : ∀ {ns : List Str}, RepVs K H (ns.map PV.str) (ns.map V.str)
  | [] => rfl
  | n :: ns => ⟨.str n, _, rfl, rfl, RepVs.ofStrs'⟩
theorem RepVs.ofBls {K : PySem.W.Frag} {H : Hp} : ∀ {ns : List Bool}, RepVs K H (ns.map PV.bl) (ns.map V.bl)
  | [] => rfl
  | n :: ns => ⟨.bl n, _, rfl, rfl, RepVs.ofBls⟩
theorem data_ble (a b : Bool) : PySem.W.dataLe false PyData.bool a b = bLe a b := by cases a <;> cases b <;> decide +kernel
theorem each_bools : ∀ {bs : List Bool} {its : List Value}, Vals (bs.map V.bl) its → PySem.W.EachIs (fun v (b : Bool) => v = .bool b) its bs
  | [], _, r => by cases r; exact .nil
  | b :: bs, _, r => by
    cases r with
    | cons r1 r2 => exact .cons r1 (each_bools r2)
theorem vals_bools : ∀ {bs : List Bool} {its : List Value}, PySem.W.EachIs (fun v (b : Bool) => v = .bool b) its bs → Vals (bs.map V.bl) its
  | [], _, r => by cases r; exact .nil
  | b :: bs, _, r => by
    cases r with
    | cons r1 r2 => exact .cons r1 (vals_bools r2)
theorem cr_sortedB (hu : X.A.units + 2 < cLine) : CallR X (.builtin "sorted") (fun vs H Q => ∃ (a : Addr) (bs : List Bool), vs = [V.ref a] ∧ SqL X.K H a (bs.map V.bl) ∧ bs.length < 64 ∧ bs.Pairwise (fun a b => bLe a b = true) ∧
    ∀ (p : Addr), H p = none → Q (.ref p) (upd H p (.lst (bs.map V.bl)))) := by
  intro pins s σ H vs us Q I r h
  obtain ⟨a, bs, rfl, hs, h64, hp, q⟩ := h
  obtain ⟨its, rv, hl, _⟩ := I.list hs
  rw [Vals.ref1 r]
  have e := each_bools rv
  have hL : bs.length ≤ sizeLine := small64 h64
  refine PySem.W.sorted_data (enc := PyData.bool) hl.isList e (e.mono fun v b h => ⟨[], by rw [h]; exact .bool b⟩) (.of fun _ _ => rfl) (.others fun b => ⟨by simp, by simp⟩) hL (fun b _ => by show _ + 2 + 0 < _; omega) fun out ho he => ?_
  obtain ⟨ep, he'⟩ := PyProof.Rows.sortedAll_at s.heap its (List.toArray out)
  have hm : bs.mergeSort (PySem.W.dataLe false PyData.bool) = bs := List.mergeSort_of_pairwise (hp.imp fun h => by rw [data_ble]; exact h)
  rw [hm] at he
  have hlen : (bs.map V.bl).length ≤ sizeLine := by rw [List.length_map]; exact hL
  exact ⟨.ref _, upd H (s.heap.objs.size + 1) (.lst (bs.map V.bl)), I.laid (t' := s.toks) (fun _ _ => PyProof.Rows.sortedAll_old) (Nat.le_succ _) ⟨hlen, (List.toArray out).toList, ep, by rw [List.toList_toArray]; exact vals_bools he, he'⟩, rfl, q _ (I.hok.fresh (Nat.le_succ _))⟩
theorem each_relV : ∀ {ts : List (V × PyData)} {its : List Value}, Vals (ts.map Prod.fst) its → PySem.W.EachIs (fun v (t : V × PyData) => RelV t.1 v) its ts
  | [], _, r => by cases r; exact .nil
  | t :: ts, _, r => by
    cases r with
    | cons r1 r2 => exact .cons r1 (each_relV r2)
theorem vals_relV : ∀ {ts : List (V × PyData)} {its : List Value}, PySem.W.EachIs (fun v (t : V × PyData) => RelV t.1 v) its ts → Vals (ts.map Prod.fst) its
  | [], _, r => by cases r; exact .nil
  | t :: ts, _, r => by
    cases r with
    | cons r1 r2 => exact .cons r1 (vals_relV r2)
theorem each_reads {X : Cx} {pins : List (Addr × Obj)} {σ : L2.St} {H : Hp} {s : Shared} (I : L2.Inv X pins σ H s) : ∀ {ts : List (V × PyData)} {its : List Value}, Vals (ts.map Prod.fst) its → (∀ t ∈ ts, Dp X.K H t.1 t.2) → PySem.W.EachIs (fun v (t : V × PyData) => ∃ as, Reads s.heap v t.2 as) its ts
  | [], _, r, _ => by cases r; exact .nil
  | t :: ts, _, r, h => by
    cases r with
    | cons r1 r2 => exact .cons (Dp.reads I t.2 _ _ (h t List.mem_cons_self) r1) (each_reads I r2 fun u hu => h u (List.mem_cons_of_mem _ hu))
theorem cr_sortedD (hu : X.A.units + 65 < cLine) : CallR X (.builtin "sorted") (fun vs H Q => ∃ (a : Addr) (ts : List (V × PyData)), vs = [V.ref a] ∧ SqL X.K H a (ts.map Prod.fst) ∧ ts.length ≤ sizeLine ∧ (∀ t ∈ ts, Dp X.K H t.1 t.2 ∧ t.2.depth ≤ 40) ∧ PySem.W.AllAlike (ts.map Prod.snd) ∧ PySem.W.Sortable (ts.map Prod.snd) ∧
    ∀ (p : Addr), H p = none → Q (.ref p) (upd H p (.lst ((ts.mergeSort (PySem.W.dataLe false Prod.snd)).map Prod.fst)))) := by
  intro pins s σ H vs us Q I r h
  obtain ⟨a, ts, rfl, hs, hL, hd, hal, hk, q⟩ := h
  obtain ⟨its, rv, hl, _⟩ := I.list hs
  rw [Vals.ref1 r]
  refine PySem.W.sorted_data (enc := Prod.snd) hl.isList (each_relV rv) (each_reads I rv fun t ht => (hd t ht).1) hal hk hL (fun b hb => by have := (hd b hb).2; omega) fun out ho he => ?_
  obtain ⟨ep, he'⟩ := PyProof.Rows.sortedAll_at s.heap its (List.toArray out)
  have hlen : ((ts.mergeSort (PySem.W.dataLe false Prod.snd)).map Prod.fst).length ≤ sizeLine := by rw [List.length_map, List.length_mergeSort]; exact hL
  exact ⟨.ref _, upd H (s.heap.objs.size + 1) (.lst _), I.laid (t' := s.toks) (fun _ _ => PyProof.Rows.sortedAll_old) (Nat.le_succ _) ⟨hlen, (List.toArray out).toList, ep, by rw [List.toList_toArray]; exact vals_relV he, he'⟩, rfl, q _ (I.hok.fresh (Nat.le_succ _))⟩
theorem zip3_of {K : PySem.W.Frag} {H : Hp} : ∀ {zs : List (PV × PyData)} {ws : List V}, RepVs K H (zs.map Prod.fst) ws → ∃ qs : List (PV × V × PyData), qs.map (fun q => (q.1, q.2.2)) = zs ∧ qs.map (fun q => q.2.1) = ws ∧ ∀ q ∈ qs, RepV K H q.1 q.2.1
  | [], ws, r => by
    cases (show _ = _ from r)
    exact ⟨[], rfl, rfl, fun q hq => absurd hq List.not_mem_nil⟩
  | z :: zs, ws, r => by
    obtain ⟨v, vs, h1, h2, h3⟩ := r
    subst h1
    obtain ⟨qs, e1, e2, e3⟩ := zip3_of h3
    refine ⟨(z.1, v, z.2) :: qs, by rw [List.map_cons, e1], by rw [List.map_cons, e2], fun q hq => ?_⟩
    rcases List.mem_cons.mp hq with rfl | hq
    · exact h2
    · exact e3 q hq
theorem RepVs.of3 {K : PySem.W.Frag} {H : Hp} : ∀ {qs : List (PV × V × PyData)}, (∀ q ∈ qs, RepV K H q.1 q.2.1) → RepVs K H (qs.map fun q => q.1) (qs.map fun q => q.2.1)
  | [], _ => rfl
  | q :: qs, h => ⟨q.2.1, _, rfl, h q List.mem_cons_self, RepVs.of3 fun x hx => h x (List.mem_cons_of_mem _ hx)⟩
theorem b_sorted (hu : X.A.units + 65 < cLine) : BiOk X (.builtin "sorted") gSorted := by
  refine ⟨_, CallR.or cr_sorted (CallR.or cr_sortedS (CallR.or (cr_sortedB (by omega)) (cr_sortedD hu))), ?_⟩
  intro xs vs H L R Q rx rh h k
  unfold gSorted at h
  split at h
  · obtain ⟨v, rfl, rv⟩ := rx.one
    cases (show _ = _ from rv)
    rcases h with ⟨ns, e, h0, h1⟩ | ⟨ns, e, h0, h1⟩ | ⟨ns, e, h0, h1, h2⟩ | ⟨zs, e, h0, hd, hal, hk, h2⟩
    · obtain ⟨ws, h2, r⟩ := rh.lst e
      have := r.ints
      subst this
      exact .inl ⟨_, ns, rfl, .inl (.inl h2), h0, fun ns' p hp hs hn => k.newl rh (h1 ns' hp hs) RepVs.ofInts p hn⟩
    · obtain ⟨ws, h2, r⟩ := rh.lst e
      have := r.strs
      subst this
      exact .inr (.inl ⟨_, ns, rfl, .inl (.inl h2), h0, fun ns' p hp hs hn => k.newl rh (h1 ns' hp hs) RepVs.ofStrs' p hn⟩)
    · obtain ⟨ws, h3, r⟩ := rh.lst e
      have := r.bls
      subst this
      exact .inr (.inr (.inl ⟨_, ns, rfl, .inl (.inl h3), h0, h1, fun p hn => k.newl rh h2 RepVs.ofBls p hn⟩))
    · obtain ⟨ws, h3, r⟩ := rh.lst e
      obtain ⟨qs, e1, e2, e3⟩ := zip3_of r
      have l1 : (qs.map fun q => q.2).map Prod.fst = ws := by rw [List.map_map]; exact e2
      have l2 : (qs.map fun q => q.2).map Prod.snd = zs.map Prod.snd := by rw [← e1, List.map_map, List.map_map]; rfl
      have s1 : zs.mergeSort (PySem.W.dataLe false Prod.snd) = (qs.mergeSort (PySem.W.dataLe false fun q => q.2.2)).map fun q => (q.1, q.2.2) := by
        rw [← e1]
        exact (List.map_mergeSort (r := PySem.W.dataLe false fun q : PV × V × PyData => q.2.2) (s := PySem.W.dataLe false Prod.snd) (f := fun q : PV × V × PyData => (q.1, q.2.2)) (l := qs) fun _ _ _ _ => rfl).symm
      have s2 : (qs.map fun q => q.2).mergeSort (PySem.W.dataLe false Prod.snd) = (qs.mergeSort (PySem.W.dataLe false fun q => q.2.2)).map fun q => q.2 := (List.map_mergeSort (r := PySem.W.dataLe false fun q : PV × V × PyData => q.2.2) (s := PySem.W.dataLe false Prod.snd) (f := fun q : PV × V × PyData => q.2) (l := qs) fun _ _ _ _ => rfl).symm
      have hql : qs.length = zs.length := by rw [← e1, List.length_map]
      refine .inr (.inr (.inr ⟨_, qs.map fun q => q.2, rfl, .inl (.inl (by rw [l1]; exact h3)), by rw [List.length_map, hql]; exact h0, fun t ht => ?_, by rw [l2]; exact hal, by rw [l2]; exact hk, fun p hn => ?_⟩))
      · obtain ⟨q, hq, rfl⟩ := List.mem_map.mp ht
        obtain ⟨d1, d2⟩ := hd (q.1, q.2.2) (by rw [← e1]; exact List.mem_map.mpr ⟨q, hq, rfl⟩)
        exact ⟨d1.dp rh (e3 q hq), d2⟩
      · rw [s2, List.map_map]
        rw [s1, List.map_map] at h2
        exact k.newl rh h2 (RepVs.of3 fun q hq => e3 q (List.mem_mergeSort.mp hq)) p hn
  · exact h.elim
theorem str_of_tup {prog : Program} {w : World} {A : Around} {E : Value → Shared → Prop} {s : Shared} {a : Addr} {o : Obj} {items : Array Value} {n : Nat} {ts : List Str} {Q : Value → Shared → Prop} (hu : A.units + 8 < cLine) (ha : s.heap.get? a = some o) (hc : o.cls = .type "tuple") (hd : o.data = .seq items n)
    (hT : ∀ (prog : Program) (w : World), ReprAll prog w items.toList ts) (hsz : (tupleText ts).length + 5 ≤ sizeLine) (h : ∀ (m : Str) (u tk : Tok), Q (.str m u) { s with toks := tk }) : wpAny (model prog w) A (call (.type "str") [.ref a]) Q E s :=
  callType_new F.called_str (by decide) (F.typeCall_str_1 _) (F.newCall_str_1 _) (fun obj => F.args_object_init_2 obj _) F.entry_str_new
    (meets_str_new (S := fun A R s => A.units + 4 < cLine ∧ s.heap.get? a = some o ∧ ∀ (m : Str) (u tk : Tok), R (.ok (.ret (.str m u))) { s with toks := tk }) fun prog w A R s hq =>
      wpAny_strOf_slot rfl (by show A.units + 1 + 1 < cLine; have := hq.1; omega) ⟨o, hq.2.1, hc⟩ F.slot_tuple_str F.slot_tuple_repr
        (fmt_tuple_repr (s := s) hq.2.1 hc hd (hT _ _) (by omega) fun m u tk hm => ⟨m, u, rfl, hq.2.2 m u tk⟩))
    ⟨by show _ + 4 < cLine; first | (show A.units + 4 < cLine; omega) | (show A.units + 1 + 4 < cLine; omega) | (show A.units + 1 + 1 + 4 < cLine; omega), ha, fun m u tk => ⟨typeIs_str _ _ _, h m u tk⟩⟩
theorem ints_repr {prog : Program} {w : World} : ∀ {ns : List Int} {its : List Value}, Vals (ns.map V.int) its → (∀ i ∈ ns, i.natAbs.log2 < 1920) → ReprAll prog w its (ns.map fun i => Str.ofString (toString i))
  | [], _, r, _ => by cases r; exact .nil
  | i :: ns, _, r, h => by
    cases r with
    | cons r1 r2 =>
      obtain ⟨t, rfl⟩ := r1
      exact .cons (ReprIs.int t (h i List.mem_cons_self)) (ints_repr r2 fun z hz => h z (List.mem_cons_of_mem _ hz))
theorem ints_piled : ∀ (ns : List Int), (∀ i ∈ ns, i.natAbs < 100000) → piled (ns.map fun i => Str.ofString (toString i)) ≤ ns.length * 100010
  | [], _ => Nat.zero_le _
  | i :: ns, h => by
    have h1 := PyProof.Rows.len_str_of_int i
    have h2 := h i List.mem_cons_self
    have h3 := ints_piled ns fun z hz => h z (List.mem_cons_of_mem _ hz)
    rw [List.map_cons, piled_cons, List.length_cons, Nat.succ_mul]
    omega
theorem log_small {i : Int} (h : i.natAbs < 100000) : i.natAbs.log2 < 1920 := by
  by_cases h0 : i.natAbs = 0
  · rw [h0]; decide
  · exact (Nat.log2_lt h0).mpr (Nat.lt_trans h (Nat.lt_trans (show 100000 < 2 ^ 20 by decide) (Nat.pow_lt_pow_right (by decide) (by decide))))
theorem call_str_tup {X : Cx} (hu : X.A.units + 64 < cLine) : CallR X (.type "str") (fun xs H Q => ∃ (a : Addr) (ns : List Int), xs = [.ref a] ∧ SqT X.K H a (ns.map V.int) ∧ (∀ i ∈ ns, i.natAbs < 100000) ∧ ns.length ≤ 100 ∧ ∀ m, Q (.str m) H) := by
  intro pins s σ H xs us Q I r h
  obtain ⟨a, ns, rfl, hs, hb, hl, q⟩ := h
  obtain ⟨u, rfl, r1⟩ := vals1 r
  cases r1
  obtain ⟨its, rv, ⟨o, ho, hcl, n, hd⟩, _⟩ := I.tuple hs
  have hp := ints_piled ns hb
  have htx := fmt_text (ns.map fun i => Str.ofString (toString i))
  refine str_of_tup (ts := ns.map fun i => Str.ofString (toString i)) (by omega) ho hcl hd (fun _ _ => ints_repr rv fun i hi => log_small (hb i hi)) ?_ fun m u tk => ⟨.str m, H, I.tok _, ⟨u, rfl⟩, q m⟩
  show _ ≤ 16777216
  omega
theorem call_str_data {X : Cx} (hu : X.A.units + 64 < cLine) (gd : X.A.guards = some []) : CallR X (.type "str") (fun xs H Q => ∃ (a : Addr) (d : PyData), xs = [.ref a] ∧ Dp X.K H (.ref a) d ∧ d.showable = true ∧ d.hasDict = false ∧ d.depth ≤ 40 ∧ d.shown.length ≤ sizeLine ∧ Q (.str d.shown) H) := by
  intro pins s σ H xs us Q I r h
  obtain ⟨a, d, rfl, hd, h1, h2, h3, h4, q⟩ := h
  obtain ⟨u, rfl, r1⟩ := vals1 r
  obtain ⟨as, rd⟩ := Dp.reads I d _ _ hd r1
  cases r1
  exact PySem.str_of_reads rd h1 (fun e => by rw [h2] at e; cases e) gd (by omega) (fun _ _ e => e) (fun h' u tk hk => ⟨.str d.shown, H, I.kept hk, ⟨u, rfl⟩, q⟩) h4
theorem call_str_non {X : Cx} : CallR X (.type "str") (fun xs H Q => xs = [.non] ∧ Q (.str "None") H) := by
  intro pins s σ H xs us Q I r h
  obtain ⟨rfl, q⟩ := h
  obtain ⟨u, rfl, r1⟩ := vals1 r
  cases r1
  exact PySem.P.str_of_none ⟨.str "None", H, I.tok _, ⟨_, rfl⟩, q⟩
theorem call_str_bl {X : Cx} : CallR X (.type "str") (fun xs H Q => ∃ b, xs = [.bl b] ∧ Q (.str (if b then "True" else "False")) H) := by
  intro pins s σ H xs us Q I r h
  obtain ⟨b, rfl, q⟩ := h
  obtain ⟨u, rfl, r1⟩ := vals1 r
  cases r1
  exact PySem.P.str_of_bool ⟨.str _, H, I.tok _, ⟨_, rfl⟩, q⟩
theorem call_str_sx {X : Cx} : CallR X (.type "str") (fun xs H Q => ∃ a, xs = [.str a] ∧ Q (.str a) H) := by
  intro pins s σ H xs us Q I r h
  obtain ⟨a, rfl, q⟩ := h
  obtain ⟨u, rfl, t, rfl⟩ := vals1 r
  exact PySem.P.str_of_str ⟨.str a, H, I, ⟨t, rfl⟩, q⟩
theorem b_str (hu : X.A.units + 65 < cLine) (gd : X.A.guards = some []) : BiOk X (.type "str") gStr := by
  refine ⟨_, ((call_str_int.or (call_str_tup (by omega))).or (call_str_data (by omega) gd)).or (call_str_non.or (call_str_bl.or call_str_sx)), ?_⟩
  intro xs vs H L R Q rx rh h k
  unfold gStr at h
  split at h
  · obtain ⟨v, rfl, rv⟩ := rx.one
    cases (show _ = _ from rv)
    exact .inl (.inl (.inl ⟨_, rfl, h.1, k.here rh h.2 rfl⟩))
  · obtain ⟨v, rfl, rv⟩ := rx.one
    rcases h with ⟨ns, rfl, h1, h2, h3⟩ | ⟨d, h1, h2, h3, h4, h5, h6⟩
    · obtain ⟨a, ws, rfl, t, r⟩ := rv
      rw [RepVs.ints r] at t
      exact .inl (.inl (.inr ⟨a, ns, rfl, t.sq, h1, h2, fun m => k.here rh (h3 m) rfl⟩))
    · have hd := h1.dp rh rv
      obtain ⟨a, ws, rfl, t, r⟩ := rv
      exact .inl (.inr ⟨a, d, rfl, hd, h2, h3, h4, h5, k.here rh h6 rfl⟩)
  · obtain ⟨v, rfl, rv⟩ := rx.one
    cases (show _ = _ from rv)
    exact .inr (.inl ⟨rfl, k.here rh h rfl⟩)
  · obtain ⟨v, rfl, rv⟩ := rx.one
    cases (show _ = _ from rv)
    exact .inr (.inr (.inl ⟨_, rfl, k.here rh h rfl⟩))
  · obtain ⟨v, rfl, rv⟩ := rx.one
    cases (show _ = _ from rv)
    exact .inr (.inr (.inr ⟨_, rfl, k.here rh h rfl⟩))
  · obtain ⟨v, rfl, rv⟩ := rx.one
    obtain ⟨d, h1, h2, h3, h4, h5, h6⟩ := h
    have hd := h1.dp rh rv
    cases (show _ = _ from rv)
    exact .inl (.inr ⟨_, d, rfl, hd, h2, h3, h4, h5, k.here rh h6 rfl⟩)
  · exact h.elim
theorem tup_ty {a : Addr} {vs : List V} (h : TupAt K H a vs) : TyX K H (.ref a) (.type "tuple") := by
  rcases h with h | (h | ⟨o, h⟩) | ⟨o, its, n, h1, h2, _⟩
  · exact .base (.tup h)
  · cases h
  · cases h
  · exact .kTuple h1 h2
theorem fz_ty {ns : List Int} {v : V} (h : RepV K H (.fz ns) v) : TyX K H v (.type "list") := by
  obtain ⟨a, rfl, h⟩ := h
  rcases h with ⟨o, h⟩ | (h | ⟨o, h⟩) | ⟨o, its, n, h1, h2, _⟩
  · exact .base (.frz h)
  · cases h
  · cases h
  · exact .kList h1 h2
theorem ty_of (rh : RepH K H L) {x : PV} {v : V} (r : RepV K H x v) {c : String} {b : Bool} (h : isiB (tyName x L) c = some b) : TyX K H v (.type (tyName x L)) := by
  cases x with
  | non => cases (show _ = _ from r); exact .base .non
  | bl => cases (show _ = _ from r); exact .base (.bl _)
  | int => cases (show _ = _ from r); exact .base (.int _)
  | str => cases (show _ = _ from r); exact .base (.str _)
  | tup => obtain ⟨a, vs, rfl, t, _⟩ := r; exact tup_ty t
  | fz => exact fz_ty r
  | ref a =>
    cases (show _ = _ from r)
    cases e : L a with
    | none => simp [tyName, e, isiB] at h
    | some o =>
      cases o with
      | l xs =>
        obtain ⟨ws, h1, _⟩ := rh.lst e
        simp only [tyName, e]
        exact .base (.lst h1)
      | d xs =>
        obtain ⟨ws, h1, _⟩ := rh.dct e
        simp only [tyName, e]
        exact .base (.dK h1)
      | t xs =>
        obtain ⟨ws, h1, _⟩ := rh.dct2 e
        simp only [tyName, e]
        exact .base (.dT h1)
  | ty => simp [tyName, isiB] at h
theorem isiB_ok : ∀ {t c : String} {b : Bool}, isiB t c = some b → kitB t c = some b := by
  intro t c b h
  unfold isiB at h
  split at h <;> first | (cases h; decide +kernel) | cases h
theorem isiBs_ok {t : String} : ∀ {cs : List PV} {vs : List V} {b : Bool}, RepVs K H cs vs → isiBs t cs = some b → (cs ≠ [] → ∃ c b', isiB t c = some b') ∧ ∃ us, Paired ClsV vs us ∧ PySem.W.kitAny K (.type t) us = some b
  | [], _, _, h, e => by
    cases (show _ = _ from h)
    cases e
    exact ⟨fun z => absurd rfl z, [], .nil, kitAny_nil⟩
  | c :: r, _, b, ⟨w, ws, h1, h2, h3⟩, h => by
    subst h1
    cases c <;> first | (cases h; done) | skip
    rename_i c
    cases (show _ = _ from h2)
    unfold isiBs at h
    split at h
    · rename_i x y e1 e2
      cases h
      obtain ⟨_, us, q2, q3⟩ := isiBs_ok h3 e2
      refine ⟨fun _ => ⟨c, x, e1⟩, _, .cons (.ty c) q2, kitAny_cons (kit_ty (isiB_ok e1)) (fun z => ?_) (fun z => ?_)⟩
      · rw [z, Bool.false_or]; exact q3
      · rw [z]; rfl
    · cases h
theorem b_isi : BiOk X (.builtin "isinstance") gIsi := by
  refine ⟨_, call_isi.or (call_isiT.or call_isiK), ?_⟩
  intro xs vs H L R Q rx rh h k
  unfold gIsi at h
  split at h
  · rename_i x c
    split at h
    · rename_i b e
      obtain ⟨v, w, rfl, rv, rw'⟩ := rx.two
      cases (show _ = _ from rw')
      exact .inl ⟨v, _, _, _, b, rfl, .ty c, ty_of rh rv e, kit_ty (isiB_ok e), k.here rh h rfl⟩
    · exact h.elim
  · rename_i x cs
    obtain ⟨hne, h⟩ := h
    split at h
    · rename_i b e
      obtain ⟨v, w, rfl, rv, a, ws, rfl, t, r⟩ := rx.two
      obtain ⟨q0, us, q1, q2⟩ := isiBs_ok r e
      obtain ⟨c, b', e'⟩ := q0 hne
      rcases t with t | (t | ⟨o, t⟩) | ⟨⟨oc, od, dt, sl⟩, its, n, t1, t2, t3, t4, t5⟩
      · exact .inr (.inl ⟨v, a, ws, _, us, b, rfl, t, q1, ty_of rh rv e', q2, k.here rh h rfl⟩)
      · cases t
      · cases t
      · simp only at t2 t3
        subst t2 t3
        have e3 := ClsV.all q1 t5
        refine .inr (.inr ⟨v, a, od, us, n, sl, _, b, rfl, ?_, ty_of rh rv e', q2, k.here rh h rfl⟩)
        rw [t1, ← e3]
    · exact h.elim
  · exact h.elim
abbrev MtF := PV → BiF
def mAppend : MtF := fun x xs L R => match x, xs with
  | .ref a, [y] => ∃ ys, L a = some (.l ys) ∧ ys.length < sizeLine ∧ R .non (put L a (.l (ys ++ [y])))
  | _, _ => False
def mExtend : MtF := fun x xs L R => match x, xs with
  | .ref a, [.ref b] => ∃ ys zs, L a = some (.l ys) ∧ L b = some (.l zs) ∧ ys.length + zs.length ≤ sizeLine ∧ R .non (put L a (.l (ys ++ zs)))
  | _, _ => False
def mPop : MtF := fun x xs L R => match x, xs with
  | .ref a, [] => ∃ ys y, L a = some (.l ys) ∧ ys[ys.length - 1]? = some y ∧ R y (put L a (.l ys.dropLast))
  | .ref a, [.int i] => ∃ ys k y, L a = some (.l ys) ∧ -(2 ^ 63) ≤ i ∧ i < 2 ^ 63 ∧ seqIndex? i ys.length = some k ∧ ys[k]? = some y ∧ R y (put L a (.l (ys.eraseIdx k)))
  | _, _ => False
def mReverse : MtF := fun x xs L R => match x, xs with
  | .ref a, [] => ∃ ys, L a = some (.l ys) ∧ R .non (put L a (.l ys.reverse))
  | _, _ => False
def mClear : MtF := fun x xs L R => match x, xs with
  | .ref a, [] => ∃ ys, L a = some (.l ys) ∧ R .non (put L a (.l []))
  | _, _ => False
def mInsert : MtF := fun x xs L R => match x, xs with
  | .ref a, [.int i, y] => ∃ ys, L a = some (.l ys) ∧ ys.length < sizeLine ∧ 0 ≤ i ∧ i < 2 ^ 63 ∧ R .non (put L a (.l (ys.take i.toNat ++ [y] ++ ys.drop i.toNat)))
  | _, _ => False
def MtS (K : PySem.W.Frag) (g : MtF) (r : V → List V → Hp → VK → Prop) : Prop := ∀ (x : PV) (v : V) (xs : List PV) (vs : List V) (H : Hp) (L : Sto) (R : PK) (Q : VK), RepV K H x v → RepVs K H xs vs → RepH K H L → g x xs L R → Kt K H L R Q → r v vs H Q
theorem Kt.putl {R : PK} {Q : VK} (k : Kt K H L R Q) (rh : RepH K H L) {a : Addr} {xs : List PV} {vs : List V} {u : SO} {x : PV} {v : V} (hp : L a = some u) (h : R x (put L a (.l xs))) (rv : RepVs K H xs vs) (rx : RepV K H x v) : Q v (upd H a (.lst vs)) :=
  k _ _ _ _ h (fm_put hp) (rx.ex (ex_put rh hp)) (reph_put rh hp rv)
theorem s_append : MtS K mAppend rAppend := by
  intro x v xs vs H L R Q rx rxs rh h k
  unfold mAppend at h
  split at h
  · obtain ⟨w, rfl, rw'⟩ := rxs.one
    cases (show _ = _ from rx)
    obtain ⟨ys, e, h1, h2⟩ := h
    obtain ⟨ws, h3, r⟩ := rh.lst e
    exact ⟨_, ws, w, rfl, rfl, h3, by rw [← r.length]; exact h1, k.putl rh e h2 (r.append ⟨w, [], rfl, rw', rfl⟩) rfl⟩
  · exact h.elim
theorem s_extend : MtS K mExtend rExtend := by
  intro x v xs vs H L R Q rx rxs rh h k
  unfold mExtend at h
  split at h
  · obtain ⟨w, rfl, rw'⟩ := rxs.one
    cases (show _ = _ from rx)
    cases (show _ = _ from rw')
    obtain ⟨ys, zs, e, e2, h1, h2⟩ := h
    obtain ⟨ws, h3, r⟩ := rh.lst e
    obtain ⟨us, h4, r2⟩ := rh.lst e2
    exact ⟨_, _, ws, us, rfl, rfl, h3, h4, by rw [← r.length, ← r2.length]; exact h1, k.putl rh e h2 (r.append r2) rfl⟩
  · exact h.elim
theorem s_pop : MtS K mPop (fun x vs H Q => rPop x vs H Q ∨ rPopAt x vs H Q) := by
  intro x v xs vs H L R Q rx rxs rh h k
  unfold mPop at h
  split at h
  · cases (show _ = _ from rx)
    cases (show _ = _ from rxs)
    obtain ⟨ys, y, e, h1, h2⟩ := h
    obtain ⟨ws, h3, r⟩ := rh.lst e
    rw [r.length] at h1
    obtain ⟨z, h4, h5⟩ := r.get h1
    exact .inl ⟨_, ws, z, rfl, rfl, h3, h4, k.putl rh e h2 r.dropLast h5⟩
  · obtain ⟨w, rfl, rw'⟩ := rxs.one
    cases (show _ = _ from rx)
    cases (show _ = _ from rw')
    obtain ⟨ys, j, y, e, h0, h1, h2, h3, h4⟩ := h
    obtain ⟨ws, h5, r⟩ := rh.lst e
    rw [r.length] at h2
    obtain ⟨z, h6, h7⟩ := r.get h3
    exact .inr ⟨_, ws, _, j, z, rfl, rfl, h5, h0, h1, h2, h6, k.putl rh e h4 (r.eraseIdx j) h7⟩
  · exact h.elim
theorem s_reverse : MtS K mReverse rReverse := by
  intro x v xs vs H L R Q rx rxs rh h k
  unfold mReverse at h
  split at h
  · cases (show _ = _ from rx)
    cases (show _ = _ from rxs)
    obtain ⟨ys, e, h2⟩ := h
    obtain ⟨ws, h3, r⟩ := rh.lst e
    exact ⟨_, ws, rfl, rfl, h3, k.putl rh e h2 r.reverse rfl⟩
  · exact h.elim
theorem s_clear : MtS K mClear rClear := by
  intro x v xs vs H L R Q rx rxs rh h k
  unfold mClear at h
  split at h
  · cases (show _ = _ from rx)
    cases (show _ = _ from rxs)
    obtain ⟨ys, e, h2⟩ := h
    obtain ⟨ws, h3, r⟩ := rh.lst e
    exact ⟨_, ws, rfl, rfl, h3, k.putl rh e h2 (xs := []) rfl rfl⟩
  · exact h.elim
theorem s_insert : MtS K mInsert (fun x vs H Q => ∃ (l : Addr) (xs : List V) (i : Int) (y : V), x = .ref l ∧ vs = [.int i, y] ∧ H l = some (.lst xs) ∧ xs.length < sizeLine ∧ 0 ≤ i ∧ i < 2 ^ 63 ∧ Q .non (upd H l (.lst (xs.take i.toNat ++ [y] ++ xs.drop i.toNat)))) := by
  intro x v xs vs H L R Q rx rxs rh h k
  unfold mInsert at h
  split at h
  · cases (show _ = _ from rx)
    rename_i i y
    obtain ⟨vi, rest, rfl, ri, r2⟩ := rxs
    obtain ⟨vy, rest2, rfl, ry, r3⟩ := r2
    cases (show _ = _ from ri)
    cases (show _ = _ from r3)
    obtain ⟨ys, e, h1, h2, h3, h4⟩ := h
    obtain ⟨ws, h5, r⟩ := rh.lst e
    exact ⟨_, ws, i, vy, rfl, rfl, h5, by rw [← r.length]; exact h1, h2, h3, k.putl rh e h4 (((r.take _).append (ys := [y]) (ws := [vy]) ⟨vy, [], rfl, ry, rfl⟩).append (r.drop _)) rfl⟩
  · exact h.elim
def tyOk (T : String) (x : PV) (L : Sto) : Prop := match x with
  | .ref a => (T = "list" ∧ ∃ ys, L a = some (.l ys)) ∨ (T = "dict" ∧ ∃ ys, L a = some (.d ys))
  | .str _ => T = "str"
  | _ => False
def wMt (T : String) (g : MtF) (o : WE) (ws : List WE) : WE := fun env L R => o env L fun x La => tyOk T x La ∧ wAr ws env La fun xs Lb => g x xs Lb R
theorem tyOk_V {T : String} {x : PV} {v : V} (rh : RepH K H L) (r : RepV K H x v) (h : tyOk T x L) : tyV K T v H := by
  cases x <;> first | exact absurd h (fun z => z) | skip
  · cases (show _ = _ from r)
    exact h
  · cases (show _ = _ from r)
    rcases h with ⟨h1, ys, h2⟩ | ⟨h1, ys, h2⟩
    · obtain ⟨vs, h3, _⟩ := rh.lst h2
      exact .inl ⟨h1, vs, .inl (.inl h3)⟩
    · obtain ⟨vs, h3, _⟩ := rh.dct h2
      exact .inr (.inr (.inl ⟨h1, .inl ⟨vs, h3⟩⟩))
/-- a built-in type's method -/
structure MtOk (X : Cx) (T : String) (name : Str) (g : MtF) : Prop where
  ex : ∃ (id : String) (r : V → List V → Hp → VK → Prop), PlainAttrs T ∧ Slot T name id ∧ typeOf (.builtin id) = pure (.type "method_descriptor") ∧ MtR X id r ∧ MtS X.K g r
variable {pos apos cpos : Pos} {o e : Expr} {es : List Expr} {name : Str} {id T : String} {wo : WE} {ws : List WE}
theorem q_mt {g : MtF} (hm : MtOk X T name g) (ho : PE X o (liftE X.K wo)) (ha : PA X (e :: es) (liftA X.K ws))
    (hbase : attributeBase o name X.env (eval o X.env) = eval o X.env)
    (hfew : ((backTo cpos (starEach (e :: es) X.env)).all (fun x => !x.1) && (backToKw cpos (keywordEach [] X.env)).all (fun x => x.1.isSome)
      && decide ((e :: es).length + ([] : List Keyword).length + (if ([] : List Keyword).isEmpty then 0 else 1) < 30)) = true)
    (hline : (apos.endLine == cpos.line) = true) (hs : starEach (e :: es) X.env = (false, eval e X.env) :: starEach es X.env) (hplain : (backTo cpos (starEach es X.env)).any (·.1) = false) :
    PE X (.Call (.Attribute o name apos) (e :: es) [] cpos) (liftE X.K (wMt T g wo ws)) := by
  obtain ⟨id, r, pa, slot, hty, hr, hg⟩ := hm.ex
  refine (pe_bm pa slot hty hr ho ha hbase hfew hline hs hplain).weak fun σ H Q h => ?_
  obtain ⟨env, L, R, hs, hL, hw, k⟩ := h
  refine ⟨env, L, _, hs, hL, hw, fun x La v H1 hb f1 rx r1 => ⟨tyOk_V r1 rx hb.1, ?_⟩⟩
  refine ⟨env, La, _, hs.ex (f1.ex hL), r1, hb.2, fun xs Lb vs H2 hc hn f2 rxs r2 => ?_⟩
  exact hg x v xs vs H2 Lb R Q (rx.ex (f2.ex r1)) rxs r2 hc (k.fm (f1.trans f2))
theorem q_mt0 {g : MtF} (hm : MtOk X T name g) (ho : PE X o (liftE X.K wo)) (hbase : attributeBase o name X.env (eval o X.env) = eval o X.env) (hline : (apos.endLine == cpos.line) = true) :
    PE X (.Call (.Attribute o name apos) [] [] cpos) (liftE X.K (wMt T g wo [])) := by
  obtain ⟨id, r, pa, slot, hty, hr, hg⟩ := hm.ex
  refine (pe_bm0 pa slot hty hr ho hbase hline).weak fun σ H Q h => ?_
  obtain ⟨env, L, R, hs, hL, hw, k⟩ := h
  refine ⟨env, L, _, hs, hL, hw, fun x La v H1 hb f1 rx r1 => ⟨tyOk_V r1 rx hb.1, ?_⟩⟩
  exact hg x v [] [] H1 La R Q rx rfl r1 hb.2 (k.fm f1)
theorem k_append : MtOk X "list" "append" mAppend := ⟨_, _, PySem.F.plainAttrs_list, PySem.F.slot_list_append, PySem.F.type_list_append, mt_append, s_append⟩
theorem k_extend : MtOk X "list" "extend" mExtend := ⟨_, _, PySem.F.plainAttrs_list, PySem.F.slot_list_extend, PySem.F.type_list_extend, mt_extend, s_extend⟩
theorem k_pop : MtOk X "list" "pop" mPop := ⟨_, _, PySem.F.plainAttrs_list, PySem.F.slot_list_pop, PySem.F.type_list_pop, MtR.or mt_pop mt_popAt, s_pop⟩
theorem k_insert : MtOk X "list" "insert" mInsert := ⟨_, _, PySem.F.plainAttrs_list, PySem.F.slot_list_insert, PySem.F.type_list_insert, mt_insert, s_insert⟩
theorem k_reverse : MtOk X "list" "reverse" mReverse := ⟨_, _, PySem.F.plainAttrs_list, PySem.F.slot_list_reverse, PySem.F.type_list_reverse, mt_reverse, s_reverse⟩
theorem k_clear : MtOk X "list" "clear" mClear := ⟨_, _, PySem.F.plainAttrs_list, PySem.F.slot_list_clear, PySem.F.type_list_clear, mt_clear, s_clear⟩
abbrev Spec := List PV → Sto → PK → Prop
/-- a def's promise over data -/
def liftSp (K : PySem.W.Frag) (n : Nat) (S : Spec) : Sp := fun vs H Q _ => vs.length = n ∧ ∃ args L R, RepVs K H args vs ∧ RepH K H L ∧ S args L R ∧ Kt K H L R Q
def wCall (S : Spec) (ws : List WE) : WE := fun env L R => wAr ws env L fun xs La => S xs La R
/-- a def of the text that keeps S -/
structure FnIs (P : Program) (w : World) (K : PySem.W.Frag) (mg : Str → Option Value) (base : Heap) (k : Nat) (x : Str) (n : Nat) (S : Spec) : Prop where
  ex : ∃ (f : Addr) (fd : FuncData) (ps : List Str), mg x = some (.ref f) ∧ PySem.W.keepIn K (.ref f) = true ∧ Binds K fd ps [] ∧ FnG P w K mg base k f fd ps (liftSp K n S)
theorem FnIs.mono {P : Program} {w : World} {K : PySem.W.Frag} {mg : Str → Option Value} {base : Heap} {k k' : Nat} {x : Str} {n : Nat} {S : Spec} (h : FnIs P w K mg base k x n S) (hk : k ≤ k') : FnIs P w K mg base k' x n S := by
  obtain ⟨f, fd, ps, h1, h2, h3, h4⟩ := h.ex
  exact ⟨f, fd, ps, h1, h2, h3, h4.up hk⟩
theorem lift_call {S : Spec} {n : Nat} {E : XK} (hn : ws.length = n) {σ : L2.St} {H : Hp} {Q : VK} (h : liftE X.K (wCall S ws) σ H Q) : tCall (liftSp X.K n S) [] E (liftA X.K ws) σ H Q := by
  obtain ⟨env, L, R, hs, hL, hw, k⟩ := h
  refine ⟨env, L, _, hs, hL, hw, fun xs La vs H1 hb hl f1 rx r1 => ?_⟩
  show liftSp X.K n S (vs ++ []) H1 Q E
  rw [List.append_nil]
  exact ⟨by rw [← rx.length, hl, hn], xs, La, R, rx, r1, hb, k.fm f1⟩
theorem q_call {x : Str} {p : Pos} {k n : Nat} {S : Spec} (F : FnIs X.prog X.w X.K X.mg X.base k x n S) (gd : X.A.guards = some []) (hr : Room k X.A) (hg : Gl X x) (hn : ws.length = n) (ha : PA X (e :: es) (liftA X.K ws))
    (hdb : (x == ("__debug__" : Str)) = false) (he : starEach (e :: es) X.env = (false, eval e X.env) :: starEach es X.env) (hpl : (backTo pos (starEach es X.env)).any (·.1) = false) :
    PE X (.Call (.Name x p) (e :: es) [] pos) (liftE X.K (wCall S ws)) := by
  obtain ⟨f, fd, ps, h1, h2, h3, h4⟩ := F.ex
  exact (g_call h4 gd hr hg h1 h2 h3 ha hdb he hpl).weak fun σ H Q h => lift_call hn h
theorem q_call0 {x : Str} {p : Pos} {k : Nat} {S : Spec} (F : FnIs X.prog X.w X.K X.mg X.base k x 0 S) (gd : X.A.guards = some []) (hr : Room k X.A) (hg : Gl X x) (hdb : (x == ("__debug__" : Str)) = false) :
    PE X (.Call (.Name x p) [] [] pos) (liftE X.K (wCall S [])) := by
  obtain ⟨f, fd, ps, h1, h2, h3, h4⟩ := F.ex
  refine (g_call0 h4 gd hr hg h1 h2 h3 hdb).weak fun σ H Q h => ?_
  obtain ⟨env, L, R, hs, hL, hw, k⟩ := h
  exact ⟨rfl, [], L, R, rfl, hL, hw, k⟩
/-- a built-in, by its name -/
theorem q_bi {x : Str} {p : Pos} {g : BiF} (hb : BiOk X (.builtin id) g) (hg : Gl X x) (hm : X.mg x = none) (hv : bootBuiltins x = some (.builtin id)) (ha : PA X (e :: es) (liftA X.K ws)) (hn : x ≠ "__name__") (hdb : (x == ("__debug__" : Str)) = false)
    (he : starEach (e :: es) X.env = (false, eval e X.env) :: starEach es X.env) (hpl : (backTo pos (starEach es X.env)).any (·.1) = false) : PE X (.Call (.Name x p) (e :: es) [] pos) (liftE X.K (wBi g ws)) := by
  obtain ⟨r, h1, h2⟩ := hb
  exact (pe_callB h1 hg hm hv ha hn hdb he hpl).weak fun σ H Q h => lift_bi h2 h
theorem q_ty {x : Str} {p : Pos} {g : BiF} (hb : BiOk X (.type id) g) (hg : Gl X x) (hm : X.mg x = none) (hv : bootBuiltins x = some (.type id)) (ha : PA X (e :: es) (liftA X.K ws)) (hn : x ≠ "__name__") (hdb : (x == ("__debug__" : Str)) = false)
    (he : starEach (e :: es) X.env = (false, eval e X.env) :: starEach es X.env) (hpl : (backTo pos (starEach es X.env)).any (·.1) = false) : PE X (.Call (.Name x p) (e :: es) [] pos) (liftE X.K (wBi g ws)) := by
  obtain ⟨r, h1, h2⟩ := hb
  exact (pe_callTy h1 hg hm hv ha hn hdb he hpl).weak fun σ H Q h => lift_bi h2 h
end
end
section
open PySem PySem.Spec PyProof.Rows L2
inductive Sd where
  | l (a : Nat) | t (a : Nat) | s (x : Str)
def chV (x : Str) : List V := x.cps.toList.map fun c => V.str ⟨#[c]⟩
def Sd.At (K : PySem.W.Frag) (H : Hp) : Sd → List V → Prop
  | .l a, vs => SqL K H a vs
  | .t a, vs => SqT K H a vs
  | .s x, vs => vs = chV x
def Sd.val : Sd → V
  | .l a => .ref a
  | .t a => .ref a
  | .s x => .str x
def Sd.adr : Sd → List Nat
  | .l a => [a]
  | .t a => [a]
  | .s _ => []
/-- the iterator of it, so far on -/
def Sd.con : Sd → Addr → Nat → Heap → Prop
  | .l a, it, i, h => h.IsListIter it a i
  | .t a, it, i, h => h.IsTupleIter it a i
  | .s x, it, i, h => ∃ t, h.IsStrIter it (strIterType x) x t i
theorem Sd.con_at {d : Sd} {it : Addr} {i : Nat} {h h' : Heap} (c : d.con it i h) (k : ∀ o, h.get? it = some o → h'.get? it = some o) : d.con it i h' := by
  cases d with
  | l a => exact c.at fun o e => k o e
  | t a => exact c.at fun o e => k o e
  | s x => obtain ⟨t, o, h1, h2, h3⟩ := c; exact ⟨t, o, k o h1, h2, h3⟩
theorem Sd.con_obj {d : Sd} {it : Addr} {i : Nat} {h : Heap} (c : d.con it i h) : ∃ o, h.get? it = some o ∧ ∀ v, o.data ≠ .cell v := by
  cases d with
  | l a => obtain ⟨o, e, _, d⟩ := c; exact ⟨o, e, fun v q => by rw [d] at q; cases q⟩
  | t a => obtain ⟨o, e, _, d⟩ := c; exact ⟨o, e, fun v q => by rw [d] at q; cases q⟩
  | s x => obtain ⟨t, o, e, _, d⟩ := c; exact ⟨o, e, fun v q => by rw [d] at q; cases q⟩
section
variable {X : Cx} {pins : List (Addr × Obj)} {σ : L2.St} {H : Hp} {s : Shared}
theorem Sd.inj {d : Sd} (I : Inv X pins σ H s) {vs ws : List V} (h : d.At X.K H vs) (k : d.At X.K H ws) : vs = ws := by
  cases d with
  | l a => exact I.list_inj h k
  | t a => exact I.tuple_inj h k
  | s x => exact (show vs = chV x from h).trans (show ws = chV x from k).symm
theorem vals_getV : ∀ {vs : List V} {us : List Value} {i : Nat} {u : Value}, Vals vs us → us[i]? = some u → ∃ v, vs[i]? = some v ∧ RelV v u
  | _, _, _, _, .nil, h => by simp at h
  | _, _, 0, _, .cons r _, h => by
    simp at h
    subst h
    exact ⟨_, rfl, r⟩
  | _, _, i + 1, _, .cons _ r, h => by
    obtain ⟨v, h1, h2⟩ := vals_getV (i := i) r (by simpa using h)
    exact ⟨v, by simpa using h1, h2⟩
/-- the kit's iterator of it, as it stands now -/
structure Dr (X : Cx) (s : Shared) (d : Sd) (it : Addr) (i : Nat) (vs : List V) where
  fp : List Nat
  P : Nat → Value → Prop
  St : Nat → Heap → Prop
  D : Draws X.prog X.w X.A.in1 it fp vs.length P St
  st : St i s.heap
  mem : it ∈ fp
  only : ∀ b ∈ fp, b = it ∨ b ∈ d.adr
  con : ∀ j h, St j h → d.con it j h
  rel : ∀ j u, P j u → ∃ v, vs[j]? = some v ∧ RelV v u
theorem dr_of {d : Sd} {it : Addr} {i : Nat} {vs : List V} (hc : X.calm = true) (I : Inv X pins σ H s) (h : d.At X.K H vs) (c : d.con it i s.heap) (hne : it ∉ d.adr) : Nonempty (Dr X s d it i vs) := by
  have hh : X.A.in1.handled = none := I.ok.hd hc
  cases d with
  | l a =>
    obtain ⟨its, rv, p, _⟩ := I.list h
    have hl : vs.length = its.toArray.size := by rw [rv.length]; simp
    refine ⟨⟨[it, a], fun i v => its.toArray[i]? = some v, fun i h => h.IsListIter it a i ∧ h.IsList a its.toArray, by rw [hl]; exact Draws.list hh it a (fun z => hne (by rw [← z]; exact List.mem_singleton.mpr rfl)) its.toArray, ⟨c, p.isList⟩, by simp, fun b hb => ?_, fun j h st => st.1, fun j u hu => ?_⟩⟩
    · have e : b = it ∨ b = a := by simpa using hb
      exact e.imp id fun z => List.mem_singleton.mpr z
    · have hu : its[j]? = some u := by simpa using hu
      obtain ⟨v, h1, h2⟩ := vals_getV rv hu
      exact ⟨v, h1, h2⟩
  | t a =>
    obtain ⟨its, rv, p, _⟩ := I.tuple h
    have hl : vs.length = its.toArray.size := by rw [rv.length]; simp
    refine ⟨⟨[it, a], fun i v => its.toArray[i]? = some v, fun i h => h.IsTupleIter it a i ∧ h.IsTuple a its.toArray, by rw [hl]; exact Draws.tuple hh it a (fun z => hne (by rw [← z]; exact List.mem_singleton.mpr rfl)) its.toArray, ⟨c, p⟩, by simp, fun b hb => ?_, fun j h st => st.1, fun j u hu => ?_⟩⟩
    · have e : b = it ∨ b = a := by simpa using hb
      exact e.imp id fun z => List.mem_singleton.mpr z
    · have hu : its[j]? = some u := by simpa using hu
      obtain ⟨v, h1, h2⟩ := vals_getV rv hu
      exact ⟨v, h1, h2⟩
  | s x =>
    obtain ⟨t, c⟩ := c
    have h : vs = chV x := h
    have hl : vs.length = x.cps.size := by rw [h]; unfold chV; rw [List.length_map, Array.length_toList]
    refine ⟨⟨_, _, _, by rw [hl]; exact Draws.text hh it x t, c, by simp, fun b hb => ?_, fun j h st => ⟨t, st⟩, fun j u hu => ?_⟩⟩
    · exact .inl (by simpa using hb)
    · obtain ⟨c, w, h1, rfl⟩ := hu
      refine ⟨.str ⟨#[c]⟩, ?_, ⟨w, rfl⟩⟩
      rw [h]
      unfold chV
      rw [List.getElem?_map, Array.getElem?_toList, h1]
      rfl
end
theorem na {a b : Nat} (h : a ≠ b) : @Ne Addr a b := h
def ItE (K : PySem.W.Frag) (d : Sd) : It :=
  ⟨fun i H => ∃ vs, d.At K H vs ∧ i < vs.length, fun i H v H' => ∃ T x, v = .ref T ∧ H T = none ∧ H' = upd H T (.tup [.int (i : Nat), x]) ∧ ∀ vs, d.At K H vs → vs[i]? = some x, fun i H => ∃ vs, d.At K H vs ∧ vs.length = i⟩
def ItZ (K : PySem.W.Frag) (d1 d2 : Sd) : It :=
  ⟨fun i H => ∃ vs ws, d1.At K H vs ∧ d2.At K H ws ∧ i < vs.length ∧ i < ws.length,
   fun i H v H' => ∃ T x y, v = .ref T ∧ H T = none ∧ H' = upd H T (.tup [x, y]) ∧ (∀ vs, d1.At K H vs → vs[i]? = some x) ∧ ∀ vs, d2.At K H vs → vs[i]? = some y,
   fun i H => ∃ vs ws, d1.At K H vs ∧ d2.At K H ws ∧ i ≤ vs.length ∧ i ≤ ws.length ∧ (i = vs.length ∨ i = ws.length)⟩
def ItY (K : PySem.W.Frag) (d1 d2 d3 : Sd) : It :=
  ⟨fun i H => ∃ vs ws us, d1.At K H vs ∧ d2.At K H ws ∧ d3.At K H us ∧ i < vs.length ∧ i < ws.length ∧ i < us.length,
   fun i H v H' => ∃ T x y z, v = .ref T ∧ H T = none ∧ H' = upd H T (.tup [x, y, z]) ∧ (∀ vs, d1.At K H vs → vs[i]? = some x) ∧ (∀ vs, d2.At K H vs → vs[i]? = some y) ∧ ∀ vs, d3.At K H vs → vs[i]? = some z,
   fun i H => ∃ vs ws us, d1.At K H vs ∧ d2.At K H ws ∧ d3.At K H us ∧ i ≤ vs.length ∧ i ≤ ws.length ∧ i ≤ us.length ∧ (i = vs.length ∨ i = ws.length ∨ i = us.length)⟩
section
variable {P : Program} {w : World} {K : PySem.W.Frag} {elts : List Expr} {kk : Nat} {tpos : Pos}
theorem turn_E (d : Sd) (m : Nat) (hd : ∀ b ∈ d.adr, b < m) : Turn P w K (.Tuple elts kk tpos) (ItE K d) [m + 1, m] (m + 1) (fun i h => (∃ old, IsEnum h (m + 1) m ((i : Nat) : Int) old) ∧ d.con m i h) where
  mem := by simp
  obj := fun i h st b hb => by
    obtain ⟨⟨old, he⟩, c⟩ := st
    have e' : b = m + 1 ∨ b = m := by simpa using hb
    rcases e' with z | z
    · rw [z]; exact ⟨_, he, fun v q => nomatch q⟩
    · rw [z]; exact Sd.con_obj c
  keep := fun i h h' st k => let ⟨⟨old, he⟩, hi⟩ := st; ⟨⟨old, k (m + 1) (by simp) _ he⟩, Sd.con_at hi fun o q => k m (by simp) o q⟩
  item := by
    intro X hP hw hK hc i pins s σ H E I hf st hg
    subst hP hw hK
    obtain ⟨⟨old, he⟩, c⟩ := st
    obtain ⟨vs, hq, hx⟩ := hg
    have hne : m ∉ d.adr := fun z => Nat.lt_irrefl _ (hd m z)
    obtain ⟨D⟩ := dr_of hc I hq c hne
    have hel : m + 1 < s.heap.objs.size := Heap.lt_size he
    have hil : m < s.heap.objs.size := by omega
    have hef : m + 1 ∉ D.fp := fun z => by
      rcases D.only _ z with q | q
      · omega
      · have := hd _ q; omega
    refine wpAny_pyNext_enum_itemD D.D he D.st hx (na (by omega)) hef fun u h' tk hu ho hst' hT hsz hk => ?_
    obtain ⟨v, hv, ru⟩ := D.rel i u hu
    refine ⟨_, rfl, wpAny_letOwnedTupleGo_enum (s := { s with heap := h', toks := tk + 1 }) ho fun h'' he' sb => ?_⟩
    have hT2 : h''.get? s.heap.objs.size = some { cls := .type "tuple", data := .seq #[.int i tk, u] } := (sb.2 _ (Nat.ne_of_gt hel)).trans hT
    have new : ObjOk X.prog X.w (upd H s.heap.objs.size (.tup [.int (i : Nat), v])) h'' s.heap.objs.size (.tup [.int (i : Nat), v]) :=
      ⟨by show 2 ≤ sizeLine; decide, [.int i tk, u], .cons ⟨_, rfl⟩ (.cons ru .nil), ⟨_, hT2, rfl, _, rfl⟩⟩
    have I1 : Inv X pins σ (upd H s.heap.objs.size (.tup [.int (i : Nat), v])) { s with heap := h'', toks := tk + 1 } :=
      I.turnedNew (ch := [m + 1, m]) (fun b ob hb q => (sb.2 b (fun z => hb (by simp [z]))).trans (hk b ob (fun z => hb (by simp [z])) (fun z => hb (by simp [z])) q)) hf (Nat.le_refl _) new
    refine ⟨.ref s.heap.objs.size, _, I1, rfl, ⟨_, v, rfl, I.hok.fresh (Nat.le_refl _), rfl, fun ys hy => by rw [Sd.inj I hy hq]; exact hv⟩, ⟨⟨u, ?_⟩, Sd.con_at (D.con _ _ hst') fun o q => (sb.2 m (na (by omega))).trans q⟩, fun b hb => ?_⟩
    · have e1 : ((i + 1 : Nat) : Int) = (i : Int) + 1 := by omega
      rw [e1]; exact he'
    · have hb' : b < s.heap.objs.size := by
        have e' : b = m + 1 ∨ b = m := by simpa using hb
        rcases e' with z | z <;> (have z : @Eq Nat b _ := z; show @LT.lt Nat _ b _; omega)
      rw [upd_ne (Nat.ne_of_lt hb')]
      exact (hf b hb).1
  done := by
    intro X hP hw hK hc i pins s σ H E I hf st hg
    subst hP hw hK
    obtain ⟨⟨old, he⟩, c⟩ := st
    obtain ⟨vs, hq, hx⟩ := hg
    have hne : m ∉ d.adr := fun z => Nat.lt_irrefl _ (hd m z)
    obtain ⟨D⟩ := dr_of hc I hq c hne
    have st : D.St vs.length s.heap := hx ▸ D.st
    exact wpAny_pyNext_enum_endD D.D he st fun h' eb => ⟨rfl, I.turnedL (t' := s.toks) (ch := [m + 1, m]) (fun b o hb q => eb b o (fun z => hb (by simp [z])) q) hf⟩
  self := fun A i s Q E st h => let ⟨⟨_, he⟩, _⟩ := st; wpAny_pyIter_enum he h
theorem turn_Z (d1 d2 : Sd) (m : Nat) (hd1 : ∀ b ∈ d1.adr, b < m) (hd2 : ∀ b ∈ d2.adr, b < m) : Turn P w K (.Tuple elts kk tpos) (ItZ K d1 d2) [m + 4, m + 2, m + 3, m, m + 1] (m + 4)
    (fun i h => IsZip h (m + 4) (m + 2) (m + 3) .none ∧ IsTupOf2 h (m + 2) (.ref m) (.ref (m + 1)) ∧ (∃ x y, IsTupOf2 h (m + 3) x y) ∧ d1.con m i h ∧ d2.con (m + 1) i h) where
  mem := by simp
  obj := fun i h st c hc => by
    obtain ⟨hz, hTI, ⟨x, y, hTO⟩, c1, c2⟩ := st
    have e' : c = m + 4 ∨ c = m + 2 ∨ c = m + 3 ∨ c = m ∨ c = m + 1 := by simpa using hc
    rcases e' with q | q | q | q | q
    · rw [q]; exact ⟨_, hz, fun v q => nomatch q⟩
    · rw [q]; exact ⟨_, hTI, fun v q => nomatch q⟩
    · rw [q]; exact ⟨_, hTO, fun v q => nomatch q⟩
    · rw [q]; exact Sd.con_obj c1
    · rw [q]; exact Sd.con_obj c2
  keep := fun i h h' st k => by
    obtain ⟨hz, hTI, ⟨x, y, hTO⟩, h1, h2⟩ := st
    exact ⟨k _ (by simp) _ hz, k _ (by simp) _ hTI, ⟨x, y, k _ (by simp) _ hTO⟩, Sd.con_at h1 fun o q => k _ (by simp) o q, Sd.con_at h2 fun o q => k _ (by simp) o q⟩
  item := by
    intro X hP hw hK hc i pins s σ H E I hf st hg
    subst hP hw hK
    obtain ⟨hz, hTI, ⟨x0, y0, hTO⟩, c1, c2⟩ := st
    obtain ⟨vs, ws, hq1, hq2, hx1, hx2⟩ := hg
    obtain ⟨D1⟩ := dr_of hc I hq1 c1 fun z => Nat.lt_irrefl _ (hd1 m z)
    obtain ⟨D2⟩ := dr_of hc I hq2 c2 fun z => by have := hd2 _ z; omega
    have nf1 : ∀ b, b ≠ m → m ≤ b → b ∉ D1.fp := fun b hb hm z => by
      rcases D1.only _ z with q | q
      · exact hb q
      · have := hd1 _ q; omega
    have nf2 : ∀ b, b ≠ m + 1 → m ≤ b → b ∉ D2.fp := fun b hb hm z => by
      rcases D2.only _ z with q | q
      · exact hb q
      · have := hd2 _ q; omega
    have S : ZipSep2 (m + 4) (m + 2) (m + 3) m (m + 1) D1.fp D2.fp := ⟨na (by omega), na (by omega), na (by omega), na (by omega), D1.mem, nf1 _ (by omega) (by omega), nf1 _ (by omega) (by omega), na (by omega), D2.mem, nf2 _ (by omega) (by omega), nf2 _ (by omega) (by omega), nf2 _ (by omega) (by omega), nf1 _ (by omega) (by omega)⟩
    have hzl : m + 4 < s.heap.objs.size := Heap.lt_size hz
    refine wpAny_pyNext_zipD2_item S D1.D D2.D hz hTI hTO D1.st D2.st hx1 hx2 fun u u2 h' tk hu hu2 z' TO' st1' st2' hT hsz hk => ?_
    obtain ⟨x, hx, ru⟩ := D1.rel i u hu
    obtain ⟨y, hy, ru2⟩ := D2.rel i u2 hu2
    refine ⟨_, rfl, wpAny_letOwnedTupleGo_zip (s := { s with heap := h', toks := tk }) z' fun h'' z'' sb => ?_⟩
    have hT2 : h''.get? s.heap.objs.size = some { cls := .type "tuple", data := .seq #[u, u2] } := (sb.2 _ (Nat.ne_of_gt hzl)).trans hT
    have new : ObjOk X.prog X.w (upd H s.heap.objs.size (.tup [x, y])) h'' s.heap.objs.size (.tup [x, y]) :=
      ⟨by show 2 ≤ sizeLine; decide, [u, u2], .cons ru (.cons ru2 .nil), ⟨_, hT2, rfl, _, rfl⟩⟩
    have I1 : Inv X pins σ (upd H s.heap.objs.size (.tup [x, y])) { s with heap := h'', toks := tk } :=
      I.turnedNew (ch := [m + 4, m + 2, m + 3, m, m + 1]) (fun c o hb q => (sb.2 c (fun q' => hb (by simp [q']))).trans (hk c o (fun q' => hb (by simp [q'])) (fun q' => hb (by simp [q'])) (fun q' => hb (by simp [q'])) (fun q' => hb (by simp [q'])) q)) hf (Nat.le_refl _) new
    refine ⟨.ref s.heap.objs.size, _, I1, rfl, ⟨_, x, y, rfl, I.hok.fresh (Nat.le_refl _), rfl, fun l hl => by rw [Sd.inj I hl hq1]; exact hx, fun l hl => by rw [Sd.inj I hl hq2]; exact hy⟩, ⟨z'', ?_, ⟨u, u2, ?_⟩, ?_, ?_⟩, fun c hcm => ?_⟩
    · exact (sb.2 _ (na (by omega))).trans (hk _ _ (na (by omega)) (na (by omega)) (na (by omega)) (na (by omega)) hTI)
    · exact (sb.2 _ (na (by omega))).trans TO'
    · exact Sd.con_at (D1.con _ _ st1') fun o q => (sb.2 _ (na (by omega))).trans q
    · exact Sd.con_at (D2.con _ _ st2') fun o q => (sb.2 _ (na (by omega))).trans q
    · have hlt : c < s.heap.objs.size := by
        have e' : c = m + 4 ∨ c = m + 2 ∨ c = m + 3 ∨ c = m ∨ c = m + 1 := by simpa using hcm
        rcases e' with q | q | q | q | q <;> (have q : @Eq Nat c _ := q; show @LT.lt Nat _ c _; omega)
      rw [upd_ne (Nat.ne_of_lt hlt)]
      exact (hf c hcm).1
  done := by
    intro X hP hw hK hc i pins s σ H E I hf st hg
    subst hP hw hK
    obtain ⟨hz, hTI, ⟨x0, y0, hTO⟩, c1, c2⟩ := st
    obtain ⟨vs, ws, hq1, hq2, hx1, hx2, hend⟩ := hg
    obtain ⟨D1⟩ := dr_of hc I hq1 c1 fun z => Nat.lt_irrefl _ (hd1 m z)
    obtain ⟨D2⟩ := dr_of hc I hq2 c2 fun z => by have := hd2 _ z; omega
    have nf1 : ∀ b, b ≠ m → m ≤ b → b ∉ D1.fp := fun b hb hm z => by
      rcases D1.only _ z with q | q
      · exact hb q
      · have := hd1 _ q; omega
    have nf2 : ∀ b, b ≠ m + 1 → m ≤ b → b ∉ D2.fp := fun b hb hm z => by
      rcases D2.only _ z with q | q
      · exact hb q
      · have := hd2 _ q; omega
    have S : ZipSep2 (m + 4) (m + 2) (m + 3) m (m + 1) D1.fp D2.fp := ⟨na (by omega), na (by omega), na (by omega), na (by omega), D1.mem, nf1 _ (by omega) (by omega), nf1 _ (by omega) (by omega), na (by omega), D2.mem, nf2 _ (by omega) (by omega), nf2 _ (by omega) (by omega), nf2 _ (by omega) (by omega), nf1 _ (by omega) (by omega)⟩
    exact wpAny_pyNext_zipD2_end S D1.D D2.D hz hTI hTO D1.st D2.st hx1 hx2 hend fun h' tk hk => ⟨rfl, I.turnedL (t' := tk) (ch := [m + 4, m + 2, m + 3, m, m + 1]) (fun c o hb q =>
      hk c o (fun q' => hb (by simp [q'])) (fun q' => hb (by simp [q'])) (fun q' => hb (by simp [q'])) (fun q' => hb (by simp [q'])) q) hf⟩
  self := fun A i s Q E st h => wpAny_pyIter_zip st.1 h
theorem turn_Y (d1 d2 d3 : Sd) (m : Nat) (hd1 : ∀ b ∈ d1.adr, b < m) (hd2 : ∀ b ∈ d2.adr, b < m) (hd3 : ∀ b ∈ d3.adr, b < m) : Turn P w K (.Tuple elts kk tpos) (ItY K d1 d2 d3) [m + 5, m + 3, m + 4, m, m + 1, m + 2] (m + 5)
    (fun i h => IsZip h (m + 5) (m + 3) (m + 4) .none ∧ IsTupOf3 h (m + 3) (.ref m) (.ref (m + 1)) (.ref (m + 2)) ∧ (∃ x y z, IsTupOf3 h (m + 4) x y z) ∧ d1.con m i h ∧ d2.con (m + 1) i h ∧ d3.con (m + 2) i h) where
  mem := by simp
  obj := fun i h st c hc => by
    obtain ⟨hz, hTI, ⟨x, y, z, hTO⟩, c1, c2, c3⟩ := st
    have e' : c = m + 5 ∨ c = m + 3 ∨ c = m + 4 ∨ c = m ∨ c = m + 1 ∨ c = m + 2 := by simpa using hc
    rcases e' with q | q | q | q | q | q
    · rw [q]; exact ⟨_, hz, fun v q => nomatch q⟩
    · rw [q]; exact ⟨_, hTI, fun v q => nomatch q⟩
    · rw [q]; exact ⟨_, hTO, fun v q => nomatch q⟩
    · rw [q]; exact Sd.con_obj c1
    · rw [q]; exact Sd.con_obj c2
    · rw [q]; exact Sd.con_obj c3
  keep := fun i h h' st k => by
    obtain ⟨hz, hTI, ⟨x, y, z, hTO⟩, h1, h2, h3⟩ := st
    exact ⟨k _ (by simp) _ hz, k _ (by simp) _ hTI, ⟨x, y, z, k _ (by simp) _ hTO⟩, Sd.con_at h1 fun o q => k _ (by simp) o q, Sd.con_at h2 fun o q => k _ (by simp) o q, Sd.con_at h3 fun o q => k _ (by simp) o q⟩
  item := by
    intro X hP hw hK hc i pins s σ H E I hf st hg
    subst hP hw hK
    obtain ⟨hz, hTI, ⟨x0, y0, z0, hTO⟩, c1, c2, c3⟩ := st
    obtain ⟨vs, ws, us, hq1, hq2, hq3, hx1, hx2, hx3⟩ := hg
    obtain ⟨D1⟩ := dr_of hc I hq1 c1 fun z => Nat.lt_irrefl _ (hd1 m z)
    obtain ⟨D2⟩ := dr_of hc I hq2 c2 fun z => by have := hd2 _ z; omega
    obtain ⟨D3⟩ := dr_of hc I hq3 c3 fun z => by have := hd3 _ z; omega
    have nf1 : ∀ b, b ≠ m → m ≤ b → b ∉ D1.fp := fun b hb hm z => by
      rcases D1.only _ z with q | q
      · exact hb q
      · have := hd1 _ q; omega
    have nf2 : ∀ b, b ≠ m + 1 → m ≤ b → b ∉ D2.fp := fun b hb hm z => by
      rcases D2.only _ z with q | q
      · exact hb q
      · have := hd2 _ q; omega
    have nf3 : ∀ b, b ≠ m + 2 → m ≤ b → b ∉ D3.fp := fun b hb hm z => by
      rcases D3.only _ z with q | q
      · exact hb q
      · have := hd3 _ q; omega
    have S : ZipSep3 (m + 5) (m + 3) (m + 4) m (m + 1) (m + 2) D1.fp D2.fp D3.fp := ⟨na (by omega), na (by omega), na (by omega), na (by omega), D1.mem, nf1 _ (by omega) (by omega), nf1 _ (by omega) (by omega), na (by omega), D2.mem, nf2 _ (by omega) (by omega), nf2 _ (by omega) (by omega),
      na (by omega), D3.mem, nf3 _ (by omega) (by omega), nf3 _ (by omega) (by omega), nf2 _ (by omega) (by omega), nf3 _ (by omega) (by omega), nf1 _ (by omega) (by omega), nf3 _ (by omega) (by omega), nf1 _ (by omega) (by omega), nf2 _ (by omega) (by omega)⟩
    have hzl : m + 5 < s.heap.objs.size := Heap.lt_size hz
    refine wpAny_pyNext_zipD3_item S D1.D D2.D D3.D hz hTI hTO D1.st D2.st D3.st hx1 hx2 hx3 fun u u2 u3 h' tk hu hu2 hu3 z' TO' st1' st2' st3' hT hsz hk => ?_
    obtain ⟨x, hx, ru⟩ := D1.rel i u hu
    obtain ⟨y, hy, ru2⟩ := D2.rel i u2 hu2
    obtain ⟨z, hzz, ru3⟩ := D3.rel i u3 hu3
    refine ⟨_, rfl, wpAny_letOwnedTupleGo_zip (s := { s with heap := h', toks := tk }) z' fun h'' z'' sb => ?_⟩
    have hT2 : h''.get? s.heap.objs.size = some { cls := .type "tuple", data := .seq #[u, u2, u3] } := (sb.2 _ (Nat.ne_of_gt hzl)).trans hT
    have new : ObjOk X.prog X.w (upd H s.heap.objs.size (.tup [x, y, z])) h'' s.heap.objs.size (.tup [x, y, z]) :=
      ⟨by show 3 ≤ sizeLine; decide, [u, u2, u3], .cons ru (.cons ru2 (.cons ru3 .nil)), ⟨_, hT2, rfl, _, rfl⟩⟩
    have I1 : Inv X pins σ (upd H s.heap.objs.size (.tup [x, y, z])) { s with heap := h'', toks := tk } :=
      I.turnedNew (ch := [m + 5, m + 3, m + 4, m, m + 1, m + 2]) (fun c o hb q => (sb.2 c (fun q' => hb (by simp [q']))).trans (hk c o (fun q' => hb (by simp [q'])) (fun q' => hb (by simp [q'])) (fun q' => hb (by simp [q'])) (fun q' => hb (by simp [q'])) (fun q' => hb (by simp [q'])) q)) hf (Nat.le_refl _) new
    refine ⟨.ref s.heap.objs.size, _, I1, rfl, ⟨_, x, y, z, rfl, I.hok.fresh (Nat.le_refl _), rfl, fun l hl => by rw [Sd.inj I hl hq1]; exact hx, fun l hl => by rw [Sd.inj I hl hq2]; exact hy, fun l hl => by rw [Sd.inj I hl hq3]; exact hzz⟩, ⟨z'', ?_, ⟨u, u2, u3, ?_⟩, ?_, ?_, ?_⟩, fun c hcm => ?_⟩
    · exact (sb.2 _ (na (by omega))).trans (hk _ _ (na (by omega)) (na (by omega)) (na (by omega)) (na (by omega)) (na (by omega)) hTI)
    · exact (sb.2 _ (na (by omega))).trans TO'
    · exact Sd.con_at (D1.con _ _ st1') fun o q => (sb.2 _ (na (by omega))).trans q
    · exact Sd.con_at (D2.con _ _ st2') fun o q => (sb.2 _ (na (by omega))).trans q
    · exact Sd.con_at (D3.con _ _ st3') fun o q => (sb.2 _ (na (by omega))).trans q
    · have hlt : c < s.heap.objs.size := by
        have e' : c = m + 5 ∨ c = m + 3 ∨ c = m + 4 ∨ c = m ∨ c = m + 1 ∨ c = m + 2 := by simpa using hcm
        rcases e' with q | q | q | q | q | q <;> (have q : @Eq Nat c _ := q; show @LT.lt Nat _ c _; omega)
      rw [upd_ne (Nat.ne_of_lt hlt)]
      exact (hf c hcm).1
  done := by
    intro X hP hw hK hc i pins s σ H E I hf st hg
    subst hP hw hK
    obtain ⟨hz, hTI, ⟨x0, y0, z0, hTO⟩, c1, c2, c3⟩ := st
    obtain ⟨vs, ws, us, hq1, hq2, hq3, hx1, hx2, hx3, hend⟩ := hg
    obtain ⟨D1⟩ := dr_of hc I hq1 c1 fun z => Nat.lt_irrefl _ (hd1 m z)
    obtain ⟨D2⟩ := dr_of hc I hq2 c2 fun z => by have := hd2 _ z; omega
    obtain ⟨D3⟩ := dr_of hc I hq3 c3 fun z => by have := hd3 _ z; omega
    have nf1 : ∀ b, b ≠ m → m ≤ b → b ∉ D1.fp := fun b hb hm z => by
      rcases D1.only _ z with q | q
      · exact hb q
      · have := hd1 _ q; omega
    have nf2 : ∀ b, b ≠ m + 1 → m ≤ b → b ∉ D2.fp := fun b hb hm z => by
      rcases D2.only _ z with q | q
      · exact hb q
      · have := hd2 _ q; omega
    have nf3 : ∀ b, b ≠ m + 2 → m ≤ b → b ∉ D3.fp := fun b hb hm z => by
      rcases D3.only _ z with q | q
      · exact hb q
      · have := hd3 _ q; omega
    have S : ZipSep3 (m + 5) (m + 3) (m + 4) m (m + 1) (m + 2) D1.fp D2.fp D3.fp := ⟨na (by omega), na (by omega), na (by omega), na (by omega), D1.mem, nf1 _ (by omega) (by omega), nf1 _ (by omega) (by omega), na (by omega), D2.mem, nf2 _ (by omega) (by omega), nf2 _ (by omega) (by omega),
      na (by omega), D3.mem, nf3 _ (by omega) (by omega), nf3 _ (by omega) (by omega), nf2 _ (by omega) (by omega), nf3 _ (by omega) (by omega), nf1 _ (by omega) (by omega), nf3 _ (by omega) (by omega), nf1 _ (by omega) (by omega), nf2 _ (by omega) (by omega)⟩
    exact wpAny_pyNext_zipD3_end S D1.D D2.D D3.D hz hTI hTO D1.st D2.st D3.st hx1 hx2 hx3 hend fun h' tk hk => ⟨rfl, I.turnedL (t' := tk) (ch := [m + 5, m + 3, m + 4, m, m + 1, m + 2]) (fun c o hb q =>
      hk c o (fun q' => hb (by simp [q'])) (fun q' => hb (by simp [q'])) (fun q' => hb (by simp [q'])) (fun q' => hb (by simp [q'])) (fun q' => hb (by simp [q'])) q) hf⟩
  self := fun A i s Q E st h => wpAny_pyIter_zip st.1 h
end
theorem Sd.lt {X : Cx} {pins : List (Addr × Obj)} {σ : L2.St} {H : Hp} {s : Shared} {d : Sd} {vs : List V} (I : Inv X pins σ H s) (h : d.At X.K H vs) : ∀ b ∈ d.adr, b < s.heap.objs.size := by
  intro b hb
  cases d with
  | l a =>
    rw [List.mem_singleton.mp hb]
    obtain ⟨its, rv, p, _⟩ := I.list h
    exact p.lt
  | t a =>
    rw [List.mem_singleton.mp hb]
    obtain ⟨its, rv, ⟨o, ho, _⟩, _⟩ := I.tuple h
    exact Heap.lt_size ho
  | s x => exact absurd hb List.not_mem_nil
/-- how iter(it) begins -/
structure Bg (h : Heap) (d : Sd) (u : Value) where
  o : Obj
  Hc : Heap → Prop
  B : Begins u o Hc
  ok : Hc h
  con : ∀ h' it, h'.get? it = some o → d.con it 0 h'
theorem bg_of {X : Cx} {pins : List (Addr × Obj)} {σ : L2.St} {H : Hp} {s : Shared} {d : Sd} {vs : List V} {u : Value} (I : Inv X pins σ H s) (h : d.At X.K H vs) (r : RelV d.val u) : Nonempty (Bg s.heap d u) := by
  cases d with
  | l a =>
    cases (show u = Value.ref a from r)
    obtain ⟨its, rv, p, _⟩ := I.list h
    exact ⟨⟨_, _, begins_list a its.toArray, p.isList, fun h' it e => ⟨_, e, rfl, rfl⟩⟩⟩
  | t a =>
    cases (show u = Value.ref a from r)
    obtain ⟨its, rv, p, _⟩ := I.tuple h
    exact ⟨⟨_, _, begins_tuple a its.toArray, p, fun h' it e => ⟨_, e, rfl, rfl⟩⟩⟩
  | s x =>
    obtain ⟨t, rfl⟩ := r
    exact ⟨⟨_, _, begins_text x t, trivial, fun h' it e => ⟨t, _, e, rfl, rfl⟩⟩⟩
set_option maxHeartbeats 4000000 in
theorem meets_enum_newB {v : Value} {o : Obj} {Hc : Heap → Prop} (B : Begins v o Hc) :
    Meets (Builtin.«enumerate.__new__» ⟨[.type "enumerate", v], []⟩) (fun _ R s => Hc s.heap ∧
      R (.ok (.ret (.ref (s.heap.push o).objs.size))) { s with heap := (s.heap.push o).push { cls := .type "enumerate", data := .fields #[.none, .bool false, .ref s.heap.objs.size, rawInt 0, .none, .none] } }) :=
  .of_wp fun prog w A R s h => by
    obtain ⟨hp, g, d, tk, os⟩ := s
    obtain ⟨h1, h⟩ := h
    have hsub := sub_enumerate
    have q1 : ∀ {A' : Around} {E : Value → Shared → Prop} {Q : Value → Shared → Prop}, Q (.ref hp.objs.size) ⟨(hp.push o), g, d, tk, os⟩ → wpAny (model prog w) A' (pyIter v) Q E ⟨hp, g, d, tk, os⟩ :=
      fun q => B.iter prog w _ _ ⟨hp, g, d, tk, os⟩ _ h1 q
    wp_walk
    refine wpAny_stack_any fun st => wpAny_pure ?_
    split
    · rename_i c _ _ _ _ _
      cases (c == Value.type "enumerate")
      · wp_walk using q1
        exact ⟨_, rfl, h⟩
      · wp_walk using q1
        exact ⟨_, rfl, h⟩
    · wp_walk using q1
      exact ⟨_, rfl, h⟩
theorem enum_begins {prog : Program} {w : World} {A : Around} {E : Value → Shared → Prop} {s : Shared} {v : Value} {o : Obj} {Hc : Heap → Prop} {Q : Value → Shared → Prop} (B : Begins v o Hc) (h1 : Hc s.heap)
    (h : ∀ h', IsEnum h' (s.heap.objs.size + 1) s.heap.objs.size 0 .none → h'.get? s.heap.objs.size = some o → h'.objs.size = s.heap.objs.size + 2 →
      (∀ b o, s.heap.get? b = some o → h'.get? b = some o) → Q (.ref (s.heap.objs.size + 1)) { s with heap := h' }) :
    wpAny (model prog w) A (call (.type "enumerate") [v]) Q E s := by
  refine callType_new F.called_enumerate (by decide) (F.typeCall_enumerate_1 _) (F.newCall_enumerate_1 _) (fun obj => F.args_object_init_2 obj _) F.entry_enumerate_new
    (meets_enum_newB B) ⟨h1, ?_⟩
  have hz : (s.heap.push o).objs.size = s.heap.objs.size + 1 := Heap.size_push ..
  show _ ∧ _
  rw [hz]
  have he : IsEnum ((s.heap.push o).push
      { cls := .type "enumerate", data := .fields #[.none, .bool false, .ref s.heap.objs.size, rawInt 0, .none, .none] }) (s.heap.objs.size + 1) s.heap.objs.size 0 .none := by
    have := Heap.get?_push_size (s.heap.push o)
      (o := { cls := .type "enumerate", data := .fields #[.none, .bool false, .ref s.heap.objs.size, rawInt 0, .none, .none] }) rfl
    rw [hz] at this; exact this
  refine ⟨⟨_, he, rfl⟩, h _ he (Heap.get?_push_of_some _ (Heap.get?_push_size _ B.free)) (by rw [Heap.size_push, hz]) fun b o y => Heap.get?_push_of_some _ (Heap.get?_push_of_some _ y)⟩
section
variable {X : Cx} {e e2 e3 : Expr} {ta : TA} {p pos tpos : Pos} {elts : List Expr} {kk : Nat}
def iEG (K : PySem.W.Frag) (ta : TA) : TI := fun σ H R => ta σ H fun vs H1 => ∃ d ws, vs = [d.val] ∧ d.At K H1 ws ∧ R (ItE K d) H1
def iZG (K : PySem.W.Frag) (ta : TA) : TI := fun σ H R => ta σ H fun vs H1 => ∃ d1 d2 ws1 ws2, vs = [d1.val, d2.val] ∧ d1.At K H1 ws1 ∧ d2.At K H1 ws2 ∧ R (ItZ K d1 d2) H1
def iYG (K : PySem.W.Frag) (ta : TA) : TI := fun σ H R => ta σ H fun vs H1 => ∃ d1 d2 d3 ws1 ws2 ws3, vs = [d1.val, d2.val, d3.val] ∧ d1.At K H1 ws1 ∧ d2.At K H1 ws2 ∧ d3.At K H1 ws3 ∧ R (ItY K d1 d2 d3) H1
theorem pi_EG (hg : Gl X "enumerate") (hm : X.mg "enumerate" = none) (ha : PA X [e] ta) (hs : starEach [e] X.env = [(false, eval e X.env)]) :
    PI X (.Tuple elts kk tpos) (.Call (.Name "enumerate" p) [e] [] pos) (iEG X.K ta) := by
  refine ⟨fun pins s σ H R I h => ?_⟩
  refine Call_ (ld_blt I hg hm boot_enumerate (PyProof.Rows.callWith_type1 (thn (ha.run pos pins s σ H _ I h) fun us s1 ⟨vs, H1, I1, r1, q1⟩ => ?_) hs rfl))
  obtain ⟨d, ws, ex, hq, q⟩ := q1
  subst ex
  obtain ⟨u, rfl, r⟩ := vals1 r1
  obtain ⟨B⟩ := bg_of I1 hq r
  refine enum_begins B.B B.ok fun h' he hit hsz hk => wpAny_pyIter_enum he ?_
  have I2 : Inv X pins σ H1 { s1 with heap := h' } := I1.kept (t' := s1.toks) hk
  refine ⟨s1.heap.objs.size + 1, [s1.heap.objs.size + 1, s1.heap.objs.size], _, _, H1, rfl, I2, turn_E d s1.heap.objs.size (Sd.lt I1 hq), ⟨⟨.none, he⟩, B.con _ _ hit⟩, fun b hb => ?_, q⟩
  have e' : b = s1.heap.objs.size + 1 ∨ b = s1.heap.objs.size := by simpa using hb
  have hle : s1.heap.objs.size ≤ b := by
    rcases e' with z | z
    · rw [z]; exact Nat.le_add_right _ _
    · rw [z]; exact Nat.le_refl _
  exact I1.fpOk hle (I1.hok.fresh hle)
theorem pi_ZG (hg : Gl X "zip") (hm : X.mg "zip" = none) (ha : PA X [e, e2] ta) (hs : starEach [e, e2] X.env = (false, eval e X.env) :: starEach [e2] X.env) (hpl : (backTo pos (starEach [e2] X.env)).any (·.1) = false) :
    PI X (.Tuple elts kk tpos) (.Call (.Name "zip" p) [e, e2] [] pos) (iZG X.K ta) := by
  refine ⟨fun pins s σ H R I h => ?_⟩
  refine Call_ (ld_blt I hg hm PyProof.Rows.boot_zip (PyProof.Rows.callWith_type1 (thn (ha.run pos pins s σ H _ I h) fun us s1 ⟨vs, H1, I1, r1, q1⟩ => ?_) hs hpl))
  obtain ⟨d1, d2, ws1, ws2, ex, hq1, hq2, q⟩ := q1
  subst ex
  obtain ⟨u1, u2, rfl, r, r'⟩ := vals2 r1
  obtain ⟨B1⟩ := bg_of I1 hq1 r
  obtain ⟨B2⟩ := bg_of I1 hq2 r'
  refine zip_begins2 B1.B B2.B B1.ok B2.ok fun h' hz hTI hTO h1 h2 hsz hk => wpAny_pyIter_zip hz ?_
  have I2 : Inv X pins σ H1 { s1 with heap := h' } := I1.kept (t' := s1.toks) hk
  refine ⟨s1.heap.objs.size + 4, [s1.heap.objs.size + 4, s1.heap.objs.size + 2, s1.heap.objs.size + 3, s1.heap.objs.size, s1.heap.objs.size + 1], _, _, H1, rfl, I2, turn_Z d1 d2 s1.heap.objs.size (Sd.lt I1 hq1) (Sd.lt I1 hq2), ⟨hz, hTI, ⟨_, _, hTO⟩, B1.con _ _ h1, B2.con _ _ h2⟩, fun c hcm => ?_, q⟩
  have e' : c = s1.heap.objs.size + 4 ∨ c = s1.heap.objs.size + 2 ∨ c = s1.heap.objs.size + 3 ∨ c = s1.heap.objs.size ∨ c = s1.heap.objs.size + 1 := by simpa using hcm
  have hle : s1.heap.objs.size ≤ c := by
    rcases e' with z | z | z | z | z <;> rw [z] <;> first | exact Nat.le_refl _ | exact Nat.le_add_right _ _
  exact I1.fpOk hle (I1.hok.fresh hle)
theorem pi_YG (hg : Gl X "zip") (hm : X.mg "zip" = none) (ha : PA X [e, e2, e3] ta) (hs : starEach [e, e2, e3] X.env = (false, eval e X.env) :: starEach [e2, e3] X.env) (hpl : (backTo pos (starEach [e2, e3] X.env)).any (·.1) = false) :
    PI X (.Tuple elts kk tpos) (.Call (.Name "zip" p) [e, e2, e3] [] pos) (iYG X.K ta) := by
  refine ⟨fun pins s σ H R I h => ?_⟩
  refine Call_ (ld_blt I hg hm PyProof.Rows.boot_zip (PyProof.Rows.callWith_type1 (thn (ha.run pos pins s σ H _ I h) fun us s1 ⟨vs, H1, I1, r1, q1⟩ => ?_) hs hpl))
  obtain ⟨d1, d2, d3, ws1, ws2, ws3, ex, hq1, hq2, hq3, q⟩ := q1
  subst ex
  obtain ⟨u1, us', rfl, r, rr⟩ : ∃ u us', us = u :: us' ∧ RelV d1.val u ∧ Vals [d2.val, d3.val] us' := by
    cases r1 with
    | cons r rr => exact ⟨_, _, rfl, r, rr⟩
  obtain ⟨u2, u3, rfl, r', r''⟩ := vals2 rr
  obtain ⟨B1⟩ := bg_of I1 hq1 r
  obtain ⟨B2⟩ := bg_of I1 hq2 r'
  obtain ⟨B3⟩ := bg_of I1 hq3 r''
  refine zip_begins3 B1.B B2.B B3.B B1.ok B2.ok B3.ok fun h' hz hTI hTO h1 h2 h3 hsz hk => wpAny_pyIter_zip hz ?_
  have I2 : Inv X pins σ H1 { s1 with heap := h' } := I1.kept (t' := s1.toks) hk
  refine ⟨s1.heap.objs.size + 5, [s1.heap.objs.size + 5, s1.heap.objs.size + 3, s1.heap.objs.size + 4, s1.heap.objs.size, s1.heap.objs.size + 1, s1.heap.objs.size + 2], _, _, H1, rfl, I2, turn_Y d1 d2 d3 s1.heap.objs.size (Sd.lt I1 hq1) (Sd.lt I1 hq2) (Sd.lt I1 hq3), ⟨hz, hTI, ⟨_, _, _, hTO⟩, B1.con _ _ h1, B2.con _ _ h2, B3.con _ _ h3⟩, fun c hcm => ?_, q⟩
  have e' : c = s1.heap.objs.size + 5 ∨ c = s1.heap.objs.size + 3 ∨ c = s1.heap.objs.size + 4 ∨ c = s1.heap.objs.size ∨ c = s1.heap.objs.size + 1 ∨ c = s1.heap.objs.size + 2 := by simpa using hcm
  have hle : s1.heap.objs.size ≤ c := by
    rcases e' with z | z | z | z | z | z <;> rw [z] <;> first | exact Nat.le_refl _ | exact Nat.le_add_right _ _
  exact I1.fpOk hle (I1.hok.fresh hle)
end
end
section
open PySem PySem.Spec PyProof.Rows L2
structure Src where
  items : List PV
  keep : Sto → Prop
abbrev WI := Env → Sto → (Src → Sto → Prop) → Prop
def WalkR (K : PySem.W.Frag) (c : Src) (J : It) (Ha : Hp) (La : Sto) : Prop := ∀ i H L, Fm Ha La H L → RepH K H L → c.keep L →
  (i < c.items.length → J.go i H ∧ ∀ v H', J.yld i H v H' → ∃ x, c.items[i]? = some x ∧ RepV K H' x v ∧ Fm H L H' L ∧ RepH K H' L) ∧ (i = c.items.length → J.stop i H)
def liftI (K : PySem.W.Frag) (w : WI) : TI := fun σ H R => ∃ env L R', RepS K H σ env ∧ RepH K H L ∧ w env L R' ∧ ∀ c L' H' J, R' c L' → Fm H L H' L' → RepH K H' L' → WalkR K c J H' L' → R J H'
theorem pi_weak {X : Cx} {tg iter : Expr} {wi wi' : TI} (h : PI X tg iter wi) (w : ∀ σ H R, wi' σ H R → wi σ H R) : PI X tg iter wi' := ⟨fun pins s σ H R I q => h.run pins s σ H R I (w σ H R q)⟩
def rgL (lo : Int) (n : Nat) : List PV := (List.range n).map fun k => PV.int (lo + (k : Nat))
def rgLc (lo c : Int) (n : Nat) : List PV := (List.range n).map fun k => PV.int (lo + (k : Nat) * c)
def RgB (j : Int) : Prop := -(2 ^ 62) ≤ j ∧ j < 2 ^ 62
def iR1 (b : WE) : WI := fun env L R => b env L fun y La => match y with
  | .int j => RgB j ∧ R ⟨rgL 0 j.toNat, fun _ => True⟩ La
  | _ => False
def iR2 (a b : WE) : WI := fun env L R => a env L fun x La => b env La fun y Lb => match x, y with
  | .int i, .int j => RgB i ∧ RgB j ∧ R ⟨rgL i (j - i).toNat, fun _ => True⟩ Lb
  | _, _ => False
def iR3 (a b c : WE) : WI := fun env L R => a env L fun x La => b env La fun y Lb => c env Lb fun z Lc => match x, y, z with
  | .int i, .int j, .int c => ∃ n, RgC i j c n ∧ R ⟨rgLc i c n, fun _ => True⟩ Lc
  | _, _, _ => False
/-- a range walked from its end -/
def iRr (b : WE) : WI := fun env L R => b env L fun y La => match y with
  | .int j => RgB j ∧ R ⟨rgLc (0 + (((j - 0).toNat : Nat) : Int) - 1) (-1) (j - 0).toNat, fun _ => True⟩ La
  | _ => False
def enL (xs : List PV) : List PV := (List.range xs.length).map fun k => PV.tup [.int (k : Nat), xs.getD k .non]
def zipL (xs ys : List PV) : List PV := List.zipWith (fun x y => PV.tup [x, y]) xs ys
/-- a thing that enumerate and zip walk: a list, a tuple, a text -/
def srcK (x : PV) (L : Sto) (R : List PV → (Sto → Prop) → Prop) : Prop := match x with
  | .ref a => match L a with
    | some (.l xs) => R xs fun Lx => Lx a = some (.l xs)
    | _ => False
  | .tup xs => R xs fun _ => True
  | .str z => R (z.cps.toList.map fun c => .str ⟨#[c]⟩) fun _ => True
  | _ => False
def zip3L (xs ys zs : List PV) : List PV := List.zipWith (fun (f : PV → PV) z => f z) (List.zipWith (fun x y => fun z => PV.tup [x, y, z]) xs ys) zs
def iEn (e : WE) : WI := fun env L R => e env L fun x La => srcK x La fun xs kp => R ⟨enL xs, kp⟩ La
def iZp (a b : WE) : WI := fun env L R => a env L fun x La => b env La fun y Lb => srcK x Lb fun xs kx => srcK y Lb fun ys ky => R ⟨zipL xs ys, fun Lx => kx Lx ∧ ky Lx⟩ Lb
def iZ3 (a b c : WE) : WI := fun env L R => a env L fun x La => b env La fun y Lb => c env Lb fun z Lc => srcK x Lc fun xs kx => srcK y Lc fun ys ky => srcK z Lc fun zs kz => R ⟨zip3L xs ys zs, fun Lx => kx Lx ∧ ky Lx ∧ kz Lx⟩ Lc
def iRv (e : WE) : WI := fun env L R => e env L fun x La => match x with
  | .ref a => match La a with
    | some (.l xs) => R ⟨xs.reverse, fun Lx => Lx a = some (.l xs)⟩ La
    | _ => False
  | _ => False
section
variable {X : Cx} {K : PySem.W.Frag} {Ha : Hp} {La : Sto}
theorem wk_range {lo : Int} {n : Nat} : WalkR K ⟨rgL lo n, fun _ => True⟩ (Itr lo n) Ha La := by
  intro i H L f r k
  have hl : (rgL lo n).length = n := by unfold rgL; rw [List.length_map, List.length_range]
  refine ⟨fun hi => ⟨by show i < n; rw [← hl]; exact hi, fun v H' y => ?_⟩, fun hi => by show n ≤ i; rw [hi]; show n ≤ (rgL lo n).length; rw [hl]; exact Nat.le_refl _⟩
  obtain ⟨rfl, rfl⟩ := y
  have hi' : i < n := by rw [← hl]; exact hi
  refine ⟨.int (lo + i), ?_, rfl, .refl, r⟩
  show (rgL lo n)[i]? = _
  unfold rgL
  rw [List.getElem?_map, List.getElem?_range hi']
  rfl
theorem wk_rangeC {lo c : Int} {n : Nat} : WalkR K ⟨rgLc lo c n, fun _ => True⟩ (Itc lo c n) Ha La := by
  intro i H L f r k
  have hl : (rgLc lo c n).length = n := by unfold rgLc; rw [List.length_map, List.length_range]
  refine ⟨fun hi => ⟨by show i < n; rw [← hl]; exact hi, fun v H' y => ?_⟩, fun hi => by show n ≤ i; rw [hi]; show n ≤ (rgLc lo c n).length; rw [hl]; exact Nat.le_refl _⟩
  obtain ⟨rfl, rfl⟩ := y
  have hi' : i < n := by rw [← hl]; exact hi
  refine ⟨.int (lo + (i : Nat) * c), ?_, rfl, .refl, r⟩
  show (rgLc lo c n)[i]? = _
  unfold rgLc
  rw [List.getElem?_map, List.getElem?_range hi']
  rfl
theorem wk_tup {a : Addr} {xs : List PV} {vs : List V} (ra : RepH K Ha La) (t : TupAt K Ha a vs) (rv : RepVs K Ha xs vs) : WalkR K ⟨xs, fun _ => True⟩ (Itt K a) Ha La := by
  intro i H L f r k
  have t' := t.ex (f.ex ra)
  have rv' := rv.ex (f.ex ra)
  refine ⟨fun hi => ?_, fun hi => ⟨vs, t'.sq, by rw [hi]; show vs.length ≤ xs.length; rw [rv.length]; exact Nat.le_refl _⟩⟩
  have hx : xs[i]? = some xs[i] := List.getElem?_eq_getElem hi
  obtain ⟨v, h1, h2⟩ := rv'.get hx
  refine ⟨⟨vs, v, t'.sq, h1⟩, fun u H' y => ?_⟩
  obtain ⟨rfl, y⟩ := y
  have e := y vs t'.sq
  rw [h1] at e
  cases e
  exact ⟨_, hx, h2, .refl, r⟩
theorem wk_list {a : Addr} {xs : List PV} : WalkR K ⟨xs, fun Lx => Lx a = some (.l xs)⟩ (Itl K a) Ha La := by
  intro i H L f r k
  obtain ⟨vs, h1, rv⟩ := r.lst k
  refine ⟨fun hi => ?_, fun hi => ⟨vs, .of h1, by rw [hi]; show vs.length ≤ xs.length; rw [rv.length]; exact Nat.le_refl _⟩⟩
  have hx : xs[i]? = some xs[i] := List.getElem?_eq_getElem hi
  obtain ⟨v, h2, h3⟩ := rv.get hx
  refine ⟨⟨vs, v, .of h1, h2⟩, fun u H' y => ?_⟩
  obtain ⟨rfl, y⟩ := y
  have e := y vs (.of h1)
  rw [h2] at e
  cases e
  exact ⟨_, hx, h3, .refl, r⟩
theorem wk_rev {a : Addr} {xs : List PV} {n : Nat} (hn : n = xs.length) : WalkR K ⟨xs.reverse, fun Lx => Lx a = some (.l xs)⟩ (Itv K a n) Ha La := by
  subst hn
  intro i H L f r k
  obtain ⟨vs, h1, rv⟩ := r.lst k
  refine ⟨fun hi => ?_, fun hi => by show xs.length ≤ i; rw [hi]; show xs.length ≤ xs.reverse.length; rw [List.length_reverse]; exact Nat.le_refl _⟩
  have hi' : i < xs.length := by
    have : i < xs.reverse.length := hi
    rw [List.length_reverse] at this
    exact this
  have hj : xs.length - 1 - i < xs.length := by omega
  have hx : xs[xs.length - 1 - i]? = some xs[xs.length - 1 - i] := List.getElem?_eq_getElem hj
  obtain ⟨v, h2, h3⟩ := rv.get hx
  refine ⟨⟨hi', vs, v, .of h1, h2⟩, fun u H' y => ?_⟩
  obtain ⟨rfl, y⟩ := y
  have e := y vs (.of h1)
  rw [h2] at e
  cases e
  refine ⟨_, ?_, h3, .refl, r⟩
  show xs.reverse[i]? = _
  rw [List.getElem?_reverse hi', hx]
theorem wk_str {z : Str} : WalkR K ⟨z.cps.toList.map fun c => .str ⟨#[c]⟩, fun _ => True⟩ (Its z) Ha La := by
  intro i H L f r k
  refine ⟨fun hi => ?_, fun hi => by show z.cps.size ≤ i; rw [hi]; show z.cps.size ≤ (z.cps.toList.map _).length; rw [List.length_map, Array.length_toList]; exact Nat.le_refl _⟩
  have hi' : i < z.cps.size := by
    have : i < (z.cps.toList.map fun c => PV.str ⟨#[c]⟩).length := hi
    rw [List.length_map, Array.length_toList] at this
    exact this
  refine ⟨hi', fun v H' y => ?_⟩
  obtain ⟨rfl, c, e, rfl⟩ := y
  refine ⟨.str ⟨#[c]⟩, ?_, rfl, .refl, r⟩
  show (z.cps.toList.map _)[i]? = _
  rw [List.getElem?_map, Array.getElem?_toList, e]
  rfl
theorem pair_ok {H : Hp} {L : Sto} (r : RepH K H L) {T : Addr} {x y : PV} {v w : V} (hT : H T = none) (rx : RepV K H x v) (ry : RepV K H y w) :
    RepV K (upd H T (.tup [v, w])) (.tup [x, y]) (.ref T) ∧ Fm H L (upd H T (.tup [v, w])) L ∧ RepH K (upd H T (.tup [v, w])) L :=
  ⟨repv_tup ⟨v, [w], rfl, rx, w, [], rfl, ry, rfl⟩ hT, fm_tup r hT, reph_tup r hT⟩
/-- what is walked, as the machine holds it -/
def SrcOk (K : PySem.W.Frag) (Ha : Hp) (La : Sto) (d : Sd) (xs : List PV) (kp : Sto → Prop) : Prop := kp La ∧ ∀ H L, Fm Ha La H L → RepH K H L → kp L → ∃ vs, d.At K H vs ∧ RepVs K H xs vs
theorem src_ok {x : PV} {v : V} {R : List PV → (Sto → Prop) → Prop} (rx : RepV K Ha x v) (rh : RepH K Ha La) (h : srcK x La R) : ∃ xs kp d, R xs kp ∧ v = d.val ∧ SrcOk K Ha La d xs kp := by
  unfold srcK at h
  split at h
  · cases (show _ = _ from rx)
    rename_i a
    split at h
    · rename_i xs e
      refine ⟨xs, _, .l a, h, rfl, e, fun H L f r k => ?_⟩
      obtain ⟨vs, h1, rv⟩ := r.lst k
      exact ⟨vs, .of h1, rv⟩
    · exact h.elim
  · obtain ⟨p, vs, rfl, t, r⟩ := rx
    exact ⟨_, _, .t p, h, rfl, trivial, fun H L f _ _ => ⟨vs, (t.ex (f.ex rh)).sq, r.ex (f.ex rh)⟩⟩
  · cases (show _ = _ from rx)
    rename_i z
    refine ⟨_, _, .s z, h, rfl, trivial, fun H L f _ _ => ⟨chV z, rfl, ?_⟩⟩
    unfold chV
    generalize z.cps.toList = cs
    induction cs with
    | nil => rfl
    | cons c cs ih => exact ⟨_, _, rfl, rfl, ih⟩
  · exact h.elim
theorem SrcOk.fm {H1 : Hp} {L1 : Sto} {d : Sd} {xs : List PV} {kp : Sto → Prop} (h : SrcOk K Ha La d xs kp) (f : Fm Ha La H1 L1) (k : kp L1) : SrcOk K H1 L1 d xs kp := ⟨k, fun H L f' r k' => h.2 H L (f.trans f') r k'⟩
theorem wk_E {d : Sd} {xs : List PV} {kp : Sto → Prop} (h : SrcOk K Ha La d xs kp) : WalkR K ⟨enL xs, kp⟩ (ItE K d) Ha La := by
  intro i H L f r k
  obtain ⟨vs, h1, rv⟩ := h.2 H L f r k
  have hl : (enL xs).length = xs.length := by unfold enL; rw [List.length_map, List.length_range]
  refine ⟨fun hi => ?_, fun hi => ⟨vs, h1, by rw [hi]; show vs.length = (enL xs).length; rw [hl, rv.length]⟩⟩
  have hi' : i < xs.length := by rw [← hl]; exact hi
  have hx : xs[i]? = some xs[i] := List.getElem?_eq_getElem hi'
  obtain ⟨v, h2, h3⟩ := rv.get hx
  refine ⟨⟨vs, h1, by rw [← rv.length]; exact hi'⟩, fun u H' y => ?_⟩
  obtain ⟨T, w, rfl, hT, rfl, y⟩ := y
  have e := y vs h1
  rw [h2] at e
  cases e
  obtain ⟨q1, q2, q3⟩ := pair_ok r (x := .int (i : Nat)) (v := .int (i : Nat)) hT rfl h3
  refine ⟨_, ?_, q1, q2, q3⟩
  show (enL xs)[i]? = _
  unfold enL
  rw [List.getElem?_map, List.getElem?_range hi']
  simp [List.getD, hx]
theorem wk_Z {d1 d2 : Sd} {xs ys : List PV} {kx ky : Sto → Prop} (hx : SrcOk K Ha La d1 xs kx) (hy : SrcOk K Ha La d2 ys ky) : WalkR K ⟨zipL xs ys, fun L => kx L ∧ ky L⟩ (ItZ K d1 d2) Ha La := by
  intro i H L f r k
  obtain ⟨vs, h1, rv⟩ := hx.2 H L f r k.1
  obtain ⟨ws, g1, rw'⟩ := hy.2 H L f r k.2
  have hl : (zipL xs ys).length = min xs.length ys.length := by unfold zipL; rw [List.length_zipWith]
  have l1 := rv.length
  have l2 := rw'.length
  refine ⟨fun hi => ?_, fun hi => ⟨vs, ws, h1, g1, ?_⟩⟩
  · have hi' : i < min xs.length ys.length := by rw [← hl]; exact hi
    have hx : xs[i]? = some xs[i] := List.getElem?_eq_getElem (by omega)
    have hy : ys[i]? = some ys[i] := List.getElem?_eq_getElem (by omega)
    obtain ⟨v, h2, h3⟩ := rv.get hx
    obtain ⟨w, g2, g3⟩ := rw'.get hy
    refine ⟨⟨vs, ws, h1, g1, by omega, by omega⟩, fun u H' y => ?_⟩
    obtain ⟨T, v', w', rfl, hT, rfl, y1, y2⟩ := y
    have e := y1 vs h1
    rw [h2] at e
    cases e
    have e := y2 ws g1
    rw [g2] at e
    cases e
    obtain ⟨q1, q2, q3⟩ := pair_ok r hT h3 g3
    refine ⟨_, ?_, q1, q2, q3⟩
    show (zipL xs ys)[i]? = _
    unfold zipL
    rw [List.getElem?_zipWith, hx, hy]
  · have e : i = min xs.length ys.length := by rw [hi]; exact hl
    omega
theorem zip3_len {xs ys zs : List PV} : (zip3L xs ys zs).length = min (min xs.length ys.length) zs.length := by unfold zip3L; rw [List.length_zipWith, List.length_zipWith]
theorem wk_Y {d1 d2 d3 : Sd} {xs ys zs : List PV} {kx ky kz : Sto → Prop} (hx : SrcOk K Ha La d1 xs kx) (hy : SrcOk K Ha La d2 ys ky) (hz : SrcOk K Ha La d3 zs kz) : WalkR K ⟨zip3L xs ys zs, fun L => kx L ∧ ky L ∧ kz L⟩ (ItY K d1 d2 d3) Ha La := by
  intro i H L f r k
  obtain ⟨vs, h1, rv⟩ := hx.2 H L f r k.1
  obtain ⟨ws, g1, rw'⟩ := hy.2 H L f r k.2.1
  obtain ⟨us, k1, ru'⟩ := hz.2 H L f r k.2.2
  have hl := zip3_len (xs := xs) (ys := ys) (zs := zs)
  have l1 := rv.length
  have l2 := rw'.length
  have l3 := ru'.length
  refine ⟨fun hi => ?_, fun hi => ⟨vs, ws, us, h1, g1, k1, ?_⟩⟩
  · have hi' : i < min (min xs.length ys.length) zs.length := by rw [← hl]; exact hi
    have hx : xs[i]? = some xs[i] := List.getElem?_eq_getElem (by omega)
    have hy : ys[i]? = some ys[i] := List.getElem?_eq_getElem (by omega)
    have hz : zs[i]? = some zs[i] := List.getElem?_eq_getElem (by omega)
    obtain ⟨v, h2, h3⟩ := rv.get hx
    obtain ⟨w, g2, g3⟩ := rw'.get hy
    obtain ⟨u, k2, k3⟩ := ru'.get hz
    refine ⟨⟨vs, ws, us, h1, g1, k1, by omega, by omega, by omega⟩, fun u H' y => ?_⟩
    obtain ⟨T, v', w', u', rfl, hT, rfl, y1, y2, y3⟩ := y
    have e := y1 vs h1
    rw [h2] at e
    cases e
    have e := y2 ws g1
    rw [g2] at e
    cases e
    have e := y3 us k1
    rw [k2] at e
    cases e
    refine ⟨.tup [xs[i], ys[i], zs[i]], ?_, repv_tup ⟨_, _, rfl, h3, _, _, rfl, g3, _, [], rfl, k3, rfl⟩ hT, fm_tup r hT, reph_tup r hT⟩
    show (zip3L xs ys zs)[i]? = _
    unfold zip3L
    rw [List.getElem?_zipWith, List.getElem?_zipWith, hx, hy, hz]
  · have e : i = min (min xs.length ys.length) zs.length := by rw [hi]; exact hl
    omega
end
section
variable {X : Cx} {pos p : Pos} {a b c tg : Expr} {wa wb wc : WE}
theorem lift_a1 {σ : L2.St} {H : Hp} {T : List V → Hp → Prop} {env : Env} {L : Sto} {R : PK} (hs : RepS X.K H σ env) (hL : RepH X.K H L) (hw : wa env L R)
    (k : ∀ x La v H1, R x La → Fm H L H1 La → RepV X.K H1 x v → RepH X.K H1 La → T [v] H1) : liftA X.K [wa] σ H T := by
  refine ⟨env, L, fun xs La => match xs with | [x] => R x La | _ => False, hs, hL, hw, fun xs La vs H1 hb hn f1 rx r1 => ?_⟩
  match xs, hb with
  | [x], hb =>
    obtain ⟨v, rfl, rv⟩ := rx.one
    exact k x La v H1 hb f1 rv r1
theorem lift_a2 {σ : L2.St} {H : Hp} {T : List V → Hp → Prop} {env : Env} {L : Sto} {R : PV → PV → Sto → Prop} (hs : RepS X.K H σ env) (hL : RepH X.K H L) (hw : wa env L fun x La => wb env La fun y Lb => R x y Lb)
    (k : ∀ x y La v w H1, R x y La → Fm H L H1 La → RepV X.K H1 x v → RepV X.K H1 y w → RepH X.K H1 La → T [v, w] H1) : liftA X.K [wa, wb] σ H T := by
  refine ⟨env, L, fun xs La => match xs with | [x, y] => R x y La | _ => False, hs, hL, hw, fun xs La vs H1 hb hn f1 rx r1 => ?_⟩
  match xs, hb with
  | [x, y], hb =>
    obtain ⟨v, w, rfl, rv, rw'⟩ := rx.two
    exact k x y La v w H1 hb f1 rv rw' r1
theorem lift_a3 {σ : L2.St} {H : Hp} {T : List V → Hp → Prop} {env : Env} {L : Sto} {R : PV → PV → PV → Sto → Prop} (hs : RepS X.K H σ env) (hL : RepH X.K H L) (hw : wa env L fun x La => wb env La fun y Lb => wc env Lb fun z Lc => R x y z Lc)
    (k : ∀ x y z La v w u H1, R x y z La → Fm H L H1 La → RepV X.K H1 x v → RepV X.K H1 y w → RepV X.K H1 z u → RepH X.K H1 La → T [v, w, u] H1) : liftA X.K [wa, wb, wc] σ H T := by
  refine ⟨env, L, fun xs La => match xs with | [x, y, z] => R x y z La | _ => False, hs, hL, hw, fun xs La vs H1 hb hn f1 rx r1 => ?_⟩
  match xs, hb with
  | [x, y, z], hb =>
    obtain ⟨v, w, u, rfl, rv, rw', ru⟩ := rx.three
    exact k x y z La v w u H1 hb f1 rv rw' ru r1
theorem i_r1 (hg : Gl X "range") (hm : X.mg "range" = none) (ha : PA X [a] (liftA X.K [wa])) (hs : starEach [a] X.env = [(false, eval a X.env)]) : PI X tg (.Call (.Name "range" p) [a] [] pos) (liftI X.K (iR1 wa)) := pi_weak (pi_range1 hg hm ha hs) fun σ H R h => by
  obtain ⟨env, L, R', hs, hL, hw, k⟩ := h
  refine lift_a1 hs hL hw fun x La v H1 hb f1 rx r1 => ?_
  cases x <;> first | exact absurd hb (fun z => z) | skip
  cases (show _ = _ from rx)
  exact ⟨_, rfl, hb.1.1, hb.1.2, k _ La H1 _ hb.2 f1 r1 wk_range⟩
theorem i_r2 (hg : Gl X "range") (hm : X.mg "range" = none) (ha : PA X [a, b] (liftA X.K [wa, wb])) (hs : starEach [a, b] X.env = [(false, eval a X.env), (false, eval b X.env)]) (hs2 : starEach [b] X.env = [(false, eval b X.env)]) :
    PI X tg (.Call (.Name "range" p) [a, b] [] pos) (liftI X.K (iR2 wa wb)) := pi_weak (pi_range2 hg hm ha hs hs2) fun σ H R h => by
  obtain ⟨env, L, R', hs, hL, hw, k⟩ := h
  refine lift_a2 hs hL hw fun x y La v w H1 hb f1 rx ry r1 => ?_
  cases x <;> cases y <;> first | exact absurd hb (fun z => z) | skip
  cases (show _ = _ from rx)
  cases (show _ = _ from ry)
  exact ⟨_, _, rfl, ⟨hb.1.1, hb.1.2, hb.2.1.1, hb.2.1.2⟩, k _ La H1 _ hb.2.2 f1 r1 wk_range⟩
theorem i_r3 (hg : Gl X "range") (hm : X.mg "range" = none) (ha : PA X [a, b, c] (liftA X.K [wa, wb, wc])) (hs : starEach [a, b, c] X.env = (false, eval a X.env) :: starEach [b, c] X.env) (hpl : (backTo pos (starEach [b, c] X.env)).any (·.1) = false) :
    PI X tg (.Call (.Name "range" p) [a, b, c] [] pos) (liftI X.K (iR3 wa wb wc)) := pi_weak (pi_range3 hg hm ha hs hpl) fun σ H R h => by
  obtain ⟨env, L, R', hs, hL, hw, k⟩ := h
  refine lift_a3 hs hL hw fun x y z La v w u H1 hb f1 rx ry rz r1 => ?_
  cases x <;> cases y <;> cases z <;> first | exact absurd hb (fun z => z) | skip
  cases (show _ = _ from rx)
  cases (show _ = _ from ry)
  cases (show _ = _ from rz)
  obtain ⟨n, h1, h2⟩ := hb
  exact ⟨_, _, _, n, rfl, h1, k _ La H1 _ h2 f1 r1 wk_rangeC⟩
theorem i_en {elts : List Expr} {kk : Nat} {tpos : Pos} (hg : Gl X "enumerate") (hm : X.mg "enumerate" = none) (ha : PA X [a] (liftA X.K [wa])) (hs : starEach [a] X.env = [(false, eval a X.env)]) : PI X (.Tuple elts kk tpos) (.Call (.Name "enumerate" p) [a] [] pos) (liftI X.K (iEn wa)) := pi_weak (pi_EG hg hm ha hs) fun σ H R h => by
  obtain ⟨env, L, R', hs, hL, hw, k⟩ := h
  refine lift_a1 hs hL hw fun x La v H1 hb f1 rx r1 => ?_
  obtain ⟨xs, kp, d, hR, rfl, ok⟩ := src_ok rx r1 hb
  obtain ⟨vs, h1, _⟩ := ok.2 H1 La .refl r1 ok.1
  exact ⟨d, vs, rfl, h1, k _ La H1 _ hR f1 r1 (wk_E ok)⟩
theorem i_rv (hg : Gl X "reversed") (hm : X.mg "reversed" = none) (ha : PA X [a] (liftA X.K [wa])) (hs : starEach [a] X.env = [(false, eval a X.env)]) : PI X tg (.Call (.Name "reversed" p) [a] [] pos) (liftI X.K (iRv wa)) := pi_weak (pi_reversed hg hm ha hs) fun σ H R h => by
  obtain ⟨env, L, R', hs, hL, hw, k⟩ := h
  refine lift_a1 hs hL hw fun x La v H1 hb f1 rx r1 => ?_
  cases x <;> first | exact absurd hb (fun z => z) | skip
  cases (show _ = _ from rx)
  simp only at hb
  split at hb
  · rename_i xs e
    obtain ⟨vs, h1, rv⟩ := r1.lst e
    exact ⟨_, vs, rfl, .of h1, k _ La H1 _ hb f1 r1 (wk_rev rv.length.symm)⟩
  · exact hb.elim
theorem i_rr {wa : WE} {e : Expr} {p p2 pos pos2 : Pos} (hg : Gl X "reversed") (hm : X.mg "reversed" = none) (hg2 : Gl X "range") (hm2 : X.mg "range" = none) (ha : PE X e (liftE X.K wa)) (na : starEach [e] X.env = (false, eval e X.env) :: starEach [] X.env) :
    PI X tg (.Call (.Name "reversed" p) [.Call (.Name "range" p2) [e] [] pos2] [] pos) (liftI X.K (iRr wa)) := pi_weak (pi_revR hg hm (prg_1 hg2 hm2 ha na)) fun σ H R h => by
  obtain ⟨env, L, R', hs, hL, hw, k⟩ := h
  refine ⟨env, L, _, hs, hL, hw, fun x La v H1 hb f1 rx r1 => ?_⟩
  cases x <;> first | exact absurd hb (fun z => z) | skip
  cases (show _ = _ from rx)
  exact ⟨_, rfl, by decide, by decide, hb.1.1, hb.1.2, k _ La H1 _ hb.2 f1 r1 wk_rangeC⟩
theorem i_zp {elts : List Expr} {kk : Nat} {tpos : Pos} (hg : Gl X "zip") (hm : X.mg "zip" = none) (ha : PA X [a, b] (liftA X.K [wa, wb])) (hs : starEach [a, b] X.env = (false, eval a X.env) :: starEach [b] X.env) (hpl : (backTo pos (starEach [b] X.env)).any (·.1) = false) :
    PI X (.Tuple elts kk tpos) (.Call (.Name "zip" p) [a, b] [] pos) (liftI X.K (iZp wa wb)) := pi_weak (pi_ZG hg hm ha hs hpl) fun σ H R h => by
  obtain ⟨env, L, R', hs, hL, hw, k⟩ := h
  refine lift_a2 hs hL hw fun x y La v w H1 hb f1 rx ry r1 => ?_
  obtain ⟨xs, kx, d1, hb, rfl, ok1⟩ := src_ok rx r1 hb
  obtain ⟨ys, ky, d2, hb, rfl, ok2⟩ := src_ok ry r1 hb
  obtain ⟨vs, h1, _⟩ := ok1.2 H1 La .refl r1 ok1.1
  obtain ⟨ws, h2, _⟩ := ok2.2 H1 La .refl r1 ok2.1
  exact ⟨d1, d2, vs, ws, rfl, h1, h2, k _ La H1 _ hb f1 r1 (wk_Z ok1 ok2)⟩
theorem i_z3 {elts : List Expr} {kk : Nat} {tpos : Pos} (hg : Gl X "zip") (hm : X.mg "zip" = none) (ha : PA X [a, b, c] (liftA X.K [wa, wb, wc])) (hs : starEach [a, b, c] X.env = (false, eval a X.env) :: starEach [b, c] X.env) (hpl : (backTo pos (starEach [b, c] X.env)).any (·.1) = false) :
    PI X (.Tuple elts kk tpos) (.Call (.Name "zip" p) [a, b, c] [] pos) (liftI X.K (iZ3 wa wb wc)) := pi_weak (pi_YG hg hm ha hs hpl) fun σ H R h => by
  obtain ⟨env, L, R', hs, hL, hw, k⟩ := h
  refine lift_a3 hs hL hw fun x y z La v w u H1 hb f1 rx ry rz r1 => ?_
  obtain ⟨xs, kx, d1, hb, rfl, ok1⟩ := src_ok rx r1 hb
  obtain ⟨ys, ky, d2, hb, rfl, ok2⟩ := src_ok ry r1 hb
  obtain ⟨zs, kz, d3, hb, rfl, ok3⟩ := src_ok rz r1 hb
  obtain ⟨vs, h1, _⟩ := ok1.2 H1 La .refl r1 ok1.1
  obtain ⟨ws, h2, _⟩ := ok2.2 H1 La .refl r1 ok2.1
  obtain ⟨us, h3, _⟩ := ok3.2 H1 La .refl r1 ok3.1
  exact ⟨d1, d2, d3, vs, ws, us, rfl, h1, h2, h3, k _ La H1 _ hb f1 r1 (wk_Y ok1 ok2 ok3)⟩
end
abbrev WG := PV → Env → Sto → (Env → Sto → Prop) → Prop
abbrev WGs := List PV → Env → Sto → (Env → Sto → Prop) → Prop
def liftG (K : PySem.W.Frag) (g : WG) : TG := fun v σ H Q => ∃ x env L R, RepV K H x v ∧ RepS K H σ env ∧ RepH K H L ∧ g x env L R ∧ ∀ env' L' σ' H', R env' L' → Fm H L H' L' → RepS K H' σ' env' → RepH K H' L' → Q σ' H'
def liftGs (K : PySem.W.Frag) (g : WGs) : TGs := fun v σ H Q => ∃ x env L R, RepVs K H x v ∧ RepS K H σ env ∧ RepH K H L ∧ g x env L R ∧ ∀ env' L' σ' H', R env' L' → Fm H L H' L' → RepS K H' σ' env' → RepH K H' L' → Q σ' H'
def gN (i : Nat) : WG := fun x env L R => R (env.set i (some x)) L
def gsNil : WGs := fun xs env L R => match xs with
  | [] => R env L
  | _ => False
def gsCons (g : WG) (gs : WGs) : WGs := fun xs env L R => match xs with
  | x :: r => g x env L fun env' L' => gs r env' L' R
  | _ => False
def gT (n : Nat) (gs : WGs) : WG := fun x env L R => match x with
  | .tup xs => xs.length = n ∧ gs xs env L R
  | .ref a => ∃ xs, L a = some (.l xs) ∧ xs.length = n ∧ gs xs env L R
  | _ => False
def gTU (K : PySem.W.Frag) (n : Nat) (t : TGs) : TG := fun v σ H Q => gTup K n t v σ H Q ∨ gUnl K n t v σ H Q
theorem pg_tupU {X : Cx} {pos : Pos} {es : List Expr} {k n : Nat} {t : TGs} (hc : X.calm = true) (h : PGs X es t) (hn : (assignEach es X.env).length = n) (hst : (assignEach es X.env).findIdx? (·.1) = none) : PG X (.Tuple es k pos) (gTU X.K n t) :=
  ⟨fun pins s σ H v u Q I r q => q.elim (fun q => (pg_tup hc h hn hst).run pins s σ H v u Q I r q) fun q => (pg_unl hc h hn hst).run pins s σ H v u Q I r q⟩
/-- o[i] = x, of a list or a dict -/
def gS (o i : WE) : WG := fun x env L R => o env L fun y La => i env La fun z Lb => match y, z with
  | .ref a, .int k => ∃ xs j, Lb a = some (.l xs) ∧ ixN xs.length k = some j ∧ R env (put Lb a (.l (xs.set j x)))
  | _, _ => False
section
variable {X : Cx} {pos p : Pos} {a b tg : Expr} {wa wb wc : WE} {K : PySem.W.Frag} {H H' : Hp} {σ : L2.St} {env : Env} {L : Sto}
theorem RepS.set (h : RepS K H σ env) (i : Nat) {x : PV} {v : V} (r : RepV K H x v) : RepS K H (σ.set i (some v)) (env.set i (some x)) := by
  refine ⟨by rw [List.length_set, List.length_set]; exact h.1, fun j y e => ?_⟩
  by_cases hj : j = i
  · subst hj
    by_cases hl : j < env.length
    · rw [List.getElem?_set_self hl] at e
      cases e
      exact ⟨v, by rw [List.getElem?_set_self (by rw [h.1]; exact hl)], r⟩
    · rw [List.getElem?_eq_none (by rw [List.length_set]; omega)] at e
      cases e
  · rw [List.getElem?_set_ne (Ne.symm hj)] at e
    obtain ⟨w, h1, h2⟩ := h.2 j y e
    exact ⟨w, by rw [List.getElem?_set_ne (Ne.symm hj)]; exact h1, h2⟩
theorem pg_weak {t t' : TG} (h : PG X tg t) (w : ∀ v σ H Q, t' v σ H Q → t v σ H Q) : PG X tg t' := ⟨fun pins s σ H v u Q I r q => h.run pins s σ H v u Q I r (w v σ H Q q)⟩
theorem pgs_weak {tgs : List Expr} {t t' : TGs} (h : PGs X tgs t) (w : ∀ v σ H Q, t' v σ H Q → t v σ H Q) : PGs X tgs t' := ⟨fun pins s σ H v u Q I r q => h.run pins s σ H v u Q I r (w v σ H Q q)⟩
theorem g_name {i : Nat} {x : Str} (hN : X.N.Nodup) (hi : X.N[i]? = some x) (hx : Loc X.env.scope x) (hf : X.fn x = true ∨ X.env.scope.names.lookup x = some .local) : PG X (.Name x pos) (liftG X.K (gN i)) :=
  pg_weak (pg_name hN hi hx hf) fun v σ H Q h => by
    obtain ⟨x, env, L, R, rx, hs, hL, hw, k⟩ := h
    exact k _ L _ H hw .refl (hs.set i rx) hL
theorem g_nil : PGs X [] (liftGs X.K gsNil) := pgs_weak pgs_nil fun v σ H Q h => by
  obtain ⟨x, env, L, R, rx, hs, hL, hw, k⟩ := h
  match x, hw with
  | [], hw =>
    cases (show _ = _ from rx)
    exact ⟨rfl, k _ L _ H hw .refl hs hL⟩
theorem g_cons {es : List Expr} {g : WG} {gs : WGs} (h1 : PG X tg (liftG X.K g)) (h2 : PGs X es (liftGs X.K gs)) (hs : (assignEach (tg :: es) X.env).map (·.2) = assign tg X.env :: (assignEach es X.env).map (·.2)) : PGs X (tg :: es) (liftGs X.K (gsCons g gs)) :=
  pgs_weak (pgs_cons h1 h2 hs) fun v σ H Q h => by
    obtain ⟨x, env, L, R, rx, hs, hL, hw, k⟩ := h
    match x, hw with
    | x :: r, hw =>
      obtain ⟨w, ws, rfl, rw', rr⟩ := rx
      refine ⟨w, ws, rfl, x, env, L, _, rw', hs, hL, hw, fun env' L' σ' H' hb f1 hs' r1 => ?_⟩
      exact ⟨r, env', L', R, rr.ex (f1.ex hL), hs', r1, hb, fun e2 l2 s2 h2 hr f2 => k e2 l2 s2 h2 hr (f1.trans f2)⟩
theorem g_tup {es : List Expr} {kk n : Nat} {gs : WGs} (hc : X.calm = true) (h : PGs X es (liftGs X.K gs)) (hn : (assignEach es X.env).length = n) (hst : (assignEach es X.env).findIdx? (·.1) = none) : PG X (.Tuple es kk pos) (liftG X.K (gT n gs)) :=
  pg_weak (pg_tupU hc h hn hst) fun v σ H Q h => by
    obtain ⟨x, env, L, R, rx, hs, hL, hw, k⟩ := h
    match x, hw with
    | .tup xs, hw =>
      obtain ⟨a, vs, rfl, t, r⟩ := rx
      exact .inl ⟨a, vs, rfl, t.sq, by rw [← r.length]; exact hw.1, xs, env, L, R, r, hs, hL, hw.2, k⟩
    | .ref a, hw =>
      cases (show _ = _ from rx)
      obtain ⟨xs, e, h1, h2⟩ := hw
      obtain ⟨vs, h3, r⟩ := hL.lst e
      exact .inr ⟨a, vs, rfl, .of h3, by rw [← r.length]; exact h1, xs, env, L, R, r, hs, hL, h2, k⟩
theorem g_sub (ha : PE X a (liftE X.K wa)) (hb : PE X b (liftE X.K wb)) (hq : ∀ v, assign (.Subscript a b pos) X.env v = (do
      let ov ← holding [v] (eval a X.env)
      let iv ← holding [v, ov] (eval b X.env)
      standAt pos
      holding [v, ov, iv] (setItem ov iv v)
      release [v, ov, iv] [])) : PG X (.Subscript a b pos) (liftG X.K (gS wa wb)) :=
  pg_weak (pg_sub ha hb set_list hq) fun v σ H Q h => by
    obtain ⟨x, env, L, R, rx, hs, hL, hw, k⟩ := h
    refine ⟨env, L, _, hs, hL, hw, fun y La u H1 hb f1 ry r1 => ?_⟩
    refine ⟨env, La, _, hs.ex (f1.ex hL), r1, hb, fun z Lb w H2 hc f2 rz r2 => ?_⟩
    match y, z, hc with
    | .ref q, .int i, hc =>
      cases (show _ = _ from ry)
      cases (show _ = _ from rz)
      obtain ⟨xs, j, e, hj, hr⟩ := hc
      obtain ⟨vs, h1, r⟩ := r2.lst e
      have ex := (f1.ex hL).trans (f2.ex r1)
      refine ⟨q, vs, i, j, rfl, rfl, h1, by rw [← r.length]; exact hj, ?_⟩
      exact k env _ σ _ hr ((f1.trans f2).trans (fm_put e)) ((hs.ex ex).ex (ex_put r2 e)) (reph_put r2 e (r.set j (rx.ex ex)))
end
end
section
open PySem PySem.Spec PyProof.Rows L2
def wipeE (env : Env) : List Nat → Env
  | [] => env
  | v :: vs => (wipeE env vs).set v none
def compW (keep : Sto → Prop) (g : WG) (t e : WE) (env : Env) : List PV → List PV → Sto → (List PV → Sto → Prop) → Prop
  | [], acc, L, R => keep L ∧ R acc L
  | x :: r, acc, L, R => keep L ∧ g x env L fun env' La => t env' La fun b Lb => bIf b (e env' Lb fun y Lc => acc.length < sizeLine ∧ compW keep g t e env r (acc ++ [y]) Lc R) (compW keep g t e env r acc Lb R)
def wComp (own : List Nat) (it : WI) (g : WG) (t e : WE) : WE := fun env L R => it env L fun c La => compW c.keep g t e (wipeE env own) c.items [] La fun acc Lb => newL Lb acc R
def gsN : List Nat → WGs
  | [] => gsNil
  | i :: is => gsCons (gN i) (gsN is)
/-- a comprehension's target: names of its own -/
def CtOk (K : PySem.W.Frag) (g : TG) (wg : WG) (vs : List Nat) : Prop := ∀ (v : V) (x : PV) (σ : L2.St) (env : Env) (H : Hp) (L : Sto) (R : Env → Sto → Prop) (Q : L2.St → Hp → Prop), RepV K H x v → RepS K H σ env → RepH K H L → wg x env L R →
  (∀ σ2 env2, R env2 L → RepS K H σ2 env2 → wipe σ2 vs = wipe σ vs → Q σ2 H) → g v σ H Q
def CtsOk (K : PySem.W.Frag) (g : TGs) (wg : WGs) (vs : List Nat) : Prop := ∀ (v : List V) (x : List PV) (σ : L2.St) (env : Env) (H : Hp) (L : Sto) (R : Env → Sto → Prop) (Q : L2.St → Hp → Prop), RepVs K H x v → RepS K H σ env → RepH K H L → wg x env L R →
  (∀ σ2 env2, R env2 L → RepS K H σ2 env2 → wipe σ2 vs = wipe σ vs → Q σ2 H) → g v σ H Q
section
variable {X : Cx} {K : PySem.W.Frag} {H H' : Hp} {σ : L2.St} {env : Env} {L : Sto}
theorem wipe_set {σ : L2.St} {i : Nat} {v : Option V} : ∀ {vs : List Nat}, i ∈ vs → wipe (σ.set i v) vs = wipe σ vs
  | a :: vs, h => by
    show (wipe (σ.set i v) vs).set a none = (wipe σ vs).set a none
    by_cases hi : i ∈ vs
    · rw [wipe_set hi]
    · have e : i = a := by
        rcases List.mem_cons.mp h with h | h
        · exact h
        · exact absurd h hi
      subst e
      have com : ∀ (vs : List Nat) (σ : L2.St), i ∉ vs → wipe (σ.set i v) vs = (wipe σ vs).set i v := by
        intro vs
        induction vs with
        | nil => intro σ _; rfl
        | cons b vs ih =>
          intro σ hb
          rw [List.mem_cons, not_or] at hb
          show (wipe (σ.set i v) vs).set b none = ((wipe σ vs).set b none).set i v
          rw [ih σ hb.2, List.set_comm _ _ hb.1]
      rw [com vs σ hi, List.set_set]
theorem wipe_get (σ : L2.St) (i : Nat) : ∀ vs : List Nat, (wipe σ vs)[i]? = if i ∈ vs then (if i < σ.length then some none else none) else σ[i]?
  | [] => by rw [if_neg (by simp)]; rfl
  | v :: vs => by
    show ((wipe σ vs).set v none)[i]? = _
    by_cases h : v = i
    · subst h
      rw [if_pos List.mem_cons_self]
      by_cases hl : v < σ.length
      · rw [List.getElem?_set_self (by rw [wipe_length]; exact hl), if_pos hl]
      · rw [List.getElem?_eq_none (by rw [List.length_set, wipe_length]; omega), if_neg hl]
    · rw [List.getElem?_set_ne h, wipe_get σ i vs]
      have e : (i ∈ v :: vs) = (i ∈ vs) := by
        rw [List.mem_cons]
        exact propext ⟨fun q => q.elim (fun z => absurd z.symm h) id, .inr⟩
      simp only [e]
theorem wipe_idem (σ : L2.St) (vs : List Nat) : wipe (wipe σ vs) vs = wipe σ vs := by
  refine List.ext_getElem? fun i => ?_
  rw [wipe_get (wipe σ vs) i vs, wipe_get σ i vs, wipe_length]
  split <;> rfl
theorem wipe_lenE (env : Env) : ∀ vs : List Nat, (wipeE env vs).length = env.length
  | [] => rfl
  | v :: vs => by unfold wipeE; rw [List.length_set, wipe_lenE env vs]
theorem RepS.wipe (h : RepS K H σ env) : ∀ vs : List Nat, RepS K H (L2.wipe σ vs) (wipeE env vs)
  | [] => h
  | v :: vs => by
    have ih := RepS.wipe h vs
    refine ⟨by rw [wipe_length, wipe_lenE]; exact h.1, fun i x e => ?_⟩
    unfold wipeE at e
    unfold L2.wipe
    by_cases hi : v = i
    · subst hi
      by_cases hl : v < (wipeE env vs).length
      · rw [List.getElem?_set_self hl] at e; cases e
      · rw [List.getElem?_eq_none (by rw [List.length_set]; omega)] at e; cases e
    · rw [List.getElem?_set_ne hi] at e
      obtain ⟨w, h1, h2⟩ := ih.2 i x e
      exact ⟨w, by rw [List.getElem?_set_ne hi]; exact h1, h2⟩
theorem ct_one {i : Nat} {vs : List Nat} (hi : i ∈ vs) : CtOk K (gName i) (gN i) vs := fun v x σ env H L R Q rx hs hL hw k => k _ _ hw (hs.set i rx) (wipe_set hi)
theorem cts_nil {vs : List Nat} : CtsOk K gNil gsNil vs := fun v x σ env H L R Q rx hs hL hw k => by
  match x, hw with
  | [], hw =>
    cases (show _ = _ from rx)
    exact ⟨rfl, k _ _ hw hs rfl⟩
theorem cts_cons {i : Nat} {vs : List Nat} {g : TGs} {wg : WGs} (hi : i ∈ vs) (h : CtsOk K g wg vs) : CtsOk K (gCons (gName i) g) (gsCons (gN i) wg) vs := fun v x σ env H L R Q rx hs hL hw k => by
  match x, hw with
  | x :: r, hw =>
    obtain ⟨w, ws, rfl, rw', rr⟩ := rx
    refine ⟨w, ws, rfl, ?_⟩
    exact h ws r _ _ H L R Q rr (hs.set i rw') hL hw fun σ2 env2 h1 h2 h3 => k σ2 env2 h1 h2 (h3.trans (wipe_set hi))
theorem ct_many {is vs : List Nat} {n : Nat} {g : TGs} (hn : n = is.length) (h : CtsOk K g (gsN is) vs) : CtOk K (gTU K n g) (gT is.length (gsN is)) vs := fun v x σ env H L R Q rx hs hL hw k => by
  match x, hw with
  | .tup xs, hw =>
    obtain ⟨a, ws, rfl, t, r⟩ := rx
    exact .inl ⟨a, ws, rfl, t.sq, by rw [← r.length, hn]; exact hw.1, h ws xs σ env H L R Q r hs hL hw.2 k⟩
  | .ref a, hw =>
    cases (show _ = _ from rx)
    obtain ⟨xs, e, h1, h2⟩ := hw
    obtain ⟨ws, h3, r⟩ := hL.lst e
    exact .inr ⟨a, ws, rfl, .of h3, by rw [← r.length, hn]; exact h1, h ws xs σ env H L R Q r hs hL h2 k⟩
theorem compW_keep {keep : Sto → Prop} {g : WG} {t e : WE} {env : Env} {xs acc : List PV} {L : Sto} {R : List PV → Sto → Prop} (h : compW keep g t e env xs acc L R) : keep L := by
  cases xs with
  | nil => exact h.1
  | cons x r => exact h.1
theorem lift_comp {own : List Nat} {wi : WI} {g : TG} {wg : WG} {tt : TT} {wt we : WE} {σ : L2.St} {H : Hp} {Q : VK} (hg : CtOk K g wg own) (ht : ∀ σ H Q, liftT K wt σ H Q → tt σ H Q) (h : liftE K (wComp own wi wg wt we) σ H Q) :
    tLc (liftI K wi) g tt (liftE K we) own σ H Q := by
  obtain ⟨env, L, R, hs, hL, hw, k⟩ := h
  refine ⟨env, L, _, hs, hL, hw, fun c La H1 J hb f1 r1 wk => ?_⟩
  intro D hD
  have LaD := r1.fresh hD
  refine ⟨fun i m H2 => m = c.items.length - i ∧ i ≤ c.items.length ∧ ∃ Lx acc vs, RepH K H2 Lx ∧ Fm H1 La H2 Lx ∧ H2 D = some (.lst vs) ∧ Lx D = none ∧ RepVs K H2 acc vs ∧
      compW c.keep wg wt we (wipeE env own) (c.items.drop i) acc Lx fun acc Lb => newL Lb acc R, ⟨c.items.length, (Nat.sub_zero _).symm, Nat.zero_le _, La, [], [], ?_, ?_, upd_same, LaD, rfl, hb⟩, ?_⟩
  · exact fun a o e => (r1 a o e).ex (ex_new hD) fun u q => by rw [upd_ne (ne_of_none q hD)]; exact q
  · exact fun a o e n => ⟨by rw [upd_ne (ne_of_none e hD)]; exact e, n⟩
  rintro i m H2 ⟨rfl, hi, Lx, acc, vs, r2, f2, hD2, LD2, rv, hc⟩
  have q := wk i H2 Lx f2 r2 (compW_keep hc)
  by_cases hlt : i < c.items.length
  · refine .inr ⟨(q.1 hlt).1, fun H3 => i + 1 ≤ c.items.length ∧ ∃ Lx acc vs, RepH K H3 Lx ∧ Fm H1 La H3 Lx ∧ H3 D = some (.lst vs) ∧ Lx D = none ∧ RepVs K H3 acc vs ∧
      compW c.keep wg wt we (wipeE env own) (c.items.drop (i + 1)) acc Lx fun acc Lb => newL Lb acc R, fun H' hN => ⟨c.items.length - (i + 1), by omega, rfl, hN.1, hN.2⟩, fun v H' hy => ?_⟩
    obtain ⟨x, hx, rx, f3, r3⟩ := (q.1 hlt).2 v H' hy
    have hdrop : c.items.drop i = x :: c.items.drop (i + 1) := by
      rw [List.drop_eq_getElem_cons hlt]
      rw [List.getElem?_eq_getElem hlt] at hx
      rw [Option.some.inj hx]
    rw [hdrop] at hc
    obtain ⟨_, hc⟩ := hc
    have e3 := f3.ex r2
    have ex13 := (f1.ex hL).trans ((f2.ex r1).trans e3)
    obtain ⟨hD3, LD3⟩ := f3 D _ hD2 LD2
    refine hg v x _ (wipeE env own) H' Lx _ _ rx ((hs.ex ex13).wipe own) r3 hc fun σ2 env2 hc2 hs2 hw2 => ⟨by rw [hw2, wipe_idem], ?_⟩
    refine ht _ _ _ ⟨env2, Lx, _, hs2, r3, hc2, fun b Lb H4 hb4 f4 r4 => ?_⟩
    obtain ⟨b, rfl, hb6⟩ := bIf_bl hb4
    clear hb4
    have hb4 := hb6
    refine ⟨b, rfl, ?_⟩
    obtain ⟨hD4, LD4⟩ := f4 D _ hD3 LD3
    have e4 := f4.ex r3
    cases b with
    | false =>
      rw [if_neg Bool.false_ne_true] at hb4 ⊢
      exact ⟨hlt, Lb, acc, vs, r4, f2.trans (f3.trans f4), hD4, LD4, (rv.ex e3).ex e4, hb4⟩
    | true =>
      rw [if_pos rfl] at hb4 ⊢
      refine ⟨env2, Lb, _, hs2.ex e4, r4, hb4, fun y Lc w H5 hb5 f5 ry r5 => ?_⟩
      obtain ⟨hD5, LD5⟩ := f5 D _ hD4 LD4
      have e5 := f5.ex r4
      have rv5 := ((rv.ex e3).ex e4).ex e5
      have exD : Ex H5 (upd H5 D (.lst (vs ++ [w]))) :=
        ⟨fun a xs q => by rw [upd_ne (fun z => by rw [z, hD5] at q; cases q)]; exact q, fun a o xs q => by rw [upd_ne (fun z => by rw [z, hD5] at q; cases q)]; exact q⟩
      refine ⟨vs, hD5, by rw [← rv.length]; exact hb5.1, hlt, Lc, acc ++ [y], vs ++ [w], ?_, ?_, upd_same, LD5, (rv5.append (show RepVs K H5 [y] [w] from ⟨w, [], rfl, ry, rfl⟩)).ex exD, hb5.2⟩
      · intro a o e
        have ne : a ≠ D := fun z => by rw [z, LD5] at e; cases e
        exact (r5 a o e).ex exD fun u q => by rw [upd_ne ne]; exact q
      · intro a o e n
        have ne : a ≠ D := ne_of_none e hD
        obtain ⟨e1, n1⟩ := (f2.trans (f3.trans (f4.trans f5))) a o e n
        exact ⟨by rw [upd_ne ne]; exact e1, n1⟩
  · have ei : i = c.items.length := by omega
    refine .inl ⟨q.2 ei, ?_⟩
    rw [ei, List.drop_length] at hc
    obtain ⟨_, hc⟩ := hc
    -- the list enters the store
    have exS : Ex H2 H2 := .refl
    refine k _ _ _ _ (hc D LD2) ?_ rfl ?_
    · intro a o e n
      obtain ⟨e1, n1⟩ := f1 a o e n
      obtain ⟨e2, n2⟩ := f2 a o e1 n1
      have ne : a ≠ D := ne_of_none e1 hD
      exact ⟨e2, by rw [put_ne ne]; exact n2⟩
    · intro a o e
      by_cases ne : a = D
      · subst ne
        rw [put_same] at e
        cases e
        exact ⟨vs, hD2, rv⟩
      · rw [put_ne ne] at e
        exact r2 a o e
end
structure Nd where
  nx : Env → Sto → Prop
  rt : PK
  bk : Env → Sto → Prop := fun _ _ => False
  ct : Env → Sto → Prop := fun _ _ => False
abbrev WS := Env → Sto → Nd → Prop
structure NdK (K : PySem.W.Frag) (H : Hp) (L : Sto) (N : Nd) (D : Ends) : Prop where
  nx : ∀ env' L' σ' H', N.nx env' L' → Fm H L H' L' → RepS K H' σ' env' → RepH K H' L' → D.nx σ' H'
  rt : Kt K H L N.rt D.rt
  bk : ∀ env' L' σ' H', N.bk env' L' → Fm H L H' L' → RepS K H' σ' env' → RepH K H' L' → D.bk σ' H'
  ct : ∀ env' L' σ' H', N.ct env' L' → Fm H L H' L' → RepS K H' σ' env' → RepH K H' L' → D.ct σ' H'
theorem NdK.fm {K : PySem.W.Frag} {H H1 : Hp} {L La : Sto} {N : Nd} {D : Ends} (k : NdK K H L N D) (f : Fm H L H1 La) : NdK K H1 La N D :=
  ⟨fun a b c d h f' => k.nx a b c d h (f.trans f'), k.rt.fm f, fun a b c d h f' => k.bk a b c d h (f.trans f'), fun a b c d h f' => k.ct a b c d h (f.trans f')⟩
def liftS (K : PySem.W.Frag) (w : WS) : TS := fun D σ H => ∃ env L N, RepS K H σ env ∧ RepH K H L ∧ w env L N ∧ NdK K H L N D
def sNil : WS := fun env L N => N.nx env L
def sSeq (s t : WS) : WS := fun env L N => s env L { N with nx := fun e l => t e l N }
def sExpr (e : WE) : WS := fun env L N => e env L fun _ La => N.nx env La
def sRet (e : WE) : WS := fun env L N => e env L N.rt
def sRetN : WS := fun _ L N => N.rt .non L
def sAsg (g : WG) (e : WE) : WS := fun env L N => e env L fun x La => g x env La N.nx
def sIf (c : WE) (a b : WS) : WS := fun env L N => c env L fun x La => bIf x (a env La N) (b env La N)
def sBrk : WS := fun env L N => N.bk env L
def sCnt : WS := fun env L N => N.ct env L
def sPar (is : List Nat) (ws : List WE) : WS := fun env L N => wAr ws env L fun xs La => N.nx ((is.zip xs).foldl (fun e p => e.set p.1 (some p.2)) env) La
def sAug (i : Nat) (f : Op2) (e : WE) : WS := fun env L N => match gv env i with
  | some x => e env L fun y La => f x y La fun z Lb => N.nx (env.set i (some z)) Lb
  | none => False
def loopW (keep : Sto → Prop) (g : WG) (b : WS) : List PV → Env → Sto → Nd → Prop
  | [], env, L, N => keep L ∧ N.nx env L
  | x :: r, env, L, N => keep L ∧ g x env L fun env' La => b env' La { nx := fun e l => loopW keep g b r e l N, rt := N.rt, bk := N.nx, ct := fun e l => loopW keep g b r e l N }
def sFor (it : WI) (g : WG) (b : WS) : WS := fun env L N => it env L fun c La => loopW c.keep g b c.items env La N
def sWhile (c : WE) (b : WS) : WS := fun env L N => ∃ W : Nat → Env → Sto → Prop, (∃ m, W m env L) ∧ ∀ m env L, W m env L → c env L fun x La => bIf x (b env La { nx := fun e l => ∃ m', m' < m ∧ W m' e l, rt := N.rt, bk := N.nx, ct := fun e l => ∃ m', m' < m ∧ W m' e l }) (N.nx env La)
section
variable {X : Cx} {K : PySem.W.Frag} {pos p : Pos} {a b c e tg iter : Expr} {st : Stmt} {rest ss : List Stmt} {wa wb wc we : WE} {ws wt : WS} {g : WG}
theorem s_nil : PSs X [] (liftS X.K sNil) := pss_nil.weak fun D σ H h => by
  obtain ⟨env, L, N, hs, hL, hw, k⟩ := h
  exact k.nx env L σ H hw .refl hs hL
/-- a statement that is never reached -/
def sNever : WS := fun _ _ _ => False
theorem s_never {st : Stmt} : PS X st (liftS X.K sNever) := ⟨fun pins s σ H D I h => by
  obtain ⟨env, L, N, _, _, hw, _⟩ := h
  exact hw.elim⟩
theorem s_pass : PS X (.Pass pos) (liftS X.K sNil) := ps_pass.weak fun D σ H h => by
  obtain ⟨env, L, N, hs, hL, hw, k⟩ := h
  exact k.nx env L σ H hw .refl hs hL
theorem s_brk : PS X (.Break pos) (liftS X.K sBrk) := ps_break.weak fun D σ H h => by
  obtain ⟨env, L, N, hs, hL, hw, k⟩ := h
  exact k.bk env L σ H hw .refl hs hL
theorem s_cnt : PS X (.Continue pos) (liftS X.K sCnt) := ps_continue.weak fun D σ H h => by
  obtain ⟨env, L, N, hs, hL, hw, k⟩ := h
  exact k.ct env L σ H hw .refl hs hL
theorem s_cons (h1 : PS X st (liftS X.K ws)) (h2 : PSs X rest (liftS X.K wt)) : PSs X (st :: rest) (liftS X.K (sSeq ws wt)) := (pss_cons h1 h2).weak fun D σ H h => by
  obtain ⟨env, L, N, hs, hL, hw, k⟩ := h
  exact ⟨env, L, _, hs, hL, hw, ⟨fun env' L' σ' H' h f hs' r' => ⟨env', L', N, hs', r', h, k.fm f⟩, k.rt, k.bk, k.ct⟩⟩
theorem s_one (h1 : PS X st (liftS X.K ws)) : PSs X [st] (liftS X.K ws) := pss_one h1
theorem s_expr (he : PE X e (liftE X.K we)) (hs : swapsWith e none pos.line X.env = pure false) : PS X (.Expr e pos) (liftS X.K (sExpr we)) := (ps_expr he hs).weak fun D σ H h => by
  obtain ⟨env, L, N, hs, hL, hw, k⟩ := h
  exact ⟨env, L, _, hs, hL, hw, fun x La v H1 hb f1 rx r1 => k.nx env La σ H1 hb f1 (hs.ex (f1.ex hL)) r1⟩
theorem s_ret (he : PE X e (liftE X.K we)) : PS X (.Return (some e) pos) (liftS X.K (sRet we)) := (ps_ret he).weak fun D σ H h => by
  obtain ⟨env, L, N, hs, hL, hw, k⟩ := h
  exact ⟨env, L, _, hs, hL, hw, k.rt⟩
theorem s_retN : PS X (.Return none pos) (liftS X.K sRetN) := ps_retN.weak fun D σ H h => by
  obtain ⟨env, L, N, hs, hL, hw, k⟩ := h
  exact k.rt.here hL hw rfl
theorem s_asg (he : PE X e (liftE X.K we)) (hg : PG X tg (liftG X.K g)) (hs : swapsWithSole [tg] e pos.line X.env = pure false) (hw : swappedStores [tg] e X.env = pure none) (h1 : (assignEach [tg] X.env).map (·.2) = [assign tg X.env]) :
    PS X (.Assign [tg] e pos) (liftS X.K (sAsg g we)) := (ps_asg he hg hs hw h1).weak fun D σ H h => by
  obtain ⟨env, L, N, hs, hL, hw, k⟩ := h
  refine ⟨env, L, _, hs, hL, hw, fun x La v H1 hb f1 rx r1 => ?_⟩
  exact ⟨x, env, La, N.nx, rx, hs.ex (f1.ex hL), r1, hb, fun env' L' σ' H' h f hs' r' => k.nx env' L' σ' H' h (f1.trans f) hs' r'⟩
theorem s_if {aa bb : List Stmt} (hc : PT X c (liftT X.K wc)) (ha : PSs X aa (liftS X.K ws)) (hb : PSs X bb (liftS X.K wt)) : PS X (.If c aa bb pos) (liftS X.K (sIf wc ws wt)) := (ps_if hc ha hb).weak fun D σ H h => by
  obtain ⟨env, L, N, hs, hL, hw, k⟩ := h
  refine ⟨env, L, _, hs, hL, hw, fun x La H1 hb f1 r1 => ?_⟩
  obtain ⟨c, rfl, hc⟩ := bIf_bl hb
  refine ⟨c, rfl, ?_⟩
  cases c with
  | true => exact ⟨env, La, N, hs.ex (f1.ex hL), r1, hc, k.fm f1⟩
  | false => exact ⟨env, La, N, hs.ex (f1.ex hL), r1, hc, k.fm f1⟩
theorem s_aug {i : Nat} {x : Str} {op : Operator} {r : TIp} {f : Op2} (hN : X.N.Nodup) (hi : X.N[i]? = some x) (hx : Loc X.env.scope x) (hf : X.fn x = true ∨ X.env.scope.names.lookup x = some .local) (ho : PIp X op r) (hr : OpS X.K f r) (he : PE X e (liftE X.K we)) :
    PS X (.AugAssign (.Name x p) op e pos) (liftS X.K (sAug i f we)) := (ps_aug hN hi hx he ho hf).weak fun D σ H h => by
  obtain ⟨env, L, N, hs, hL, hw, k⟩ := h
  unfold sAug at hw
  cases e0 : gv env i with
  | none => rw [e0] at hw; exact hw.elim
  | some x0 =>
    rw [e0] at hw
    obtain ⟨v, e1, r1⟩ := hs.2 i x0 (gv_some e0)
    refine ⟨v, e1, env, L, _, hs, hL, hw, fun y La u H1 hb f1 ry r2 => ?_⟩
    refine hr x0 y v u H1 La _ _ (r1.ex (f1.ex hL)) ry r2 hb fun z Lb w H2 hz f2 rz r3 => ?_
    exact k.nx _ Lb _ H2 hz (f1.trans f2) (((hs.ex (f1.ex hL)).ex (f2.ex r2)).set i rz) r3
def oAddI : Op2 := fun x y L R => match x, y with
  | .int i, .int j => R (.int (i + j)) L
  | _, _ => False
theorem ip_addI : OpS K oAddI (ipI fun i j => i + j) := by
  intro x y v u H L R Q rx ry rh h k
  cases x <;> cases y <;> first | exact absurd h (fun z => z) | skip
  cases (show _ = _ from rx); cases (show _ = _ from ry)
  exact ⟨_, _, rfl, rfl, k.here rh h rfl⟩
theorem s_while {body : List Stmt} (hp : PassesOwn (model X.prog X.w) X.A X.env X.xe) (hc : PT X c (liftT X.K wc)) (hb : PSs X body (liftS X.K ws)) : PS X (.While c body [] pos) (liftS X.K (sWhile wc ws)) := (ps_while hp hc hb).weak fun D σ H h => by
  obtain ⟨env, L, N, hs, hL, ⟨W, ⟨m0, w0⟩, turn⟩, k⟩ := h
  refine ⟨fun m σ' H' => ∃ env' L', W m env' L' ∧ RepS X.K H' σ' env' ∧ RepH X.K H' L' ∧ Fm H L H' L', ⟨m0, env, L, w0, hs, hL, .refl⟩, ?_⟩
  rintro m σ1 H1 ⟨env1, La, w1, hs1, r1, f1⟩
  refine ⟨env1, La, _, hs1, r1, turn m env1 La w1, fun x Lb H2 hb f2 r2 => ?_⟩
  obtain ⟨c, rfl, hc⟩ := bIf_bl hb
  refine ⟨c, rfl, ?_⟩
  cases c with
  | true =>
    rw [if_pos rfl] at hc ⊢
    refine ⟨fun σ' H' => ∃ m', m' < m ∧ ∃ env' L', W m' env' L' ∧ RepS X.K H' σ' env' ∧ RepH X.K H' L' ∧ Fm H L H' L', fun σ' H' q => q, env1, Lb, _, hs1.ex (f2.ex r1), r2, hc, ?_⟩
    exact ⟨fun env' L' σ' H' ⟨m', hm, hw⟩ f hs' r' => ⟨m', hm, env', L', hw, hs', r', f1.trans (f2.trans f)⟩, k.rt.fm (f1.trans f2), fun env' L' σ' H' h f hs' r' => k.nx env' L' σ' H' h (f1.trans (f2.trans f)) hs' r',
      fun env' L' σ' H' ⟨m', hm, hw⟩ f hs' r' => ⟨m', hm, env', L', hw, hs', r', f1.trans (f2.trans f)⟩⟩
  | false =>
    rw [if_neg Bool.false_ne_true] at hc ⊢
    exact k.nx env1 Lb σ1 H2 hc (f1.trans f2) (hs1.ex (f2.ex r1)) r2
theorem loopW_keep {keep : Sto → Prop} {xs : List PV} {env : Env} {L : Sto} {N : Nd} (h : loopW keep g ws xs env L N) : keep L := by
  cases xs with
  | nil => exact h.1
  | cons x r => exact h.1
theorem s_for {body : List Stmt} {wi : WI} (hp : PassesOwn (model X.prog X.w) X.A X.env X.xe) (hc : X.calm = true) (hi : PI X tg iter (liftI X.K wi)) (hg : PG X tg (liftG X.K g)) (hb : PSs X body (liftS X.K ws))
    (hfs : ∀ x, foldedSetIterable iter X.env x = pure x) : PS X (.For tg iter body [] pos) (liftS X.K (sFor wi g ws)) := (ps_for hp hc hi hg hb hfs).weak fun D σ H h => by
  obtain ⟨env, L, N, hs, hL, hw, k⟩ := h
  refine ⟨env, L, _, hs, hL, hw, fun c La H1 J hb f1 r1 wk => ?_⟩
  refine ⟨fun i m σ2 H2 => m = c.items.length - i ∧ i ≤ c.items.length ∧ ∃ env2 Lx, RepS X.K H2 σ2 env2 ∧ RepH X.K H2 Lx ∧ Fm H1 La H2 Lx ∧ loopW c.keep g ws (c.items.drop i) env2 Lx N,
    ⟨c.items.length, (Nat.sub_zero _).symm, Nat.zero_le _, env, La, hs.ex (f1.ex hL), r1, .refl, hb⟩, ?_⟩
  rintro i m σ2 H2 ⟨rfl, hi, env2, Lx, hs2, r2, f2, hc⟩
  have q := wk i H2 Lx f2 r2 (loopW_keep hc)
  by_cases hlt : i < c.items.length
  · refine .inr ⟨(q.1 hlt).1, fun σ3 H3 => i + 1 ≤ c.items.length ∧ ∃ env2 Lx, RepS X.K H3 σ3 env2 ∧ RepH X.K H3 Lx ∧ Fm H1 La H3 Lx ∧ loopW c.keep g ws (c.items.drop (i + 1)) env2 Lx N,
      fun σ' H' hN => ⟨c.items.length - (i + 1), by omega, rfl, hN.1, hN.2⟩, fun v H' hy => ?_⟩
    obtain ⟨x, hx, rx, f3, r3⟩ := (q.1 hlt).2 v H' hy
    have hdrop : c.items.drop i = x :: c.items.drop (i + 1) := by
      rw [List.drop_eq_getElem_cons hlt]
      rw [List.getElem?_eq_getElem hlt] at hx
      rw [Option.some.inj hx]
    rw [hdrop] at hc
    obtain ⟨_, hc⟩ := hc
    refine ⟨x, env2, Lx, _, rx, hs2.ex (f3.ex r2), r3, hc, fun env3 Ly σ3 H3 hc3 f4 hs3 r4 => ?_⟩
    refine ⟨env3, Ly, _, hs3, r4, hc3, ?_⟩
    have ff := f2.trans (f3.trans f4)
    have kk := k.fm (f1.trans ff)
    exact ⟨fun env' L' σ' H' h f hs' r' => ⟨hlt, env', L', hs', r', ff.trans f, h⟩, kk.rt, kk.nx, fun env' L' σ' H' h f hs' r' => ⟨hlt, env', L', hs', r', ff.trans f, h⟩⟩
  · have ei : i = c.items.length := by omega
    refine .inl ⟨q.2 ei, ?_⟩
    rw [ei, List.drop_length] at hc
    exact k.nx env2 Lx σ2 H2 hc.2 (f1.trans f2) hs2 r2
end
end
section
open PySem PySem.Spec PyProof.Rows L2
def kP : Key → PV
  | .inl i => .int i
  | .inr x => .str x
def wPairs : List (Key × WE) → Env → Sto → (List (Key × PV) → Sto → Prop) → Prop
  | [], _, L, R => R [] L
  | (k, w) :: r, env, L, R => w env L fun x La => wPairs r env La fun ps Lb => R ((k, x) :: ps) Lb
def wDisp (ps : List (Key × WE)) : WE := fun env L R => ∀ p, L p = none → wPairs ps env (put L p (.d [])) fun kvs L2 => L2 p = some (.d []) ∧ R (.ref p) (put L2 p (.d kvs))
section
variable {K : PySem.W.Frag}
theorem kP_V {H : Hp} {k : Key} {v : V} (h : RepV K H (kP k) v) : v = kV k := by cases k <;> exact h
theorem lift_pairs : ∀ (ps : List (Key × WE)) {σ : L2.St} {H : Hp} {env : Env} {L : Sto} {R : List (Key × PV) → Sto → Prop} {Q : List (V × V) → Hp → Prop}, RepS K H σ env → RepH K H L → wPairs ps env L R →
    (∀ kvs L' ks H', R kvs L' → Fm H L H' L' → RepKs K H' kvs ks → ks.map (·.1) = ps.map (·.1) → RepH K H' L' → Q (ks.map fun kv => (kV kv.1, kv.2)) H') → tPairs (ps.map fun p => (liftE K (wC (kP p.1)), liftE K p.2)) σ H Q
  | [], σ, H, env, L, R, Q, hs, hL, hw, k => k [] L [] H hw .refl rfl rfl hL
  | (key, w) :: r, σ, H, env, L, R, Q, hs, hL, hw, k => by
    show liftE K (wC (kP key)) σ H fun x H1 => liftE K w σ H1 fun y H2 => tPairs (r.map fun p => (liftE K (wC (kP p.1)), liftE K p.2)) σ H2 fun ps H3 => Q ((x, y) :: ps) H3
    refine ⟨env, L, fun x L' => x = kP key ∧ L' = L, hs, hL, ⟨rfl, rfl⟩, ?_⟩
    rintro x L' v H1 ⟨rfl, rfl⟩ f1 rv r1
    obtain rfl := kP_V rv
    refine ⟨env, L', _, hs.ex (f1.ex hL), r1, hw, fun y La vy H2 hb f2 ry r2 => ?_⟩
    refine lift_pairs r ((hs.ex (f1.ex hL)).ex (f2.ex r1)) r2 hb fun kvs Lb ks H3 hR f3 rk hk r3 => ?_
    exact k ((key, y) :: kvs) Lb ((key, vy) :: ks) H3 hR (f1.trans (f2.trans f3)) ⟨vy, ks, rfl, ry.ex (f3.ex r2), rk⟩ (by rw [List.map_cons, hk]; rfl) r3
theorem merge_app : ∀ (ks acc : List (Key × V)), (∀ k ∈ acc.map (·.1), k ∉ ks.map (·.1)) → (ks.map (·.1)).Nodup → mergeK acc ks = acc ++ ks
  | [], acc, _, _ => (List.append_nil acc).symm
  | (k, v) :: r, acc, h, hn => by
    rw [List.map_cons, List.nodup_cons] at hn
    have h1 : (acc.any fun kv => decide (kv.1 = k)) = false := by
      rw [List.any_eq_false]
      intro kv hkv
      have := h kv.1 (List.mem_map_of_mem hkv)
      rw [List.map_cons, List.mem_cons, not_or] at this
      simpa using this.1
    have h2 : putK acc k v = acc ++ [(k, v)] := by
      unfold putK
      rw [h1, if_neg Bool.false_ne_true]
    show mergeK (putK acc k v) r = _
    rw [h2, merge_app r (acc ++ [(k, v)]) ?_ hn.2, List.append_assoc]
    · rfl
    · intro k' hk' hm
      rw [List.map_append, List.mem_append] at hk'
      rcases hk' with hk' | hk'
      · exact h k' hk' (by rw [List.map_cons]; exact List.mem_cons_of_mem _ hm)
      · rw [List.map_singleton, List.mem_singleton] at hk'
        rw [hk'] at hm
        exact hn.1 hm
theorem lift_disp {ps : List (Key × WE)} {σ : L2.St} {H : Hp} {Q : VK} (hn : (ps.map (·.1)).Nodup) (h15 : ps.length ≤ 15) (h : liftE K (wDisp ps) σ H Q) : tDisp (ps.map fun p => (liftE K (wC (kP p.1)), liftE K p.2)) σ H Q := by
  obtain ⟨env, L, R, hs, hL, hw, k⟩ := h
  intro p hp
  refine lift_pairs ps (hs.ex (ex_new hp)) (reph_newD (xs := []) hL hp (show ([] : List (Key × V)) = [] from rfl)) (hw p (hL.fresh hp)) ?_
  rintro kvs L' ks H' ⟨e, hR⟩ f rk hk r'
  obtain ⟨ks0, e0, r0⟩ := r'.dct e
  cases (show ks0 = [] from r0)
  refine ⟨e0, ks, rfl, ?_, ?_⟩
  · have := congrArg List.length hk
    rw [List.length_map, List.length_map] at this
    omega
  · rw [merge_app ks [] (by simp) (by rw [hk]; exact hn), List.nil_append]
    exact k (.ref p) _ (.ref p) _ hR (((fm_new hp).trans f).trans (fm_put e)) rfl (reph_putD r' e rk)
end
def keyC : Option Expr → Option Key
  | some (.Constant (.int i) _ _) => some (.inl i)
  | some (.Constant (.str x) _ _) => some (.inr x)
  | _ => none
section
variable {X : Cx} {pos : Pos}
theorem pps_of : ∀ {keys : List (Option Expr)} {values : List Expr} {ks : List Key} {ws : List WE}, keys.map keyC = ks.map some → ks.length = ws.length → Paired (fun v w => PE X v (liftE X.K w)) values ws → PPs X pos keys values ((ks.zip ws).map fun p => (liftE X.K (wC (kP p.1)), liftE X.K p.2))
  | [], _, [], [], _, _, .nil => pps_nil
  | k :: keys, _, key :: ks, w :: ws, h, hl, .cons hv hr => by
    rw [List.map_cons, List.map_cons] at h
    injection h with h1 h2
    have pk : ∃ e, k = some e ∧ PE X e (liftE X.K (wC (kP key))) := by
      unfold keyC at h1
      split at h1
      · cases h1; exact ⟨_, rfl, q_const pe_int fun _ => rfl⟩
      · cases h1; exact ⟨_, rfl, q_const pe_str fun _ => rfl⟩
      · cases h1
    obtain ⟨e, rfl, pe⟩ := pk
    exact pps_cons pe hv (pps_of h2 (by simpa using hl) hr)
  | [], _, key :: _, _, h, _, _ => by cases h
  | _ :: _, _, [], _, h, _, _ => by cases h
  | [], _, [], _ :: _, _, hl, _ => by cases hl
  | _ :: _, _, _ :: _, [], _, hl, _ => by cases hl
theorem q_disp {keys : List (Option Expr)} {values : List Expr} {ks : List Key} {ws : List WE} (hk : keys.map keyC = ks.map some) (hl : ks.length = ws.length) (hv : Paired (fun v w => PE X v (liftE X.K w)) values ws) (h0 : ks ≠ []) (h15 : ks.length ≤ 15) (hn : ks.Nodup) :
    PE X (.Dict keys values pos) (liftE X.K (wDisp (ks.zip ws))) := by
  have lk : keys.length = ks.length := by have := congrArg List.length hk; simpa using this
  have lz : (ks.zip ws).map (·.1) = ks := List.map_fst_zip (by omega)
  have hall : keys.all (·.isSome) = true := by
    rw [List.all_eq_true]
    intro k hm
    have : keyC k ∈ ks.map some := by rw [← hk]; exact List.mem_map_of_mem hm
    obtain ⟨key, _, e⟩ := List.mem_map.mp this
    cases k with
    | none => cases e
    | some _ => rfl
  have hn0 : keys ≠ [] := fun z => h0 (List.eq_nil_of_length_eq_zero (by rw [← lk, z]; rfl))
  refine (pe_disp (pps_of (pos := pos) hk hl hv) hall (by rw [lk, hl, ← hv.length]) hn0 (by omega)).weak fun σ H Q h => ?_
  exact lift_disp (by rw [lz]; exact hn) (by rw [List.length_zip]; omega) h
end
def keyP : PV → Option Key
  | .int i => some (.inl i)
  | .str x => some (.inr x)
  | _ => none
def dGet (kvs : List (Key × PV)) (k : Key) (d : PV) : PV := match kvs.find? fun kv => decide (kv.1 = k) with
  | some kv => kv.2
  | none => d
def mGet : MtF := fun x xs L R => match x, xs with
  | .ref a, [k] => (match L a, keyP k with
    | some (.d kvs), some key => R (dGet kvs key .non) L
    | _, _ => False)
  | .ref a, [k, d] => (match L a, keyP k with
    | some (.d kvs), some key => R (dGet kvs key d) L
    | _, _ => False)
  | _, _ => False
section
variable {X : Cx} {K : PySem.W.Frag} {H : Hp} {L : Sto}
theorem RepKs.none {k : Key} : ∀ {kvs : List (Key × PV)} {ks : List (Key × V)}, RepKs K H kvs ks → kvs.find? (fun kv => decide (kv.1 = k)) = none → valV ks k = none
  | [], _, h, _ => by cases (show _ = _ from h); rfl
  | (k', x) :: r, _, ⟨v, ks, h1, h2, h3⟩, e => by
    subst h1
    rw [List.find?_cons] at e
    unfold valV
    rw [List.find?_cons]
    by_cases q : k' = k
    · rw [show decide (k' = k) = true from decide_eq_true q] at e; cases e
    · rw [show decide (k' = k) = false from decide_eq_false q] at e ⊢
      exact RepKs.none h3 e
theorem dGet_ok {kvs : List (Key × PV)} {ks : List (Key × V)} {key : Key} {d : PV} {dv : V} (r : RepKs K H kvs ks) (rd : RepV K H d dv) : RepV K H (dGet kvs key d) ((valV ks key).getD dv) := by
  unfold dGet
  split
  · rename_i kv e
    obtain ⟨v, h1, h2⟩ := RepKs.find r e
    rw [h1]
    exact h2
  · rename_i e
    rw [RepKs.none r e]
    exact rd
theorem keyP_V {y : PV} {u : V} {key : Key} (h : keyP y = some key) (r : RepV K H y u) : u = kV key := by
  cases y <;> first | (cases h; exact r) | cases h
def rGet : V → List V → Hp → VK → Prop := fun x vs H Q => ∃ a, x = .ref a ∧ ((∃ y o, vs = [y] ∧ DGet H a y o ∧ Q (o.getD .non) H) ∨ ∃ y d o, vs = [y, d] ∧ DGet H a y o ∧ Q (o.getD d) H)
theorem mt_get (hu : X.A.units + 1 < cLine) : MtR X "dict.get" rGet := by
  intro pins s σ H x xs v us Q I rx rxs h
  obtain ⟨a, rfl, h⟩ := h
  cases (show v = Value.ref a from rx)
  rcases h with ⟨y, o, rfl, g, q⟩ | ⟨y, d, o, rfl, g, q⟩
  · obtain ⟨u, rfl, r⟩ := vals1 rxs
    exact d_get1 hu I g r fun w' s' I' rw' => ⟨_, H, I', rw', q⟩
  · obtain ⟨u, w, rfl, r, r'⟩ := vals2 rxs
    exact d_get2 hu I g r r' fun w' s' I' rw' => ⟨_, H, I', rw', q⟩
theorem s_get : MtS K mGet rGet := by
  intro x v xs vs H L R Q rx rxs rh h k
  unfold mGet at h
  split at h
  · cases (show _ = _ from rx)
    obtain ⟨u, rfl, ru⟩ := rxs.one
    split at h
    · rename_i kvs key e1 e2
      obtain ⟨ks, h1, r⟩ := rh.dct e1
      exact ⟨_, rfl, .inl ⟨u, valV ks key, rfl, .inl ⟨ks, key, .inl h1, keyP_V e2 ru, rfl⟩, k.here rh h (dGet_ok r (show RepV K H .non .non from rfl))⟩⟩
    · exact h.elim
  · cases (show _ = _ from rx)
    obtain ⟨u, w, rfl, ru, rw'⟩ := rxs.two
    split at h
    · rename_i kvs key e1 e2
      obtain ⟨ks, h1, r⟩ := rh.dct e1
      exact ⟨_, rfl, .inr ⟨u, w, valV ks key, rfl, .inl ⟨ks, key, .inl h1, keyP_V e2 ru, rfl⟩, k.here rh h (dGet_ok r rw')⟩⟩
    · exact h.elim
  · exact h.elim
theorem k_get (hu : X.A.units + 1 < cLine) : MtOk X "dict" "get" mGet := ⟨_, _, PySem.F.plainAttrs_dict, PySem.F.slot_dict_get, PySem.F.type_dict_get, mt_get hu, s_get⟩
def mIndex : MtF := fun x xs L R => match x, xs with
  | .ref a, [y] => ∃ d ds j z, PD L (.ref a) (.list ds) ∧ PD L y d ∧ SeqAt.shaped (.list ds) = true ∧ SeqAt.shaped d = true ∧ ds[j]? = some z ∧ PyData.eqv z d = true ∧ (∀ (m : Nat) (z' : PyData), m < j → ds[m]? = some z' → PyData.eqv z' d = false) ∧ R (.int (j : Nat)) L
  | _, _ => False
theorem s_index : MtS K mIndex (rIndexD K) := by
  intro x v xs vs H L R Q rx rxs rh h k
  unfold mIndex at h
  split at h
  · obtain ⟨u, rfl, ru⟩ := rxs.one
    obtain ⟨d, ds, j, z, h1, h2, h3, h4, h5, h6, h7, h8⟩ := h
    have hd := h1.dp rh rx
    cases (show _ = _ from rx)
    exact ⟨_, u, d, ds, j, z, rfl, rfl, hd, h2.dp rh ru, h3, h4, h5, h6, h7, k.here rh h8 rfl⟩
  · exact h.elim
theorem k_index (hu : X.A.units + 65 < cLine) : MtOk X "list" "index" mIndex := ⟨_, _, PySem.F.plainAttrs_list, PySem.F.slot_list_index, PySem.F.type_list_index, mt_indexD hu, s_index⟩
/-- list.count of data -/
def rCountD (K : PySem.W.Frag) : V → List V → Hp → VK → Prop := fun x xs H Q => ∃ (a : Addr) (y : V) (d : PyData) (ds : List PyData), x = V.ref a ∧ xs = [y] ∧ Dp K H (V.ref a) (.list ds) ∧ Dp K H y d ∧
  SeqAt.shaped (.list ds) = true ∧ SeqAt.shaped d = true ∧ Q (.int (ds.countP fun z => PyData.eqv z d : Nat)) H
theorem mt_countD (hu : X.A.units + 65 < cLine) : MtR X "list.count" (rCountD X.K) := by
  intro pins s σ H x xs v us Q I rx rxs h
  obtain ⟨a, y, d, ds, rfl, rfl, hl, hy, sl, sd, q⟩ := h
  cases rx
  obtain ⟨uy, rfl, ry⟩ := rxs.one
  obtain ⟨bs, r1⟩ := Dp.reads I d y uy hy ry
  have hxs : PyData.canLayAll0 ds = true := SeqAt.canLay_of_shaped sl
  have hroom : X.A.units + 1 + min (PyData.depthAll ds) d.depth < cLine := room_in_shaped sd hu
  cases hl with
  | lst hs ha =>
    obtain ⟨its, rv, ⟨⟨cls, dd, data, sls⟩, n, ho, hc, hdn, hdt⟩, hlen⟩ := I.list hs
    simp only at hc hdt
    subst hc hdt
    obtain ⟨as, h4⟩ := Dp.readsAll I ds _ its ha rv
    have hmap : its.map (SeqAt.readOf s.heap) = ds := SeqAt.readsAll_map ds its as hxs h4
    refine call_meets PySem.F.slot_list_count ⟨_, ho, rfl⟩ PySem.F.entry_list_count (PySem.F.args_list_count_2 _ _)
      (SeqAt.list_countAt a its.toArray n dd sls uy (fun u => PyData.eqv (SeqAt.readOf s.heap u) d)) ⟨ho, SeqAt.items_eqAt (vs := its.toArray) (show ReadsAll s.heap its.toArray.toList ds as from h4) r1 hxs (SeqAt.canLay_of_shaped sd) hroom, ?_⟩
    have ec : its.toArray.toList.countP (fun u => PyData.eqv (SeqAt.readOf s.heap u) d) = ds.countP fun z => PyData.eqv z d := by
      rw [← hmap, List.countP_map]
      rfl
    refine ⟨.int (ds.countP fun z => PyData.eqv z d : Nat), H, I.tok _, ⟨s.toks, ?_⟩, q⟩
    show Value.int ((its.toArray.toList.countP _ : Nat) : Int) s.toks = _
    rw [ec]
def mCountL : MtF := fun x xs L R => match x, xs with
  | .ref a, [y] => ∃ d ds, PD L (.ref a) (.list ds) ∧ PD L y d ∧ SeqAt.shaped (.list ds) = true ∧ SeqAt.shaped d = true ∧ R (.int (ds.countP fun z => PyData.eqv z d : Nat)) L
  | _, _ => False
theorem s_countL : MtS K mCountL (rCountD K) := by
  intro x v xs vs H L R Q rx rxs rh h k
  unfold mCountL at h
  split at h
  · obtain ⟨u, rfl, ru⟩ := rxs.one
    obtain ⟨d, ds, h1, h2, h3, h4, h8⟩ := h
    have hd := h1.dp rh rx
    cases (show _ = _ from rx)
    exact ⟨_, u, d, ds, rfl, rfl, hd, h2.dp rh ru, h3, h4, k.here rh h8 rfl⟩
  · exact h.elim
theorem k_countL (hu : X.A.units + 65 < cLine) : MtOk X "list" "count" mCountL := ⟨_, _, PySem.F.plainAttrs_list, PySem.F.slot_list_count, PySem.F.type_list_count, mt_countD hu, s_countL⟩
end
section
variable {X : Cx} {pos : Pos} {K : PySem.W.Frag} {H : Hp} {L : Sto}
theorem q_disp0 : PE X (.Dict [] [] pos) (liftE X.K (wDisp [])) := pe_dnewK.weak fun σ H Q h => by
  obtain ⟨env, L, R, hs, hL, hw, k⟩ := h
  intro p hp
  obtain ⟨_, hR⟩ := hw p (hL.fresh hp)
  have e : put (put L p (.d [])) p (.d []) = put L p (.d []) := by
    funext b
    by_cases z : b = p
    · rw [z, put_same, put_same]
    · rw [put_ne z]
  rw [e] at hR
  exact k (.ref p) _ (.ref p) _ hR (fm_new hp) rfl (reph_newD (xs := []) hL hp (show ([] : List (Key × V)) = [] from rfl))
/-- dict(xs), xs a list of pairs, no key twice -/
def gDict : BiF := fun xs L R => match xs with
  | [.ref a] => ∃ kvs : List (Key × PV), L a = some (.l (kvs.map fun kv => .tup [kP kv.1, kv.2])) ∧ (kvs.map (·.1)).Nodup ∧ ∀ p, L p = none → R (.ref p) (put L p (.d kvs))
  | _ => False
theorem rep_prs : ∀ {kvs : List (Key × PV)} {ws : List V}, RepVs K H (kvs.map fun kv => PV.tup [kP kv.1, kv.2]) ws →
    ∃ (ps : List Addr) (ks : List (Key × V)), ws = ps.map V.ref ∧ Paired (fun p kv => SqT K H p [kV kv.1, kv.2]) ps ks ∧ RepKs K H kvs ks ∧ ks.map (·.1) = kvs.map (·.1)
  | [], _, r => by
    cases (show _ = _ from r)
    exact ⟨[], [], rfl, .nil, rfl, rfl⟩
  | (key, x) :: r, _, ⟨v, vs, h1, h2, h3⟩ => by
    subst h1
    obtain ⟨ps, ks, rfl, h4, h5, h6⟩ := rep_prs h3
    obtain ⟨a, us, rfl, t, ru⟩ := h2
    obtain ⟨v1, r1, rfl, k1, k2⟩ := ru
    obtain ⟨v2, r2, rfl, k3, k4⟩ := k2
    cases (show _ = _ from k4)
    obtain rfl := kP_V k1
    exact ⟨a :: ps, (key, v2) :: ks, rfl, .cons t.sq h4, ⟨v2, ks, rfl, k3, h5⟩, by rw [List.map_cons, h6]; rfl⟩
theorem b_dict (hc : X.calm = true) : BiOk X (.type "dict") gDict := by
  refine ⟨_, call_dictP hc, ?_⟩
  intro xs vs H L R Q rx rh h k
  unfold gDict at h
  split at h
  · obtain ⟨v, rfl, rv⟩ := rx.one
    cases (show _ = _ from rv)
    obtain ⟨kvs, e, hn, hR⟩ := h
    obtain ⟨ws, h1, r⟩ := rh.lst e
    obtain ⟨ps, ks, rfl, h4, h5, h6⟩ := rep_prs r
    refine ⟨_, ps, ks, rfl, .inl (.inl h1), h4, fun p hp => ?_⟩
    rw [merge_app ks [] (by simp) (by rw [h6]; exact hn), List.nil_append]
    exact k (.ref p) _ (.ref p) _ (hR p (rh.fresh hp)) (fm_new hp) rfl (reph_newD rh hp h5)
  · exact h.elim
end
end
section
open PySem PySem.Spec PyProof.Rows L2
def mJoin : MtF := fun x xs L R => match x, xs with
  | .str a, [.ref p] => ∃ ys : List Str, L p = some (.l (ys.map PV.str)) ∧ (ys.map (·.length)).sum + ys.length * a.length ≤ 16777216 ∧ R (.str (Txt.join a ys)) L
  | _, _ => False
def mSplit : MtF := fun x xs L R => match x, xs with
  | .str a, [.str b] => (b.length == 0) = false ∧ a.length + 2 ≤ sizeLine ∧ newL L ((Txt.split a b).map PV.str) R
  | _, _ => False
def mPart : MtF := fun x xs L R => match x, xs with
  | .str a, [.str b] => (b.length == 0) = false ∧ a.length ≤ sizeLine ∧ R (.tup [.str (Txt.partition a b).1, .str (Txt.partition a b).2.1, .str (Txt.partition a b).2.2]) L
  | _, _ => False
def mStrip : MtF := fun x xs L R => match x, xs with
  | .str a, [.str b] => a.length ≤ sizeLine ∧ R (.str (Txt.stripChars a b)) L
  | _, _ => False
def mStarts : MtF := fun x xs L R => match x, xs with
  | .str a, [.str b] => R (.bl (Txt.startswith a b)) L
  | _, _ => False
def mCount : MtF := fun x xs L R => match x, xs with
  | .str a, [.str b] => R (.int (Txt.count a b)) L
  | _, _ => False
section
variable {X : Cx} {K : PySem.W.Frag} {H : Hp} {L : Sto}
theorem RepVs.ofStrs : ∀ {ns : List Str}, RepVs K H (ns.map PV.str) (ns.map V.str)
  | [] => rfl
  | n :: ns => ⟨.str n, _, rfl, rfl, RepVs.ofStrs⟩
theorem s_join : MtS K mJoin (fun x xs H Q => ∃ a p, ∃ ys : List Str, x = .str a ∧ xs = [.ref p] ∧ (SqL K H p (ys.map V.str) ∨ SqT K H p (ys.map V.str)) ∧
    (ys.map (·.length)).sum + ys.length * a.length ≤ 16777216 ∧ Q (.str (Txt.join a ys)) H) := by
  intro x v xs vs H L R Q rx rxs rh h k
  unfold mJoin at h
  split at h
  · obtain ⟨w, rfl, rw'⟩ := rxs.one
    cases (show _ = _ from rx)
    cases (show _ = _ from rw')
    obtain ⟨ys, e, h1, h2⟩ := h
    obtain ⟨ws, h3, r⟩ := rh.lst e
    have := r.strs
    subst this
    exact ⟨_, _, ys, rfl, rfl, .inl (.inl (.inl h3)), h1, k.here rh h2 rfl⟩
  · exact h.elim
theorem k_join : MtOk X "str" "join" mJoin := ⟨_, _, PySem.F.plainAttrs_str, PySem.F.slot_str_join, PySem.F.type_str_join, mt_join, s_join⟩
theorem s_split : MtS K mSplit (fun x xs H Q => ∃ a b, x = .str a ∧ xs = [.str b] ∧ (b.length == 0) = false ∧ a.length + 2 ≤ sizeLine ∧ rNewStrs (Txt.split a b) H Q) := by
  intro x v xs vs H L R Q rx rxs rh h k
  unfold mSplit at h
  split at h
  · obtain ⟨w, rfl, rw'⟩ := rxs.one
    cases (show _ = _ from rx)
    cases (show _ = _ from rw')
    obtain ⟨h1, h2, h3⟩ := h
    exact ⟨_, _, rfl, rfl, h1, h2, fun p hp => k.newl rh h3 RepVs.ofStrs p hp⟩
  · exact h.elim
theorem k_split : MtOk X "str" "split" mSplit := ⟨_, _, PySem.F.plainAttrs_str, PySem.F.slot_str_split, PySem.F.type_str_split, mt_split, s_split⟩
theorem s_part : MtS K mPart (fun x xs H Q => ∃ a b, x = .str a ∧ xs = [.str b] ∧ (b.length == 0) = false ∧ a.length ≤ sizeLine ∧
    ∀ p, H p = none → Q (.ref p) (upd H p (.tup [.str (Txt.partition a b).1, .str (Txt.partition a b).2.1, .str (Txt.partition a b).2.2]))) := by
  intro x v xs vs H L R Q rx rxs rh h k
  unfold mPart at h
  split at h
  · obtain ⟨w, rfl, rw'⟩ := rxs.one
    cases (show _ = _ from rx)
    cases (show _ = _ from rw')
    obtain ⟨h1, h2, h3⟩ := h
    exact ⟨_, _, rfl, rfl, h1, h2, fun p hp => k _ _ _ _ h3 (fm_tup rh hp) (repv_tup ⟨_, _, rfl, rfl, _, _, rfl, rfl, _, _, rfl, rfl, rfl⟩ hp) (reph_tup rh hp)⟩
  · exact h.elim
theorem k_part : MtOk X "str" "partition" mPart := ⟨_, _, PySem.F.plainAttrs_str, PySem.F.slot_str_partition, PySem.F.type_str_partition, mt_partition, s_part⟩
theorem s_strip : MtS K mStrip (fun x xs H Q => ∃ a b, x = .str a ∧ xs = [.str b] ∧ a.length ≤ sizeLine ∧ Q (.str (Txt.stripChars a b)) H) := by
  intro x v xs vs H L R Q rx rxs rh h k
  unfold mStrip at h
  split at h
  · obtain ⟨w, rfl, rw'⟩ := rxs.one
    cases (show _ = _ from rx)
    cases (show _ = _ from rw')
    obtain ⟨h1, h2⟩ := h
    exact ⟨_, _, rfl, rfl, h1, k.here rh h2 rfl⟩
  · exact h.elim
theorem k_strip : MtOk X "str" "strip" mStrip := ⟨_, _, PySem.F.plainAttrs_str, PySem.F.slot_str_strip, PySem.F.type_str_strip, mt_stripChars, s_strip⟩
theorem s_starts : MtS K mStarts (fun x xs H Q => ∃ a b, x = .str a ∧ xs = [.str b] ∧ Q (.bl (Txt.startswith a b)) H) := by
  intro x v xs vs H L R Q rx rxs rh h k
  unfold mStarts at h
  split at h
  · obtain ⟨w, rfl, rw'⟩ := rxs.one
    cases (show _ = _ from rx)
    cases (show _ = _ from rw')
    exact ⟨_, _, rfl, rfl, k.here rh h rfl⟩
  · exact h.elim
theorem k_starts : MtOk X "str" "startswith" mStarts := ⟨_, _, PySem.F.plainAttrs_str, PySem.F.slot_str_startswith, PySem.F.type_str_startswith, mt_startswith, s_starts⟩
theorem s_count : MtS K mCount (fun x xs H Q => ∃ a b, x = .str a ∧ xs = [.str b] ∧ Q (.int (Txt.count a b)) H) := by
  intro x v xs vs H L R Q rx rxs rh h k
  unfold mCount at h
  split at h
  · obtain ⟨w, rfl, rw'⟩ := rxs.one
    cases (show _ = _ from rx)
    cases (show _ = _ from rw')
    exact ⟨_, _, rfl, rfl, k.here rh h rfl⟩
  · exact h.elim
theorem k_count : MtOk X "str" "count" mCount := ⟨_, _, PySem.F.plainAttrs_str, PySem.F.slot_str_count, PySem.F.type_str_count, mt_count, s_count⟩
end
end
section
open PySem PySem.Spec PyProof.Rows L2
theorem zip_no_len : typeLookup (.type "zip") "__len__" = pure none := am_miss_of_fast (by decide +kernel)
theorem zip_no_hint : typeLookup (.type "zip") "__length_hint__" = pure none := am_miss_of_fast (by decide +kernel)
/-- a zip that hands out new pairs, its i-th next -/
structure ZSt (h : Heap) (z TI TO i1 i2 a b S : Addr) (i : Nat) : Prop where
  st : (IsZip h z TI TO .none ∧ ∃ x y, IsPair h TO x y) ∨ ∃ T f oT, IsZipHeld h z TI TO T f ∧ h.get? T = some oT ∧ T ≠ z ∧ T ≠ i1 ∧ T ≠ i2 ∧ T ≠ S
  ti : IsPair h TI (.ref i1) (.ref i2)
  h1 : h.IsListIter i1 a i
  h2 : h.IsListIter i2 b i
  to : ∃ o, h.get? TO = some o
theorem ZSt.type {h : Heap} {z TI TO i1 i2 a b S : Addr} {i : Nat} (Z : ZSt h z TI TO i1 i2 a b S i) : ∃ fs, h.get? z = some { cls := .type "zip", dict := none, data := .fields fs, slots := #[] } := by
  rcases Z.st with ⟨h, _⟩ | ⟨T, f, oT, h, _⟩
  · exact ⟨_, h⟩
  · exact ⟨_, h⟩
/-- what is written at S alone leaves it -/
theorem ZSt.frame {h h' : Heap} {z TI TO i1 i2 a b S : Addr} {i : Nat} (Z : ZSt h z TI TO i1 i2 a b S i) (D : S ≠ z ∧ S ≠ TI ∧ S ≠ TO ∧ S ≠ i1 ∧ S ≠ i2) (k : ∀ c o, c ≠ S → h.get? c = some o → h'.get? c = some o) : ZSt h' z TI TO i1 i2 a b S i := by
  refine ⟨?_, k _ _ (Ne.symm D.2.1) Z.ti, Z.h1.at fun o q => k _ _ (Ne.symm D.2.2.2.1) q, Z.h2.at fun o q => k _ _ (Ne.symm D.2.2.2.2) q, let ⟨o, q⟩ := Z.to; ⟨o, k _ _ (Ne.symm D.2.2.1) q⟩⟩
  rcases Z.st with ⟨hz, x, y, hTO⟩ | ⟨T, f, oT, hz, hT, n1, n2, n3, n4⟩
  · exact .inl ⟨k _ _ (Ne.symm D.1) hz, x, y, k _ _ (Ne.symm D.2.2.1) hTO⟩
  · exact .inr ⟨T, f, oT, k _ _ (Ne.symm D.1) hz, k _ _ n4 hT, n1, n2, n3, n4⟩
section
variable {prog : Program} {w : World} {A : Around} {E : Value → Shared → Prop} {s : Shared} {z TI TO i1 i2 a b S : Addr} {i : Nat} {xs ys : Array Value}
theorem z_item {x y : Value} {Q : Option Value → Shared → Prop} (D : ZipApart z TI TO i1 i2 a b) (Z : ZSt s.heap z TI TO i1 i2 a b S i) (hS : S < s.heap.objs.size) (hl1 : s.heap.IsList a xs) (hl2 : s.heap.IsList b ys) (hx : xs[i]? = some x) (hy : ys[i]? = some y)
    (hQ : ∀ h', ZSt h' z TI TO i1 i2 a b S (i + 1) → IsPair h' s.heap.objs.size x y → (∀ c o, c ≠ z → c ≠ TO → c ≠ i1 → c ≠ i2 → s.heap.get? c = some o → h'.get? c = some o) → Q (some (.ref s.heap.objs.size)) { s with heap := h' }) :
    wpAny (model prog w) A (pyNext (.ref z)) Q E s := by
  have lz : z < s.heap.objs.size := by obtain ⟨fs, h⟩ := Z.type; exact Heap.lt_size h
  have l1 : i1 < s.heap.objs.size := by obtain ⟨_, e, _⟩ := Z.h1; exact Heap.lt_size e
  have l2 : i2 < s.heap.objs.size := by obtain ⟨_, e, _⟩ := Z.h2; exact Heap.lt_size e
  rcases Z.st with ⟨hz, p, q, hTO⟩ | ⟨T, f, oT, hz, hT, n1, n2, n3, n4⟩
  · refine wpAny_pyNext_zip_item D hz Z.ti hTO Z.h1 Z.h2 hl1 hl2 hx hy fun h' a1 a2 a3 a4 a5 a6 a7 => ?_
    refine hQ h' ⟨.inr ⟨s.heap.objs.size, false, _, a1, a5, Nat.ne_of_gt lz, Nat.ne_of_gt l1, Nat.ne_of_gt l2, Nat.ne_of_gt hS⟩, a7 _ _ D.TIz D.TITO D.TIi1 D.TIi2 Z.ti, a3, a4, _, a2⟩ a5 a7
  · refine wpAny_pyNext_zip_item_held D hz hT Z.ti Z.h1 Z.h2 hl1 hl2 hx hy fun h' a1 a3 a4 a5 a6 a7 => ?_
    refine hQ h' ⟨.inr ⟨T, true, oT, a1, a7 _ _ n1 n2 n3 hT, n1, n2, n3, n4⟩, a7 _ _ D.TIz D.TIi1 D.TIi2 Z.ti, a3, a4, let ⟨o, q⟩ := Z.to; ⟨o, a7 _ _ D.TOz D.TOi1 D.TOi2 q⟩⟩ a5 fun c o c1 _ c3 c4 e => a7 c o c1 c3 c4 e
theorem z_end {Q : Option Value → Shared → Prop} (hh : A.handled = none) (D : ZipApart z TI TO i1 i2 a b) (Z : ZSt s.heap z TI TO i1 i2 a b S i) (hl1 : s.heap.IsList a xs) (hl2 : s.heap.IsList b ys) (he : xs[i]? = none ∨ ys[i]? = none)
    (hQ : ∀ h', (∀ c o, c ≠ z → c ≠ TO → c ≠ i1 → c ≠ i2 → s.heap.get? c = some o → h'.get? c = some o) → Q none { s with heap := h' }) : wpAny (model prog w) A (pyNext (.ref z)) Q E s := by
  rcases Z.st with ⟨hz, p, q, hTO⟩ | ⟨T, f, oT, hz, hT, n1, n2, n3, n4⟩
  · exact wpAny_pyNext_zip_end hh D hz Z.ti hTO Z.h1 Z.h2 hl1 hl2 he fun h' hk => hQ h' hk
  · exact wpAny_pyNext_zip_end_held hh D hz hT Z.ti Z.h1 Z.h2 hl1 hl2 he fun h' hk => hQ h' fun c o c1 _ c3 c4 e => hk c o c1 c3 c4 e
end
/-- pairs at Ts of the first ones of xs and ys -/
def PairsAt (H : Hp) (Ts : List Addr) (xs ys : List V) : Prop := Ts.length ≤ xs.length ∧ Ts.length ≤ ys.length ∧ ∀ (j : Nat) (T : Addr), Ts[j]? = some T → ∃ x y, xs[j]? = some x ∧ ys[j]? = some y ∧ H T = some (.tup [x, y])
section
variable {X : Cx} {pins : List (Addr × Obj)} {σ : L2.St} {z TI TO i1 i2 a b S : Addr} {xs ys : List V} {A : Around} {R : Result → Shared → Prop}
theorem sql_keep {K : PySem.W.Frag} {H H' : Hp} {a : Addr} {xs : List V} (h : SqL K H a xs) (k : ∀ o, H a = some o → H' a = some o) : SqL K H' a xs := by
  rcases h with (h | ⟨o, h⟩) | h
  · exact .inl (.inl (k _ h))
  · exact .inl (.inr ⟨o, k _ h⟩)
  · exact .inr h
theorem ext_loop (hh : A.handled = none) (D : ZipApart z TI TO i1 i2 a b) (hSn : S ≠ z ∧ S ≠ TI ∧ S ≠ TO ∧ S ≠ i1 ∧ S ≠ i2) (hSa : S ≠ a ∧ S ≠ b) (hx16 : min xs.length ys.length ≤ sizeLine) :
    ∀ (k i : Nat) (s : Shared) (H : Hp) (Ts : List Addr), min xs.length ys.length - i = k → Ts.length = i → i ≤ min xs.length ys.length → Inv X pins σ H s → H S = some (.lst (Ts.map V.ref)) → SqL X.K H a xs → SqL X.K H b ys → PairsAt H Ts xs ys →
      (∀ c ∈ [z, TI, TO, i1, i2], FpOk X pins H c) → ZSt s.heap z TI TO i1 i2 a b S i →
      (∀ H' s' Ts', Inv X pins σ H' s' → H' S = some (.lst (Ts'.map V.ref)) → Ts'.length = min xs.length ys.length → PairsAt H' Ts' xs ys → (∀ c o, c ≠ S → H c = some o → H' c = some o) → R (.ok (.ret .none)) s') →
      codeAny (model X.prog X.w) A (.builtin "list.extend.loop" ⟨[.ref S, .ref z, .none], []⟩) R s := by
  intro k
  induction k with
  | zero =>
    intro i s H Ts hk hi hle I hS hqa hqb hp hf Z hR
    obtain ⟨its, rv, p, _⟩ := I.list hqa
    obtain ⟨its2, rv2, p2, _⟩ := I.list hqb
    have l1 := rv.length
    have l2 := rv2.length
    refine codeAny_builtin F.entry_extend_loop ?_
    rw [Around.under_plainId F.plain_extend_loop _]
    show wpAny _ A.in1 (pyNext (.ref z) >>= _) _ _ s
    refine wpAny_bind (z_end (by exact hh) D Z p.isList p2.isList (by
      rcases Nat.le_total xs.length ys.length with q | q
      · exact .inl (by simp; omega)
      · exact .inr (by simp; omega)) fun h' hk' => ?_)
    have I1 : Inv X pins σ H { s with heap := h' } := I.turnedL (t' := s.toks) (ch := [z, TI, TO, i1, i2]) (fun c o hb q => hk' c o (fun q' => hb (by simp [q'])) (fun q' => hb (by simp [q'])) (fun q' => hb (by simp [q'])) (fun q' => hb (by simp [q'])) q) hf
    exact wpAny_pure (hR H _ Ts I1 hS (by omega) hp fun _ _ _ e => e)
  | succ k ih =>
    intro i s H Ts hk hi hle I hS hqa hqb hp hf Z hR
    have hlt : i < min xs.length ys.length := by omega
    obtain ⟨its, rv, p, _⟩ := I.list hqa
    obtain ⟨its2, rv2, p2, _⟩ := I.list hqb
    have l1 := rv.length
    have l2 := rv2.length
    have hx : xs[i]? = some (xs[i]'(by omega)) := List.getElem?_eq_getElem _
    have hy : ys[i]? = some (ys[i]'(by omega)) := List.getElem?_eq_getElem _
    generalize xs[i]'(by omega) = x at hx
    generalize ys[i]'(by omega) = y at hy
    obtain ⟨u, hu, ru⟩ := rv.get hx
    obtain ⟨u2, hu2, ru2⟩ := rv2.get hy
    obtain ⟨_, its3, n3, r3, e3', e3⟩ := I.lstM hS
    have lS : S < s.heap.objs.size := Heap.lt_size e3
    refine codeAny_builtin F.entry_extend_loop ?_
    rw [Around.under_plainId F.plain_extend_loop _]
    show wpAny _ A.in1 (pyNext (.ref z) >>= _) _ _ s
    refine wpAny_bind (z_item (x := u) (y := u2) D Z lS p.isList p2.isList (by simpa using hu) (by simpa using hu2) fun h' Z' hT hk' => ?_)
    have new : ObjOk X.prog X.w (upd H s.heap.objs.size (.tup [x, y])) h' s.heap.objs.size (.tup [x, y]) :=
      ⟨by show 2 ≤ sizeLine; decide, [u, u2], .cons ru (.cons ru2 .nil), ⟨_, hT, rfl, _, rfl⟩⟩
    have hn : H s.heap.objs.size = none := I.hok.fresh (Nat.le_refl _)
    have I1 : Inv X pins σ (upd H s.heap.objs.size (.tup [x, y])) { s with heap := h' } :=
      I.turnedNew (t' := s.toks) (ch := [z, TI, TO, i1, i2]) (fun c o hb q => hk' c o (fun q' => hb (by simp [q'])) (fun q' => hb (by simp [q'])) (fun q' => hb (by simp [q'])) (fun q' => hb (by simp [q'])) q) hf (Nat.le_refl _) new
    have nS : S ≠ s.heap.objs.size := Nat.ne_of_lt lS
    have hS1 : upd H s.heap.objs.size (.tup [x, y]) S = some (.lst (Ts.map V.ref)) := by rw [upd_ne nS]; exact hS
    obtain ⟨z4, its4, n4, r4, e4', e4⟩ := I1.lstM hS1
    have r4l := r4.length
    rw [List.length_map] at r4l
    show wpAny _ A.in1 (updateSeq S (·.push (.ref s.heap.objs.size)) >>= _) _ _ _
    refine wpAny_bind ?_
    have I2 : Inv X pins σ (upd (upd H s.heap.objs.size (.tup [x, y])) S (.lst ((Ts ++ [s.heap.objs.size]).map V.ref))) { s with heap := h'.update S (Obj.mapSeq (·.push (.ref s.heap.objs.size))), toks := s.toks } :=
      I1.lset (its' := its4 ++ [.ref s.heap.objs.size]) hS1 e4 (by simp) (by rw [List.map_append]; exact r4.append (.cons rfl .nil)) (by rw [List.length_map, List.length_append]; show Ts.length + 1 ≤ _; omega)
    have keepH : ∀ c o, c ≠ S → H c = some o → upd (upd H s.heap.objs.size (.tup [x, y])) S (.lst ((Ts ++ [s.heap.objs.size]).map V.ref)) c = some o := fun c o hc e => by
      rw [upd_ne hc, upd_ne (ne_of_none e hn)]; exact e
    refine wpAny_updateSeq e4 rfl (wpAny_pure ⟨plainId_quiet F.plain_extend_loop _, ih (i + 1) _ _ (Ts ++ [s.heap.objs.size]) (by omega) (by rw [List.length_append, hi]; rfl) hlt I2 upd_same ?_ ?_ ?_ (fun c hc => ?_) ?_ fun H' s' Ts' J e1 e2 e3 e4 => hR H' s' Ts' J e1 e2 e3 fun c o hc e => e4 c o hc (keepH c o hc e)⟩) ?_ ?_
    · exact sql_keep hqa fun o e => keepH _ _ (Ne.symm hSa.1) e
    · exact sql_keep hqb fun o e => keepH _ _ (Ne.symm hSa.2) e
    · obtain ⟨q1, q2, q3⟩ := hp
      refine ⟨by rw [List.length_append]; show Ts.length + 1 ≤ _; omega, by rw [List.length_append]; show Ts.length + 1 ≤ _; omega, fun j T hj => ?_⟩
      by_cases hlt2 : j < Ts.length
      · rw [List.getElem?_append_left hlt2] at hj
        obtain ⟨x', y', g1, g2, g3⟩ := q3 j T hj
        refine ⟨x', y', g1, g2, keepH _ _ (fun z => ?_) g3⟩
        rw [z, hS] at g3
        cases g3
      · rw [List.getElem?_append_right (by omega)] at hj
        have hj0 : j - Ts.length = 0 := by
          cases hq : j - Ts.length with
          | zero => rfl
          | succ m => rw [hq] at hj; cases hj
        rw [hj0] at hj
        cases hj
        have : j = i := by omega
        subst this
        exact ⟨x, y, hx, hy, by rw [upd_ne (Ne.symm nS), upd_same]⟩
    · obtain ⟨f1, f2⟩ := hf c hc
      have hcl : c < s.heap.objs.size ∧ c ≠ S := by
        have e' : c = z ∨ c = TI ∨ c = TO ∨ c = i1 ∨ c = i2 := by simpa using hc
        have lTO : TO < s.heap.objs.size := by
          obtain ⟨o, h⟩ := Z.to
          exact Heap.lt_size h
        rcases e' with q | q | q | q | q <;> subst q
        · obtain ⟨fs, h⟩ := Z.type; exact ⟨Heap.lt_size h, Ne.symm hSn.1⟩
        · exact ⟨Heap.lt_size Z.ti, Ne.symm hSn.2.1⟩
        · exact ⟨lTO, Ne.symm hSn.2.2.1⟩
        · obtain ⟨_, e, _⟩ := Z.h1; exact ⟨Heap.lt_size e, Ne.symm hSn.2.2.2.1⟩
        · obtain ⟨_, e, _⟩ := Z.h2; exact ⟨Heap.lt_size e, Ne.symm hSn.2.2.2.2⟩
      exact ⟨by rw [upd_ne hcl.2, upd_ne (Nat.ne_of_lt hcl.1)]; exact f1, f2⟩
    · exact Z'.frame hSn fun c o hc e => (Heap.get?_update_other _ _ (Ne.symm hc)).trans e
    · rw [List.size_toArray]
      omega
    · rw [Array.size_push, List.size_toArray]
      omega
theorem init_zip {s : Shared} {H : Hp} (hh : A.handled = none) (D : ZipApart z TI TO i1 i2 a b) (hSn : S ≠ z ∧ S ≠ TI ∧ S ≠ TO ∧ S ≠ i1 ∧ S ≠ i2) (hSa : S ≠ a ∧ S ≠ b) (hx16 : min xs.length ys.length ≤ sizeLine)
    (I : Inv X pins σ H s) (hS : H S = some (.lst [])) (e : s.heap.get? S = some { cls := .type "list", data := .seq #[] }) (hqa : SqL X.K H a xs) (hqb : SqL X.K H b ys) (hf : ∀ c ∈ [z, TI, TO, i1, i2], FpOk X pins H c) (Z : ZSt s.heap z TI TO i1 i2 a b S 0) (hz0 : IsZip s.heap z TI TO .none)
    (hR : ∀ H' s' Ts', Inv X pins σ H' s' → H' S = some (.lst (Ts'.map V.ref)) → Ts'.length = min xs.length ys.length → PairsAt H' Ts' xs ys → (∀ c o, c ≠ S → H c = some o → H' c = some o) → R (.ok (.ret .none)) s') :
    wpAny (model X.prog X.w) A.in1 (Builtin.«list.__init__» ⟨[.ref S, .ref z], []⟩)
      (fun fin s' => match fin with | .done f => R (.ok f) s' | .again c' => c'.quiet = true ∧ codeAny (model X.prog X.w) A c' R s') (fun e s' => R (.error e) s') s := by
  show wpAny _ A.in1 (do let old ← Builtin.List.listItems (.ref S); Builtin.List.listUpdate (.ref S) (fun _ => #[]); letGo old.toList.reverse; Builtin.List.listExtendWith (.ref S) (.ref z) .none) _ _ s
  refine wpAny_bind ?_
  unfold Builtin.List.listItems
  refine wpAny_bind (wpAny_seqItems e rfl (wpAny_pure ?_))
  show wpAny _ A.in1 (updateSeq S (fun _ => #[]) >>= fun _ => letGo (#[] : Array Value).toList.reverse >>= fun _ => Builtin.List.listExtendWith (.ref S) (.ref z) .none) _ _ s
  have I1 : Inv X pins σ (upd H S (.lst [])) { s with heap := s.heap.update S (Obj.mapSeq (fun _ => (#[] : Array Value))), toks := s.toks } := I.lset (its := []) (its' := []) hS e rfl .nil (Nat.zero_le _)
  have hup : upd H S (.lst []) = H := by
    funext c
    by_cases hc : c = S
    · rw [hc, upd_same, hS]
    · rw [upd_ne hc]
  rw [hup] at I1
  refine wpAny_bind (wpAny_updateSeq e rfl ?_)
  have e2 := Heap.get?_update_self (Obj.mapSeq (fun _ => (#[] : Array Value))) e rfl
  have Z1 : ZSt (s.heap.update S (Obj.mapSeq (fun _ => (#[] : Array Value)))) z TI TO i1 i2 a b S 0 := Z.frame hSn fun c o hc q => (Heap.get?_update_other _ _ (Ne.symm hc)).trans q
  have hz1 : IsZip (s.heap.update S (Obj.mapSeq (fun _ => (#[] : Array Value)))) z TI TO .none := (Heap.get?_update_other _ _ hSn.1).trans hz0
  refine wpAny_bind (wpAny_letGo ?_)
  generalize s.heap.update S (Obj.mapSeq (fun _ => (#[] : Array Value))) = h1 at I1 e2 Z1 hz1 ⊢
  obtain ⟨fs, hz⟩ := Z1.type
  have hT : (⟨h1, s.gens, s.drawn, s.toks, s.os⟩ : Shared).TypeIs (.ref z) "zip" := ⟨_, hz, rfl⟩
  unfold Builtin.List.listExtendWith
  refine wpAny_bind (wpAny_typeOf hT ?_)
  have q1 : Builtin.List.listSameRef (.ref S) (.ref z) = false := by simp [Builtin.List.listSameRef, hSn.1]
  have q2 : (Value.type "zip" == Value.type "list") = false := by decide
  have q3 : (Value.type "zip" == Value.type "tuple") = false := by decide
  simp only [q1, q2, q3, Bool.or_false, Bool.false_eq_true, if_false]
  refine wpAny_bind (wpAny_pyIter_zip (s := ⟨h1, s.gens, s.drawn, s.toks, s.os⟩) hz1 ?_)
  refine wpAny_bind (wpAny_holding ?_)
  unfold Builtin.List.listLengthHint
  refine wpAny_bind (wpAny_specialOf hT zip_no_len ?_)
  show wpAny _ A.in1 (specialOf (Value.ref z) (Str.ofString "__length_hint__") >>= _) _ _ _
  refine wpAny_bind (wpAny_specialOf hT zip_no_hint ?_)
  refine wpAny_pure ?_
  have loop : ∀ h2, Inv X pins σ H ⟨h2, s.gens, s.drawn, s.toks, s.os⟩ → ZSt h2 z TI TO i1 i2 a b S 0 → codeAny (model X.prog X.w) A (.builtin "list.extend.loop" ⟨[.ref S, .ref z, .none], []⟩) R ⟨h2, s.gens, s.drawn, s.toks, s.os⟩ := fun h2 I2 Z2 =>
    ext_loop hh D hSn hSa hx16 _ 0 _ H [] rfl rfl (Nat.zero_le _) I2 hS hqa hqb ⟨Nat.zero_le _, Nat.zero_le _, fun j T hj => by cases hj⟩ hf Z2 hR
  show wpAny _ A.in1 (rule "list.extend.makes-room" >>= fun _ => Builtin.List.listTouch (.ref S) >>= fun _ =>
    again (.builtin "list.extend.loop" ⟨[.ref S, .ref z, .none], []⟩)) _ _ _
  refine wpAny_bind (wpAny_rule ?_)
  refine wpAny_bind ?_
  show wpAny _ A.in1 (updateSeq S (·.push .none) >>= fun _ => updateSeq S (·.pop)) _ _ _
  have I2 : Inv X pins σ (upd H S (.lst [.non])) ⟨h1.update S (Obj.mapSeq (·.push Value.none)), s.gens, s.drawn, s.toks, s.os⟩ := I1.lset (its := []) (its' := [.none]) hS e2 rfl (.cons rfl .nil) (by show 1 ≤ sizeLine; decide)
  refine wpAny_bind (wpAny_updateSeq e2 rfl ?_)
  have e3 := Heap.get?_update_self (Obj.mapSeq (·.push Value.none)) e2 rfl
  have I3 : Inv X pins σ (upd (upd H S (.lst [.non])) S (.lst [])) ⟨(h1.update S (Obj.mapSeq (·.push Value.none))).update S (Obj.mapSeq (·.pop)), s.gens, s.drawn, s.toks, s.os⟩ := I2.lset (its := [.none]) (its' := []) upd_same e3 rfl .nil (Nat.zero_le _)
  have hup3 : upd (upd H S (.lst [.non])) S (.lst []) = H := by
    funext c
    by_cases hc : c = S
    · rw [hc, upd_same, hS]
    · rw [upd_ne hc, upd_ne hc]
  rw [hup3] at I3
  refine wpAny_updateSeq (hz := by seq_fits) e3 rfl ?_
  have Z3 : ZSt ((h1.update S (Obj.mapSeq (·.push Value.none))).update S (Obj.mapSeq (·.pop))) z TI TO i1 i2 a b S 0 := (Z1.frame hSn fun c o hc q => (Heap.get?_update_other _ _ (Ne.symm hc)).trans q).frame hSn fun c o hc q => (Heap.get?_update_other _ _ (Ne.symm hc)).trans q
  exact wpAny_pure ⟨plainId_quiet F.plain_extend_loop _, loop _ I3 Z3⟩
end
end
section
open PySem PySem.Spec PyProof.Rows L2
section
variable {prog : Program} {w : World} {A : Around} {E : Value → Shared → Prop} {s : Shared}
/-- one more pair of a zip whose last pair is held, whatever its two iterators are -/
theorem held_next {z TI TO T i1 i2 : Addr} {f : Bool} {oT : Obj} {x y : Value} {P : Heap → Prop} {Q : Value → Shared → Prop} (e1 : i1 ≠ z) (e2 : i2 ≠ z)
    (hz : IsZipHeld s.heap z TI TO T f) (hT : s.heap.get? T = some oT) (hTI : IsPair s.heap TI (.ref i1) (.ref i2))
    (N1 : ∀ (h : Heap) (Q' : Value → Shared → Prop), Heap.SameBut z s.heap h →
      (∀ h1, Heap.SameBut i1 h h1 → (∀ Q'' : Value → Shared → Prop, (∀ h2, Heap.SameBut i2 h1 h2 → P h2 → Q'' y { s with heap := h2 }) → wpAny (model prog w) A (Builtin.SmallTypes.nextOf (.ref i2)) Q'' E { s with heap := h1 }) → Q' x { s with heap := h1 }) →
      wpAny (model prog w) A (Builtin.SmallTypes.nextOf (.ref i1)) Q' E { s with heap := h })
    (hQ : ∀ h3, IsZipHeld h3 z TI TO T true → P h3 → h3.objs.size = s.heap.objs.size → (∀ c o, c ≠ z → c ≠ i1 → c ≠ i2 → s.heap.get? c = some o → h3.get? c = some o) →
      Q (.ref h3.objs.size) { s with heap := h3.push { cls := .type "tuple", data := .seq #[x, y] } }) :
    wpAny (model prog w) A (Builtin.«zip.__next__» ⟨[.ref z], []⟩) (fun fin s' => ∃ v, fin = .done (.ret v) ∧ Q v s') E s := by
  show wpAny _ _ (field (.ref z) 2 >>= _) _ _ _
  refine wpAny_bind (wpAny_field hz rfl (x := .bool false) rfl ?_)
  show wpAny _ _ (field (.ref z) 3 >>= _) _ _ _
  refine wpAny_bind (wpAny_field hz rfl (x := .ref TI) rfl ?_)
  refine wpAny_bind (wpAny_seqItems hTI rfl ?_)
  show wpAny _ _ (Builtin.SmallTypes.ownedTupleIsFree (.ref z) >>= _) _ _ _
  refine wpAny_bind (wpAny_tupleHeld_zip hz hT fun g hg sg => ?_)
  simp only [Bool.false_eq_true, if_false]
  refine wpAny_bind ?_
  rw [← Array.forIn_toList]
  simp only [List.forIn_cons, List.forIn_nil]
  refine wpAny_bind (wpAny_bind (wpAny_holding ?_))
  show wpAny _ _ (Builtin.SmallTypes.nextOf (.ref i1) >>= _) _ _ _
  refine wpAny_bind (N1 g _ sg fun g1 sg1 N2 => wpAny_pure (wpAny_pure ?_))
  refine wpAny_bind (wpAny_bind (wpAny_holding ?_))
  show wpAny _ _ (Builtin.SmallTypes.nextOf (.ref i2) >>= _) _ _ _
  refine wpAny_bind (N2 _ fun g2 sg2 hp => wpAny_pure (wpAny_pure (wpAny_pure ?_)))
  show wpAny _ _ (newTuple [x, y] >>= _) _ _ _
  refine wpAny_bind (wpAny_newTuple ?_)
  refine wpAny_pure ⟨_, rfl, ?_⟩
  exact hQ g2 (sg2.extBut _ _ e2.symm (sg1.extBut _ _ e1.symm hg)) hp (by rw [sg2.1, sg1.1, sg.1]) fun c o c1 c2 c3 q => sg2.extBut _ _ c3 (sg1.extBut _ _ c2 (sg.extBut _ _ c1 q))
/-- a zip whose last pair is held has none left: its first iterator has none, or its second one has none behind one of the first -/
theorem held_end {z TI TO T i1 i2 : Addr} {f : Bool} {oT : Obj} {Q : Fin → Shared → Prop}
    (hz : IsZipHeld s.heap z TI TO T f) (hT : s.heap.get? T = some oT) (hTI : IsPair s.heap TI (.ref i1) (.ref i2))
    (N : ∀ (h : Heap) (Q' : Value → Shared → Prop), Heap.SameBut z s.heap h →
      (∀ x h1, Heap.SameBut i1 h h1 → (∀ Q'' : Value → Shared → Prop, wpAny (model prog w) A (Builtin.SmallTypes.nextOf (.ref i2)) Q'' E { s with heap := h1 }) → Q' x { s with heap := h1 }) →
      wpAny (model prog w) A (Builtin.SmallTypes.nextOf (.ref i1)) Q' E { s with heap := h }) :
    wpAny (model prog w) A (Builtin.«zip.__next__» ⟨[.ref z], []⟩) Q E s := by
  show wpAny _ _ (field (.ref z) 2 >>= _) _ _ _
  refine wpAny_bind (wpAny_field hz rfl (x := .bool false) rfl ?_)
  show wpAny _ _ (field (.ref z) 3 >>= _) _ _ _
  refine wpAny_bind (wpAny_field hz rfl (x := .ref TI) rfl ?_)
  refine wpAny_bind (wpAny_seqItems hTI rfl ?_)
  show wpAny _ _ (Builtin.SmallTypes.ownedTupleIsFree (.ref z) >>= _) _ _ _
  refine wpAny_bind (wpAny_tupleHeld_zip hz hT fun g hg sg => ?_)
  simp only [Bool.false_eq_true, if_false]
  refine wpAny_bind ?_
  rw [← Array.forIn_toList]
  simp only [List.forIn_cons, List.forIn_nil]
  refine wpAny_bind (wpAny_bind (wpAny_holding ?_))
  show wpAny _ _ (Builtin.SmallTypes.nextOf (.ref i1) >>= _) _ _ _
  refine wpAny_bind (N g _ sg fun x g1 sg1 N2 => wpAny_pure (wpAny_pure ?_))
  refine wpAny_bind (wpAny_bind (wpAny_holding ?_))
  show wpAny _ _ (Builtin.SmallTypes.nextOf (.ref i2) >>= _) _ _ _
  exact wpAny_bind (N2 _)
section
variable {z TI TO T i1 i2 l1 l2 : Addr} {f : Bool} {oT : Obj} {k1 k2 : Nat} {xs ys : Array Value}
theorem next_heldT {x y : Value} {Q : Option Value → Shared → Prop} (D : ZipApart z TI TO i1 i2 l1 l2)
    (hz : IsZipHeld s.heap z TI TO T f) (hT : s.heap.get? T = some oT) (hTI : IsPair s.heap TI (.ref i1) (.ref i2))
    (h1 : s.heap.IsTupleIter i1 l1 k1) (h2 : s.heap.IsTupleIter i2 l2 k2) (hl1 : s.heap.IsTuple l1 xs) (hl2 : s.heap.IsTuple l2 ys) (hx : xs[k1]? = some x) (hy : ys[k2]? = some y)
    (hQ : ∀ h', IsZipHeld h' z TI TO T true → h'.IsTupleIter i1 l1 (k1 + 1) → h'.IsTupleIter i2 l2 (k2 + 1) → IsPair h' s.heap.objs.size x y →
      (∀ c o, c ≠ z → c ≠ i1 → c ≠ i2 → s.heap.get? c = some o → h'.get? c = some o) → Q (some (.ref s.heap.objs.size)) { s with heap := h' }) :
    wpAny (model prog w) A (pyNext (.ref z)) Q E s := by
  have hTy : s.TypeIs (.ref z) "zip" := ⟨_, hz, rfl⟩
  unfold pyNext
  refine wpAny_bind (wpAny_attempt (wpAny_callSpecial?_slot (name := Str.ofString "__next__") hTy F.slot_zip_next (wpAny_call_entry F.slot_zip_next hTy F.entry_zip_next ?_ (F.args_zip_next_1 _))))
  refine held_next (x := x) (y := y) (P := fun h => h.IsTupleIter i1 l1 (k1 + 1) ∧ h.IsTupleIter i2 l2 (k2 + 1)) D.i1z D.i2z hz hT hTI ?_ ?_
  · intro h Q' sg k
    refine RZ.nextOf_tuple_item (s := { s with heap := h }) (h1.extBut sg.extBut D.i1z) (hl1.extBut sg.extBut D.l1z) hx fun g1 a1 sg1 => ?_
    refine k g1 sg1 fun Q'' k2 => ?_
    refine RZ.nextOf_tuple_item (s := { s with heap := g1 }) ((h2.extBut sg.extBut D.i2z).extBut sg1.extBut D.i12.symm) ((hl2.extBut sg.extBut D.l2z).extBut sg1.extBut D.l2i1) hy fun g2 a2 sg2 => ?_
    exact k2 g2 sg2 ⟨a1.extBut sg2.extBut D.i12, a2⟩
  · rintro h3 hz3 ⟨a1, a2⟩ hsz keep
    refine wpAny_pure ?_
    have hp : IsPair (h3.push { cls := .type "tuple", data := .seq #[x, y] }) h3.objs.size x y := Heap.get?_push_size _ rfl
    have up : ∀ c o, h3.get? c = some o → (h3.push { cls := .type "tuple", data := .seq #[x, y] }).get? c = some o := fun c o e => Heap.get?_push_of_some _ e
    rw [hsz] at hp ⊢
    exact hQ _ (up _ _ hz3) (a1.at fun o e => up _ o e) (a2.at fun o e => up _ o e) hp fun c o c1 c2 c3 e => up _ _ (keep c o c1 c2 c3 e)
theorem end_heldT {Q : Option Value → Shared → Prop} (hh : A.handled = none) (D : ZipApart z TI TO i1 i2 l1 l2)
    (hz : IsZipHeld s.heap z TI TO T f) (hT : s.heap.get? T = some oT) (hTI : IsPair s.heap TI (.ref i1) (.ref i2))
    (h1 : s.heap.IsTupleIter i1 l1 k1) (h2 : s.heap.IsTupleIter i2 l2 k2) (hl1 : s.heap.IsTuple l1 xs) (hl2 : s.heap.IsTuple l2 ys) (hend : xs[k1]? = none ∨ ys[k2]? = none)
    (hQ : ∀ h', (∀ c o, c ≠ z → c ≠ i1 → c ≠ i2 → s.heap.get? c = some o → h'.get? c = some o) → Q none { s with heap := h' }) : wpAny (model prog w) A (pyNext (.ref z)) Q E s := by
  have hTy : s.TypeIs (.ref z) "zip" := ⟨_, hz, rfl⟩
  unfold pyNext
  refine wpAny_bind (wpAny_attempt (wpAny_callSpecial?_slot (name := Str.ofString "__next__") hTy F.slot_zip_next (wpAny_call_entry F.slot_zip_next hTy F.entry_zip_next ?_ (F.args_zip_next_1 _))))
  refine held_end hz hT hTI fun h Q' sg k => ?_
  cases hx : xs[k1]? with
  | none =>
    refine RZ.nextOf_tuple_end (s := { s with heap := h }) hh (h1.extBut sg.extBut D.i1z) (hl1.extBut sg.extBut D.l1z) hx fun h' e he st => ?_
    obtain ⟨o, ho, hc⟩ := st
    refine wpAny_bind (wpAny_isInstance (T := "StopIteration") (b := true) ⟨o, ho, hc⟩ isSubtype_stop ?_)
    exact wpAny_pure (hQ _ fun c o c1 c2 _ q => he _ _ c2 (sg.extBut _ _ c1 q))
  | some x =>
    have hy : ys[k2]? = none := by rcases hend with h | h; rw [hx] at h; cases h; exact h
    refine RZ.nextOf_tuple_item (s := { s with heap := h }) (h1.extBut sg.extBut D.i1z) (hl1.extBut sg.extBut D.l1z) hx fun g1 a1 sg1 => ?_
    refine k x g1 sg1 fun Q'' => ?_
    refine RZ.nextOf_tuple_end (s := { s with heap := g1 }) hh ((h2.extBut sg.extBut D.i2z).extBut sg1.extBut D.i12.symm) ((hl2.extBut sg.extBut D.l2z).extBut sg1.extBut D.l2i1) hy fun h' e he st => ?_
    obtain ⟨o, ho, hc⟩ := st
    refine wpAny_bind (wpAny_isInstance (T := "StopIteration") (b := true) ⟨o, ho, hc⟩ isSubtype_stop ?_)
    exact wpAny_pure (hQ _ fun c o c1 c2 c3 q => he _ _ c3 (sg1.extBut _ _ c2 (sg.extBut _ _ c1 q)))
end
end
/-- a zip that hands out new pairs, its i-th next -/
structure ZTt (h : Heap) (z TI TO i1 i2 a b S : Addr) (i : Nat) : Prop where
  st : (IsZip h z TI TO .none ∧ ∃ x y, IsPair h TO x y) ∨ ∃ T f oT, IsZipHeld h z TI TO T f ∧ h.get? T = some oT ∧ T ≠ z ∧ T ≠ i1 ∧ T ≠ i2 ∧ T ≠ S
  ti : IsPair h TI (.ref i1) (.ref i2)
  h1 : h.IsTupleIter i1 a i
  h2 : h.IsTupleIter i2 b i
  to : ∃ o, h.get? TO = some o
theorem ZTt.type {h : Heap} {z TI TO i1 i2 a b S : Addr} {i : Nat} (Z : ZTt h z TI TO i1 i2 a b S i) : ∃ fs, h.get? z = some { cls := .type "zip", dict := none, data := .fields fs, slots := #[] } := by
  rcases Z.st with ⟨h, _⟩ | ⟨T, f, oT, h, _⟩
  · exact ⟨_, h⟩
  · exact ⟨_, h⟩
/-- what is written at S alone leaves it -/
theorem ZTt.frame {h h' : Heap} {z TI TO i1 i2 a b S : Addr} {i : Nat} (Z : ZTt h z TI TO i1 i2 a b S i) (D : S ≠ z ∧ S ≠ TI ∧ S ≠ TO ∧ S ≠ i1 ∧ S ≠ i2) (k : ∀ c o, c ≠ S → h.get? c = some o → h'.get? c = some o) : ZTt h' z TI TO i1 i2 a b S i := by
  refine ⟨?_, k _ _ (Ne.symm D.2.1) Z.ti, Z.h1.at fun o q => k _ _ (Ne.symm D.2.2.2.1) q, Z.h2.at fun o q => k _ _ (Ne.symm D.2.2.2.2) q, let ⟨o, q⟩ := Z.to; ⟨o, k _ _ (Ne.symm D.2.2.1) q⟩⟩
  rcases Z.st with ⟨hz, x, y, hTO⟩ | ⟨T, f, oT, hz, hT, n1, n2, n3, n4⟩
  · exact .inl ⟨k _ _ (Ne.symm D.1) hz, x, y, k _ _ (Ne.symm D.2.2.1) hTO⟩
  · exact .inr ⟨T, f, oT, k _ _ (Ne.symm D.1) hz, k _ _ n4 hT, n1, n2, n3, n4⟩
section
variable {prog : Program} {w : World} {A : Around} {E : Value → Shared → Prop} {s : Shared} {z TI TO i1 i2 a b S : Addr} {i : Nat} {xs ys : Array Value}
theorem zt_item {x y : Value} {Q : Option Value → Shared → Prop} (D : ZipApart z TI TO i1 i2 a b) (Z : ZTt s.heap z TI TO i1 i2 a b S i) (hS : S < s.heap.objs.size) (hl1 : s.heap.IsTuple a xs) (hl2 : s.heap.IsTuple b ys) (hx : xs[i]? = some x) (hy : ys[i]? = some y)
    (hQ : ∀ h', ZTt h' z TI TO i1 i2 a b S (i + 1) → IsPair h' s.heap.objs.size x y → (∀ c o, c ≠ z → c ≠ TO → c ≠ i1 → c ≠ i2 → s.heap.get? c = some o → h'.get? c = some o) → Q (some (.ref s.heap.objs.size)) { s with heap := h' }) :
    wpAny (model prog w) A (pyNext (.ref z)) Q E s := by
  have lz : z < s.heap.objs.size := by obtain ⟨fs, h⟩ := Z.type; exact Heap.lt_size h
  have l1 : i1 < s.heap.objs.size := by obtain ⟨_, e, _⟩ := Z.h1; exact Heap.lt_size e
  have l2 : i2 < s.heap.objs.size := by obtain ⟨_, e, _⟩ := Z.h2; exact Heap.lt_size e
  rcases Z.st with ⟨hz, p, q, hTO⟩ | ⟨T, f, oT, hz, hT, n1, n2, n3, n4⟩
  · refine RZ.pyNext_zipT_item D hz Z.ti hTO Z.h1 Z.h2 hl1 hl2 hx hy fun h' a1 a2 a3 a4 a5 a6 a7 => ?_
    refine hQ h' ⟨.inr ⟨s.heap.objs.size, false, _, a1, a5, Nat.ne_of_gt lz, Nat.ne_of_gt l1, Nat.ne_of_gt l2, Nat.ne_of_gt hS⟩, a7 _ _ D.TIz D.TITO D.TIi1 D.TIi2 Z.ti, a3, a4, _, a2⟩ a5 a7
  · refine next_heldT D hz hT Z.ti Z.h1 Z.h2 hl1 hl2 hx hy fun h' a1 a3 a4 a5 a7 => ?_
    refine hQ h' ⟨.inr ⟨T, true, oT, a1, a7 _ _ n1 n2 n3 hT, n1, n2, n3, n4⟩, a7 _ _ D.TIz D.TIi1 D.TIi2 Z.ti, a3, a4, let ⟨o, q⟩ := Z.to; ⟨o, a7 _ _ D.TOz D.TOi1 D.TOi2 q⟩⟩ a5 fun c o c1 _ c3 c4 e => a7 c o c1 c3 c4 e
theorem zt_end {Q : Option Value → Shared → Prop} (hh : A.handled = none) (D : ZipApart z TI TO i1 i2 a b) (Z : ZTt s.heap z TI TO i1 i2 a b S i) (hl1 : s.heap.IsTuple a xs) (hl2 : s.heap.IsTuple b ys) (he : xs[i]? = none ∨ ys[i]? = none)
    (hQ : ∀ h', (∀ c o, c ≠ z → c ≠ TO → c ≠ i1 → c ≠ i2 → s.heap.get? c = some o → h'.get? c = some o) → Q none { s with heap := h' }) : wpAny (model prog w) A (pyNext (.ref z)) Q E s := by
  rcases Z.st with ⟨hz, p, q, hTO⟩ | ⟨T, f, oT, hz, hT, n1, n2, n3, n4⟩
  · exact RZ.pyNext_zipT_end hh D hz Z.ti hTO Z.h1 Z.h2 hl1 hl2 he fun h' hk => hQ h' hk
  · exact end_heldT hh D hz hT Z.ti Z.h1 Z.h2 hl1 hl2 he fun h' hk => hQ h' fun c o c1 _ c3 c4 e => hk c o c1 c3 c4 e
end
section
variable {X : Cx} {pins : List (Addr × Obj)} {σ : L2.St} {z TI TO i1 i2 a b S : Addr} {xs ys : List V} {A : Around} {R : Result → Shared → Prop}
theorem sqt_keep {K : PySem.W.Frag} {H H' : Hp} {a : Addr} {xs : List V} (h : SqT K H a xs) (k : ∀ o, H a = some o → H' a = some o) : SqT K H' a xs := by
  rcases h with (h | ⟨o, h⟩) | h
  · exact .inl (.inl (k _ h))
  · exact .inl (.inr ⟨o, k _ h⟩)
  · exact .inr h
theorem ext_loopT (hh : A.handled = none) (D : ZipApart z TI TO i1 i2 a b) (hSn : S ≠ z ∧ S ≠ TI ∧ S ≠ TO ∧ S ≠ i1 ∧ S ≠ i2) (hSa : S ≠ a ∧ S ≠ b) (hx16 : min xs.length ys.length ≤ sizeLine) :
    ∀ (k i : Nat) (s : Shared) (H : Hp) (Ts : List Addr), min xs.length ys.length - i = k → Ts.length = i → i ≤ min xs.length ys.length → Inv X pins σ H s → H S = some (.lst (Ts.map V.ref)) → SqT X.K H a xs → SqT X.K H b ys → PairsAt H Ts xs ys →
      (∀ c ∈ [z, TI, TO, i1, i2], FpOk X pins H c) → ZTt s.heap z TI TO i1 i2 a b S i →
      (∀ H' s' Ts', Inv X pins σ H' s' → H' S = some (.lst (Ts'.map V.ref)) → Ts'.length = min xs.length ys.length → PairsAt H' Ts' xs ys → (∀ c o, c ≠ S → H c = some o → H' c = some o) → R (.ok (.ret .none)) s') →
      codeAny (model X.prog X.w) A (.builtin "list.extend.loop" ⟨[.ref S, .ref z, .none], []⟩) R s := by
  intro k
  induction k with
  | zero =>
    intro i s H Ts hk hi hle I hS hqa hqb hp hf Z hR
    obtain ⟨its, rv, p, _⟩ := I.tuple hqa
    obtain ⟨its2, rv2, p2, _⟩ := I.tuple hqb
    have l1 := rv.length
    have l2 := rv2.length
    refine codeAny_builtin F.entry_extend_loop ?_
    rw [Around.under_plainId F.plain_extend_loop _]
    show wpAny _ A.in1 (pyNext (.ref z) >>= _) _ _ s
    refine wpAny_bind (zt_end (by exact hh) D Z p p2 (by
      rcases Nat.le_total xs.length ys.length with q | q
      · exact .inl (by simp; omega)
      · exact .inr (by simp; omega)) fun h' hk' => ?_)
    have I1 : Inv X pins σ H { s with heap := h' } := I.turnedL (t' := s.toks) (ch := [z, TI, TO, i1, i2]) (fun c o hb q => hk' c o (fun q' => hb (by simp [q'])) (fun q' => hb (by simp [q'])) (fun q' => hb (by simp [q'])) (fun q' => hb (by simp [q'])) q) hf
    exact wpAny_pure (hR H _ Ts I1 hS (by omega) hp fun _ _ _ e => e)
  | succ k ih =>
    intro i s H Ts hk hi hle I hS hqa hqb hp hf Z hR
    have hlt : i < min xs.length ys.length := by omega
    obtain ⟨its, rv, p, _⟩ := I.tuple hqa
    obtain ⟨its2, rv2, p2, _⟩ := I.tuple hqb
    have l1 := rv.length
    have l2 := rv2.length
    have hx : xs[i]? = some (xs[i]'(by omega)) := List.getElem?_eq_getElem _
    have hy : ys[i]? = some (ys[i]'(by omega)) := List.getElem?_eq_getElem _
    generalize xs[i]'(by omega) = x at hx
    generalize ys[i]'(by omega) = y at hy
    obtain ⟨u, hu, ru⟩ := rv.get hx
    obtain ⟨u2, hu2, ru2⟩ := rv2.get hy
    obtain ⟨_, its3, n3, r3, e3', e3⟩ := I.lstM hS
    have lS : S < s.heap.objs.size := Heap.lt_size e3
    refine codeAny_builtin F.entry_extend_loop ?_
    rw [Around.under_plainId F.plain_extend_loop _]
    show wpAny _ A.in1 (pyNext (.ref z) >>= _) _ _ s
    refine wpAny_bind (zt_item (x := u) (y := u2) D Z lS p p2 (by simpa using hu) (by simpa using hu2) fun h' Z' hT hk' => ?_)
    have new : ObjOk X.prog X.w (upd H s.heap.objs.size (.tup [x, y])) h' s.heap.objs.size (.tup [x, y]) :=
      ⟨by show 2 ≤ sizeLine; decide, [u, u2], .cons ru (.cons ru2 .nil), ⟨_, hT, rfl, _, rfl⟩⟩
    have hn : H s.heap.objs.size = none := I.hok.fresh (Nat.le_refl _)
    have I1 : Inv X pins σ (upd H s.heap.objs.size (.tup [x, y])) { s with heap := h' } :=
      I.turnedNew (t' := s.toks) (ch := [z, TI, TO, i1, i2]) (fun c o hb q => hk' c o (fun q' => hb (by simp [q'])) (fun q' => hb (by simp [q'])) (fun q' => hb (by simp [q'])) (fun q' => hb (by simp [q'])) q) hf (Nat.le_refl _) new
    have nS : S ≠ s.heap.objs.size := Nat.ne_of_lt lS
    have hS1 : upd H s.heap.objs.size (.tup [x, y]) S = some (.lst (Ts.map V.ref)) := by rw [upd_ne nS]; exact hS
    obtain ⟨z4, its4, n4, r4, e4', e4⟩ := I1.lstM hS1
    have r4l := r4.length
    rw [List.length_map] at r4l
    show wpAny _ A.in1 (updateSeq S (·.push (.ref s.heap.objs.size)) >>= _) _ _ _
    refine wpAny_bind ?_
    have I2 : Inv X pins σ (upd (upd H s.heap.objs.size (.tup [x, y])) S (.lst ((Ts ++ [s.heap.objs.size]).map V.ref))) { s with heap := h'.update S (Obj.mapSeq (·.push (.ref s.heap.objs.size))), toks := s.toks } :=
      I1.lset (its' := its4 ++ [.ref s.heap.objs.size]) hS1 e4 (by simp) (by rw [List.map_append]; exact r4.append (.cons rfl .nil)) (by rw [List.length_map, List.length_append]; show Ts.length + 1 ≤ _; omega)
    have keepH : ∀ c o, c ≠ S → H c = some o → upd (upd H s.heap.objs.size (.tup [x, y])) S (.lst ((Ts ++ [s.heap.objs.size]).map V.ref)) c = some o := fun c o hc e => by
      rw [upd_ne hc, upd_ne (ne_of_none e hn)]; exact e
    refine wpAny_updateSeq e4 rfl (wpAny_pure ⟨plainId_quiet F.plain_extend_loop _, ih (i + 1) _ _ (Ts ++ [s.heap.objs.size]) (by omega) (by rw [List.length_append, hi]; rfl) hlt I2 upd_same ?_ ?_ ?_ (fun c hc => ?_) ?_ fun H' s' Ts' J e1 e2 e3 e4 => hR H' s' Ts' J e1 e2 e3 fun c o hc e => e4 c o hc (keepH c o hc e)⟩) ?_ ?_
    · exact sqt_keep hqa fun o e => keepH _ _ (Ne.symm hSa.1) e
    · exact sqt_keep hqb fun o e => keepH _ _ (Ne.symm hSa.2) e
    · obtain ⟨q1, q2, q3⟩ := hp
      refine ⟨by rw [List.length_append]; show Ts.length + 1 ≤ _; omega, by rw [List.length_append]; show Ts.length + 1 ≤ _; omega, fun j T hj => ?_⟩
      by_cases hlt2 : j < Ts.length
      · rw [List.getElem?_append_left hlt2] at hj
        obtain ⟨x', y', g1, g2, g3⟩ := q3 j T hj
        refine ⟨x', y', g1, g2, keepH _ _ (fun z => ?_) g3⟩
        rw [z, hS] at g3
        cases g3
      · rw [List.getElem?_append_right (by omega)] at hj
        have hj0 : j - Ts.length = 0 := by
          cases hq : j - Ts.length with
          | zero => rfl
          | succ m => rw [hq] at hj; cases hj
        rw [hj0] at hj
        cases hj
        have : j = i := by omega
        subst this
        exact ⟨x, y, hx, hy, by rw [upd_ne (Ne.symm nS), upd_same]⟩
    · obtain ⟨f1, f2⟩ := hf c hc
      have hcl : c < s.heap.objs.size ∧ c ≠ S := by
        have e' : c = z ∨ c = TI ∨ c = TO ∨ c = i1 ∨ c = i2 := by simpa using hc
        have lTO : TO < s.heap.objs.size := by
          obtain ⟨o, h⟩ := Z.to
          exact Heap.lt_size h
        rcases e' with q | q | q | q | q <;> subst q
        · obtain ⟨fs, h⟩ := Z.type; exact ⟨Heap.lt_size h, Ne.symm hSn.1⟩
        · exact ⟨Heap.lt_size Z.ti, Ne.symm hSn.2.1⟩
        · exact ⟨lTO, Ne.symm hSn.2.2.1⟩
        · obtain ⟨_, e, _⟩ := Z.h1; exact ⟨Heap.lt_size e, Ne.symm hSn.2.2.2.1⟩
        · obtain ⟨_, e, _⟩ := Z.h2; exact ⟨Heap.lt_size e, Ne.symm hSn.2.2.2.2⟩
      exact ⟨by rw [upd_ne hcl.2, upd_ne (Nat.ne_of_lt hcl.1)]; exact f1, f2⟩
    · exact Z'.frame hSn fun c o hc e => (Heap.get?_update_other _ _ (Ne.symm hc)).trans e
    · rw [List.size_toArray]
      omega
    · rw [Array.size_push, List.size_toArray]
      omega
theorem init_zipT {s : Shared} {H : Hp} (hh : A.handled = none) (D : ZipApart z TI TO i1 i2 a b) (hSn : S ≠ z ∧ S ≠ TI ∧ S ≠ TO ∧ S ≠ i1 ∧ S ≠ i2) (hSa : S ≠ a ∧ S ≠ b) (hx16 : min xs.length ys.length ≤ sizeLine)
    (I : Inv X pins σ H s) (hS : H S = some (.lst [])) (e : s.heap.get? S = some { cls := .type "list", data := .seq #[] }) (hqa : SqT X.K H a xs) (hqb : SqT X.K H b ys) (hf : ∀ c ∈ [z, TI, TO, i1, i2], FpOk X pins H c) (Z : ZTt s.heap z TI TO i1 i2 a b S 0) (hz0 : IsZip s.heap z TI TO .none)
    (hR : ∀ H' s' Ts', Inv X pins σ H' s' → H' S = some (.lst (Ts'.map V.ref)) → Ts'.length = min xs.length ys.length → PairsAt H' Ts' xs ys → (∀ c o, c ≠ S → H c = some o → H' c = some o) → R (.ok (.ret .none)) s') :
    wpAny (model X.prog X.w) A.in1 (Builtin.«list.__init__» ⟨[.ref S, .ref z], []⟩)
      (fun fin s' => match fin with | .done f => R (.ok f) s' | .again c' => c'.quiet = true ∧ codeAny (model X.prog X.w) A c' R s') (fun e s' => R (.error e) s') s := by
  show wpAny _ A.in1 (do let old ← Builtin.List.listItems (.ref S); Builtin.List.listUpdate (.ref S) (fun _ => #[]); letGo old.toList.reverse; Builtin.List.listExtendWith (.ref S) (.ref z) .none) _ _ s
  refine wpAny_bind ?_
  unfold Builtin.List.listItems
  refine wpAny_bind (wpAny_seqItems e rfl (wpAny_pure ?_))
  show wpAny _ A.in1 (updateSeq S (fun _ => #[]) >>= fun _ => letGo (#[] : Array Value).toList.reverse >>= fun _ => Builtin.List.listExtendWith (.ref S) (.ref z) .none) _ _ s
  have I1 : Inv X pins σ (upd H S (.lst [])) { s with heap := s.heap.update S (Obj.mapSeq (fun _ => (#[] : Array Value))), toks := s.toks } := I.lset (its := []) (its' := []) hS e rfl .nil (Nat.zero_le _)
  have hup : upd H S (.lst []) = H := by
    funext c
    by_cases hc : c = S
    · rw [hc, upd_same, hS]
    · rw [upd_ne hc]
  rw [hup] at I1
  refine wpAny_bind (wpAny_updateSeq e rfl ?_)
  have e2 := Heap.get?_update_self (Obj.mapSeq (fun _ => (#[] : Array Value))) e rfl
  have Z1 : ZTt (s.heap.update S (Obj.mapSeq (fun _ => (#[] : Array Value)))) z TI TO i1 i2 a b S 0 := Z.frame hSn fun c o hc q => (Heap.get?_update_other _ _ (Ne.symm hc)).trans q
  have hz1 : IsZip (s.heap.update S (Obj.mapSeq (fun _ => (#[] : Array Value)))) z TI TO .none := (Heap.get?_update_other _ _ hSn.1).trans hz0
  refine wpAny_bind (wpAny_letGo ?_)
  generalize s.heap.update S (Obj.mapSeq (fun _ => (#[] : Array Value))) = h1 at I1 e2 Z1 hz1 ⊢
  obtain ⟨fs, hz⟩ := Z1.type
  have hT : (⟨h1, s.gens, s.drawn, s.toks, s.os⟩ : Shared).TypeIs (.ref z) "zip" := ⟨_, hz, rfl⟩
  unfold Builtin.List.listExtendWith
  refine wpAny_bind (wpAny_typeOf hT ?_)
  have q1 : Builtin.List.listSameRef (.ref S) (.ref z) = false := by simp [Builtin.List.listSameRef, hSn.1]
  have q2 : (Value.type "zip" == Value.type "list") = false := by decide
  have q3 : (Value.type "zip" == Value.type "tuple") = false := by decide
  simp only [q1, q2, q3, Bool.or_false, Bool.false_eq_true, if_false]
  refine wpAny_bind (wpAny_pyIter_zip (s := ⟨h1, s.gens, s.drawn, s.toks, s.os⟩) hz1 ?_)
  refine wpAny_bind (wpAny_holding ?_)
  unfold Builtin.List.listLengthHint
  refine wpAny_bind (wpAny_specialOf hT zip_no_len ?_)
  show wpAny _ A.in1 (specialOf (Value.ref z) (Str.ofString "__length_hint__") >>= _) _ _ _
  refine wpAny_bind (wpAny_specialOf hT zip_no_hint ?_)
  refine wpAny_pure ?_
  have loop : ∀ h2, Inv X pins σ H ⟨h2, s.gens, s.drawn, s.toks, s.os⟩ → ZTt h2 z TI TO i1 i2 a b S 0 → codeAny (model X.prog X.w) A (.builtin "list.extend.loop" ⟨[.ref S, .ref z, .none], []⟩) R ⟨h2, s.gens, s.drawn, s.toks, s.os⟩ := fun h2 I2 Z2 =>
    ext_loopT hh D hSn hSa hx16 _ 0 _ H [] rfl rfl (Nat.zero_le _) I2 hS hqa hqb ⟨Nat.zero_le _, Nat.zero_le _, fun j T hj => by cases hj⟩ hf Z2 hR
  show wpAny _ A.in1 (rule "list.extend.makes-room" >>= fun _ => Builtin.List.listTouch (.ref S) >>= fun _ =>
    again (.builtin "list.extend.loop" ⟨[.ref S, .ref z, .none], []⟩)) _ _ _
  refine wpAny_bind (wpAny_rule ?_)
  refine wpAny_bind ?_
  show wpAny _ A.in1 (updateSeq S (·.push .none) >>= fun _ => updateSeq S (·.pop)) _ _ _
  have I2 : Inv X pins σ (upd H S (.lst [.non])) ⟨h1.update S (Obj.mapSeq (·.push Value.none)), s.gens, s.drawn, s.toks, s.os⟩ := I1.lset (its := []) (its' := [.none]) hS e2 rfl (.cons rfl .nil) (by show 1 ≤ sizeLine; decide)
  refine wpAny_bind (wpAny_updateSeq e2 rfl ?_)
  have e3 := Heap.get?_update_self (Obj.mapSeq (·.push Value.none)) e2 rfl
  have I3 : Inv X pins σ (upd (upd H S (.lst [.non])) S (.lst [])) ⟨(h1.update S (Obj.mapSeq (·.push Value.none))).update S (Obj.mapSeq (·.pop)), s.gens, s.drawn, s.toks, s.os⟩ := I2.lset (its := [.none]) (its' := []) upd_same e3 rfl .nil (Nat.zero_le _)
  have hup3 : upd (upd H S (.lst [.non])) S (.lst []) = H := by
    funext c
    by_cases hc : c = S
    · rw [hc, upd_same, hS]
    · rw [upd_ne hc, upd_ne hc]
  rw [hup3] at I3
  refine wpAny_updateSeq (hz := by seq_fits) e3 rfl ?_
  have Z3 : ZTt ((h1.update S (Obj.mapSeq (·.push Value.none))).update S (Obj.mapSeq (·.pop))) z TI TO i1 i2 a b S 0 := (Z1.frame hSn fun c o hc q => (Heap.get?_update_other _ _ (Ne.symm hc)).trans q).frame hSn fun c o hc q => (Heap.get?_update_other _ _ (Ne.symm hc)).trans q
  exact wpAny_pure ⟨plainId_quiet F.plain_extend_loop _, loop _ I3 Z3⟩
/-- list(zip(e, f)) of two lists or of two tuples -/
theorem pe_lzip2 {e f : Expr} {ta : TA} {p1 p2 pos1 pos2 : Pos} (hc : X.calm = true) (hg : Gl X "zip") (hm : X.mg "zip" = none) (hgl : Gl X "list") (hml : X.mg "list" = none) (ha : PA X [e, f] ta)
    (hs : starEach [e, f] X.env = (false, eval e X.env) :: starEach [f] X.env) (hpl : (backTo pos1 (starEach [f] X.env)).any (·.1) = false)
    (hs2 : starEach [.Call (.Name "zip" p1) [e, f] [] pos1] X.env = [(false, eval (.Call (.Name "zip" p1) [e, f] [] pos1) X.env)]) :
    PE X (.Call (.Name "list" p2) [.Call (.Name "zip" p1) [e, f] [] pos1] [] pos2) (fun σ H Q => ta σ H fun vs H1 => ∃ (a b : Addr) (xs ys : List V), vs = [.ref a, .ref b] ∧ ((SqL X.K H1 a xs ∧ SqL X.K H1 b ys) ∨ (SqT X.K H1 a xs ∧ SqT X.K H1 b ys)) ∧
      ∀ S Ts H2, H1 S = none → H2 S = some (.lst (Ts.map V.ref)) → Ts.length = min xs.length ys.length → PairsAt H2 Ts xs ys → (∀ c o, H1 c = some o → H2 c = some o) → Q (.ref S) H2) := by
  refine ⟨fun pins s σ H Q I h => ?_⟩
  refine Call_ (ld_blt I hgl hml PyProof.Rows.Boot.«list» (PyProof.Rows.callWith_type1 ?_ hs2 rfl))
  rw [hs2]
  refine Calls.spliced_cons ?_
  refine Call_ (ld_blt I hg hm PyProof.Rows.boot_zip (PyProof.Rows.callWith_type1 (thn (ha.run pos1 pins s σ H _ I h) fun us s1 ⟨vs, H1, I1, r1, q1⟩ => ?_) hs hpl))
  obtain ⟨a, b, xs, ys, ex, hq, q⟩ := q1
  subst ex
  obtain ⟨v1, v2, rfl, ra, rb⟩ := vals2 r1
  cases (show v1 = Value.ref a from ra)
  cases (show v2 = Value.ref b from rb)
  rcases hq with ⟨hqx, hqy⟩ | ⟨hqx, hqy⟩
  · obtain ⟨its, rv, p1', hz16⟩ := I1.list hqx
    obtain ⟨its2, rv2, p2', _⟩ := I1.list hqy
    have hx16 : min xs.length ys.length ≤ sizeLine := Nat.le_trans (Nat.min_le_left _ _) hz16
    have la : a < s1.heap.objs.size := p1'.lt
    have lb : b < s1.heap.objs.size := p2'.lt
    refine call_zip_2 p1'.isList p2'.isList fun h' hz hTI hTO h1 h2 hsz hk => ?_
    have I2 : Inv X pins σ H1 { s1 with heap := h' } := I1.kept (t' := s1.toks) hk
    refine Calls.spliced_nil ?_
    have D := PySem.W.ktu_apart s1.heap.objs.size a b la lb
    have fpo : ∀ c ∈ [s1.heap.objs.size + 4, s1.heap.objs.size + 2, s1.heap.objs.size + 3, s1.heap.objs.size, s1.heap.objs.size + 1], FpOk X pins H1 c := fun c hcm => by
      have e' : c = s1.heap.objs.size + 4 ∨ c = s1.heap.objs.size + 2 ∨ c = s1.heap.objs.size + 3 ∨ c = s1.heap.objs.size ∨ c = s1.heap.objs.size + 1 := by simpa using hcm
      have hle : s1.heap.objs.size ≤ c := by
        rcases e' with z | z | z | z | z <;> rw [z] <;> first | exact Nat.le_add_right _ _ | exact Nat.le_refl _
      exact I1.fpOk hle (I1.hok.fresh hle)
    have lz : s1.heap.objs.size + 4 < h'.objs.size := Heap.lt_size hz
    generalize hzz : s1.heap.objs.size + 4 = z at *
    generalize hTT : s1.heap.objs.size + 2 = TI at *
    generalize hTO' : s1.heap.objs.size + 3 = TO at *
    generalize hi2 : s1.heap.objs.size + 1 = i2 at *
    generalize hi1 : s1.heap.objs.size = i1 at *
    refine callType_codes (Q₁ := fun obj s₁ => obj = .ref h'.objs.size ∧ s₁ = ⟨h'.push { cls := .type "list", data := .seq #[] }, s1.gens, s1.drawn, s1.toks, s1.os⟩) F.called_list (F.typeCall_list_1 _) F.entry_list_init
      (code_list_new _ ⟨rfl, rfl⟩) fun obj s₁ h₁ => ?_
    obtain ⟨rfl, rfl⟩ := h₁
    have hS : (h'.push { cls := .type "list", data := .seq #[] }).get? h'.objs.size = some { cls := .type "list", data := .seq #[] } := Heap.get?_push_size _ rfl
    have I3 : Inv X pins σ (upd H1 h'.objs.size (.lst [])) ⟨h'.push { cls := .type "list", data := .seq #[] }, s1.gens, s1.drawn, s1.toks, s1.os⟩ := I2.lnew (its := []) (t' := s1.toks) .nil (Nat.zero_le _)
    have nS : H1 h'.objs.size = none := I2.hok.fresh (Nat.le_refl _)
    have pk : ∀ c o, h'.get? c = some o → (h'.push { cls := .type "list", data := .seq #[] }).get? c = some o := fun c o q => Heap.get?_push_of_some _ q
    have old : ∀ c o, H1 c = some o → upd H1 h'.objs.size (.lst []) c = some o := fun c o q => by rw [upd_ne (ne_of_none q nS)]; exact q
    have d1 : h'.objs.size ≠ z ∧ h'.objs.size ≠ TI ∧ h'.objs.size ≠ TO ∧ h'.objs.size ≠ i1 ∧ h'.objs.size ≠ i2 := ⟨Nat.ne_of_gt lz, Nat.ne_of_gt (by rw [hsz, ← hTT]; exact Nat.add_lt_add_left (by decide) _), Nat.ne_of_gt (by rw [hsz, ← hTO']; exact Nat.add_lt_add_left (by decide) _), Nat.ne_of_gt (by rw [hsz]; exact Nat.lt_add_of_pos_right (by decide)), Nat.ne_of_gt (by rw [hsz, ← hi2]; exact Nat.add_lt_add_left (by decide) _)⟩
    have d2 : h'.objs.size ≠ a ∧ h'.objs.size ≠ b := ⟨Nat.ne_of_gt (Nat.lt_of_lt_of_le la (by rw [hsz]; exact Nat.le_add_right _ _)), Nat.ne_of_gt (Nat.lt_of_lt_of_le lb (by rw [hsz]; exact Nat.le_add_right _ _))⟩
    refine ⟨⟨_, hS, rfl⟩, F.args_list_init_2 _ _, init_zip (X := X) (pins := pins) (σ := σ) (A := X.A.in1) (by exact (I.ok.hd hc)) D d1 d2 hx16 I3 upd_same hS
      (sql_keep hqx fun o e => old _ _ e) (sql_keep hqy fun o e => old _ _ e) (fun c hcm => ?_) ⟨.inl ⟨pk _ _ hz, _, _, pk _ _ hTO⟩, pk _ _ hTI, h1.at fun o q => pk _ _ q, h2.at fun o q => pk _ _ q, _, pk _ _ hTO⟩ (pk _ _ hz) fun H' s' Ts' J e1 e2 e3 e4 => ?_⟩
    · obtain ⟨f1, f2⟩ := fpo c hcm
      have hcl : c ≠ h'.objs.size := by
        have e' : c = z ∨ c = TI ∨ c = TO ∨ c = i1 ∨ c = i2 := by simpa using hcm
        rcases e' with q | q | q | q | q <;> rw [q]
        · exact Ne.symm d1.1
        · exact Ne.symm d1.2.1
        · exact Ne.symm d1.2.2.1
        · exact Ne.symm d1.2.2.2.1
        · exact Ne.symm d1.2.2.2.2
      exact ⟨by rw [upd_ne hcl]; exact f1, f2⟩
    · exact ⟨rfl, .ref h'.objs.size, H', J, rfl, q _ Ts' H' nS e1 e2 e3 fun c o e => e4 c o (ne_of_none e nS) (old c o e)⟩
  · obtain ⟨its, rv, p1', hz16⟩ := I1.tuple hqx
    obtain ⟨its2, rv2, p2', _⟩ := I1.tuple hqy
    have hx16 : min xs.length ys.length ≤ sizeLine := Nat.le_trans (Nat.min_le_left _ _) hz16
    have la : a < s1.heap.objs.size := p1'.lt
    have lb : b < s1.heap.objs.size := p2'.lt
    refine RZ.call_zipT p1' p2' fun h' hz hTI hTO h1 h2 hsz hk => ?_
    have I2 : Inv X pins σ H1 { s1 with heap := h' } := I1.kept (t' := s1.toks) hk
    refine Calls.spliced_nil ?_
    have D := PySem.W.ktu_apart s1.heap.objs.size a b la lb
    have fpo : ∀ c ∈ [s1.heap.objs.size + 4, s1.heap.objs.size + 2, s1.heap.objs.size + 3, s1.heap.objs.size, s1.heap.objs.size + 1], FpOk X pins H1 c := fun c hcm => by
      have e' : c = s1.heap.objs.size + 4 ∨ c = s1.heap.objs.size + 2 ∨ c = s1.heap.objs.size + 3 ∨ c = s1.heap.objs.size ∨ c = s1.heap.objs.size + 1 := by simpa using hcm
      have hle : s1.heap.objs.size ≤ c := by
        rcases e' with z | z | z | z | z <;> rw [z] <;> first | exact Nat.le_add_right _ _ | exact Nat.le_refl _
      exact I1.fpOk hle (I1.hok.fresh hle)
    have lz : s1.heap.objs.size + 4 < h'.objs.size := Heap.lt_size hz
    generalize hzz : s1.heap.objs.size + 4 = z at *
    generalize hTT : s1.heap.objs.size + 2 = TI at *
    generalize hTO' : s1.heap.objs.size + 3 = TO at *
    generalize hi2 : s1.heap.objs.size + 1 = i2 at *
    generalize hi1 : s1.heap.objs.size = i1 at *
    refine callType_codes (Q₁ := fun obj s₁ => obj = .ref h'.objs.size ∧ s₁ = ⟨h'.push { cls := .type "list", data := .seq #[] }, s1.gens, s1.drawn, s1.toks, s1.os⟩) F.called_list (F.typeCall_list_1 _) F.entry_list_init
      (code_list_new _ ⟨rfl, rfl⟩) fun obj s₁ h₁ => ?_
    obtain ⟨rfl, rfl⟩ := h₁
    have hS : (h'.push { cls := .type "list", data := .seq #[] }).get? h'.objs.size = some { cls := .type "list", data := .seq #[] } := Heap.get?_push_size _ rfl
    have I3 : Inv X pins σ (upd H1 h'.objs.size (.lst [])) ⟨h'.push { cls := .type "list", data := .seq #[] }, s1.gens, s1.drawn, s1.toks, s1.os⟩ := I2.lnew (its := []) (t' := s1.toks) .nil (Nat.zero_le _)
    have nS : H1 h'.objs.size = none := I2.hok.fresh (Nat.le_refl _)
    have pk : ∀ c o, h'.get? c = some o → (h'.push { cls := .type "list", data := .seq #[] }).get? c = some o := fun c o q => Heap.get?_push_of_some _ q
    have old : ∀ c o, H1 c = some o → upd H1 h'.objs.size (.lst []) c = some o := fun c o q => by rw [upd_ne (ne_of_none q nS)]; exact q
    have d1 : h'.objs.size ≠ z ∧ h'.objs.size ≠ TI ∧ h'.objs.size ≠ TO ∧ h'.objs.size ≠ i1 ∧ h'.objs.size ≠ i2 := ⟨Nat.ne_of_gt lz, Nat.ne_of_gt (by rw [hsz, ← hTT]; exact Nat.add_lt_add_left (by decide) _), Nat.ne_of_gt (by rw [hsz, ← hTO']; exact Nat.add_lt_add_left (by decide) _), Nat.ne_of_gt (by rw [hsz]; exact Nat.lt_add_of_pos_right (by decide)), Nat.ne_of_gt (by rw [hsz, ← hi2]; exact Nat.add_lt_add_left (by decide) _)⟩
    have d2 : h'.objs.size ≠ a ∧ h'.objs.size ≠ b := ⟨Nat.ne_of_gt (Nat.lt_of_lt_of_le la (by rw [hsz]; exact Nat.le_add_right _ _)), Nat.ne_of_gt (Nat.lt_of_lt_of_le lb (by rw [hsz]; exact Nat.le_add_right _ _))⟩
    refine ⟨⟨_, hS, rfl⟩, F.args_list_init_2 _ _, init_zipT (X := X) (pins := pins) (σ := σ) (A := X.A.in1) (by exact (I.ok.hd hc)) D d1 d2 hx16 I3 upd_same hS
      (sqt_keep hqx fun o e => old _ _ e) (sqt_keep hqy fun o e => old _ _ e) (fun c hcm => ?_) ⟨.inl ⟨pk _ _ hz, _, _, pk _ _ hTO⟩, pk _ _ hTI, h1.at fun o q => pk _ _ q, h2.at fun o q => pk _ _ q, _, pk _ _ hTO⟩ (pk _ _ hz) fun H' s' Ts' J e1 e2 e3 e4 => ?_⟩
    · obtain ⟨f1, f2⟩ := fpo c hcm
      have hcl : c ≠ h'.objs.size := by
        have e' : c = z ∨ c = TI ∨ c = TO ∨ c = i1 ∨ c = i2 := by simpa using hcm
        rcases e' with q | q | q | q | q <;> rw [q]
        · exact Ne.symm d1.1
        · exact Ne.symm d1.2.1
        · exact Ne.symm d1.2.2.1
        · exact Ne.symm d1.2.2.2.1
        · exact Ne.symm d1.2.2.2.2
      exact ⟨by rw [upd_ne hcl]; exact f1, f2⟩
    · exact ⟨rfl, .ref h'.objs.size, H', J, rfl, q _ Ts' H' nS e1 e2 e3 fun c o e => e4 c o (ne_of_none e nS) (old c o e)⟩
end
def lzK (x y : PV) (L : Sto) (R : PK) : Prop := match x, y with
  | .ref p, .ref q => ∃ xs ys, L p = some (.l xs) ∧ L q = some (.l ys) ∧ newL L (zipL xs ys) R
  | .tup xs, .tup ys => newL L (zipL xs ys) R
  | _, _ => False
def wLzip (a b : WE) : WE := fun env L R => a env L fun x La => b env La fun y Lb => lzK x y Lb R
theorem repvs_zip {K : PySem.W.Frag} {H : Hp} : ∀ {xs ys : List PV} {us ws : List V} {Ts : List Addr}, RepVs K H xs us → RepVs K H ys ws → Ts.length = min us.length ws.length → PairsAt H Ts us ws → RepVs K H (zipL xs ys) (Ts.map V.ref)
  | [], ys, us, ws, Ts, r1, _, hl, _ => by
    cases (show _ = _ from r1)
    have : Ts = [] := List.eq_nil_of_length_eq_zero (by rw [hl]; simp)
    subst this
    rfl
  | x :: xs, [], us, ws, Ts, _, r2, hl, _ => by
    cases (show _ = _ from r2)
    have : Ts = [] := List.eq_nil_of_length_eq_zero (by rw [hl]; simp)
    subst this
    rfl
  | x :: xs, y :: ys, _, _, Ts, ⟨u, us, e1, h1, k1⟩, ⟨w, ws, e2, h2, k2⟩, hl, hp => by
    subst e1 e2
    cases Ts with
    | nil => simp only [List.length_nil, List.length_cons] at hl; omega
    | cons T Ts =>
      obtain ⟨p1, p2, p3⟩ := hp
      obtain ⟨a, b, q1, q2, q3⟩ := p3 0 T rfl
      cases q1
      cases q2
      refine ⟨.ref T, Ts.map V.ref, rfl, ⟨T, [u, w], rfl, .inl q3, u, [w], rfl, h1, w, [], rfl, h2, rfl⟩, repvs_zip k1 k2 (by simp only [List.length_cons] at hl; omega) ⟨by simp only [List.length_cons] at p1; omega, by simp only [List.length_cons] at p2; omega, fun j S hj => ?_⟩⟩
      obtain ⟨a, b, q1, q2, q3⟩ := p3 (j + 1) S hj
      exact ⟨a, b, q1, q2, q3⟩
section
variable {X : Cx} {e f : Expr} {wa wb : WE} {p1 p2 pos1 pos2 : Pos}
theorem q_lzip (hc : X.calm = true) (hg : Gl X "zip") (hm : X.mg "zip" = none) (hgl : Gl X "list") (hml : X.mg "list" = none) (ha : PA X [e, f] (liftA X.K [wa, wb]))
    (hs : starEach [e, f] X.env = (false, eval e X.env) :: starEach [f] X.env) (hpl : (backTo pos1 (starEach [f] X.env)).any (·.1) = false)
    (hs2 : starEach [.Call (.Name "zip" p1) [e, f] [] pos1] X.env = [(false, eval (.Call (.Name "zip" p1) [e, f] [] pos1) X.env)]) :
    PE X (.Call (.Name "list" p2) [.Call (.Name "zip" p1) [e, f] [] pos1] [] pos2) (liftE X.K (wLzip wa wb)) := (pe_lzip2 hc hg hm hgl hml ha hs hpl hs2).weak fun σ H Q h => by
  obtain ⟨env, L, R, hs, hL, hw, k⟩ := h
  refine lift_a2 hs hL hw fun x y La v w H1 hb f1 rx ry rh => ?_
  have fin : ∀ (xs ys : List PV) (us ws : List V), newL La (zipL xs ys) R → RepVs X.K H1 xs us → RepVs X.K H1 ys ws → ∀ (S : Addr) (Ts : List Addr) (H2 : Hp), H1 S = none → H2 S = some (.lst (Ts.map V.ref)) → Ts.length = min us.length ws.length → PairsAt H2 Ts us ws → (∀ c o, H1 c = some o → H2 c = some o) → Q (.ref S) H2 := by
    intro xs ys us ws g3 r1 r2 S Ts H2 n1 n2 n3 n4 n5
    have hS : La S = none := rh.fresh n1
    have fm : Fm H1 La H2 (put La S (.l (zipL xs ys))) := fun c o hco hcn => ⟨n5 c o hco, by
      rw [put_ne (ne_of_none hco n1)]; exact hcn⟩
    have ex : Ex H1 H2 := ⟨fun a xs h => n5 _ _ h, fun a o xs h => n5 _ _ h⟩
    refine k _ _ _ _ (g3 S hS) (f1.trans fm) rfl fun a o ea => ?_
    by_cases q : a = S
    · subst q
      rw [put_same] at ea
      cases ea
      exact ⟨_, n2, repvs_zip (r1.ex ex) (r2.ex ex) n3 n4⟩
    · rw [put_ne q] at ea
      exact (rh a o ea).ex ex fun u hu => n5 _ _ hu
  cases x <;> cases y <;> first | exact absurd hb (fun z => z) | skip
  · cases (show _ = _ from rx)
    cases (show _ = _ from ry)
    obtain ⟨xs, ys, g1, g2, g3⟩ := hb
    obtain ⟨us, e1, r1⟩ := rh.lst g1
    obtain ⟨ws, e2, r2⟩ := rh.lst g2
    exact ⟨_, _, us, ws, rfl, .inl ⟨.of e1, .of e2⟩, fin xs ys us ws g3 r1 r2⟩
  · obtain ⟨a, us, rfl, t1, r1⟩ := rx
    obtain ⟨b, ws, rfl, t2, r2⟩ := ry
    exact ⟨a, b, us, ws, rfl, .inr ⟨t1.sq, t2.sq⟩, fin _ _ us ws hb r1 r2⟩
end
end
section
open PySem PySem.Spec PyProof.Rows L2
def kPV : Key → PV
  | .inl i => .int i
  | .inr x => .str x
def dropL (L : Sto) (a : Addr) : Sto := fun b => if b = a then none else L b
theorem dropL_same {L : Sto} {a : Addr} : dropL L a a = none := by unfold dropL; rw [if_pos rfl]
theorem dropL_ne {L : Sto} {a b : Addr} (h : b ≠ a) : dropL L a b = L b := by unfold dropL; rw [if_neg h]
def iIm (e : WE) : WI := fun env L R => e env L fun x La => match x with
  | .ref a => match La a with
    | some (.d kvs) => R ⟨kvs.map fun kv => .tup [kPV kv.1, kv.2], fun _ => True⟩ (dropL La a)
    | _ => False
  | _ => False
def iItemsN (td : TE) : TI := fun σ H R => td σ H fun x H1 => ∃ d kvs, x = .ref d ∧ H1 d = some (.dK kvs) ∧ ∀ o, R (Iti d o kvs) (upd H1 d (.frz o (.dK kvs)))
section
variable {X : Cx} {e : Expr} {td : TE} {apos cpos : Pos}
theorem pi_itemsN {elts : List Expr} {kk : Nat} {tpos : Pos} (he : PE X e td) (hbase : attributeBase e "items" X.env (eval e X.env) = eval e X.env) (hline : (apos.endLine == cpos.line) = true) :
    PI X (.Tuple elts kk tpos) (.Call (.Attribute e "items" apos) [] [] cpos) (iItemsN td) := by
  refine ⟨fun pins s σ H R I h => ?_⟩
  refine wpAny_Call_method (T := "dict") (id := "dict.items") hbase rfl hline F.plainAttrs_dict F.slot_dict_items F.type_dict_items (thn (he.run pins s σ H _ I h) fun u s1 ⟨x, H1, I1, rx, d, kvs, ex, hd0, q⟩ => ?_)
  subst ex
  obtain rfl : u = Value.ref d := rx
  obtain ⟨o, I1⟩ := I1.lock hd0 trivial
  have q := q o
  have hd : (upd H1 d (.frz o (.dK kvs))) d = some (.frz o (.dK kvs)) := upd_same
  generalize upd H1 d (.frz o (.dK kvs)) = H1 at *
  obtain ⟨hs, hgd, hx, es, ep, vs, hdt, hsz, kv, hm⟩ := I1.frzK hd
  have hl : kvs.length = vs.length := Paired.length kv
  refine ⟨hm.dictOf.typeIs, hm.dictOf.mapOf.noDict, ?_⟩
  have I2 : Inv X pins σ H1 { s1 with heap := s1.heap.push { cls := .type "dict_items", data := .fields #[.ref d] } } := I1.kept (t' := s1.toks) fun b ob q => Heap.get?_push_of_some _ q
  have fin : wpAny (model X.prog X.w) X.A (pyIter (.ref s1.heap.objs.size)) (PIE X pins σ (.Tuple elts kk tpos) R) X.xe { s1 with heap := s1.heap.push { cls := .type "dict_items", data := .fields #[.ref d] } } := by
    refine wpAny_pyIter_items (d := d) (knd := mixKind X.prog X.w) ⟨_, Heap.get?_push_size _ rfl, rfl, rfl⟩ (hm.push _) (pi_one (tk := s1.toks) I2 _ (turn_items _ hdt) ⟨.none, .none, ?_⟩ q)
    rw [hl]
    exact Heap.get?_push_size _ rfl
  show wpAny _ _ (callWith cpos (.builtin "dict.items") [.ref d] [] []) _ X.xe s1
  exact method_meetsIn F.slot_dict_items F.entry_dict_items rfl (PySem.evalArgs_none ⟨rfl, hm.dictOf.typeIs, F.args_dict_items_1 _, _, meets_dict_items (mixKind X.prog X.w) d hs, ⟨vs, hm.dictOf⟩, fin⟩)
end
theorem RepKs.at {K : PySem.W.Frag} {H : Hp} : ∀ {kvs : List (Key × PV)} {ks : List (Key × V)} {i : Nat} {k : Key} {v : V}, RepKs K H kvs ks → ks[i]? = some (k, v) → ∃ x, kvs[i]? = some (k, x) ∧ RepV K H x v
  | [], _, i, k, v, h, e => by
    cases (show _ = [] from h)
    simp at e
  | (k', x) :: r, _, 0, k, v, ⟨w, q, e1, rx, _⟩, e => by
    subst e1
    have e : (k', w) = (k, v) := Option.some.inj e
    cases e
    exact ⟨x, rfl, rx⟩
  | (k', x) :: r, _, i + 1, k, v, ⟨w, q, e1, _, rq⟩, e => by
    subst e1
    exact RepKs.at (i := i) rq e
theorem RepKs.lenX {K : PySem.W.Frag} {H : Hp} : ∀ {kvs : List (Key × PV)} {ks : List (Key × V)}, RepKs K H kvs ks → kvs.length = ks.length
  | [], _, h => by cases (show _ = [] from h); rfl
  | (k', x) :: r, _, ⟨w, q, e1, _, rq⟩ => by subst e1; rw [List.length_cons, List.length_cons, RepKs.lenX rq]
theorem i_im {X : Cx} {a : Expr} {wa : WE} {elts : List Expr} {kk : Nat} {tpos apos cpos : Pos} (ha : PE X a (liftE X.K wa)) (hbase : attributeBase a "items" X.env (eval a X.env) = eval a X.env) (hline : (apos.endLine == cpos.line) = true) :
    PI X (.Tuple elts kk tpos) (.Call (.Attribute a "items" apos) [] [] cpos) (liftI X.K (iIm wa)) := pi_weak (pi_itemsN ha hbase hline) fun σ H R h => by
  obtain ⟨env, L, R', hs, hL, hw, k⟩ := h
  refine ⟨env, L, _, hs, hL, hw, fun x La v H1 hb f1 rx r1 => ?_⟩
  cases x <;> first | exact absurd hb (fun z => z) | skip
  cases (show _ = _ from rx)
  rename_i a
  simp only at hb
  split at hb
  · rename_i kvs e
    obtain ⟨ks, h1, rk⟩ := r1.dct e
    refine ⟨_, ks, rfl, h1, fun o => ?_⟩
    have exx : Ex H1 (upd H1 a (.frz o (.dK ks))) := ⟨fun c xs q => by rw [upd_ne (fun z => by rw [z, h1] at q; cases q)]; exact q, fun c o xs q => by rw [upd_ne (fun z => by rw [z, h1] at q; cases q)]; exact q⟩
    refine k _ (dropL La a) (upd H1 a (.frz o (.dK ks))) _ hb ?_ ?_ ?_
    · intro c u q n
      obtain ⟨q1, q2⟩ := f1 c u q n
      have hca : c ≠ a := fun z => by rw [z, e] at q2; cases q2
      exact ⟨by rw [upd_ne hca]; exact q1, by rw [dropL_ne hca]; exact q2⟩
    · intro c u q
      have hca : c ≠ a := fun z => by rw [z, dropL_same] at q; cases q
      rw [dropL_ne hca] at q
      have := r1 c u q
      cases u with
      | l xs => obtain ⟨vs, g1, g2⟩ := this; exact ⟨vs, by rw [upd_ne hca]; exact g1, g2.ex exx⟩
      | d xs => obtain ⟨vs, g1, g2⟩ := this; exact ⟨vs, by rw [upd_ne hca]; exact g1, g2.ex exx⟩
      | t xs => obtain ⟨vs, g1, g2⟩ := this; exact ⟨vs, by rw [upd_ne hca]; exact g1, g2.ex exx⟩
    · intro i H2 L2 f2 r2 _
      have ha2 : H2 a = some (.frz o (.dK ks)) := (f2 a _ upd_same dropL_same).1
      have rk2 : RepKs X.K H2 kvs ks := by
        have ex2 : Ex (upd H1 a (.frz o (.dK ks))) H2 := ⟨fun c xs q => ?_, fun c u xs q => ?_⟩
        · exact (rk.ex exx).ex ex2
        · have hca : c ≠ a := fun z => by rw [z, upd_same] at q; cases q
          have q0 := q
          rw [upd_ne hca] at q0
          exact (f2 c _ q (by rw [dropL_ne hca]; exact r1.notTup q0)).1
        · by_cases hca : c = a
          · subst hca
            exact (f2 c _ q dropL_same).1
          · have q0 := q
            rw [upd_ne hca] at q0
            exact (f2 c _ q (by rw [dropL_ne hca]; exact r1.notFrz q0)).1
      have hlen : (kvs.map fun kv => PV.tup [kPV kv.1, kv.2]).length = ks.length := by rw [List.length_map]; exact rk2.lenX
      refine ⟨fun hi => ⟨⟨ha2, by rw [← hlen]; exact hi⟩, fun v H' y => ?_⟩, fun hi => ⟨ha2, by rw [hi]; exact Nat.le_of_eq hlen.symm⟩⟩
      obtain ⟨T, key, w, hk, rfl, hT, rfl⟩ := y
      obtain ⟨x, hx, rx⟩ := rk2.at hk
      obtain ⟨q1, q2, q3⟩ := pair_ok r2 (x := kPV key) (v := kV key) hT (by cases key <;> rfl) rx
      refine ⟨_, ?_, q1, q2, q3⟩
      show (kvs.map _)[i]? = _
      rw [List.getElem?_map, hx]
      rfl
  · exact hb.elim
end
section
open PySem PySem.Spec PyProof.Rows L2
section
variable {X : Cx} {pins : List (Addr × Obj)} {σ : L2.St} {H : Hp} {s : Shared} {a b : Addr} {r : Value} {d : V} {k : List Key} {A : Around} {E : Value → Shared → Prop}
/-- the dict at a has these entries -/
def DTat (H : Hp) (a : Addr) (kvs : List (List Key × V)) : Prop := H a = some (.dT kvs) ∨ (kvs = [] ∧ H a = some (.dK []))
theorem dtat_of {kvs : List (List Key × V)} (I : Inv X pins σ H s) (e : DTat H a kvs) : kvs.length ≤ sizeLine ∧ (a == sysModules) = false ∧ ∃ xs, KT H kvs xs ∧ s.heap.DictOfH (tupleKind (mixKind X.prog X.w)) a xs := by
  rcases e with e | ⟨rfl, e⟩
  · exact dt_of I.hok e
  · obtain ⟨z, hd, vs, rel, o, es, ep, h1, h2, h3, h4, h5, h6⟩ := dk_of I.hok e
    cases rel
    refine ⟨z, hd, [], .nil, o, es, ep, h1, h2, h3, ?_, fun x hx => absurd hx List.not_mem_nil, List.nodup_nil⟩
    generalize es.toList = l at h5
    cases h5
    rfl
theorem dT_setd {kvs : List (List Key × V)} {Q : Value → Shared → Prop} (hu : A.units + 1 < cLine) (I : Inv X pins σ H s) (e : DTat H a kvs) (eb : H b = some (.tup (k.map kV))) (rd : RelV d r) (hl : kvs.length < sizeLine)
    (h1 : ∀ v, valV kvs k = some v → ∀ (w' : Value) (s' : Shared), Inv X pins σ H s' → RelV v w' → Q w' s') (h2 : valV kvs k = none → ∀ (w' : Value) (s' : Shared), Inv X pins σ (upd H a (.dT (putK kvs k d))) s' → RelV d w' → Q w' s') :
    wpAny (model X.prog X.w) A (call (.builtin "dict.setdefault") [.ref a, .ref b, r]) Q E s := by
  obtain ⟨z, hd, xs, rel, dd⟩ := dtat_of I e
  have hz : xs.length ≤ sizeLine := by rw [← Paired.length rel]; exact z
  have hmu : Mut (H a) := by
    rcases e with e | ⟨_, e⟩
    · rw [e]; exact True.intro
    · rw [e]; exact True.intro
  refine call_setdefault_heap (hsz := hz) (tupleKind_room_in1 hu) (key_of I.hok eb) hd dd (fun p hp => ?_) fun hn h' dd' hs => ?_
  · have q := rel.val k
    rw [hp] at q
    cases q0 : valV kvs k with
    | none =>
      rw [q0] at q
      exact (show False from q).elim
    | some v0 =>
      rw [q0] at q
      exact h1 v0 q0 _ _ (I.tok _) q
  · have q := rel.val k
    rw [hn] at q
    cases q0 : valV kvs k with
    | some v0 =>
      rw [q0] at q
      exact (show False from q).elim
    | none =>
      have hl2 : (putK kvs k d).length ≤ sizeLine := by
        have := length_putK kvs k d
        omega
      obtain ⟨o, es, ep, hq, g2, g3, g4, _, g5⟩ := dd'
      refine h2 q0 _ _ (d_write I hmu hs ⟨o, hq⟩ ⟨hl2, hd, _, (rel.put k eb rd).keeps fun c ys ec => ?_, o, es, ep, hq, g2, g3, g4, g5⟩) rd
      have hca : c ≠ a := fun z => by
        rw [z] at ec
        rcases e with e | ⟨_, e⟩
        · rw [e] at ec; cases ec
        · rw [e] at ec; cases ec
      rw [upd_ne hca]
      exact ec
end
def tSetdT (td tt tx : TE) : TE := fun σ H Q => td σ H fun x H1 => ∃ a, x = .ref a ∧ IsD H1 a ∧ tt σ H1 fun y H2 => tx σ H2 fun z H3 => ∃ (b : Addr) (kvs : List (List Key × V)) (k : List Key), y = .ref b ∧ H3 b = some (.tup (k.map kV)) ∧ DTat H3 a kvs ∧ kvs.length < sizeLine ∧
  (∀ v, valV kvs k = some v → Q v H3) ∧ (valV kvs k = none → Q z (upd H3 a (.dT (putK kvs k z))))
section
variable {X : Cx} {o e f : Expr} {td tt tx : TE} {apos cpos : Pos}
theorem pe_setdT (hu : X.A.units + 1 < cLine) (ho : PE X o td) (he : PE X e tt) (hf : PE X f tx) (m : M2 X o "setdefault" apos e f cpos) : PE X (.Call (.Attribute o "setdefault" apos) [e, f] [] cpos) (tSetdT td tt tx) := by
  refine ⟨fun pins s σ H Q I h => ?_⟩
  refine wpAny_Call_method m.base m.few m.line PySem.F.plainAttrs_dict PySem.F.slot_dict_setdefault PySem.F.type_dict_setdefault (thn (ho.run pins s σ H _ I h) fun u s1 ⟨x, H1, I1, rx, a, ex, d, q1⟩ => ?_)
  subst ex
  obtain rfl : u = Value.ref a := rx
  obtain ⟨t1, t2, _⟩ := isD_at I1 d
  refine ⟨t1, t2, ?_⟩
  rw [m.trees]
  refine Calls.callWith_builtin rfl (Calls.evalArgs_plain (Calls.spliced_cons (thn (he.run pins s1 σ H1 _ I1 q1) fun iv s2 ⟨y, H2, I2, ry, q2⟩ =>
    Calls.spliced_cons (thn (hf.run pins s2 σ H2 _ I2 q2) fun fv s3 ⟨z, H3, I3, rz, b, kvs, k, ey, eb, ea, hl, q3, q4⟩ => Calls.spliced_nil ?_))))
  subst ey
  obtain rfl : iv = Value.ref b := ry
  exact dT_setd hu I3 ea eb rz hl (fun v hv w' s4 I4 rw' => ⟨v, _, I4, rw', q3 v hv⟩) fun hn w' s4 I4 rw' => ⟨z, _, I4, rw', q4 hn⟩
end
def keyPs : List PV → Option (List Key)
  | [] => some []
  | x :: xs => match keyP x, keyPs xs with
    | some k, some ks => some (k :: ks)
    | _, _ => none
def dTIs (L : Sto) (a : Addr) (kvs : List (List Key × PV)) : Prop := L a = some (.t kvs) ∨ (kvs = [] ∧ L a = some (.d []))
def wSetd (wo : WE) (ws : List WE) (wd : WE) : WE := fun env L R => wo env L fun x La => ∃ a, x = .ref a ∧ (∃ kvs, dTIs La a kvs) ∧ wAr ws env La fun ks Lb => ks.length ≤ sizeLine ∧ wd env Lb fun z Lc => ∃ kvs keys, keyPs ks = some keys ∧ dTIs Lc a kvs ∧ kvs.length < sizeLine ∧
  (match kvs.find? fun kv => decide (kv.1 = keys) with
  | some kv => R kv.2 Lc
  | none => R z (put Lc a (.t (kvs ++ [(keys, z)]))))
section
variable {K : PySem.W.Frag} {H : Hp} {L : Sto}
theorem keyPs_V : ∀ {xs : List PV} {vs : List V} {ks : List Key}, keyPs xs = some ks → RepVs K H xs vs → vs = ks.map kV
  | [], _, _, h, r => by
    cases h
    exact (show _ = _ from r)
  | x :: xs, _, _, h, ⟨v, vs, h1, h2, h3⟩ => by
    subst h1
    unfold keyPs at h
    split at h
    · rename_i k ks e1 e2
      cases h
      rw [keyP_V e1 h2, keyPs_V e2 h3]
      rfl
    · cases h
theorem RepKt.find {k : List Key} {kv : List Key × PV} : ∀ {kvs : List (List Key × PV)} {ks : List (List Key × V)}, RepKt K H kvs ks → kvs.find? (fun kv => decide (kv.1 = k)) = some kv → ∃ v, valV ks k = some v ∧ RepV K H kv.2 v
  | [], _, _, e => by cases e
  | (k', x) :: r, _, ⟨v, ks, h1, h2, h3⟩, e => by
    subst h1
    rw [List.find?_cons] at e
    unfold valV
    rw [List.find?_cons]
    by_cases q : k' = k
    · rw [show decide (k' = k) = true from decide_eq_true q] at e ⊢
      cases e
      exact ⟨v, rfl, h2⟩
    · rw [show decide (k' = k) = false from decide_eq_false q] at e ⊢
      exact RepKt.find h3 e
theorem RepKt.none {k : List Key} : ∀ {kvs : List (List Key × PV)} {ks : List (List Key × V)}, RepKt K H kvs ks → kvs.find? (fun kv => decide (kv.1 = k)) = none → valV ks k = none
  | [], _, h, _ => by cases (show _ = _ from h); rfl
  | (k', x) :: r, _, ⟨v, ks, h1, h2, h3⟩, e => by
    subst h1
    rw [List.find?_cons] at e
    unfold valV
    rw [List.find?_cons]
    by_cases q : k' = k
    · rw [show decide (k' = k) = true from decide_eq_true q] at e; cases e
    · rw [show decide (k' = k) = false from decide_eq_false q] at e ⊢
      exact RepKt.none h3 e
theorem RepKt.snoc {k : List Key} {x : PV} {v : V} (rx : RepV K H x v) : ∀ {kvs : List (List Key × PV)} {ks : List (List Key × V)}, RepKt K H kvs ks → RepKt K H (kvs ++ [(k, x)]) (ks ++ [(k, v)])
  | [], _, h => by
    cases (show _ = _ from h)
    exact ⟨v, [], rfl, rx, rfl⟩
  | (k', y) :: r, _, ⟨w, ks, h1, h2, h3⟩ => by
    subst h1
    exact ⟨w, _, rfl, h2, RepKt.snoc rx h3⟩
theorem RepKt.length : ∀ {kvs : List (List Key × PV)} {ks : List (List Key × V)}, RepKt K H kvs ks → kvs.length = ks.length
  | [], _, h => by cases (show _ = _ from h); rfl
  | (k', y) :: r, _, ⟨w, ks, h1, h2, h3⟩ => by
    subst h1
    rw [List.length_cons, List.length_cons, RepKt.length h3]
theorem putK_new {kvs : List (List Key × V)} {k : List Key} {v : V} (h : valV kvs k = none) : putK kvs k v = kvs ++ [(k, v)] := by
  unfold putK
  rw [valV_any, h]
  rfl
theorem dTIs.dt (r : RepH K H L) {a : Addr} {kvs : List (List Key × PV)} (h : dTIs L a kvs) : ∃ ks, DTat H a ks ∧ RepKt K H kvs ks := by
  rcases h with h | ⟨rfl, h⟩
  · obtain ⟨ks, h1, h2⟩ := r.dct2 h
    exact ⟨ks, .inl h1, h2⟩
  · obtain ⟨ks, h1, h2⟩ := r.dct h
    cases (show _ = _ from h2)
    exact ⟨[], .inr ⟨rfl, h1⟩, rfl⟩
theorem dTIs.isD (r : RepH K H L) {a : Addr} {kvs : List (List Key × PV)} (h : dTIs L a kvs) : IsD H a := by
  obtain ⟨ks, h1, _⟩ := h.dt r
  rcases h1 with h1 | ⟨_, h1⟩
  · exact .inr ⟨_, .inl h1⟩
  · exact .inl ⟨_, .inl h1⟩
end
theorem q_setd {X : Cx} {o f : Expr} {es : List Expr} {wo wd : WE} {ws : List WE} {apos cpos tpos : Pos} {x1} (hu : X.A.units + 1 < cLine) (ho : PE X o (liftE X.K wo)) (ha : PA X es (liftA X.K ws)) (hf : PE X f (liftE X.K wd)) (m : M2 X o "setdefault" apos (.Tuple es x1 tpos) f cpos) :
    PE X (.Call (.Attribute o "setdefault" apos) [.Tuple es x1 tpos, f] [] cpos) (liftE X.K (wSetd wo ws wd)) := by
  refine (pe_setdT hu ho (pe_tup ha) hf m).weak fun σ H Q h => ?_
  obtain ⟨env, L, R, hs, hL, hw, k⟩ := h
  refine ⟨env, L, _, hs, hL, hw, fun x La v H1 hb f1 rx r1 => ?_⟩
  obtain ⟨a, rfl, ⟨kv0, hd0⟩, hb⟩ := hb
  cases (show _ = _ from rx)
  refine ⟨a, rfl, hd0.isD r1, ?_⟩
  refine ⟨env, La, _, hs.ex (f1.ex hL), r1, hb, fun ks Lb vs H2 hc hn f2 rks r2 => ?_⟩
  refine ⟨by rw [← rks.length]; exact hc.1, fun p hp => ?_⟩
  have hpl : Lb p = none := r2.fresh hp
  refine ⟨env, Lb, _, (hs.ex (f1.ex hL)).ex ((f2.ex r1).trans (ex_new hp)), reph_tup r2 hp, hc.2, fun z Lc zv H3 hd f3 rz r3 => ?_⟩
  obtain ⟨kvs, keys, e1, e2, e3, e4⟩ := hd
  have h3p : H3 p = some (.tup (keys.map kV)) := by
    have := (f3 p (.tup vs) upd_same hpl).1
    rw [keyPs_V e1 rks] at this
    exact this
  obtain ⟨kt, t1, t2⟩ := e2.dt r3
  have f123 : Fm H L H3 Lc := (f1.trans f2).trans ((fm_tup r2 hp).trans f3)
  refine ⟨p, kt, keys, rfl, h3p, t1, by rw [← t2.length]; exact e3, fun v hv => ?_, fun hv => ?_⟩
  · cases e : kvs.find? fun kv => decide (kv.1 = keys) with
    | none =>
      rw [t2.none e] at hv
      cases hv
    | some kv =>
      rw [e] at e4
      obtain ⟨v', h1, h2⟩ := t2.find e
      rw [hv] at h1
      cases h1
      exact k _ _ _ _ e4 f123 h2 r3
  · cases e : kvs.find? fun kv => decide (kv.1 = keys) with
    | some kv =>
      obtain ⟨v', h1, h2⟩ := t2.find e
      rw [hv] at h1
      cases h1
    | none =>
      rw [e] at e4
      rw [putK_new hv]
      obtain ⟨u, hu'⟩ : ∃ u, Lc a = some u := by
        rcases e2 with e2 | ⟨_, e2⟩
        · exact ⟨_, e2⟩
        · exact ⟨_, e2⟩
      exact k _ _ _ _ e4 (f123.trans (fm_put hu')) (rz.ex (ex_put r3 hu')) (reph_putT r3 hu' (t2.snoc rz))
end
section
open PySem PySem.Spec PyProof.Rows L2
def flP : PV → Bool
  | .non => true | .bl _ => true | .int _ => true | .str _ => true
  | _ => false
def toV : PV → V
  | .bl b => .bl b | .int i => .int i | .str x => .str x
  | _ => .non
def inB (x : PV) (ys : List PV) : Bool := inV (toV x) (ys.map toV)
def oInG (f : Bool → Bool) : Op2 := fun x y L R => match y with
  | .tup ys => if ys.all flP = true then flP x = true ∧ ys.all flP = true ∧ R (.bl (f (inB x ys))) L else ∃ d ds, PD L x d ∧ PDs L ys ds ∧ SeqAt.shaped d = true ∧ SeqAt.shaped (.tuple ds) = true ∧ R (.bl (f (ds.any fun z => PyData.eqv z d))) L
  | .str z => (match x with
    | .str u => R (.bl (f (!(Builtin.Str.occurrences z u 0 z.length 1).isEmpty))) L
    | _ => False)
  | .ref a => (match L a with
    | some (.l ys) => ∃ d ds, PD L x d ∧ PDs L ys ds ∧ SeqAt.shaped d = true ∧ SeqAt.shaped (.list ds) = true ∧ R (.bl (f (ds.any fun z => PyData.eqv z d))) L
    | some (.d kvs) => (match x with
      | .int i => R (.bl (f (kvs.find? (fun kv => decide (kv.1 = .inl i))).isSome)) L
      | .str i => R (.bl (f (kvs.find? (fun kv => decide (kv.1 = .inr i))).isSome)) L
      | _ => False)
    | _ => False)
  | _ => False
abbrev oIn : Op2 := oInG id
abbrev oNotIn : Op2 := oInG not
section
variable {X : Cx} {K : PySem.W.Frag} {H : Hp} {L : Sto}
theorem flP_V {x : PV} {v : V} (r : RepV K H x v) (h : flP x = true) : v = toV x ∧ flatV v = true := by
  cases x <;> first | (cases (show _ = _ from r); exact ⟨rfl, rfl⟩) | cases h
theorem flP_Vs : ∀ {xs : List PV} {vs : List V}, RepVs K H xs vs → xs.all flP = true → vs = xs.map toV ∧ vs.all flatV = true
  | [], _, r, _ => by cases (show _ = _ from r); exact ⟨rfl, rfl⟩
  | x :: xs, _, ⟨v, vs, h1, h2, h3⟩, h => by
    subst h1
    rw [List.all_cons, Bool.and_eq_true] at h
    obtain ⟨e1, f1⟩ := flP_V h2 h.1
    obtain ⟨e2, f2⟩ := flP_Vs h3 h.2
    exact ⟨by rw [e1, e2]; rfl, by rw [List.all_cons, f1, f2]; rfl⟩
theorem RepKs.miss {k : Key} : ∀ {kvs : List (Key × PV)} {ks : List (Key × V)}, RepKs K H kvs ks → (valV ks k).isSome = (kvs.find? (fun kv => decide (kv.1 = k))).isSome
  | [], _, h => by cases (show _ = _ from h); rfl
  | (k', x) :: r, _, ⟨v, ks, h1, h2, h3⟩ => by
    subst h1
    unfold valV
    rw [List.find?_cons, List.find?_cons]
    by_cases q : k' = k
    · rw [show decide (k' = k) = true from decide_eq_true q]; rfl
    · rw [show decide (k' = k) = false from decide_eq_false q]
      exact RepKs.miss h3
def rInDk (f : Bool → Bool) : R2 := fun x y H Q => ∃ a o, y = .ref a ∧ DGet H a x o ∧ Q (.bl (f o.isSome)) H
theorem op_inDk (hu : X.A.units + 1 < cLine) : OpR X (compareOp .In) (rInDk id) := by
  intro pins s σ H x y v u Q I rx ry h
  obtain ⟨a, o, rfl, g, q⟩ := h
  cases ry
  exact d_in hu I g rx fun s' I' => ⟨.bl o.isSome, H, I', rfl, q⟩
theorem op_notinDk (hu : X.A.units + 1 < cLine) : OpR X (compareOp .NotIn) (rInDk not) := by
  intro pins s σ H x y v u Q I rx ry h
  obtain ⟨a, o, rfl, g, q⟩ := h
  cases ry
  exact d_notIn hu I g rx fun s' I' => ⟨.bl (!o.isSome), H, I', rfl, q⟩
def rInT (K : PySem.W.Frag) (f : Bool → Bool) : R2 := fun x y H Q => ∃ d ds, Dp K H x d ∧ Dp K H y (.tuple ds) ∧ SeqAt.shaped d = true ∧ SeqAt.shaped (.tuple ds) = true ∧ Q (.bl (f (ds.any fun z => PyData.eqv z d))) H
theorem op_inT (hu : X.A.units + 65 < cLine) : OpR X (compareOp .In) (rInT X.K id) := by
  intro pins s σ H x y v u Q I rx ry h
  obtain ⟨d, ds, hd, he, sd, se, q⟩ := h
  obtain ⟨as, r1⟩ := Dp.reads I d x v hd rx
  obtain ⟨bs, r2⟩ := Dp.reads I (.tuple ds) y u he ry
  exact SeqAt.in_tuple_reads r2 r1 (SeqAt.canLay_of_shaped se) (SeqAt.canLay_of_shaped sd) (room_in_shaped sd hu) ⟨.bl _, H, I, rfl, q⟩
theorem op_notInT (hu : X.A.units + 65 < cLine) : OpR X (compareOp .NotIn) (rInT X.K not) := by
  intro pins s σ H x y v u Q I rx ry h
  obtain ⟨d, ds, hd, he, sd, se, q⟩ := h
  obtain ⟨as, r1⟩ := Dp.reads I d x v hd rx
  obtain ⟨bs, r2⟩ := Dp.reads I (.tuple ds) y u he ry
  exact SeqAt.notIn_tuple_reads r2 r1 (SeqAt.canLay_of_shaped se) (SeqAt.canLay_of_shaped sd) (room_in_shaped sd hu) ⟨.bl _, H, I, rfl, q⟩
theorem ok_inG {op : CmpOp} {f : Bool → Bool} (h1 : OpR X (compareOp op) fun x y H Q => ∃ p xs, y = .ref p ∧ (SqL X.K H p xs ∨ SqT X.K H p xs) ∧ flatV x = true ∧ xs.all flatV = true ∧ Q (.bl (f (inV x xs))) H)
    (h2 : OpR X (compareOp op) fun x y H Q => ∃ i j, x = .str i ∧ y = .str j ∧ Q (.bl (f (!(Builtin.Str.occurrences j i 0 j.length 1).isEmpty))) H)
    (h3 : OpR X (compareOp op) fun x y H Q => ∃ d ds, Dp X.K H x d ∧ Dp X.K H y (.list ds) ∧ SeqAt.shaped d = true ∧ SeqAt.shaped (.list ds) = true ∧ Q (.bl (f (ds.any fun z => PyData.eqv z d))) H)
    (h4 : OpR X (compareOp op) (rInDk f)) (h5 : OpR X (compareOp op) (rInT X.K f)) : OpOk X (compareOp op) (oInG f) := by
  refine ⟨_, (h1.or (h2.or (h3.or h4))).or h5, ?_⟩
  intro x y v u H L R Q rx ry rh h k
  unfold oInG at h
  split at h
  · rename_i ys
    by_cases hf : ys.all flP = true
    · rw [if_pos hf] at h
      obtain ⟨a, vs, rfl, t, r⟩ := ry
      obtain ⟨g1, g2, g3⟩ := h
      obtain ⟨e1, f1⟩ := flP_V rx g1
      obtain ⟨e2, f2⟩ := flP_Vs r g2
      refine .inl (.inl ⟨a, vs, rfl, .inr t.sq, f1, f2, ?_⟩)
      rw [e1, e2]
      exact k.here rh g3 rfl
    · rw [if_neg hf] at h
      obtain ⟨d, ds, g1, g2, g3, g4, g5⟩ := h
      exact .inr ⟨d, ds, g1.dp rh rx, (PD.tup g2).dp rh ry, g3, g4, k.here rh g5 rfl⟩
  · cases (show _ = _ from ry)
    split at h
    · cases (show _ = _ from rx)
      exact .inl (.inr (.inl ⟨_, _, rfl, rfl, k.here rh h rfl⟩))
    · exact h.elim
  · cases (show _ = _ from ry)
    split at h
    · rename_i ys e
      obtain ⟨vs, e1, r⟩ := rh.lst e
      obtain ⟨d, ds, g1, g2, g3, g4, g5⟩ := h
      exact .inl (.inr (.inr (.inl ⟨d, ds, g1.dp rh rx, .lst (.inl (.inl e1)) (g2.dp rh r), g3, g4, k.here rh g5 rfl⟩)))
    · rename_i ys e
      obtain ⟨vs, e1, r⟩ := rh.dct e
      split at h
      · cases (show _ = _ from rx)
        rename_i i
        refine .inl (.inr (.inr (.inr ⟨_, valV vs (.inl i), rfl, .inl ⟨vs, .inl i, .inl e1, rfl, rfl⟩, ?_⟩)))
        rw [RepKs.miss r]
        exact k.here rh h rfl
      · cases (show _ = _ from rx)
        rename_i i
        refine .inl (.inr (.inr (.inr ⟨_, valV vs (.inr i), rfl, .inl ⟨vs, .inr i, .inl e1, rfl, rfl⟩, ?_⟩)))
        rw [RepKs.miss r]
        exact k.here rh h rfl
      · exact h.elim
    · exact h.elim
  · exact h.elim
theorem ok_in (hu : X.A.units + 65 < cLine) : OpOk X (compareOp .In) oIn := ok_inG op_in_seq op_in_str (op_inD hu) (op_inDk (by omega)) (op_inT hu)
theorem ok_notin (hu : X.A.units + 65 < cLine) : OpOk X (compareOp .NotIn) oNotIn := ok_inG op_notIn_seq L2.op_notin_str (op_notInD hu) (op_notinDk (by omega)) (op_notInT hu)
end
def iAny (e : WE) : WI := fun env L R => e env L fun x La => match x with
  | .ref a => match La a with
    | some (.l xs) => R ⟨xs, fun Lx => Lx a = some (.l xs)⟩ La
    | _ => False
  | .tup xs => R ⟨xs, fun _ => True⟩ La
  | .str z => R ⟨z.cps.toList.map fun c => .str ⟨#[c]⟩, fun _ => True⟩ La
  | _ => False
section
variable {X : Cx} {tg l : Expr} {wl : WE}
def iAnyT (K : PySem.W.Frag) (tl : TE) : TI := fun σ H R => tl σ H fun x H1 => (∃ a, x = .ref a ∧ (∃ xs, SqL K H1 a xs) ∧ R (Itl K a) H1) ∨ (∃ a, x = .ref a ∧ (∃ xs, SqT K H1 a xs) ∧ R (Itt K a) H1) ∨ ∃ z, x = .str z ∧ R (Its z) H1
theorem pi_any {tl : TE} (hl : PE X l tl) : PI X tg l (iAnyT X.K tl) := by
  refine ⟨fun pins s σ H R I h => ?_⟩
  refine thn (hl.run pins s σ H _ I h) fun v s1 ⟨x, H1, I1, r1, q1⟩ => ?_
  rcases q1 with ⟨a, e, ⟨xs, hq⟩, q⟩ | ⟨a, e, ⟨xs, hq⟩, q⟩ | ⟨z, e, q⟩
  · subst e
    cases r1
    obtain ⟨its, rv, p, hz⟩ := I1.list hq
    refine wpAny_pyIter_list p.isList ?_
    refine ⟨s1.heap.objs.size, [s1.heap.objs.size], _, _, H1, rfl, I1.kept (t' := s1.toks) fun b o e => Heap.get?_push_of_some _ e, turn_list a _, ⟨_, Heap.get?_push_size _ rfl, rfl, rfl⟩, fun b hb => ?_, q⟩
    have e : b = s1.heap.objs.size := by simpa using hb
    subst e
    exact I1.fpOk (Nat.le_refl _) (I1.hok.fresh (Nat.le_refl _))
  · subst e
    cases r1
    obtain ⟨its, rv, p, hz⟩ := I1.tuple hq
    refine wpAny_pyIter_tuple (show s1.heap.IsTuple a its.toArray from p) ?_
    refine ⟨s1.heap.objs.size, [s1.heap.objs.size], _, _, H1, rfl, I1.kept (t' := s1.toks) fun b o e => Heap.get?_push_of_some _ e, turn_tuple a _, ⟨_, Heap.get?_push_size _ rfl, rfl, rfl⟩, fun b hb => ?_, q⟩
    have e : b = s1.heap.objs.size := by simpa using hb
    subst e
    exact I1.fpOk (Nat.le_refl _) (I1.hok.fresh (Nat.le_refl _))
  · subst e
    obtain ⟨t, rfl⟩ := r1
    cases ha : z.cps.all (· < 128)
    · exact wpAny_pyIter_wide ha (pi_one (tk := s1.toks) I1 _ (turn_str _ z t "str_iterator" (.inr rfl)) ⟨_, Heap.get?_push_size _ rfl, rfl, rfl⟩ q)
    · exact wpAny_pyIter_ascii ha (pi_one (tk := s1.toks) I1 _ (turn_str _ z t "str_ascii_iterator" (.inl rfl)) ⟨_, Heap.get?_push_size _ rfl, rfl, rfl⟩ q)
theorem i_any (ha : PE X l (liftE X.K wl)) : PI X tg l (liftI X.K (iAny wl)) := pi_weak (pi_any ha) fun σ H R h => by
  obtain ⟨env, L, R', hs, hL, hw, k⟩ := h
  refine ⟨env, L, _, hs, hL, hw, fun x La v H1 hb f1 rx r1 => ?_⟩
  cases x <;> first | exact absurd hb (fun z => z) | skip
  · cases (show _ = _ from rx)
    exact .inr (.inr ⟨_, rfl, k _ La H1 _ hb f1 r1 wk_str⟩)
  · cases (show _ = _ from rx)
    simp only at hb
    split at hb
    · rename_i xs e
      obtain ⟨vs, h1, _⟩ := r1.lst e
      exact .inl ⟨_, rfl, ⟨vs, .of h1⟩, k _ La H1 _ hb f1 r1 wk_list⟩
    · exact hb.elim
  · obtain ⟨p, vs, rfl, t, r⟩ := rx
    exact .inr (.inl ⟨p, rfl, ⟨vs, t.sq⟩, k _ La H1 _ hb f1 r1 (wk_tup r1 t r)⟩)
end
inductive Bk where
  | fn (id : String) (g : BiF) | ty (id : String) (g : BiF)
structure Tab where
  fns : List (Str × Nat × Spec)
  con : List (Str × PV)
  non : List Str
structure Ct where
  N : List Str
  sc : Scope
  co : Str → Bool
def ixOf : List Str → Str → Option Nat
  | [], _ => none
  | y :: r, x => if y = x then some 0 else (ixOf r x).map (· + 1)
theorem ixOf_get : ∀ {N : List Str} {x : Str} {i : Nat}, ixOf N x = some i → N[i]? = some x
  | [], _, _, h => by cases h
  | y :: r, x, i, h => by
    unfold ixOf at h
    split at h
    · rename_i e
      cases h
      rw [e]
      rfl
    · cases e : ixOf r x with
      | none => rw [e] at h; cases h
      | some j =>
        rw [e] at h
        cases h
        simpa using ixOf_get e
/-- the built-ins, by name -/
def bkTab : List (Str × Bk) := [("len", .fn "len" gLen), ("isinstance", .fn "isinstance" gIsi), ("abs", .fn "abs" gAbs), ("int", .ty "int" gInt), ("list", .ty "list" gList), ("tuple", .ty "tuple" gTuple), ("all", .fn "all" gAll), ("any", .fn "any" gAny),
  ("min", .fn "min" gMin), ("max", .fn "max" gMax), ("divmod", .fn "divmod" gDivmod), ("sum", .fn "sum" gSum), ("sorted", .fn "sorted" gSorted), ("str", .ty "str" gStr), ("dict", .ty "dict" gDict)]
def bkOf (x : Str) : Option Bk := bkTab.lookup x
def tyOf (x : Str) : Option String :=
  if x = "int" then some "int" else
  if x = "bool" then some "bool" else
  if x = "str" then some "str" else
  if x = "tuple" then some "tuple" else
  if x = "list" then some "list" else
  if x = "dict" then some "dict" else none
def mtTab : List (Str × String × MtF) := [("append", "list", mAppend), ("extend", "list", mExtend), ("pop", "list", mPop), ("reverse", "list", mReverse), ("clear", "list", mClear), ("insert", "list", mInsert), ("get", "dict", mGet), ("index", "list", mIndex), ("join", "str", mJoin), ("split", "str", mSplit), ("partition", "str", mPart), ("strip", "str", mStrip), ("startswith", "str", mStarts), ("count", "str", mCount)]
def isCompL : Expr → Bool
  | .ListComp .. => true
  | _ => false
def mtOf (o : Expr) (x : Str) : Option (String × MtF) := if (isCompL o && x == ("count" : Str)) = true then some ("list", mCountL) else mtTab.lookup x
def opOf : Operator → Option Op2
  | .Add => some oAdd | .Sub => some oSub | .Mult => some oMul | .FloorDiv => some oDiv | .Mod => some oMod | .Pow => some oPow
  | _ => none
def cmOf : CmpOp → Option Op2
  | .Lt => some oLt | .LtE => some oLe | .Gt => some oGt | .GtE => some oGe | .Eq => some oEq | .NotEq => some oNe | .Is => some oIs | .IsNot => some oIsNot | .In => some oIn | .NotIn => some oNotIn
def noStar : Expr → Bool
  | .Starred _ _ => false
  | _ => true
def rgArg : List Expr → Option Expr
  | [.Call (.Name x _) [e] [] _] => if x = "range" then some e else none
  | _ => none
theorem rgArg_eq {es : List Expr} {b : Expr} (h : rgArg es = some b) : ∃ p pos, es = [.Call (.Name "range" p) [b] [] pos] := by
  unfold rgArg at h
  split at h
  · split at h
    · rename_i hx
      cases h
      exact ⟨_, _, by rw [hx]⟩
    · cases h
  · cases h
def noSuper : Expr → Bool
  | .Call _ [] _ _ => false
  | _ => true
def noComp : Expr → Bool
  | .ListComp _ _ _ _ | .SetComp _ _ _ _ | .DictComp _ _ _ _ _ => false
  | _ => true
def noSetE : Expr → Bool
  | .Set _ _ _ => false
  | _ => true
def noSlice : Expr → Bool
  | .Slice _ _ _ _ => false
  | _ => true
def okName (x : Str) : Bool := !(x == ("__debug__" : Str)) && !(x == ("__classdict__" : Str)) && !(x == ("__name__" : Str))
def cVar (c : Ct) (x : Str) : Option Nat := match c.sc.names.lookup x with
  | some .local => ixOf c.N x
  | some .cell => ixOf c.N x
  | some .free => ixOf c.N x
  | _ => none
/-- a name that is stored -/
def cSto (c : Ct) (x : Str) : Option Nat := match c.sc.names.lookup x with
  | some .local => ixOf c.N x
  | some .cell => if c.co x = true then ixOf c.N x else none
  | _ => none
def isGl (c : Ct) (x : Str) : Bool := c.sc.names.lookup x == some .globalImplicit
def optAll {α β : Type} (f : α → Option β) : List α → Option (List β)
  | [] => some []
  | a :: r => match f a, optAll f r with
    | some b, some bs => some (b :: bs)
    | _, _ => none
def op2 {α β γ : Type} (f : α → β → γ) : Option α → Option β → Option γ
  | some a, some b => some (f a b)
  | _, _ => none
def op3 {α β γ δ : Type} (f : α → β → γ → δ) : Option α → Option β → Option γ → Option δ
  | some a, some b, some c => some (f a b c)
  | _, _, _ => none
def wName (T : Tab) (c : Ct) (x : Str) : Option WE :=
  if okName x = false then none else
  match cVar c x with
  | some i => some (wVar i)
  | none => if isGl c x = false then none else
    match T.con.lookup x with
    | some p => some (wC p)
    | none => if T.non.contains x = true then (tyOf x).map fun s => wC (.ty s) else none
def wConst : Const → Option WE
  | .int i => some (wC (.int i)) | .bool b => some (wC (.bl b)) | .str x => some (wC (.str x)) | .none => some (wC .non)
  | _ => none
def negC : Expr → Option Int
  | .Constant (.int i) _ _ => some i
  | _ => none
/-- a call by a name -/
def wCallN (T : Tab) (c : Ct) (x : Str) (n : Nat) (ws : Option (List WE)) : Option WE :=
  if okName x = false || isGl c x = false then none else
  match ws with
  | none => none
  | some ws => match T.fns.lookup x with
    | some (m, S) => if m = n then some (wCall S ws) else none
    | none => if T.non.contains x = true then (match bkOf x with
      | some (.fn _ g) => if n = 0 then none else some (wBi g ws)
      | some (.ty _ g) => if n = 0 then none else some (wBi g ws)
      | none => none) else none
def tgOne (c : Ct) : Expr → Option Nat
  | .Name x _ => if okName x = true then cSto c x else none
  | _ => none
/-- a comprehension's target -/
def cTg (c : Ct) : Expr → Option (WG × List Nat)
  | .Name x _ => (if okName x = true then cSto c x else none).map fun i => (gN i, [i])
  | .Tuple es _ _ => (optAll (tgOne c) es).map fun is => (gT is.length (gsN is), is)
  | _ => none
def ownOf (c : Ct) (scope : Scope) : List (Str × Nat) := scope.names.filterMap fun (n, k) => match k with
  | .local => (ixOf c.N n).map fun i => (n, i)
  | .cell => (ixOf c.N n).map fun i => (n, i)
  | _ => none
def blkCt (c : Ct) (scope : Scope) : Ct := { N := c.N, sc := relS scope c.sc, co := fun x => scope.names.lookup x == some .cell }
/-- list(zip(e, f)) -/
def lzOf (T : Tab) (c : Ct) (x : Str) (args : List Expr) : Option (Expr × Expr) := match args with
  | [.Call (.Name y _) [e, f] [] _] => if x = "list" ∧ y = "zip" ∧ T.non.contains "zip" = true ∧ isGl c "zip" = true ∧ T.non.contains "list" = true ∧ isGl c "list" = true then some (e, f) else none
  | _ => none
def setdOf (m : Str) (args : List Expr) : Option (List Expr × Expr) := match args with
  | [.Tuple es _ _, v] => if m = "setdefault" ∧ noStar v = true then some (es, v) else none
  | _ => none
section
variable (T : Tab)
mutual
def cE : Nat → Ct → Expr → Option WE
  | 0, _, _ => none
  | n + 1, c, e => match e with
    | .Constant k _ _ => wConst k
    | .Name x _ => wName T c x
    | .BinOp a op b _ => op3 wBin (opOf op) (cE n c a) (cE n c b)
    | .UnaryOp .USub a _ => (match negC a with
      | some i => some (wC (.int (-i)))
      | none => (cE n c a).map (wUn oNeg))
    | .UnaryOp .Not a _ => (cE n c a).map (wUn oNot)
    | .BoolOp .And es _ => cAnd n c es
    | .BoolOp .Or es _ => cOr n c es
    | .Compare a [op] [b] _ => if noSetE b = true then op3 wBin (cmOf op) (cE n c a) (cE n c b) else none
    | .Compare a [op, op'] [b, d] _ => if noSetE d = true then (match op2 wChain (cmOf op) (cmOf op') with
      | some f => op3 f (cE n c a) (cE n c b) (cE n c d)
      | none => none) else none
    | .IfExp t a b _ => op3 wIfE (cT n c t) (cE n c a) (cE n c b)
    | .Tuple es _ _ => (cEs n c es).map wTup
    | .List es _ => (cEs n c es).map wLst
    | .Subscript a s _ => cSub n c a s
    | .Call f args kws pos => if kws.isEmpty = true then cCall n c f args pos else none
    | .ListComp elt [⟨tg, iter, ifs, 0⟩] scope _ => cComp n c elt tg iter ifs scope
    | .Dict keys values _ => (match optAll keyC keys, optAll (cE n c) values with
      | some ks, some ws => if ks.length = ws.length ∧ ks.length ≤ 15 ∧ ks.Nodup then some (wDisp (ks.zip ws)) else none
      | _, _ => none)
    | _ => none
def cEs : Nat → Ct → List Expr → Option (List WE)
  | 0, _, _ => none
  | n + 1, c, es => match es with
    | [] => some []
    | e :: r => if noStar e = true then op2 List.cons (cE n c e) (cEs n c r) else none
def cAnd : Nat → Ct → List Expr → Option WE
  | 0, _, _ => none
  | n + 1, c, es => match es with
    | [] => none
    | [e] => cE n c e
    | e :: r => op2 wAnd (cE n c e) (cAnd n c r)
def cOr : Nat → Ct → List Expr → Option WE
  | 0, _, _ => none
  | n + 1, c, es => match es with
    | [] => none
    | [e] => cE n c e
    | e :: r => op2 wOr (cE n c e) (cOr n c r)
/-- a test -/
def cT : Nat → Ct → Expr → Option WE
  | 0, _, _ => none
  | n + 1, c, e => match e with
    | .UnaryOp .Not a _ => (cT n c a).map (wUn oNot)
    | .BoolOp .And es _ => cTAnd n c es
    | .BoolOp .Or es _ => cTOr n c es
    | .Compare a [op] [b] _ => if noSetE b = true then op3 wBin (cmOf op) (cE n c a) (cE n c b) else none
    | .Compare a [op, op'] [b, d] _ => if noSetE d = true then (match op2 wChain (cmOf op) (cmOf op') with
      | some f => op3 f (cE n c a) (cE n c b) (cE n c d)
      | none => none) else none
    | .Name x _ => (wName T c x).map wTru
    | .Subscript a s _ => cSub n c a s
    | .Call f args kws pos => if kws.isEmpty = true then cCall n c f args pos else none
    | _ => none
def cTAnd : Nat → Ct → List Expr → Option WE
  | 0, _, _ => none
  | n + 1, c, es => match es with
    | [] => none
    | [e] => cT n c e
    | e :: r => op2 wAnd (cT n c e) (cTAnd n c r)
def cTOr : Nat → Ct → List Expr → Option WE
  | 0, _, _ => none
  | n + 1, c, es => match es with
    | [] => none
    | [e] => cT n c e
    | e :: r => op2 wOr (cT n c e) (cTOr n c r)
def cSub : Nat → Ct → Expr → Expr → Option WE
  | 0, _, _, _ => none
  | n + 1, c, a, s => match s with
    | .Slice lo hi none _ => op3 wSl (cE n c a) (cO n c lo) (cO n c hi)
    | .Slice none none (some (.UnaryOp .USub (.Constant (.int 1) _ _) _)) _ => (cE n c a).map (wUn oRev)
    | .Slice _ _ _ _ => none
    | i => op2 (wBin oIx) (cE n c a) (cE n c i)
def cO : Nat → Ct → Option Expr → Option WO
  | 0, _, _ => none
  | _ + 1, _, none => some wNo
  | n + 1, c, some e => (cE n c e).map wSo
def cCall : Nat → Ct → Expr → List Expr → Pos → Option WE
  | 0, _, _, _, _ => none
  | n + 1, c, f, args, pos => match f with
    | .Name x _ => (match lzOf T c x args with
      | some (e, g) => (match cEs n c [e, g] with
        | some [a, b] => some (wLzip a b)
        | _ => none)
      | none => wCallN T c x args.length (cEs n c args))
    | .Attribute o m apos => if noSuper o = true ∧ (apos.endLine == pos.line) = true ∧ args.length < 29 then (match setdOf m args with
      | some (es, v) => (match cE n c o, cEs n c es, cE n c v with
        | some wo, some ws, some wd => some (wSetd wo ws wd)
        | _, _, _ => none)
      | none => (match mtOf o m with
        | some (s, g) => op2 (wMt s g) (cE n c o) (cEs n c args)
        | none => none)) else none
    | _ => none
def cComp : Nat → Ct → Expr → Expr → Expr → List Expr → Scope → Option WE
  | 0, _, _, _, _, _, _ => none
  | n + 1, c, elt, tg, iter, ifs, scope =>
    if blkC c.N c.sc scope (ownOf c scope) = true then
      match cI n c tg iter, cTg (blkCt c scope) tg, cE n (blkCt c scope) elt with
      | some wi, some (g, is), some we => if is.all (fun i => (ownOf c scope).any fun p => p.2 == i) = true then (match ifs with
        | [] => some (wComp ((ownOf c scope).map (·.2)) wi g (wC (.bl true)) we)
        | [t] => (cT n (blkCt c scope) t).map fun wt => wComp ((ownOf c scope).map (·.2)) wi g wt we
        | _ => none) else none
      | _, _, _ => none
    else none
/-- what is walked -/
def cI : Nat → Ct → Expr → Expr → Option WI
  | 0, _, _, _ => none
  | n + 1, c, tg, iter => match iter with
    | .Call (.Name x _) args [] _ =>
      if x = "range" then (if T.non.contains "range" = true ∧ isGl c "range" = true then (match cEs n c args with
        | some [a] => some (iR1 a)
        | some [a, b] => some (iR2 a b)
        | some [a, b, d] => some (iR3 a b d)
        | _ => none) else none)
      else if x = "enumerate" then (if T.non.contains "enumerate" = true ∧ isGl c "enumerate" = true then (match tg, cEs n c args with
        | .Tuple _ _ _, some [a] => some (iEn a)
        | _, _ => none) else none)
      else if x = "zip" then (if T.non.contains "zip" = true ∧ isGl c "zip" = true then (match tg, cEs n c args with
        | .Tuple _ _ _, some [a, b] => some (iZp a b)
        | .Tuple _ _ _, some [a, b, d] => some (iZ3 a b d)
        | _, _ => none) else none)
      else if x = "reversed" then (if T.non.contains "reversed" = true ∧ isGl c "reversed" = true then (match rgArg args with
        | some b => if (T.non.contains "range" = true ∧ isGl c "range" = true) ∧ noStar b = true then (cE n c b).map iRr else none
        | none => match cEs n c args with
          | some [a] => some (iRv a)
          | _ => none) else none)
      else (cE n c iter).map iAny
    | .Call (.Attribute o m apos) [] [] cpos => (match tg with
      | .Tuple _ _ _ => if m = "items" ∧ noSuper o = true ∧ (apos.endLine == cpos.line) = true then (cE n c o).map iIm else (cE n c iter).map iAny
      | _ => (cE n c iter).map iAny)
    | .Set _ _ _ => none
    | e => (cE n c e).map iAny
end
end
end
section
open PySem PySem.Spec PyProof.Rows L2
structure XOk (X : Cx) (T : Tab) (c : Ct) : Prop where
  N : X.N = c.N
  nd : X.N.Nodup
  sc : X.env.scope = c.sc
  kd : c.sc.kind = .function
  co : ∀ x, c.co x = true → X.fn x = true
  calm : X.calm = true
  gd : X.A.guards = some []
  fns : ∃ k, Room k X.A ∧ ∀ x n S, T.fns.lookup x = some (n, S) → FnIs X.prog X.w X.K X.mg X.base k x n S
  non : ∀ x, T.non.contains x = true → X.mg x = none
  con : ∀ x p, T.con.lookup x = some p → ∃ u v, X.mg x = some u ∧ RelV v u ∧ ∀ H, RepV X.K H p v
section
variable {X : Cx} {T : Tab} {c : Ct}
theorem XOk.hu (h : XOk X T c) : X.A.units + 65 < cLine := by
  obtain ⟨k, hr, _⟩ := h.fns
  have := hr.un
  omega
theorem op2_some {α β γ : Type} {f : α → β → γ} {a : Option α} {b : Option β} {z : γ} (h : op2 f a b = some z) : ∃ x y, a = some x ∧ b = some y ∧ z = f x y := by
  cases a <;> cases b <;> first | (cases h; done) | exact ⟨_, _, rfl, rfl, (Option.some.inj h).symm⟩
theorem op3_some {α β γ δ : Type} {f : α → β → γ → δ} {a : Option α} {b : Option β} {d : Option γ} {z : δ} (h : op3 f a b d = some z) : ∃ x y w, a = some x ∧ b = some y ∧ d = some w ∧ z = f x y w := by
  cases a <;> cases b <;> cases d <;> first | (cases h; done) | exact ⟨_, _, _, rfl, rfl, rfl, (Option.some.inj h).symm⟩
theorem map_some' {α β : Type} {f : α → β} {a : Option α} {z : β} (h : a.map f = some z) : ∃ x, a = some x ∧ z = f x := by
  cases a <;> first | (cases h; done) | exact ⟨_, rfl, (Option.some.inj h).symm⟩
theorem opOf_ok {op : Operator} {f : Op2} (h : opOf op = some f) : OpOk X (binaryOp op) f := by
  cases op <;> first | (cases h; done) | skip
  · cases h; exact ok_add
  · cases h; exact ok_sub
  · cases h; exact ok_mul
  · cases h; exact ok_mod
  · cases h; exact ok_pow
  · cases h; exact ok_div
theorem cmOf_ok (hx : XOk X T c) {op : CmpOp} {f : Op2} (h : cmOf op = some f) : OpOk X (compareOp op) f := by
  have hu := hx.hu
  cases op <;> (cases h) <;> first | exact ok_eq (by omega) | exact ok_ne (by omega) | exact ok_lt | exact ok_le | exact ok_gt | exact ok_ge | exact ok_is | exact ok_isnot | exact ok_in hu | exact ok_notin hu
theorem setE_marks {op : CmpOp} {b : Expr} (h : noSetE b = true) : behindInMarks op b = false := by
  cases b <;> first | rfl | cases h
theorem setE_last {op op' : CmpOp} {b d : Expr} (h : noSetE d = true) : lastMarks [op, op'] [b, d] = false := setE_marks h
theorem okName_of {x : Str} (h : okName x = true) : (x == ("__debug__" : Str)) = false ∧ (x == ("__classdict__" : Str)) = false ∧ x ≠ "__name__" := by
  unfold okName at h
  simp only [Bool.and_eq_true, Bool.not_eq_true'] at h
  exact ⟨h.1.1, h.1.2, fun e => by rw [e] at h; exact absurd h.2 (by decide +kernel)⟩
theorem cVar_ok (hx : XOk X T c) {x : Str} {i : Nat} (h : cVar c x = some i) : X.N[i]? = some x ∧ Vis X.env.scope x := by
  unfold cVar at h
  rw [hx.N, hx.sc]
  split at h
  · rename_i e; exact ⟨ixOf_get h, .inl e⟩
  · rename_i e; exact ⟨ixOf_get h, .inr (.inl e)⟩
  · rename_i e; exact ⟨ixOf_get h, .inr (.inr e)⟩
  · cases h
theorem cSto_ok (hx : XOk X T c) {x : Str} {i : Nat} (h : cSto c x = some i) : X.N[i]? = some x ∧ Loc X.env.scope x ∧ (X.fn x = true ∨ X.env.scope.names.lookup x = some .local) := by
  unfold cSto at h
  rw [hx.N, hx.sc]
  split at h
  · rename_i e; exact ⟨ixOf_get h, .inl e, .inr e⟩
  · rename_i e
    split at h
    · rename_i e2
      exact ⟨ixOf_get h, .inr e, .inl (hx.co x e2)⟩
    · cases h
  · cases h
theorem isGl_ok (hx : XOk X T c) {x : Str} (h : isGl c x = true) : Gl X x := by
  unfold isGl at h
  show X.env.scope.names.lookup x = some .globalImplicit
  rw [hx.sc]
  simpa using h
theorem tyOf_ok {x : Str} {s : String} (h : tyOf x = some s) : bootBuiltins x = some (.type s) := by
  unfold tyOf at h
  repeat' (split at h; · rename_i e; cases h; rw [e]; decide +kernel)
  cases h
theorem wName_ok (hx : XOk X T c) {x : Str} {w : WE} {pos : Pos} (h : wName T c x = some w) : PE X (.Name x pos) (liftE X.K w) := by
  unfold wName at h
  split at h
  · cases h
  · rename_i hok
    have hok : okName x = true := by simpa using hok
    obtain ⟨h1, h2, h3⟩ := okName_of hok
    split at h
    · rename_i i e
      cases h
      obtain ⟨e1, e2⟩ := cVar_ok hx e
      exact q_var e1 e2 h1 h2
    · split at h
      · cases h
      · rename_i hg
        have hg := isGl_ok hx (by simpa using hg)
        split at h
        · rename_i p e
          cases h
          obtain ⟨u, v, e1, e2, e3⟩ := hx.con x p e
          exact q_const (pe_glob hg e1 e2 h1) e3
        · split at h
          · rename_i hn
            obtain ⟨s, e1, rfl⟩ := map_some' h
            exact q_const (pe_bltn hg (hx.non x hn) (tyOf_ok e1) (v := .ty s) rfl h3 h1) fun _ => rfl
          · cases h
theorem wConst_ok {k : Const} {w : WE} {j : Nat} {pos : Pos} (h : wConst k = some w) : PE X (.Constant k j pos) (liftE X.K w) := by
  cases k <;> first | (cases h; done) | skip
  all_goals cases h
  · exact q_const pe_non fun _ => rfl
  · exact q_const pe_bl fun _ => rfl
  · exact q_const pe_int fun _ => rfl
  · exact q_const pe_str fun _ => rfl
theorem star_cons {e : Expr} {es : List Expr} {env : PySem.Env} (h : noStar e = true) : starEach (e :: es) env = (false, eval e env) :: starEach es env := by
  cases e <;> first | rfl | cases h
theorem star_any {pos : Pos} {env : PySem.Env} : ∀ {es : List Expr}, es.all noStar = true → (backTo pos (starEach es env)).any (·.1) = false
  | [], _ => rfl
  | e :: r, h => by
    rw [List.all_cons, Bool.and_eq_true] at h
    rw [star_cons h.1]
    show (false || (backTo pos (starEach r env)).any (·.1)) = false
    rw [star_any h.2]
    rfl
theorem star_few {pos : Pos} {env : PySem.Env} : ∀ {es : List Expr}, es.all noStar = true → (backTo pos (starEach es env)).all (fun x => !x.1) = true
  | [], _ => rfl
  | e :: r, h => by
    rw [List.all_cons, Bool.and_eq_true] at h
    rw [star_cons h.1]
    show (!false && (backTo pos (starEach r env)).all (fun x => !x.1)) = true
    rw [star_few h.2]
    rfl
theorem super_base {o : Expr} {m : Str} {env : PySem.Env} {whole : Sem Value} (h : noSuper o = true) : attributeBase o m env whole = whole := by
  cases o <;> first | rfl | skip
  rename_i f args kws p
  cases args with
  | nil => cases h
  | cons a as => cases f <;> rfl
def BkOk (X : Cx) (x : Str) : Bk → Prop
  | .fn id g => BiOk X (.builtin id) g ∧ bootBuiltins x = some (.builtin id)
  | .ty id g => BiOk X (.type id) g ∧ bootBuiltins x = some (.type id)
theorem bkOf_ok (hx : XOk X T c) {x : Str} {b : Bk} (h : bkOf x = some b) : BkOk X x b := by
  have hc := hx.calm
  have hm := PySem.mem_of_lookup (show bkTab.lookup x = some b from h)
  unfold bkTab at hm
  rcases List.mem_cons.mp hm with e | hm
  · cases e; exact ⟨b_len, by decide +kernel⟩
  rcases List.mem_cons.mp hm with e | hm
  · cases e; exact ⟨b_isi, by decide +kernel⟩
  rcases List.mem_cons.mp hm with e | hm
  · cases e; exact ⟨b_abs, by decide +kernel⟩
  rcases List.mem_cons.mp hm with e | hm
  · cases e; exact ⟨b_int, by decide +kernel⟩
  rcases List.mem_cons.mp hm with e | hm
  · cases e; exact ⟨b_list, by decide +kernel⟩
  rcases List.mem_cons.mp hm with e | hm
  · cases e; exact ⟨b_tuple, by decide +kernel⟩
  rcases List.mem_cons.mp hm with e | hm
  · cases e; exact ⟨b_all hc, by decide +kernel⟩
  rcases List.mem_cons.mp hm with e | hm
  · cases e; exact ⟨b_any hc, by decide +kernel⟩
  rcases List.mem_cons.mp hm with e | hm
  · cases e; exact ⟨b_min hc, by decide +kernel⟩
  rcases List.mem_cons.mp hm with e | hm
  · cases e; exact ⟨b_max hc, by decide +kernel⟩
  rcases List.mem_cons.mp hm with e | hm
  · cases e; exact ⟨b_divmod, by decide +kernel⟩
  rcases List.mem_cons.mp hm with e | hm
  · cases e; exact ⟨b_sum hc, by decide +kernel⟩
  rcases List.mem_cons.mp hm with e | hm
  · cases e; exact ⟨b_sorted hx.hu, by decide +kernel⟩
  rcases List.mem_cons.mp hm with e | hm
  · cases e; exact ⟨b_str hx.hu hx.gd, by decide +kernel⟩
  rcases List.mem_cons.mp hm with e | hm
  · cases e; exact ⟨b_dict hc, by decide +kernel⟩
  cases hm
theorem mtOf_ok (hx : XOk X T c) {o : Expr} {m : Str} {s : String} {g : MtF} (h : mtOf o m = some (s, g)) : MtOk X s m g := by
  have hu := hx.hu
  unfold mtOf at h
  split at h
  · rename_i hc
    rw [Bool.and_eq_true, beq_iff_eq] at hc
    cases h
    rw [hc.2]
    exact k_countL hu
  have hm := PySem.mem_of_lookup (show mtTab.lookup m = some (s, g) from h)
  unfold mtTab at hm
  rcases List.mem_cons.mp hm with e | hm
  · cases e; exact k_append
  rcases List.mem_cons.mp hm with e | hm
  · cases e; exact k_extend
  rcases List.mem_cons.mp hm with e | hm
  · cases e; exact k_pop
  rcases List.mem_cons.mp hm with e | hm
  · cases e; exact k_reverse
  rcases List.mem_cons.mp hm with e | hm
  · cases e; exact k_clear
  rcases List.mem_cons.mp hm with e | hm
  · cases e; exact k_insert
  rcases List.mem_cons.mp hm with e | hm
  · cases e; exact k_get (by omega)
  rcases List.mem_cons.mp hm with e | hm
  · cases e; exact k_index hu
  rcases List.mem_cons.mp hm with e | hm
  · cases e; exact k_join
  rcases List.mem_cons.mp hm with e | hm
  · cases e; exact k_split
  rcases List.mem_cons.mp hm with e | hm
  · cases e; exact k_part
  rcases List.mem_cons.mp hm with e | hm
  · cases e; exact k_strip
  rcases List.mem_cons.mp hm with e | hm
  · cases e; exact k_starts
  rcases List.mem_cons.mp hm with e | hm
  · cases e; exact k_count
  cases hm
theorem wCallN_ok (hx : XOk X T c) {x : Str} {args : List Expr} {ws : Option (List WE)} {w : WE} {p pos : Pos} (h : wCallN T c x args.length ws = some w)
    (ha : ∀ vs, ws = some vs → PA X args (liftA X.K vs) ∧ args.all noStar = true ∧ vs.length = args.length) : PE X (.Call (.Name x p) args [] pos) (liftE X.K w) := by
  unfold wCallN at h
  split at h
  · cases h
  · rename_i hok
    rw [Bool.or_eq_true, not_or] at hok
    obtain ⟨h1, h2, h3⟩ := okName_of (x := x) (by simpa using hok.1)
    have hg := isGl_ok hx (x := x) (by simpa using hok.2)
    split at h
    · cases h
    · rename_i vs
      obtain ⟨hpa, hns, hlen⟩ := ha vs rfl
      split at h
      · rename_i m S e
        split at h
        · rename_i hm
          subst hm
          cases h
          obtain ⟨k, hr, hf⟩ := hx.fns
          have F := hf x _ S e
          cases args with
          | nil =>
            have ev : vs = [] := List.eq_nil_of_length_eq_zero hlen
            subst ev
            exact q_call0 F hx.gd hr hg h1
          | cons a as =>
            rw [List.all_cons, Bool.and_eq_true] at hns
            exact q_call F hx.gd hr hg hlen hpa h1 (star_cons hns.1) (star_any hns.2)
        · cases h
      · split at h
        · rename_i hn
          have hm := hx.non x hn
          split at h
          · rename_i id g e
            split at h
            · cases h
            · rename_i hz
              cases h
              obtain ⟨b1, b2⟩ := (show BiOk X (.builtin id) g ∧ _ from bkOf_ok hx e)
              cases args with
              | nil => exact absurd rfl hz
              | cons a as =>
                rw [List.all_cons, Bool.and_eq_true] at hns
                exact q_bi b1 hg hm b2 hpa h3 h1 (star_cons hns.1) (star_any hns.2)
          · rename_i id g e
            split at h
            · cases h
            · rename_i hz
              cases h
              obtain ⟨b1, b2⟩ := (show BiOk X (.type id) g ∧ _ from bkOf_ok hx e)
              cases args with
              | nil => exact absurd rfl hz
              | cons a as =>
                rw [List.all_cons, Bool.and_eq_true] at hns
                exact q_ty b1 hg hm b2 hpa h3 h1 (star_cons hns.1) (star_any hns.2)
          · cases h
        · cases h
theorem optAll_paired {α β : Type} {f : α → Option β} {r : α → β → Prop} (h : ∀ a b, f a = some b → r a b) : ∀ {as : List α} {bs : List β}, optAll f as = some bs → Paired r as bs
  | [], _, e => by cases e; exact .nil
  | a :: as, _, e => by
    unfold optAll at e
    split at e
    · rename_i b bs h1 h2
      cases e
      exact .cons (h a b h1) (optAll_paired h h2)
    · cases e
theorem optAll_map {α β : Type} {f : α → Option β} : ∀ {as : List α} {bs : List β}, optAll f as = some bs → as.map f = bs.map some
  | [], _, e => by cases e; rfl
  | a :: as, _, e => by
    unfold optAll at e
    split at e
    · rename_i b bs h1 h2
      cases e
      rw [List.map_cons, List.map_cons, h1, optAll_map h2]
    · cases e
theorem tgOne_ok {X : Cx} {c : Ct} (hx : XOk X T c) {e : Expr} {i : Nat} (h : tgOne c e = some i) : PG X e (gName i) ∧ noStar e = true := by
  cases e <;> first | (cases h; done) | skip
  rename_i x p
  have h : (if okName x = true then cSto c x else none) = some i := h
  split at h
  · obtain ⟨h1, h2, h3⟩ := cSto_ok hx h
    exact ⟨pg_name hx.nd h1 h2 h3, rfl⟩
  · cases h
theorem asg_len {env : PySem.Env} : ∀ {es : List Expr}, es.all noStar = true → (assignEach es env).length = es.length ∧ (assignEach es env).findIdx? (·.1) = none ∧ (assignEach es env).map (·.2) = es.map fun e => assign e env
  | [], _ => ⟨rfl, rfl, rfl⟩
  | e :: r, h => by
    rw [List.all_cons, Bool.and_eq_true] at h
    obtain ⟨h1, h2, h3⟩ := asg_len (env := env) h.2
    have e1 : assignEach (e :: r) env = (false, assign e env) :: assignEach r env := by
      have := h.1
      cases e <;> first | rfl | cases this
    rw [e1]
    refine ⟨by rw [List.length_cons, List.length_cons, h1], ?_, by rw [List.map_cons, List.map_cons, h3]⟩
    rw [List.findIdx?_cons]
    simp [h2]
theorem blk_ok (hx : XOk X T c) {scope : Scope} (hk : BlkOk X.N X.env.scope scope (ownOf c scope)) (s : Shared) (H : Hp) (C : Addr) (cl : List (Str × Addr)) (fp : List Addr) : XOk (X.blk s H scope (compEnvC scope cl C X.env) fp) T (blkCt c scope) := by
  refine ⟨hx.N, hx.nd, ?_, hk.kind, fun x h => h, hx.calm, hx.gd, hx.fns, hx.non, hx.con⟩
  show relS scope X.env.scope = relS scope c.sc
  rw [hx.sc]
end
end
section
open PySem PySem.Spec PyProof.Rows L2
theorem plain_ix {s : Expr} (h : noSlice s = true) : PlainIx s := fun o i => by cases s <;> first | rfl | cases h
theorem no_fold {iter : Expr} {env : PySem.Env} (h : noSetE iter = true) (x : Value) : foldedSetIterable iter env x = pure x := by cases iter <;> first | rfl | cases h
theorem cI_set {T : Tab} {n : Nat} {c : Ct} {tg iter : Expr} {w : WI} (h : cI T n c tg iter = some w) : noSetE iter = true := by
  cases n with
  | zero => simp only [cI] at h; cases h
  | succ n => cases iter <;> first | rfl | (simp only [cI] at h; cases h)
structure Sn (T : Tab) (n : Nat) : Prop where
  e : ∀ {X : Cx} {c : Ct} {e : Expr} {w : WE}, XOk X T c → cE T n c e = some w → PE X e (liftE X.K w)
  es : ∀ {X : Cx} {c : Ct} {es : List Expr} {ws : List WE}, XOk X T c → cEs T n c es = some ws → PA X es (liftA X.K ws) ∧ es.all noStar = true ∧ ws.length = es.length
  and : ∀ {X : Cx} {c : Ct} {es : List Expr} {w : WE} {pos : Pos}, XOk X T c → cAnd T n c es = some w → PE X (.BoolOp .And es pos) (liftE X.K w)
  or : ∀ {X : Cx} {c : Ct} {es : List Expr} {w : WE} {pos : Pos}, XOk X T c → cOr T n c es = some w → PE X (.BoolOp .Or es pos) (liftE X.K w)
  t : ∀ {X : Cx} {c : Ct} {e : Expr} {w : WE}, XOk X T c → cT T n c e = some w → PT X e (liftT X.K w)
  tand : ∀ {X : Cx} {c : Ct} {es : List Expr} {w : WE} {pos : Pos}, XOk X T c → cTAnd T n c es = some w → PW X (.BoolOp .And es pos) (liftT X.K w)
  tor : ∀ {X : Cx} {c : Ct} {es : List Expr} {w : WE} {pos : Pos}, XOk X T c → cTOr T n c es = some w → PW X (.BoolOp .Or es pos) (liftT X.K w)
  sub : ∀ {X : Cx} {c : Ct} {a s : Expr} {w : WE} {pos : Pos}, XOk X T c → cSub T n c a s = some w → PE X (.Subscript a s pos) (liftE X.K w)
  o : ∀ {X : Cx} {c : Ct} {o : Option Expr} {w : WO}, XOk X T c → cO T n c o = some w → PO X o (liftO X.K w)
  call : ∀ {X : Cx} {c : Ct} {f : Expr} {args : List Expr} {w : WE} {pos : Pos}, XOk X T c → cCall T n c f args pos = some w → PE X (.Call f args [] pos) (liftE X.K w)
  comp : ∀ {X : Cx} {c : Ct} {elt tg iter : Expr} {ifs : List Expr} {scope : Scope} {w : WE}, XOk X T c → cComp T n c elt tg iter ifs scope = some w →
    (∀ pos, PE X (.ListComp elt [⟨tg, iter, ifs, 0⟩] scope pos) (liftE X.K w)) ∧
    ∀ (pos spos py : Pos) (i : Nat) (y : Str), X.N[i]? = some y → X.env.scope.names.lookup y = some .local → swapsWith (.ListComp elt [⟨tg, iter, ifs, 0⟩] scope pos) (some (.Name y py)) spos.line X.env = pure true →
      PS X (.Assign [.Name y py] (.ListComp elt [⟨tg, iter, ifs, 0⟩] scope pos) spos) (liftS X.K (sAsg (gN i) w))
  i : ∀ {X : Cx} {c : Ct} {tg iter : Expr} {w : WI}, XOk X T c → cI T n c tg iter = some w → PI X tg iter (liftI X.K w)
section
variable {T : Tab}
theorem sn_zero : Sn T 0 := by
  refine ⟨?_, ?_, ?_, ?_, ?_, ?_, ?_, ?_, ?_, ?_, ?_, ?_⟩ <;> (intros; rename_i h; first | (simp only [cE] at h; cases h) | (simp only [cEs] at h; cases h) | (simp only [cAnd] at h; cases h) | (simp only [cOr] at h; cases h) | (simp only [cT] at h; cases h) | (simp only [cTAnd] at h; cases h) | (simp only [cTOr] at h; cases h) | (simp only [cSub] at h; cases h) | (simp only [cO] at h; cases h) | (simp only [cCall] at h; cases h) | (simp only [cComp] at h; cases h) | (simp only [cI] at h; cases h))
variable {n : Nat} {X : Cx} {c : Ct}
theorem sn_cmp (ih : Sn T n) (hx : XOk X T c) {a b : Expr} {op : CmpOp} {w : WE} {pos : Pos} (h : (if noSetE b = true then op3 wBin (cmOf op) (cE T n c a) (cE T n c b) else none) = some w) :
    PE X (.Compare a [op] [b] pos) (liftE X.K w) ∧ PT X (.Compare a [op] [b] pos) (liftT X.K w) := by
  split at h
  · rename_i hs
    obtain ⟨f, wa, wb, h1, h2, h3, rfl⟩ := op3_some h
    exact ⟨q_cmp (cmOf_ok hx h1) (ih.e hx h2) (ih.e hx h3) (setE_marks hs), t_cmp (cmOf_ok hx h1) (ih.e hx h2) (ih.e hx h3) (setE_marks hs)⟩
  · cases h
theorem sn_chain (ih : Sn T n) (hx : XOk X T c) {a b d : Expr} {op op' : CmpOp} {w : WE} {pos : Pos}
    (h : (if noSetE d = true then (match op2 wChain (cmOf op) (cmOf op') with | some f => op3 f (cE T n c a) (cE T n c b) (cE T n c d) | none => none) else none) = some w) :
    PE X (.Compare a [op, op'] [b, d] pos) (liftE X.K w) ∧ PT X (.Compare a [op, op'] [b, d] pos) (liftT X.K w) := by
  split at h
  · rename_i hs
    split at h
    · rename_i f e
      obtain ⟨f1, f2, g1, g2, rfl⟩ := op2_some e
      obtain ⟨wa, wb, wc, h1, h2, h3, rfl⟩ := op3_some h
      exact ⟨q_chain (cmOf_ok hx g1) (cmOf_ok hx g2) (ih.e hx h1) (ih.e hx h2) (ih.e hx h3) (setE_last hs), t_chain (cmOf_ok hx g1) (cmOf_ok hx g2) (ih.e hx h1) (ih.e hx h2) (ih.e hx h3) (setE_last hs)⟩
    · cases h
  · cases h
theorem sn_neg (ih : Sn T n) (hx : XOk X T c) {a : Expr} {w : WE} {pos : Pos} (h : (match negC a with | some i => some (wC (.int (-i))) | none => (cE T n c a).map (wUn oNeg)) = some w) : PE X (.UnaryOp .USub a pos) (liftE X.K w) := by
  split at h
  · rename_i i e
    cases h
    cases a <;> first | (cases e; done) | skip
    rename_i k j p
    cases k <;> first | (cases e; done) | skip
    cases e
    exact q_neg (wa := wC (.int i)) (q_const pe_int fun _ => rfl)
  · obtain ⟨wa, h1, rfl⟩ := map_some' h
    exact q_neg (ih.e hx h1)
theorem sn_e (ih : Sn T n) (hx : XOk X T c) {e : Expr} {w : WE} (h : cE T (n + 1) c e = some w) : PE X e (liftE X.K w) := by
  cases e with
  | Constant k j p => simp only [cE] at h; exact wConst_ok h
  | Name x p => simp only [cE] at h; exact wName_ok hx h
  | BinOp a op b p =>
    simp only [cE] at h
    obtain ⟨f, wa, wb, h1, h2, h3, rfl⟩ := op3_some h
    exact q_bin (opOf_ok h1) (ih.e hx h2) (ih.e hx h3)
  | UnaryOp op a p =>
    cases op with
    | USub => simp only [cE] at h; exact sn_neg ih hx h
    | Not =>
      simp only [cE] at h
      obtain ⟨wa, h1, rfl⟩ := map_some' h
      exact q_not (ih.e hx h1)
    | _ => simp only [cE] at h; cases h
  | BoolOp op es p =>
    cases op with
    | And => simp only [cE] at h; exact ih.and hx h
    | Or => simp only [cE] at h; exact ih.or hx h
  | Compare a ops bs p =>
    match ops, bs, h with
    | [op], [b], h => simp only [cE] at h; exact (sn_cmp ih hx h).1
    | [op, op'], [b, d], h => simp only [cE] at h; exact (sn_chain ih hx h).1
    | [], _, h => simp only [cE] at h; cases h
    | [_], [], h => simp only [cE] at h; cases h
    | [_], _ :: _ :: _, h => simp only [cE] at h; cases h
    | [_, _], [], h => simp only [cE] at h; cases h
    | [_, _], [_], h => simp only [cE] at h; cases h
    | [_, _], _ :: _ :: _ :: _, h => simp only [cE] at h; cases h
    | _ :: _ :: _ :: _, _, h => simp only [cE] at h; cases h
  | IfExp t a b p =>
    simp only [cE] at h
    obtain ⟨wt, wa, wb, h1, h2, h3, rfl⟩ := op3_some h
    exact q_ifE (ih.t hx h1) (ih.e hx h2) (ih.e hx h3)
  | Tuple es k p =>
    simp only [cE] at h
    obtain ⟨ws, h1, rfl⟩ := map_some' h
    exact q_tup (ih.es hx h1).1
  | List es p =>
    simp only [cE] at h
    obtain ⟨ws, h1, rfl⟩ := map_some' h
    exact q_lst (ih.es hx h1).1
  | Subscript a s p => simp only [cE] at h; exact ih.sub hx h
  | Call f args kws p =>
    simp only [cE] at h
    split at h
    · rename_i hk
      have : kws = [] := by simpa using hk
      subst this
      exact ih.call hx h
    · cases h
  | ListComp elt gs scope p =>
    match gs, h with
    | [⟨tg, iter, ifs, 0⟩], h => simp only [cE] at h; exact (ih.comp hx h).1 p
    | [], h => simp only [cE] at h; cases h
    | [⟨tg, iter, ifs, .ofNat (k + 1)⟩], h => simp only [cE] at h; cases h
    | [⟨tg, iter, ifs, .negSucc k⟩], h => simp only [cE] at h; cases h
    | _ :: _ :: _, h => simp only [cE] at h; cases h
  | Dict keys values p =>
    simp only [cE] at h
    split at h
    · rename_i ks ws h1 h2
      split at h
      · rename_i hc
        cases h
        by_cases h0 : ks = []
        · subst h0
          have hw : ws = [] := List.eq_nil_of_length_eq_zero hc.1.symm
          subst hw
          have hk := congrArg List.length (optAll_map h1)
          rw [List.length_map, List.length_map] at hk
          have hv := (optAll_paired (r := fun v w => PE X v (liftE X.K w)) (fun a b e => ih.e hx e) h2).length
          have hk : keys = [] := List.eq_nil_of_length_eq_zero hk
          have hv : values = [] := List.eq_nil_of_length_eq_zero hv
          subst hk hv
          exact q_disp0
        · exact q_disp (optAll_map h1) hc.1 (optAll_paired (r := fun v w => PE X v (liftE X.K w)) (fun a b e => ih.e hx e) h2) h0 hc.2.1 hc.2.2
      · cases h
    · cases h
  | _ => simp only [cE] at h; cases h
theorem sn_t (ih : Sn T n) (hx : XOk X T c) {e : Expr} {w : WE} (h : cT T (n + 1) c e = some w) : PT X e (liftT X.K w) := by
  cases e with
  | Name x p =>
    simp only [cT] at h
    obtain ⟨w', h1, rfl⟩ := map_some' h
    exact t_tru (wName_ok hx h1) fun _ => rfl
  | UnaryOp op a p =>
    cases op with
    | Not =>
      simp only [cT] at h
      obtain ⟨wa, h1, rfl⟩ := map_some' h
      exact t_not (ih.t hx h1)
    | _ => simp only [cT] at h; cases h
  | BoolOp op es p =>
    cases op with
    | And => simp only [cT] at h; exact (ih.tand hx h).pt
    | Or => simp only [cT] at h; exact (ih.tor hx h).pt
  | Compare a ops bs p =>
    match ops, bs, h with
    | [op], [b], h => simp only [cT] at h; exact (sn_cmp ih hx h).2
    | [op, op'], [b, d], h => simp only [cT] at h; exact (sn_chain ih hx h).2
    | [], _, h => simp only [cT] at h; cases h
    | [_], [], h => simp only [cT] at h; cases h
    | [_], _ :: _ :: _, h => simp only [cT] at h; cases h
    | [_, _], [], h => simp only [cT] at h; cases h
    | [_, _], [_], h => simp only [cT] at h; cases h
    | [_, _], _ :: _ :: _ :: _, h => simp only [cT] at h; cases h
    | _ :: _ :: _ :: _, _, h => simp only [cT] at h; cases h
  | Subscript a s p => simp only [cT] at h; exact t_val (ih.sub hx h) fun _ => rfl
  | Call f args kws p =>
    simp only [cT] at h
    split at h
    · rename_i hk
      have : kws = [] := by simpa using hk
      subst this
      exact t_val (ih.call hx h) fun _ => rfl
    · cases h
  | _ => simp only [cT] at h; cases h
theorem sn_es (ih : Sn T n) (hx : XOk X T c) {es : List Expr} {ws : List WE} (h : cEs T (n + 1) c es = some ws) : PA X es (liftA X.K ws) ∧ es.all noStar = true ∧ ws.length = es.length := by
  cases es with
  | nil => simp only [cEs] at h; cases h; exact ⟨q_nil, rfl, rfl⟩
  | cons e r =>
    simp only [cEs] at h
    split at h
    · rename_i hs
      obtain ⟨w, vs, h1, h2, rfl⟩ := op2_some h
      obtain ⟨p1, p2, p3⟩ := ih.es hx h2
      exact ⟨q_cons (ih.e hx h1) p1 (star_cons hs), by rw [List.all_cons, hs, p2]; rfl, by rw [List.length_cons, List.length_cons, p3]⟩
    · cases h
theorem sn_and (ih : Sn T n) (hx : XOk X T c) {es : List Expr} {w : WE} {pos : Pos} (h : cAnd T (n + 1) c es = some w) : PE X (.BoolOp .And es pos) (liftE X.K w) := by
  match es, h with
  | [], h => simp only [cAnd] at h; cases h
  | [e], h => simp only [cAnd] at h; exact q_one (ih.e hx h)
  | e :: b :: r, h =>
    simp only [cAnd] at h
    obtain ⟨wa, wb, h1, h2, rfl⟩ := op2_some h
    exact q_and (ih.e hx h1) (ih.and hx h2)
theorem sn_or (ih : Sn T n) (hx : XOk X T c) {es : List Expr} {w : WE} {pos : Pos} (h : cOr T (n + 1) c es = some w) : PE X (.BoolOp .Or es pos) (liftE X.K w) := by
  match es, h with
  | [], h => simp only [cOr] at h; cases h
  | [e], h => simp only [cOr] at h; exact q_one (ih.e hx h)
  | e :: b :: r, h =>
    simp only [cOr] at h
    obtain ⟨wa, wb, h1, h2, rfl⟩ := op2_some h
    exact q_or (ih.e hx h1) (ih.or hx h2)
theorem sn_tand (ih : Sn T n) (hx : XOk X T c) {es : List Expr} {w : WE} {pos : Pos} (h : cTAnd T (n + 1) c es = some w) : PW X (.BoolOp .And es pos) (liftT X.K w) := by
  match es, h with
  | [], h => simp only [cTAnd] at h; cases h
  | [e], h => simp only [cTAnd] at h; exact w_and1 (ih.t hx h)
  | e :: b :: r, h =>
    simp only [cTAnd] at h
    obtain ⟨wa, wb, h1, h2, rfl⟩ := op2_some h
    exact w_and (ih.t hx h1) (ih.tand hx h2)
theorem sn_tor (ih : Sn T n) (hx : XOk X T c) {es : List Expr} {w : WE} {pos : Pos} (h : cTOr T (n + 1) c es = some w) : PW X (.BoolOp .Or es pos) (liftT X.K w) := by
  match es, h with
  | [], h => simp only [cTOr] at h; cases h
  | [e], h => simp only [cTOr] at h; exact w_or1 (ih.t hx h)
  | e :: b :: r, h =>
    simp only [cTOr] at h
    obtain ⟨wa, wb, h1, h2, rfl⟩ := op2_some h
    exact w_or (ih.t hx h1) (ih.tor hx h2)
theorem sn_o (ih : Sn T n) (hx : XOk X T c) {o : Option Expr} {w : WO} (h : cO T (n + 1) c o = some w) : PO X o (liftO X.K w) := by
  cases o with
  | none => simp only [cO] at h; cases h; exact o_no
  | some e =>
    simp only [cO] at h
    obtain ⟨wa, h1, rfl⟩ := map_some' h
    exact o_so (ih.e hx h1)
theorem sn_call (ih : Sn T n) (hx : XOk X T c) {f : Expr} {args : List Expr} {w : WE} {pos : Pos} (h : cCall T (n + 1) c f args pos = some w) : PE X (.Call f args [] pos) (liftE X.K w) := by
  cases f with
  | Name x p =>
    simp only [cCall] at h
    split at h
    · rename_i e1 g eq
      split at h
      · rename_i a b ea
        cases h
        unfold lzOf at eq
        split at eq
        · rename_i y p1 e2 f2 pos1
          split at eq
          · rename_i hc
            obtain ⟨rfl, rfl, n1, g1, n2, g2⟩ := hc
            cases eq
            obtain ⟨q1, q2, q3⟩ := ih.es hx ea
            rw [List.all_cons, Bool.and_eq_true] at q2
            exact q_lzip hx.calm (isGl_ok hx g1) (hx.non _ n1) (isGl_ok hx g2) (hx.non _ n2) q1 (star_cons q2.1) (star_any q2.2) (star_cons rfl)
          · cases eq
        · cases eq
      · cases h
    · exact wCallN_ok hx h fun vs hv => ih.es hx hv
  | Attribute o m ap =>
    simp only [cCall] at h
    split at h
    · rename_i hc
      obtain ⟨h1, h2, h3⟩ := hc
      split at h
      · rename_i es v eq
        split at h
        · rename_i wo ws wd g1 g2 g3
          cases h
          unfold setdOf at eq
          split at eq
          · rename_i es' x1 tp v'
            split at eq
            · rename_i hc2
              obtain ⟨rfl, hv⟩ := hc2
              cases eq
              obtain ⟨p1, p2, p3⟩ := ih.es hx g2
              refine q_setd (by have := hx.hu; omega) (ih.e hx g1) p1 (ih.e hx g3) ⟨super_base h1, ?_, h2, ?_⟩
              · rw [star_few (es := [.Tuple es x1 tp, v]) (by rw [List.all_cons, List.all_cons, hv]; rfl)]
                rfl
              · rw [star_cons (show noStar (.Tuple es x1 tp) = true from rfl), star_cons hv]
                rfl
            · cases eq
          · cases eq
        · cases h
      split at h
      · rename_i s g e
        obtain ⟨wo, ws, g1, g2, rfl⟩ := op2_some h
        obtain ⟨p1, p2, p3⟩ := ih.es hx g2
        cases args with
        | nil =>
          have e2 : ws = [] := List.eq_nil_of_length_eq_zero p3
          subst e2
          exact q_mt0 (mtOf_ok hx e) (ih.e hx g1) (super_base h1) h2
        | cons a as =>
          have hst := p2
          rw [List.all_cons, Bool.and_eq_true] at p2
          refine q_mt (mtOf_ok hx e) (ih.e hx g1) p1 (super_base h1) ?_ h2 (star_cons p2.1) (star_any p2.2)
          rw [star_few hst]
          have e3 : (a :: as).length + ([] : List Keyword).length + (if ([] : List Keyword).isEmpty then 0 else 1) < 30 := by
            show (a :: as).length + 0 + 0 < 30
            omega
          rw [decide_eq_true e3]
          rfl
      · cases h
    · cases h
  | _ => simp only [cCall] at h; cases h
theorem sn_sub (ih : Sn T n) (hx : XOk X T c) {a s : Expr} {w : WE} {pos : Pos} (h : cSub T (n + 1) c a s = some w) : PE X (.Subscript a s pos) (liftE X.K w) := by
  have hu := hx.hu
  have go : ∀ {s : Expr}, noSlice s = true → op2 (wBin oIx) (cE T n c a) (cE T n c s) = some w → PE X (.Subscript a s pos) (liftE X.K w) := fun hs h => by
    obtain ⟨wa, wb, h1, h2, rfl⟩ := op2_some h
    exact q_ix (by omega) (ih.e hx h1) (ih.e hx h2) (plain_ix hs)
  cases s with
  | Slice lo hi st p =>
    cases st with
    | none =>
      simp only [cSub] at h
      obtain ⟨wa, wl, wh, h1, h2, h3, rfl⟩ := op3_some h
      exact q_sl (ih.e hx h1) (ih.o hx h2) (ih.o hx h3)
    | some st =>
      unfold cSub at h
      split at h
      · rename_i e; cases e
      · rename_i e
        cases e
        obtain ⟨wa, h1, rfl⟩ := map_some' h
        exact q_rev (ih.e hx h1)
      · cases h
      · rename_i e1 e2 e3
        exact absurd rfl (e3 _ _ _ _)
  | _ => simp only [cSub] at h; exact go rfl h
theorem sn_comp (ih : Sn T n) (hx : XOk X T c) {elt tg iter : Expr} {ifs : List Expr} {scope : Scope} {w : WE} (h : cComp T (n + 1) c elt tg iter ifs scope = some w) :
    (∀ pos, PE X (.ListComp elt [⟨tg, iter, ifs, 0⟩] scope pos) (liftE X.K w)) ∧
    ∀ (pos spos py : Pos) (i : Nat) (y : Str), X.N[i]? = some y → X.env.scope.names.lookup y = some .local → swapsWith (.ListComp elt [⟨tg, iter, ifs, 0⟩] scope pos) (some (.Name y py)) spos.line X.env = pure true →
      PS X (.Assign [.Name y py] (.ListComp elt [⟨tg, iter, ifs, 0⟩] scope pos) spos) (liftS X.K (sAsg (gN i) w)) := by
  simp only [cComp] at h
  split at h
  · rename_i hb
    have hk : BlkOk X.N X.env.scope scope (ownOf c scope) := by
      rw [hx.N, hx.sc]
      exact blkOk_by hb
    split at h
    · rename_i wi g is we h1 h2 h3
      split at h
      · rename_i hm
        have hm' : ∀ i ∈ is, i ∈ (ownOf c scope).map (·.2) := fun i hi => by
          have := List.all_eq_true.mp hm i hi
          rw [List.any_eq_true] at this
          obtain ⟨p, hp, e⟩ := this
          exact List.mem_map.mpr ⟨p, hp, by simpa using e⟩
        have hbx := fun s H C cl fp => blk_ok hx hk s H C cl fp
        -- the target's reading does not hang on the block's state
        have tg0 : ∃ t, (∀ s H C cl fp, PG (X.blk s H scope (compEnvC scope cl C X.env) fp) tg t) ∧ CtOk X.K t g ((ownOf c scope).map (·.2)) := by
          cases tg <;> first | (cases h2; done) | skip
          · rename_i x p
            obtain ⟨i, g1, g2⟩ := map_some' h2
            cases g2
            have g1' : tgOne (blkCt c scope) (.Name x p) = some i := g1
            exact ⟨_, fun s H C cl fp => (tgOne_ok (hbx s H C cl fp) g1').1, ct_one (hm' i (by simp))⟩
          · rename_i es k p
            obtain ⟨js, g1, g2⟩ := map_some' h2
            cases g2
            have main : ∀ {es : List Expr} {is : List Nat}, optAll (tgOne (blkCt c scope)) es = some is → (∀ i ∈ is, i ∈ (ownOf c scope).map (·.2)) →
                es.all noStar = true ∧ is.length = es.length ∧ ∃ g, (∀ s H C cl fp, PGs (X.blk s H scope (compEnvC scope cl C X.env) fp) es g) ∧ CtsOk X.K g (gsN is) ((ownOf c scope).map (·.2)) := by
              intro es
              induction es with
              | nil => intro is h _; cases h; exact ⟨rfl, rfl, _, fun s H C cl fp => pgs_nil, cts_nil⟩
              | cons e r ihr =>
                intro is h hm
                unfold optAll at h
                split at h
                · rename_i i js h1 h2
                  cases h
                  obtain ⟨q1, q2, t, q3, q4⟩ := ihr h2 fun j hj => hm j (List.mem_cons_of_mem _ hj)
                  have p2 : noStar e = true := by cases e <;> first | rfl | cases h1
                  have p1 : ∀ s H C cl fp, PG (X.blk s H scope (compEnvC scope cl C X.env) fp) e (gName i) := fun s H C cl fp => (tgOne_ok (hbx s H C cl fp) h1).1
                  refine ⟨by rw [List.all_cons, p2, q1]; rfl, by rw [List.length_cons, List.length_cons, q2], _, fun s H C cl fp => pgs_cons (p1 s H C cl fp) (q3 s H C cl fp) ?_, cts_cons (hm i List.mem_cons_self) q4⟩
                  have e1 : ∀ env, assignEach (e :: r) env = (false, assign e env) :: assignEach r env := fun env => by
                    cases e <;> first | rfl | cases p2
                  rw [e1]
                  rfl
                · cases h
            obtain ⟨q1, q2, t, q3, q4⟩ := main g1 hm'
            refine ⟨_, fun s H C cl fp => ?_, ct_many q2.symm q4⟩
            obtain ⟨l1, l2, _⟩ := asg_len (env := (X.blk s H scope (compEnvC scope cl C X.env) fp).env) q1
            exact pg_tupU (n := es.length) hx.calm (q3 s H C cl fp) l1 l2
        obtain ⟨t, pg, ct⟩ := tg0
        have pe : ∀ s H C cl fp, PE (X.blk s H scope (compEnvC scope cl C X.env) fp) elt (liftE X.K we) := fun s H C cl fp => ih.e (hbx s H C cl fp) h3
        have pi := ih.i hx h1
        have hset := no_fold (env := X.env) (cI_set h1)
        have fin : ∀ {tt : TT} {wt : WE}, (∀ s H C cl fp, PTs (X.blk s H scope (compEnvC scope cl C X.env) fp) ifs tt) → (∀ σ H Q, liftT X.K wt σ H Q → tt σ H Q) →
            (∀ pos, PE X (.ListComp elt [⟨tg, iter, ifs, 0⟩] scope pos) (liftE X.K (wComp ((ownOf c scope).map (·.2)) wi g wt we))) ∧
            ∀ (pos spos py : Pos) (i : Nat) (y : Str), X.N[i]? = some y → X.env.scope.names.lookup y = some .local → swapsWith (.ListComp elt [⟨tg, iter, ifs, 0⟩] scope pos) (some (.Name y py)) spos.line X.env = pure true →
              PS X (.Assign [.Name y py] (.ListComp elt [⟨tg, iter, ifs, 0⟩] scope pos) spos) (liftS X.K (sAsg (gN i) (wComp ((ownOf c scope).map (·.2)) wi g wt we))) := fun {tt wt} pt tw => by
          refine ⟨fun pos => (pe_lc hx.calm hx.nd pi hk pg pt pe hset).weak fun σ H Q q => lift_comp ct tw q, fun pos spos py i y hy hyl hsw => ?_⟩
          refine (ps_setLc hx.calm hx.nd hy hyl hsw pi hk pg pt pe hset).weak fun D σ H q => ?_
          obtain ⟨env, L, N, hs, hL, hw, k⟩ := q
          exact lift_comp ct tw ⟨env, L, _, hs, hL, hw, fun x La v H1 hb f1 rx r1 => k.nx _ La _ H1 hb f1 ((hs.ex (f1.ex hL)).set i rx) r1⟩
        match ifs, h with
        | [], h =>
          cases h
          refine fin (fun s H C cl fp => pts_nil) fun σ H Q q => ?_
          obtain ⟨env, L, R, hs, hL, hw, k⟩ := q
          obtain ⟨b, e, q⟩ := k _ L H hw .refl hL
          cases e
          exact q
        | [tst], h =>
          obtain ⟨wt, g1, rfl⟩ := map_some' h
          exact fin (fun s H C cl fp => pts_one (ih.t (hbx s H C cl fp) g1)) fun σ H Q q => q
        | _ :: _ :: _, h => cases h
      · cases h
    · cases h
  · cases h
theorem cEs_one {es : List Expr} {a : WE} (ih : Sn T n) (hx : XOk X T c) (h : cEs T n c es = some [a]) : ∃ e, es = [e] ∧ PA X [e] (liftA X.K [a]) ∧ noStar e = true := by
  obtain ⟨p1, p2, p3⟩ := ih.es hx h
  match es, p3 with
  | [e], _ => exact ⟨e, rfl, p1, by simpa using p2⟩
theorem sn_i (ih : Sn T n) (hx : XOk X T c) {tg iter : Expr} {w : WI} (h : cI T (n + 1) c tg iter = some w) : PI X tg iter (liftI X.K w) := by
  have any : ∀ {e : Expr}, (cE T n c e).map iAny = some w → PI X tg e (liftI X.K w) := fun h => by
    obtain ⟨wa, h1, rfl⟩ := map_some' h
    exact i_any (ih.e hx h1)
  have hgl : ∀ {x : Str}, isGl c x = true → Gl X x := fun h => isGl_ok hx h
  cases iter with
  | Set a b d => simp only [cI] at h; cases h
  | Call f args kws pos =>
    cases f with
    | Name x p =>
      cases kws with
      | cons k ks => simp only [cI] at h; exact any h
      | nil =>
        simp only [cI] at h
        split at h
        · rename_i ex
          subst ex
          split at h
          · rename_i hc
            obtain ⟨hn, hg⟩ := hc
            split at h
            · rename_i a ea
              cases h
              obtain ⟨e, rfl, p1, p2⟩ := cEs_one ih hx ea
              exact i_r1 (hgl hg) (hx.non _ hn) p1 (star_cons p2)
            · rename_i a b ea
              cases h
              obtain ⟨p1, p2, p3⟩ := ih.es hx ea
              match args, p3 with
              | [e, e2], _ =>
                simp only [List.all_cons, List.all_nil, Bool.and_true, Bool.and_eq_true] at p2
                have s2 : starEach [e2] X.env = [(false, eval e2 X.env)] := star_cons p2.2
                exact i_r2 (hgl hg) (hx.non _ hn) p1 (by rw [star_cons p2.1, s2]) s2
            · rename_i a b d ea
              cases h
              obtain ⟨p1, p2, p3⟩ := ih.es hx ea
              match args, p3 with
              | [e, e2, e3], _ =>
                rw [List.all_cons, Bool.and_eq_true] at p2
                exact i_r3 (hgl hg) (hx.non _ hn) p1 (star_cons p2.1) (star_any p2.2)
            · cases h
          · cases h
        · split at h
          · rename_i ex
            subst ex
            split at h
            · rename_i hc
              obtain ⟨hn, hg⟩ := hc
              split at h
              · rename_i a ea
                cases h
                obtain ⟨e, rfl, p1, p2⟩ := cEs_one ih hx ea
                exact i_en (hgl hg) (hx.non _ hn) p1 (star_cons p2)
              · cases h
            · cases h
          · split at h
            · rename_i ex
              subst ex
              split at h
              · rename_i hc
                obtain ⟨hn, hg⟩ := hc
                split at h
                · rename_i a b ea
                  cases h
                  obtain ⟨p1, p2, p3⟩ := ih.es hx ea
                  match args, p3 with
                  | [e, e2], _ =>
                    rw [List.all_cons, Bool.and_eq_true] at p2
                    exact i_zp (hgl hg) (hx.non _ hn) p1 (star_cons p2.1) (star_any p2.2)
                · rename_i a b d ea
                  cases h
                  obtain ⟨p1, p2, p3⟩ := ih.es hx ea
                  match args, p3 with
                  | [e, e2, e3], _ =>
                    rw [List.all_cons, Bool.and_eq_true] at p2
                    exact i_z3 (hgl hg) (hx.non _ hn) p1 (star_cons p2.1) (star_any p2.2)
                · cases h
              · cases h
            · split at h
              · rename_i ex
                subst ex
                split at h
                · rename_i hc
                  obtain ⟨hn, hg⟩ := hc
                  split at h
                  · rename_i b eb
                    obtain ⟨p2, pos2, rfl⟩ := rgArg_eq eb
                    split at h
                    · rename_i hc2
                      obtain ⟨wa, h1, rfl⟩ := map_some' h
                      exact i_rr (hgl hg) (hx.non _ hn) (hgl hc2.1.2) (hx.non _ hc2.1.1) (ih.e hx h1) (star_cons hc2.2)
                    · cases h
                  · split at h
                    · rename_i a ea
                      cases h
                      obtain ⟨e, rfl, p1, p2⟩ := cEs_one ih hx ea
                      exact i_rv (hgl hg) (hx.non _ hn) p1 (star_cons p2)
                    · cases h
                · cases h
              · exact any h
    | Attribute o m apos =>
      cases args with
      | cons a as => simp only [cI] at h; exact any h
      | nil =>
        cases kws with
        | cons k ks => simp only [cI] at h; exact any h
        | nil =>
          cases tg with
          | Tuple elts kk tpos =>
            simp only [cI] at h
            split at h
            · rename_i hc
              obtain ⟨rfl, h1, h2⟩ := hc
              obtain ⟨wa, g1, rfl⟩ := map_some' h
              exact i_im (ih.e hx g1) (super_base h1) h2
            · exact any h
          | _ => simp only [cI] at h; exact any h
    | _ => simp only [cI] at h; exact any h
  | _ => simp only [cI] at h; exact any h
theorem sn_all : ∀ n, Sn T n
  | 0 => sn_zero
  | n + 1 => have ih := sn_all n; ⟨fun hx h => sn_e ih hx h, fun hx h => sn_es ih hx h, fun hx h => sn_and ih hx h, fun hx h => sn_or ih hx h, fun hx h => sn_t ih hx h, fun hx h => sn_tand ih hx h, fun hx h => sn_tor ih hx h, fun hx h => sn_sub ih hx h, fun hx h => sn_o ih hx h, fun hx h => sn_call ih hx h, fun hx h => sn_comp ih hx h, fun hx h => sn_i ih hx h⟩
end
end
section
open PySem PySem.Spec PyProof.Rows L2
def gsL : List WG → WGs
  | [] => gsNil
  | g :: r => gsCons g (gsL r)
/-- whether two or three stores are exchanged -/
def swS (sc : Scope) (ts vs : List Expr) : Option (Option (List Str)) :=
  if !(ts.length == 2 || ts.length == 3) || vs.length != ts.length then some none
  else if (vs.any fun | .Starred .. => true | _ => false) = true then some none
  else if (ts.filterMap fun
    | .Name id pos => if sc.names.lookup id == some .local && pos.line == (ts.head?.map (·.pos.line)).getD 0 then some id else none
    | _ => none).length != ts.length || (ts.filterMap fun
    | .Name id pos => if sc.names.lookup id == some .local && pos.line == (ts.head?.map (·.pos.line)).getD 0 then some id else none
    | _ => none).eraseDups.length != (ts.filterMap fun
    | .Name id pos => if sc.names.lookup id == some .local && pos.line == (ts.head?.map (·.pos.line)).getD 0 then some id else none
    | _ => none).length then some none
  else if vs.all (foldedForSure 8) then some none
  else if vs.all (constantsAlone 8) then none
  else some (some (ts.filterMap fun
    | .Name id pos => if sc.names.lookup id == some .local && pos.line == (ts.head?.map (·.pos.line)).getD 0 then some id else none
    | _ => none))
theorem swS_ok {sc : Scope} {env : PySem.Env} (hs : env.scope = sc) (hk : sc.kind = .function) {ts vs : List Expr} {k k' : Nat} {p p' : Pos} {r : Option (List Str)} (h : swS sc ts vs = some r) :
    swappedStores [.Tuple ts k p] (.Tuple vs k' p') env = pure r := by
  have hb : env.blockKind = .function := by unfold Env.blockKind; rw [hs, hk]; rfl
  have hkk : ∀ id, env.kindOf id = sc.names.lookup id := fun id => by unfold Env.kindOf; rw [hs]
  unfold swS at h
  unfold swappedStores
  simp only [hb, hkk]
  have e0 : ∀ b : Bool, (b || (ScopeKind.function != ScopeKind.function)) = b := fun b => by cases b <;> rfl
  rw [e0]
  split at h
  · rename_i q
    cases h
    exact if_pos q
  rename_i q
  refine (if_neg q).trans ?_
  split at h
  · rename_i q
    cases h
    exact if_pos q
  rename_i q
  refine (if_neg q).trans ?_
  split at h
  · rename_i q
    cases h
    exact if_pos q
  rename_i q
  refine (if_neg q).trans ?_
  split at h
  · rename_i q
    cases h
    exact if_pos q
  rename_i q
  refine (if_neg q).trans ?_
  split at h
  · cases h
  rename_i q
  refine (if_neg q).trans ?_
  cases h
  rfl
def isLC : Expr → Bool
  | .ListComp _ _ _ _ => true
  | _ => false
section
variable (T : Tab)
mutual
def cG : Nat → Ct → Expr → Option WG
  | 0, _, _ => none
  | n + 1, c, e => match e with
    | .Name x _ => if okName x = true then (cSto c x).map gN else none
    | .Tuple es _ _ => (cGs n c es).map fun gs => gT gs.length (gsL gs)
    | .Subscript o i _ => if noSlice i = true then op2 gS (cE T n c o) (cE T n c i) else none
    | _ => none
def cGs : Nat → Ct → List Expr → Option (List WG)
  | 0, _, _ => none
  | n + 1, c, es => match es with
    | [] => some []
    | e :: r => if noStar e = true then op2 List.cons (cG n c e) (cGs n c r) else none
end
def cAsg (n : Nat) (c : Ct) (tg e : Expr) : Option WS := match tg, e with
  | .Tuple ts _ _, .Tuple vs _ _ => (match swS c.sc ts vs with
    | some none => op2 sAsg (cG T n c tg) (cE T n c e)
    | some (some _) => if ts.length == 2 || ts.length == 3 then op2 sPar (optAll (tgOne c) ts) (cEs T n c vs) else none
    | none => none)
  | _, _ => if (noComp e || isLC e) = true then op2 sAsg (cG T n c tg) (cE T n c e) else none
mutual
def cS : Nat → Ct → Stmt → Option WS
  | 0, _, _ => none
  | n + 1, c, s => match s with
    | .Return (some e) _ => (cE T n c e).map sRet
    | .Return none _ => some sRetN
    | .Expr e _ => if noComp e = true then (cE T n c e).map sExpr else none
    | .Assign [tg] e _ => cAsg T n c tg e
    | .AugAssign (.Name x _) .Add e _ => if okName x = true then op2 (fun i w => sAug i oAddI w) (cSto c x) (cE T n c e) else none
    | .If t a b _ => op3 sIf (cT T n c t) (cSs n c a) (cSs n c b)
    | .While t b [] _ => op2 sWhile (cT T n c t) (cSs n c b)
    | .For tg it b [] _ => op3 sFor (cI T n c tg it) (cG T n c tg) (cSs n c b)
    | .Pass _ => some sNil
    | .Raise _ _ _ => some sNever
    | .Break _ => some sBrk
    | .Continue _ => some sCnt
    | _ => none
def cSs : Nat → Ct → List Stmt → Option WS
  | 0, _, _ => none
  | n + 1, c, ss => match ss with
    | [] => some sNil
    | [s] => cS n c s
    | s :: r => op2 sSeq (cS n c s) (cSs n c r)
end
end
section
variable {T : Tab} {X : Cx} {c : Ct}
theorem cG_ok (hx : XOk X T c) : ∀ n, (∀ {e : Expr} {g : WG}, cG T n c e = some g → PG X e (liftG X.K g) ∧ noStar e = true) ∧ ∀ {es : List Expr} {gs : List WG}, cGs T n c es = some gs → PGs X es (liftGs X.K (gsL gs)) ∧ es.all noStar = true ∧ gs.length = es.length
  | 0 => ⟨fun h => (by simp only [cG] at h; cases h), fun h => (by simp only [cGs] at h; cases h)⟩
  | n + 1 => by
    obtain ⟨ih1, ih2⟩ := cG_ok hx n
    refine ⟨fun {e g} h => ?_, fun {es gs} h => ?_⟩
    · cases e with
      | Name x p =>
        simp only [cG] at h
        split at h
        · obtain ⟨i, h1, rfl⟩ := map_some' h
          obtain ⟨e1, e2, e3⟩ := cSto_ok hx h1
          exact ⟨g_name hx.nd e1 e2 e3, rfl⟩
        · cases h
      | Tuple es k p =>
        simp only [cG] at h
        obtain ⟨gs, h1, rfl⟩ := map_some' h
        obtain ⟨p1, p2, p3⟩ := ih2 h1
        obtain ⟨l1, l2, _⟩ := asg_len (env := X.env) p2
        exact ⟨g_tup hx.calm p1 (by rw [l1, p3]) l2, rfl⟩
      | Subscript o i p =>
        simp only [cG] at h
        split at h
        · rename_i hs
          obtain ⟨wo, wi, h1, h2, rfl⟩ := op2_some h
          refine ⟨g_sub ((sn_all n).e hx h1) ((sn_all n).e hx h2) fun v => ?_, rfl⟩
          cases i <;> first | rfl | cases hs
        · cases h
      | _ => simp only [cG] at h; cases h
    · cases es with
      | nil => simp only [cGs] at h; cases h; exact ⟨g_nil, rfl, rfl⟩
      | cons e r =>
        simp only [cGs] at h
        split at h
        · rename_i hs
          obtain ⟨g, gr, h1, h2, rfl⟩ := op2_some h
          obtain ⟨p1, p2, p3⟩ := ih2 h2
          refine ⟨g_cons (ih1 h1).1 p1 ?_, by rw [List.all_cons, hs, p2]; rfl, by rw [List.length_cons, List.length_cons, p3]⟩
          have e1 : assignEach (e :: r) X.env = (false, assign e X.env) :: assignEach r X.env := by
            cases e <;> first | rfl | cases hs
          rw [e1]
          rfl
        · cases h
theorem sole_none {tg e : Expr} {l : Nat} {env : PySem.Env} (h : noComp e = true) : swapsWith e (some tg) l env = pure false := by cases e <;> first | rfl | cases h
theorem sole_expr {e : Expr} {l : Nat} {env : PySem.Env} (h : noComp e = true) : swapsWith e none l env = pure false := by cases e <;> first | rfl | cases h
theorem asg_one {tg : Expr} {env : PySem.Env} (h : noStar tg = true) : (assignEach [tg] env).map (·.2) = [assign tg env] := by
  cases tg <;> first | rfl | cases h
/-- the names of the targets, and their places -/
theorem sw_names {sc : Scope} {ts vs : List Expr} {ns : List Str} (h : swS sc ts vs = some (some ns)) : ns = (ts.filterMap fun
    | .Name id pos => if sc.names.lookup id == some .local && pos.line == (ts.head?.map (·.pos.line)).getD 0 then some id else none
    | _ => none) ∧ ns.length = ts.length ∧ vs.length = ts.length ∧ ns.eraseDups.length = ns.length := by
  unfold swS at h
  split at h
  · cases h
  rename_i q0
  split at h
  · cases h
  split at h
  · cases h
  rename_i q
  split at h
  · cases h
  split at h
  · cases h
  cases h
  rw [Bool.or_eq_true, not_or] at q q0
  exact ⟨rfl, Classical.byContradiction fun z => q.1 (bne_iff_ne.mpr z), Classical.byContradiction fun z => q0.2 (bne_iff_ne.mpr z), Classical.byContradiction fun z => q.2 (bne_iff_ne.mpr z)⟩
theorem filt2 {α β : Type} {f : α → Option β} {a b : α} (h : ([a, b].filterMap f).length = 2) : ∃ x y, f a = some x ∧ f b = some y ∧ [a, b].filterMap f = [x, y] := by
  cases ha : f a <;> cases hb : f b <;> simp [List.filterMap, ha, hb] at h ⊢
theorem filt3 {α β : Type} {f : α → Option β} {a b d : α} (h : ([a, b, d].filterMap f).length = 3) : ∃ x y z, f a = some x ∧ f b = some y ∧ f d = some z ∧ [a, b, d].filterMap f = [x, y, z] := by
  cases ha : f a <;> cases hb : f b <;> cases hd : f d <;> simp [List.filterMap, ha, hb, hd] at h ⊢
theorem name_of {sc : Scope} {l : Nat} {e : Expr} {x : Str} (h : (match e with
    | .Name id pos => if sc.names.lookup id == some .local && pos.line == l then some id else none
    | _ => none) = some x) : (∃ p, e = .Name x p) ∧ sc.names.lookup x = some .local := by
  cases e <;> first | (cases h; done) | skip
  rename_i id pos
  have h : (if (sc.names.lookup id == some .local && pos.line == l) = true then some id else none) = some x := h
  split at h
  · rename_i q
    cases h
    rw [Bool.and_eq_true] at q
    exact ⟨⟨_, rfl⟩, by simpa using q.1⟩
  · cases h
theorem tgOne_get (hx : XOk X T c) {x : Str} {p : Pos} {i : Nat} (h : tgOne c (.Name x p) = some i) : X.N[i]? = some x := by
  have h : (if okName x = true then cSto c x else none) = some i := h
  split at h
  · exact (cSto_ok hx h).1
  · cases h
theorem nodup_ne {α : Type} {l : List α} (hN : l.Nodup) {i j : Nat} {x y : α} (a : l[i]? = some x) (b : l[j]? = some y) (h : x ≠ y) : i ≠ j := fun e => by
  subst e
  rw [a] at b
  exact h (Option.some.inj b)
theorem sw_false {elt : Expr} {gs : List Comprehension} {scope : Scope} {pos py : Pos} {y : Str} {l : Nat} {env : PySem.Env} (hk : env.scope.kind = .function)
    (hb : (env.scope.names.lookup y == some .local && py.line == pos.line && !(scope.names.any fun (n, k) => n == y && (k == .local || k == .cell))) = false) : swapsWithSole [.Name y py] (.ListComp elt gs scope pos) l env = pure false := by
  have hbk : env.blockKind = .function := by unfold Env.blockKind; rw [hk]; rfl
  have hkk : env.kindOf y = env.scope.names.lookup y := rfl
  unfold swapsWithSole swapsWith
  simp only [hbk, hkk, Expr.pos]
  have e0 : ∀ b : Bool, ((ScopeKind.function == ScopeKind.function) && b) = b := fun b => by cases b <;> rfl
  rw [Bool.and_assoc, Bool.and_assoc, e0, ← Bool.and_assoc, hb]
theorem cAsg_ok (hx : XOk X T c) {n : Nat} {tg e : Expr} {w : WS} {pos : Pos} (h : cAsg T n c tg e = some w) : PS X (.Assign [tg] e pos) (liftS X.K w) := by
  have hk := hx.kd
  have hsc := hx.sc
  have plain : ∀ {g : WG} {we : WE}, cG T n c tg = some g → cE T n c e = some we → swapsWithSole [tg] e pos.line X.env = pure false → swappedStores [tg] e X.env = pure none → PS X (.Assign [tg] e pos) (liftS X.K (sAsg g we)) := fun hg he h1 h2 => by
    obtain ⟨p1, p2⟩ := (cG_ok hx n).1 hg
    exact s_asg ((sn_all n).e hx he) p1 h1 h2 (asg_one p2)
  have other : ∀ (hnt : ¬ ((∃ ts k p, tg = .Tuple ts k p) ∧ ∃ vs k p, e = .Tuple vs k p)), (if (noComp e || isLC e) = true then op2 sAsg (cG T n c tg) (cE T n c e) else none) = some w → PS X (.Assign [tg] e pos) (liftS X.K w) := fun hnt h => by
    have hst : ∀ g, cG T n c tg = some g → swappedStores [tg] e X.env = pure none := fun g hg => by
      cases n with
      | zero => simp only [cG] at hg; cases hg
      | succ n =>
        cases tg <;> first | (simp only [cG] at hg; cases hg; done) | rfl | skip
        cases e <;> first | rfl | skip
        exact absurd ⟨⟨_, _, _, rfl⟩, _, _, _, rfl⟩ hnt
    split at h
    · rename_i hc
      obtain ⟨g, we, h1, h2, rfl⟩ := op2_some h
      by_cases hn : noComp e = true
      · exact plain h1 h2 (sole_none hn) (hst g h1)
      · -- a comprehension
        have hl : isLC e = true := by
          rw [Bool.or_eq_true] at hc
          exact hc.resolve_left hn
        obtain ⟨elt, gs, scope, lp, rfl⟩ : ∃ elt gs scope lp, e = .ListComp elt gs scope lp := by
          cases e <;> first | exact ⟨_, _, _, _, rfl⟩ | cases hl
        cases n with
        | zero => simp only [cG] at h1; cases h1
        | succ n =>
          by_cases htn : ∃ y py, tg = .Name y py
          case neg =>
            refine plain h1 h2 ?_ (hst g h1)
            cases tg <;> first | rfl | exact absurd ⟨_, _, rfl⟩ htn
          obtain ⟨y, py, rfl⟩ := htn
          cases hb : (c.sc.names.lookup y == some .local && py.line == lp.line && !(scope.names.any fun (n, k) => n == y && (k == .local || k == .cell)))
          · refine plain h1 h2 ?_ (hst g h1)
            exact sw_false (by rw [hsc]; exact hk) (by rw [hsc]; exact hb)
          · rw [Bool.and_eq_true, Bool.and_eq_true] at hb
            have hloc : X.env.scope.names.lookup y = some .local := by rw [hsc]; simpa using hb.1.1
            have hsw : swapsWith (.ListComp elt gs scope lp) (some (.Name y py)) pos.line X.env = pure true := sw_true (by rw [hsc]; exact hk) hloc hb.1.2 (by simpa using hb.2)
            simp only [cG] at h1
            split at h1
            · obtain ⟨i, g1, rfl⟩ := map_some' h1
              obtain ⟨e1, e2, e3⟩ := cSto_ok hx g1
              match gs, h2, hsw with
              | [⟨tg, iter, ifs, 0⟩], h2, hsw =>
                simp only [cE] at h2
                exact ((sn_all n).comp hx h2).2 lp pos py i y e1 hloc hsw
              | [], h2, _ => simp only [cE] at h2; cases h2
              | [⟨tg, iter, ifs, .ofNat (k + 1)⟩], h2, _ => simp only [cE] at h2; cases h2
              | [⟨tg, iter, ifs, .negSucc k⟩], h2, _ => simp only [cE] at h2; cases h2
              | _ :: _ :: _, h2, _ => simp only [cE] at h2; cases h2
            · cases h1
    · cases h
  unfold cAsg at h
  split at h
  · rename_i ts k p vs k' p'
    split at h
    · rename_i hs
      obtain ⟨g, we, h1, h2, rfl⟩ := op2_some h
      exact plain h1 h2 rfl (swS_ok hsc hk hs)
    · rename_i ns hs
      split at h
      · rename_i hl
        obtain ⟨is, ws, h1, h2, rfl⟩ := op2_some h
        obtain ⟨n1, n2, n3, n4⟩ := sw_names hs
        obtain ⟨p1, p2, p3⟩ := (sn_all n).es hx h2
        have hsw := swS_ok (k := k) (k' := k') (p := p) (p' := p') hsc hk hs
        match ts, vs, n3, hl, h1 with
        | [ta, tb], [va, vb], _, _, h1 =>
          rw [n1] at n2
          obtain ⟨x, y, f1, f2, f3⟩ := filt2 n2
          obtain ⟨⟨px, rfl⟩, lx⟩ := name_of f1
          obtain ⟨⟨py, rfl⟩, ly⟩ := name_of f2
          rw [n1, f3] at hsw
          rw [n1, f3] at n4
          have hxy : x ≠ y := fun z => by
            subst z
            rw [List.eraseDups_cons] at n4
            simp at n4
          unfold optAll optAll optAll at h1
          split at h1
          · rename_i i js g1 g2
            split at g2
            · rename_i j ks g3 g4
              cases g4
              cases g2
              cases h1
              have e1 := tgOne_get hx g1
              have e2 := tgOne_get hx g3
              have hij := nodup_ne hx.nd e1 e2 hxy
              refine (ps_par hx.calm hx.nd e1 e2 hij (by rw [hsc]; exact lx) (by rw [hsc]; exact ly) p1 hsw rfl).weak fun D σ H q => ?_
              obtain ⟨env, L, N, hs, hL, hw, k⟩ := q
              refine ⟨env, L, _, hs, hL, hw, fun xs La vs H1 hb hn f1 rx r1 => ?_⟩
              rw [p3] at hn
              match xs, hn with
              | [u, v], _ =>
                obtain ⟨uu, vv, rfl, ru, rv⟩ := rx.two
                exact ⟨uu, vv, rfl, k.nx _ La _ H1 hb f1 (((hs.ex (f1.ex hL)).set i ru).set j rv) r1⟩
            · cases g2
          · cases h1
        | [ta, tb, td], [va, vb, vd], _, _, h1 =>
          rw [n1] at n2
          obtain ⟨x, y, z, f1, f2, f4, f3⟩ := filt3 n2
          obtain ⟨⟨px, rfl⟩, lx⟩ := name_of f1
          obtain ⟨⟨py, rfl⟩, ly⟩ := name_of f2
          obtain ⟨⟨pz, rfl⟩, lz⟩ := name_of f4
          rw [n1, f3] at hsw
          rw [n1, f3] at n4
          have hxy : x ≠ y := fun q => by
            subst q
            rw [List.eraseDups_cons, List.filter_cons] at n4
            simp at n4
            by_cases q : z = x
            · subst q; simp at n4
            · simp [q, List.eraseDups_cons] at n4
          have hxz : x ≠ z := fun q => by
            subst q
            rw [List.eraseDups_cons] at n4
            by_cases q : y = x
            · subst q; simp at n4
            · simp [q, List.eraseDups_cons] at n4
          have hyz : y ≠ z := fun q => by
            subst q
            rw [List.eraseDups_cons] at n4
            by_cases q : y = x
            · subst q; simp at n4
            · simp [q, List.eraseDups_cons] at n4
          unfold optAll optAll optAll optAll at h1
          split at h1
          · rename_i i js g1 g2
            split at g2
            · rename_i j ks g3 g4
              split at g4
              · rename_i l ms g5 g6
                cases g6
                cases g4
                cases g2
                cases h1
                have e1 := tgOne_get hx g1
                have e2 := tgOne_get hx g3
                have e3 := tgOne_get hx g5
                refine (ps_par3 hx.calm hx.nd e1 e2 e3 (nodup_ne hx.nd e1 e2 hxy) (nodup_ne hx.nd e1 e3 hxz) (nodup_ne hx.nd e2 e3 hyz) (by rw [hsc]; exact lx) (by rw [hsc]; exact ly) (by rw [hsc]; exact lz) p1 hsw rfl).weak fun D σ H q => ?_
                obtain ⟨env, L, N, hs, hL, hw, k⟩ := q
                refine ⟨env, L, _, hs, hL, hw, fun xs La vs H1 hb hn f1 rx r1 => ?_⟩
                rw [p3] at hn
                match xs, hn with
                | [u, v, w], _ =>
                  obtain ⟨uu, vv, ww, rfl, ru, rv, rw'⟩ := rx.three
                  exact ⟨uu, vv, ww, rfl, k.nx _ La _ H1 hb f1 ((((hs.ex (f1.ex hL)).set i ru).set j rv).set l rw') r1⟩
              · cases g4
            · cases g2
          · cases h1
        | [], vs, _, hl, _ => cases hl
        | [_], vs, _, hl, _ => cases hl
        | _ :: _ :: _ :: _ :: _, vs, _, hl, _ => simp at hl
      · cases h
    · cases h
  · rename_i hnt
    refine other (fun ⟨⟨ts, k, p, e1⟩, vs, k', p', e2⟩ => ?_) h
    exact hnt ts k p vs k' p' e1 e2
end
end
section
open PySem PySem.Spec PyProof.Rows L2
section
variable {T : Tab} {X : Cx} {c : Ct}
theorem cS_ok (hx : XOk X T c) (hp : PassesOwn (model X.prog X.w) X.A X.env X.xe) : ∀ n, (∀ {s : Stmt} {w : WS}, cS T n c s = some w → PS X s (liftS X.K w)) ∧ ∀ {ss : List Stmt} {w : WS}, cSs T n c ss = some w → PSs X ss (liftS X.K w)
  | 0 => ⟨fun h => (by simp only [cS] at h; cases h), fun h => (by simp only [cSs] at h; cases h)⟩
  | n + 1 => by
    obtain ⟨ih1, ih2⟩ := cS_ok hx hp n
    have sn := sn_all (T := T) n
    refine ⟨fun {s w} h => ?_, fun {ss w} h => ?_⟩
    · cases s with
      | Return o p =>
        cases o with
        | none => simp only [cS] at h; cases h; exact s_retN
        | some e =>
          simp only [cS] at h
          obtain ⟨we, h1, rfl⟩ := map_some' h
          exact s_ret (sn.e hx h1)
      | Expr e p =>
        simp only [cS] at h
        split at h
        · rename_i hn
          obtain ⟨we, h1, rfl⟩ := map_some' h
          exact s_expr (sn.e hx h1) (sole_expr hn)
        · cases h
      | Assign tgs e p =>
        match tgs, h with
        | [tg], h => simp only [cS] at h; exact cAsg_ok hx h
        | [], h => simp only [cS] at h; cases h
        | _ :: _ :: _, h => simp only [cS] at h; cases h
      | AugAssign tg op e p =>
        cases tg with
        | Name x p2 =>
          cases op with
          | Add =>
            simp only [cS] at h
            split at h
            · obtain ⟨i, we, h1, h2, rfl⟩ := op2_some h
              obtain ⟨e1, e2, e3⟩ := cSto_ok hx h1
              exact s_aug hx.nd e1 e2 e3 ip_add ip_addI (sn.e hx h2)
            · cases h
          | _ => simp only [cS] at h; cases h
        | _ => simp only [cS] at h; cases h
      | If t a b p =>
        simp only [cS] at h
        obtain ⟨wt, wa, wb, h1, h2, h3, rfl⟩ := op3_some h
        exact s_if (sn.t hx h1) (ih2 h2) (ih2 h3)
      | While t b o p =>
        cases o with
        | nil =>
          simp only [cS] at h
          obtain ⟨wt, wb, h1, h2, rfl⟩ := op2_some h
          exact s_while hp (sn.t hx h1) (ih2 h2)
        | cons _ _ => simp only [cS] at h; cases h
      | For tg it b o p =>
        cases o with
        | nil =>
          simp only [cS] at h
          obtain ⟨wi, g, wb, h1, h2, h3, rfl⟩ := op3_some h
          exact s_for hp hx.calm (sn.i hx h1) ((cG_ok hx n).1 h2).1 (ih2 h3) (no_fold (cI_set h1))
        | cons _ _ => simp only [cS] at h; cases h
      | Pass p => simp only [cS] at h; cases h; exact s_pass
      | Raise _ _ _ => simp only [cS] at h; cases h; exact s_never
      | Break p => simp only [cS] at h; cases h; exact s_brk
      | Continue p => simp only [cS] at h; cases h; exact s_cnt
      | _ => simp only [cS] at h; cases h
    · match ss, h with
      | [], h => simp only [cSs] at h; cases h; exact s_nil
      | [s], h => simp only [cSs] at h; exact s_one (ih1 h)
      | s :: s2 :: r, h =>
        simp only [cSs] at h
        obtain ⟨wa, wb, h1, h2, rfl⟩ := op2_some h
        exact s_cons (ih1 h1) (ih2 h2)
end
def initE (n : Nat) (args : List PV) : Env := args.map some ++ List.replicate (n - args.length) none
structure TabOk (P : Program) (w : World) (K : PySem.W.Frag) (mg : Str → Option Value) (base : Heap) (k : Nat) (T : Tab) : Prop where
  fns : ∀ x n S, T.fns.lookup x = some (n, S) → FnIs P w K mg base k x n S
  non : ∀ x, T.non.contains x = true → mg x = none
  con : ∀ x p, T.con.lookup x = some p → ∃ u v, mg x = some u ∧ RelV v u ∧ ∀ H, RepV K H p v
section
variable {P : Program} {w : World} {K : PySem.W.Frag} {mg : Str → Option Value} {base : Heap} {k : Nat} {T : Tab}
theorem TabOk.mono {k' : Nat} (h : TabOk P w K mg base k T) (hk : k ≤ k') : TabOk P w K mg base k' T := ⟨fun x n S e => (h.fns x n S e).mono hk, h.non, h.con⟩
theorem TabOk.add (h : TabOk P w K mg base k T) {x : Str} {n : Nat} {S : Spec} (f : FnIs P w K mg base k x n S) : TabOk P w K mg base k { T with fns := (x, n, S) :: T.fns } := by
  refine ⟨fun y m S' e => ?_, h.non, h.con⟩
  have e : ((x, n, S) :: T.fns).lookup y = some (m, S') := e
  rw [List.lookup_cons] at e
  split at e
  · rename_i q
    cases e
    have q : y = x := by simpa using q
    subst q
    exact f
  · exact h.fns y m S' e
theorem start_rep {N : List Str} {H : Hp} {args : List PV} {vs : List V} (r : RepVs K H args vs) : RepS K H (L2.start N vs) (initE N.length args) := by
  have hl := r.length
  refine ⟨?_, fun i x e => ?_⟩
  · unfold L2.start initE
    rw [List.length_append, List.length_append, List.length_map, List.length_map, List.length_replicate, List.length_replicate, hl]
  · unfold initE at e
    by_cases hi : i < args.length
    · rw [List.getElem?_append_left (by rw [List.length_map]; exact hi), List.getElem?_map] at e
      cases q : args[i]? with
      | none => rw [q] at e; cases e
      | some y =>
        rw [q] at e
        cases e
        obtain ⟨v, h1, h2⟩ := r.get q
        refine ⟨v, ?_, h2⟩
        unfold L2.start
        rw [List.getElem?_append_left (by rw [List.length_map]; omega), List.getElem?_map, h1]
        rfl
    · rw [List.getElem?_append_right (by rw [List.length_map]; omega), List.getElem?_replicate] at e
      split at e <;> cases e
/-- THE RULE for a def, over data -/
theorem def_fn (hT : TabOk P w K mg base k T) {x qual : Str} {st : Stmt} {f : Addr} {fd : FuncData} {N ps : List Str} {n : Nat} {body : WS} {S : Spec} (F : Fun K x qual st f fd) (sc : FnScope N ps (defScope st)) (hc : cSs T n ⟨N, defScope st, fun _ => true⟩ (defBody st) = some body)
    (hS : ∀ args L R, args.length = ps.length → S args L R → body (initE N.length args) L { nx := fun _ L' => R .non L', rt := R }) : FnG P w K mg base (k + 1) f fd ps (liftSp K ps.length S) := by
  obtain ⟨oc, od, kV, doc, pm, an, cdv, ct, osl, rfl, lk, hcd⟩ := F.ex
  refine g_def lk hcd sc (fun vs H Q E h => h.1) fun A outer s H vs Q E gd hr h => ?_
  obtain ⟨hl, args, L, R, ra, rh, hs, kt⟩ := h
  have hx : XOk (cxOf CX0 P w K mg base N qual (defScope st) f cdv A outer s H E).nox T ⟨N, defScope st, fun _ => true⟩ :=
    ⟨rfl, sc.nd, rfl, sc.kind, fun _ _ => rfl, rfl, gd, ⟨k, hr, hT.fns⟩, hT.non, hT.con⟩
  refine ⟨_, ((cS_ok hx PassesOwn.never n).2 hc).nox, ?_⟩
  refine ⟨initE N.length args, L, _, start_rep ra, rh, hS args L R (by rw [ra.length, hl]) hs, ?_⟩
  exact ⟨fun env' L' σ' H' h f r' rh' => kt .non L' .non H' h f rfl rh', kt, fun _ _ _ _ h => h.elim, fun _ _ _ _ h => h.elim⟩
theorem def_ok (hT : TabOk P w K mg base k T) {x qual : Str} {st : Stmt} {f : Addr} {fd : FuncData} {N ps : List Str} {n : Nat} {body : WS} {S : Spec} (F : Fun K x qual st f fd) (sc : FnScope N ps (defScope st)) (hc : cSs T n ⟨N, defScope st, fun _ => true⟩ (defBody st) = some body)
    (hm : mg x = some (.ref f)) (hb : Binds K fd ps []) (hS : ∀ args L R, args.length = ps.length → S args L R → body (initE N.length args) L { nx := fun _ L' => R .non L', rt := R }) : FnIs P w K mg base (k + 1) x ps.length S :=
  ⟨f, fd, ps, hm, F.kp, hb, def_fn hT F sc hc hS⟩
def NonOk (mg : Str → Option Value) (l : List Str) : Prop := ∀ x, l.contains x = true → mg x = none
theorem NonOk.nil : NonOk mg [] := fun x h => by cases h
theorem NonOk.cons {l : List Str} {y : Str} (hy : mg y = none) (h : NonOk mg l) : NonOk mg (y :: l) := fun x e => by
  rw [List.contains_cons, Bool.or_eq_true] at e
  rcases e with e | e
  · have : x = y := by simpa using e
    rw [this]
    exact hy
  · exact h x e
theorem TabOk.start {non : List Str} (h : NonOk mg non) : TabOk P w K mg base k ⟨[], [], non⟩ := ⟨fun x n S e => (by cases e), h, fun x p e => (by cases e)⟩
theorem TabOk.cn (h : TabOk P w K mg base k T) {x : Str} {p : PV} {u : Value} {v : V} (h1 : mg x = some u) (h2 : RelV v u) (h3 : ∀ H, RepV K H p v) : TabOk P w K mg base k { T with con := (x, p) :: T.con } := by
  refine ⟨h.fns, h.non, fun y p' e => ?_⟩
  have e : ((x, p) :: T.con).lookup y = some p' := e
  rw [List.lookup_cons] at e
  split at e
  · rename_i q
    cases e
    have q : y = x := by simpa using q
    subst q
    exact ⟨u, v, h1, h2, h3⟩
  · exact h.con y p' e
end
/-- what the law's promise asks at the entry -/
theorem law_sp {K : PySem.W.Frag} {S : Spec} {H : Hp} {a : Addr} {ns : List Int} (hO : Only H) (hS : SqL K H a (ns.map V.int)) (h : S [.fz ns] (fun _ => none) fun x _ => x = .bl true) : liftSp K 1 S [.ref a] H (fun v _ => v = .bl true) fun _ _ _ => False := by
  refine ⟨rfl, [.fz ns], fun _ => none, _, ⟨.ref a, [], rfl, ⟨a, rfl, ?_⟩, rfl⟩, fun b o e => (by cases e), h, fun x L' v H' hx f rv rh => ?_⟩
  · rcases hS with (h | ⟨o, h⟩) | h
    · rcases hO a with q | ⟨o, xs, q⟩
      · rw [q] at h; cases h
      · rw [q] at h; cases h
    · exact .inl ⟨o, h⟩
    · exact .inr (.inr h)
  · subst hx
    exact rv
end
section
open PySem PySem.Spec PyProof.Rows L2
section
variable {L : Sto} {R : PK} {a b c d e f g h : PV} {r : List PV}
theorem ix0 : oIx (.tup (a :: r)) (.int 0) L R = R a L := by
  show (match atI (a :: r) 0 with | some v => R v L | none => False) = _
  rw [show atI (a :: r) 0 = some a from atI_nat (j := 0) rfl]
theorem ix1 : oIx (.tup (a :: b :: r)) (.int 1) L R = R b L := by
  show (match atI (a :: b :: r) 1 with | some v => R v L | none => False) = _
  rw [show atI (a :: b :: r) 1 = some b from atI_nat (j := 1) rfl]
theorem ix2 : oIx (.tup (a :: b :: c :: r)) (.int 2) L R = R c L := by
  show (match atI (a :: b :: c :: r) 2 with | some v => R v L | none => False) = _
  rw [show atI (a :: b :: c :: r) 2 = some c from atI_nat (j := 2) rfl]
theorem ix3 : oIx (.tup (a :: b :: c :: d :: r)) (.int 3) L R = R d L := by
  show (match atI (a :: b :: c :: d :: r) 3 with | some v => R v L | none => False) = _
  rw [show atI (a :: b :: c :: d :: r) 3 = some d from atI_nat (j := 3) rfl]
theorem ixl_nat {p : Addr} {xs : List PV} {j : Nat} {x : PV} (e : L p = some (.l xs)) (h : xs[j]? = some x) (k : R x L) : oIx (.ref p) (.int j) L R := by
  unfold oIx
  simp only [e, atI_nat h]
  exact k
theorem bIf_t {A B : Prop} : bIf (.bl true) A B = A := by show (if true = true then A else B) = A; exact if_pos rfl
theorem bIf_f {A B : Prop} : bIf (.bl false) A B = B := by show (if false = true then A else B) = B; exact if_neg Bool.false_ne_true
theorem bIf_d {p : Prop} [Decidable p] {A B : Prop} : bIf (.bl (decide p)) A B = if p then A else B := by
  show (if decide p = true then A else B) = _
  by_cases h : p <;> simp [h]
theorem bIf_n {x : Bool} {A B : Prop} : bIf (.bl (!x)) A B = bIf (.bl x) B A := by cases x <;> simp [bIf]
theorem bIf_i {A B : Prop} {x : Bool} (h1 : x = true → A) (h2 : x = false → B) : bIf (.bl x) A B := by
  cases x
  · exact h2 rfl
  · exact h1 rfl
end
def Le (L L' : Sto) : Prop := ∀ a o, L a = some o → L' a = some o
theorem Le.refl {L : Sto} : Le L L := fun _ _ h => h
theorem Le.trans {L La Lb : Sto} (x : Le L La) (y : Le La Lb) : Le L Lb := fun a o h => y a o (x a o h)
theorem Le.new {L : Sto} {p : Addr} {o : SO} (h : L p = none) : Le L (put L p o) := fun a u e => by
  rw [put_ne (fun z => by rw [z, h] at e; cases e)]
  exact e
theorem Le.free {L La : Sto} (x : Le L La) {p : Addr} (h : La p = none) : L p = none := by
  cases e : L p with
  | none => rfl
  | some o => rw [x p o e] at h; cases h
/-- but one list -/
def LeB (b : Addr) (L L' : Sto) : Prop := ∀ a o, a ≠ b → L a = some o → L' a = some o
theorem Le.b {L L' : Sto} (h : Le L L') (b : Addr) : LeB b L L' := fun a o _ e => h a o e
theorem LeB.trans {b : Addr} {L La Lb : Sto} (x : LeB b L La) (y : LeB b La Lb) : LeB b L Lb := fun a o n h => y a o n (x a o n h)
theorem LeB.put {b : Addr} {L : Sto} {o : SO} : LeB b L (put L b o) := fun a u n e => by rw [put_ne n]; exact e
def fr (q : Rat) : PV := .tup [.int q.num, .int q.den]
theorem fr0 {q : Rat} {L : Sto} {R : PK} : oIx (fr q) (.int 0) L R = R (.int q.num) L := ix0
theorem fr1 {q : Rat} {L : Sto} {R : PK} : oIx (fr q) (.int 1) L R = R (.int q.den) L := ix1
def Sz (b : Nat) (q : Rat) : Prop := q.num.natAbs < 2 ^ b ∧ q.den < 2 ^ b
theorem mulOk {i j : Int} (a b : Nat) (ha : i.natAbs < 2 ^ a) (hb : j.natAbs < 2 ^ b) (h : a + b ≤ 134217000) : MulOk i j := by
  constructor
  have key : ∀ (x : Int) (c : Nat), x.natAbs < 2 ^ c → Builtin.Int.intBits x ≤ c := fun x c hc => by
    unfold Builtin.Int.intBits
    split
    · exact Nat.zero_le _
    · rename_i hx
      have hx' : x.natAbs ≠ 0 := fun z => hx (by simpa using z)
      have := (Nat.log2_lt hx').mpr hc
      omega
  have h1 := key i a ha
  have h2 := key j b hb
  have e : bitsLine = 134217728 := by decide
  unfold IntMulOk
  intro z
  rw [Bool.and_eq_true] at z
  have z2 := z.2
  unfold Builtin.Int.intTooBig at z2
  have z3 := of_decide_eq_true z2
  rw [e] at z3
  omega
theorem noPl {i j : Int} (h : j.natAbs < 2 ^ 9000) : NoPl i j := by
  constructor
  refine PyProof.noPylong_of_log2 ?_
  by_cases h0 : j.natAbs = 0
  · rw [h0]; decide +kernel
  · exact (Nat.log2_lt h0).mpr h
section
variable {L : Sto} {R : PK} {i j : Int} {x y : Str} {a : PV}
theorem oEq_ii : oEq (.int i) (.int j) L R = R (.bl (decide (i = j))) L := by
  refine propext ⟨fun h => ?_, fun h => ⟨_, _, .int i, .int j, rfl, rfl, h⟩⟩
  match h with
  | ⟨_, _, .int _, .int _, _, _, h⟩ => exact h
theorem oNe_ii : oNe (.int i) (.int j) L R = R (.bl (!decide (i = j))) L := by
  refine propext ⟨fun h => ?_, fun h => ⟨_, _, .int i, .int j, rfl, rfl, h⟩⟩
  match h with
  | ⟨_, _, .int _, .int _, _, _, h⟩ => exact h
theorem oEq_bb {i j : Bool} : oEq (.bl i) (.bl j) L R = R (.bl (decide (i = j))) L := by
  have e : PyData.eqv (.bool i) (.bool j) = decide (i = j) := by cases i <;> cases j <;> rfl
  refine propext ⟨fun h => ?_, fun h => ⟨_, _, .bl i, .bl j, rfl, rfl, by rw [e]; exact h⟩⟩
  match h with
  | ⟨_, _, .bl _, .bl _, _, _, h⟩ =>
    rw [e] at h
    exact h
theorem oNe_bb {i j : Bool} : oNe (.bl i) (.bl j) L R = R (.bl (!decide (i = j))) L := by
  have e : PyData.eqv (.bool i) (.bool j) = decide (i = j) := by cases i <;> cases j <;> rfl
  refine propext ⟨fun h => ?_, fun h => ⟨_, _, .bl i, .bl j, rfl, rfl, by rw [e]; exact h⟩⟩
  match h with
  | ⟨_, _, .bl _, .bl _, _, _, h⟩ =>
    rw [e] at h
    exact h
end
section
variable {L : Sto} {R : PK} {x : PV} {c : String}
theorem isi_of {b : Bool} (h : isiB (tyName x L) c = some b) : gIsi [x, .ty c] L R = R (.bl b) L := by
  unfold gIsi
  simp only [h]
theorem isi_non_int  : gIsi [.non, .ty "int"] L R = R (.bl false) L := isi_of rfl
theorem isi_non_bool  : gIsi [.non, .ty "bool"] L R = R (.bl false) L := isi_of rfl
theorem isi_non_str  : gIsi [.non, .ty "str"] L R = R (.bl false) L := isi_of rfl
theorem isi_non_tuple  : gIsi [.non, .ty "tuple"] L R = R (.bl false) L := isi_of rfl
theorem isi_non_list  : gIsi [.non, .ty "list"] L R = R (.bl false) L := isi_of rfl
theorem isi_non_dict  : gIsi [.non, .ty "dict"] L R = R (.bl false) L := isi_of rfl
theorem isi_bl_int {u : Bool} : gIsi [(.bl u), .ty "int"] L R = R (.bl true) L := isi_of rfl
theorem isi_bl_bool {u : Bool} : gIsi [(.bl u), .ty "bool"] L R = R (.bl true) L := isi_of rfl
theorem isi_bl_str {u : Bool} : gIsi [(.bl u), .ty "str"] L R = R (.bl false) L := isi_of rfl
theorem isi_bl_tuple {u : Bool} : gIsi [(.bl u), .ty "tuple"] L R = R (.bl false) L := isi_of rfl
theorem isi_bl_list {u : Bool} : gIsi [(.bl u), .ty "list"] L R = R (.bl false) L := isi_of rfl
theorem isi_bl_dict {u : Bool} : gIsi [(.bl u), .ty "dict"] L R = R (.bl false) L := isi_of rfl
theorem isi_int_int {u : Int} : gIsi [(.int u), .ty "int"] L R = R (.bl true) L := isi_of rfl
theorem isi_int_bool {u : Int} : gIsi [(.int u), .ty "bool"] L R = R (.bl false) L := isi_of rfl
theorem isi_int_str {u : Int} : gIsi [(.int u), .ty "str"] L R = R (.bl false) L := isi_of rfl
theorem isi_int_tuple {u : Int} : gIsi [(.int u), .ty "tuple"] L R = R (.bl false) L := isi_of rfl
theorem isi_int_list {u : Int} : gIsi [(.int u), .ty "list"] L R = R (.bl false) L := isi_of rfl
theorem isi_int_dict {u : Int} : gIsi [(.int u), .ty "dict"] L R = R (.bl false) L := isi_of rfl
theorem isi_str_int {u : Str} : gIsi [(.str u), .ty "int"] L R = R (.bl false) L := isi_of rfl
theorem isi_str_bool {u : Str} : gIsi [(.str u), .ty "bool"] L R = R (.bl false) L := isi_of rfl
theorem isi_str_str {u : Str} : gIsi [(.str u), .ty "str"] L R = R (.bl true) L := isi_of rfl
theorem isi_str_tuple {u : Str} : gIsi [(.str u), .ty "tuple"] L R = R (.bl false) L := isi_of rfl
theorem isi_str_list {u : Str} : gIsi [(.str u), .ty "list"] L R = R (.bl false) L := isi_of rfl
theorem isi_str_dict {u : Str} : gIsi [(.str u), .ty "dict"] L R = R (.bl false) L := isi_of rfl
theorem isi_tup_int {u : List PV} : gIsi [(.tup u), .ty "int"] L R = R (.bl false) L := isi_of rfl
theorem isi_tup_bool {u : List PV} : gIsi [(.tup u), .ty "bool"] L R = R (.bl false) L := isi_of rfl
theorem isi_tup_str {u : List PV} : gIsi [(.tup u), .ty "str"] L R = R (.bl false) L := isi_of rfl
theorem isi_tup_tuple {u : List PV} : gIsi [(.tup u), .ty "tuple"] L R = R (.bl true) L := isi_of rfl
theorem isi_tup_list {u : List PV} : gIsi [(.tup u), .ty "list"] L R = R (.bl false) L := isi_of rfl
theorem isi_tup_dict {u : List PV} : gIsi [(.tup u), .ty "dict"] L R = R (.bl false) L := isi_of rfl
theorem isi_fz_int {u : List Int} : gIsi [(.fz u), .ty "int"] L R = R (.bl false) L := isi_of rfl
theorem isi_fz_bool {u : List Int} : gIsi [(.fz u), .ty "bool"] L R = R (.bl false) L := isi_of rfl
theorem isi_fz_str {u : List Int} : gIsi [(.fz u), .ty "str"] L R = R (.bl false) L := isi_of rfl
theorem isi_fz_tuple {u : List Int} : gIsi [(.fz u), .ty "tuple"] L R = R (.bl false) L := isi_of rfl
theorem isi_fz_list {u : List Int} : gIsi [(.fz u), .ty "list"] L R = R (.bl true) L := isi_of rfl
theorem isi_fz_dict {u : List Int} : gIsi [(.fz u), .ty "dict"] L R = R (.bl false) L := isi_of rfl
theorem isi_rl_int {p : Addr} {xs} (h : L p = some (.l xs)) : gIsi [.ref p, .ty "int"] L R = R (.bl false) L := isi_of (by unfold tyName; simp only [h]; rfl)
theorem isi_rl_str {p : Addr} {xs} (h : L p = some (.l xs)) : gIsi [.ref p, .ty "str"] L R = R (.bl false) L := isi_of (by unfold tyName; simp only [h]; rfl)
theorem isi_rl_tuple {p : Addr} {xs} (h : L p = some (.l xs)) : gIsi [.ref p, .ty "tuple"] L R = R (.bl false) L := isi_of (by unfold tyName; simp only [h]; rfl)
theorem isi_rT_int {p : Addr} {xs} (h : L p = some (.t xs)) : gIsi [.ref p, .ty "int"] L R = R (.bl false) L := isi_of (by unfold tyName; simp only [h]; rfl)
theorem isi_rT_tuple {p : Addr} {xs} (h : L p = some (.t xs)) : gIsi [.ref p, .ty "tuple"] L R = R (.bl false) L := isi_of (by unfold tyName; simp only [h]; rfl)
theorem isi_rd_int {p : Addr} {xs} (h : L p = some (.d xs)) : gIsi [.ref p, .ty "int"] L R = R (.bl false) L := isi_of (by unfold tyName; simp only [h]; rfl)
theorem isi_rd_tuple {p : Addr} {xs} (h : L p = some (.d xs)) : gIsi [.ref p, .ty "tuple"] L R = R (.bl false) L := isi_of (by unfold tyName; simp only [h]; rfl)
end
section
variable {L : Sto} {R : PK} {i j : Int} {x y a b : PV} {xs ys : List PV} {u v : Bool} {A B : Prop} {env : Env} {N : Nd}
theorem e_add : (oAdd (.int i) (.int j) L R) = (R (.int (i + j)) L) := propext Iff.rfl
theorem e_addI : (oAddI (.int i) (.int j) L R) = (R (.int (i + j)) L) := propext Iff.rfl
theorem e_addt : (oAdd (.tup xs) (.tup ys) L R) = (xs.length + ys.length ≤ sizeLine ∧ R (.tup (xs ++ ys)) L) := propext Iff.rfl
theorem e_addl {p q : Addr} : (oAdd (.ref p) (.ref q) L R) = (∃ xs ys, L p = some (.l xs) ∧ L q = some (.l ys) ∧ xs.length + ys.length ≤ sizeLine ∧ newL L (xs ++ ys) R) := propext Iff.rfl
theorem e_sub : (oSub (.int i) (.int j) L R) = (R (.int (i - j)) L) := propext Iff.rfl
theorem e_mul : (oMul (.int i) (.int j) L R) = (MulOk i j ∧ R (.int (i * j)) L) := propext Iff.rfl
theorem e_div : (oDiv (.int i) (.int j) L R) = (j ≠ 0 ∧ NoPl i j ∧ R (.int (i.fdiv j)) L) := propext Iff.rfl
theorem e_mod : (oMod (.int i) (.int j) L R) = (j ≠ 0 ∧ R (.int (i.fmod j)) L) := propext Iff.rfl
theorem e_pow : (oPow (.int i) (.int j) L R) = (PowOk i j ∧ R (.int (i ^ j.toNat)) L) := propext Iff.rfl
theorem e_oI {g : Int → Int → Bool} : (oI g (.int i) (.int j) L R) = (R (.bl (g i j)) L) := propext Iff.rfl
theorem e_neg : (oNeg (.int i) L R) = (R (.int (-i)) L) := propext Iff.rfl
theorem e_not : (oNot (.bl u) L R) = (R (.bl (!u)) L) := propext Iff.rfl
theorem e_isn : (oIs x .non L R) = (R (.bl (isN x)) L) := propext Iff.rfl
theorem e_isnn : (oIsNot x .non L R) = (R (.bl (!isN x)) L) := propext Iff.rfl
theorem e_isb : (oIs (.bl u) (.bl v) L R) = (R (.bl (decide (u = v))) L) := propext Iff.rfl
theorem e_isnb : (oIsNot (.bl u) (.bl v) L R) = (R (.bl (!decide (u = v))) L) := propext Iff.rfl
theorem e_isN_non : isN .non = true := rfl
theorem e_isN_bl : isN (.bl u) = false := rfl
theorem e_isN_int : isN (.int i) = false := rfl
theorem e_isN_tup : isN (.tup xs) = false := rfl
theorem e_isN_ref {p : Addr} : isN (.ref p) = false := rfl
theorem e_isN_fz {q : List Int} : isN (.fz q) = false := rfl
theorem e_isN_fr {w : Rat} : isN (fr w) = false := rfl
theorem e_isN_str {z : Str} : isN (.str z) = false := rfl
theorem e_lent : (gLen [.tup xs] L R) = (R (.int xs.length) L) := propext Iff.rfl
theorem e_lenz {ns : List Int} : (gLen [.fz ns] L R) = (R (.int ns.length) L) := propext Iff.rfl
theorem e_abs : (gAbs [.int i] L R) = (R (.int (i.natAbs : Int)) L) := propext Iff.rfl
theorem e_int : (gInt [.int i] L R) = (R (.int i) L) := propext Iff.rfl
theorem e_intb : (gInt [.bl u] L R) = (R (.int (if u then 1 else 0)) L) := propext Iff.rfl
theorem e_dvm : (gDivmod [.int i, .int j] L R) = (0 < j ∧ NoPl i j ∧ R (.tup [.int (i / j), .int (i % j)]) L) := propext Iff.rfl
theorem e_min : (gMin [.int i, .int j] L R) = (R (.int (min i j)) L) := propext Iff.rfl
theorem e_max : (gMax [.int i, .int j] L R) = (R (.int (max i j)) L) := propext Iff.rfl
theorem e_listt : (gList [.tup xs] L R) = (newL L xs R) := propext Iff.rfl
theorem e_listz {ns : List Int} : (gList [.fz ns] L R) = (newL L (ns.map PV.int) R) := propext Iff.rfl
theorem e_tupt : (gTuple [.tup xs] L R) = (R (.tup xs) L) := propext Iff.rfl
theorem e_str : (gStr [.int i] L R) = (i.natAbs.log2 < 1920 ∧ R (.str (Str.ofString (toString i))) L) := propext Iff.rfl
theorem gv_0 {z : Option PV} : gv (z :: env) 0 = z := rfl
theorem gv_s {z : Option PV} {n : Nat} : gv (z :: env) (n + 1) = gv env n := rfl
theorem e_lenl {p : Addr} (h : L p = some (.l xs)) : gLen [.ref p] L R = R (.int xs.length) L := by
  show (match L p with | some (.l ys) => R (.int ys.length) L | some (.d ys) => R (.int ys.length) L | _ => False) = _
  rw [h]
theorem e_listl {p : Addr} (h : L p = some (.l xs)) : gList [.ref p] L R = newL L xs R := by
  show (match L p with | some (.l ys) => newL L ys R | _ => False) = _
  rw [h]
theorem e_tupl {p : Addr} (h : L p = some (.l xs)) : gTuple [.ref p] L R = R (.tup xs) L := by
  show (match L p with | some (.l ys) => R (.tup ys) L | _ => False) = _
  rw [h]
theorem e_sll {p : Addr} {lo hi : Option Int} (h : L p = some (.l xs)) : oSl (.ref p) lo hi L R = newL L (cutP xs lo hi) R := by
  show (match L p with | some (.l xs) => newL L (cutP xs lo hi) R | _ => False) = _
  rw [h]
theorem e_slt {lo hi : Option Int} : (oSl (.tup xs) lo hi L R) = (R (.tup (cutP xs lo hi)) L) := propext Iff.rfl
theorem e_slz {lo hi : Option Int} {ns : List Int} : (oSl (.fz ns) lo hi L R) = (newL L ((cutP ns lo hi).map PV.int) R) := propext Iff.rfl
theorem e_v0 : wVar 0 (some x :: env) L R = R x L := propext Iff.rfl
theorem e_v1 {z0 : Option PV} : wVar 1 (z0 :: some x :: env) L R = R x L := propext Iff.rfl
theorem e_v2 {z0 : Option PV} {z1 : Option PV} : wVar 2 (z0 :: z1 :: some x :: env) L R = R x L := propext Iff.rfl
theorem e_v3 {z0 : Option PV} {z1 : Option PV} {z2 : Option PV} : wVar 3 (z0 :: z1 :: z2 :: some x :: env) L R = R x L := propext Iff.rfl
theorem e_v4 {z0 : Option PV} {z1 : Option PV} {z2 : Option PV} {z3 : Option PV} : wVar 4 (z0 :: z1 :: z2 :: z3 :: some x :: env) L R = R x L := propext Iff.rfl
theorem e_v5 {z0 : Option PV} {z1 : Option PV} {z2 : Option PV} {z3 : Option PV} {z4 : Option PV} : wVar 5 (z0 :: z1 :: z2 :: z3 :: z4 :: some x :: env) L R = R x L := propext Iff.rfl
theorem e_v6 {z0 : Option PV} {z1 : Option PV} {z2 : Option PV} {z3 : Option PV} {z4 : Option PV} {z5 : Option PV} : wVar 6 (z0 :: z1 :: z2 :: z3 :: z4 :: z5 :: some x :: env) L R = R x L := propext Iff.rfl
theorem e_v7 {z0 : Option PV} {z1 : Option PV} {z2 : Option PV} {z3 : Option PV} {z4 : Option PV} {z5 : Option PV} {z6 : Option PV} : wVar 7 (z0 :: z1 :: z2 :: z3 :: z4 :: z5 :: z6 :: some x :: env) L R = R x L := propext Iff.rfl
theorem e_v8 {z0 : Option PV} {z1 : Option PV} {z2 : Option PV} {z3 : Option PV} {z4 : Option PV} {z5 : Option PV} {z6 : Option PV} {z7 : Option PV} : wVar 8 (z0 :: z1 :: z2 :: z3 :: z4 :: z5 :: z6 :: z7 :: some x :: env) L R = R x L := propext Iff.rfl
theorem e_v9 {z0 : Option PV} {z1 : Option PV} {z2 : Option PV} {z3 : Option PV} {z4 : Option PV} {z5 : Option PV} {z6 : Option PV} {z7 : Option PV} {z8 : Option PV} : wVar 9 (z0 :: z1 :: z2 :: z3 :: z4 :: z5 :: z6 :: z7 :: z8 :: some x :: env) L R = R x L := propext Iff.rfl
theorem e_v10 {z0 : Option PV} {z1 : Option PV} {z2 : Option PV} {z3 : Option PV} {z4 : Option PV} {z5 : Option PV} {z6 : Option PV} {z7 : Option PV} {z8 : Option PV} {z9 : Option PV} : wVar 10 (z0 :: z1 :: z2 :: z3 :: z4 :: z5 :: z6 :: z7 :: z8 :: z9 :: some x :: env) L R = R x L := propext Iff.rfl
theorem e_v11 {z0 : Option PV} {z1 : Option PV} {z2 : Option PV} {z3 : Option PV} {z4 : Option PV} {z5 : Option PV} {z6 : Option PV} {z7 : Option PV} {z8 : Option PV} {z9 : Option PV} {z10 : Option PV} : wVar 11 (z0 :: z1 :: z2 :: z3 :: z4 :: z5 :: z6 :: z7 :: z8 :: z9 :: z10 :: some x :: env) L R = R x L := propext Iff.rfl
theorem e_v12 {z0 : Option PV} {z1 : Option PV} {z2 : Option PV} {z3 : Option PV} {z4 : Option PV} {z5 : Option PV} {z6 : Option PV} {z7 : Option PV} {z8 : Option PV} {z9 : Option PV} {z10 : Option PV} {z11 : Option PV} : wVar 12 (z0 :: z1 :: z2 :: z3 :: z4 :: z5 :: z6 :: z7 :: z8 :: z9 :: z10 :: z11 :: some x :: env) L R = R x L := propext Iff.rfl
theorem e_v13 {z0 : Option PV} {z1 : Option PV} {z2 : Option PV} {z3 : Option PV} {z4 : Option PV} {z5 : Option PV} {z6 : Option PV} {z7 : Option PV} {z8 : Option PV} {z9 : Option PV} {z10 : Option PV} {z11 : Option PV} {z12 : Option PV} : wVar 13 (z0 :: z1 :: z2 :: z3 :: z4 :: z5 :: z6 :: z7 :: z8 :: z9 :: z10 :: z11 :: z12 :: some x :: env) L R = R x L := propext Iff.rfl
theorem e_v14 {z0 : Option PV} {z1 : Option PV} {z2 : Option PV} {z3 : Option PV} {z4 : Option PV} {z5 : Option PV} {z6 : Option PV} {z7 : Option PV} {z8 : Option PV} {z9 : Option PV} {z10 : Option PV} {z11 : Option PV} {z12 : Option PV} {z13 : Option PV} : wVar 14 (z0 :: z1 :: z2 :: z3 :: z4 :: z5 :: z6 :: z7 :: z8 :: z9 :: z10 :: z11 :: z12 :: z13 :: some x :: env) L R = R x L := propext Iff.rfl
theorem e_v15 {z0 : Option PV} {z1 : Option PV} {z2 : Option PV} {z3 : Option PV} {z4 : Option PV} {z5 : Option PV} {z6 : Option PV} {z7 : Option PV} {z8 : Option PV} {z9 : Option PV} {z10 : Option PV} {z11 : Option PV} {z12 : Option PV} {z13 : Option PV} {z14 : Option PV} : wVar 15 (z0 :: z1 :: z2 :: z3 :: z4 :: z5 :: z6 :: z7 :: z8 :: z9 :: z10 :: z11 :: z12 :: z13 :: z14 :: some x :: env) L R = R x L := propext Iff.rfl
theorem e_v16 {z0 : Option PV} {z1 : Option PV} {z2 : Option PV} {z3 : Option PV} {z4 : Option PV} {z5 : Option PV} {z6 : Option PV} {z7 : Option PV} {z8 : Option PV} {z9 : Option PV} {z10 : Option PV} {z11 : Option PV} {z12 : Option PV} {z13 : Option PV} {z14 : Option PV} {z15 : Option PV} : wVar 16 (z0 :: z1 :: z2 :: z3 :: z4 :: z5 :: z6 :: z7 :: z8 :: z9 :: z10 :: z11 :: z12 :: z13 :: z14 :: z15 :: some x :: env) L R = R x L := propext Iff.rfl
theorem e_v17 {z0 : Option PV} {z1 : Option PV} {z2 : Option PV} {z3 : Option PV} {z4 : Option PV} {z5 : Option PV} {z6 : Option PV} {z7 : Option PV} {z8 : Option PV} {z9 : Option PV} {z10 : Option PV} {z11 : Option PV} {z12 : Option PV} {z13 : Option PV} {z14 : Option PV} {z15 : Option PV} {z16 : Option PV} : wVar 17 (z0 :: z1 :: z2 :: z3 :: z4 :: z5 :: z6 :: z7 :: z8 :: z9 :: z10 :: z11 :: z12 :: z13 :: z14 :: z15 :: z16 :: some x :: env) L R = R x L := propext Iff.rfl
theorem e_v18 {z0 : Option PV} {z1 : Option PV} {z2 : Option PV} {z3 : Option PV} {z4 : Option PV} {z5 : Option PV} {z6 : Option PV} {z7 : Option PV} {z8 : Option PV} {z9 : Option PV} {z10 : Option PV} {z11 : Option PV} {z12 : Option PV} {z13 : Option PV} {z14 : Option PV} {z15 : Option PV} {z16 : Option PV} {z17 : Option PV} : wVar 18 (z0 :: z1 :: z2 :: z3 :: z4 :: z5 :: z6 :: z7 :: z8 :: z9 :: z10 :: z11 :: z12 :: z13 :: z14 :: z15 :: z16 :: z17 :: some x :: env) L R = R x L := propext Iff.rfl
theorem e_v19 {z0 : Option PV} {z1 : Option PV} {z2 : Option PV} {z3 : Option PV} {z4 : Option PV} {z5 : Option PV} {z6 : Option PV} {z7 : Option PV} {z8 : Option PV} {z9 : Option PV} {z10 : Option PV} {z11 : Option PV} {z12 : Option PV} {z13 : Option PV} {z14 : Option PV} {z15 : Option PV} {z16 : Option PV} {z17 : Option PV} {z18 : Option PV} : wVar 19 (z0 :: z1 :: z2 :: z3 :: z4 :: z5 :: z6 :: z7 :: z8 :: z9 :: z10 :: z11 :: z12 :: z13 :: z14 :: z15 :: z16 :: z17 :: z18 :: some x :: env) L R = R x L := propext Iff.rfl
theorem e_v20 {z0 : Option PV} {z1 : Option PV} {z2 : Option PV} {z3 : Option PV} {z4 : Option PV} {z5 : Option PV} {z6 : Option PV} {z7 : Option PV} {z8 : Option PV} {z9 : Option PV} {z10 : Option PV} {z11 : Option PV} {z12 : Option PV} {z13 : Option PV} {z14 : Option PV} {z15 : Option PV} {z16 : Option PV} {z17 : Option PV} {z18 : Option PV} {z19 : Option PV} : wVar 20 (z0 :: z1 :: z2 :: z3 :: z4 :: z5 :: z6 :: z7 :: z8 :: z9 :: z10 :: z11 :: z12 :: z13 :: z14 :: z15 :: z16 :: z17 :: z18 :: z19 :: some x :: env) L R = R x L := propext Iff.rfl
theorem e_v21 {z0 : Option PV} {z1 : Option PV} {z2 : Option PV} {z3 : Option PV} {z4 : Option PV} {z5 : Option PV} {z6 : Option PV} {z7 : Option PV} {z8 : Option PV} {z9 : Option PV} {z10 : Option PV} {z11 : Option PV} {z12 : Option PV} {z13 : Option PV} {z14 : Option PV} {z15 : Option PV} {z16 : Option PV} {z17 : Option PV} {z18 : Option PV} {z19 : Option PV} {z20 : Option PV} : wVar 21 (z0 :: z1 :: z2 :: z3 :: z4 :: z5 :: z6 :: z7 :: z8 :: z9 :: z10 :: z11 :: z12 :: z13 :: z14 :: z15 :: z16 :: z17 :: z18 :: z19 :: z20 :: some x :: env) L R = R x L := propext Iff.rfl
theorem e_v22 {z0 : Option PV} {z1 : Option PV} {z2 : Option PV} {z3 : Option PV} {z4 : Option PV} {z5 : Option PV} {z6 : Option PV} {z7 : Option PV} {z8 : Option PV} {z9 : Option PV} {z10 : Option PV} {z11 : Option PV} {z12 : Option PV} {z13 : Option PV} {z14 : Option PV} {z15 : Option PV} {z16 : Option PV} {z17 : Option PV} {z18 : Option PV} {z19 : Option PV} {z20 : Option PV} {z21 : Option PV} : wVar 22 (z0 :: z1 :: z2 :: z3 :: z4 :: z5 :: z6 :: z7 :: z8 :: z9 :: z10 :: z11 :: z12 :: z13 :: z14 :: z15 :: z16 :: z17 :: z18 :: z19 :: z20 :: z21 :: some x :: env) L R = R x L := propext Iff.rfl
theorem e_v23 {z0 : Option PV} {z1 : Option PV} {z2 : Option PV} {z3 : Option PV} {z4 : Option PV} {z5 : Option PV} {z6 : Option PV} {z7 : Option PV} {z8 : Option PV} {z9 : Option PV} {z10 : Option PV} {z11 : Option PV} {z12 : Option PV} {z13 : Option PV} {z14 : Option PV} {z15 : Option PV} {z16 : Option PV} {z17 : Option PV} {z18 : Option PV} {z19 : Option PV} {z20 : Option PV} {z21 : Option PV} {z22 : Option PV} : wVar 23 (z0 :: z1 :: z2 :: z3 :: z4 :: z5 :: z6 :: z7 :: z8 :: z9 :: z10 :: z11 :: z12 :: z13 :: z14 :: z15 :: z16 :: z17 :: z18 :: z19 :: z20 :: z21 :: z22 :: some x :: env) L R = R x L := propext Iff.rfl
theorem e_v24 {z0 : Option PV} {z1 : Option PV} {z2 : Option PV} {z3 : Option PV} {z4 : Option PV} {z5 : Option PV} {z6 : Option PV} {z7 : Option PV} {z8 : Option PV} {z9 : Option PV} {z10 : Option PV} {z11 : Option PV} {z12 : Option PV} {z13 : Option PV} {z14 : Option PV} {z15 : Option PV} {z16 : Option PV} {z17 : Option PV} {z18 : Option PV} {z19 : Option PV} {z20 : Option PV} {z21 : Option PV} {z22 : Option PV} {z23 : Option PV} : wVar 24 (z0 :: z1 :: z2 :: z3 :: z4 :: z5 :: z6 :: z7 :: z8 :: z9 :: z10 :: z11 :: z12 :: z13 :: z14 :: z15 :: z16 :: z17 :: z18 :: z19 :: z20 :: z21 :: z22 :: z23 :: some x :: env) L R = R x L := propext Iff.rfl
theorem e_v25 {z0 : Option PV} {z1 : Option PV} {z2 : Option PV} {z3 : Option PV} {z4 : Option PV} {z5 : Option PV} {z6 : Option PV} {z7 : Option PV} {z8 : Option PV} {z9 : Option PV} {z10 : Option PV} {z11 : Option PV} {z12 : Option PV} {z13 : Option PV} {z14 : Option PV} {z15 : Option PV} {z16 : Option PV} {z17 : Option PV} {z18 : Option PV} {z19 : Option PV} {z20 : Option PV} {z21 : Option PV} {z22 : Option PV} {z23 : Option PV} {z24 : Option PV} : wVar 25 (z0 :: z1 :: z2 :: z3 :: z4 :: z5 :: z6 :: z7 :: z8 :: z9 :: z10 :: z11 :: z12 :: z13 :: z14 :: z15 :: z16 :: z17 :: z18 :: z19 :: z20 :: z21 :: z22 :: z23 :: z24 :: some x :: env) L R = R x L := propext Iff.rfl
theorem e_v26 {z0 : Option PV} {z1 : Option PV} {z2 : Option PV} {z3 : Option PV} {z4 : Option PV} {z5 : Option PV} {z6 : Option PV} {z7 : Option PV} {z8 : Option PV} {z9 : Option PV} {z10 : Option PV} {z11 : Option PV} {z12 : Option PV} {z13 : Option PV} {z14 : Option PV} {z15 : Option PV} {z16 : Option PV} {z17 : Option PV} {z18 : Option PV} {z19 : Option PV} {z20 : Option PV} {z21 : Option PV} {z22 : Option PV} {z23 : Option PV} {z24 : Option PV} {z25 : Option PV} : wVar 26 (z0 :: z1 :: z2 :: z3 :: z4 :: z5 :: z6 :: z7 :: z8 :: z9 :: z10 :: z11 :: z12 :: z13 :: z14 :: z15 :: z16 :: z17 :: z18 :: z19 :: z20 :: z21 :: z22 :: z23 :: z24 :: z25 :: some x :: env) L R = R x L := propext Iff.rfl
theorem e_v27 {z0 : Option PV} {z1 : Option PV} {z2 : Option PV} {z3 : Option PV} {z4 : Option PV} {z5 : Option PV} {z6 : Option PV} {z7 : Option PV} {z8 : Option PV} {z9 : Option PV} {z10 : Option PV} {z11 : Option PV} {z12 : Option PV} {z13 : Option PV} {z14 : Option PV} {z15 : Option PV} {z16 : Option PV} {z17 : Option PV} {z18 : Option PV} {z19 : Option PV} {z20 : Option PV} {z21 : Option PV} {z22 : Option PV} {z23 : Option PV} {z24 : Option PV} {z25 : Option PV} {z26 : Option PV} : wVar 27 (z0 :: z1 :: z2 :: z3 :: z4 :: z5 :: z6 :: z7 :: z8 :: z9 :: z10 :: z11 :: z12 :: z13 :: z14 :: z15 :: z16 :: z17 :: z18 :: z19 :: z20 :: z21 :: z22 :: z23 :: z24 :: z25 :: z26 :: some x :: env) L R = R x L := propext Iff.rfl
theorem e_v28 {z0 : Option PV} {z1 : Option PV} {z2 : Option PV} {z3 : Option PV} {z4 : Option PV} {z5 : Option PV} {z6 : Option PV} {z7 : Option PV} {z8 : Option PV} {z9 : Option PV} {z10 : Option PV} {z11 : Option PV} {z12 : Option PV} {z13 : Option PV} {z14 : Option PV} {z15 : Option PV} {z16 : Option PV} {z17 : Option PV} {z18 : Option PV} {z19 : Option PV} {z20 : Option PV} {z21 : Option PV} {z22 : Option PV} {z23 : Option PV} {z24 : Option PV} {z25 : Option PV} {z26 : Option PV} {z27 : Option PV} : wVar 28 (z0 :: z1 :: z2 :: z3 :: z4 :: z5 :: z6 :: z7 :: z8 :: z9 :: z10 :: z11 :: z12 :: z13 :: z14 :: z15 :: z16 :: z17 :: z18 :: z19 :: z20 :: z21 :: z22 :: z23 :: z24 :: z25 :: z26 :: z27 :: some x :: env) L R = R x L := propext Iff.rfl
theorem e_v29 {z0 : Option PV} {z1 : Option PV} {z2 : Option PV} {z3 : Option PV} {z4 : Option PV} {z5 : Option PV} {z6 : Option PV} {z7 : Option PV} {z8 : Option PV} {z9 : Option PV} {z10 : Option PV} {z11 : Option PV} {z12 : Option PV} {z13 : Option PV} {z14 : Option PV} {z15 : Option PV} {z16 : Option PV} {z17 : Option PV} {z18 : Option PV} {z19 : Option PV} {z20 : Option PV} {z21 : Option PV} {z22 : Option PV} {z23 : Option PV} {z24 : Option PV} {z25 : Option PV} {z26 : Option PV} {z27 : Option PV} {z28 : Option PV} : wVar 29 (z0 :: z1 :: z2 :: z3 :: z4 :: z5 :: z6 :: z7 :: z8 :: z9 :: z10 :: z11 :: z12 :: z13 :: z14 :: z15 :: z16 :: z17 :: z18 :: z19 :: z20 :: z21 :: z22 :: z23 :: z24 :: z25 :: z26 :: z27 :: z28 :: some x :: env) L R = R x L := propext Iff.rfl
theorem e_v30 {z0 : Option PV} {z1 : Option PV} {z2 : Option PV} {z3 : Option PV} {z4 : Option PV} {z5 : Option PV} {z6 : Option PV} {z7 : Option PV} {z8 : Option PV} {z9 : Option PV} {z10 : Option PV} {z11 : Option PV} {z12 : Option PV} {z13 : Option PV} {z14 : Option PV} {z15 : Option PV} {z16 : Option PV} {z17 : Option PV} {z18 : Option PV} {z19 : Option PV} {z20 : Option PV} {z21 : Option PV} {z22 : Option PV} {z23 : Option PV} {z24 : Option PV} {z25 : Option PV} {z26 : Option PV} {z27 : Option PV} {z28 : Option PV} {z29 : Option PV} : wVar 30 (z0 :: z1 :: z2 :: z3 :: z4 :: z5 :: z6 :: z7 :: z8 :: z9 :: z10 :: z11 :: z12 :: z13 :: z14 :: z15 :: z16 :: z17 :: z18 :: z19 :: z20 :: z21 :: z22 :: z23 :: z24 :: z25 :: z26 :: z27 :: z28 :: z29 :: some x :: env) L R = R x L := propext Iff.rfl
theorem e_v31 {z0 : Option PV} {z1 : Option PV} {z2 : Option PV} {z3 : Option PV} {z4 : Option PV} {z5 : Option PV} {z6 : Option PV} {z7 : Option PV} {z8 : Option PV} {z9 : Option PV} {z10 : Option PV} {z11 : Option PV} {z12 : Option PV} {z13 : Option PV} {z14 : Option PV} {z15 : Option PV} {z16 : Option PV} {z17 : Option PV} {z18 : Option PV} {z19 : Option PV} {z20 : Option PV} {z21 : Option PV} {z22 : Option PV} {z23 : Option PV} {z24 : Option PV} {z25 : Option PV} {z26 : Option PV} {z27 : Option PV} {z28 : Option PV} {z29 : Option PV} {z30 : Option PV} : wVar 31 (z0 :: z1 :: z2 :: z3 :: z4 :: z5 :: z6 :: z7 :: z8 :: z9 :: z10 :: z11 :: z12 :: z13 :: z14 :: z15 :: z16 :: z17 :: z18 :: z19 :: z20 :: z21 :: z22 :: z23 :: z24 :: z25 :: z26 :: z27 :: z28 :: z29 :: z30 :: some x :: env) L R = R x L := propext Iff.rfl
theorem e_v32 {z0 : Option PV} {z1 : Option PV} {z2 : Option PV} {z3 : Option PV} {z4 : Option PV} {z5 : Option PV} {z6 : Option PV} {z7 : Option PV} {z8 : Option PV} {z9 : Option PV} {z10 : Option PV} {z11 : Option PV} {z12 : Option PV} {z13 : Option PV} {z14 : Option PV} {z15 : Option PV} {z16 : Option PV} {z17 : Option PV} {z18 : Option PV} {z19 : Option PV} {z20 : Option PV} {z21 : Option PV} {z22 : Option PV} {z23 : Option PV} {z24 : Option PV} {z25 : Option PV} {z26 : Option PV} {z27 : Option PV} {z28 : Option PV} {z29 : Option PV} {z30 : Option PV} {z31 : Option PV} : wVar 32 (z0 :: z1 :: z2 :: z3 :: z4 :: z5 :: z6 :: z7 :: z8 :: z9 :: z10 :: z11 :: z12 :: z13 :: z14 :: z15 :: z16 :: z17 :: z18 :: z19 :: z20 :: z21 :: z22 :: z23 :: z24 :: z25 :: z26 :: z27 :: z28 :: z29 :: z30 :: z31 :: some x :: env) L R = R x L := propext Iff.rfl
theorem e_v33 {z0 : Option PV} {z1 : Option PV} {z2 : Option PV} {z3 : Option PV} {z4 : Option PV} {z5 : Option PV} {z6 : Option PV} {z7 : Option PV} {z8 : Option PV} {z9 : Option PV} {z10 : Option PV} {z11 : Option PV} {z12 : Option PV} {z13 : Option PV} {z14 : Option PV} {z15 : Option PV} {z16 : Option PV} {z17 : Option PV} {z18 : Option PV} {z19 : Option PV} {z20 : Option PV} {z21 : Option PV} {z22 : Option PV} {z23 : Option PV} {z24 : Option PV} {z25 : Option PV} {z26 : Option PV} {z27 : Option PV} {z28 : Option PV} {z29 : Option PV} {z30 : Option PV} {z31 : Option PV} {z32 : Option PV} : wVar 33 (z0 :: z1 :: z2 :: z3 :: z4 :: z5 :: z6 :: z7 :: z8 :: z9 :: z10 :: z11 :: z12 :: z13 :: z14 :: z15 :: z16 :: z17 :: z18 :: z19 :: z20 :: z21 :: z22 :: z23 :: z24 :: z25 :: z26 :: z27 :: z28 :: z29 :: z30 :: z31 :: z32 :: some x :: env) L R = R x L := propext Iff.rfl
theorem e_v34 {z0 : Option PV} {z1 : Option PV} {z2 : Option PV} {z3 : Option PV} {z4 : Option PV} {z5 : Option PV} {z6 : Option PV} {z7 : Option PV} {z8 : Option PV} {z9 : Option PV} {z10 : Option PV} {z11 : Option PV} {z12 : Option PV} {z13 : Option PV} {z14 : Option PV} {z15 : Option PV} {z16 : Option PV} {z17 : Option PV} {z18 : Option PV} {z19 : Option PV} {z20 : Option PV} {z21 : Option PV} {z22 : Option PV} {z23 : Option PV} {z24 : Option PV} {z25 : Option PV} {z26 : Option PV} {z27 : Option PV} {z28 : Option PV} {z29 : Option PV} {z30 : Option PV} {z31 : Option PV} {z32 : Option PV} {z33 : Option PV} : wVar 34 (z0 :: z1 :: z2 :: z3 :: z4 :: z5 :: z6 :: z7 :: z8 :: z9 :: z10 :: z11 :: z12 :: z13 :: z14 :: z15 :: z16 :: z17 :: z18 :: z19 :: z20 :: z21 :: z22 :: z23 :: z24 :: z25 :: z26 :: z27 :: z28 :: z29 :: z30 :: z31 :: z32 :: z33 :: some x :: env) L R = R x L := propext Iff.rfl
theorem e_v35 {z0 : Option PV} {z1 : Option PV} {z2 : Option PV} {z3 : Option PV} {z4 : Option PV} {z5 : Option PV} {z6 : Option PV} {z7 : Option PV} {z8 : Option PV} {z9 : Option PV} {z10 : Option PV} {z11 : Option PV} {z12 : Option PV} {z13 : Option PV} {z14 : Option PV} {z15 : Option PV} {z16 : Option PV} {z17 : Option PV} {z18 : Option PV} {z19 : Option PV} {z20 : Option PV} {z21 : Option PV} {z22 : Option PV} {z23 : Option PV} {z24 : Option PV} {z25 : Option PV} {z26 : Option PV} {z27 : Option PV} {z28 : Option PV} {z29 : Option PV} {z30 : Option PV} {z31 : Option PV} {z32 : Option PV} {z33 : Option PV} {z34 : Option PV} : wVar 35 (z0 :: z1 :: z2 :: z3 :: z4 :: z5 :: z6 :: z7 :: z8 :: z9 :: z10 :: z11 :: z12 :: z13 :: z14 :: z15 :: z16 :: z17 :: z18 :: z19 :: z20 :: z21 :: z22 :: z23 :: z24 :: z25 :: z26 :: z27 :: z28 :: z29 :: z30 :: z31 :: z32 :: z33 :: z34 :: some x :: env) L R = R x L := propext Iff.rfl
theorem e_v36 {z0 : Option PV} {z1 : Option PV} {z2 : Option PV} {z3 : Option PV} {z4 : Option PV} {z5 : Option PV} {z6 : Option PV} {z7 : Option PV} {z8 : Option PV} {z9 : Option PV} {z10 : Option PV} {z11 : Option PV} {z12 : Option PV} {z13 : Option PV} {z14 : Option PV} {z15 : Option PV} {z16 : Option PV} {z17 : Option PV} {z18 : Option PV} {z19 : Option PV} {z20 : Option PV} {z21 : Option PV} {z22 : Option PV} {z23 : Option PV} {z24 : Option PV} {z25 : Option PV} {z26 : Option PV} {z27 : Option PV} {z28 : Option PV} {z29 : Option PV} {z30 : Option PV} {z31 : Option PV} {z32 : Option PV} {z33 : Option PV} {z34 : Option PV} {z35 : Option PV} : wVar 36 (z0 :: z1 :: z2 :: z3 :: z4 :: z5 :: z6 :: z7 :: z8 :: z9 :: z10 :: z11 :: z12 :: z13 :: z14 :: z15 :: z16 :: z17 :: z18 :: z19 :: z20 :: z21 :: z22 :: z23 :: z24 :: z25 :: z26 :: z27 :: z28 :: z29 :: z30 :: z31 :: z32 :: z33 :: z34 :: z35 :: some x :: env) L R = R x L := propext Iff.rfl
theorem e_v37 {z0 : Option PV} {z1 : Option PV} {z2 : Option PV} {z3 : Option PV} {z4 : Option PV} {z5 : Option PV} {z6 : Option PV} {z7 : Option PV} {z8 : Option PV} {z9 : Option PV} {z10 : Option PV} {z11 : Option PV} {z12 : Option PV} {z13 : Option PV} {z14 : Option PV} {z15 : Option PV} {z16 : Option PV} {z17 : Option PV} {z18 : Option PV} {z19 : Option PV} {z20 : Option PV} {z21 : Option PV} {z22 : Option PV} {z23 : Option PV} {z24 : Option PV} {z25 : Option PV} {z26 : Option PV} {z27 : Option PV} {z28 : Option PV} {z29 : Option PV} {z30 : Option PV} {z31 : Option PV} {z32 : Option PV} {z33 : Option PV} {z34 : Option PV} {z35 : Option PV} {z36 : Option PV} : wVar 37 (z0 :: z1 :: z2 :: z3 :: z4 :: z5 :: z6 :: z7 :: z8 :: z9 :: z10 :: z11 :: z12 :: z13 :: z14 :: z15 :: z16 :: z17 :: z18 :: z19 :: z20 :: z21 :: z22 :: z23 :: z24 :: z25 :: z26 :: z27 :: z28 :: z29 :: z30 :: z31 :: z32 :: z33 :: z34 :: z35 :: z36 :: some x :: env) L R = R x L := propext Iff.rfl
theorem e_v38 {z0 : Option PV} {z1 : Option PV} {z2 : Option PV} {z3 : Option PV} {z4 : Option PV} {z5 : Option PV} {z6 : Option PV} {z7 : Option PV} {z8 : Option PV} {z9 : Option PV} {z10 : Option PV} {z11 : Option PV} {z12 : Option PV} {z13 : Option PV} {z14 : Option PV} {z15 : Option PV} {z16 : Option PV} {z17 : Option PV} {z18 : Option PV} {z19 : Option PV} {z20 : Option PV} {z21 : Option PV} {z22 : Option PV} {z23 : Option PV} {z24 : Option PV} {z25 : Option PV} {z26 : Option PV} {z27 : Option PV} {z28 : Option PV} {z29 : Option PV} {z30 : Option PV} {z31 : Option PV} {z32 : Option PV} {z33 : Option PV} {z34 : Option PV} {z35 : Option PV} {z36 : Option PV} {z37 : Option PV} : wVar 38 (z0 :: z1 :: z2 :: z3 :: z4 :: z5 :: z6 :: z7 :: z8 :: z9 :: z10 :: z11 :: z12 :: z13 :: z14 :: z15 :: z16 :: z17 :: z18 :: z19 :: z20 :: z21 :: z22 :: z23 :: z24 :: z25 :: z26 :: z27 :: z28 :: z29 :: z30 :: z31 :: z32 :: z33 :: z34 :: z35 :: z36 :: z37 :: some x :: env) L R = R x L := propext Iff.rfl
theorem e_v39 {z0 : Option PV} {z1 : Option PV} {z2 : Option PV} {z3 : Option PV} {z4 : Option PV} {z5 : Option PV} {z6 : Option PV} {z7 : Option PV} {z8 : Option PV} {z9 : Option PV} {z10 : Option PV} {z11 : Option PV} {z12 : Option PV} {z13 : Option PV} {z14 : Option PV} {z15 : Option PV} {z16 : Option PV} {z17 : Option PV} {z18 : Option PV} {z19 : Option PV} {z20 : Option PV} {z21 : Option PV} {z22 : Option PV} {z23 : Option PV} {z24 : Option PV} {z25 : Option PV} {z26 : Option PV} {z27 : Option PV} {z28 : Option PV} {z29 : Option PV} {z30 : Option PV} {z31 : Option PV} {z32 : Option PV} {z33 : Option PV} {z34 : Option PV} {z35 : Option PV} {z36 : Option PV} {z37 : Option PV} {z38 : Option PV} : wVar 39 (z0 :: z1 :: z2 :: z3 :: z4 :: z5 :: z6 :: z7 :: z8 :: z9 :: z10 :: z11 :: z12 :: z13 :: z14 :: z15 :: z16 :: z17 :: z18 :: z19 :: z20 :: z21 :: z22 :: z23 :: z24 :: z25 :: z26 :: z27 :: z28 :: z29 :: z30 :: z31 :: z32 :: z33 :: z34 :: z35 :: z36 :: z37 :: z38 :: some x :: env) L R = R x L := propext Iff.rfl
theorem e_ar0 {R : List PV → Sto → Prop} : wAr [] env L R = R [] L := propext Iff.rfl
theorem e_ar1 {w : WE} {ws : List WE} {R : List PV → Sto → Prop} : wAr (w :: ws) env L R = w env L fun x La => wAr ws env La fun xs Lb => R (x :: xs) Lb := propext Iff.rfl
theorem e_gN {n : Nat} {R : Env → Sto → Prop} : gN n x env L R = R (env.set n (some x)) L := propext Iff.rfl
theorem e_par {is : List Nat} {ws : List WE} : sPar is ws env L N = wAr ws env L fun xs La => N.nx ((is.zip xs).foldl (fun e p => e.set p.1 (some p.2)) env) La := propext Iff.rfl
theorem e_c : (wC x env L R) = (R x L) := propext Iff.rfl
theorem e_bin {f : Op2} {p q : WE} : (wBin f p q env L R) = (p env L fun x La => q env La fun y Lb => f x y Lb R) := propext Iff.rfl
theorem e_un {p : WE} {h : PV → Sto → PK → Prop} : (wUn h p env L R) = (p env L fun x La => h x La R) := propext Iff.rfl
theorem e_and {p q : WE} : (wAnd p q env L R) = (p env L fun x La => bIf x (q env La R) (R (.bl false) La)) := propext Iff.rfl
theorem e_or {p q : WE} : (wOr p q env L R) = (p env L fun x La => bIf x (R (.bl true) La) (q env La R)) := propext Iff.rfl
theorem e_ife {p q s : WE} : (wIfE p q s env L R) = (p env L fun x La => bIf x (q env La R) (s env La R)) := propext Iff.rfl
theorem e_chain {f : Op2} {p q s : WE} {f2 : Op2} : (wChain f f2 p q s env L R) = (p env L fun x La => q env La fun y Lb => f x y Lb fun z Lc => bIf z (s env Lc fun w Ld => f2 y w Ld R) (R (.bl false) Lc)) := propext Iff.rfl
theorem e_tup {ws : List WE} : (wTup ws env L R) = (wAr ws env L fun xs La => xs.length ≤ sizeLine ∧ R (.tup xs) La) := propext Iff.rfl
theorem e_lst {ws : List WE} : (wLst ws env L R) = (wAr ws env L fun xs La => xs.length ≤ sizeLine ∧ newL La xs R) := propext Iff.rfl
theorem e_bi {ws : List WE} {gf : BiF} : (wBi gf ws env L R) = (wAr ws env L fun xs La => gf xs La R) := propext Iff.rfl
theorem e_call {ws : List WE} {S : Spec} : (wCall S ws env L R) = (wAr ws env L fun xs La => S xs La R) := propext Iff.rfl
theorem e_sl {p : WE} {lo hi : WO} : (wSl p lo hi env L R) = (p env L fun x La => lo env La fun l Lb => hi env Lb fun u Lc => oSl x l u Lc R) := propext Iff.rfl
theorem e_no {R : Option Int → Sto → Prop} : wNo env L R = R none L := propext Iff.rfl
theorem e_so {p : WE} {R : Option Int → Sto → Prop} : wSo p env L R = p env L fun x La => match x with | .int i => R (some i) La | _ => False := propext Iff.rfl
theorem e_nil : (sNil env L N) = (N.nx env L) := propext Iff.rfl
theorem e_seq {s s2 : WS} : (sSeq s s2 env L N) = (s env L { N with nx := fun e l => s2 e l N }) := propext Iff.rfl
theorem e_expr {p : WE} : (sExpr p env L N) = (p env L fun _ La => N.nx env La) := propext Iff.rfl
theorem e_ret {p : WE} : (sRet p env L N) = (p env L N.rt) := propext Iff.rfl
theorem e_retn : (sRetN env L N) = (N.rt .non L) := propext Iff.rfl
theorem e_asg {p : WE} {g : WG} : (sAsg g p env L N) = (p env L fun x La => g x env La N.nx) := propext Iff.rfl
theorem e_if {s s2 : WS} {p : WE} : (sIf p s s2 env L N) = (p env L fun x La => bIf x (s env La N) (s2 env La N)) := propext Iff.rfl
theorem e_brk : (sBrk env L N) = (N.bk env L) := propext Iff.rfl
theorem e_cnt : (sCnt env L N) = (N.ct env L) := propext Iff.rfl
theorem sz_0 : (([] : List PV).length ≤ sizeLine) = True := eq_true (by show 0 ≤ sizeLine; decide)
theorem sz_1 {z0 : PV} : (([z0] : List PV).length ≤ sizeLine) = True := eq_true (by show 1 ≤ sizeLine; decide)
theorem sz_2 {z0 z1 : PV} : (([z0, z1] : List PV).length ≤ sizeLine) = True := eq_true (by show 2 ≤ sizeLine; decide)
theorem sz_3 {z0 z1 z2 : PV} : (([z0, z1, z2] : List PV).length ≤ sizeLine) = True := eq_true (by show 3 ≤ sizeLine; decide)
theorem sz_4 {z0 z1 z2 z3 : PV} : (([z0, z1, z2, z3] : List PV).length ≤ sizeLine) = True := eq_true (by show 4 ≤ sizeLine; decide)
theorem sz_5 {z0 z1 z2 z3 z4 : PV} : (([z0, z1, z2, z3, z4] : List PV).length ≤ sizeLine) = True := eq_true (by show 5 ≤ sizeLine; decide)
theorem sz_6 {z0 z1 z2 z3 z4 z5 : PV} : (([z0, z1, z2, z3, z4, z5] : List PV).length ≤ sizeLine) = True := eq_true (by show 6 ≤ sizeLine; decide)
theorem sz_7 {z0 z1 z2 z3 z4 z5 z6 : PV} : (([z0, z1, z2, z3, z4, z5, z6] : List PV).length ≤ sizeLine) = True := eq_true (by show 7 ≤ sizeLine; decide)
theorem sz_8 {z0 z1 z2 z3 z4 z5 z6 z7 : PV} : (([z0, z1, z2, z3, z4, z5, z6, z7] : List PV).length ≤ sizeLine) = True := eq_true (by show 8 ≤ sizeLine; decide)
theorem sz_9 {z0 z1 z2 z3 z4 z5 z6 z7 z8 : PV} : (([z0, z1, z2, z3, z4, z5, z6, z7, z8] : List PV).length ≤ sizeLine) = True := eq_true (by show 9 ≤ sizeLine; decide)
theorem sz_10 {z0 z1 z2 z3 z4 z5 z6 z7 z8 z9 : PV} : (([z0, z1, z2, z3, z4, z5, z6, z7, z8, z9] : List PV).length ≤ sizeLine) = True := eq_true (by show 10 ≤ sizeLine; decide)
theorem sz_11 {z0 z1 z2 z3 z4 z5 z6 z7 z8 z9 z10 : PV} : (([z0, z1, z2, z3, z4, z5, z6, z7, z8, z9, z10] : List PV).length ≤ sizeLine) = True := eq_true (by show 11 ≤ sizeLine; decide)
theorem sz_12 {z0 z1 z2 z3 z4 z5 z6 z7 z8 z9 z10 z11 : PV} : (([z0, z1, z2, z3, z4, z5, z6, z7, z8, z9, z10, z11] : List PV).length ≤ sizeLine) = True := eq_true (by show 12 ≤ sizeLine; decide)
theorem sz_13 {z0 z1 z2 z3 z4 z5 z6 z7 z8 z9 z10 z11 z12 : PV} : (([z0, z1, z2, z3, z4, z5, z6, z7, z8, z9, z10, z11, z12] : List PV).length ≤ sizeLine) = True := eq_true (by show 13 ≤ sizeLine; decide)
theorem sz_14 {z0 z1 z2 z3 z4 z5 z6 z7 z8 z9 z10 z11 z12 z13 : PV} : (([z0, z1, z2, z3, z4, z5, z6, z7, z8, z9, z10, z11, z12, z13] : List PV).length ≤ sizeLine) = True := eq_true (by show 14 ≤ sizeLine; decide)
theorem sz_15 {z0 z1 z2 z3 z4 z5 z6 z7 z8 z9 z10 z11 z12 z13 z14 : PV} : (([z0, z1, z2, z3, z4, z5, z6, z7, z8, z9, z10, z11, z12, z13, z14] : List PV).length ≤ sizeLine) = True := eq_true (by show 15 ≤ sizeLine; decide)
theorem sz_16 {z0 z1 z2 z3 z4 z5 z6 z7 z8 z9 z10 z11 z12 z13 z14 z15 : PV} : (([z0, z1, z2, z3, z4, z5, z6, z7, z8, z9, z10, z11, z12, z13, z14, z15] : List PV).length ≤ sizeLine) = True := eq_true (by show 16 ≤ sizeLine; decide)
theorem sz_17 {z0 z1 z2 z3 z4 z5 z6 z7 z8 z9 z10 z11 z12 z13 z14 z15 z16 : PV} : (([z0, z1, z2, z3, z4, z5, z6, z7, z8, z9, z10, z11, z12, z13, z14, z15, z16] : List PV).length ≤ sizeLine) = True := eq_true (by show 17 ≤ sizeLine; decide)
theorem sz_18 {z0 z1 z2 z3 z4 z5 z6 z7 z8 z9 z10 z11 z12 z13 z14 z15 z16 z17 : PV} : (([z0, z1, z2, z3, z4, z5, z6, z7, z8, z9, z10, z11, z12, z13, z14, z15, z16, z17] : List PV).length ≤ sizeLine) = True := eq_true (by show 18 ≤ sizeLine; decide)
theorem sz_19 {z0 z1 z2 z3 z4 z5 z6 z7 z8 z9 z10 z11 z12 z13 z14 z15 z16 z17 z18 : PV} : (([z0, z1, z2, z3, z4, z5, z6, z7, z8, z9, z10, z11, z12, z13, z14, z15, z16, z17, z18] : List PV).length ≤ sizeLine) = True := eq_true (by show 19 ≤ sizeLine; decide)
end
end
section
open PySem PySem.Spec PyProof.Rows L2
local macro_rules | `(tactic| walk_at "ev") => `(tactic| try simp only [fr0, fr1, ix0, ix1, ix2, ix3, bIf_t, bIf_f, bIf_d, bIf_n, oEq_ii, oNe_ii, oEq_bb, oNe_bb, List.set_cons_zero, List.set_cons_succ, List.zip_cons_cons, List.zip_nil_right, List.foldl_cons, List.foldl_nil, e_add, e_addI, e_addt, e_addl, e_sub, e_mul, e_div, e_mod, e_pow, e_oI, e_neg, e_not, e_isn, e_isnn, e_isb, e_isnb, e_isN_non, e_isN_bl, e_isN_int, e_isN_tup, e_isN_ref, e_isN_fz, e_isN_fr, e_isN_str, e_lent, e_lenz, e_abs, e_int, e_intb, e_dvm, e_min, e_max, e_listt, e_listz, e_tupt, e_str, gv_0, gv_s, e_slt, e_slz, e_v0, e_v1, e_v2, e_v3, e_v4, e_v5, e_v6, e_v7, e_v8, e_v9, e_v10, e_v11, e_v12, e_v13, e_v14, e_v15, e_v16, e_v17, e_v18, e_v19, e_v20, e_v21, e_v22, e_v23, e_v24, e_v25, e_v26, e_v27, e_v28, e_v29, e_v30, e_v31, e_v32, e_v33, e_v34, e_v35, e_v36, e_v37, e_v38, e_v39, e_ar0, e_ar1, e_gN, e_par, e_c, e_bin, e_un, e_and, e_or, e_ife, e_chain, e_tup, e_lst, e_bi, e_call, e_sl, e_no, e_so, e_nil, e_seq, e_expr, e_ret, e_retn, e_asg, e_if, e_brk, e_cnt, sz_0, sz_1, sz_2, sz_3, sz_4, sz_5, sz_6, sz_7, sz_8, sz_9, sz_10, sz_11, sz_12, sz_13, sz_14, sz_15, sz_16, sz_17, sz_18, sz_19, true_and, isi_non_int, isi_non_bool, isi_non_str, isi_non_tuple, isi_non_list, isi_non_dict, isi_bl_int, isi_bl_bool, isi_bl_str, isi_bl_tuple, isi_bl_list, isi_bl_dict, isi_int_int, isi_int_bool, isi_int_str, isi_int_tuple, isi_int_list, isi_int_dict, isi_str_int, isi_str_bool, isi_str_str, isi_str_tuple, isi_str_list, isi_str_dict, isi_tup_int, isi_tup_bool, isi_tup_str, isi_tup_tuple, isi_tup_list, isi_tup_dict, isi_fz_int, isi_fz_bool, isi_fz_str, isi_fz_tuple, isi_fz_list, isi_fz_dict])
def s_divisor_of : Spec := fun args L R => ∃ a b : Nat, args = [.int a, .int b] ∧ R (.int (Nat.gcd a b)) L
def d_divisor_of_1 : WS := sRet (wVar 0)
def d_divisor_of_0w_0 : WS := sPar [0, 1] [wVar 1, wBin oMod (wVar 0) (wVar 1)]
def d_divisor_of_0 : WS := sSeq (sWhile (wBin oGt (wVar 1) (wC (.int 0))) d_divisor_of_0w_0) d_divisor_of_1
theorem ok_divisor_of : ∀ args L R, args.length = 2 → s_divisor_of args L R → d_divisor_of_0 (initE 2 args) L { nx := fun _ L' => R .non L', rt := R } := by
  rintro _ L R _ ⟨a, b, rfl, h⟩
  unfold d_divisor_of_0
  show sWhile _ _ [some (.int a), some (.int b)] L _
  refine ⟨fun m env L' => L' = L ∧ ∃ x y : Nat, env = [some (.int x), some (.int y)] ∧ Nat.gcd x y = Nat.gcd a b ∧ m = y, ⟨b, rfl, a, b, rfl, rfl, rfl⟩, ?_⟩
  rintro m env _ ⟨rfl, x, y, rfl, hg, rfl⟩
  walk_at "ev"
  split
  · rename_i hy
    unfold d_divisor_of_0w_0
    walk_at "ev"
    have hy' : 0 < m := by omega
    refine ⟨by omega, x % m, Nat.mod_lt _ hy', m, x % m, ?_, ?_, rfl⟩
    · rw [Int.fmod_eq_emod_of_nonneg _ (by omega)]; rfl
    · rw [← hg, Nat.gcd_comm m, ← Nat.gcd_rec, Nat.gcd_comm]
  · rename_i hy
    have hm : m = 0 := by omega
    subst hm
    unfold d_divisor_of_1
    walk_at "ev"
    rw [Nat.gcd_zero_right] at hg
    rw [hg]
    exact h
theorem fdiv_num {n d : Int} (hd : d ≠ 0) : (.tup [.int (n.fdiv (if d < 0 then -((Nat.gcd n.natAbs d.natAbs : Nat) : Int) else ((Nat.gcd n.natAbs d.natAbs : Nat) : Int))), .int (d.fdiv (if d < 0 then -((Nat.gcd n.natAbs d.natAbs : Nat) : Int) else ((Nat.gcd n.natAbs d.natAbs : Nat) : Int)))] : PV) = fr ((n : Rat) / (d : Rat)) := by
  rw [← Rat.divInt_eq_div]
  unfold fr
  rw [Rat.num_divInt, Rat.den_divInt, if_neg hd]
  have hg : (Int.gcd d n) = Nat.gcd n.natAbs d.natAbs := by rw [Int.gcd, Nat.gcd_comm]
  rw [hg]
  generalize hgg : Nat.gcd n.natAbs d.natAbs = g
  have g0 : 0 < g := by
    rw [← hgg]
    exact Nat.gcd_pos_of_pos_right _ (by omega)
  have dg : g ∣ d.natAbs := by rw [← hgg]; exact Nat.gcd_dvd_right _ _
  by_cases h : d < 0
  · rw [if_pos h, Int.sign_eq_neg_one_of_neg h]
    have e1 : n.fdiv (-(g : Int)) = -1 * n / (g : Int) := by
      have : n.fdiv (-(g : Int)) = (-n).fdiv (g : Int) := by
        have := Int.neg_fdiv_neg (-n) (g : Int)
        rw [Int.neg_neg] at this
        exact this
      rw [this, Int.fdiv_eq_ediv_of_nonneg _ (by omega), Int.neg_one_mul]
    have e2 : d.fdiv (-(g : Int)) = ((d.natAbs / g : Nat) : Int) := by
      have : d.fdiv (-(g : Int)) = (-d).fdiv (g : Int) := by
        have := Int.neg_fdiv_neg (-d) (g : Int)
        rw [Int.neg_neg] at this
        exact this
      rw [this, Int.fdiv_eq_ediv_of_nonneg _ (by omega), Int.natCast_ediv]
      congr 1
      omega
    rw [e1, e2]
  · rw [if_neg h, Int.sign_eq_one_of_pos (by omega), Int.one_mul, Int.fdiv_eq_ediv_of_nonneg _ (by omega), Int.fdiv_eq_ediv_of_nonneg _ (by omega), Int.natCast_ediv]
    congr 3
    congr 2
    omega
def DenOk (d : Int) : Prop := d.natAbs < 2 ^ 9000
theorem DenOk.of {d : Int} {a : Nat} (h : d.natAbs < 2 ^ a) (ha : a ≤ 9000) : DenOk d := Nat.lt_of_lt_of_le h (Nat.pow_le_pow_right (by decide) ha)
theorem DenOk.gcd {n d : Int} (h : DenOk d) (hd : d ≠ 0) : ((Nat.gcd n.natAbs d.natAbs : Nat) : Int).natAbs < 2 ^ 9000 := by exact Nat.lt_of_le_of_lt (Nat.le_of_dvd (by omega) (Nat.gcd_dvd_right _ _)) h
theorem DenOk.gcdN {n d : Int} (h : DenOk d) (hd : d ≠ 0) : (-((Nat.gcd n.natAbs d.natAbs : Nat) : Int)).natAbs < 2 ^ 9000 := by rw [Int.natAbs_neg]; exact h.gcd hd
def s_fraction : Spec := fun args L R => ∃ n d : Int, args = [.int n, .int d] ∧ d ≠ 0 ∧ DenOk d ∧ R (fr ((n : Rat) / (d : Rat))) L
def d_fraction_2 : WS := sRet (wTup [wBin oDiv (wVar 0) (wVar 2), wBin oDiv (wVar 1) (wVar 2)])
def d_fraction_1a_0 : WS := sAsg (gN 2) (wUn oNeg (wVar 2))
def d_fraction_1 : WS := sSeq (sIf (wBin oLt (wVar 1) (wC (.int 0))) d_fraction_1a_0 sNil) d_fraction_2
def d_fraction_0 : WS := sSeq (sAsg (gN 2) (wCall s_divisor_of [wBi gAbs [wVar 0], wBi gAbs [wVar 1]])) d_fraction_1
theorem ok_fraction : ∀ args L R, args.length = 2 → s_fraction args L R → d_fraction_0 (initE 3 args) L { nx := fun _ L' => R .non L', rt := R } := by
  rintro _ L R _ ⟨n, d, rfl, hd, hz, h⟩
  unfold d_fraction_0
  show sSeq _ _ [some (.int n), some (.int d), none] L _
  walk_at "ev"
  refine ⟨_, _, rfl, ?_⟩
  rw [← fdiv_num hd] at h
  have g0 : 0 < Nat.gcd n.natAbs d.natAbs := Nat.gcd_pos_of_pos_right _ (by omega)
  unfold d_fraction_1 d_fraction_1a_0
  walk_at "ev"
  split
  · rename_i hn
    rw [if_pos hn] at h
    unfold d_fraction_2
    walk_at "ev"
    exact ⟨by omega, noPl (hz.gcdN hd), by omega, noPl (hz.gcdN hd), h⟩
  · rename_i hn
    rw [if_neg hn] at h
    unfold d_fraction_2
    walk_at "ev"
    exact ⟨by omega, noPl (hz.gcd hd), by omega, noPl (hz.gcd hd), h⟩
theorem den_pos (q : Rat) : (0 : Int) < q.den := by have := q.den_nz; omega
theorem den_ne (q : Rat) : ((q.den : Int) : Rat) ≠ 0 := by
  intro h
  have := Rat.intCast_inj.mp (show ((q.den : Int) : Rat) = ((0 : Int) : Rat) from h)
  have := q.den_nz
  omega
theorem num_den (q : Rat) : q = (q.num : Rat) / ((q.den : Int) : Rat) := by rw [← Rat.divInt_eq_div]; exact (Rat.num_divInt_den q).symm
theorem num_eq (q : Rat) : (q.num : Rat) = q * ((q.den : Int) : Rat) := by
  have h := num_den q
  have hd := den_ne q
  grind
theorem add_eq (p q : Rat) : ((p.num * q.den + q.num * p.den : Int) : Rat) / ((p.den * q.den : Int) : Rat) = p + q := by
  have h1 := num_eq p
  have h2 := num_eq q
  have d1 := den_ne p
  have d2 := den_ne q
  rw [Rat.intCast_add, Rat.intCast_mul, Rat.intCast_mul, Rat.intCast_mul, h1, h2]
  grind
theorem sub_eq (p q : Rat) : ((p.num * q.den - q.num * p.den : Int) : Rat) / ((p.den * q.den : Int) : Rat) = p - q := by
  have h1 := num_eq p
  have h2 := num_eq q
  have d1 := den_ne p
  have d2 := den_ne q
  rw [Rat.intCast_sub, Rat.intCast_mul, Rat.intCast_mul, Rat.intCast_mul, h1, h2]
  grind
theorem mul_eq (p q : Rat) : ((p.num * q.num : Int) : Rat) / ((p.den * q.den : Int) : Rat) = p * q := by
  have h1 := num_eq p
  have h2 := num_eq q
  have d1 := den_ne p
  have d2 := den_ne q
  rw [Rat.intCast_mul, Rat.intCast_mul, h1, h2]
  grind
theorem Sz.mono {a b : Nat} {q : Rat} (h : Sz a q) (hb : a ≤ b) : Sz b q := ⟨Nat.lt_of_lt_of_le h.1 (Nat.pow_le_pow_right (by decide) hb), Nat.lt_of_lt_of_le h.2 (Nat.pow_le_pow_right (by decide) hb)⟩
theorem Sz.of {n d : Int} {b : Nat} (hd : d ≠ 0) (h1 : n.natAbs < 2 ^ b) (h2 : d.natAbs < 2 ^ b) : Sz b ((n : Rat) / (d : Rat)) := by
  rw [← Rat.divInt_eq_div]
  unfold Sz
  rw [Rat.num_divInt, Rat.den_divInt, if_neg hd]
  refine ⟨Nat.lt_of_le_of_lt ?_ h1, Nat.lt_of_le_of_lt (Nat.div_le_self _ _) h2⟩
  have e : (d.sign * n / ((Int.gcd d n : Nat) : Int)).natAbs = (d.sign * n).natAbs / Int.gcd d n := by
    rw [Int.natAbs_ediv_of_dvd]
    · rfl
    · exact Int.dvd_trans (Int.gcd_dvd_right _ _) (Int.dvd_mul_left _ _)
  rw [e]
  refine Nat.le_trans (Nat.div_le_self _ _) ?_
  rw [Int.natAbs_mul, Int.natAbs_sign_of_ne_zero hd, Nat.one_mul]
  exact Nat.le_refl _
theorem abs_mul_lt {i j : Int} {a b : Nat} (h1 : i.natAbs < 2 ^ a) (h2 : j.natAbs < 2 ^ b) : (i * j).natAbs < 2 ^ (a + b) := by
  rw [Int.natAbs_mul, Nat.pow_add]
  exact Nat.mul_lt_mul'' h1 h2
theorem abs_add_lt {i j : Int} {a : Nat} (h1 : i.natAbs < 2 ^ a) (h2 : j.natAbs < 2 ^ a) : (i + j).natAbs < 2 ^ (a + 1) := by
  rw [Nat.pow_succ]
  omega
theorem abs_sub_lt {i j : Int} {a : Nat} (h1 : i.natAbs < 2 ^ a) (h2 : j.natAbs < 2 ^ a) : (i - j).natAbs < 2 ^ (a + 1) := by
  rw [Nat.pow_succ]
  omega
theorem abs_mono {i : Int} {a b : Nat} (h : i.natAbs < 2 ^ a) (hb : a ≤ b) : i.natAbs < 2 ^ b := Nat.lt_of_lt_of_le h (Nat.pow_le_pow_right (by decide) hb)
theorem den_abs (q : Rat) : ((q.den : Int)).natAbs = q.den := Int.natAbs_natCast _
theorem mul_den_ne (p q : Rat) : (p.den : Int) * (q.den : Int) ≠ 0 := Int.mul_ne_zero (Int.ne_of_gt (den_pos p)) (Int.ne_of_gt (den_pos q))
theorem Sz.add {p q : Rat} {a b : Nat} (h1 : Sz a p) (h2 : Sz b q) : Sz (a + b + 1) (p + q) := by
  rw [← add_eq]
  refine Sz.of (mul_den_ne p q) (abs_add_lt (abs_mul_lt h1.1 (by rw [den_abs]; exact h2.2)) ?_) (abs_mono (abs_mul_lt (by rw [den_abs]; exact h1.2) (by rw [den_abs]; exact h2.2)) (by omega))
  rw [Nat.add_comm a b]
  exact abs_mul_lt h2.1 (by rw [den_abs]; exact h1.2)
theorem Sz.sub {p q : Rat} {a b : Nat} (h1 : Sz a p) (h2 : Sz b q) : Sz (a + b + 1) (p - q) := by
  rw [← sub_eq]
  refine Sz.of (mul_den_ne p q) (abs_sub_lt (abs_mul_lt h1.1 (by rw [den_abs]; exact h2.2)) ?_) (abs_mono (abs_mul_lt (by rw [den_abs]; exact h1.2) (by rw [den_abs]; exact h2.2)) (by omega))
  rw [Nat.add_comm a b]
  exact abs_mul_lt h2.1 (by rw [den_abs]; exact h1.2)
theorem Sz.mul {p q : Rat} {a b : Nat} (h1 : Sz a p) (h2 : Sz b q) : Sz (a + b) (p * q) := by
  rw [← mul_eq]
  exact Sz.of (mul_den_ne p q) (abs_mul_lt h1.1 h2.1) (abs_mul_lt (by rw [den_abs]; exact h1.2) (by rw [den_abs]; exact h2.2))
theorem Sz.neg {p : Rat} {a : Nat} (h : Sz a p) : Sz a (-p) := ⟨by rw [Rat.neg_num, Int.natAbs_neg]; exact h.1, by rw [Rat.neg_den]; exact h.2⟩
theorem Sz.int {n : Int} {a : Nat} (h : n.natAbs < 2 ^ a) (ha : 0 < a) : Sz a (n : Rat) := ⟨h, by
  show 1 < 2 ^ a
  exact Nat.one_lt_two_pow (by omega)⟩
section
variable {p q : Rat} {a b : Nat}
theorem Sz.nn (hp : Sz a p) (hq : Sz b q) (h : a + b ≤ 134217000) : MulOk p.num q.num := mulOk a b hp.1 hq.1 h
theorem Sz.nd (hp : Sz a p) (hq : Sz b q) (h : a + b ≤ 134217000) : MulOk p.num q.den := mulOk a b hp.1 (by rw [den_abs]; exact hq.2) h
theorem Sz.dd (hp : Sz a p) (hq : Sz b q) (h : a + b ≤ 134217000) : MulOk p.den q.den := mulOk a b (by rw [den_abs]; exact hp.2) (by rw [den_abs]; exact hq.2) h
theorem Sz.okd (hp : Sz a p) (hq : Sz b q) (h : a + b ≤ 9000) : DenOk ((p.den : Int) * q.den) := DenOk.of (abs_mul_lt (by rw [den_abs]; exact hp.2) (by rw [den_abs]; exact hq.2)) h
end
abbrev SzB (q : Rat) : Prop := Sz 4000 q
def s_added : Spec := fun args L R => ∃ p q : Rat, args = [fr p, fr q] ∧ SzB p ∧ SzB q ∧ R (fr (p + q)) L
def s_taken : Spec := fun args L R => ∃ p q : Rat, args = [fr p, fr q] ∧ SzB p ∧ SzB q ∧ R (fr (p - q)) L
def s_times : Spec := fun args L R => ∃ p q : Rat, args = [fr p, fr q] ∧ SzB p ∧ SzB q ∧ R (fr (p * q)) L
def d_added_0 : WS := sRet (wCall s_fraction [wBin oAdd (wBin oMul (wBin oIx (wVar 0) (wC (.int 0))) (wBin oIx (wVar 1) (wC (.int 1)))) (wBin oMul (wBin oIx (wVar 1) (wC (.int 0))) (wBin oIx (wVar 0) (wC (.int 1)))), wBin oMul (wBin oIx (wVar 0) (wC (.int 1))) (wBin oIx (wVar 1) (wC (.int 1)))])
def d_taken_0 : WS := sRet (wCall s_fraction [wBin oSub (wBin oMul (wBin oIx (wVar 0) (wC (.int 0))) (wBin oIx (wVar 1) (wC (.int 1)))) (wBin oMul (wBin oIx (wVar 1) (wC (.int 0))) (wBin oIx (wVar 0) (wC (.int 1)))), wBin oMul (wBin oIx (wVar 0) (wC (.int 1))) (wBin oIx (wVar 1) (wC (.int 1)))])
def d_times_0 : WS := sRet (wCall s_fraction [wBin oMul (wBin oIx (wVar 0) (wC (.int 0))) (wBin oIx (wVar 1) (wC (.int 0))), wBin oMul (wBin oIx (wVar 0) (wC (.int 1))) (wBin oIx (wVar 1) (wC (.int 1)))])
theorem ok_added : ∀ args L R, args.length = 2 → s_added args L R → d_added_0 (initE 2 args) L { nx := fun _ L' => R .non L', rt := R } := by
  rintro _ L R _ ⟨p, q, rfl, hp, hq, h⟩
  unfold d_added_0
  show sRet _ [some (fr p), some (fr q)] L _
  walk_at "ev"
  refine ⟨hp.nd hq (by decide), hq.nd hp (by decide), hp.dd hq (by decide), _, _, rfl, mul_den_ne p q, ?_, ?_⟩
  · exact hp.okd hq (by decide)
  · rw [← add_eq] at h
    exact h
theorem ok_taken : ∀ args L R, args.length = 2 → s_taken args L R → d_taken_0 (initE 2 args) L { nx := fun _ L' => R .non L', rt := R } := by
  rintro _ L R _ ⟨p, q, rfl, hp, hq, h⟩
  unfold d_taken_0
  show sRet _ [some (fr p), some (fr q)] L _
  walk_at "ev"
  refine ⟨hp.nd hq (by decide), hq.nd hp (by decide), hp.dd hq (by decide), _, _, rfl, mul_den_ne p q, ?_, ?_⟩
  · exact hp.okd hq (by decide)
  · rw [← sub_eq] at h
    exact h
theorem ok_times : ∀ args L R, args.length = 2 → s_times args L R → d_times_0 (initE 2 args) L { nx := fun _ L' => R .non L', rt := R } := by
  rintro _ L R _ ⟨p, q, rfl, hp, hq, h⟩
  unfold d_times_0
  show sRet _ [some (fr p), some (fr q)] L _
  walk_at "ev"
  refine ⟨hp.nn hq (by decide), hp.dd hq (by decide), _, _, rfl, mul_den_ne p q, ?_, ?_⟩
  · exact hp.okd hq (by decide)
  · rw [← mul_eq] at h
    exact h
end
section
open PySem PySem.Spec PyProof.Rows L2
section
variable {L : Sto} {R : PK} {p : Addr} {x y z u : PV} {xs : List PV} {env : Env}
theorem ixl0 (e : L p = some (.l (x :: xs))) : oIx (.ref p) (.int 0) L R = R x L := by
  unfold oIx
  simp only [e, show atI (x :: xs) 0 = some x from atI_nat (j := 0) rfl]
theorem ixl1 (e : L p = some (.l (x :: y :: xs))) : oIx (.ref p) (.int 1) L R = R y L := by
  unfold oIx
  simp only [e, show atI (x :: y :: xs) 1 = some y from atI_nat (j := 1) rfl]
theorem ixl2 (e : L p = some (.l (x :: y :: z :: xs))) : oIx (.ref p) (.int 2) L R = R z L := by
  unfold oIx
  simp only [e, show atI (x :: y :: z :: xs) 2 = some z from atI_nat (j := 2) rfl]
def gSt (y z x : PV) (env : Env) (Lb : Sto) (R : Env → Sto → Prop) : Prop := match y, z with
  | .ref a, .int k => ∃ xs j, Lb a = some (.l xs) ∧ ixN xs.length k = some j ∧ R env (put Lb a (.l (xs.set j x)))
  | _, _ => False
theorem e_gS {o i : WE} {R : Env → Sto → Prop} : gS o i x env L R = o env L fun y La => i env La fun z Lb => gSt y z x env Lb R := propext Iff.rfl
theorem e_gSt {k : Int} {j : Nat} {R : Env → Sto → Prop} (e : L p = some (.l xs)) (hj : ixN xs.length k = some j) : gSt (.ref p) (.int k) x env L R = R env (put L p (.l (xs.set j x))) := by
  refine propext ⟨?_, fun h => ⟨xs, j, e, hj, h⟩⟩
  rintro ⟨xs', j', e', hj', h⟩
  rw [e] at e'
  cases e'
  rw [hj] at hj'
  cases hj'
  exact h
theorem e_gT {n : Nat} {gs : WGs} {R : Env → Sto → Prop} : gT n gs (.tup xs) env L R = (xs.length = n ∧ gs xs env L R) := propext Iff.rfl
theorem e_gsL0 {R : Env → Sto → Prop} : gsL [] [] env L R = R env L := propext Iff.rfl
theorem e_gsL1 {g : WG} {gs : List WG} {R : Env → Sto → Prop} : gsL (g :: gs) (x :: xs) env L R = g x env L fun env' L' => gsL gs xs env' L' R := propext Iff.rfl
theorem e_gsN0 {R : Env → Sto → Prop} : gsN [] [] env L R = R env L := propext Iff.rfl
theorem e_gsN1 {i : Nat} {gs : List Nat} {R : Env → Sto → Prop} : gsN (i :: gs) (x :: xs) env L R = gsN gs xs (env.set i (some x)) L R := propext Iff.rfl
end
theorem mulL {i j : Int} (h : -18446744073709551616 < i ∧ i < 18446744073709551616) : MulOk i j := ⟨(CMul.ok (.inl h))⟩
theorem mulR {i j : Int} (h : -18446744073709551616 < j ∧ j < 18446744073709551616) : MulOk i j := ⟨(CMul.ok (.inr h))⟩
theorem bits_le {i : Int} {a : Nat} (h : i.natAbs < 2 ^ a) : Builtin.Int.intBits i ≤ a := by
  unfold Builtin.Int.intBits
  split
  · exact Nat.zero_le _
  · rename_i hx
    have hx' : i.natAbs ≠ 0 := fun z => hx (by simpa using z)
    have := (Nat.log2_lt hx').mpr h
    omega
theorem powOk {i j : Int} (a : Nat) (h : i.natAbs < 2 ^ a) (h0 : 0 ≤ j) (h1 : (a : Int) * j ≤ 134217728) : PowOk i j := by
  refine ⟨h0, ?_⟩
  have : (Builtin.Int.intBits i : Int) ≤ a := by exact_mod_cast bits_le h
  refine Int.le_trans (Int.mul_le_mul_of_nonneg_right this h0) ?_
  exact h1
theorem loop_i {keep : Sto → Prop} {g : WG} {b : WS} {N : Nd} (I : Nat → Env → Sto → Prop) {xs : List PV} {env : Env} {L : Sto} (h0 : I 0 env L) (hk : ∀ i e l, I i e l → keep l)
    (hs : ∀ i x e l (K : Env → Sto → Prop), xs[i]? = some x → I i e l → (∀ e l, I (i + 1) e l → K e l) → g x e l fun e' l' => b e' l' { nx := K, rt := N.rt, bk := N.nx, ct := K })
    (he : ∀ e l, I xs.length e l → N.nx e l) : loopW keep g b xs env L N := by
  have key : ∀ ys i e l, xs.drop i = ys → i ≤ xs.length → I i e l → loopW keep g b ys e l N := by
    intro ys
    induction ys with
    | nil =>
      intro i e l hd hi hI
      have : i = xs.length := by
        have := congrArg List.length hd
        rw [List.length_drop, List.length_nil] at this
        omega
      exact ⟨hk i e l hI, he e l (this ▸ hI)⟩
    | cons y ys ih =>
      intro i e l hd hi hI
      have hl := congrArg List.length hd
      rw [List.length_drop, List.length_cons] at hl
      have hx : xs[i]? = some y := by
        have := congrArg (fun z => z[0]?) hd
        simpa using this
      have hd' : xs.drop (i + 1) = ys := by
        have := congrArg List.tail hd
        simpa using this
      exact ⟨hk i e l hI, hs i y e l (fun e l => loopW keep g b ys e l N) hx hI fun e l h => ih (i + 1) e l hd' (by omega) h⟩
  exact key xs 0 env L rfl (Nat.zero_le _) h0
theorem comp_i {keep : Sto → Prop} {g : WG} {t e : WE} {env : Env} {R : List PV → Sto → Prop} (I : Nat → List PV → Sto → Prop) {xs : List PV} {L : Sto} (h0 : I 0 [] L) (hk : ∀ i a l, I i a l → keep l) (hn : xs.length < sizeLine)
    (hs : ∀ i x acc l (K : List PV → Sto → Prop), xs[i]? = some x → I i acc l → acc.length ≤ i → (∀ acc l, acc.length ≤ i + 1 → I (i + 1) acc l → K acc l) → g x env l fun env' La => t env' La fun b Lb => bIf b (e env' Lb fun y Lc => acc.length < sizeLine ∧ K (acc ++ [y]) Lc) (K acc Lb))
    (he : ∀ acc l, I xs.length acc l → R acc l) : compW keep g t e env xs [] L R := by
  have key : ∀ ys i acc l, xs.drop i = ys → i ≤ xs.length → acc.length ≤ i → I i acc l → compW keep g t e env ys acc l R := by
    intro ys
    induction ys with
    | nil =>
      intro i acc l hd hi _ hI
      have : i = xs.length := by
        have := congrArg List.length hd
        rw [List.length_drop, List.length_nil] at this
        omega
      exact ⟨hk i acc l hI, he acc l (this ▸ hI)⟩
    | cons y ys ih =>
      intro i acc l hd hi ha hI
      have hl := congrArg List.length hd
      rw [List.length_drop, List.length_cons] at hl
      have hx : xs[i]? = some y := by
        have := congrArg (fun z => z[0]?) hd
        simpa using this
      have hd' : xs.drop (i + 1) = ys := by
        have := congrArg List.tail hd
        simpa using this
      exact ⟨hk i acc l hI, hs i y acc l (fun acc l => compW keep g t e env ys acc l R) hx hI ha fun acc l ha' h => ih (i + 1) acc l hd' (by omega) ha' h⟩
  exact key xs 0 [] L rfl (Nat.zero_le _) (Nat.le_refl _) h0
section
variable {L : Sto} {R : Src → Sto → Prop} {p q : Addr} {xs ys : List PV} {env : Env} {a b : WE}
def r1K (y : PV) (La : Sto) (R : Src → Sto → Prop) : Prop := match y with
  | .int j => RgB j ∧ R ⟨rgL 0 j.toNat, fun _ => True⟩ La
  | _ => False
theorem e_r1 : iR1 a env L R = a env L fun y La => r1K y La R := propext Iff.rfl
theorem e_r1K {j : Int} : r1K (.int j) L R = (RgB j ∧ R ⟨rgL 0 j.toNat, fun _ => True⟩ L) := propext Iff.rfl
def r2K (x y : PV) (La : Sto) (R : Src → Sto → Prop) : Prop := match x, y with
  | .int i, .int j => RgB i ∧ RgB j ∧ R ⟨rgL i (j - i).toNat, fun _ => True⟩ La
  | _, _ => False
theorem e_r2 : iR2 a b env L R = a env L fun x La => b env La fun y Lb => r2K x y Lb R := propext Iff.rfl
theorem e_r2K {i j : Int} : r2K (.int i) (.int j) L R = (RgB i ∧ RgB j ∧ R ⟨rgL i (j - i).toNat, fun _ => True⟩ L) := propext Iff.rfl
def lsK (x : PV) (La : Sto) (R : Src → Sto → Prop) : Prop := match x with
  | .ref a => match La a with
    | some (.l xs) => R ⟨xs, fun Lx => Lx a = some (.l xs)⟩ La
    | _ => False
  | .tup xs => R ⟨xs, fun _ => True⟩ La
  | .str z => R ⟨z.cps.toList.map fun c => .str ⟨#[c]⟩, fun _ => True⟩ La
  | _ => False
theorem e_any : iAny a env L R = a env L fun x La => lsK x La R := propext Iff.rfl
theorem e_lsK (e : L p = some (.l xs)) : lsK (.ref p) L R = R ⟨xs, fun Lx => Lx p = some (.l xs)⟩ L := by
  unfold lsK
  simp only [e]
theorem e_lsT : lsK (.tup xs) L R = R ⟨xs, fun _ => True⟩ L := propext Iff.rfl
def enK (x : PV) (La : Sto) (R : Src → Sto → Prop) : Prop := srcK x La fun xs kp => R ⟨enL xs, kp⟩ La
theorem e_en : iEn a env L R = a env L fun x La => enK x La R := propext Iff.rfl
theorem e_enK (e : L p = some (.l xs)) : enK (.ref p) L R = R ⟨enL xs, fun Lx => Lx p = some (.l xs)⟩ L := by
  unfold enK srcK
  simp only [e]
theorem e_enT : enK (.tup xs) L R = R ⟨enL xs, fun _ => True⟩ L := propext Iff.rfl
def zpK (x y : PV) (Lb : Sto) (R : Src → Sto → Prop) : Prop := srcK x Lb fun xs kx => srcK y Lb fun ys ky => R ⟨zipL xs ys, fun Lx => kx Lx ∧ ky Lx⟩ Lb
theorem e_zpT : zpK (.tup xs) (.tup ys) L R = R ⟨zipL xs ys, fun _ => True⟩ L := by
  show R ⟨zipL xs ys, fun _ => True ∧ True⟩ L = _
  rw [show (fun _ : Sto => True ∧ True) = fun _ => True from funext fun _ => propext ⟨fun _ => trivial, fun _ => ⟨trivial, trivial⟩⟩]
theorem e_zp : iZp a b env L R = a env L fun x La => b env La fun y Lb => zpK x y Lb R := propext Iff.rfl
theorem e_lzip {R' : PK} : wLzip a b env L R' = a env L fun x La => b env La fun y Lb => lzK x y Lb R' := propext Iff.rfl
def z3K (x y z : PV) (Lb : Sto) (R : Src → Sto → Prop) : Prop := srcK x Lb fun xs kx => srcK y Lb fun ys ky => srcK z Lb fun zs kz => R ⟨zip3L xs ys zs, fun Lx => kx Lx ∧ ky Lx ∧ kz Lx⟩ Lb
theorem e_z3 {c : WE} : iZ3 a b c env L R = a env L fun x La => b env La fun y Lb => c env Lb fun z Lc => z3K x y z Lc R := propext Iff.rfl
def rvK (x : PV) (La : Sto) (R : Src → Sto → Prop) : Prop := match x with
  | .ref a => match La a with
    | some (.l xs) => R ⟨xs.reverse, fun Lx => Lx a = some (.l xs)⟩ La
    | _ => False
  | _ => False
theorem e_rv : iRv a env L R = a env L fun x La => rvK x La R := propext Iff.rfl
theorem e_for {it : WI} {g : WG} {s : WS} {N : Nd} : sFor it g s env L N = it env L fun c La => loopW c.keep g s c.items env La N := propext Iff.rfl
theorem e_comp {own : List Nat} {it : WI} {g : WG} {t e : WE} {R : PK} : wComp own it g t e env L R = it env L fun c La => compW c.keep g t e (wipeE env own) c.items [] La fun acc Lb => newL Lb acc R := propext Iff.rfl
theorem e_mt {T : String} {g : MtF} {o : WE} {ws : List WE} {R : PK} : wMt T g o ws env L R = o env L fun x La => tyOk T x La ∧ wAr ws env La fun xs Lb => g x xs Lb R := propext Iff.rfl
theorem e_wipe0 : wipeE env [] = env := rfl
theorem e_wipe1 {i : Nat} {is : List Nat} : wipeE env (i :: is) = (wipeE env is).set i none := rfl
theorem e_revt {R : PK} : oRev (.tup xs) L R = R (.tup xs.reverse) L := propext Iff.rfl
theorem e_tru {w : WE} {R : PK} : wTru w env L R = w env L fun x La => truP x La R := propext Iff.rfl
theorem tru_bl {R : PK} {b : Bool} : truP (.bl b) L R = R (.bl b) L := propext Iff.rfl
theorem tru_int {R : PK} {i : Int} : truP (.int i) L R = R (.bl (i != 0)) L := propext Iff.rfl
theorem tru_non {R : PK} : truP .non L R = R (.bl false) L := propext Iff.rfl
theorem tru_tup {R : PK} : truP (.tup xs) L R = R (.bl (!xs.isEmpty)) L := propext Iff.rfl
theorem e_disp {ps : List (Key × WE)} {R : PK} : wDisp ps env L R = ∀ p, L p = none → wPairs ps env (put L p (.d [])) fun kvs L2 => L2 p = some (.d []) ∧ R (.ref p) (put L2 p (.d kvs)) := propext Iff.rfl
theorem e_prs0 {R : List (Key × PV) → Sto → Prop} : wPairs [] env L R = R [] L := propext Iff.rfl
theorem e_prs1 {k : Key} {w : WE} {ps : List (Key × WE)} {R : List (Key × PV) → Sto → Prop} : wPairs ((k, w) :: ps) env L R = w env L fun x La => wPairs ps env La fun ps Lb => R ((k, x) :: ps) Lb := propext Iff.rfl
theorem e_aug {i : Nat} {f : Op2} {N : Nd} {x : PV} (h : gv env i = some x) : sAug i f a env L N = a env L fun y La => f x y La fun z Lb => N.nx (env.set i (some z)) Lb := by
  unfold sAug
  rw [h]
end
local macro_rules | `(tactic| walk_at "ev") => `(tactic| try simp only [if_true, if_false, decide_true, decide_false, Bool.not_true, Bool.not_false, Bool.false_eq_true, reduceCtorEq, e_gS, e_gT, e_gsL0, e_gsL1, e_gsN0, e_gsN1, e_r1, e_r1K, e_r2, e_r2K, e_any, e_lsT, e_zpT, e_enT, e_en, e_zp, e_lzip, e_z3, e_revt, e_tru, tru_bl, tru_int, tru_non, tru_tup, e_disp, e_prs0, e_prs1, List.zip_nil_left, e_rv, e_for, e_comp, e_mt, e_wipe0, e_wipe1, fr0, fr1, ix0, ix1, ix2, ix3, bIf_t, bIf_f, bIf_d, bIf_n, oEq_ii, oNe_ii, oEq_bb, oNe_bb, List.set_cons_zero, List.set_cons_succ, List.zip_cons_cons, List.zip_nil_right, List.foldl_cons, List.foldl_nil, e_add, e_addI, e_addt, e_addl, e_sub, e_mul, e_div, e_mod, e_pow, e_oI, e_neg, e_not, e_isn, e_isnn, e_isb, e_isnb, e_isN_non, e_isN_bl, e_isN_int, e_isN_tup, e_isN_ref, e_isN_fz, e_isN_fr, e_isN_str, e_lent, e_lenz, e_abs, e_int, e_intb, e_dvm, e_min, e_max, e_listt, e_listz, e_tupt, e_str, gv_0, gv_s, e_slt, e_slz, e_v0, e_v1, e_v2, e_v3, e_v4, e_v5, e_v6, e_v7, e_v8, e_v9, e_v10, e_v11, e_v12, e_v13, e_v14, e_v15, e_v16, e_v17, e_v18, e_v19, e_v20, e_v21, e_v22, e_v23, e_v24, e_v25, e_v26, e_v27, e_v28, e_v29, e_v30, e_v31, e_v32, e_v33, e_v34, e_v35, e_v36, e_v37, e_v38, e_v39, e_ar0, e_ar1, e_gN, e_par, e_c, e_bin, e_un, e_and, e_or, e_ife, e_chain, e_tup, e_lst, e_bi, e_call, e_sl, e_no, e_so, e_nil, e_seq, e_expr, e_ret, e_retn, e_asg, e_if, e_brk, e_cnt, sz_0, sz_1, sz_2, sz_3, sz_4, sz_5, sz_6, sz_7, sz_8, sz_9, sz_10, sz_11, sz_12, sz_13, sz_14, sz_15, sz_16, sz_17, sz_18, sz_19, true_and, isi_non_int, isi_non_bool, isi_non_str, isi_non_tuple, isi_non_list, isi_non_dict, isi_bl_int, isi_bl_bool, isi_bl_str, isi_bl_tuple, isi_bl_list, isi_bl_dict, isi_int_int, isi_int_bool, isi_int_str, isi_int_tuple, isi_int_list, isi_int_dict, isi_str_int, isi_str_bool, isi_str_str, isi_str_tuple, isi_str_list, isi_str_dict, isi_tup_int, isi_tup_bool, isi_tup_str, isi_tup_tuple, isi_tup_list, isi_tup_dict, isi_fz_int, isi_fz_bool, isi_fz_str, isi_fz_tuple, isi_fz_list, isi_fz_dict])
def Bx (b : Addr) (n : Int) (L : Sto) : Prop := ∃ c0 c1 c2 : Int, L b = some (.l [.int c0, .int c1, .int c2]) ∧ 0 ≤ c0 ∧ 0 ≤ c1 ∧ c1 < 2147483647 ∧ 0 ≤ c2 ∧ c2 ≤ n
theorem Bx.mono {b : Addr} {n m : Int} {L : Sto} (h : Bx b n L) (k : n ≤ m) : Bx b m L := by
  obtain ⟨c0, c1, c2, h1, h2, h3, h4, h5, h6⟩ := h
  exact ⟨c0, c1, c2, h1, h2, h3, h4, h5, Int.le_trans h6 k⟩
theorem Bx.le {b : Addr} {n : Int} {L L' : Sto} (h : Bx b n L) (k : Le L L') : Bx b n L' := by
  obtain ⟨c0, c1, c2, h1, h2⟩ := h
  exact ⟨c0, c1, c2, k _ _ h1, h2⟩
theorem Bx.leb {b p : Addr} {n : Int} {L L' : Sto} (h : Bx b n L) (hp : b ≠ p) (k : LeB p L L') : Bx b n L' := by
  obtain ⟨c0, c1, c2, h1, h2⟩ := h
  exact ⟨c0, c1, c2, k _ _ hp h1, h2⟩
def sl_take : Spec := fun args L R => ∃ (b : Addr) (m n : Int), args = [.ref b, .int m] ∧ Bx b n L ∧ n < 1152921504606846976 ∧ 0 < m ∧ DenOk m ∧ ∀ r L', 0 ≤ r → r < m → Bx b (n + 1) L' → LeB b L L' → R (.int r) L'
def l_take_3 : WS := sRet (wBin oMod (wBin oDiv (wBin oMod (wBin oAdd (wBin oMul (wVar 3) (wC (.int 48271))) (wBin oMul (wBin oMul (wBin oIx (wVar 0) (wC (.int 2))) (wBin oIx (wVar 0) (wC (.int 2)))) (wC (.int 7919)))) (wC (.int 2147483629))) (wC (.int 64))) (wVar 1))
def l_take_2 : WS := sSeq (sAsg (gN 3) (wBin oMod (wBin oPow (wBin oAdd (wBin oIx (wVar 0) (wC (.int 1))) (wBin oMul (wC (.int 39373)) (wBin oIx (wVar 0) (wC (.int 2))))) (wC (.int 5))) (wC (.int 2147483647)))) l_take_3
def l_take_1 : WS := sSeq (sAsg (gS (wVar 0) (wC (.int 2))) (wBin oAdd (wBin oIx (wVar 0) (wC (.int 2))) (wC (.int 1)))) l_take_2
def l_take_0a_1 : WS := sRet (wVar 2)
def l_take_0a_0 : WS := sSeq (sAsg (gT 2 (gsL [gS (wVar 0) (wC (.int 0)), gN 2])) (wBi gDivmod [wBin oIx (wVar 0) (wC (.int 0)), wVar 1])) l_take_0a_1
def l_take_0 : WS := sSeq (sIf (wBin oGt (wBin oIx (wVar 0) (wC (.int 0))) (wC (.int 0))) l_take_0a_0 sNil) l_take_1
theorem fm_pos {i j : Int} (h : 0 < j) : i.fmod j = i % j := Int.fmod_eq_emod_of_nonneg _ (by omega)
theorem fd_pos {i j : Int} (h : 0 < j) : i.fdiv j = i / j := Int.fdiv_eq_ediv_of_nonneg _ (by omega)
theorem noPlS {i j : Int} (h : j.natAbs < 2 ^ 64) : NoPl i j := noPl (Nat.lt_trans h (Nat.pow_lt_pow_right (by decide) (by decide)))
theorem ok_l_take : ∀ args L R, args.length = 2 → sl_take args L R → l_take_0 (initE 4 args) L { nx := fun _ L' => R .non L', rt := R } := by
  rintro _ L R _ ⟨b, m, n, rfl, ⟨c0, c1, c2, e, h0, h1, h2, h3, h4⟩, hn, hm, hd, h⟩
  unfold l_take_0
  show sSeq _ _ [some (.ref b), some (.int m), none, none] L _
  walk_at "ev"
  rw [ixl0 e]
  walk_at "ev"
  split
  · rename_i hc
    unfold l_take_0a_0
    walk_at "ev"
    rw [ixl0 e]
    walk_at "ev"
    refine ⟨hm, noPl hd, rfl, ?_⟩
    rw [e_gSt (j := 0) e rfl]
    unfold l_take_0a_1
    walk_at "ev"
    refine h _ _ (Int.emod_nonneg _ (by omega)) (Int.emod_lt_of_pos _ hm) ⟨c0 / m, c1, c2, put_same, Int.ediv_nonneg h0 (by omega), h1, h2, h3, by omega⟩ LeB.put
  · rename_i hc
    unfold l_take_1
    walk_at "ev"
    rw [ixl2 e]
    walk_at "ev"
    rw [e_gSt (j := 2) e rfl]
    unfold l_take_2
    walk_at "ev"
    rw [ixl1 put_same]
    walk_at "ev"
    rw [ixl2 put_same]
    walk_at "ev"
    refine ⟨mulL (by decide), powOk 80 ?_ (by decide) (by decide), by decide, ?_⟩
    · have : (2 : Nat) ^ 80 = 1208925819614629174706176 := by decide
      rw [this]
      omega
    unfold l_take_3
    walk_at "ev"
    refine ⟨mulR (by decide), ?_⟩
    rw [ixl2 put_same]
    rw [ixl2 put_same]
    walk_at "ev"
    refine ⟨mulL (by omega), mulR (by decide), by decide, by decide, noPlS (by decide), by omega, ?_⟩
    rw [fm_pos hm]
    exact h _ _ (Int.emod_nonneg _ (by omega)) (Int.emod_lt_of_pos _ hm) ⟨c0, c1, c2 + 1, put_same, h0, h1, h2, by omega, by omega⟩ LeB.put
def sl_box_of : Spec := fun args L R => ∃ (c : Addr) (ns : List Int) (k : Int), args = [.ref c, .int k] ∧ L c = some (.l (ns.map PV.int)) ∧ 0 ≤ k ∧ k < 1000000 ∧ ∀ b L', L b = none → Le L L' → Bx b 0 L' → R (.ref b) L'
def l_box_of_2 : WS := sRet (wLst [wBin oMul (wBi gAbs [wVar 2]) (wBi gInt [wBin oGe (wBi gAbs [wVar 2]) (wBin oPow (wC (.int 10)) (wC (.int 18)))]), wBin oMod (wBin oAdd (wVar 2) (wBin oMul (wBin oMul (wC (.int 7919)) (wVar 1)) (wVar 1))) (wC (.int 2147483647)), wC (.int 0)])
def l_box_of_1a_0 : WS := sAsg (gN 2) (wBin oIx (wVar 0) (wVar 1))
def l_box_of_1 : WS := sSeq (sIf (wBin oLt (wVar 1) (wBi gLen [wVar 0])) l_box_of_1a_0 sNil) l_box_of_2
def l_box_of_0 : WS := sSeq (sAsg (gN 2) (wC (.int 0))) l_box_of_1
theorem mod_rng {i j : Int} (h : 0 < j) : 0 ≤ i.fmod j ∧ i.fmod j < j := by
  rw [fm_pos h]
  exact ⟨Int.emod_nonneg _ (by omega), Int.emod_lt_of_pos _ h⟩
theorem box_end {x k : Int} {c : Addr} {L : Sto} {N : Nd} (hk : 0 ≤ k) (hk' : k < 1000000) (h : ∀ b L', L b = none → Le L L' → Bx b 0 L' → N.rt (.ref b) L') : l_box_of_2 [some (.ref c), some (.int k), some (.int x)] L N := by
  unfold l_box_of_2
  walk_at "ev"
  refine ⟨powOk 4 (by decide) (by decide) (by decide), mulR ?_, mulL (by decide), mulR (by omega), by decide, ?_⟩
  · split <;> decide
  intro p hp
  obtain ⟨r1, r2⟩ := mod_rng (i := x + 7919 * k * k) (j := 2147483647) (by decide)
  refine h p _ hp (Le.new hp) ⟨_, _, _, put_same, Int.mul_nonneg (by omega) (by split <;> decide), r1, r2, by decide, by decide⟩
theorem ok_l_box_of : ∀ args L R, args.length = 2 → sl_box_of args L R → l_box_of_0 (initE 3 args) L { nx := fun _ L' => R .non L', rt := R } := by
  rintro _ L R _ ⟨c, ns, k, rfl, e, hk, hk', h⟩
  unfold l_box_of_0
  show sSeq _ _ [some (.ref c), some (.int k), none] L _
  walk_at "ev"
  unfold l_box_of_1
  walk_at "ev"
  rw [e_lenl e]
  walk_at "ev"
  split
  · rename_i hl
    rw [List.length_map] at hl
    unfold l_box_of_1a_0
    walk_at "ev"
    obtain ⟨j, rfl⟩ := Int.eq_ofNat_of_zero_le hk
    have hj : j < ns.length := by omega
    refine ixl_nat e (x := .int ns[j]) ?_ ?_
    · rw [List.getElem?_map, List.getElem?_eq_getElem hj]; rfl
    · show l_box_of_2 [some (.ref c), some (.int j), some (.int ns[j])] L _
      exact box_end hk hk' h
  · exact box_end hk hk' h
def sl_lowest : Spec := fun args L R => ∃ n d : Int, args = [.int n, .int d] ∧ d ≠ 0 ∧ DenOk d ∧ R (fr ((n : Rat) / (d : Rat))) L
end
local macro_rules | `(tactic| walk_at "ev102") => `(tactic| try simp only [if_true, if_false, decide_true, decide_false, Bool.not_true, Bool.not_false, Bool.false_eq_true, reduceCtorEq, e_gS, e_gT, e_gsL0, e_gsL1, e_gsN0, e_gsN1, e_r1, e_r1K, e_r2, e_r2K, e_any, e_lsT, e_zpT, e_enT, e_en, e_zp, e_lzip, e_z3, e_revt, e_tru, tru_bl, tru_int, tru_non, tru_tup, e_disp, e_prs0, e_prs1, List.zip_nil_left, e_rv, e_for, e_comp, e_mt, e_wipe0, e_wipe1, fr0, fr1, ix0, ix1, ix2, ix3, bIf_t, bIf_f, bIf_d, bIf_n, oEq_ii, oNe_ii, oEq_bb, oNe_bb, List.set_cons_zero, List.set_cons_succ, List.zip_cons_cons, List.zip_nil_right, List.foldl_cons, List.foldl_nil, e_add, e_addI, e_addt, e_addl, e_sub, e_mul, e_div, e_mod, e_pow, e_oI, e_neg, e_not, e_isn, e_isnn, e_isb, e_isnb, e_isN_non, e_isN_bl, e_isN_int, e_isN_tup, e_isN_ref, e_isN_fz, e_isN_fr, e_isN_str, e_lent, e_lenz, e_abs, e_int, e_intb, e_dvm, e_min, e_max, e_listt, e_listz, e_tupt, e_str, gv_0, gv_s, e_slt, e_slz, e_v0, e_v1, e_v2, e_v3, e_v4, e_v5, e_v6, e_v7, e_v8, e_v9, e_v10, e_v11, e_v12, e_v13, e_v14, e_v15, e_v16, e_v17, e_v18, e_v19, e_v20, e_v21, e_v22, e_v23, e_v24, e_v25, e_v26, e_v27, e_v28, e_v29, e_v30, e_v31, e_v32, e_v33, e_v34, e_v35, e_v36, e_v37, e_v38, e_v39, e_ar0, e_ar1, e_gN, e_par, e_c, e_bin, e_un, e_and, e_or, e_ife, e_chain, e_tup, e_lst, e_bi, e_call, e_sl, e_no, e_so, e_nil, e_seq, e_expr, e_ret, e_retn, e_asg, e_if, e_brk, e_cnt, sz_0, sz_1, sz_2, sz_3, sz_4, sz_5, sz_6, sz_7, sz_8, sz_9, sz_10, sz_11, sz_12, sz_13, sz_14, sz_15, sz_16, sz_17, sz_18, sz_19, true_and, isi_non_int, isi_non_bool, isi_non_str, isi_non_tuple, isi_non_list, isi_non_dict, isi_bl_int, isi_bl_bool, isi_bl_str, isi_bl_tuple, isi_bl_list, isi_bl_dict, isi_int_int, isi_int_bool, isi_int_str, isi_int_tuple, isi_int_list, isi_int_dict, isi_str_int, isi_str_bool, isi_str_str, isi_str_tuple, isi_str_list, isi_str_dict, isi_tup_int, isi_tup_bool, isi_tup_str, isi_tup_tuple, isi_tup_list, isi_tup_dict, isi_fz_int, isi_fz_bool, isi_fz_str, isi_fz_tuple, isi_fz_list, isi_fz_dict])
section
open PySem PySem.Spec PyProof.Rows L2
def sl_folded : Spec := fun args L R => ∃ (ns : List Int) (m : Int), args = [.fz ns, .int m] ∧ 0 < m ∧ m < 1000 ∧ ∀ p L' (ms : List Int), L p = none → Le L L' → L' p = some (.l (ms.map PV.int)) → 2 ≤ ms.length → ms.length ≤ 1000 → R (.ref p) L'
def l_folded_2 : WS := sRet (wBin oAdd (wVar 2) (wBin oMul (wLst [wC (.int 0)]) (wBin oSub (wC (.int 2)) (wBi gLen [wVar 2]))))
def l_folded_1f_0 : WS := sAsg (gS (wVar 2) (wBin oMod (wVar 3) (wVar 1))) (wBin oAdd (wBin oIx (wVar 2) (wBin oMod (wVar 3) (wVar 1))) (wBin oMul (wVar 4) (wBin oAdd (wVar 3) (wC (.int 2)))))
def l_folded_1 : WS := sSeq (sFor (iEn (wSl (wVar 0) (wSo (wVar 1)) (wSo (wC (.int 63))))) (gT 2 (gsL [gN 3, gN 4])) l_folded_1f_0) l_folded_2
def l_folded_0 : WS := sSeq (sAsg (gN 2) (wBi gList [wSl (wVar 0) wNo (wSo (wVar 1))])) l_folded_1
theorem enL_get {xs : List PV} {i : Nat} {x : PV} (h : (enL xs)[i]? = some x) : ∃ y, xs[i]? = some y ∧ x = .tup [.int i, y] := by
  unfold enL at h
  rw [List.getElem?_map] at h
  have hi : i < xs.length := by
    by_cases q : i < xs.length
    · exact q
    · rw [List.getElem?_eq_none (by rw [List.length_range]; omega)] at h
      cases h
  rw [List.getElem?_range hi] at h
  cases h
  exact ⟨xs[i], List.getElem?_eq_getElem hi, by show PV.tup [.int i, xs.getD i .non] = _; rw [List.getD_eq_getElem?_getD, List.getElem?_eq_getElem hi]; rfl⟩
theorem cut_to {α : Type} (xs : List α) (m : Nat) : cutP xs none (some (m : Int)) = xs.take m := by
  unfold cutP
  have h0 : HT.sIx xs.length 0 none = 0 := rfl
  have h1 : HT.sIx xs.length xs.length (some (m : Int)) = min m xs.length := HT.sIx_nat _ _ _
  rw [h0, h1, List.drop_zero, Nat.sub_zero]
  by_cases h : m ≤ xs.length
  · rw [Nat.min_eq_left h]
  · rw [Nat.min_eq_right (by omega), List.take_length, List.take_of_length_le (by omega)]
theorem cut_len {α : Type} (xs : List α) (lo hi : Nat) : cutP xs (some (lo : Int)) (some (hi : Int)) = (xs.drop lo).take (hi - lo) := by
  unfold cutP
  have h0 : HT.sIx xs.length 0 (some (lo : Int)) = min lo xs.length := HT.sIx_nat _ _ _
  have h1 : HT.sIx xs.length xs.length (some (hi : Int)) = min hi xs.length := HT.sIx_nat _ _ _
  rw [h0, h1]
  by_cases h : lo ≤ xs.length
  · rw [Nat.min_eq_left h]
    by_cases h' : hi ≤ xs.length
    · rw [Nat.min_eq_left h']
    · rw [Nat.min_eq_right (by omega), List.take_of_length_le (by rw [List.length_drop]; omega), List.take_of_length_le (by rw [List.length_drop]; omega)]
  · rw [List.drop_eq_nil_of_le (by omega), List.drop_eq_nil_of_le (by omega), List.take_nil, List.take_nil]
theorem map_take {ns : List Int} {m : Nat} : (ns.map PV.int).take m = (ns.take m).map PV.int := (List.map_take).symm
theorem set_int {ms : List Int} {j : Nat} {i : Int} : (ms.map PV.int).set j (.int i) = (ms.set j i).map PV.int := (List.map_set).symm
theorem e_rep {L : Sto} {R : PK} {p : Addr} {xs : List PV} {k : Int} (e : L p = some (.l xs)) (h : -(2 ^ 63) ≤ k ∧ k < 2 ^ 63 ∧ xs.length * k.toNat ≤ sizeLine ∧ newL L (List.replicate k.toNat xs).flatten R) : oMul (.ref p) (.int k) L R := ⟨xs, e, h⟩
theorem e_cat {L : Sto} {R : PK} {p q : Addr} {xs ys : List PV} (e : L p = some (.l xs)) (f : L q = some (.l ys)) (h : xs.length + ys.length ≤ sizeLine ∧ newL L (xs ++ ys) R) : oAdd (.ref p) (.ref q) L R := ⟨xs, ys, e, f, h⟩
theorem sizeL (n : Nat) (h : n ≤ 16777216) : n ≤ sizeLine := h
theorem ne_adr {L : Sto} {p q : Addr} {o : SO} (h : L p = none) (h' : L q = some o) : q ≠ p := fun e => by rw [e, h] at h'; cases h'
theorem Le.put {L La : Sto} (h : Le L La) {p : Addr} {o : SO} (hp : L p = none) : Le L (put La p o) := fun a u e => by
  rw [put_ne (ne_adr hp e)]
  exact h a u e
theorem folded_end {ns ms : List Int} {m : Int} {L l : Sto} {p : Addr} {z3 z4 : Option PV} {N : Nd} (hp : L p = none) (hle : Le L l) (e : l p = some (.l (ms.map PV.int))) (hl : ms.length ≤ 1000)
    (h : ∀ p L' (ms : List Int), L p = none → Le L L' → L' p = some (.l (ms.map PV.int)) → 2 ≤ ms.length → ms.length ≤ 1000 → N.rt (.ref p) L') : l_folded_2 [some (.fz ns), some (.int m), some (.ref p), z3, z4] l N := by
  unfold l_folded_2
  walk_at "ev102"
  intro p1 h1
  have e1 := (Le.new (o := .l [.int 0]) h1) _ _ e
  rw [e_lenl e1]
  walk_at "ev102"
  rw [List.length_map]
  refine e_rep put_same ⟨by omega, by omega, sizeL _ (by show 1 * _ ≤ _; omega), ?_⟩
  intro p2 h2
  have e2 := (Le.new (o := .l (List.replicate (2 - (ms.length : Int)).toNat [.int 0]).flatten) h2) _ _ e1
  refine e_cat e2 put_same ⟨sizeL _ (by rw [List.length_map, List.length_flatten, List.map_replicate, List.sum_replicate_nat]; show _ + _ * 1 ≤ _; omega), ?_⟩
  intro p3 h3
  have f1 : (List.replicate (2 - (ms.length : Int)).toNat [PV.int 0]).flatten = (List.replicate (2 - (ms.length : Int)).toNat (0 : Int)).map PV.int := by
    rw [List.map_replicate]
    generalize (2 - (ms.length : Int)).toNat = k
    induction k with
    | zero => rfl
    | succ k ih => rw [List.replicate_succ, List.flatten_cons, ih, List.replicate_succ]; rfl
  refine h p3 _ (ms ++ List.replicate (2 - (ms.length : Int)).toNat (0 : Int)) ?_ ?_ ?_ ?_ ?_
  · exact ((hle.trans (Le.new h1)).trans (Le.new h2)).free h3
  · exact ((hle.trans (Le.new h1)).trans (Le.new h2)).trans (Le.new h3)
  · rw [put_same, List.map_append, f1]
  · rw [List.length_append, List.length_replicate]; omega
  · rw [List.length_append, List.length_replicate]; omega
theorem ok_l_folded : ∀ args L R, args.length = 2 → sl_folded args L R → l_folded_0 (initE 5 args) L { nx := fun _ L' => R .non L', rt := R } := by
  rintro _ L R _ ⟨ns, m, rfl, hm, hm', h⟩
  obtain ⟨m, rfl⟩ := Int.eq_ofNat_of_zero_le (show 0 ≤ m by omega)
  unfold l_folded_0
  show sSeq _ _ [some (.fz ns), some (.int m), none, none, none] L _
  walk_at "ev102"
  intro p0 h0
  rw [e_listl put_same]
  intro p1 h1
  rw [cut_to] at *
  unfold l_folded_1
  walk_at "ev102"
  intro p2 h2
  rw [e_enK put_same, show ((63 : Int)) = ((63 : Nat) : Int) from rfl, cut_len]
  generalize hL2 : put (put (put L p0 _) p1 _) p2 _ = L2 at *
  have hp1 : L p1 = none := (Le.new h0).free h1
  have hp2 : L p2 = none := ((Le.new h0).trans (Le.new h1)).free h2
  have n12 : p2 ≠ p1 := fun e => by rw [e, put_same] at h2; cases h2
  have hle : Le L L2 := by rw [← hL2]; exact ((Le.new h0).trans (Le.new h1)).trans (Le.new h2)
  have e1 : L2 p1 = some (.l ((ns.take m).map PV.int)) := by rw [← hL2, put_ne n12.symm, put_same]
  have e2 : L2 p2 = some (.l (((ns.drop m).take (63 - m)).map PV.int)) := by rw [← hL2, put_same]
  refine loop_i (fun i e l => (∃ z3 z4, e = [some (.fz ns), some (.int m), some (.ref p1), z3, z4]) ∧ Le L l ∧ l p2 = L2 p2 ∧ ∃ ms : List Int, l p1 = some (.l (ms.map PV.int)) ∧ ms.length = (ns.take m).length)
    ⟨⟨_, _, rfl⟩, hle, rfl, _, e1, rfl⟩ ?_ ?_ ?_
  · rintro i e l ⟨_, _, h3, _⟩
    show l p2 = _
    rw [h3, e2]
  · rintro i x e l K hx ⟨⟨z3, z4, rfl⟩, hl, hp, ms, hms, hlen⟩ hK
    obtain ⟨y, hy, rfl⟩ := enL_get hx
    rw [List.getElem?_map] at hy
    cases hyy : ((ns.drop m).take (63 - m))[i]? with
    | none => rw [hyy] at hy; cases hy
    | some c =>
    rw [hyy] at hy
    cases hy
    have hi := (List.getElem?_eq_some_iff.mp hyy).1
    rw [List.length_take, List.length_drop] at hi
    rw [List.length_take, Nat.min_eq_left (by omega)] at hlen
    walk_at "ev102"
    refine ⟨rfl, ?_⟩
    unfold l_folded_1f_0
    walk_at "ev102"
    have hmm : ((i : Int)).fmod m = ((i % m : Nat) : Int) := by rw [fm_pos hm]; rfl
    have hlt : i % m < m := Nat.mod_lt _ (by omega)
    rw [hmm]
    refine ⟨by omega, ixl_nat hms (x := .int (ms[i % m]'(by omega))) (by rw [List.getElem?_map, List.getElem?_eq_getElem (by omega)]; rfl) ?_⟩
    walk_at "ev102"
    refine ⟨mulR (by omega), by omega, ?_⟩
    rw [e_gSt (j := i % m) hms (by unfold ixN; rw [List.length_map, if_pos (by omega), if_pos (by omega), Int.toNat_natCast])]
    refine hK _ _ ⟨⟨_, _, rfl⟩, hl.put hp1, ?_, ms.set (i % m) (ms[i % m]'(by omega) + c * ((i : Int) + 2)), ?_, ?_⟩
    · rw [put_ne n12, hp]
    · rw [put_same, set_int]
    · rw [List.length_set, hlen, List.length_take, Nat.min_eq_left (by omega)]
  · rintro e l ⟨⟨z3, z4, rfl⟩, hl, hp, ms, hms, hlen⟩
    exact folded_end hp1 hl hms (by rw [hlen, List.length_take]; omega) h
def All2 (r : PV → PV → Prop) : List PV → List PV → Prop
  | [], [] => True
  | x :: xs, y :: ys => r x y ∧ All2 r xs ys
  | _, _ => False
def Sm (L : Sto) : Nat → PV → PV → Prop
  | 0, _, _ => False
  | n + 1, x, y => match x, y with
    | .non, .non => True
    | .bl a, .bl b => a = b
    | .int a, .int b => a = b
    | .str a, .str b => a = b ∧ SeqAt.shaped (.str a) = true
    | .tup xs, .tup ys => xs.length ≤ 1000000 ∧ All2 (Sm L n) xs ys
    | .ref a, .ref b => ∃ xs ys, L a = some (.l xs) ∧ L b = some (.l ys) ∧ xs.length ≤ 1000000 ∧ All2 (Sm L n) xs ys
    | _, _ => False
theorem All2.mono {r s : PV → PV → Prop} (h : ∀ x y, r x y → s x y) : ∀ {xs ys : List PV}, All2 r xs ys → All2 s xs ys
  | [], [], _ => trivial
  | _ :: _, _ :: _, ⟨a, b⟩ => ⟨h _ _ a, b.mono h⟩
  | [], _ :: _, h => h.elim
  | _ :: _, [], h => h.elim
theorem All2.get {r : PV → PV → Prop} : ∀ {xs ys : List PV} {i : Nat} {x y : PV}, All2 r xs ys → xs[i]? = some x → ys[i]? = some y → r x y
  | _ :: _, _ :: _, 0, _, _, h, e, f => by cases e; cases f; exact h.1
  | _ :: _, _ :: _, i + 1, _, _, h, e, f => h.2.get (i := i) (by simpa using e) (by simpa using f)
  | [], _, _, _, _, _, e, _ => by simp at e
  | _ :: _, [], _, _, _, h, _, _ => h.elim
theorem All2.map {α : Type} {r : PV → PV → Prop} {f g : α → PV} (h : ∀ a, r (f a) (g a)) : ∀ xs : List α, All2 r (xs.map f) (xs.map g)
  | [] => trivial
  | a :: xs => ⟨h a, All2.map h xs⟩
theorem Sm.le {L L' : Sto} (hl : Le L L') : ∀ {n : Nat} {x y : PV}, Sm L n x y → Sm L' n x y
  | 0, _, _, h => h.elim
  | n + 1, x, y, h => by
    have ih := fun x y => Sm.le hl (n := n) (x := x) (y := y)
    cases x <;> cases y <;> first | exact h | skip
    · obtain ⟨xs, ys, h1, h2, h3, h4⟩ := h
      exact ⟨xs, ys, hl _ _ h1, hl _ _ h2, h3, h4.mono ih⟩
    · exact ⟨h.1, All2.mono ih h.2⟩
theorem Sm.fr {L : Sto} {n : Nat} {p q : Rat} (h : p = q) : Sm L (n + 2) (fr p) (fr q) := by
  subst h
  exact ⟨by show 2 ≤ 1000000; decide, rfl, rfl, trivial⟩
theorem fr_int {n : Int} : PV.tup [.int n, .int 1] = fr (n : Rat) := rfl
theorem denS {d : Int} (h : d.natAbs < 2 ^ 64) : DenOk d := DenOk.of h (by decide)
theorem szd {n d : Int} (hd : d ≠ 0) (h1 : n.natAbs < 16384) (h2 : d.natAbs < 16384) : Sz 14 ((n : Rat) / (d : Rat)) := Sz.of hd h1 h2
theorem LeB.le {b : Addr} {L La : Sto} (h : LeB b L La) {p : Addr} {o : SO} (hp : La p = none) : LeB b L (Mp.put La p o) := fun a u n e => by
  rw [put_ne (ne_adr hp (h a u n e))]
  exact h a u n e
theorem Bx.new {b p : Addr} {n : Int} {L : Sto} {o : SO} (h : Bx b n L) (hp : L p = none) : Bx b n (put L p o) := h.le (Le.new hp)
theorem hand_rng {r : Int} (h0 : 0 ≤ r) (h1 : r < 2) : 1 - 2 * r = 1 ∨ 1 - 2 * r = -1 := by omega
theorem hand_abs {h r : Int} {c : Nat} (hh : h = 1 ∨ h = -1) (h0 : 0 ≤ r) (h1 : r < c) : (h * r).natAbs < c := by
  rcases hh with rfl | rfl <;> omega
def numB (L : Sto) : PV → Option Bool
  | .int _ => some true
  | .bl _ | .non | .str _ | .tup _ | .fz _ => some false
  | .ref a => (L a).map fun _ => false
  | .ty _ => none
def s_is_number : Spec := fun args L R => ∃ x b, args = [x] ∧ numB L x = some b ∧ R (.bl b) L
def d_is_number_0 : WS := sRet (wAnd (wBi gIsi [wVar 0, wC (.ty "int")]) (wUn oNot (wBi gIsi [wVar 0, wC (.ty "bool")])))
theorem isi_rd {L : Sto} {R : PK} {p : Addr} {o : SO} (h : L p = some o) : gIsi [.ref p, .ty "int"] L R = R (.bl false) L := by
  cases o
  · rw [isi_rl_int h]
  · rw [isi_rd_int h]
  · rw [isi_rT_int h]
theorem ok_is_number : ∀ args L R, args.length = 1 → s_is_number args L R → d_is_number_0 (initE 1 args) L { nx := fun _ L' => R .non L', rt := R } := by
  rintro _ L R hl0 ⟨x, b, rfl, hb, h⟩
  clear hl0
  unfold d_is_number_0
  show sRet _ [some x] L _
  cases x <;> first | (cases hb; walk_at "ev102"; exact h) | skip
  · rename_i a
    have hb : (L a).map (fun _ => false) = some b := hb
    cases e : L a with
    | none => rw [e] at hb; cases hb
    | some o =>
      rw [e] at hb
      cases hb
      walk_at "ev102"
      rw [isi_rd e]
      exact h
  · cases hb
def fracB (L : Sto) : PV → Option Bool
  | .tup [a, b] => match numB L a, numB L b, a, b with
    | some false, _, _, _ => some false
    | some true, some false, _, _ => some false
    | some true, some true, .int n, .int d => some (decide (1 ≤ d) && decide (Nat.gcd n.natAbs d.natAbs = 1))
    | _, _, _, _ => none
  | .tup _ => some false
  | .ref p => (L p).map fun _ => false
  | .ty _ => none
  | _ => some false
def s_is_fraction : Spec := fun args L R => ∃ x b, args = [x] ∧ fracB L x = some b ∧ R (.bl b) L
def d_is_fraction_1 : WS := sRet (wAnd (wBin oGe (wBin oIx (wVar 0) (wC (.int 1))) (wC (.int 1))) (wBin oEq (wCall s_divisor_of [wBi gAbs [wBin oIx (wVar 0) (wC (.int 0))], wBin oIx (wVar 0) (wC (.int 1))]) (wC (.int 1))))
def d_is_fraction_0a_0 : WS := sRet (wC (.bl false))
def d_is_fraction_0 : WS := sSeq (sIf (wOr (wUn oNot (wBi gIsi [wVar 0, wC (.ty "tuple")])) (wOr (wBin oNe (wBi gLen [wVar 0]) (wC (.int 2))) (wOr (wUn oNot (wCall s_is_number [wBin oIx (wVar 0) (wC (.int 0))])) (wUn oNot (wCall s_is_number [wBin oIx (wVar 0) (wC (.int 1))]))))) d_is_fraction_0a_0 sNil) d_is_fraction_1
theorem isi_rt {L : Sto} {R : PK} {p : Addr} {o : SO} (h : L p = some o) : gIsi [.ref p, .ty "tuple"] L R = R (.bl false) L := by
  cases o
  · rw [isi_rl_tuple h]
  · rw [isi_rd_tuple h]
  · rw [isi_rT_tuple h]
theorem ok_is_fraction : ∀ args L R, args.length = 1 → s_is_fraction args L R → d_is_fraction_0 (initE 1 args) L { nx := fun _ L' => R .non L', rt := R } := by
  rintro _ L R hl0 ⟨x, b, rfl, hb, h⟩
  clear hl0
  unfold d_is_fraction_0 d_is_fraction_0a_0
  show sSeq _ _ [some x] L _
  cases x with
  | non => cases hb; walk_at "ev102"; exact h
  | bl u => cases hb; walk_at "ev102"; exact h
  | int u => cases hb; walk_at "ev102"; exact h
  | str u => cases hb; walk_at "ev102"; exact h
  | fz u => cases hb; walk_at "ev102"; exact h
  | ty u => cases hb
  | ref p =>
    have hb : (L p).map (fun _ => false) = some b := hb
    cases e : L p with
    | none => rw [e] at hb; cases hb
    | some o =>
      rw [e] at hb
      cases hb
      walk_at "ev102"
      rw [isi_rt e]
      walk_at "ev102"
      exact h
  | tup xs =>
    match xs, hb with
    | [], hb => cases hb; walk_at "ev102"; exact h
    | [a], hb => cases hb; walk_at "ev102"; exact h
    | a :: c :: d :: r, hb =>
      cases hb
      walk_at "ev102"
      rw [if_neg (by rw [List.length_cons, List.length_cons, List.length_cons]; omega)]
      exact h
    | [a, c], hb =>
      walk_at "ev102"
      rw [if_pos (show (([a, c] : List PV).length : Int) = 2 from rfl)]
      cases ha : numB L a with
      | none => simp only [fracB, ha] at hb; cases hb
      | some u =>
      refine ⟨a, u, rfl, ha, ?_⟩
      cases u with
      | false =>
        simp only [fracB, ha] at hb
        cases hb
        walk_at "ev102"
        exact h
      | true =>
      walk_at "ev102"
      cases hc : numB L c with
      | none => simp only [fracB, ha, hc] at hb; cases hb
      | some u =>
      refine ⟨c, u, rfl, hc, ?_⟩
      cases u with
      | false =>
        simp only [fracB, ha, hc] at hb
        cases hb
        walk_at "ev102"
        exact h
      | true =>
        have ia : ∃ n, a = .int n := by cases a <;> first | exact ⟨_, rfl⟩ | (simp [numB] at ha)
        have ic : ∃ n, c = .int n := by cases c <;> first | exact ⟨_, rfl⟩ | (simp [numB] at hc)
        obtain ⟨n, rfl⟩ := ia
        obtain ⟨d, rfl⟩ := ic
        walk_at "ev102"
        have hb : some (decide (1 ≤ d) && decide (Nat.gcd n.natAbs d.natAbs = 1)) = some b := hb
        cases hb
        unfold d_is_fraction_1
        walk_at "ev102"
        by_cases hd : 1 ≤ d
        · rw [if_pos hd]
          obtain ⟨m, rfl⟩ := Int.eq_ofNat_of_zero_le (show 0 ≤ d by omega)
          refine ⟨n.natAbs, m, rfl, ?_⟩
          walk_at "ev102"
          rw [decide_eq_true hd, Bool.true_and] at h
          have e : decide (((Nat.gcd n.natAbs m : Nat) : Int) = 1) = decide (Nat.gcd n.natAbs ((m : Int)).natAbs = 1) := decide_eq_decide.mpr ⟨fun z => by rw [Int.natAbs_natCast]; omega, fun z => by rw [Int.natAbs_natCast] at z; omega⟩
          rw [e]
          exact h
        · rw [if_neg hd]
          rw [decide_eq_false hd, Bool.false_and] at h
          exact h
end
section
open PySem PySem.Spec PyProof.Rows L2
def s_whole_root : Spec := fun args L R => ∃ n b : Nat, args = [.int n] ∧ n < 2 ^ b ∧ b ≤ 60000000 ∧ ∀ r : Nat, r * r ≤ n → n < (r + 1) * (r + 1) → R (.int r) L
def d_whole_root_2 : WS := sRet (wVar 1)
def d_whole_root_1w_1a_0 : WS := sAsg (gN 1) (wVar 3)
def d_whole_root_1w_1b_0 : WS := sAsg (gN 2) (wVar 3)
def d_whole_root_1w_1 : WS := sIf (wBin oLe (wBin oMul (wVar 3) (wVar 3)) (wVar 0)) d_whole_root_1w_1a_0 d_whole_root_1w_1b_0
def d_whole_root_1w_0 : WS := sSeq (sAsg (gN 3) (wBin oDiv (wBin oAdd (wVar 1) (wVar 2)) (wC (.int 2)))) d_whole_root_1w_1
def d_whole_root_1 : WS := sSeq (sWhile (wBin oGt (wBin oSub (wVar 2) (wVar 1)) (wC (.int 1))) d_whole_root_1w_0) d_whole_root_2
def d_whole_root_0 : WS := sSeq (sPar [1, 2] [wC (.int 0), wBin oAdd (wVar 0) (wC (.int 1))]) d_whole_root_1
def d_root_of_3 : WS := sRet (wTup [wVar 1, wVar 2])
def d_root_of_2a_0 : WS := sRet (wC .non)
def d_root_of_2 : WS := sSeq (sIf (wOr (wBin oNe (wBin oMul (wVar 1) (wVar 1)) (wBin oIx (wVar 0) (wC (.int 0)))) (wBin oNe (wBin oMul (wVar 2) (wVar 2)) (wBin oIx (wVar 0) (wC (.int 1))))) d_root_of_2a_0 sNil) d_root_of_3
def d_root_of_1 : WS := sSeq (sPar [1, 2] [wCall s_whole_root [wBin oIx (wVar 0) (wC (.int 0))], wCall s_whole_root [wBin oIx (wVar 0) (wC (.int 1))]]) d_root_of_2
def d_root_of_0a_0 : WS := sRet (wC .non)
def d_root_of_0 : WS := sSeq (sIf (wBin oLt (wBin oIx (wVar 0) (wC (.int 0))) (wC (.int 0))) d_root_of_0a_0 sNil) d_root_of_1
theorem noPl2 {i : Int} : NoPl i 2 := noPlS (by decide)
theorem half_nat (a : Nat) : ((a : Int)).fdiv 2 = ((a / 2 : Nat) : Int) := by rw [fd_pos (by decide)]; rfl
theorem mulN {a b c : Nat} (ha : a < 2 ^ c) (hb : b < 2 ^ c) (h : c ≤ 60000000) : MulOk a b := mulOk c c (by rw [Int.natAbs_natCast]; exact ha) (by rw [Int.natAbs_natCast]; exact hb) (by omega)
theorem ok_whole_root : ∀ args L R, args.length = 1 → s_whole_root args L R → d_whole_root_0 (initE 4 args) L { nx := fun _ L' => R .non L', rt := R } := by
  rintro _ L R _ ⟨n, b, rfl, hb, hb', h⟩
  unfold d_whole_root_0
  show sSeq _ _ [some (.int n), none, none, none] L _
  walk_at "ev102"
  unfold d_whole_root_1
  walk_at "ev102"
  refine ⟨fun m env L' => L' = L ∧ ∃ (lo hi : Nat) (z : Option PV), env = [some (.int n), some (.int lo), some (.int hi), z] ∧ lo * lo ≤ n ∧ n < hi * hi ∧ hi ≤ n + 1 ∧ lo < hi ∧ m = hi - lo, ⟨n + 1, rfl, 0, n + 1, none, rfl, Nat.zero_le _, ?_, Nat.le_refl _, by omega, by omega⟩, ?_⟩
  · exact Nat.lt_of_lt_of_le (Nat.lt_succ_self n) (Nat.le_mul_of_pos_left _ (by omega))
  rintro m env _ ⟨rfl, lo, hi, z, rfl, h1, h2, h3, h4, rfl⟩
  walk_at "ev102"
  split
  · rename_i hc
    unfold d_whole_root_1w_0
    walk_at "ev102"
    refine ⟨by decide, noPl2, ?_⟩
    rw [← Int.natCast_add, half_nat]
    unfold d_whole_root_1w_1 d_whole_root_1w_1a_0 d_whole_root_1w_1b_0
    walk_at "ev102"
    have hm : (lo + hi) / 2 < 2 ^ b := by omega
    refine ⟨mulN hm hm hb', ?_⟩
    have ec : ((((lo + hi) / 2 : Nat) : Int) * (((lo + hi) / 2 : Nat) : Int) ≤ (n : Int)) ↔ (lo + hi) / 2 * ((lo + hi) / 2) ≤ n := by
      rw [← Int.natCast_mul]; omega
    split
    · rename_i hq
      exact ⟨hi - (lo + hi) / 2, by omega, (lo + hi) / 2, hi, _, rfl, ec.mp hq, h2, h3, by omega, rfl⟩
    · rename_i hq
      exact ⟨(lo + hi) / 2 - lo, by omega, lo, (lo + hi) / 2, _, rfl, h1, Nat.lt_of_not_le fun z => hq (ec.mpr z), by omega, by omega, rfl⟩
  · rename_i hc
    unfold d_whole_root_2
    walk_at "ev102"
    have e : hi = lo + 1 := by omega
    subst e
    exact h lo h1 h2
theorem sq_num (r : Rat) : (r * r).num = r.num * r.num ∧ (r * r).den = r.den * r.den := by
  have hc : Nat.Coprime (r.num * r.num).natAbs (r.den * r.den) := by
    rw [Int.natAbs_mul]
    exact Nat.Coprime.mul_left (Nat.Coprime.mul_right r.reduced r.reduced) (Nat.Coprime.mul_right r.reduced r.reduced)
  have e : (⟨r.num * r.num, r.den * r.den, Nat.mul_ne_zero r.den_nz r.den_nz, hc⟩ : Rat) = r * r := by
    have := num_den ⟨r.num * r.num, r.den * r.den, Nat.mul_ne_zero r.den_nz r.den_nz, hc⟩
    rw [this]
    show ((r.num * r.num : Int) : Rat) / (((r.den * r.den : Nat) : Int) : Rat) = _
    rw [Int.natCast_mul]
    exact mul_eq r r
  rw [← e]
  exact ⟨rfl, rfl⟩
/-- what root_of tells of q -/
def RootIs (q : Rat) (x : PV) : Prop := (x = .non ∧ ∀ r : Rat, r * r ≠ q) ∨ ∃ r : Rat, x = fr r ∧ 0 ≤ r ∧ r * r = q
theorem root_mk {q : Rat} {a b : Nat} (ha : (a : Int) * a = q.num) (hb : b * b = q.den) : ∃ r : Rat, .tup [.int a, .int b] = fr r ∧ 0 ≤ r ∧ r * r = q := by
  have hb0 : b ≠ 0 := fun e => q.den_nz (by rw [← hb, e])
  have hc : Nat.Coprime a b := by
    have := q.reduced
    rw [← ha, ← hb, Int.natAbs_mul, Int.natAbs_natCast] at this
    have h1 : Nat.gcd a b ∣ Nat.gcd (a * a) (b * b) := Nat.dvd_gcd (Nat.dvd_trans (Nat.gcd_dvd_left _ _) (Nat.dvd_mul_left _ _)) (Nat.dvd_trans (Nat.gcd_dvd_right _ _) (Nat.dvd_mul_left _ _))
    rw [show Nat.gcd (a * a) (b * b) = 1 from this] at h1
    exact Nat.dvd_one.mp h1
  refine ⟨⟨a, b, hb0, hc⟩, rfl, ?_, ?_⟩
  · rw [← Rat.num_nonneg]
    exact Int.natCast_nonneg a
  · have h := sq_num ⟨a, b, hb0, hc⟩
    exact Rat.ext (h.1.trans ha) (h.2.trans hb)
theorem root_no {q r : Rat} (h : r * r = q) : q.num = r.num * r.num ∧ q.den = r.den * r.den := by rw [← h]; exact sq_num r
theorem sqrt_uniq {a n r : Nat} (h1 : a * a ≤ n) (h2 : n < (a + 1) * (a + 1)) (h : r * r = n) : r = a := by
  subst h
  have h3 : a ≤ r := Nat.mul_self_le_mul_self_iff.mp h1
  have h4 : r < a + 1 := Nat.mul_self_lt_mul_self_iff.mp h2
  omega
theorem natAbs_sq (i : Int) : ((i.natAbs * i.natAbs : Nat) : Int) = i * i := by rw [Int.natCast_mul]; exact Int.natAbs_mul_self' i
def s_root_of : Spec := fun args L R => ∃ q : Rat, args = [fr q] ∧ SzB q ∧ ∀ x, RootIs q x → R x L
theorem ok_root_of : ∀ args L R, args.length = 1 → s_root_of args L R → d_root_of_0 (initE 3 args) L { nx := fun _ L' => R .non L', rt := R } := by
  rintro _ L R _ ⟨q, rfl, hq, h⟩
  unfold d_root_of_0 d_root_of_0a_0
  show sSeq _ _ [some (fr q), none, none] L _
  walk_at "ev102"
  split
  · rename_i hn
    refine h _ (.inl ⟨rfl, fun r hr => ?_⟩)
    have := (root_no hr).1
    have := natAbs_sq r.num
    omega
  · rename_i hn
    obtain ⟨n, hnn⟩ := Int.eq_ofNat_of_zero_le (show 0 ≤ q.num by omega)
    unfold d_root_of_1
    walk_at "ev102"
    refine ⟨n, 4000, by rw [hnn], by have := hq.1; rw [hnn] at this; exact this, by decide, fun a a1 a2 => ?_⟩
    walk_at "ev102"
    refine ⟨q.den, 4000, rfl, hq.2, by decide, fun b b1 b2 => ?_⟩
    walk_at "ev102"
    unfold d_root_of_2 d_root_of_2a_0 d_root_of_3
    walk_at "ev102"
    have ha : a < 2 ^ 4000 := Nat.lt_of_le_of_lt (Nat.le_trans (Nat.le_mul_self a) a1) (by have := hq.1; rw [hnn] at this; exact this)
    have hb : b < 2 ^ 4000 := Nat.lt_of_le_of_lt (Nat.le_trans (Nat.le_mul_self b) b1) hq.2
    refine ⟨mulN ha ha (by decide), ?_⟩
    by_cases e1 : (a : Int) * a = q.num
    · rw [if_pos e1]
      refine ⟨mulN hb hb (by decide), ?_⟩
      by_cases e2 : (b : Int) * b = q.den
      · rw [if_pos e2]
        obtain ⟨r, hr, h0, h1⟩ := root_mk e1 (by exact_mod_cast e2)
        rw [hr]
        exact h _ (.inr ⟨r, rfl, h0, h1⟩)
      · rw [if_neg e2]
        refine h _ (.inl ⟨rfl, fun r hr => e2 ?_⟩)
        have h3 := (root_no hr).2
        have := sqrt_uniq b1 b2 h3.symm
        rw [← this, h3, Int.natCast_mul]
    · rw [if_neg e1]
      refine h _ (.inl ⟨rfl, fun r hr => e1 ?_⟩)
      have h3 := (root_no hr).1
      have h4 : r.num.natAbs * r.num.natAbs = n := by
        have := natAbs_sq r.num
        rw [← h3, hnn] at this
        exact_mod_cast this
      have := sqrt_uniq a1 a2 h4
      rw [← this, h3]
      exact Int.natAbs_mul_self' _
theorem RootIs.uniq {q : Rat} {x y : PV} (hx : RootIs q x) (hy : RootIs q y) : x = y := by
  rcases hx with ⟨rfl, h1⟩ | ⟨r, rfl, h0, h1⟩ <;> rcases hy with ⟨rfl, h2⟩ | ⟨s, rfl, h3, h2⟩
  · rfl
  · exact absurd h2 (h1 s)
  · exact absurd h1 (h2 r)
  · have : r = s := by
      have h : (r - s) * (r + s) = 0 := by grind
      rcases Rat.mul_eq_zero.mp h with h | h
      · grind
      · have h5 : r = 0 := by grind
        have h6 : s = 0 := by grind
        rw [h5, h6]
    rw [this]
theorem rgL_get {lo : Int} {n i : Nat} {t : PV} (h : (rgL lo n)[i]? = some t) : t = .int (lo + (i : Nat)) ∧ i < n := by
  have hi := (List.getElem?_eq_some_iff.mp h).1
  unfold rgL at h hi
  rw [List.length_map, List.length_range] at hi
  rw [List.getElem?_map, List.getElem?_range hi] at h
  cases h
  exact ⟨rfl, hi⟩
theorem Sz.B {a : Nat} {q : Rat} (h : Sz a q) (ha : a ≤ 4000) : SzB q := h.mono ha
end
section
open PySem PySem.Spec PyProof.Rows L2
abbrev Vc := Rat × Rat
def vc (p : Vc) : PV := .tup [fr p.1, fr p.2]
theorem vx0 {p : Vc} {L : Sto} {R : PK} : oIx (vc p) (.int 0) L R = R (fr p.1) L := ix0
theorem vx1 {p : Vc} {L : Sto} {R : PK} : oIx (vc p) (.int 1) L R = R (fr p.2) L := ix1
theorem vc_mk {x y : Rat} : PV.tup [fr x, fr y] = vc (x, y) := rfl
theorem frz (n : Int) : .tup [.int n, .int 1] = fr (n : Rat) := rfl
def SzV (b : Nat) (p : Vc) : Prop := Sz b p.1 ∧ Sz b p.2
theorem SzV.mono {a b : Nat} {p : Vc} (h : SzV a p) (hb : a ≤ b) : SzV b p := ⟨h.1.mono hb, h.2.mono hb⟩
def vadd (p q : Vc) : Vc := (p.1 + q.1, p.2 + q.2)
def vsub (p q : Vc) : Vc := (p.1 - q.1, p.2 - q.2)
def vscl (p : Vc) (k : Rat) : Vc := (p.1 * k, p.2 * k)
def vdot (p q : Vc) : Rat := p.1 * q.1 + p.2 * q.2
def vcrs (p q : Vc) : Rat := p.1 * q.2 - p.2 * q.1
def vlft (p : Vc) : Vc := (0 - p.2, p.1)
theorem SzV.add {a b : Nat} {p q : Vc} (h : SzV a p) (k : SzV b q) : SzV (a + b + 1) (vadd p q) := ⟨h.1.add k.1, h.2.add k.2⟩
theorem SzV.sub {a b : Nat} {p q : Vc} (h : SzV a p) (k : SzV b q) : SzV (a + b + 1) (vsub p q) := ⟨h.1.sub k.1, h.2.sub k.2⟩
theorem SzV.scl {a b : Nat} {p : Vc} {q : Rat} (h : SzV a p) (k : Sz b q) : SzV (a + b) (vscl p q) := ⟨h.1.mul k, h.2.mul k⟩
theorem SzV.dot {a b : Nat} {p q : Vc} (h : SzV a p) (k : SzV b q) : Sz (a + b + (a + b) + 1) (vdot p q) := (h.1.mul k.1).add (h.2.mul k.2)
def s_plus : Spec := fun args L R => ∃ p q, args = [vc p, vc q] ∧ SzV 4000 p ∧ SzV 4000 q ∧ R (vc (vadd p q)) L
def s_minus : Spec := fun args L R => ∃ p q, args = [vc p, vc q] ∧ SzV 4000 p ∧ SzV 4000 q ∧ R (vc (vsub p q)) L
def s_scaled : Spec := fun args L R => ∃ p k, args = [vc p, fr k] ∧ SzV 4000 p ∧ Sz 4000 k ∧ R (vc (vscl p k)) L
def s_dot : Spec := fun args L R => ∃ p q, args = [vc p, vc q] ∧ SzV 1900 p ∧ SzV 1900 q ∧ R (fr (vdot p q)) L
def d_minus_0 : WS := sRet (wTup [wCall s_taken [wBin oIx (wVar 0) (wC (.int 0)), wBin oIx (wVar 1) (wC (.int 0))], wCall s_taken [wBin oIx (wVar 0) (wC (.int 1)), wBin oIx (wVar 1) (wC (.int 1))]])
def d_dot_0 : WS := sRet (wCall s_added [wCall s_times [wBin oIx (wVar 0) (wC (.int 0)), wBin oIx (wVar 1) (wC (.int 0))], wCall s_times [wBin oIx (wVar 0) (wC (.int 1)), wBin oIx (wVar 1) (wC (.int 1))]])
local macro_rules | `(tactic| walk_at "ev") => `(tactic| try simp only [vx0, vx1, if_true, if_false, decide_true, decide_false, Bool.not_true, Bool.not_false, Bool.false_eq_true, reduceCtorEq, e_gS, e_gT, e_gsL0, e_gsL1, e_gsN0, e_gsN1, e_r1, e_r1K, e_r2, e_r2K, e_any, e_lsT, e_zpT, e_enT, e_en, e_zp, e_lzip, e_z3, e_revt, e_tru, tru_bl, tru_int, tru_non, tru_tup, e_disp, e_prs0, e_prs1, List.zip_nil_left, e_rv, e_for, e_comp, e_mt, e_wipe0, e_wipe1, fr0, fr1, ix0, ix1, ix2, ix3, bIf_t, bIf_f, bIf_d, bIf_n, oEq_ii, oNe_ii, oEq_bb, oNe_bb, List.set_cons_zero, List.set_cons_succ, List.zip_cons_cons, List.zip_nil_right, List.foldl_cons, List.foldl_nil, e_add, e_addI, e_addt, e_addl, e_sub, e_mul, e_div, e_mod, e_pow, e_oI, e_neg, e_not, e_isn, e_isnn, e_isb, e_isnb, e_isN_non, e_isN_bl, e_isN_int, e_isN_tup, e_isN_ref, e_isN_fz, e_isN_fr, e_isN_str, e_lent, e_lenz, e_abs, e_int, e_intb, e_dvm, e_min, e_max, e_listt, e_listz, e_tupt, e_str, gv_0, gv_s, e_slt, e_slz, e_v0, e_v1, e_v2, e_v3, e_v4, e_v5, e_v6, e_v7, e_v8, e_v9, e_v10, e_v11, e_v12, e_v13, e_v14, e_v15, e_v16, e_v17, e_v18, e_v19, e_v20, e_v21, e_v22, e_v23, e_v24, e_v25, e_v26, e_v27, e_v28, e_v29, e_v30, e_v31, e_v32, e_v33, e_v34, e_v35, e_v36, e_v37, e_v38, e_v39, e_ar0, e_ar1, e_gN, e_par, e_c, e_bin, e_un, e_and, e_or, e_ife, e_chain, e_tup, e_lst, e_bi, e_call, e_sl, e_no, e_so, e_nil, e_seq, e_expr, e_ret, e_retn, e_asg, e_if, e_brk, e_cnt, sz_0, sz_1, sz_2, sz_3, sz_4, sz_5, sz_6, sz_7, sz_8, sz_9, sz_10, sz_11, sz_12, sz_13, sz_14, sz_15, sz_16, sz_17, sz_18, sz_19, true_and, isi_non_int, isi_non_bool, isi_non_str, isi_non_tuple, isi_non_list, isi_non_dict, isi_bl_int, isi_bl_bool, isi_bl_str, isi_bl_tuple, isi_bl_list, isi_bl_dict, isi_int_int, isi_int_bool, isi_int_str, isi_int_tuple, isi_int_list, isi_int_dict, isi_str_int, isi_str_bool, isi_str_str, isi_str_tuple, isi_str_list, isi_str_dict, isi_tup_int, isi_tup_bool, isi_tup_str, isi_tup_tuple, isi_tup_list, isi_tup_dict, isi_fz_int, isi_fz_bool, isi_fz_str, isi_fz_tuple, isi_fz_list, isi_fz_dict])
theorem ok_minus : ∀ args L R, args.length = 2 → s_minus args L R → d_minus_0 (initE 2 args) L { nx := fun _ L' => R .non L', rt := R } := by
  rintro _ L R _ ⟨p, q, rfl, hp, hq, h⟩
  unfold d_minus_0
  show sRet _ [some (vc p), some (vc q)] L _
  walk_at "ev"
  refine ⟨_, _, rfl, hp.1, hq.1, _, _, rfl, hp.2, hq.2, ?_⟩
  walk_at "ev"
  exact h
theorem ok_dot : ∀ args L R, args.length = 2 → s_dot args L R → d_dot_0 (initE 2 args) L { nx := fun _ L' => R .non L', rt := R } := by
  rintro _ L R _ ⟨p, q, rfl, hp, hq, h⟩
  unfold d_dot_0
  show sRet _ [some (vc p), some (vc q)] L _
  walk_at "ev"
  exact ⟨_, _, rfl, hp.1.B (by decide), hq.1.B (by decide), _, _, rfl, hp.2.B (by decide), hq.2.B (by decide), _, _, rfl, (hp.1.mul hq.1).B (by decide), (hp.2.mul hq.2).B (by decide), h⟩
theorem Sm.vc {L : Sto} {n : Nat} {p q : Vc} (h : p = q) : Sm L (n + 3) (vc p) (vc q) := by
  subst h
  exact ⟨by show 2 ≤ 1000000; decide, .fr rfl, .fr rfl, trivial⟩
end
section
open PySem PySem.Spec PyProof.Rows L2
theorem fr_inj {p q : Rat} : (p = q) ↔ (p.num = q.num ∧ (p.den : Int) = q.den) := ⟨fun h => by rw [h]; exact ⟨rfl, rfl⟩, fun h => Rat.ext h.1 (by omega)⟩
def dfr (q : Rat) : PyData := .tuple [.int q.num, .int q.den]
def dvc (p : Vc) : PyData := .tuple [dfr p.1, dfr p.2]
theorem PD.fr {L : Sto} {q : Rat} : PD L (Mp.fr q) (dfr q) := .tup (.cons (.int _) (.cons (.int _) .nil))
theorem PD.vc {L : Sto} {p : Vc} : PD L (Mp.vc p) (dvc p) := .tup (.cons .fr (.cons .fr .nil))
theorem eqv_fr {p q : Rat} : PyData.eqv (dfr p) (dfr q) = decide (p = q) := by
  have h : PyData.eqv (dfr p) (dfr q) = (decide (p.num = q.num) && (decide ((p.den : Int) = q.den) && true)) := rfl
  rw [h, Bool.and_true, ← Bool.decide_and]
  exact decide_eq_decide.mpr fr_inj.symm
theorem eqv_vc {p q : Vc} : PyData.eqv (dvc p) (dvc q) = decide (p = q) := by
  have h : PyData.eqv (dvc p) (dvc q) = (PyData.eqv (dfr p.1) (dfr q.1) && (PyData.eqv (dfr p.2) (dfr q.2) && true)) := rfl
  rw [h, eqv_fr, eqv_fr, Bool.and_true, ← Bool.decide_and]
  exact decide_eq_decide.mpr (Prod.ext_iff.symm)
section
variable {L : Sto} {R : PK} {p q : Rat} {u v : Vc}
theorem PD_fr_uniq {d : PyData} (h : PD L (Mp.fr p) d) : d = dfr p := by
  match h with
  | .tup (.cons (.int _) (.cons (.int _) .nil)) => rfl
theorem PD_vc_uniq {d : PyData} (h : PD L (Mp.vc u) d) : d = dvc u := by
  match h with
  | .tup (.cons a (.cons b .nil)) => rw [PD_fr_uniq a, PD_fr_uniq b]; rfl
theorem oEq_ff : oEq (fr p) (fr q) L R = R (.bl (decide (p = q))) L := by
  refine propext ⟨?_, fun h => ⟨_, _, .fr, .fr, rfl, rfl, by rw [eqv_fr]; exact h⟩⟩
  rintro ⟨d, e, h1, h2, _, _, h⟩
  rw [PD_fr_uniq h1, PD_fr_uniq h2, eqv_fr] at h
  exact h
theorem oNe_ff : oNe (fr p) (fr q) L R = R (.bl (!decide (p = q))) L := by
  refine propext ⟨?_, fun h => ⟨_, _, .fr, .fr, rfl, rfl, by rw [eqv_fr]; exact h⟩⟩
  rintro ⟨d, e, h1, h2, _, _, h⟩
  rw [PD_fr_uniq h1, PD_fr_uniq h2, eqv_fr] at h
  exact h
theorem oEq_vv : oEq (vc u) (vc v) L R = R (.bl (decide (u = v))) L := by
  refine propext ⟨?_, fun h => ⟨_, _, .vc, .vc, rfl, rfl, by rw [eqv_vc]; exact h⟩⟩
  rintro ⟨d, e, h1, h2, _, _, h⟩
  rw [PD_vc_uniq h1, PD_vc_uniq h2, eqv_vc] at h
  exact h
theorem oNe_vv : oNe (vc u) (vc v) L R = R (.bl (!decide (u = v))) L := by
  refine propext ⟨?_, fun h => ⟨_, _, .vc, .vc, rfl, rfl, by rw [eqv_vc]; exact h⟩⟩
  rintro ⟨d, e, h1, h2, _, _, h⟩
  rw [PD_vc_uniq h1, PD_vc_uniq h2, eqv_vc] at h
  exact h
end
theorem e_gTv {p : Vc} {env : Env} {L : Sto} {gs : WGs} {R : Env → Sto → Prop} : gT 2 gs (vc p) env L R = gs [fr p.1, fr p.2] env L R := propext ⟨fun h => h.2, fun h => ⟨rfl, h⟩⟩
theorem fr_zero : PV.tup [.int 0, .int 1] = fr 0 := rfl
local macro_rules | `(tactic| walk_at "ev") => `(tactic| try simp only [oEq_ff, oNe_ff, oEq_vv, oNe_vv, e_gTv, vc_mk, vx0, vx1, if_true, if_false, decide_true, decide_false, Bool.not_true, Bool.not_false, Bool.false_eq_true, reduceCtorEq, e_gS, e_gT, e_gsL0, e_gsL1, e_gsN0, e_gsN1, e_r1, e_r1K, e_r2, e_r2K, e_any, e_lsT, e_zpT, e_enT, e_en, e_zp, e_lzip, e_z3, e_revt, e_tru, tru_bl, tru_int, tru_non, tru_tup, e_disp, e_prs0, e_prs1, List.zip_nil_left, e_rv, e_for, e_comp, e_mt, e_wipe0, e_wipe1, fr0, fr1, ix0, ix1, ix2, ix3, bIf_t, bIf_f, bIf_d, bIf_n, oEq_ii, oNe_ii, oEq_bb, oNe_bb, List.set_cons_zero, List.set_cons_succ, List.zip_cons_cons, List.zip_nil_right, List.foldl_cons, List.foldl_nil, e_add, e_addI, e_addt, e_addl, e_sub, e_mul, e_div, e_mod, e_pow, e_oI, e_neg, e_not, e_isn, e_isnn, e_isb, e_isnb, e_isN_non, e_isN_bl, e_isN_int, e_isN_tup, e_isN_ref, e_isN_fz, e_isN_fr, e_isN_str, e_lent, e_lenz, e_abs, e_int, e_intb, e_dvm, e_min, e_max, e_listt, e_listz, e_tupt, e_str, gv_0, gv_s, e_slt, e_slz, e_v0, e_v1, e_v2, e_v3, e_v4, e_v5, e_v6, e_v7, e_v8, e_v9, e_v10, e_v11, e_v12, e_v13, e_v14, e_v15, e_v16, e_v17, e_v18, e_v19, e_v20, e_v21, e_v22, e_v23, e_v24, e_v25, e_v26, e_v27, e_v28, e_v29, e_v30, e_v31, e_v32, e_v33, e_v34, e_v35, e_v36, e_v37, e_v38, e_v39, e_ar0, e_ar1, e_gN, e_par, e_c, e_bin, e_un, e_and, e_or, e_ife, e_chain, e_tup, e_lst, e_bi, e_call, e_sl, e_no, e_so, e_nil, e_seq, e_expr, e_ret, e_retn, e_asg, e_if, e_brk, e_cnt, sz_0, sz_1, sz_2, sz_3, sz_4, sz_5, sz_6, sz_7, sz_8, sz_9, sz_10, sz_11, sz_12, sz_13, sz_14, sz_15, sz_16, sz_17, sz_18, sz_19, true_and, isi_non_int, isi_non_bool, isi_non_str, isi_non_tuple, isi_non_list, isi_non_dict, isi_bl_int, isi_bl_bool, isi_bl_str, isi_bl_tuple, isi_bl_list, isi_bl_dict, isi_int_int, isi_int_bool, isi_int_str, isi_int_tuple, isi_int_list, isi_int_dict, isi_str_int, isi_str_bool, isi_str_str, isi_str_tuple, isi_str_list, isi_str_dict, isi_tup_int, isi_tup_bool, isi_tup_str, isi_tup_tuple, isi_tup_list, isi_tup_dict, isi_fz_int, isi_fz_bool, isi_fz_str, isi_fz_tuple, isi_fz_list, isi_fz_dict])
def tb (h : Rat) : Vc := ((1 - h * h) / (1 + h * h), (h + h) / (1 + h * h))
def Un (u : Vc) : Prop := u.1 * u.1 + u.2 * u.2 = 1
theorem sq_nn (h : Rat) : 0 ≤ h * h := by
  rcases Rat.le_total (a := 0) (b := h) with q | q
  · exact Rat.mul_nonneg q q
  · have : 0 ≤ -h := by grind
    have := Rat.mul_nonneg this this
    grind
end
local macro_rules | `(tactic| walk_at "ev104") => `(tactic| try simp only [oEq_ff, oNe_ff, oEq_vv, oNe_vv, e_gTv, vc_mk, vx0, vx1, if_true, if_false, decide_true, decide_false, Bool.not_true, Bool.not_false, Bool.false_eq_true, reduceCtorEq, e_gS, e_gT, e_gsL0, e_gsL1, e_gsN0, e_gsN1, e_r1, e_r1K, e_r2, e_r2K, e_any, e_lsT, e_zpT, e_enT, e_en, e_zp, e_lzip, e_z3, e_revt, e_tru, tru_bl, tru_int, tru_non, tru_tup, e_disp, e_prs0, e_prs1, List.zip_nil_left, e_rv, e_for, e_comp, e_mt, e_wipe0, e_wipe1, fr0, fr1, ix0, ix1, ix2, ix3, bIf_t, bIf_f, bIf_d, bIf_n, oEq_ii, oNe_ii, oEq_bb, oNe_bb, List.set_cons_zero, List.set_cons_succ, List.zip_cons_cons, List.zip_nil_right, List.foldl_cons, List.foldl_nil, e_add, e_addI, e_addt, e_addl, e_sub, e_mul, e_div, e_mod, e_pow, e_oI, e_neg, e_not, e_isn, e_isnn, e_isb, e_isnb, e_isN_non, e_isN_bl, e_isN_int, e_isN_tup, e_isN_ref, e_isN_fz, e_isN_fr, e_isN_str, e_lent, e_lenz, e_abs, e_int, e_intb, e_dvm, e_min, e_max, e_listt, e_listz, e_tupt, e_str, gv_0, gv_s, e_slt, e_slz, e_v0, e_v1, e_v2, e_v3, e_v4, e_v5, e_v6, e_v7, e_v8, e_v9, e_v10, e_v11, e_v12, e_v13, e_v14, e_v15, e_v16, e_v17, e_v18, e_v19, e_v20, e_v21, e_v22, e_v23, e_v24, e_v25, e_v26, e_v27, e_v28, e_v29, e_v30, e_v31, e_v32, e_v33, e_v34, e_v35, e_v36, e_v37, e_v38, e_v39, e_ar0, e_ar1, e_gN, e_par, e_c, e_bin, e_un, e_and, e_or, e_ife, e_chain, e_tup, e_lst, e_bi, e_call, e_sl, e_no, e_so, e_nil, e_seq, e_expr, e_ret, e_retn, e_asg, e_if, e_brk, e_cnt, sz_0, sz_1, sz_2, sz_3, sz_4, sz_5, sz_6, sz_7, sz_8, sz_9, sz_10, sz_11, sz_12, sz_13, sz_14, sz_15, sz_16, sz_17, sz_18, sz_19, true_and, isi_non_int, isi_non_bool, isi_non_str, isi_non_tuple, isi_non_list, isi_non_dict, isi_bl_int, isi_bl_bool, isi_bl_str, isi_bl_tuple, isi_bl_list, isi_bl_dict, isi_int_int, isi_int_bool, isi_int_str, isi_int_tuple, isi_int_list, isi_int_dict, isi_str_int, isi_str_bool, isi_str_str, isi_str_tuple, isi_str_list, isi_str_dict, isi_tup_int, isi_tup_bool, isi_tup_str, isi_tup_tuple, isi_tup_list, isi_tup_dict, isi_fz_int, isi_fz_bool, isi_fz_str, isi_fz_tuple, isi_fz_list, isi_fz_dict])
section
open PySem PySem.Spec PyProof.Rows L2
def InQ (u v : Vc) : Prop := 0 < vcrs u v ∧ 0 < vdot u v
instance {u v : Vc} : Decidable (InQ u v) := inferInstanceAs (Decidable (_ ∧ _))
def Stp (v u : Vc) : Prop := u = v ∨ InQ u v
instance {u v : Vc} : Decidable (Stp v u) := inferInstanceAs (Decidable (_ ∨ _))
def qv (one other : Vc) : Nat → Vc
  | 0 => one
  | j + 1 => if Stp other (qv one other j) then qv one other j else vlft (qv one other j)
theorem un_id {u v : Vc} (hu : Un u) (hv : Un v) : vdot u v * vdot u v + vcrs u v * vcrs u v = 1 := by
  unfold Un vdot vcrs at *
  have : (u.1 * v.1 + u.2 * v.2) * (u.1 * v.1 + u.2 * v.2) + (u.1 * v.2 - u.2 * v.1) * (u.1 * v.2 - u.2 * v.1) = (u.1 * u.1 + u.2 * u.2) * (v.1 * v.1 + v.2 * v.2) := by grind
  rw [this, hu, hv]
  grind
end
section
open PySem PySem.Spec PyProof.Rows L2
def Chn (r : Vc → Vc → Prop) : Vc → List Vc → Prop
  | _, [] => True
  | u, v :: t => r u v ∧ Chn r v t
theorem Chn.app {r : Vc → Vc → Prop} : ∀ {xs : List Vc} {u w : Vc} {ys : List Vc}, Chn r u xs → (u :: xs).getLast? = some w → Chn r w ys → Chn r u (xs ++ ys)
  | [], u, w, ys, _, e, k => by cases e; exact k
  | x :: xs, u, w, ys, h, e, k => ⟨h.1, Chn.app (xs := xs) h.2 (by rw [List.getLast?_cons_cons] at e; exact e) k⟩
theorem Chn.get {r : Vc → Vc → Prop} : ∀ {t : List Vc} {u x y : Vc} {i : Nat}, Chn r u t → (u :: t)[i]? = some x → t[i]? = some y → r x y
  | v :: t, u, x, y, 0, h, e, f => by cases e; cases f; exact h.1
  | v :: t, u, x, y, i + 1, h, e, f => Chn.get (t := t) h.2 (by simpa using e) (by simpa using f)
  | [], _, _, _, _, _, _, f => by simp at f
theorem div2 {x y A B : Rat} (hA : A ≠ 0) (hB : B ≠ 0) : x / A * (y / B) = x * y / (A * B) := by
  rw [Rat.div_def, Rat.div_def, Rat.div_def, Rat.inv_mul_rev]
  grind
theorem div_a {x y C : Rat} : x / C + y / C = (x + y) / C := by
  rw [Rat.div_def, Rat.div_def, Rat.div_def]; grind
end
section
open PySem PySem.Spec PyProof.Rows L2
/-- the turn of three units -/
def D3 (a u v : Vc) : Rat := vcrs a u + vcrs u v + vcrs v a
def A1 (a u : Vc) : Rat := 1 - vdot a u
theorem d3_as {a u v : Vc} (ha : Un a) : D3 a u v = A1 a v * vcrs a u - A1 a u * vcrs a v := by
  unfold D3 A1 vcrs vdot Un at *
  grind
theorem d3_trans {a u v w : Vc} (ha : Un a) : D3 a u v * A1 a w + D3 a v w * A1 a u = D3 a u w * A1 a v := by
  rw [d3_as ha, d3_as ha, d3_as ha]
  grind
theorem rat_tri (a b : Rat) : a < b ∨ a = b ∨ b < a := by
  rcases Rat.le_total (a := a) (b := b) with q | q
  · by_cases h : a = b
    · exact .inr (.inl h)
    · exact .inl (by grind)
  · by_cases h : a = b
    · exact .inr (.inl h)
    · exact .inr (.inr (by grind))
theorem pos_of_mul {x y : Rat} (h : 0 < x * y) (k : 0 < y) : 0 < x := by
  rcases rat_tri x 0 with q | q | q
  · have := Rat.mul_pos (show 0 < -x by grind) k
    grind
  · rw [q] at h; grind
  · exact q
theorem a1_nn {u v : Vc} (hu : Un u) (hv : Un v) : 0 ≤ A1 u v := by
  have h := un_id hu hv
  unfold A1
  have := sq_nn (vcrs u v)
  rcases Rat.le_total (a := vdot u v) (b := 1) with q | q
  · grind
  · have : 0 ≤ (vdot u v - 1) * (vdot u v + 1) := Rat.mul_nonneg (by grind) (by grind)
    have : vdot u v * vdot u v = 1 := by grind
    have : 0 ≤ (vdot u v - 1) * vdot u v := Rat.mul_nonneg (by grind) (by grind)
    grind
theorem un_inj {a u v : Vc} (ha : Un a) (hd : vdot a u = vdot a v) (hc : vcrs a u = vcrs a v) : u = v := by
  unfold Un vdot vcrs at *
  exact Prod.ext (by grind) (by grind)
theorem a1_zero {u v : Vc} (hu : Un u) (hv : Un v) : A1 u v = 0 ↔ v = u := by
  refine ⟨fun h => ?_, fun h => ?_⟩
  · have hd : vdot u v = 1 := by unfold A1 at h; grind
    have h2 := un_id hu hv
    have hc : vcrs u v = 0 := by
      rw [hd] at h2
      have : vcrs u v * vcrs u v = 0 := by grind
      rcases Rat.mul_eq_zero.mp this with q | q <;> exact q
    refine un_inj hu (by rw [hd]; exact hu.symm) (by rw [hc]; unfold vcrs; grind)
  · subst h
    unfold A1
    have : vdot v v = 1 := hu
    grind
theorem a1_pos {u v : Vc} (hu : Un u) (hv : Un v) (h : v ≠ u) : 0 < A1 u v := by
  have h1 := a1_nn hu hv
  have h2 : A1 u v ≠ 0 := fun z => h ((a1_zero hu hv).mp z)
  grind
/-- met ahead, going to the left from a -/
def Bf (a u v : Vc) : Prop := (u = a ∧ v ≠ a) ∨ 0 < D3 a u v
theorem d3_r {a u : Vc} : D3 a u a = 0 := by unfold D3 vcrs; grind
theorem d3_m {a u : Vc} : D3 a u u = 0 := by unfold D3 vcrs; grind
theorem Bf.ne_r {a u v : Vc} (h : Bf a u v) : v ≠ a := by
  rcases h with h | h
  · exact h.2
  · intro e; subst e; rw [d3_r] at h; grind
theorem Bf.irr {a u : Vc} (h : Bf a u u) : False := by
  rcases h with h | h
  · exact h.2 h.1
  · rw [d3_m] at h; grind
theorem Bf.trans {a u v w : Vc} (ha : Un a) (hu : Un u) (hv : Un v) (hw : Un w) (h : Bf a u v) (k : Bf a v w) : Bf a u w := by
  have hva := h.ne_r
  have hwa := k.ne_r
  rcases h with h | h
  · exact .inl ⟨h.1, hwa⟩
  · rcases k with k | k
    · exact absurd k.1 hva
    · by_cases hua : u = a
      · exact .inl ⟨hua, hwa⟩
      · refine .inr ?_
        have e := d3_trans (u := u) (v := v) (w := w) ha
        have p1 := Rat.mul_pos h (a1_pos ha hw hwa)
        have p2 := Rat.mul_pos k (a1_pos ha hu hua)
        exact pos_of_mul (y := A1 a v) (by grind) (a1_pos ha hv hva)
theorem Bf.asym {a u v : Vc} (ha : Un a) (hu : Un u) (hv : Un v) (h : Bf a u v) (k : Bf a v u) : False := (h.trans ha hu hv hu k).irr
/-- in which half, from a first one -/
def hf (a u : Vc) : Nat := if 0 < vcrs a u then 1 else if vcrs a u < 0 then 3 else if u = a then 0 else 2
def Ahd (a u v : Vc) : Prop := if hf a u = hf a v then 0 < vcrs u v else hf a u < hf a v
/-- rising lists of units -/
def Asc (a : Vc) (xs : List Vc) : Prop := xs.Pairwise (Bf a) ∧ ∀ x ∈ xs, Un x
theorem Asc.uniq {a : Vc} (ha : Un a) : ∀ {xs ys : List Vc}, Asc a xs → Asc a ys → (∀ z, z ∈ xs ↔ z ∈ ys) → xs = ys
  | [], [], _, _, _ => rfl
  | [], y :: ys, _, _, h => absurd ((h y).mpr List.mem_cons_self) List.not_mem_nil
  | x :: xs, [], _, _, h => absurd ((h x).mp List.mem_cons_self) List.not_mem_nil
  | x :: xs, y :: ys, ⟨h1, u1⟩, ⟨h2, u2⟩, h => by
    rw [List.pairwise_cons] at h1 h2
    have e : x = y := by
      by_cases e : x = y
      · exact e
      exfalso
      have m1 : x ∈ ys := (List.mem_cons.mp ((h x).mp List.mem_cons_self)).resolve_left e
      have m2 : y ∈ xs := (List.mem_cons.mp ((h y).mpr List.mem_cons_self)).resolve_left fun z => e z.symm
      exact (h1.1 y m2).asym ha (u1 x List.mem_cons_self) (u1 y (List.mem_cons_of_mem _ m2)) (h2.1 x m1)
    subst e
    congr 1
    refine Asc.uniq ha ⟨h1.2, fun z hz => u1 z (List.mem_cons_of_mem _ hz)⟩ ⟨h2.2, fun z hz => u2 z (List.mem_cons_of_mem _ hz)⟩ fun z => ⟨fun hz => ?_, fun hz => ?_⟩
    · refine (List.mem_cons.mp ((h z).mp (List.mem_cons_of_mem _ hz))).resolve_left fun q => ?_
      subst q
      exact (h1.1 z hz).irr
    · refine (List.mem_cons.mp ((h z).mpr (List.mem_cons_of_mem _ hz))).resolve_left fun q => ?_
      subst q
      exact (h2.1 z hz).irr
instance {a u v : Vc} : Decidable (Ahd a u v) := by unfold Ahd; infer_instance
theorem Asc.tail {a x : Vc} {xs : List Vc} (h : Asc a (x :: xs)) : Asc a xs := ⟨(List.pairwise_cons.mp h.1).2, fun z hz => h.2 z (List.mem_cons_of_mem _ hz)⟩
end
section
open PySem PySem.Spec PyProof.Rows L2
class Enc (α : Type) [DecidableEq α] where
  enc : α → PV
  dat : α → PyData
  pd : ∀ {L : Sto} (a : α), PD L (enc a) (dat a)
  uq : ∀ {L : Sto} {a : α} {d : PyData}, PD L (enc a) d → d = dat a
  eq : ∀ a b : α, PyData.eqv (dat a) (dat b) = decide (a = b)
  lay : ∀ a : α, (dat a).canLay0 = true
  dep : Nat
  dle : ∀ a : α, (dat a).depth ≤ dep
section
variable {α β : Type} [DecidableEq α] [DecidableEq β]
instance : Enc Int where
  enc i := .int i
  dat i := .int i
  pd i := .int i
  uq h := by match h with | .int _ => rfl
  eq a b := rfl
  lay a := rfl
  dep := 0
  dle a := Nat.le_refl _
instance : Enc Rat where
  enc q := fr q
  dat q := dfr q
  pd q := .fr
  uq h := PD_fr_uniq h
  eq a b := eqv_fr
  lay a := rfl
  dep := 1
  dle a := by show max 0 (max 0 0) + 1 ≤ 1; decide
instance [Enc α] [Enc β] : Enc (α × β) where
  enc p := .tup [Enc.enc p.1, Enc.enc p.2]
  dat p := .tuple [Enc.dat p.1, Enc.dat p.2]
  pd p := .tup (.cons (Enc.pd p.1) (.cons (Enc.pd p.2) .nil))
  uq h := by
    match h with
    | .tup (.cons a (.cons b .nil)) => rw [Enc.uq a, Enc.uq b]
  eq a b := by
    have h : PyData.eqv (.tuple [Enc.dat a.1, Enc.dat a.2]) (.tuple [Enc.dat b.1, Enc.dat b.2]) = (PyData.eqv (Enc.dat a.1) (Enc.dat b.1) && (PyData.eqv (Enc.dat a.2) (Enc.dat b.2) && true)) := rfl
    rw [h, Enc.eq, Enc.eq, Bool.and_true, ← Bool.decide_and]
    exact decide_eq_decide.mpr (Prod.ext_iff.symm)
  lay a := by
    show ((Enc.dat a.1).canLay0 && ((Enc.dat a.2).canLay0 && true)) = true
    rw [Enc.lay, Enc.lay]; rfl
  dep := max (Enc.dep α) (Enc.dep β) + 1
  dle a := by
    show max (Enc.dat a.1).depth (max (Enc.dat a.2).depth 0) + 1 ≤ _
    have h1 := Enc.dle a.1
    have h2 := Enc.dle a.2
    omega
theorem pds_map [Enc α] {L : Sto} : ∀ xs : List α, PDs L (xs.map Enc.enc) (xs.map Enc.dat)
  | [] => .nil
  | x :: xs => .cons (Enc.pd x) (pds_map xs)
theorem pds_uq [Enc α] {L : Sto} : ∀ {xs : List α} {ds : List PyData}, PDs L (xs.map Enc.enc) ds → ds = xs.map Enc.dat
  | [], _, h => by match h with | .nil => rfl
  | x :: xs, _, h => by
    match h with
    | .cons a b => rw [Enc.uq a, pds_uq b]; rfl
theorem eqv_all [Enc α] : ∀ xs ys : List α, PyData.eqvAll (xs.map Enc.dat) (ys.map Enc.dat) = decide (xs = ys)
  | [], [] => (decide_eq_true (rfl : ([] : List α) = [])).symm
  | [], y :: ys => rfl
  | x :: xs, [] => rfl
  | x :: xs, y :: ys => by
    have h : PyData.eqvAll (Enc.dat x :: xs.map Enc.dat) (Enc.dat y :: ys.map Enc.dat) = (PyData.eqv (Enc.dat x) (Enc.dat y) && PyData.eqvAll (xs.map Enc.dat) (ys.map Enc.dat)) := by rw [PyData.eqvAll]
    rw [List.map_cons, List.map_cons, h, Enc.eq, eqv_all, ← Bool.decide_and]
    exact decide_eq_decide.mpr List.cons_eq_cons.symm
theorem lay_all [Enc α] : ∀ xs : List α, PyData.canLayAll0 (xs.map Enc.dat) = true
  | [] => rfl
  | x :: xs => by
    show ((Enc.dat x).canLay0 && PyData.canLayAll0 (xs.map Enc.dat)) = true
    rw [Enc.lay, lay_all]; rfl
theorem dep_all [Enc α] : ∀ xs : List α, PyData.depthAll (xs.map Enc.dat) ≤ Enc.dep α
  | [] => Nat.zero_le _
  | x :: xs => by
    show max (Enc.dat x).depth (PyData.depthAll (xs.map Enc.dat)) ≤ _
    have h1 := Enc.dle x
    have h2 := dep_all xs
    omega
instance [Enc α] : Enc (List α) where
  enc xs := .tup (xs.map Enc.enc)
  dat xs := .tuple (xs.map Enc.dat)
  pd xs := .tup (pds_map xs)
  uq h := by
    match h with
    | .tup a => rw [pds_uq a]
  eq a b := by
    show PyData.eqv (.tuple (a.map Enc.dat)) (.tuple (b.map Enc.dat)) = _
    rw [PyData.eqv, eqv_all]
  lay a := lay_all a
  dep := Enc.dep α + 1
  dle a := by
    show PyData.depthAll (a.map Enc.dat) + 1 ≤ _
    have := dep_all a
    omega
section
variable [Enc α] {L : Sto} {R : PK} {a b : α} {p q : Addr} {xs ys : List α}
theorem shp {d : PyData} (h1 : d.canLay0 = true) (h2 : d.depth ≤ 64) : SeqAt.shaped d = true := by
  unfold SeqAt.shaped
  rw [h1, decide_eq_true h2]; rfl
end
end
theorem put_put {L : Sto} {p : Addr} {o o' : SO} : put (put L p o) p o' = put L p o' := by
  funext a
  unfold put
  split <;> rfl
theorem un_neg {u : Vc} (h : Un u) : Un (-u.1, -u.2) := by
  unfold Un at *
  show -u.1 * -u.1 + -u.2 * -u.2 = 1
  grind
theorem e_app {L : Sto} {R : PK} {p : Addr} {xs : List PV} {x : PV} (e : L p = some (.l xs)) (h : xs.length < sizeLine ∧ R .non (put L p (.l (xs ++ [x])))) : mAppend (.ref p) [x] L R := ⟨xs, e, h⟩
theorem ty_list {L : Sto} {p : Addr} {xs : List PV} (e : L p = some (.l xs)) : tyOk "list" (.ref p) L := .inl ⟨rfl, xs, e⟩
end
section
open PySem PySem.Spec PyProof.Rows L2
theorem comp_map {α : Type} {f g : α → PV} {keep : Sto → Prop} {we : WE} {env : Env} {k : Nat} {L : Sto} {R : List PV → Sto → Prop} {xs : List α} (hk : ∀ l, Le L l → keep l) (hn : xs.length < 16000000)
    (hw : ∀ x ∈ xs, ∀ l R', Le L l → (∀ l', Le L l' → R' (g x) l') → we (env.set k (some (f x))) l R') (hR : ∀ l, Le L l → R (xs.map g) l) : compW keep (gN k) (wC (.bl true)) we env (xs.map f) [] L R := by
  refine comp_i (fun i acc l => Le L l ∧ acc = (xs.take i).map g) ⟨.refl, rfl⟩ (fun i a l q => hk l q.1) (by rw [List.length_map]; show _ < 16777216; omega) ?_ ?_
  · rintro i t acc l K hx ⟨hl, rfl⟩ hi hK
    rw [List.getElem?_map] at hx
    cases q : xs[i]? with
    | none => rw [q] at hx; cases hx
    | some x =>
      rw [q] at hx
      cases hx
      walk_at "ev104"
      refine hw x (List.mem_of_getElem? q) l _ hl fun l' hl' => ?_
      refine ⟨?_, ?_⟩
      · rw [List.length_map, List.length_take]; show _ < 16777216; omega
      · refine hK _ _ ?_ ⟨hl', ?_⟩
        · rw [List.length_append, List.length_map, List.length_take]
          show _ + 1 ≤ i + 1
          omega
        · rw [List.take_add_one, q, List.map_append]; rfl
  · rintro acc l ⟨hl, rfl⟩
    rw [List.length_map, List.take_length]
    exact hR l hl
end
section
open PySem PySem.Spec PyProof.Rows L2
def HasLen (v : Vc) : Prop := ∃ r : Rat, 0 < r ∧ r * r = vdot v v
noncomputable def len (v : Vc) : Rat := @dite _ (HasLen v) (Classical.propDecidable _) (fun h => h.choose) fun _ => 0
theorem sq_inj {a b : Rat} (ha : 0 ≤ a) (hb : 0 ≤ b) (h : a * a = b * b) : a = b := by
  have e : (a - b) * (a + b) = 0 := by grind
  rcases Rat.mul_eq_zero.mp e with q | q
  · grind
  · grind
theorem len_spec {v : Vc} (h : HasLen v) : 0 < len v ∧ len v * len v = vdot v v := by
  unfold len
  rw [dif_pos h]
  exact h.choose_spec
theorem len_of {v : Vc} {r : Rat} (h : 0 < r) (e : r * r = vdot v v) : HasLen v ∧ len v = r := by
  have hl : HasLen v := ⟨r, h, e⟩
  obtain ⟨h1, h2⟩ := len_spec hl
  exact ⟨hl, sq_inj (Rat.le_of_lt h1) (Rat.le_of_lt h) (by rw [h2, e])⟩
def s_length_of : Spec := fun args L R => ∃ v, args = [vc v] ∧ SzV 1900 v ∧ SzB (vdot v v) ∧ ∀ x, RootIs (vdot v v) x → R x L
def d_length_of_0 : WS := sRet (wCall s_root_of [wCall s_dot [wVar 0, wVar 0]])
theorem ok_length_of : ∀ args L R, args.length = 1 → s_length_of args L R → d_length_of_0 (initE 1 args) L { nx := fun _ L' => R .non L', rt := R } := by
  rintro _ L R _ ⟨v, rfl, hv, hd, h⟩
  unfold d_length_of_0
  show sRet _ [some (vc v)] L _
  walk_at "ev104"
  exact ⟨_, _, rfl, hv.mono (by decide), hv.mono (by decide), _, rfl, hd, fun x hx => h x hx⟩
theorem root_cases {v : Vc} {x : PV} (h : RootIs (vdot v v) x) : (x = .non ∧ ¬ HasLen v) ∨ (x = fr 0 ∧ ¬ HasLen v) ∨ (x = fr (len v) ∧ HasLen v) := by
  rcases h with ⟨rfl, h⟩ | ⟨r, rfl, h1, h2⟩
  · exact .inl ⟨rfl, fun ⟨r, _, e⟩ => h r e⟩
  · by_cases hr : r = 0
    · subst hr
      refine .inr (.inl ⟨rfl, fun ⟨s, hs, e⟩ => ?_⟩)
      rw [← e] at h2
      have := Rat.mul_pos hs hs
      grind
    · obtain ⟨hl, e⟩ := len_of (v := v) (r := r) (by grind) h2
      exact .inr (.inr ⟨by rw [e], hl⟩)
end
section
open PySem PySem.Spec PyProof.Rows L2
section
variable {L : Sto} {R : PK} {a b : Str}
theorem PD_str_uniq {d : PyData} (h : PD L (.str a) d) : d = .str a := by
  match h with
  | .str _ => rfl
theorem oEq_sS (ha : SeqAt.shaped (.str a) = true) (hb : SeqAt.shaped (.str b) = true) : oEq (.str a) (.str b) L R = R (.bl (a == b)) L := by
  refine propext ⟨?_, fun h => ⟨_, _, .str _, .str _, ha, hb, h⟩⟩
  rintro ⟨d, e, h1, h2, _, _, h⟩
  rw [PD_str_uniq h1, PD_str_uniq h2] at h
  exact h
theorem oNe_sS (ha : SeqAt.shaped (.str a) = true) (hb : SeqAt.shaped (.str b) = true) : oNe (.str a) (.str b) L R = R (.bl (!(a == b))) L := by
  refine propext ⟨?_, fun h => ⟨_, _, .str _, .str _, ha, hb, h⟩⟩
  rintro ⟨d, e, h1, h2, _, _, h⟩
  rw [PD_str_uniq h1, PD_str_uniq h2] at h
  exact h
theorem sh_side : SeqAt.shaped (.str "side") = true := by decide +kernel
theorem sh_arc : SeqAt.shaped (.str "arc") = true := by decide +kernel
theorem sh_left : SeqAt.shaped (.str "left") = true := by decide +kernel
theorem sh_right : SeqAt.shaped (.str "right") = true := by decide +kernel
def trn (lf : Bool) : Str := if lf then "left" else "right"
theorem sh_trn (b : Bool) : SeqAt.shaped (.str (trn b)) = true := by cases b; exact sh_right; exact sh_left
theorem eq_side_side : oEq (.str "side") (.str "side") L R = R (.bl true) L := (oEq_sS sh_side sh_side).trans (by rw [show (("side" : Str) == "side") = true by decide +kernel])
theorem eq_arc_side : oEq (.str "arc") (.str "side") L R = R (.bl false) L := (oEq_sS sh_arc sh_side).trans (by rw [show (("arc" : Str) == "side") = false by decide +kernel])
theorem ne_side_side : oNe (.str "side") (.str "side") L R = R (.bl false) L := (oNe_sS sh_side sh_side).trans (by rw [show (("side" : Str) == "side") = true by decide +kernel]; rfl)
theorem ne_arc_side : oNe (.str "arc") (.str "side") L R = R (.bl true) L := (oNe_sS sh_arc sh_side).trans (by rw [show (("arc" : Str) == "side") = false by decide +kernel]; rfl)
theorem eq_arc_arc : oEq (.str "arc") (.str "arc") L R = R (.bl true) L := (oEq_sS sh_arc sh_arc).trans (by rw [show (("arc" : Str) == "arc") = true by decide +kernel])
theorem eq_side_arc : oEq (.str "side") (.str "arc") L R = R (.bl false) L := (oEq_sS sh_side sh_arc).trans (by rw [show (("side" : Str) == "arc") = false by decide +kernel])
theorem trn_left (b : Bool) : (trn b == "left") = b := by cases b <;> decide +kernel
theorem trn_right (b : Bool) : (trn b == "right") = !b := by cases b <;> decide +kernel
theorem eq_trn_left {b : Bool} : oEq (.str (trn b)) (.str "left") L R = R (.bl b) L := (oEq_sS (sh_trn b) sh_left).trans (by rw [trn_left])
theorem eq_trn_right {b : Bool} : oEq (.str (trn b)) (.str "right") L R = R (.bl (!b)) L := (oEq_sS (sh_trn b) sh_right).trans (by rw [trn_right])
theorem trn_trn (a b : Bool) : (trn a == trn b) = decide (a = b) := by cases a <;> cases b <;> decide +kernel
end
inductive Pc where
  | side (to : Vc) | arc (m to : Vc) (lf : Bool)
deriving DecidableEq
def Pc.to : Pc → Vc
  | .side t => t
  | .arc _ t _ => t
def pcV : Pc → PV
  | .side t => .tup [.str "side", vc t]
  | .arc m t lf => .tup [.str "arc", vc m, vc t, .str (trn lf)]
abbrev Pth := Vc × List Pc
def pth (p : Pth) : PV := .tup [vc p.1, .tup (p.2.map pcV)]
section
variable {L : Sto} {R : PK} {m t : Vc} {lf : Bool} {p : Pth}
theorem pc0s : oIx (pcV (.side t)) (.int 0) L R = R (.str "side") L := ix0
theorem pc1s : oIx (pcV (.side t)) (.int 1) L R = R (vc t) L := ix1
theorem pc0a : oIx (pcV (.arc m t lf)) (.int 0) L R = R (.str "arc") L := ix0
theorem pc1a : oIx (pcV (.arc m t lf)) (.int 1) L R = R (vc m) L := ix1
theorem pc2a : oIx (pcV (.arc m t lf)) (.int 2) L R = R (vc t) L := ix2
theorem pc3a : oIx (pcV (.arc m t lf)) (.int 3) L R = R (.str (trn lf)) L := ix3
theorem pt0 : oIx (pth p) (.int 0) L R = R (vc p.1) L := ix0
theorem pt1 : oIx (pth p) (.int 1) L R = R (.tup (p.2.map pcV)) L := ix1
theorem pc_mks : PV.tup [.str "side", vc t] = pcV (.side t) := rfl
theorem pc_mka : PV.tup [.str "arc", vc m, vc t, .str (trn lf)] = pcV (.arc m t lf) := rfl
end
def ends (p : Pth) : List Vc := p.1 :: p.2.map Pc.to
def PcOk (b : Vc) : Pc → Prop
  | .side t => t ≠ b ∧ HasLen (vsub t b)
  | .arc m t _ => t ≠ b ∧ HasLen (vsub b m) ∧ HasLen (vsub t m) ∧ len (vsub t m) = len (vsub b m)
def PcsOk : Vc → List Pc → Prop
  | _, [] => True
  | b, q :: r => PcOk b q ∧ PcsOk q.to r
structure PathOk (p : Pth) : Prop where
  ne : p.2 ≠ []
  ok : PcsOk p.1 p.2
  ln : p.2.length ≤ 12
def PcSz (b : Nat) : Pc → Prop
  | .side t => SzV b t
  | .arc m t _ => SzV b m ∧ SzV b t
def PSz (b : Nat) (p : Pth) : Prop := SzV b p.1 ∧ ∀ q ∈ p.2, PcSz b q
theorem PcSz.to {b : Nat} {q : Pc} (h : PcSz b q) : SzV b q.to := by cases q <;> first | exact h | exact h.2
theorem PcSz.mono {a b : Nat} {q : Pc} (h : PcSz a q) (k : a ≤ b) : PcSz b q := by cases q <;> first | exact SzV.mono h k | exact ⟨h.1.mono k, h.2.mono k⟩
theorem PSz.mono {a b : Nat} {p : Pth} (h : PSz a p) (k : a ≤ b) : PSz b p := ⟨h.1.mono k, fun q hq => (h.2 q hq).mono k⟩
theorem PcsOk.get : ∀ {ps : List Pc} {b x : Vc} {i : Nat} {q : Pc}, PcsOk b ps → ps[i]? = some q → (b :: ps.map Pc.to)[i]? = some x → PcOk x q
  | q :: r, b, x, 0, q', h, e, f => by cases e; cases f; exact h.1
  | q :: r, b, x, i + 1, q', h, e, f => PcsOk.get (ps := r) h.2 (by simpa using e) (by simpa using f)
  | [], _, _, _, _, _, e, _ => by simp at e
theorem PathOk.get {p : Pth} {x : Vc} {i : Nat} {q : Pc} (h : PathOk p) (e : p.2[i]? = some q) (f : (ends p)[i]? = some x) : PcOk x q := h.ok.get e f
def vneg (v : Vc) : Vc := (-v.1, -v.2)
theorem SzV.neg {b : Nat} {v : Vc} (h : SzV b v) : SzV b (vneg v) := ⟨h.1.neg, h.2.neg⟩
theorem un_vneg {u : Vc} (h : Un u) : Un (vneg u) := by
  unfold Un vneg at *
  show -u.1 * -u.1 + -u.2 * -u.2 = 1
  grind
def s_to_of : Spec := fun args L R => ∃ q, args = [pcV q] ∧ R (vc q.to) L
def d_to_of_0 : WS := sRet (wIfE (wBin oEq (wBin oIx (wVar 0) (wC (.int 0))) (wC (.str "side"))) (wBin oIx (wVar 0) (wC (.int 1))) (wBin oIx (wVar 0) (wC (.int 2))))
local macro_rules | `(tactic| walk_at "ev") => `(tactic| try simp only [eq_side_side, eq_arc_side, ne_side_side, ne_arc_side, eq_arc_arc, eq_side_arc, eq_trn_left, eq_trn_right, pc0s, pc1s, pc0a, pc1a, pc2a, pc3a, pt0, pt1, pc_mks, pc_mka, oEq_ff, oNe_ff, oEq_vv, oNe_vv, e_gTv, vc_mk, vx0, vx1, if_true, if_false, decide_true, decide_false, Bool.not_true, Bool.not_false, Bool.false_eq_true, reduceCtorEq, e_gS, e_gT, e_gsL0, e_gsL1, e_gsN0, e_gsN1, e_r1, e_r1K, e_r2, e_r2K, e_any, e_lsT, e_zpT, e_enT, e_en, e_zp, e_lzip, e_z3, e_revt, e_tru, tru_bl, tru_int, tru_non, tru_tup, e_disp, e_prs0, e_prs1, List.zip_nil_left, e_rv, e_for, e_comp, e_mt, e_wipe0, e_wipe1, fr0, fr1, ix0, ix1, ix2, ix3, bIf_t, bIf_f, bIf_d, bIf_n, oEq_ii, oNe_ii, oEq_bb, oNe_bb, List.set_cons_zero, List.set_cons_succ, List.zip_cons_cons, List.zip_nil_right, List.foldl_cons, List.foldl_nil, e_add, e_addI, e_addt, e_addl, e_sub, e_mul, e_div, e_mod, e_pow, e_oI, e_neg, e_not, e_isn, e_isnn, e_isb, e_isnb, e_isN_non, e_isN_bl, e_isN_int, e_isN_tup, e_isN_ref, e_isN_fz, e_isN_fr, e_isN_str, e_lent, e_lenz, e_abs, e_int, e_intb, e_dvm, e_min, e_max, e_listt, e_listz, e_tupt, e_str, gv_0, gv_s, e_slt, e_slz, e_v0, e_v1, e_v2, e_v3, e_v4, e_v5, e_v6, e_v7, e_v8, e_v9, e_v10, e_v11, e_v12, e_v13, e_v14, e_v15, e_v16, e_v17, e_v18, e_v19, e_v20, e_v21, e_v22, e_v23, e_v24, e_v25, e_v26, e_v27, e_v28, e_v29, e_v30, e_v31, e_v32, e_v33, e_v34, e_v35, e_v36, e_v37, e_v38, e_v39, e_ar0, e_ar1, e_gN, e_par, e_c, e_bin, e_un, e_and, e_or, e_ife, e_chain, e_tup, e_lst, e_bi, e_call, e_sl, e_no, e_so, e_nil, e_seq, e_expr, e_ret, e_retn, e_asg, e_if, e_brk, e_cnt, sz_0, sz_1, sz_2, sz_3, sz_4, sz_5, sz_6, sz_7, sz_8, sz_9, sz_10, sz_11, sz_12, sz_13, sz_14, sz_15, sz_16, sz_17, sz_18, sz_19, true_and, isi_non_int, isi_non_bool, isi_non_str, isi_non_tuple, isi_non_list, isi_non_dict, isi_bl_int, isi_bl_bool, isi_bl_str, isi_bl_tuple, isi_bl_list, isi_bl_dict, isi_int_int, isi_int_bool, isi_int_str, isi_int_tuple, isi_int_list, isi_int_dict, isi_str_int, isi_str_bool, isi_str_str, isi_str_tuple, isi_str_list, isi_str_dict, isi_tup_int, isi_tup_bool, isi_tup_str, isi_tup_tuple, isi_tup_list, isi_tup_dict, isi_fz_int, isi_fz_bool, isi_fz_str, isi_fz_tuple, isi_fz_list, isi_fz_dict])
theorem ok_to_of : ∀ args L R, args.length = 1 → s_to_of args L R → d_to_of_0 (initE 1 args) L { nx := fun _ L' => R .non L', rt := R } := by
  rintro _ L R _ ⟨q, rfl, h⟩
  unfold d_to_of_0
  show sRet _ [some (pcV q)] L _
  cases q with
  | side t => walk_at "ev"; exact h
  | arc m t lf => walk_at "ev"; exact h
def closed (p : Pth) : Prop := (ends p).getLast? = some p.1
instance {p : Pth} : Decidable (closed p) := by unfold closed; infer_instance
end
local macro_rules | `(tactic| walk_at "ev105") => `(tactic| try simp only [eq_side_side, eq_arc_side, ne_side_side, ne_arc_side, eq_arc_arc, eq_side_arc, eq_trn_left, eq_trn_right, pc0s, pc1s, pc0a, pc1a, pc2a, pc3a, pt0, pt1, pc_mks, pc_mka, oEq_ff, oNe_ff, oEq_vv, oNe_vv, e_gTv, vc_mk, vx0, vx1, if_true, if_false, decide_true, decide_false, Bool.not_true, Bool.not_false, Bool.false_eq_true, reduceCtorEq, e_gS, e_gT, e_gsL0, e_gsL1, e_gsN0, e_gsN1, e_r1, e_r1K, e_r2, e_r2K, e_any, e_lsT, e_zpT, e_enT, e_en, e_zp, e_lzip, e_z3, e_revt, e_tru, tru_bl, tru_int, tru_non, tru_tup, e_disp, e_prs0, e_prs1, List.zip_nil_left, e_rv, e_for, e_comp, e_mt, e_wipe0, e_wipe1, fr0, fr1, ix0, ix1, ix2, ix3, bIf_t, bIf_f, bIf_d, bIf_n, oEq_ii, oNe_ii, oEq_bb, oNe_bb, List.set_cons_zero, List.set_cons_succ, List.zip_cons_cons, List.zip_nil_right, List.foldl_cons, List.foldl_nil, e_add, e_addI, e_addt, e_addl, e_sub, e_mul, e_div, e_mod, e_pow, e_oI, e_neg, e_not, e_isn, e_isnn, e_isb, e_isnb, e_isN_non, e_isN_bl, e_isN_int, e_isN_tup, e_isN_ref, e_isN_fz, e_isN_fr, e_isN_str, e_lent, e_lenz, e_abs, e_int, e_intb, e_dvm, e_min, e_max, e_listt, e_listz, e_tupt, e_str, gv_0, gv_s, e_slt, e_slz, e_v0, e_v1, e_v2, e_v3, e_v4, e_v5, e_v6, e_v7, e_v8, e_v9, e_v10, e_v11, e_v12, e_v13, e_v14, e_v15, e_v16, e_v17, e_v18, e_v19, e_v20, e_v21, e_v22, e_v23, e_v24, e_v25, e_v26, e_v27, e_v28, e_v29, e_v30, e_v31, e_v32, e_v33, e_v34, e_v35, e_v36, e_v37, e_v38, e_v39, e_ar0, e_ar1, e_gN, e_par, e_c, e_bin, e_un, e_and, e_or, e_ife, e_chain, e_tup, e_lst, e_bi, e_call, e_sl, e_no, e_so, e_nil, e_seq, e_expr, e_ret, e_retn, e_asg, e_if, e_brk, e_cnt, sz_0, sz_1, sz_2, sz_3, sz_4, sz_5, sz_6, sz_7, sz_8, sz_9, sz_10, sz_11, sz_12, sz_13, sz_14, sz_15, sz_16, sz_17, sz_18, sz_19, true_and, isi_non_int, isi_non_bool, isi_non_str, isi_non_tuple, isi_non_list, isi_non_dict, isi_bl_int, isi_bl_bool, isi_bl_str, isi_bl_tuple, isi_bl_list, isi_bl_dict, isi_int_int, isi_int_bool, isi_int_str, isi_int_tuple, isi_int_list, isi_int_dict, isi_str_int, isi_str_bool, isi_str_str, isi_str_tuple, isi_str_list, isi_str_dict, isi_tup_int, isi_tup_bool, isi_tup_str, isi_tup_tuple, isi_tup_list, isi_tup_dict, isi_fz_int, isi_fz_bool, isi_fz_str, isi_fz_tuple, isi_fz_list, isi_fz_dict])
section
open PySem PySem.Spec PyProof.Rows L2
def HH (h : Int) : Prop := h = 5 ∨ h = 13 ∨ h = 17 ∨ h = 25
def IsI (D B : Int) (q : Rat) : Prop := ∃ z : Int, q * (D : Rat) = (z : Rat) ∧ -B ≤ z ∧ z ≤ B
def UH (h : Int) (u : Vc) : Prop := Un u ∧ IsI h h u.1 ∧ IsI h h u.2
theorem sq_bdI {x y D : Int} (h : x * x + y * y = D * D) (hD : 0 ≤ D) : -D ≤ x ∧ x ≤ D := by
  have hy : 0 ≤ y * y := by
    rcases Int.le_total 0 y with q | q
    · exact Int.mul_nonneg q q
    · have := Int.mul_nonneg (show 0 ≤ -y by omega) (show 0 ≤ -y by omega)
      grind
  constructor
  · rcases Int.lt_or_le x (-D) with q | q
    · exfalso
      have h1 : D < -x := by omega
      have h2 := Int.mul_lt_mul h1 (show D ≤ -x by omega) 
      by_cases hz : 0 < D
      · have := h2 hz (by omega)
        grind
      · have hD0 : D = 0 := by omega
        subst hD0
        have := Int.mul_pos (show 0 < -x by omega) (show 0 < -x by omega)
        grind
    · exact q
  · rcases Int.lt_or_le D x with q | q
    · exfalso
      have h2 := Int.mul_lt_mul q (show D ≤ x by omega) 
      by_cases hz : 0 < D
      · have := h2 hz (by omega)
        grind
      · have hD0 : D = 0 := by omega
        subst hD0
        have := Int.mul_pos (show 0 < x by omega) (show 0 < x by omega)
        grind
    · exact q
theorem ratI_ne {D : Int} (h : D ≠ 0) : ((D : Int) : Rat) ≠ 0 := fun z => h (Rat.intCast_inj.mp (show (D : Rat) = ((0 : Int) : Rat) from z))
theorem IsI.frac {x D h : Int} (hh : 0 < h) (hD : D = 1 ∨ D = h) (hx1 : -D ≤ x) (hx2 : x ≤ D) : IsI h h ((x : Rat) / (D : Rat)) := by
  rcases hD with rfl | rfl
  · refine ⟨x * h, ?_, ?_, ?_⟩
    · rw [Rat.intCast_mul, show ((1 : Int) : Rat) = 1 from rfl]
      grind
    · have := Int.mul_le_mul_of_nonneg_right hx1 (show 0 ≤ h by omega)
      omega
    · have := Int.mul_le_mul_of_nonneg_right hx2 (show 0 ≤ h by omega)
      omega
  · refine ⟨x, ?_, hx1, hx2⟩
    have := ratI_ne (D := D) (by omega)
    generalize ((D : Int) : Rat) = d at *
    grind
theorem UH.mk {x y D h : Int} (hh : 0 < h) (hD : D = 1 ∨ D = h) (e : x * x + y * y = D * D) : UH h ((x : Rat) / (D : Rat), (y : Rat) / (D : Rat)) := by
  have hD0 : 0 < D := by rcases hD with q | q <;> omega
  have hx := sq_bdI e (by omega)
  have hy := sq_bdI (x := y) (y := x) (D := D) (by omega) (by omega)
  refine ⟨?_, IsI.frac hh hD hx.1 hx.2, IsI.frac hh hD hy.1 hy.2⟩
  have hd := ratI_ne (D := D) (by omega)
  have e' : (x : Rat) * (x : Rat) + (y : Rat) * (y : Rat) = (D : Rat) * (D : Rat) := by
    rw [← Rat.intCast_mul, ← Rat.intCast_mul, ← Rat.intCast_mul, ← Rat.intCast_add, e]
  unfold Un
  show (x : Rat) / (D : Rat) * ((x : Rat) / (D : Rat)) + (y : Rat) / (D : Rat) * ((y : Rat) / (D : Rat)) = 1
  rw [div2 hd hd, div2 hd hd, div_a, e']
  generalize ((D : Int) : Rat) = d at *
  grind
theorem IsI.neg {D B : Int} {q : Rat} (h : IsI D B q) : IsI D B (-q) := by
  obtain ⟨z, e, h1, h2⟩ := h
  refine ⟨-z, ?_, by omega, by omega⟩
  rw [Rat.intCast_neg, ← e]
  grind
theorem UH.neg {h : Int} {u : Vc} (k : UH h u) : UH h (vneg u) := ⟨un_vneg k.1, k.2.1.neg, k.2.2.neg⟩
theorem IsI.sz {D B : Int} {q : Rat} {b : Nat} (h : IsI D B q) (hD : 0 < D) (h1 : D.natAbs < 2 ^ b) (h2 : B.natAbs < 2 ^ b) : Sz b q := by
  obtain ⟨z, e, z1, z2⟩ := h
  have hd := ratI_ne (D := D) (by omega)
  have : q = (z : Rat) / (D : Rat) := by
    rw [← e]
    generalize ((D : Int) : Rat) = d at *
    grind
  rw [this]
  exact Sz.of (by omega) (by omega) h1
theorem HH.bd {h : Int} (k : HH h) : 5 ≤ h ∧ h ≤ 25 := by rcases k with rfl | rfl | rfl | rfl <;> omega
theorem UH.sz {h : Int} {u : Vc} (k : UH h u) (hh : HH h) : SzV 14 u := by
  have := hh.bd
  exact ⟨k.2.1.sz (by omega) (by show _ < 16384; omega) (by show _ < 16384; omega), k.2.2.sz (by omega) (by show _ < 16384; omega) (by show _ < 16384; omega)⟩
end
section
open PySem PySem.Spec PyProof.Rows L2
theorem IsI.add {D A B : Int} {p q : Rat} (h : IsI D A p) (k : IsI D B q) : IsI D (A + B) (p + q) := by
  obtain ⟨z, e, z1, z2⟩ := h
  obtain ⟨w, f, w1, w2⟩ := k
  refine ⟨z + w, ?_, by omega, by omega⟩
  rw [Rat.intCast_add, ← e, ← f]
  grind
theorem IsI.mono {D A B : Int} {q : Rat} (h : IsI D A q) (k : A ≤ B) : IsI D B q := by
  obtain ⟨z, e, z1, z2⟩ := h
  exact ⟨z, e, by omega, by omega⟩
theorem mul_bd {z w A B : Int} (z1 : -A ≤ z) (z2 : z ≤ A) (w1 : -B ≤ w) (w2 : w ≤ B) : -(A * B) ≤ z * w ∧ z * w ≤ A * B := by
  have hz : z.natAbs ≤ A.natAbs := by omega
  have hw : w.natAbs ≤ B.natAbs := by omega
  have h := Nat.mul_le_mul hz hw
  rw [← Int.natAbs_mul, ← Int.natAbs_mul] at h
  have : 0 ≤ A * B := Int.mul_nonneg (by omega) (by omega)
  omega
theorem IsI.mul {D E A B : Int} {p q : Rat} (h : IsI D A p) (k : IsI E B q) : IsI (D * E) (A * B) (p * q) := by
  obtain ⟨z, e, z1, z2⟩ := h
  obtain ⟨w, f, w1, w2⟩ := k
  obtain ⟨m1, m2⟩ := mul_bd z1 z2 w1 w2
  refine ⟨z * w, ?_, m1, m2⟩
  rw [Rat.intCast_mul, Rat.intCast_mul, ← e, ← f]
  grind
theorem IsI.two {n w B : Int} (hw : w = 1 ∨ w = 2) (h1 : -B ≤ n) (h2 : n ≤ B) : IsI 2 (2 * B) ((n : Rat) / (w : Rat)) := by
  rcases hw with rfl | rfl
  · refine ⟨2 * n, ?_, by omega, by omega⟩
    rw [Rat.intCast_mul, show ((1 : Int) : Rat) = 1 from rfl]
    grind
  · refine ⟨n, ?_, by omega, by omega⟩
    rw [show ((2 : Int) : Rat) = 2 from rfl]
    grind
/-- points of the law: parts with the bottom 2h -/
def Pt (h B : Int) (p : Vc) : Prop := IsI (h * 2) (h * B) p.1 ∧ IsI (h * 2) (h * B) p.2
theorem IsI.up {h B : Int} {q : Rat} (hh : 0 < h) (k : IsI 2 B q) : IsI (h * 2) (h * B) q := by
  obtain ⟨z, e, z1, z2⟩ := k
  refine ⟨h * z, ?_, ?_, Int.mul_le_mul_of_nonneg_left z2 (by omega)⟩
  · rw [Rat.intCast_mul, Rat.intCast_mul, ← e]
    grind
  · have := Int.mul_le_mul_of_nonneg_left z1 (show 0 ≤ h by omega)
    rw [Int.mul_neg] at this
    exact this
theorem Pt.on {h B C : Int} {p u : Vc} {t : Rat} (hp : Pt h B p) (hu : UH h u) (ht : IsI 2 C t) : Pt h (B + C) (vadd p (vscl u t)) := by
  unfold Pt
  rw [Int.mul_add]
  exact ⟨hp.1.add (hu.2.1.mul ht), hp.2.add (hu.2.2.mul ht)⟩
theorem Pt.mono {h B C : Int} {p : Vc} (hh : HH h) (hp : Pt h B p) (k : B ≤ C) : Pt h C p := by
  have := hh.bd
  have := Int.mul_le_mul_of_nonneg_left k (show 0 ≤ h by omega)
  exact ⟨hp.1.mono this, hp.2.mono this⟩
theorem Pt.sz {h B : Int} {p : Vc} (hh : HH h) (hp : Pt h B p) (k0 : 0 ≤ B) (k : B ≤ 300) : SzV 14 p := by
  have hb := hh.bd
  have h1 := Int.mul_le_mul (show h ≤ 25 by omega) k k0 (by omega)
  have h0 : 0 ≤ h * B := Int.mul_nonneg (by omega) k0
  exact ⟨hp.1.sz (by omega) (by show _ < 16384; omega) (by show _ < 16384; omega), hp.2.sz (by omega) (by show _ < 16384; omega) (by show _ < 16384; omega)⟩
theorem vsub_on {p v : Vc} : vsub (vadd p v) p = v := Prod.ext (by show p.1 + v.1 - p.1 = v.1; grind) (by show p.2 + v.2 - p.2 = v.2; grind)
theorem vsub_off {p v : Vc} {r : Rat} : vsub p (vadd p (vscl v (-r))) = vscl v r := Prod.ext (by show p.1 - (p.1 + v.1 * -r) = v.1 * r; grind) (by show p.2 - (p.2 + v.2 * -r) = v.2 * r; grind)
theorem len_scl {u : Vc} {r : Rat} (hu : Un u) (hr : 0 < r) : HasLen (vscl u r) ∧ len (vscl u r) = r := by
  refine len_of hr ?_
  unfold Un at hu
  show r * r = u.1 * r * (u.1 * r) + u.2 * r * (u.2 * r)
  have : u.1 * r * (u.1 * r) + u.2 * r * (u.2 * r) = (u.1 * u.1 + u.2 * u.2) * (r * r) := by grind
  rw [this, hu]
  grind
theorem HasLen.ne {v : Vc} (h : HasLen v) : v ≠ (0, 0) := fun z => by
  obtain ⟨r, hr, e⟩ := h
  have := Rat.mul_pos hr hr
  rw [z] at e
  have e2 : r * r = 0 := by rw [e]; show (0 : Rat) * 0 + 0 * 0 = 0; grind
  grind
theorem vsub_self {p : Vc} : vsub p p = (0, 0) := Prod.ext (by show p.1 - p.1 = 0; grind) (by show p.2 - p.2 = 0; grind)
theorem HasLen.ne2 {a b : Vc} (h : HasLen (vsub a b)) : a ≠ b := fun z => h.ne (by rw [z, vsub_self])
theorem side_ok {p u : Vc} {t : Rat} (hu : Un u) (ht : 0 < t) : PcOk p (.side (vadd p (vscl u t))) := by
  have h : HasLen (vsub (vadd p (vscl u t)) p) := by rw [vsub_on]; exact (len_scl hu ht).1
  exact ⟨h.ne2, h⟩
theorem arc_ok {p o u : Vc} {r : Rat} {lf : Bool} (ho : Un o) (hu : Un u) (hr : 0 < r) (n : o ≠ u) : PcOk p (.arc (vadd p (vscl u (-r))) (vadd (vadd p (vscl u (-r))) (vscl o r)) lf) := by
  obtain ⟨a1, a2⟩ := len_scl hu hr
  obtain ⟨b1, b2⟩ := len_scl ho hr
  refine ⟨?_, by rw [vsub_off]; exact a1, by rw [vsub_on]; exact b1, by rw [vsub_off, vsub_on, a2, b2]⟩
  intro z
  apply n
  have e1 := congrArg Prod.fst z
  have e2 := congrArg Prod.snd z
  have e1 : p.1 + u.1 * -r + o.1 * r = p.1 := e1
  have e2 : p.2 + u.2 * -r + o.2 * r = p.2 := e2
  have k : r ≠ 0 := by grind
  have f1 : (o.1 - u.1) * r = 0 := by grind
  have f2 : (o.2 - u.2) * r = 0 := by grind
  refine Prod.ext ?_ ?_
  · rcases Rat.mul_eq_zero.mp f1 with q | q
    · grind
    · exact absurd q k
  · rcases Rat.mul_eq_zero.mp f2 with q | q
    · grind
    · exact absurd q k
def endP : Vc → List Pc → Vc
  | b, [] => b
  | _, q :: r => endP q.to r
theorem endP_app : ∀ {ps : List Pc} {b : Vc} {q : Pc}, endP b (ps ++ [q]) = q.to
  | [], _, _ => rfl
  | _ :: r, _, _ => endP_app (ps := r)
theorem PcsOk.app : ∀ {ps : List Pc} {b : Vc} {q : Pc}, PcsOk b ps → PcOk (endP b ps) q → PcsOk b (ps ++ [q])
  | [], _, _, _, h => ⟨h, trivial⟩
  | _ :: r, _, _, h, k => ⟨h.1, PcsOk.app (ps := r) h.2 k⟩
end
section
open PySem PySem.Spec PyProof.Rows L2
structure PS (b q : Addr) (L l : Sto) (h : Int) (s here : Vc) (ps : List Pc) (B nn : Int) : Prop where
  st : l q = some (.l (ps.map pcV))
  fr : L q = none
  le : LeB b L l
  bx : Bx b nn l
  nq : q ≠ b
  ok : PcsOk s ps
  ed : endP s ps = here
  pt : Pt h B here
  sz : ∀ x ∈ ps, PcSz 14 x
theorem LeB.putF {b p : Addr} {L La : Sto} {o : SO} (h : LeB b L La) (hp : L p = none) : LeB b L (Mp.put La p o) := fun a u n e => by
  rw [put_ne (fun z => by rw [z, hp] at e; cases e)]
  exact h a u n e
theorem Bx.putN {b p : Addr} {n : Int} {L : Sto} {o : SO} (h : Bx b n L) (hp : p ≠ b) : Bx b n (Mp.put L p o) := by
  obtain ⟨c0, c1, c2, e, r⟩ := h
  exact ⟨c0, c1, c2, by rw [put_ne hp.symm]; exact e, r⟩
theorem PS.app {b q : Addr} {L l : Sto} {h B C nn : Int} {s here : Vc} {ps : List Pc} {x : Pc} (k : PS b q L l h s here ps B nn) (ok : PcOk here x) (pt : Pt h C x.to) (sx : PcSz 14 x) :
    PS b q L (put l q (.l (ps.map pcV ++ [pcV x]))) h s x.to (ps ++ [x]) C nn := by
  refine ⟨by rw [put_same, List.map_append]; rfl, k.fr, k.le.putF k.fr, k.bx.putN k.nq, k.nq, k.ok.app (by rw [k.ed]; exact ok), endP_app, pt, ?_⟩
  intro y hy
  rcases List.mem_append.mp hy with z | z
  · exact k.sz y z
  · cases List.mem_singleton.mp z
    exact sx
theorem PS.go {b q : Addr} {L l l' : Sto} {h B nn mm : Int} {s here : Vc} {ps : List Pc} (k : PS b q L l h s here ps B nn) (le : LeB b l l') (bx : Bx b mm l') : PS b q L l' h s here ps B mm :=
  ⟨le _ _ k.nq k.st, k.fr, k.le.trans le, bx, k.nq, k.ok, k.ed, k.pt, k.sz⟩
end
section
open PySem PySem.Spec PyProof.Rows L2
theorem sok_app {a b : Str} (ha : PyData.strOk a = true) (hb : PyData.strOk b = true) : PyData.strOk (a ++ b) = true := by
  unfold PyData.strOk at *
  show (a.cps ++ b.cps).all _ = true
  rw [Array.all_append, ha, hb]
  rfl
theorem sok_join : ∀ {ts : List Str}, (∀ t ∈ ts, PyData.strOk t = true) → PyData.strOk (Str.join ", " ts) = true
  | [], _ => by decide +kernel
  | [x], h => h x (List.mem_singleton.mpr rfl)
  | x :: y :: r, h => by
    show PyData.strOk (x ++ ", " ++ Str.join ", " (y :: r)) = true
    exact sok_app (sok_app (h x List.mem_cons_self) (by decide +kernel)) (sok_join fun t ht => h t (List.mem_cons_of_mem _ ht))
theorem sok_tup {ts : List Str} (h : ∀ t ∈ ts, PyData.strOk t = true) : PyData.strOk (tupleText ts) = true := by
  unfold tupleText
  refine sok_app (sok_app (by decide +kernel) (sok_join h)) ?_
  split <;> decide +kernel
theorem sok_int (i : Int) : PyData.strOk (PyData.int i).shown = true := by
  unfold PyData.strOk
  rw [Array.all_eq_true']
  intro c hc
  apply decide_eq_true
  rcases Nat.lt_or_ge c 0x110000 with q | q
  · exact q
  · exact absurd (by simpa using hc) (PyProof.Rows.shown_int_free' (k := c) ⟨by omega, .inr (by omega)⟩ i)
structure ShW (k m : Nat) (d : PyData) : Prop where
  sh : d.showable = true
  nd : d.hasDict = false
  dp : d.depth ≤ k
  ln : d.shown.length ≤ m
  ok : PyData.strOk d.shown = true
theorem ShW.mono {k k' m m' : Nat} {d : PyData} (h : ShW k m d) (hk : k ≤ k') (hm : m ≤ m') : ShW k' m' d := ⟨h.sh, h.nd, Nat.le_trans h.dp hk, Nat.le_trans h.ln hm, h.ok⟩
theorem shw_all {k m : Nat} : ∀ {ds : List PyData}, (∀ d ∈ ds, ShW k m d) → PyData.showableAll ds = true ∧ PyData.hasDictAll ds = false ∧ PyData.depthAll ds ≤ k ∧ piled (PyData.shownAll ds) ≤ ds.length * (m + 2) ∧ ∀ t ∈ PyData.shownAll ds, PyData.strOk t = true
  | [], _ => ⟨rfl, rfl, Nat.zero_le _, Nat.zero_le _, fun t ht => by cases ht⟩
  | d :: r, h => by
    obtain ⟨h1, h2, h3, h4, h5⟩ := shw_all (ds := r) fun x hx => h x (List.mem_cons_of_mem _ hx)
    have q := h d List.mem_cons_self
    refine ⟨?_, ?_, ?_, ?_, ?_⟩
    · show (d.showable && PyData.showableAll r) = true
      rw [q.sh, h1]; rfl
    · show (d.hasDict || PyData.hasDictAll r) = false
      rw [q.nd, h2]; rfl
    · show max d.depth (PyData.depthAll r) ≤ k
      exact Nat.max_le.mpr ⟨q.dp, h3⟩
    · show piled (d.shown :: PyData.shownAll r) ≤ _
      rw [piled_cons, List.length_cons, Nat.succ_mul]
      have := q.ln
      omega
    · intro t ht
      rcases List.mem_cons.mp ht with e | e
      · rw [e]; exact q.ok
      · exact h5 t e
theorem ShW.tup {k m n : Nat} {ds : List PyData} (h : ∀ d ∈ ds, ShW k m d) (hn : ds.length ≤ n) : ShW (k + 1) (n * (m + 2) + 2) (.tuple ds) := by
  obtain ⟨h1, h2, h3, h4, h5⟩ := shw_all h
  refine ⟨h1, h2, Nat.succ_le_succ h3, ?_, sok_tup h5⟩
  have := fmt_text (PyData.shownAll ds)
  have := Nat.mul_le_mul_right (m + 2) hn
  show (tupleText (PyData.shownAll ds)).length ≤ _
  omega
theorem shw_int {i : Int} {m : Nat} (h : i.natAbs < 16384) (hm : 16386 ≤ m) : ShW 0 m (.int i) := by
  refine ⟨?_, rfl, Nat.le_refl _, ?_, sok_int i⟩
  · show decide (i.natAbs.log2 < 1920) = true
    exact decide_eq_true (log_small (by omega))
  · have := PyProof.Rows.len_str_of_int i
    show (toString i : Str).length ≤ m
    have e : (toString i : Str) = Str.ofString (toString i) := rfl
    rw [e]
    omega
theorem shw_str {x : Str} {m : Nat} (h1 : (reprText x).length ≤ m) (h2 : PyData.strOk (reprText x) = true) : ShW 0 m (.str x) := ⟨rfl, rfl, Nat.le_refl _, h1, h2⟩
def ratD (q : Rat) : PyData := .tuple [.int q.num, .int q.den]
def vcD (v : Vc) : PyData := .tuple [ratD v.1, ratD v.2]
def pcD : Pc → PyData
  | .side t => .tuple [.str "side", vcD t]
  | .arc m t lf => .tuple [.str "arc", vcD m, vcD t, .str (trn lf)]
def pthD (p : Pth) : PyData := .tuple [vcD p.1, .tuple (p.2.map pcD)]
def pthS (p : Pth) : Str := (pthD p).shown
theorem PD.rat {L : Sto} {q : Rat} : PD L (Mp.fr q) (ratD q) := .tup (.cons (.int _) (.cons (.int _) .nil))
theorem PD.vec {L : Sto} {v : Vc} : PD L (Mp.vc v) (vcD v) := .tup (.cons .rat (.cons .rat .nil))
theorem PD.pc {L : Sto} : ∀ {q : Pc}, PD L (pcV q) (pcD q)
  | .side _ => .tup (.cons (.str _) (.cons .vec .nil))
  | .arc _ _ _ => .tup (.cons (.str _) (.cons .vec (.cons .vec (.cons (.str _) .nil))))
theorem PDs.pcs {L : Sto} : ∀ {ps : List Pc}, PDs L (ps.map pcV) (ps.map pcD)
  | [] => .nil
  | _ :: _ => .cons .pc PDs.pcs
theorem PD.pth {L : Sto} {p : Pth} : PD L (Mp.pth p) (pthD p) := .tup (.cons .vec (.cons (.tup PDs.pcs) .nil))
theorem shw_rat {q : Rat} (h : Sz 14 q) : ShW 1 32778 (ratD q) := by
  refine (ShW.tup (k := 0) (m := 16386) (n := 2) ?_ (Nat.le_refl _)).mono (Nat.le_refl _) (by decide)
  intro d hd
  have hd' : d = .int q.num ∨ d = .int q.den := by simpa using hd
  rcases hd' with rfl | rfl
  · exact shw_int h.1 (by decide)
  · exact shw_int (by rw [Int.natAbs_natCast]; exact h.2) (by decide)
theorem shw_vec {v : Vc} (h : SzV 14 v) : ShW 2 65562 (vcD v) := by
  refine (ShW.tup (k := 1) (m := 32778) (n := 2) ?_ (Nat.le_refl _)).mono (Nat.le_refl _) (by decide)
  intro d hd
  have hd' : d = ratD v.1 ∨ d = ratD v.2 := by simpa using hd
  rcases hd' with rfl | rfl
  · exact shw_rat h.1
  · exact shw_rat h.2
theorem shw_side : ShW 2 65562 (.str "side") := (shw_str (m := 100) (by decide +kernel) (by decide +kernel)).mono (by decide) (by decide)
theorem shw_arc : ShW 2 65562 (.str "arc") := (shw_str (m := 100) (by decide +kernel) (by decide +kernel)).mono (by decide) (by decide)
theorem shw_trn {lf : Bool} : ShW 2 65562 (.str (trn lf)) := by
  cases lf
  · exact (shw_str (m := 100) (by decide +kernel) (by decide +kernel)).mono (by decide) (by decide)
  · exact (shw_str (m := 100) (by decide +kernel) (by decide +kernel)).mono (by decide) (by decide)
theorem shw_pc {q : Pc} (h : PcSz 14 q) : ShW 3 262258 (pcD q) := by
  cases q with
  | side t =>
    refine (ShW.tup (k := 2) (m := 65562) (n := 4) (ds := [.str "side", vcD t]) ?_ (show 2 ≤ 4 by decide)).mono (Nat.le_refl _) (by decide)
    intro d hd
    have hd' : d = .str "side" ∨ d = vcD t := by simpa using hd
    rcases hd' with rfl | rfl
    · exact shw_side
    · exact shw_vec h
  | arc m t lf =>
    refine (ShW.tup (k := 2) (m := 65562) (n := 4) ?_ (Nat.le_refl _)).mono (Nat.le_refl _) (by decide)
    intro d hd
    have hd' : d = .str "arc" ∨ d = vcD m ∨ d = vcD t ∨ d = .str (trn lf) := by simpa using hd
    rcases hd' with rfl | rfl | rfl | rfl
    · exact shw_arc
    · exact shw_vec h.1
    · exact shw_vec h.2
    · exact shw_trn
theorem shw_pth {p : Pth} (h : PSz 14 p) (hn : p.2.length ≤ 12) : ShW 5 6294250 (pthD p) := by
  have h1 : ShW 4 3147122 (.tuple (p.2.map pcD)) := by
    refine (ShW.tup (k := 3) (m := 262258) (n := 12) ?_ (by rw [List.length_map]; exact hn)).mono (Nat.le_refl _) (by decide)
    intro d hd
    obtain ⟨q, hq, rfl⟩ := List.mem_map.mp hd
    exact shw_pc (h.2 q hq)
  refine (ShW.tup (k := 4) (m := 3147122) (n := 2) ?_ (Nat.le_refl _)).mono (Nat.le_refl _) (by decide)
  intro d hd
  have hd' : d = vcD p.1 ∨ d = .tuple (p.2.map pcD) := by simpa using hd
  rcases hd' with rfl | rfl
  · exact (shw_vec h.1).mono (by decide) (by decide)
  · exact h1
theorem str_pth {p : Pth} {L : Sto} {R : PK} (h : PSz 14 p) (hn : p.2.length ≤ 12) (k : R (.str (pthS p)) L) : gStr [pth p] L R := by
  have q := shw_pth h hn
  exact .inr ⟨_, PD.pth, q.sh, q.nd, Nat.le_trans q.dp (by decide), Nat.le_trans q.ln (by decide), k⟩
theorem sh_pthS {p : Pth} (h : PSz 14 p) (hn : p.2.length ≤ 12) : SeqAt.shaped (.str (pthS p)) = true := by
  have q := (shw_pth h hn).ok
  show (PyData.strOk (pthS p) && decide ((0 : Nat) ≤ 64)) = true
  rw [show PyData.strOk (pthS p) = true from q]
  rfl
end
section
open PySem PySem.Spec PyProof.Rows L2
theorem sq0 {x : Rat} (h : x * x = 0) : x = 0 := by
  rcases Rat.mul_eq_zero.mp h with z | z <;> exact z
theorem dotsub_ne {b t : Vc} (h : t ≠ b) : vdot (vsub t b) (vsub t b) ≠ 0 := by
  intro z
  apply h
  have h1 := sq_nn (t.1 - b.1)
  have h2 := sq_nn (t.2 - b.2)
  have z : (t.1 - b.1) * (t.1 - b.1) + (t.2 - b.2) * (t.2 - b.2) = 0 := z
  have e1 := sq0 (x := t.1 - b.1) (by grind)
  have e2 := sq0 (x := t.2 - b.2) (by grind)
  exact Prod.ext (by grind) (by grind)
end
section
open PySem PySem.Spec PyProof.Rows L2
def sq_lowest : Spec := s_fraction
def sq_sum : Spec := s_added
def sq_product : Spec := s_times
def sq_less : Spec := s_taken
def sq_joined : Spec := s_plus
def sq_off : Spec := s_minus
def sq_scaled_by : Spec := s_scaled
def sq_to_left : Spec := fun args L R => ∃ p, args = [vc p] ∧ R (vc (vlft p)) L
def q_lowest_3 : WS := sRet (wTup [wBin oDiv (wVar 0) (wVar 2), wBin oDiv (wVar 1) (wVar 2)])
def q_lowest_2 : WS := sSeq (sAsg (gN 2) (wBin oMul (wVar 2) (wIfE (wBin oGt (wVar 1) (wC (.int 0))) (wC (.int 1)) (wC (.int (-1)))))) q_lowest_3
def q_lowest_1w_0 : WS := sPar [2, 3] [wVar 3, wBin oMod (wVar 2) (wVar 3)]
def q_lowest_1 : WS := sSeq (sWhile (wBin oGt (wVar 3) (wC (.int 0))) q_lowest_1w_0) q_lowest_2
def q_lowest_0 : WS := sSeq (sPar [2, 3] [wBi gAbs [wVar 0], wBi gAbs [wVar 1]]) q_lowest_1
def q_sum_0 : WS := sRet (wCall sq_lowest [wBin oAdd (wBin oMul (wBin oIx (wVar 0) (wC (.int 0))) (wBin oIx (wVar 1) (wC (.int 1)))) (wBin oMul (wBin oIx (wVar 1) (wC (.int 0))) (wBin oIx (wVar 0) (wC (.int 1)))), wBin oMul (wBin oIx (wVar 0) (wC (.int 1))) (wBin oIx (wVar 1) (wC (.int 1)))])
def q_product_0 : WS := sRet (wCall sq_lowest [wBin oMul (wBin oIx (wVar 0) (wC (.int 0))) (wBin oIx (wVar 1) (wC (.int 0))), wBin oMul (wBin oIx (wVar 0) (wC (.int 1))) (wBin oIx (wVar 1) (wC (.int 1)))])
def q_less_0 : WS := sRet (wCall sq_lowest [wBin oSub (wBin oMul (wBin oIx (wVar 0) (wC (.int 0))) (wBin oIx (wVar 1) (wC (.int 1)))) (wBin oMul (wBin oIx (wVar 1) (wC (.int 0))) (wBin oIx (wVar 0) (wC (.int 1)))), wBin oMul (wBin oIx (wVar 0) (wC (.int 1))) (wBin oIx (wVar 1) (wC (.int 1)))])
def q_joined_0 : WS := sRet (wTup [wCall sq_sum [wBin oIx (wVar 0) (wC (.int 0)), wBin oIx (wVar 1) (wC (.int 0))], wCall sq_sum [wBin oIx (wVar 0) (wC (.int 1)), wBin oIx (wVar 1) (wC (.int 1))]])
def q_off_0 : WS := sRet (wTup [wCall sq_less [wBin oIx (wVar 0) (wC (.int 0)), wBin oIx (wVar 1) (wC (.int 0))], wCall sq_less [wBin oIx (wVar 0) (wC (.int 1)), wBin oIx (wVar 1) (wC (.int 1))]])
def q_scaled_by_0 : WS := sRet (wTup [wCall sq_product [wBin oIx (wVar 0) (wC (.int 0)), wVar 1], wCall sq_product [wBin oIx (wVar 0) (wC (.int 1)), wVar 1]])
def q_to_left_0 : WS := sRet (wTup [wTup [wUn oNeg (wBin oIx (wBin oIx (wVar 0) (wC (.int 1))) (wC (.int 0))), wBin oIx (wBin oIx (wVar 0) (wC (.int 1))) (wC (.int 1))], wBin oIx (wVar 0) (wC (.int 0))])
theorem ok_q_lowest : ∀ args L R, args.length = 2 → sq_lowest args L R → q_lowest_0 (initE 4 args) L { nx := fun _ L' => R .non L', rt := R } := by
  rintro _ L R _ ⟨n, d, rfl, hd, hz, h⟩
  unfold q_lowest_0
  show sSeq _ _ [some (.int n), some (.int d), none, none] L _
  walk_at "ev105"
  unfold q_lowest_1
  walk_at "ev105"
  refine ⟨fun m env L' => L' = L ∧ ∃ x y : Nat, env = [some (.int n), some (.int d), some (.int x), some (.int y)] ∧ Nat.gcd x y = Nat.gcd n.natAbs d.natAbs ∧ m = y, ⟨d.natAbs, rfl, n.natAbs, d.natAbs, rfl, rfl, rfl⟩, ?_⟩
  rintro m env _ ⟨rfl, x, y, rfl, hg, rfl⟩
  walk_at "ev105"
  split
  · rename_i hy
    unfold q_lowest_1w_0
    walk_at "ev105"
    have hy' : 0 < m := by omega
    refine ⟨by omega, x % m, Nat.mod_lt _ hy', m, x % m, ?_, ?_, rfl⟩
    · rw [Int.fmod_eq_emod_of_nonneg _ (by omega)]; rfl
    · rw [← hg, Nat.gcd_comm m, ← Nat.gcd_rec, Nat.gcd_comm]
  · rename_i hy
    have hm : m = 0 := by omega
    subst hm
    rw [Nat.gcd_zero_right] at hg
    rw [← fdiv_num hd] at h
    have g0 : 0 < Nat.gcd n.natAbs d.natAbs := Nat.gcd_pos_of_pos_right _ (by omega)
    unfold q_lowest_2
    walk_at "ev105"
    rw [hg]
    by_cases hn : d < 0
    · rw [if_pos hn] at h
      rw [if_neg (by omega)]
      walk_at "ev105"
      refine ⟨mulR (by decide), ?_⟩
      unfold q_lowest_3
      walk_at "ev105"
      rw [show ((Nat.gcd n.natAbs d.natAbs : Nat) : Int) * -1 = -((Nat.gcd n.natAbs d.natAbs : Nat) : Int) by omega]
      exact ⟨by omega, noPl (hz.gcdN hd), by omega, noPl (hz.gcdN hd), h⟩
    · rw [if_neg hn] at h
      rw [if_pos (by omega)]
      walk_at "ev105"
      refine ⟨mulR (by decide), ?_⟩
      unfold q_lowest_3
      walk_at "ev105"
      rw [Int.mul_one]
      exact ⟨by omega, noPl (hz.gcd hd), by omega, noPl (hz.gcd hd), h⟩
theorem ok_q_sum : ∀ args L R, args.length = 2 → sq_sum args L R → q_sum_0 (initE 2 args) L { nx := fun _ L' => R .non L', rt := R } := by
  rintro _ L R _ ⟨p, q, rfl, hp, hq, h⟩
  unfold q_sum_0
  show sRet _ [some (fr p), some (fr q)] L _
  walk_at "ev105"
  refine ⟨hp.nd hq (by decide), hq.nd hp (by decide), hp.dd hq (by decide), _, _, rfl, mul_den_ne p q, hp.okd hq (by decide), ?_⟩
  rw [← add_eq] at h
  exact h
theorem ok_q_less : ∀ args L R, args.length = 2 → sq_less args L R → q_less_0 (initE 2 args) L { nx := fun _ L' => R .non L', rt := R } := by
  rintro _ L R _ ⟨p, q, rfl, hp, hq, h⟩
  unfold q_less_0
  show sRet _ [some (fr p), some (fr q)] L _
  walk_at "ev105"
  refine ⟨hp.nd hq (by decide), hq.nd hp (by decide), hp.dd hq (by decide), _, _, rfl, mul_den_ne p q, hp.okd hq (by decide), ?_⟩
  rw [← sub_eq] at h
  exact h
theorem ok_q_product : ∀ args L R, args.length = 2 → sq_product args L R → q_product_0 (initE 2 args) L { nx := fun _ L' => R .non L', rt := R } := by
  rintro _ L R _ ⟨p, q, rfl, hp, hq, h⟩
  unfold q_product_0
  show sRet _ [some (fr p), some (fr q)] L _
  walk_at "ev105"
  refine ⟨hp.nn hq (by decide), hp.dd hq (by decide), _, _, rfl, mul_den_ne p q, hp.okd hq (by decide), ?_⟩
  rw [← mul_eq] at h
  exact h
theorem ok_q_joined : ∀ args L R, args.length = 2 → sq_joined args L R → q_joined_0 (initE 2 args) L { nx := fun _ L' => R .non L', rt := R } := by
  rintro _ L R _ ⟨p, q, rfl, hp, hq, h⟩
  unfold q_joined_0
  show sRet _ [some (vc p), some (vc q)] L _
  walk_at "ev105"
  exact ⟨p.1, q.1, rfl, hp.1, hq.1, p.2, q.2, rfl, hp.2, hq.2, h⟩
theorem ok_q_off : ∀ args L R, args.length = 2 → sq_off args L R → q_off_0 (initE 2 args) L { nx := fun _ L' => R .non L', rt := R } := by
  rintro _ L R _ ⟨p, q, rfl, hp, hq, h⟩
  unfold q_off_0
  show sRet _ [some (vc p), some (vc q)] L _
  walk_at "ev105"
  exact ⟨p.1, q.1, rfl, hp.1, hq.1, p.2, q.2, rfl, hp.2, hq.2, h⟩
theorem ok_q_scaled_by : ∀ args L R, args.length = 2 → sq_scaled_by args L R → q_scaled_by_0 (initE 2 args) L { nx := fun _ L' => R .non L', rt := R } := by
  rintro _ L R _ ⟨p, k, rfl, hp, hk, h⟩
  unfold q_scaled_by_0
  show sRet _ [some (vc p), some (fr k)] L _
  walk_at "ev105"
  exact ⟨p.1, k, rfl, hp.1, hk, p.2, k, rfl, hp.2, hk, h⟩
theorem ok_q_to_left : ∀ args L R, args.length = 1 → sq_to_left args L R → q_to_left_0 (initE 1 args) L { nx := fun _ L' => R .non L', rt := R } := by
  rintro _ L R _ ⟨p, rfl, h⟩
  unfold q_to_left_0
  show sRet _ [some (vc p)] L _
  walk_at "ev105"
  have e : vlft p = (-p.2, p.1) := Prod.ext (by show 0 - p.2 = -p.2; grind) rfl
  rw [e] at h
  exact h
structure U65 (u : Vc) : Prop where
  un : Un u
  ii : IsI 65 65 u.1 ∧ IsI 65 65 u.2
  z4 : SzV 4 u
def unB : List Vc := [(⟨1, 1, by decide, by decide⟩, ⟨0, 1, by decide, by decide⟩), (⟨4, 5, by decide, by decide⟩, ⟨3, 5, by decide, by decide⟩), (⟨3, 5, by decide, by decide⟩, ⟨4, 5, by decide, by decide⟩), (⟨12, 13, by decide, by decide⟩, ⟨5, 13, by decide, by decide⟩), (⟨5, 13, by decide, by decide⟩, ⟨12, 13, by decide, by decide⟩)]
def lftN : Nat → Vc → Vc
  | 0, v => v
  | n + 1, v => vlft (lftN n v)
def unI (k : Nat) : Vc := lftN (k / 5 % 4) (unB.getD (k % 5) (0, 0))
def u65B (u : Vc) : Bool := decide (u.1 * u.1 + u.2 * u.2 = 1) && (decide ((u.1 * 65).den = 1) && decide ((u.1 * 65).num.natAbs ≤ 65)) && (decide ((u.2 * 65).den = 1) && decide ((u.2 * 65).num.natAbs ≤ 65)) && ((decide (u.1.num.natAbs < 16) && decide (u.1.den < 16)) && (decide (u.2.num.natAbs < 16) && decide (u.2.den < 16)))
theorem isI_of {q : Rat} (h1 : (q * 65).den = 1) (h2 : (q * 65).num.natAbs ≤ 65) : IsI 65 65 q := by
  refine ⟨(q * 65).num, ?_, by omega, by omega⟩
  have := num_eq (q * 65)
  rw [h1] at this
  rw [this]
  show q * 65 = q * 65 * 1
  grind
theorem u65_of {u : Vc} (h : u65B u = true) : U65 u := by
  unfold u65B at h
  simp only [Bool.and_eq_true, decide_eq_true_iff] at h
  obtain ⟨⟨⟨h1, h2⟩, h3⟩, h4⟩ := h
  exact ⟨h1, ⟨isI_of h2.1 h2.2, isI_of h3.1 h3.2⟩, ⟨h4.1.1, h4.1.2⟩, ⟨h4.2.1, h4.2.2⟩⟩
theorem unI_all : ((List.range 20).all fun k => u65B (unI k)) = true := by decide +kernel
theorem unI_ok {k : Nat} (h : k < 20) : U65 (unI k) := u65_of (List.all_eq_true.mp unI_all k (List.mem_range.mpr h))
theorem unI_two : ((List.range 20).all fun i => (List.range 20).all fun j => decide (i = j) || !decide (unI i = unI j)) = true := by decide +kernel
theorem unI_ne {i j : Nat} (hi : i < 20) (hj : j < 20) (n : i ≠ j) : unI i ≠ unI j := by
  have h := List.all_eq_true.mp (List.all_eq_true.mp unI_two i (List.mem_range.mpr hi)) j (List.mem_range.mpr hj)
  intro z
  rw [z, decide_eq_false n] at h
  simp at h
theorem un_lit : [PV.tup [.tup [.int 1, .int 1], .tup [.int 0, .int 1]], .tup [.tup [.int 4, .int 5], .tup [.int 3, .int 5]], .tup [.tup [.int 3, .int 5], .tup [.int 4, .int 5]], .tup [.tup [.int 12, .int 13], .tup [.int 5, .int 13]], .tup [.tup [.int 5, .int 13], .tup [.int 12, .int 13]]] = unB.map vc := rfl
def sq_unit_of : Spec := fun args L R => ∃ k : Nat, args = [.int k] ∧ k < 20 ∧ ∀ L', Le L L' → R (vc (unI k)) L'
def q_unit_of_3 : WS := sRet (wVar 2)
def q_unit_of_2f_0 : WS := sAsg (gN 2) (wCall sq_to_left [wVar 2])
def q_unit_of_2 : WS := sSeq (sFor (iR1 (wBin oMod (wBin oDiv (wVar 0) (wC (.int 5))) (wC (.int 4)))) (gN 3) q_unit_of_2f_0) q_unit_of_3
def q_unit_of_1 : WS := sSeq (sAsg (gN 2) (wBin oIx (wVar 1) (wBin oMod (wVar 0) (wC (.int 5))))) q_unit_of_2
def q_unit_of_0 : WS := sSeq (sAsg (gN 1) (wLst [wTup [wTup [wC (.int 1), wC (.int 1)], wTup [wC (.int 0), wC (.int 1)]], wTup [wTup [wC (.int 4), wC (.int 5)], wTup [wC (.int 3), wC (.int 5)]], wTup [wTup [wC (.int 3), wC (.int 5)], wTup [wC (.int 4), wC (.int 5)]], wTup [wTup [wC (.int 12), wC (.int 13)], wTup [wC (.int 5), wC (.int 13)]], wTup [wTup [wC (.int 5), wC (.int 13)], wTup [wC (.int 12), wC (.int 13)]]])) q_unit_of_1
theorem ok_q_unit_of : ∀ args L R, args.length = 1 → sq_unit_of args L R → q_unit_of_0 (initE 4 args) L { nx := fun _ L' => R .non L', rt := R } := by
  rintro _ L R _ ⟨k, rfl, hk, h⟩
  unfold q_unit_of_0
  show sSeq _ _ [some (.int k), none, none, none] L _
  walk_at "ev105"
  intro p hp
  have e0 : put L p (.l (unB.map vc)) p = some (.l (unB.map vc)) := put_same
  have l0 : Le L (put L p (.l (unB.map vc))) := Le.new hp
  rw [show SO.l _ = SO.l (unB.map vc) from congrArg SO.l un_lit]
  generalize put L p (.l (unB.map vc)) = L0 at *
  unfold q_unit_of_1
  walk_at "ev105"
  have h5 : (k : Int).fmod 5 = ((k % 5 : Nat) : Int) := by rw [Int.fmod_eq_emod_of_nonneg _ (by decide)]; rfl
  have hd5 : (k : Int).fdiv 5 = ((k / 5 : Nat) : Int) := by rw [Int.fdiv_eq_ediv_of_nonneg _ (by decide)]; rfl
  refine ⟨by decide, ?_⟩
  rw [h5]
  have hb : unB[k % 5]? = some (unB.getD (k % 5) (0, 0)) := by
    have : k % 5 < unB.length := Nat.mod_lt _ (by decide)
    rw [List.getD_eq_getElem?_getD, List.getElem?_eq_getElem this]; rfl
  refine ixl_nat e0 (x := vc (unB.getD (k % 5) (0, 0))) (by rw [List.getElem?_map, hb]; rfl) ?_
  unfold q_unit_of_2
  walk_at "ev105"
  refine ⟨by decide, noPl (denS (by decide)), by decide, ?_⟩
  rw [hd5, show ((k / 5 : Nat) : Int).fmod 4 = ((k / 5 % 4 : Nat) : Int) by rw [Int.fmod_eq_emod_of_nonneg _ (by decide)]; rfl]
  have h4 : k / 5 % 4 < 4 := Nat.mod_lt _ (by decide)
  refine ⟨⟨by omega, by omega⟩, ?_⟩
  rw [Int.toNat_natCast]
  refine loop_i (fun i e l => l = L0 ∧ ∃ z, e = [some (.int k), some (.ref p), some (vc (lftN i (unB.getD (k % 5) (0, 0)))), z]) ⟨rfl, _, rfl⟩ (fun _ _ _ _ => trivial) ?_ ?_
  · rintro i t e l K hx ⟨rfl, z, rfl⟩ hK
    walk_at "ev105"
    unfold q_unit_of_2f_0
    walk_at "ev105"
    exact ⟨_, rfl, hK _ _ ⟨rfl, _, rfl⟩⟩
  · rintro e l ⟨rfl, z, rfl⟩
    unfold q_unit_of_3
    walk_at "ev105"
    have hl : (rgL 0 (k / 5 % 4)).length = k / 5 % 4 := by unfold rgL; rw [List.length_map, List.length_range]
    rw [hl]
    exact h _ l0
end
section
open PySem PySem.Spec PyProof.Rows L2
inductive Mv where
  | side (u : Vc) (t : Int) | arc (u o : Vc) (r : Int) (lf : Bool)
def mvV : Mv → PV
  | .side u t => .tup [.str "side", vc u, fr (t : Rat)]
  | .arc u o r lf => .tup [.str "arc", vc u, vc o, fr (r : Rat), .str (trn lf)]
def MvOk : Mv → Prop
  | .side u t => U65 u ∧ 0 < t ∧ t ≤ 11
  | .arc u o r _ => U65 u ∧ U65 o ∧ o ≠ u ∧ 0 < r ∧ r ≤ 6
def mvP (b : Vc) : Mv → Pc
  | .side u t => .side (vadd b (vscl u (t : Rat)))
  | .arc u o r lf => .arc (vsub b (vscl u (r : Rat))) (vadd (vsub b (vscl u (r : Rat))) (vscl o (r : Rat))) lf
def mvPs : Vc → List Mv → List Pc
  | _, [] => []
  | b, m :: r => mvP b m :: mvPs (mvP b m).to r
def bkM : Mv → Mv
  | .side u t => .side (vneg u) t
  | .arc u o r lf => .arc (vneg u) (vneg o) r lf
def P65 (B : Int) (p : Vc) : Prop := IsI 65 (65 * B) p.1 ∧ IsI 65 (65 * B) p.2
theorem mvPs_app : ∀ {ms : List Mv} {b : Vc} {m : Mv}, mvPs b (ms ++ [m]) = mvPs b ms ++ [mvP (endP b (mvPs b ms)) m]
  | [], _, _ => rfl
  | x :: r, b, m => by
    show mvP b x :: mvPs (mvP b x).to (r ++ [m]) = _
    rw [mvPs_app]; rfl
theorem mvPs_len : ∀ {ms : List Mv} {b : Vc}, (mvPs b ms).length = ms.length
  | [], _ => rfl
  | x :: r, b => by
    show (mvPs (mvP b x).to r).length + 1 = r.length + 1
    rw [mvPs_len]
theorem U65.neg {u : Vc} (h : U65 u) : U65 (vneg u) := ⟨by
  have := h.1
  unfold Un at *
  show -u.1 * -u.1 + -u.2 * -u.2 = 1
  grind, ⟨h.2.1.neg, h.2.2.neg⟩, h.3.neg⟩
theorem U65.sz {u : Vc} (h : U65 u) : SzV 14 u := ⟨h.2.1.sz (by decide) (by decide) (by decide), h.2.2.sz (by decide) (by decide) (by decide)⟩
theorem isI1 {t C : Int} (h0 : 0 ≤ t) (h : t ≤ C) : IsI 1 C (t : Rat) := ⟨t, by rw [show ((1 : Int) : Rat) = 1 from rfl]; grind, by omega, h⟩
theorem P65.on {B C t : Int} {p u : Vc} (hp : P65 B p) (hu : U65 u) (h0 : 0 ≤ t) (h : t ≤ C) : P65 (B + C) (vadd p (vscl u (t : Rat))) := by
  unfold P65
  rw [Int.mul_add]
  exact ⟨hp.1.add (hu.2.1.mul (isI1 h0 h)), hp.2.add (hu.2.2.mul (isI1 h0 h))⟩
theorem off_on {p u : Vc} {r : Rat} : vsub p (vscl u r) = vadd p (vscl (vneg u) r) := Prod.ext (by show p.1 - u.1 * r = p.1 + -u.1 * r; grind) (by show p.2 - u.2 * r = p.2 + -u.2 * r; grind)
theorem off_on' {p u : Vc} {r : Rat} : vsub p (vscl u r) = vadd p (vscl u (-r)) := Prod.ext (by show p.1 - u.1 * r = p.1 + u.1 * -r; grind) (by show p.2 - u.2 * r = p.2 + u.2 * -r; grind)
theorem P65.mono {B C : Int} {p : Vc} (hp : P65 B p) (k : B ≤ C) : P65 C p := ⟨hp.1.mono (by omega), hp.2.mono (by omega)⟩
theorem P65.sz {B : Int} {p : Vc} (hp : P65 B p) (k0 : 0 ≤ B) (k : B ≤ 250) : SzV 14 p := ⟨hp.1.sz (by omega) (by decide) (by show _ < 16384; omega), hp.2.sz (by omega) (by decide) (by show _ < 16384; omega)⟩
theorem ratPos {t : Int} (h : 0 < t) : (0 : Rat) < (t : Rat) := by exact_mod_cast h
theorem mv_ok {m : Mv} {b : Vc} {B : Int} (h : MvOk m) (hb : P65 B b) (h0 : 0 ≤ B) (h1 : B ≤ 230) : PcOk b (mvP b m) ∧ P65 (B + 12) (mvP b m).to ∧ PcSz 14 (mvP b m) := by
  cases m with
  | side u t =>
    have q := hb.on h.1 (show 0 ≤ t by have := h.2.1; omega) h.2.2
    exact ⟨side_ok h.1.1 (ratPos h.2.1), q.mono (by omega), q.sz (by omega) (by omega)⟩
  | arc u o r lf =>
    obtain ⟨hu, ho, hne, r0, r6⟩ := h
    have q1 : P65 (B + 6) (vsub b (vscl u (r : Rat))) := by rw [off_on]; exact hb.on hu.neg (by omega) r6
    have q2 := q1.on ho (show 0 ≤ r by omega) r6
    refine ⟨?_, q2.mono (by omega), q1.sz (by omega) (by omega), q2.sz (by omega) (by omega)⟩
    show PcOk b (.arc (vsub b (vscl u (r : Rat))) (vadd (vsub b (vscl u (r : Rat))) (vscl o (r : Rat))) lf)
    rw [off_on']
    exact arc_ok ho.1 hu.1 (ratPos r0) hne
theorem mvs_ok : ∀ {ms : List Mv} {b : Vc} {B : Int}, (∀ m ∈ ms, MvOk m) → P65 B b → 0 ≤ B → B + 12 * (ms.length : Int) ≤ 230 → PcsOk b (mvPs b ms) ∧ (∀ q ∈ mvPs b ms, PcSz 14 q) ∧ P65 (B + 12 * (ms.length : Int)) (endP b (mvPs b ms))
  | [], b, B, _, hb, _, _ => ⟨trivial, fun q hq => (by cases hq), hb.mono (show B ≤ B + 12 * (0 : Int) by omega)⟩
  | m :: r, b, B, h, hb, h0, h1 => by
    have h1' : B + 12 * ((r.length : Int) + 1) ≤ 230 := h1
    obtain ⟨k1, k2, k3⟩ := mv_ok (h m List.mem_cons_self) hb h0 (by omega)
    obtain ⟨q1, q2, q3⟩ := mvs_ok (ms := r) (fun x hx => h x (List.mem_cons_of_mem _ hx)) k2 (by omega) (by omega)
    refine ⟨⟨k1, q1⟩, fun q hq => ?_, q3.mono ?_⟩
    · rcases List.mem_cons.mp hq with rfl | hq
      · exact k3
      · exact q2 q hq
    · show B + 12 + 12 * (r.length : Int) ≤ B + 12 * ((r.length : Int) + 1)
      omega
theorem mvs_path {ms : List Mv} {s : Vc} (h : ∀ m ∈ ms, MvOk m) (hs : P65 4 s) (hn : ms ≠ []) (hl : ms.length ≤ 12) : PathOk (s, mvPs s ms) ∧ PSz 14 (s, mvPs s ms) := by
  obtain ⟨h1, h2, _⟩ := mvs_ok h hs (by decide) (by omega)
  refine ⟨⟨fun z => hn ?_, h1, by show (mvPs s ms).length ≤ 12; rw [mvPs_len]; exact hl⟩, hs.sz (by decide) (by decide), h2⟩
  have := mvPs_len (ms := ms) (b := s)
  rw [show mvPs s ms = [] from z] at this
  exact List.length_eq_zero_iff.mp this.symm
theorem bkM_ok {m : Mv} (h : MvOk m) : MvOk (bkM m) := by
  cases m with
  | side u t => exact ⟨h.1.neg, h.2⟩
  | arc u o r lf =>
    refine ⟨h.1.neg, h.2.1.neg, fun z => h.2.2.1 ?_, h.2.2.2⟩
    have e1 : -o.1 = -u.1 := congrArg Prod.fst z
    have e2 : -o.2 = -u.2 := congrArg Prod.snd z
    exact Prod.ext (by grind) (by grind)
def sq_path_of : Spec := fun args L R => ∃ (s : Vc) (c : Addr) (ms : List Mv), args = [vc s, .ref c] ∧ L c = some (.l (ms.map mvV)) ∧ (∀ m ∈ ms, MvOk m) ∧ ms.length ≤ 12 ∧ P65 4 s ∧ ∀ L', Le L L' → R (pth (s, mvPs s ms)) L'
def sq_move_by : Spec := fun args L R => ∃ (b : Addr) (n : Int) (fl : Bool), args = [.ref b, .bl fl] ∧ Bx b n L ∧ n < 1152921504606840000 ∧ ∀ m L', MvOk m → Bx b (n + 6) L' → LeB b L L' → R (mvV m) L'
def sq_move_back : Spec := fun args L R => ∃ m, args = [mvV m] ∧ MvOk m ∧ R (mvV (bkM m)) L
def sq_path_by : Spec := fun args L R => ∃ (b : Addr) (n m : Int), args = [.ref b, .int m] ∧ 0 < m ∧ m ≤ 9 ∧ Bx b n L ∧ n < 1152921504606830000 ∧ ∀ s ms L', ms ≠ [] → (ms.length ≤ 12 ∧ (ms.length : Int) ≤ m + 2) → (∀ m ∈ ms, MvOk m) → P65 4 s → Bx b (n + 100) L' → LeB b L L' → R (pth (s, mvPs s ms)) L'
def q_path_of_2 : WS := sRet (wTup [wVar 0, wBi gTuple [wVar 3]])
def q_path_of_1f_0a_1 : WS := sExpr (wMt "list" mAppend (wVar 3) [wTup [wC (.str "side"), wVar 2]])
def q_path_of_1f_0a_0 : WS := sSeq (sAsg (gN 2) (wCall sq_joined [wVar 2, wCall sq_scaled_by [wBin oIx (wVar 4) (wC (.int 1)), wBin oIx (wVar 4) (wC (.int 2))]])) q_path_of_1f_0a_1
def q_path_of_1f_0b_2 : WS := sExpr (wMt "list" mAppend (wVar 3) [wTup [wC (.str "arc"), wVar 5, wVar 2, wBin oIx (wVar 4) (wC (.int 4))]])
def q_path_of_1f_0b_1 : WS := sSeq (sAsg (gN 2) (wCall sq_joined [wVar 5, wCall sq_scaled_by [wBin oIx (wVar 4) (wC (.int 2)), wBin oIx (wVar 4) (wC (.int 3))]])) q_path_of_1f_0b_2
def q_path_of_1f_0b_0 : WS := sSeq (sAsg (gN 5) (wCall sq_off [wVar 2, wCall sq_scaled_by [wBin oIx (wVar 4) (wC (.int 1)), wBin oIx (wVar 4) (wC (.int 3))]])) q_path_of_1f_0b_1
def q_path_of_1f_0 : WS := sIf (wBin oEq (wBin oIx (wVar 4) (wC (.int 0))) (wC (.str "side"))) q_path_of_1f_0a_0 q_path_of_1f_0b_0
def q_path_of_1 : WS := sSeq (sFor (iAny (wVar 1)) (gN 4) q_path_of_1f_0) q_path_of_2
def q_path_of_0 : WS := sSeq (sPar [2, 3] [wVar 0, wLst []]) q_path_of_1
def q_move_by_4 : WS := sRet (wTup [wC (.str "arc"), wCall sq_unit_of [wVar 4], wCall sq_unit_of [wBin oMod (wBin oAdd (wVar 4) (wVar 5)) (wC (.int 20))], wTup [wBin oAdd (wC (.int 1)) (wBin oDiv (wVar 3) (wC (.int 2))), wC (.int 1)], wVar 6])
def q_move_by_3 : WS := sSeq (sAsg (gN 6) (wBin oIx (wLst [wC (.str "left"), wC (.str "right")]) (wCall sl_take [wVar 0, wC (.int 2)]))) q_move_by_4
def q_move_by_2a_0 : WS := sRet (wTup [wC (.str "side"), wCall sq_unit_of [wVar 4], wTup [wVar 3, wC (.int 1)]])
def q_move_by_2 : WS := sSeq (sIf (wOr (wUn oNot (wTru (wVar 1))) (wBin oGt (wVar 2) (wC (.int 0)))) q_move_by_2a_0 sNil) q_move_by_3
def q_move_by_1 : WS := sSeq (sPar [4, 5] [wCall sl_take [wVar 0, wC (.int 20)], wBin oAdd (wC (.int 1)) (wCall sl_take [wVar 0, wC (.int 19)])]) q_move_by_2
def q_move_by_0 : WS := sSeq (sPar [2, 3] [wCall sl_take [wVar 0, wC (.int 3)], wBin oAdd (wC (.int 1)) (wCall sl_take [wVar 0, wC (.int 11)])]) q_move_by_1
def q_move_back_1 : WS := sRet (wTup [wC (.str "arc"), wCall sq_scaled_by [wBin oIx (wVar 0) (wC (.int 1)), wTup [wC (.int (-1)), wC (.int 1)]], wCall sq_scaled_by [wBin oIx (wVar 0) (wC (.int 2)), wTup [wC (.int (-1)), wC (.int 1)]], wBin oIx (wVar 0) (wC (.int 3)), wBin oIx (wVar 0) (wC (.int 4))])
def q_move_back_0a_0 : WS := sRet (wTup [wC (.str "side"), wCall sq_scaled_by [wBin oIx (wVar 0) (wC (.int 1)), wTup [wC (.int (-1)), wC (.int 1)]], wBin oIx (wVar 0) (wC (.int 2))])
def q_move_back_0 : WS := sSeq (sIf (wBin oEq (wBin oIx (wVar 0) (wC (.int 0))) (wC (.str "side"))) q_move_back_0a_0 sNil) q_move_back_1
def q_path_by_4 : WS := sRet (wCall sq_path_of [wVar 4, wVar 5])
def q_path_by_3a_2a_0 : WS := sAsg (gN 5) (wComp [7] (iR1 (wBi gLen [wVar 6])) (gN 7) (wC (.bl true)) (wMt "list" mPop (wVar 6) [wCall sl_take [wVar 0, wBi gLen [wVar 6]]]))
def q_path_by_3a_2 : WS := sIf (wBin oEq (wVar 2) (wC (.int 2))) q_path_by_3a_2a_0 sNil
def q_path_by_3a_1 : WS := sSeq (sAsg (gN 5) (wVar 6)) q_path_by_3a_2
def q_path_by_3a_0 : WS := sSeq (sAsg (gN 6) (wBin oAdd (wVar 5) (wComp [8] (iAny (wVar 5)) (gN 8) (wC (.bl true)) (wCall sq_move_back [wVar 8])))) q_path_by_3a_1
def q_path_by_3 : WS := sSeq (sIf (wBin oGt (wVar 2) (wC (.int 1))) q_path_by_3a_0 sNil) q_path_by_4
def q_path_by_2 : WS := sSeq (sAsg (gN 5) (wComp [7] (iR1 (wIfE (wBin oLt (wVar 2) (wC (.int 2))) (wVar 3) (wBin oAdd (wC (.int 1)) (wBin oDiv (wVar 3) (wC (.int 2)))))) (gN 7) (wC (.bl true)) (wCall sq_move_by [wVar 0, wC (.bl true)]))) q_path_by_3
def q_path_by_1 : WS := sSeq (sAsg (gN 4) (wTup [wTup [wBin oSub (wCall sl_take [wVar 0, wC (.int 9)]) (wC (.int 4)), wC (.int 1)], wTup [wBin oSub (wCall sl_take [wVar 0, wC (.int 9)]) (wC (.int 4)), wC (.int 1)]])) q_path_by_2
def q_path_by_0 : WS := sSeq (sPar [2, 3] [wCall sl_take [wVar 0, wC (.int 4)], wBin oAdd (wC (.int 1)) (wCall sl_take [wVar 0, wVar 1])]) q_path_by_1
theorem ok_q_move_back : ∀ args L R, args.length = 1 → sq_move_back args L R → q_move_back_0 (initE 1 args) L { nx := fun _ L' => R .non L', rt := R } := by
  rintro _ L R _ ⟨m, rfl, hm, h⟩
  have ng : ∀ u : Vc, vscl u (((-1 : Int) : Rat)) = vneg u := fun u => Prod.ext (by show u.1 * ((-1 : Int) : Rat) = -u.1; rw [show ((-1 : Int) : Rat) = -1 from rfl]; grind) (by show u.2 * ((-1 : Int) : Rat) = -u.2; rw [show ((-1 : Int) : Rat) = -1 from rfl]; grind)
  have s1 : Sz 4000 ((-1 : Int) : Rat) := Sz.int (show 1 < 2 ^ 4000 from Nat.one_lt_two_pow (by decide)) (by decide)
  unfold q_move_back_0
  cases m with
  | side u t =>
    show sSeq _ _ [some (.tup [.str "side", vc u, fr (t : Rat)])] L _
    walk_at "ev105"
    unfold q_move_back_0a_0
    walk_at "ev105"
    refine ⟨u, ((-1 : Int) : Rat), rfl, hm.1.sz.mono (by decide), s1, ?_⟩
    rw [ng]
    walk_at "ev105"
    exact h
  | arc u o r lf =>
    show sSeq _ _ [some (.tup [.str "arc", vc u, vc o, fr (r : Rat), .str (trn lf)])] L _
    walk_at "ev105"
    unfold q_move_back_1
    walk_at "ev105"
    refine ⟨u, ((-1 : Int) : Rat), rfl, hm.1.sz.mono (by decide), s1, ?_⟩
    rw [ng]
    walk_at "ev105"
    refine ⟨o, ((-1 : Int) : Rat), rfl, hm.2.1.sz.mono (by decide), s1, ?_⟩
    rw [ng]
    walk_at "ev105"
    exact h
theorem ok_q_move_by : ∀ args L R, args.length = 2 → sq_move_by args L R → q_move_by_0 (initE 7 args) L { nx := fun _ L' => R .non L', rt := R } := by
  rintro _ L R _ ⟨b, n, fl, rfl, hb, hn, h⟩
  unfold q_move_by_0
  show sSeq _ _ [some (.ref b), some (.bl fl), none, none, none, none, none] L _
  walk_at "ev105"
  refine ⟨b, 3, n, rfl, hb, by omega, by decide, denS (by decide), fun kind L1 k0 k1 b1 l1 => ?_⟩
  walk_at "ev105"
  refine ⟨b, 11, _, rfl, b1, by omega, by decide, denS (by decide), fun many L2 m0 m1 b2 l2 => ?_⟩
  have l2 := l1.trans l2
  walk_at "ev105"
  unfold q_move_by_1
  walk_at "ev105"
  refine ⟨b, 20, _, rfl, b2, by omega, by decide, denS (by decide), fun f L3 f0 f1 b3 l3 => ?_⟩
  have l3 := l2.trans l3
  walk_at "ev105"
  refine ⟨b, 19, _, rfl, b3, by omega, by decide, denS (by decide), fun g L4 g0 g1 b4 l4 => ?_⟩
  have l4 := l3.trans l4
  obtain ⟨f, rfl⟩ := Int.eq_ofNat_of_zero_le f0
  obtain ⟨g, rfl⟩ := Int.eq_ofNat_of_zero_le g0
  walk_at "ev105"
  unfold q_move_by_2 q_move_by_2a_0
  have side : sq_unit_of [.int (f : Nat)] L4 fun x La => R (.tup [.str "side", x, .tup [.int (1 + many), .int 1]]) La := by
    refine ⟨f, rfl, by omega, fun L5 l5 => ?_⟩
    exact h (.side (unI f) (1 + many)) L5 ⟨unI_ok (by omega), by omega, by omega⟩ ((b4.le l5).mono (by omega)) (l4.trans (l5.b b))
  have arc : ∀ z6, q_move_by_3 [some (.ref b), some (.bl fl), some (.int kind), some (.int (1 + many)), some (.int (f : Nat)), some (.int (1 + (g : Nat))), z6] L4 { nx := fun _ L' => R .non L', rt := R } := by
    intro z6
    unfold q_move_by_3
    walk_at "ev105"
    intro p hp
    have e5 := put_same (L := L4) (a := p) (o := .l [.str "left", .str "right"])
    have b5 := b4.new (o := .l [.str "left", .str "right"]) hp
    have l5 := l4.trans ((Le.new (o := .l [.str "left", .str "right"]) hp).b b)
    have np : p ≠ b := fun z => by
      obtain ⟨_, _, _, hc, _⟩ := b4
      rw [← z, hp] at hc
      cases hc
    generalize put L4 p _ = L5 at *
    refine ⟨b, 2, _, rfl, b5, by omega, by decide, denS (by decide), fun w L6 w0 w1 b6 l6 => ?_⟩
    have e6 := l6 _ _ np e5
    have l6 := l5.trans l6
    have fin : ∀ lf, q_move_by_4 [some (.ref b), some (.bl fl), some (.int kind), some (.int (1 + many)), some (.int (f : Nat)), some (.int (1 + (g : Nat))), some (.str (trn lf))] L6 { nx := fun _ L' => R .non L', rt := R } := by
      intro lf
      unfold q_move_by_4
      walk_at "ev105"
      refine ⟨f, rfl, by omega, fun L7 l7 => ?_⟩
      walk_at "ev105"
      refine ⟨by decide, ?_⟩
      rw [show ((f : Int) + (1 + (g : Int))).fmod 20 = (((f + (1 + g)) % 20 : Nat) : Int) by rw [Int.fmod_eq_emod_of_nonneg _ (by decide)]; omega]
      refine ⟨(f + (1 + g)) % 20, rfl, Nat.mod_lt _ (by decide), fun L8 l8 => ?_⟩
      walk_at "ev105"
      refine ⟨by decide, noPl2, ?_⟩
      have hr : (1 + many).fdiv 2 = (1 + many) / 2 := Int.fdiv_eq_ediv_of_nonneg _ (by decide)
      exact h (.arc (unI f) (unI ((f + (1 + g)) % 20)) (1 + (1 + many).fdiv 2) lf) L8 ⟨unI_ok (by omega), unI_ok (Nat.mod_lt _ (by decide)), unI_ne (Nat.mod_lt _ (by decide)) (by omega) (by omega), by omega, by omega⟩ ((b6.le (l7.trans l8)).mono (by omega)) (l6.trans ((l7.trans l8).b b))
    obtain ⟨w', rfl⟩ := Int.eq_ofNat_of_zero_le w0
    have hw : w' = 0 ∨ w' = 1 := by omega
    rcases hw with rfl | rfl
    · refine ixl_nat (j := 0) e6 rfl ?_
      walk_at "ev105"
      exact fin true
    · refine ixl_nat (j := 1) e6 rfl ?_
      walk_at "ev105"
      exact fin false
  cases fl with
  | false => walk_at "ev105"; exact side
  | true =>
    walk_at "ev105"
    by_cases hk : 0 < kind
    · rw [if_pos hk]; exact side
    · rw [if_neg hk]; exact arc _
end
section
open PySem PySem.Spec PyProof.Rows L2
theorem seqIx_nat {w n : Nat} (h : w < n) : PySem.seqIndex? (w : Int) n = some w := by
  unfold PySem.seqIndex?
  show (if (decide (0 ≤ (if (w : Int) < 0 then (w : Int) + (n : Int) else (w : Int))) && decide ((if (w : Int) < 0 then (w : Int) + (n : Int) else (w : Int)) < (n : Int))) = true then some ((if (w : Int) < 0 then (w : Int) + (n : Int) else (w : Int))).toNat else none) = some w
  have e : (if (w : Int) < 0 then (w : Int) + (n : Int) else (w : Int)) = w := if_neg (by omega)
  rw [e, decide_eq_true (show (0 : Int) ≤ w by omega), decide_eq_true (show (w : Int) < n by omega)]
  rfl
theorem erase_map {α β : Type} (f : α → β) : ∀ (l : List α) (i : Nat), (l.map f).eraseIdx i = (l.eraseIdx i).map f
  | [], _ => rfl
  | _ :: _, 0 => rfl
  | x :: r, i + 1 => by
    show f x :: (r.map f).eraseIdx i = _
    rw [erase_map f r i]; rfl
theorem ok_q_path_of : ∀ args L R, args.length = 2 → sq_path_of args L R → q_path_of_0 (initE 6 args) L { nx := fun _ L' => R .non L', rt := R } := by
  rintro _ L R _ ⟨s, c, ms, rfl, e, hm, hl, hs, h⟩
  unfold q_path_of_0
  show sSeq _ _ [some (vc s), some (.ref c), none, none, none, none] L _
  walk_at "ev105"
  intro p hp
  have e0 := put_same (L := L) (a := p) (o := .l [])
  have l0 := Le.new (o := .l []) hp
  have npc : c ≠ p := fun z => by rw [z, hp] at e; cases e
  generalize put L p _ = L0 at *
  unfold q_path_of_1
  walk_at "ev105"
  rw [e_lsK (l0 _ _ e)]
  refine loop_i (fun i en l => ∃ z4 z5, en = [some (vc s), some (.ref c), some (vc (endP s (mvPs s (ms.take i)))), some (.ref p), z4, z5] ∧ l p = some (.l ((mvPs s (ms.take i)).map pcV)) ∧ Le L l) ⟨_, _, rfl, e0, l0⟩ (fun i en l ⟨_, _, _, _, q⟩ => q _ _ e) ?_ ?_
  · rintro i t en l K hx ⟨z4, z5, rfl, ep, hle⟩ hK
    rw [List.getElem?_map] at hx
    cases hq : ms[i]? with
    | none => rw [hq] at hx; cases hx
    | some m =>
      rw [hq] at hx
      cases hx
      have hmm := hm m (List.mem_of_getElem? hq)
      have ht : ms.take (i + 1) = ms.take i ++ [m] := by rw [List.take_add_one, hq]; rfl
      have hi := (List.getElem?_eq_some_iff.mp hq).1
      obtain ⟨_, _, pe⟩ := mvs_ok (ms := ms.take i) (fun x hx => hm x (List.mem_of_mem_take hx)) hs (by decide) (by rw [List.length_take]; omega)
      have pe : P65 148 (endP s (mvPs s (ms.take i))) := pe.mono (by rw [List.length_take]; omega)
      have hpl : (mvPs s (ms.take i)).length ≤ 12 := by rw [mvPs_len, List.length_take]; omega
      have hK' : ∀ z5 l', l' p = some (.l ((mvPs s (ms.take i)).map pcV ++ [pcV (mvP (endP s (mvPs s (ms.take i))) m)])) → Le L l' → K [some (vc s), some (.ref c), some (vc (mvP (endP s (mvPs s (ms.take i))) m).to), some (.ref p), some (mvV m), z5] l' := by
        intro z5 l' h1 h2
        refine hK _ _ ⟨some (mvV m), z5, ?_, ?_, h2⟩
        · rw [ht, mvPs_app, endP_app]
        · rw [ht, mvPs_app, List.map_append]; exact h1
      clear hK
      generalize mvPs s (ms.take i) = ps at *
      generalize endP s ps = w at *
      have sw := pe.sz (by decide) (by decide)
      walk_at "ev105"
      unfold q_path_of_1f_0
      cases m with
      | side u t =>
        simp only [mvV] at hK' ⊢
        walk_at "ev105"
        unfold q_path_of_1f_0a_0
        walk_at "ev105"
        have st : Sz 4 (t : Rat) := Sz.int (by have := hmm.2; show t.natAbs < 16; omega) (by decide)
        refine ⟨u, (t : Rat), rfl, hmm.1.sz.mono (by decide), st.mono (by decide), ?_⟩
        refine ⟨w, vscl u (t : Rat), rfl, sw.mono (by decide), (hmm.1.sz.scl st).mono (by decide), ?_⟩
        unfold q_path_of_1f_0a_1
        walk_at "ev105"
        exact ⟨ty_list ep, e_app ep ⟨by rw [List.length_map]; show _ < 16777216; omega, hK' _ _ put_same (hle.put hp)⟩⟩
      | arc u o r lf =>
        simp only [mvV] at hK' ⊢
        walk_at "ev105"
        unfold q_path_of_1f_0b_0
        walk_at "ev105"
        have st : Sz 4 (r : Rat) := Sz.int (by have := hmm.2.2.2; show r.natAbs < 16; omega) (by decide)
        refine ⟨u, (r : Rat), rfl, hmm.1.sz.mono (by decide), st.mono (by decide), ?_⟩
        refine ⟨w, vscl u (r : Rat), rfl, sw.mono (by decide), (hmm.1.sz.scl st).mono (by decide), ?_⟩
        unfold q_path_of_1f_0b_1
        walk_at "ev105"
        have sm := sw.sub (hmm.1.sz.scl st)
        refine ⟨o, (r : Rat), rfl, hmm.2.1.sz.mono (by decide), st.mono (by decide), ?_⟩
        refine ⟨vsub w (vscl u (r : Rat)), vscl o (r : Rat), rfl, sm.mono (by decide), (hmm.2.1.sz.scl st).mono (by decide), ?_⟩
        unfold q_path_of_1f_0b_2
        walk_at "ev105"
        refine ⟨ty_list ep, ?_⟩
        rw [show oIx (PV.tup [.str "arc", vc u, vc o, fr (r : Rat), .str (trn lf)]) (.int 4) = fun l K => K (.str (trn lf)) l from rfl]
        exact e_app ep ⟨by rw [List.length_map]; show _ < 16777216; omega, hK' _ _ put_same (hle.put hp)⟩
  · rintro en l ⟨z4, z5, rfl, ep, hle⟩
    rw [List.length_map, List.take_length] at ep
    unfold q_path_of_2
    walk_at "ev105"
    rw [e_tupl ep]
    exact h l hle
theorem ok_q_path_by : ∀ args L R, args.length = 2 → sq_path_by args L R → q_path_by_0 (initE 9 args) L { nx := fun _ L' => R .non L', rt := R } := by
  rintro _ L R _ ⟨b, n, mo, rfl, mo0, mo9, hb, hn, h⟩
  unfold q_path_by_0
  show sSeq _ _ [some (.ref b), some (.int mo), none, none, none, none, none, none, none] L _
  walk_at "ev105"
  refine ⟨b, 4, n, rfl, hb, by omega, by decide, denS (by decide), fun way L1 w0 w1 b1 l1 => ?_⟩
  walk_at "ev105"
  refine ⟨b, mo, _, rfl, b1, by omega, by omega, denS (by omega), fun many L2 m0 m1 b2 l2 => ?_⟩
  have l2 := l1.trans l2
  walk_at "ev105"
  unfold q_path_by_1
  walk_at "ev105"
  refine ⟨b, 9, _, rfl, b2, by omega, by decide, denS (by decide), fun x L3 x0 x1 b3 l3 => ?_⟩
  have l3 := l2.trans l3
  walk_at "ev105"
  refine ⟨b, 9, _, rfl, b3, by omega, by decide, denS (by decide), fun y L4 y0 y1 b4 l4 => ?_⟩
  have l4 := l3.trans l4
  walk_at "ev105"
  have i4 : ∀ z : Int, 0 ≤ z → z < 9 → IsI 65 (65 * 4) ((z - 4 : Int) : Rat) := fun z h0 h1 => ⟨(z - 4) * 65, by rw [Rat.intCast_mul], by omega, by omega⟩
  have hs : P65 4 (((x - 4 : Int) : Rat), ((y - 4 : Int) : Rat)) := ⟨i4 x x0 x1, i4 y y0 y1⟩
  have hvs : PV.tup [.tup [.int (x - 4), .int 1], .tup [.int (y - 4), .int 1]] = vc (((x - 4 : Int) : Rat), ((y - 4 : Int) : Rat)) := rfl
  rw [hvs]
  generalize (((x - 4 : Int) : Rat), ((y - 4 : Int) : Rat)) = s at *
  unfold q_path_by_2
  -- the count
  obtain ⟨N, hN, hN9, hN1⟩ : ∃ N : Nat, (if way < 2 then (1 + many) else 1 + (1 + many).fdiv 2) = (N : Int) ∧ (way < 2 → N ≤ 9 ∧ (N : Int) ≤ mo) ∧ 1 ≤ N ∧ (¬ way < 2 → N ≤ 5 ∧ 2 * (N : Int) ≤ mo + 2) := by
    have hr : (1 + many).fdiv 2 = (1 + many) / 2 := Int.fdiv_eq_ediv_of_nonneg _ (by decide)
    by_cases hw : way < 2
    · rw [if_pos hw]; exact ⟨(1 + many).toNat, by omega, fun _ => ⟨by omega, by omega⟩, by omega, fun z => absurd hw z⟩
    · rw [if_neg hw, hr]; exact ⟨(1 + (1 + many) / 2).toNat, by omega, fun z => absurd z hw, by omega, fun _ => ⟨by omega, by omega⟩⟩
  obtain ⟨hN1, hN5⟩ := hN1
  have cnt : ∀ (R' : PK), R' (.int N) L4 → wIfE (wBin oLt (wVar 2) (wC (.int 2))) (wVar 3) (wBin oAdd (wC (.int 1)) (wBin oDiv (wVar 3) (wC (.int 2)))) [some (.ref b), some (.int mo), some (.int way), some (.int (1 + many)), some (vc s), none, none, none, none] L4 R' := by
    intro R' hR
    walk_at "ev105"
    by_cases hw : way < 2
    · rw [if_pos hw] at hN ⊢
      rw [hN]; exact hR
    · rw [if_neg hw] at hN ⊢
      refine ⟨by decide, noPl2, ?_⟩
      rw [hN]; exact hR
  have hrl : (rgL 0 N).length = N := by unfold rgL; rw [List.length_map, List.length_range]
  have main : ∀ K : PK, (∀ (ms : List Mv) (q : Addr) L', L q = none → L' q = some (.l (ms.map mvV)) → ms.length = N → (∀ m ∈ ms, MvOk m) → LeB b L L' → Bx b (n + 4 + 6 * (N : Int)) L' → K (.ref q) L') →
      wComp [7] (iR1 (wIfE (wBin oLt (wVar 2) (wC (.int 2))) (wVar 3) (wBin oAdd (wC (.int 1)) (wBin oDiv (wVar 3) (wC (.int 2)))))) (gN 7) (wC (.bl true)) (wCall sq_move_by [wVar 0, wC (.bl true)]) [some (.ref b), some (.int mo), some (.int way), some (.int (1 + many)), some (vc s), none, none, none, none] L4 K := by
    intro K hK
    rw [e_comp, e_r1]
    refine cnt _ ?_
    rw [e_r1K]
    refine ⟨⟨by omega, by omega⟩, ?_⟩
    rw [Int.toNat_natCast]
    refine comp_i (fun i acc l' => ∃ ms : List Mv, acc = ms.map mvV ∧ ms.length = i ∧ (∀ m ∈ ms, MvOk m) ∧ LeB b L l' ∧ Bx b (n + 4 + 6 * (i : Int)) l') ⟨[], rfl, rfl, fun d hd => by (cases hd), l4, b4.mono (by omega)⟩ (fun _ _ _ _ => trivial) (by rw [hrl]; show _ < 16777216; omega) ?_ ?_
    · rintro i t acc l' K' hx ⟨ms, rfl, hl, hms, le, bx⟩ hi hK'
      have hin := (rgL_get hx).2
      walk_at "ev105"
      refine ⟨b, _, true, rfl, bx, by omega, fun m l2 hm b' le' => ⟨by rw [List.length_map]; show _ < 16777216; omega, hK' _ _ ?_ ⟨ms ++ [m], ?_, ?_, ?_, le.trans le', b'.mono (by omega)⟩⟩⟩
      · rw [List.length_append, List.length_map]; show ms.length + 1 ≤ i + 1; omega
      · rw [List.map_append]; rfl
      · rw [List.length_append, hl]; rfl
      · intro q hq
        rcases List.mem_append.mp hq with z | z
        · exact hms q z
        · cases List.mem_singleton.mp z
          exact hm
    · rintro acc l' ⟨ms, rfl, hl, hms, le, bx⟩
      rw [hrl] at hl bx
      intro q hq
      have nL : L q = none := by
        cases hz : L q with
        | none => rfl
        | some o =>
          by_cases hqb : q = b
          · obtain ⟨_, _, _, hc, _⟩ := bx
            rw [← hqb, hq] at hc; cases hc
          · have := le q o hqb hz
            rw [hq] at this; cases this
      exact hK ms q _ nL put_same hl hms (le.trans ((Le.new hq).b b)) (bx.new hq)
  have fin : ∀ (ms : List Mv) (q : Addr) L' z6 z7 z8, L' q = some (.l (ms.map mvV)) → ms ≠ [] → (ms.length ≤ 12 ∧ (ms.length : Int) ≤ mo + 2) → (∀ m ∈ ms, MvOk m) → LeB b L L' → Bx b (n + 100) L' → q_path_by_4 [some (.ref b), some (.int mo), some (.int way), some (.int (1 + many)), some (vc s), some (.ref q), z6, z7, z8] L' { nx := fun _ L' => R .non L', rt := R } := by
    intro ms q L' z6 z7 z8 eq hne hl12 hok hle hbx
    unfold q_path_by_4
    walk_at "ev105"
    exact ⟨s, q, ms, rfl, eq, hok, hl12.1, hs, fun L6 l6 => h s ms L6 hne hl12 hok hs (hbx.le l6) (hle.trans (l6.b b))⟩
  rw [e_seq, e_asg]
  refine main _ fun ms q L5 nq e5 hl hms le bx => ?_
  have hne : ms ≠ [] := fun z => by rw [z] at hl; have : N = 0 := hl.symm; omega
  have nqb : q ≠ b := fun z => by
    obtain ⟨_, _, _, hc, _⟩ := hb
    rw [← z, nq] at hc
    cases hc
  walk_at "ev105"
  unfold q_path_by_3
  walk_at "ev105"
  by_cases hw : 1 < way
  · rw [if_pos hw]
    unfold q_path_by_3a_0
    walk_at "ev105"
    rw [e_lsK e5]
    refine comp_map (α := Mv) (xs := ms) (f := mvV) (g := fun m => mvV (bkM m)) (fun l hl => hl _ _ e5) (by omega) ?_ ?_
    · intro m hm l R' hl hR'
      walk_at "ev105"
      exact ⟨m, rfl, hms m hm, hR' l hl⟩
    · intro l hl6 p6 hp6
      have e6 := put_same (L := l) (a := p6) (o := .l (ms.map fun m => mvV (bkM m)))
      have l6 := hl6.trans (Le.new (o := .l (ms.map fun m => mvV (bkM m))) hp6)
      generalize put l p6 _ = L6 at *
      have e56 := l6 _ _ e5
      have e6' : L6 p6 = some (.l ((ms.map bkM).map mvV)) := by rw [e6, List.map_map]; rfl
      refine e_cat e56 e6' ⟨by rw [List.length_map, List.length_map, List.length_map]; show _ ≤ 16777216; omega, ?_⟩
      intro p7 hp7
      rw [← List.map_append]
      have e7 := put_same (L := L6) (a := p7) (o := .l ((ms ++ ms.map bkM).map mvV))
      have l7 := l6.trans (Le.new (o := .l ((ms ++ ms.map bkM).map mvV)) hp7)
      have b7 := bx.le l7
      have le7 := le.trans (l7.b b)
      have n7 : L p7 = none := by
        cases hz : L p7 with
        | none => rfl
        | some o =>
          by_cases hqb : p7 = b
          · obtain ⟨_, _, _, hc, _⟩ := bx.le l6
            rw [← hqb, hp7] at hc; cases hc
          · have := (le.trans (l6.b b)) p7 o hqb hz
            rw [hp7] at this; cases this
      have n7b : p7 ≠ b := fun z => by
        obtain ⟨_, _, _, hc, _⟩ := hb
        rw [← z, n7] at hc
        cases hc
      generalize put L6 p7 _ = L7 at *
      have hall : ∀ m ∈ ms ++ ms.map bkM, MvOk m := fun m hm => by
        rcases List.mem_append.mp hm with z | z
        · exact hms m z
        · obtain ⟨m', h1, rfl⟩ := List.mem_map.mp z
          exact bkM_ok (hms m' h1)
      have hl7 : (ms ++ ms.map bkM).length = 2 * N := by rw [List.length_append, List.length_map, hl]; omega
      have hN5 := hN5 (by omega)
      unfold q_path_by_3a_1
      walk_at "ev105"
      unfold q_path_by_3a_2 q_path_by_3a_2a_0
      walk_at "ev105"
      by_cases hw2 : way = 2
      · rw [if_pos hw2]
        rw [e_lenl e7]
        walk_at "ev105"
        rw [List.length_map, hl7]
        refine ⟨⟨by omega, by omega⟩, ?_⟩
        rw [Int.toNat_natCast]
        have hr2 : (rgL 0 (2 * N)).length = 2 * N := by unfold rgL; rw [List.length_map, List.length_range]
        refine comp_i (fun i acc l' => ∃ ds rs : List Mv, acc = ds.map mvV ∧ ds.length = i ∧ l' p7 = some (.l (rs.map mvV)) ∧ rs.length + i = 2 * N ∧ (∀ m ∈ ds, MvOk m) ∧ (∀ m ∈ rs, MvOk m) ∧ LeB b L l' ∧ Bx b (n + 4 + 6 * (N : Int) + (i : Int)) l') ⟨[], _, rfl, rfl, e7, by omega, fun d hd => (by cases hd), hall, le7, b7.mono (by omega)⟩ (fun _ _ _ _ => trivial) (by rw [hr2]; show _ < 16777216; omega) ?_ ?_
        · rintro i t acc l' K' hx ⟨ds, rs, rfl, hdl, er, hrs, hd, hr, lel, bxl⟩ hi hK'
          have hin := (rgL_get hx).2
          walk_at "ev105"
          refine ⟨ty_list er, ?_⟩
          rw [e_lenl er]
          walk_at "ev105"
          rw [List.length_map]
          refine ⟨b, (rs.length : Nat), _, rfl, bxl, by omega, by omega, denS (by omega), fun w L8 w0 w1 b8 l8 => ?_⟩
          obtain ⟨w, rfl⟩ := Int.eq_ofNat_of_zero_le w0
          have hwl : w < rs.length := by omega
          have e8 := l8 _ _ n7b er
          refine ⟨rs.map mvV, w, mvV rs[w], e8, by omega, by omega, ?_, ?_, ?_⟩
          · rw [List.length_map]
            exact seqIx_nat hwl
          · rw [List.getElem?_map, List.getElem?_eq_getElem hwl]; rfl
          refine ⟨by rw [List.length_map]; show _ < 16777216; omega, hK' _ _ ?_ ⟨ds ++ [rs[w]], rs.eraseIdx w, ?_, ?_, ?_, ?_, ?_, ?_, ?_, ?_⟩⟩
          · rw [List.length_append, List.length_map]; show ds.length + 1 ≤ i + 1; omega
          · rw [List.map_append]; rfl
          · rw [List.length_append, hdl]; rfl
          · rw [put_same, erase_map]
          · rw [List.length_eraseIdx_of_lt hwl]; omega
          · intro q hq
            rcases List.mem_append.mp hq with z | z
            · exact hd q z
            · cases List.mem_singleton.mp z
              exact hr _ (List.getElem_mem hwl)
          · exact fun q hq => hr q (List.mem_of_mem_eraseIdx hq)
          · exact (lel.trans l8).putF n7
          · exact (b8.putN n7b).mono (by omega)
        · rintro acc l' ⟨ds, rs, rfl, hdl, er, hrs, hd, hr, lel, bxl⟩
          rw [hr2] at hdl bxl
          intro p8 hp8
          walk_at "ev105"
          exact fin ds p8 _ _ _ _ put_same (fun z => by rw [z] at hdl; have : 2 * N = 0 := hdl.symm; omega) (by omega) hd (lel.trans ((Le.new hp8).b b)) ((bxl.new hp8).mono (by omega))
      · rw [if_neg hw2]
        exact fin _ p7 L7 _ _ _ e7 (fun z => hne (List.append_eq_nil_iff.mp z).1) ⟨by omega, by omega⟩ hall le7 (b7.mono (by omega))
  · rw [if_neg hw]
    have := hN9 (by omega)
    exact fin ms q L5 _ _ _ e5 hne ⟨by omega, by omega⟩ hms le (bx.mono (by omega))
end
section
open PySem PySem.Spec PyProof.Rows L2
inductive Tg (L : Sto) (B : Nat) : Nat → PV → Prop
  | non {n : Nat} : Tg L B n .non
  | bl {n : Nat} (b : Bool) : Tg L B n (.bl b)
  | int {n : Nat} {i : Int} (h : i.natAbs < 2 ^ B) : Tg L B n (.int i)
  | str {n : Nat} {s : Str} (h : PyData.strOk s = true) (hl : s.length ≤ 1000 + B) : Tg L B n (.str s)
  | lst {n : Nat} {a : Addr} {ys : List PV} (e : L a = some (.l ys)) (h : ∀ y ∈ ys, Tg L B n y) : Tg L B (n + 1) (.ref a)
  | tup {n : Nat} {xs : List PV} (hl : xs.length ≤ B) (h : ∀ y ∈ xs, Tg L B n y) : Tg L B (n + 1) (.tup xs)
theorem Tg.le {L L' : Sto} {B : Nat} (hl : Le L L') {n : Nat} {x : PV} (h : Tg L B n x) : Tg L' B n x := by
  induction h with
  | non => exact .non
  | bl b => exact .bl b
  | int h => exact .int h
  | str h h' => exact .str h h'
  | lst e h ih => exact .lst (hl _ _ e) ih
  | tup hl' h ih => exact .tup hl' ih
theorem Tg.mono {L : Sto} {B C : Nat} (hB : B ≤ C) {n : Nat} {x : PV} (h : Tg L B n x) : ∀ {m : Nat}, n ≤ m → Tg L C m x := by
  induction h with
  | non => intro m hm; exact .non
  | bl b => intro m hm; exact .bl b
  | int h => intro m hm; exact .int (Nat.lt_of_lt_of_le h (Nat.pow_le_pow_right (by decide) hB))
  | str h h' => intro m hm; exact .str h (by omega)
  | lst e h ih =>
    intro m hm
    obtain ⟨k, rfl⟩ : ∃ k, m = k + 1 := ⟨m - 1, by omega⟩
    exact .lst e fun y hy => ih y hy (by omega)
  | tup hl h ih =>
    intro m hm
    obtain ⟨k, rfl⟩ : ∃ k, m = k + 1 := ⟨m - 1, by omega⟩
    exact .tup (by omega) fun y hy => ih y hy (by omega)
theorem pds_of {L : Sto} {n : Nat} : ∀ {xs : List PV}, (∀ y ∈ xs, ∃ d, PD L y d ∧ d.canLay0 = true ∧ d.depth ≤ n) → ∃ ds, PDs L xs ds ∧ PyData.canLayAll0 ds = true ∧ PyData.depthAll ds ≤ n
  | [], _ => ⟨[], .nil, rfl, Nat.zero_le _⟩
  | x :: r, h => by
    obtain ⟨d, h1, h2, h3⟩ := h x List.mem_cons_self
    obtain ⟨ds, k1, k2, k3⟩ := pds_of (xs := r) fun y hy => h y (List.mem_cons_of_mem _ hy)
    refine ⟨d :: ds, .cons h1 k1, ?_, ?_⟩
    · show (d.canLay0 && PyData.canLayAll0 ds) = true
      rw [h2, k2]; rfl
    · show max d.depth (PyData.depthAll ds) ≤ n
      omega
theorem Tg.pd {L : Sto} {B n : Nat} {x : PV} (h : Tg L B n x) : ∃ d, PD L x d ∧ d.canLay0 = true ∧ d.depth ≤ n := by
  induction h with
  | non => exact ⟨_, .non, rfl, Nat.zero_le _⟩
  | bl b => exact ⟨_, .bl b, rfl, Nat.zero_le _⟩
  | int h => exact ⟨_, .int _, rfl, Nat.zero_le _⟩
  | str h h' => exact ⟨_, .str _, h, Nat.zero_le _⟩
  | lst e h ih =>
    obtain ⟨ds, k1, k2, k3⟩ := pds_of ih
    exact ⟨_, .lst e k1, k2, Nat.succ_le_succ k3⟩
  | tup hl h ih =>
    obtain ⟨ds, k1, k2, k3⟩ := pds_of ih
    exact ⟨_, .tup k1, k2, Nat.succ_le_succ k3⟩
/-- a truth that says just this -/
noncomputable def tr (p : Prop) : Bool := @decide p (Classical.propDecidable p)
theorem tr_iff {p : Prop} : tr p = true ↔ p := by unfold tr; exact @decide_eq_true_iff p (Classical.propDecidable p)
theorem tr_of {p : Prop} {b : Bool} (h : b = true ↔ p) : b = tr p := by
  have := @tr_iff p
  cases b <;> cases e : tr p <;> simp_all
theorem tr_t {p : Prop} (h : p) : tr p = true := tr_iff.mpr h
theorem tr_f {p : Prop} (h : ¬ p) : tr p = false := by
  cases e : tr p with
  | false => rfl
  | true => exact absurd (tr_iff.mp e) h
theorem tr_eq {p q : Prop} (h : p ↔ q) : tr p = tr q := tr_of (tr_iff.trans h)
def IsFr (x : PV) : Prop := ∃ q : Rat, x = fr q
def IsPt (x : PV) : Prop := ∃ v : Vc, x = vc v
theorem fr_of {n d : Int} (h1 : 1 ≤ d) (h2 : Nat.gcd n.natAbs d.natAbs = 1) : ∃ q : Rat, PV.tup [.int n, .int d] = fr q := by
  obtain ⟨k, rfl⟩ := Int.eq_ofNat_of_zero_le (show 0 ≤ d by omega)
  refine ⟨⟨n, k, by omega, h2⟩, rfl⟩
theorem fr_inj' {p q : Rat} (h : fr p = fr q) : p = q := by
  have h : PV.tup [.int p.num, .int p.den] = PV.tup [.int q.num, .int q.den] := h
  injection h with h
  injection h with h1 h2
  injection h2 with h2 _
  injection h1 with h1
  injection h2 with h2
  exact Rat.ext h1 (by omega)
theorem vc_inj' {p q : Vc} (h : vc p = vc q) : p = q := by
  have h : PV.tup [fr p.1, fr p.2] = PV.tup [fr q.1, fr q.2] := h
  injection h with h
  injection h with h1 h2
  injection h2 with h2 _
  exact Prod.ext (fr_inj' h1) (fr_inj' h2)
theorem Tg.num {L : Sto} {B n : Nat} {x : PV} (h : Tg L B n x) : ∃ b, numB L x = some b ∧ (b = true ↔ ∃ i, x = .int i) := by
  cases h with
  | non => exact ⟨false, rfl, fun z => (by cases z), fun ⟨i, z⟩ => (by cases z)⟩
  | bl b => exact ⟨false, rfl, fun z => (by cases z), fun ⟨i, z⟩ => (by cases z)⟩
  | int h => exact ⟨true, rfl, fun _ => ⟨_, rfl⟩, fun _ => rfl⟩
  | str h h' => exact ⟨false, rfl, fun z => (by cases z), fun ⟨i, z⟩ => (by cases z)⟩
  | lst e h =>
    refine ⟨false, ?_, fun z => (by cases z), fun ⟨i, z⟩ => (by cases z)⟩
    show (L _).map _ = _
    rw [e]; rfl
  | tup hl h => exact ⟨false, rfl, fun z => (by cases z), fun ⟨i, z⟩ => (by cases z)⟩
theorem Tg.frac {L : Sto} {B n : Nat} {x : PV} (h : Tg L B n x) : fracB L x = some (tr (IsFr x)) := by
  have no : ∀ {y : PV}, (∀ xs, y ≠ .tup xs) → tr (IsFr y) = false := fun hy => tr_f fun ⟨q, hq⟩ => hy _ hq
  cases h with
  | non => rw [no (fun xs z => by cases z)]; rfl
  | bl b => rw [no (fun xs z => by cases z)]; rfl
  | int h => rw [no (fun xs z => by cases z)]; rfl
  | str h h' => rw [no (fun xs z => by cases z)]; rfl
  | lst e h =>
    rw [no (fun xs z => by cases z)]
    show (L _).map _ = _
    rw [e]; rfl
  | @tup n xs hl h =>
    clear hl
    match xs, h with
    | [], h => rw [tr_f (fun ⟨q, hq⟩ => by cases hq)]; rfl
    | [a], h => rw [tr_f (fun ⟨q, hq⟩ => by cases hq)]; rfl
    | a :: c :: d :: r, h => rw [tr_f (fun ⟨q, hq⟩ => by cases hq)]; rfl
    | [a, c], h =>
      obtain ⟨u, hu, iu⟩ := (h a (by simp)).num
      obtain ⟨w, hw, iw⟩ := (h c (by simp)).num
      cases u with
      | false =>
        have e0 : fracB L (.tup [a, c]) = some false := by simp only [fracB, hu]
        have hn : ¬ IsFr (.tup [a, c]) := by
          rintro ⟨q, hq⟩
          have : a = .int q.num := by
            have hq : PV.tup [a, c] = .tup [.int q.num, .int q.den] := hq
            injection hq with hq
            injection hq
          exact absurd (iu.mpr ⟨_, this⟩) (by decide)
        rw [e0, tr_f hn]
      | true =>
        cases w with
        | false =>
          have e0 : fracB L (.tup [a, c]) = some false := by simp only [fracB, hu, hw]
          have hn : ¬ IsFr (.tup [a, c]) := by
            rintro ⟨q, hq⟩
            have : c = .int q.den := by
              have hq : PV.tup [a, c] = .tup [.int q.num, .int q.den] := hq
              injection hq with hq
              injection hq with _ hq
              injection hq
            exact absurd (iw.mpr ⟨_, this⟩) (by decide)
          rw [e0, tr_f hn]
        | true =>
          obtain ⟨i, rfl⟩ := iu.mp rfl
          obtain ⟨d, rfl⟩ := iw.mp rfl
          show some (decide (1 ≤ d) && decide (Nat.gcd i.natAbs d.natAbs = 1)) = _
          congr 1
          refine tr_of ?_
          rw [Bool.and_eq_true, decide_eq_true_iff, decide_eq_true_iff]
          constructor
          · rintro ⟨h1, h2⟩
            exact fr_of h1 h2
          · rintro ⟨q, hq⟩
            have hq : PV.tup [.int i, .int d] = .tup [.int q.num, .int q.den] := hq
            injection hq with hq
            injection hq with h1 hq
            injection hq with h2 _
            injection h1 with h1
            injection h2 with h2
            subst h1
            subst h2
            exact ⟨den_pos q, q.reduced⟩
theorem Tg.fsz {L : Sto} {B n : Nat} {q : Rat} (h : Tg L B n (fr q)) : Sz B q := by
  have h : Tg L B n (.tup [.int q.num, .int q.den]) := h
  cases h with
  | tup hl h =>
    have h1 := h (.int q.num) (by simp)
    have h2 := h (.int q.den) (by simp)
    cases h1 with
    | int h1 =>
      cases h2 with
      | int h2 => exact ⟨h1, by rw [Int.natAbs_natCast] at h2; exact h2⟩
theorem Tg.vsz {L : Sto} {B n : Nat} {v : Vc} (h : Tg L B n (vc v)) : SzV B v := by
  have h : Tg L B n (.tup [fr v.1, fr v.2]) := h
  cases h with
  | tup hl h => exact ⟨(h _ (by simp)).fsz, (h _ (by simp)).fsz⟩
theorem Tg.ofF {L : Sto} {B : Nat} {q : Rat} (h : Sz B q) (hB : 2 ≤ B) : Tg L B 1 (Mp.fr q) := .tup hB fun y hy => by
  have hy' : y = .int q.num ∨ y = .int q.den := by simpa [Mp.fr] using hy
  rcases hy' with rfl | rfl
  · exact .int h.1
  · exact .int (by rw [Int.natAbs_natCast]; exact h.2)
theorem Tg.ofV {L : Sto} {B : Nat} {v : Vc} (h : SzV B v) (hB : 2 ≤ B) : Tg L B 2 (Mp.vc v) := .tup hB fun y hy => by
  have hy' : y = Mp.fr v.1 ∨ y = Mp.fr v.2 := by simpa [Mp.vc] using hy
  rcases hy' with rfl | rfl
  · exact .ofF h.1 hB
  · exact .ofF h.2 hB
theorem ok_side : PyData.strOk "side" = true := by decide +kernel
theorem ok_arc : PyData.strOk "arc" = true := by decide +kernel
theorem ok_trn (lf : Bool) : PyData.strOk (trn lf) = true := by cases lf <;> decide +kernel
theorem len_side {B : Nat} : (("side" : Str)).length ≤ 1000 + B := Nat.le_trans (show (("side" : Str)).length ≤ 1000 by decide +kernel) (Nat.le_add_right _ _)
theorem len_arc {B : Nat} : (("arc" : Str)).length ≤ 1000 + B := Nat.le_trans (show (("arc" : Str)).length ≤ 1000 by decide +kernel) (Nat.le_add_right _ _)
theorem len_trn {B : Nat} (lf : Bool) : (trn lf).length ≤ 1000 + B := Nat.le_trans (show (trn lf).length ≤ 1000 by cases lf <;> decide +kernel) (Nat.le_add_right _ _)
def s_is_point : Spec := fun args L R => ∃ x B n, args = [x] ∧ Tg L B n x ∧ ∀ L', Le L L' → R (.bl (tr (IsPt x))) L'
def d_is_point_0 : WS := sRet (wAnd (wBi gIsi [wVar 0, wC (.ty "tuple")]) (wAnd (wBin oEq (wBi gLen [wVar 0]) (wC (.int 2))) (wBi gAll [wComp [1] (iAny (wVar 0)) (gN 1) (wC (.bl true)) (wCall s_is_fraction [wVar 1])])))
theorem isi_tupT {L : Sto} {R : PK} {B n : Nat} {x : PV} (h : Tg L B n x) : gIsi [x, .ty "tuple"] L R = R (.bl (tr (∃ xs, x = .tup xs))) L := by
  cases h with
  | non => rw [tr_f (fun ⟨xs, z⟩ => by cases z), isi_non_tuple]
  | bl b => rw [tr_f (fun ⟨xs, z⟩ => by cases z), isi_bl_tuple]
  | int h => rw [tr_f (fun ⟨xs, z⟩ => by cases z), isi_int_tuple]
  | str h h' => rw [tr_f (fun ⟨xs, z⟩ => by cases z), isi_str_tuple]
  | lst e h => rw [tr_f (fun ⟨xs, z⟩ => by cases z), isi_rl_tuple e]
  | tup hl h => rw [tr_t ⟨_, rfl⟩, isi_tup_tuple]
theorem isi_strT {L : Sto} {R : PK} {B n : Nat} {x : PV} (h : Tg L B n x) : gIsi [x, .ty "str"] L R = R (.bl (tr (∃ s, x = .str s))) L := by
  cases h with
  | non => rw [tr_f (fun ⟨xs, z⟩ => by cases z), isi_non_str]
  | bl b => rw [tr_f (fun ⟨xs, z⟩ => by cases z), isi_bl_str]
  | int h => rw [tr_f (fun ⟨xs, z⟩ => by cases z), isi_int_str]
  | str h h' => rw [tr_t ⟨_, rfl⟩, isi_str_str]
  | lst e h => rw [tr_f (fun ⟨xs, z⟩ => by cases z), isi_rl_str e]
  | tup hl h => rw [tr_f (fun ⟨xs, z⟩ => by cases z), isi_tup_str]
theorem bIf_tr {p : Prop} {A C : Prop} (h1 : p → A) (h2 : ¬ p → C) : bIf (.bl (tr p)) A C := bIf_i (fun e => h1 (tr_iff.mp e)) fun e => h2 fun k => by rw [tr_t k] at e; cases e
theorem Tg.sub {L : Sto} {B n : Nat} {xs : List PV} (h : Tg L B n (.tup xs)) : ∃ m, n = m + 1 ∧ ∀ y ∈ xs, Tg L B m y := by
  cases h with
  | tup hl h => exact ⟨_, rfl, h⟩
theorem pt_two {xs : List PV} (h : IsPt (.tup xs)) : ∃ a c, xs = [a, c] ∧ IsFr a ∧ IsFr c := by
  obtain ⟨v, hv⟩ := h
  have hv : PV.tup xs = .tup [fr v.1, fr v.2] := hv
  injection hv with hv
  exact ⟨_, _, hv, ⟨_, rfl⟩, ⟨_, rfl⟩⟩
theorem two_pt {a c : PV} (h1 : IsFr a) (h2 : IsFr c) : IsPt (.tup [a, c]) := by
  obtain ⟨p, rfl⟩ := h1
  obtain ⟨q, rfl⟩ := h2
  exact ⟨(p, q), rfl⟩
theorem len2 {xs : List PV} (h : (xs.length : Int) = 2) : ∃ a c, xs = [a, c] := by
  match xs, h with
  | [a, c], _ => exact ⟨a, c, rfl⟩
  | [], h => cases h
  | [a], h => simp at h
  | a :: c :: d :: r, h => rw [List.length_cons, List.length_cons, List.length_cons] at h; omega
theorem ok_is_point : ∀ args L R, args.length = 1 → s_is_point args L R → d_is_point_0 (initE 2 args) L { nx := fun _ L' => R .non L', rt := R } := by
  rintro _ L R _ ⟨x, B, n, rfl, hx, h⟩
  unfold d_is_point_0
  show sRet _ [some x, none] L _
  walk_at "ev105"
  rw [isi_tupT hx]
  refine bIf_tr (fun hp => ?_) fun hp => ?_
  · obtain ⟨xs, rfl⟩ := hp
    obtain ⟨m, rfl, hs⟩ := hx.sub
    walk_at "ev105"
    by_cases h2 : (xs.length : Int) = 2
    · rw [if_pos h2]
      obtain ⟨a, c, rfl⟩ := len2 h2
      rw [show ([a, c] : List PV) = [a, c].map id from rfl]
      refine comp_map (g := fun z => .bl (tr (IsFr z))) (fun _ _ => trivial) (show 2 < 16000000 by decide) ?_ ?_
      · intro z hz l R' hl hR'
        walk_at "ev105"
        exact ⟨z, _, rfl, ((hs z hz).le hl).frac, hR' l hl⟩
      · intro l hl p1 hp1
        refine ⟨[tr (IsFr a), tr (IsFr c)], put_same, ?_⟩
        have : ([tr (IsFr a), tr (IsFr c)].all id) = tr (IsPt (.tup [a, c])) := by
          refine tr_of ?_
          show (tr (IsFr a) && (tr (IsFr c) && true)) = true ↔ _
          rw [Bool.and_eq_true, Bool.and_true, tr_iff, tr_iff]
          constructor
          · rintro ⟨h1, h2⟩; exact two_pt h1 h2
          · intro z
            obtain ⟨a', c', e, h1, h2⟩ := pt_two z
            cases e
            exact ⟨h1, h2⟩
        rw [this]
        exact h _ (hl.trans (Le.new hp1))
    · rw [if_neg h2]
      have := h L .refl
      rw [tr_f (fun z => h2 (by obtain ⟨a, c, rfl, _⟩ := pt_two z; rfl))] at this
      exact this
  · have := h L .refl
    rw [tr_f (fun ⟨v, z⟩ => hp ⟨_, z⟩)] at this
    exact this
theorem pcV_inj {p q : Pc} (h : pcV p = pcV q) : p = q := by
  cases p with
  | side t =>
    cases q with
    | side u =>
      have h : PV.tup [.str "side", vc t] = PV.tup [.str "side", vc u] := h
      injection h with h
      injection h with _ h
      injection h with h _
      rw [vc_inj' h]
    | arc m u lf => cases h
  | arc m t lf =>
    cases q with
    | side u => cases h
    | arc m' t' lf' =>
      have h : PV.tup [.str "arc", vc m, vc t, .str (trn lf)] = PV.tup [.str "arc", vc m', vc t', .str (trn lf')] := h
      injection h with h
      injection h with _ h
      injection h with h1 h
      injection h with h2 h
      injection h with h3 _
      injection h3 with h3
      have : lf = lf' := by
        have e := trn_trn lf lf'
        rw [h3] at e
        have e2 := trn_trn lf' lf'
        rw [e] at e2
        simpa using e2
      rw [vc_inj' h1, vc_inj' h2, this]
def IsPc (b : Vc) (x : PV) : Prop := ∃ q, x = pcV q ∧ PcOk b q
def IsPcs (b : Vc) (xs : List PV) : Prop := ∃ ps : List Pc, xs = ps.map pcV ∧ PcsOk b ps
def IsPath (x : PV) : Prop := ∃ p : Pth, x = pth p ∧ p.2 ≠ [] ∧ PcsOk p.1 p.2
theorem pcs_cons {b : Vc} {x : PV} {r : List PV} : IsPcs b (x :: r) ↔ ∃ q, x = pcV q ∧ PcOk b q ∧ IsPcs q.to r := by
  constructor
  · rintro ⟨ps, h1, h2⟩
    cases ps with
    | nil => cases h1
    | cons q ps =>
      injection h1 with h1 h3
      exact ⟨q, h1, h2.1, ps, h3, h2.2⟩
  · rintro ⟨q, h1, h2, ps, h3, h4⟩
    exact ⟨q :: ps, by rw [h1, h3]; rfl, h2, h4⟩
theorem path_pcs {b : Vc} {xs : List PV} : IsPath (.tup [vc b, .tup xs]) ↔ xs ≠ [] ∧ IsPcs b xs := by
  constructor
  · rintro ⟨p, h1, h2, h3⟩
    have h1 : PV.tup [vc b, .tup xs] = .tup [vc p.1, .tup (p.2.map pcV)] := h1
    injection h1 with h1
    injection h1 with h1 h4
    injection h4 with h4 _
    injection h4 with h4
    have := vc_inj' h1
    subst this
    exact ⟨fun z => h2 (by rw [h4] at z; simpa using z), p.2, h4, h3⟩
  · rintro ⟨h1, ps, h2, h3⟩
    exact ⟨(b, ps), by rw [h2]; rfl, fun z => h1 (by rw [h2]; simp [show ps = [] from z]), h3⟩
theorem oEq_nf {L : Sto} {R : PK} {q : Rat} (h : R (.bl false) L) : oEq .non (fr q) L R := ⟨.none, dfr q, .non, .fr, rfl, shp rfl (by show max 0 (max 0 0) + 1 ≤ 64; decide), by rw [show PyData.eqv .none (dfr q) = false from rfl]; exact h⟩
theorem root_of_ne {v : Vc} {x : PV} (h : RootIs (vdot v v) x) (hv : vdot v v ≠ 0) : (x = .non ∧ ¬ HasLen v) ∨ (x = fr (len v) ∧ HasLen v) := by
  rcases root_cases h with k | k | k
  · exact .inl k
  · refine absurd ?_ hv
    rcases h with ⟨h1, _⟩ | ⟨r, h1, _, h2⟩
    · rw [h1] at k; exact absurd k.1 (by intro z; cases z)
    · rw [h1] at k
      rw [← h2, fr_inj' k.1]; grind
  · exact .inr k
def s_is_side : Spec := fun args L R => ∃ (b : Vc) (s : Str) (r : List PV) (B n : Nat), args = [vc b, .tup (.str s :: r)] ∧ PyData.strOk s = true ∧ (∀ y ∈ r, Tg L B n y) ∧ SzV B b ∧ B ≤ 380 ∧
  ∀ L', Le L L' → R (.bl (tr (∃ t, PV.tup (.str s :: r) = pcV (.side t) ∧ PcOk b (.side t)))) L'
def s_is_arc : Spec := fun args L R => ∃ (b : Vc) (s : Str) (r : List PV) (B n : Nat), args = [vc b, .tup (.str s :: r)] ∧ PyData.strOk s = true ∧ (∀ y ∈ r, Tg L B n y) ∧ SzV B b ∧ B ≤ 380 ∧
  ∀ L', Le L L' → R (.bl (tr (∃ m t lf, PV.tup (.str s :: r) = pcV (.arc m t lf) ∧ PcOk b (.arc m t lf)))) L'
def s_is_piece : Spec := fun args L R => ∃ (b : Vc) (x : PV) (B n : Nat), args = [vc b, x] ∧ Tg L B n x ∧ SzV B b ∧ B ≤ 380 ∧ ∀ L', Le L L' → R (.bl (tr (IsPc b x))) L'
def s_is_path : Spec := fun args L R => ∃ (x : PV) (B n : Nat), args = [x] ∧ Tg L B n x ∧ B ≤ 380 ∧ ∀ L', Le L L' → R (.bl (tr (IsPath x))) L'
def d_is_side_1 : WS := sRet (wBin oIsNot (wCall s_length_of [wCall s_minus [wBin oIx (wVar 1) (wC (.int 1)), wVar 0]]) (wC .non))
def d_is_side_0a_0 : WS := sRet (wC (.bl false))
def d_is_side_0 : WS := sSeq (sIf (wOr (wBin oNe (wBi gLen [wVar 1]) (wC (.int 2))) (wOr (wBin oNe (wBin oIx (wVar 1) (wC (.int 0))) (wC (.str "side"))) (wOr (wUn oNot (wCall s_is_point [wBin oIx (wVar 1) (wC (.int 1))])) (wBin oEq (wBin oIx (wVar 1) (wC (.int 1))) (wVar 0))))) d_is_side_0a_0 sNil) d_is_side_1
def d_is_arc_3 : WS := sRet (wAnd (wBin oIsNot (wVar 2) (wC .non)) (wAnd (wBin oNe (wVar 2) (wC (.tup [.int 0, .int 1]))) (wBin oEq (wCall s_length_of [wCall s_minus [wBin oIx (wVar 1) (wC (.int 2)), wBin oIx (wVar 1) (wC (.int 1))]]) (wVar 2))))
def d_is_arc_2 : WS := sSeq (sAsg (gN 2) (wCall s_length_of [wCall s_minus [wVar 0, wBin oIx (wVar 1) (wC (.int 1))]])) d_is_arc_3
def d_is_arc_1a_0 : WS := sRet (wC (.bl false))
def d_is_arc_1 : WS := sSeq (sIf (wOr (wUn oNot (wBi gIsi [wBin oIx (wVar 1) (wC (.int 3)), wC (.ty "str")])) (wOr (wBin oNotIn (wBin oIx (wVar 1) (wC (.int 3))) (wC (.tup [.str "left", .str "right"]))) (wBin oEq (wBin oIx (wVar 1) (wC (.int 2))) (wVar 0)))) d_is_arc_1a_0 sNil) d_is_arc_2
def d_is_arc_0a_0 : WS := sRet (wC (.bl false))
def d_is_arc_0 : WS := sSeq (sIf (wOr (wBin oNe (wBi gLen [wVar 1]) (wC (.int 4))) (wOr (wBin oNe (wBin oIx (wVar 1) (wC (.int 0))) (wC (.str "arc"))) (wOr (wUn oNot (wCall s_is_point [wBin oIx (wVar 1) (wC (.int 1))])) (wUn oNot (wCall s_is_point [wBin oIx (wVar 1) (wC (.int 2))]))))) d_is_arc_0a_0 sNil) d_is_arc_1
def d_is_piece_1 : WS := sRet (wOr (wCall s_is_side [wVar 0, wVar 1]) (wCall s_is_arc [wVar 0, wVar 1]))
def d_is_piece_0a_0 : WS := sRet (wC (.bl false))
def d_is_piece_0 : WS := sSeq (sIf (wOr (wUn oNot (wBi gIsi [wVar 1, wC (.ty "tuple")])) (wOr (wBin oEq (wBi gLen [wVar 1]) (wC (.int 0))) (wUn oNot (wBi gIsi [wBin oIx (wVar 1) (wC (.int 0)), wC (.ty "str")])))) d_is_piece_0a_0 sNil) d_is_piece_1
def d_is_path_4 : WS := sRet (wC (.bl true))
def d_is_path_3f_1 : WS := sAsg (gN 1) (wCall s_to_of [wVar 2])
def d_is_path_3f_0a_0 : WS := sRet (wC (.bl false))
def d_is_path_3f_0 : WS := sSeq (sIf (wUn oNot (wCall s_is_piece [wVar 1, wVar 2])) d_is_path_3f_0a_0 sNil) d_is_path_3f_1
def d_is_path_3 : WS := sSeq (sFor (iAny (wBin oIx (wVar 0) (wC (.int 1)))) (gN 2) d_is_path_3f_0) d_is_path_4
def d_is_path_2 : WS := sSeq (sAsg (gN 1) (wBin oIx (wVar 0) (wC (.int 0)))) d_is_path_3
def d_is_path_1a_0 : WS := sRet (wC (.bl false))
def d_is_path_1 : WS := sSeq (sIf (wOr (wUn oNot (wBi gIsi [wBin oIx (wVar 0) (wC (.int 1)), wC (.ty "tuple")])) (wBin oEq (wBi gLen [wBin oIx (wVar 0) (wC (.int 1))]) (wC (.int 0)))) d_is_path_1a_0 sNil) d_is_path_2
def d_is_path_0a_0 : WS := sRet (wC (.bl false))
def d_is_path_0 : WS := sSeq (sIf (wOr (wUn oNot (wBi gIsi [wVar 0, wC (.ty "tuple")])) (wOr (wBin oNe (wBi gLen [wVar 0]) (wC (.int 2))) (wUn oNot (wCall s_is_point [wBin oIx (wVar 0) (wC (.int 0))])))) d_is_path_0a_0 sNil) d_is_path_1
theorem side_word {s : Str} {r : List PV} {t : Vc} (h : PV.tup (.str s :: r) = pcV (.side t)) : s = "side" ∧ r = [vc t] := by
  have h : PV.tup (.str s :: r) = .tup [.str "side", vc t] := h
  injection h with h
  injection h with h1 h2
  injection h1 with h1
  exact ⟨h1, h2⟩
theorem arc_word {s : Str} {r : List PV} {m t : Vc} {lf : Bool} (h : PV.tup (.str s :: r) = pcV (.arc m t lf)) : s = "arc" ∧ r = [vc m, vc t, .str (trn lf)] := by
  have h : PV.tup (.str s :: r) = .tup [.str "arc", vc m, vc t, .str (trn lf)] := h
  injection h with h
  injection h with h1 h2
  injection h1 with h1
  exact ⟨h1, h2⟩
theorem shp_s {s : Str} (h : PyData.strOk s = true) : SeqAt.shaped (.str s) = true := shp h (by show 0 ≤ 64; decide)
theorem ok_is_side : ∀ args L R, args.length = 2 → s_is_side args L R → d_is_side_0 (initE 2 args) L { nx := fun _ L' => R .non L', rt := R } := by
  rintro _ L R _ ⟨b, s, r, B, n, rfl, hs, hr, sb, hB, h⟩
  have no : (¬ ∃ t, PV.tup (.str s :: r) = pcV (.side t) ∧ PcOk b (.side t)) → ∀ L', Le L L' → R (.bl false) L' := fun hn L' hL' => by
    have := h L' hL'
    rw [tr_f hn] at this
    exact this
  unfold d_is_side_0 d_is_side_0a_0
  show sSeq _ _ [some (vc b), some (.tup (.str s :: r))] L _
  walk_at "ev105"
  by_cases hl : ((PV.str s :: r).length : Int) = 2
  · rw [if_pos hl]
    rw [oNe_sS (shp_s hs) sh_side]
    by_cases hw : s = "side"
    · subst hw
      rw [show (("side" : Str) == "side") = true by decide +kernel]
      match r, hl with
      | [p], _ =>
      walk_at "ev105"
      have hp := hr p (by simp)
      refine ⟨p, B, n, rfl, hp, fun L1 l1 => ?_⟩
      walk_at "ev105"
      refine bIf_tr (fun hpt => ?_) fun hpt => ?_
      · obtain ⟨t, rfl⟩ := hpt
        have st := hp.vsz
        walk_at "ev105"
        by_cases htb : t = b
        · rw [if_pos htb]
          refine no (fun ⟨u, hu, ok⟩ => ?_) L1 l1
          have := vc_inj' (List.cons.inj (side_word hu).2).1
          subst this
          exact ok.1 htb
        · rw [if_neg htb]
          unfold d_is_side_1
          walk_at "ev105"
          refine ⟨t, b, rfl, st.mono (by omega), sb.mono (by omega), ?_⟩
          refine ⟨_, rfl, (st.sub sb).mono (by omega), ((st.sub sb).dot (st.sub sb)).B (by omega), fun x hx => ?_⟩
          rcases root_of_ne hx (dotsub_ne htb) with ⟨rfl, hn⟩ | ⟨rfl, hn⟩
          · walk_at "ev105"
            refine no (fun ⟨u, hu, ok⟩ => ?_) L1 l1
            have := vc_inj' (List.cons.inj (side_word hu).2).1
            subst this
            exact hn ok.2
          · walk_at "ev105"
            have := h L1 l1
            rw [tr_t ⟨t, rfl, htb, hn⟩] at this
            exact this
      · refine no (fun ⟨u, hu, ok⟩ => hpt ?_) L1 l1
        exact ⟨u, (List.cons.inj (side_word hu).2).1⟩
      all_goals (rename_i hlq; first | (exact absurd hlq (by simp)) | (rw [List.length_cons, List.length_cons, List.length_cons] at hlq; omega))
    · rw [show (s == ("side" : Str)) = false by simpa using hw]
      walk_at "ev105"
      exact no (fun ⟨u, hu, ok⟩ => hw (side_word hu).1) L .refl
  · rw [if_neg hl]
    walk_at "ev105"
    refine no (fun ⟨u, hu, ok⟩ => hl ?_) L .refl
    rw [(side_word hu).2]; rfl
theorem in_turns {w : Str} : inB (.str w) [.str "left", .str "right"] = true ↔ ∃ lf, w = trn lf := by
  show ((("left" : Str) == w) || ((("right" : Str) == w) || false)) = true ↔ _
  rw [Bool.or_false, Bool.or_eq_true]
  constructor
  · rintro (h | h)
    · exact ⟨true, by have := (beq_iff_eq.mp h); rw [← this]; rfl⟩
    · exact ⟨false, by have := (beq_iff_eq.mp h); rw [← this]; rfl⟩
  · rintro ⟨lf, rfl⟩
    cases lf
    · exact .inr (by decide +kernel)
    · exact .inl (by decide +kernel)
theorem ok_is_arc : ∀ args L R, args.length = 2 → s_is_arc args L R → d_is_arc_0 (initE 3 args) L { nx := fun _ L' => R .non L', rt := R } := by
  rintro _ L R _ ⟨b, s, r, B, n, rfl, hs, hr, sb, hB, h⟩
  have no : (¬ ∃ m t lf, PV.tup (.str s :: r) = pcV (.arc m t lf) ∧ PcOk b (.arc m t lf)) → ∀ L', Le L L' → R (.bl false) L' := fun hn L' hL' => by
    have := h L' hL'
    rw [tr_f hn] at this
    exact this
  unfold d_is_arc_0 d_is_arc_0a_0
  show sSeq _ _ [some (vc b), some (.tup (.str s :: r)), none] L _
  walk_at "ev105"
  by_cases hl : ((PV.str s :: r).length : Int) = 4
  · rw [if_pos hl]
    rw [oNe_sS (shp_s hs) sh_arc]
    by_cases hw : s = "arc"
    · subst hw
      rw [show (("arc" : Str) == "arc") = true by decide +kernel]
      obtain ⟨pm, pt, pw, rfl⟩ : ∃ a b c, r = [a, b, c] := by
        match r, hl with
        | [a, b, c], _ => exact ⟨a, b, c, rfl⟩
        | [], hl => simp at hl
        | [a], hl => simp at hl
        | [a, b], hl => simp at hl
        | a :: b :: c :: d :: r, hl => rw [List.length_cons, List.length_cons, List.length_cons, List.length_cons, List.length_cons] at hl; omega
      have hm := hr pm (by simp)
      have ht := hr pt (by simp)
      have hw := hr pw (by simp)
      walk_at "ev105"
      refine ⟨pm, B, n, rfl, hm, fun L1 l1 => ?_⟩
      walk_at "ev105"
      refine bIf_tr (fun hpt => ?_) fun hpt => ?_
      · obtain ⟨m, rfl⟩ := hpt
        have sm := hm.vsz
        walk_at "ev105"
        refine ⟨pt, B, n, rfl, ht.le l1, fun L2 l2 => ?_⟩
        have l2 := l1.trans l2
        walk_at "ev105"
        refine bIf_tr (fun hpt => ?_) fun hpt => ?_
        · obtain ⟨t, rfl⟩ := hpt
          have st := ht.vsz
          unfold d_is_arc_1 d_is_arc_1a_0
          walk_at "ev105"
          rw [isi_strT (hw.le l2)]
          walk_at "ev105"
          refine bIf_tr (fun hst => ?_) fun hst => ?_
          · obtain ⟨w, rfl⟩ := hst
            refine ⟨rfl, rfl, ?_⟩
            cases hin : inB (.str w) [.str "left", .str "right"] with
            | false =>
              walk_at "ev105"
              refine no (fun ⟨m', t', lf, hu, ok⟩ => ?_) L2 l2
              have e := (arc_word hu).2
              injection e with _ e
              injection e with _ e
              injection e with e _
              injection e with e
              have := in_turns.mpr ⟨lf, e⟩
              rw [hin] at this
              cases this
            | true =>
              obtain ⟨lf, rfl⟩ := in_turns.mp hin
              walk_at "ev105"
              by_cases htb : t = b
              · rw [if_pos htb]
                refine no (fun ⟨m', t', lf', hu, ok⟩ => ?_) L2 l2
                have := pcV_inj (p := .arc m t lf) hu
                injection this with h1 h2 h3
                subst h2
                exact ok.1 htb
              · rw [if_neg htb]
                unfold d_is_arc_2
                walk_at "ev105"
                refine ⟨b, m, rfl, sb.mono (by omega), sm.mono (by omega), ?_⟩
                refine ⟨_, rfl, (sb.sub sm).mono (by omega), ((sb.sub sm).dot (sb.sub sm)).B (by omega), fun x hx => ?_⟩
                have inv : ∀ {P : Prop}, (PcOk b (.arc m t lf) → P) → (∃ m' t' lf', PV.tup [.str "arc", vc m, vc t, .str (trn lf)] = pcV (.arc m' t' lf') ∧ PcOk b (.arc m' t' lf')) → P := fun f ⟨m', t', lf', hu, ok⟩ => by
                  have := pcV_inj (p := .arc m t lf) hu
                  injection this with h1 h2 h3
                  subst h1
                  subst h2
                  subst h3
                  exact f ok
                unfold d_is_arc_3
                rcases root_cases hx with ⟨rfl, hn⟩ | ⟨rfl, hn⟩ | ⟨rfl, hn⟩
                · walk_at "ev105"
                  exact no (inv fun ok => hn ok.2.1) L2 l2
                · walk_at "ev105"
                  rw [fr_zero]
                  walk_at "ev105"
                  exact no (inv fun ok => hn ok.2.1) L2 l2
                · have l0 := (len_spec hn).1
                  have ln : ¬ len (vsub b m) = 0 := by grind
                  walk_at "ev105"
                  rw [fr_zero]
                  walk_at "ev105"
                  rw [if_neg ln]
                  refine ⟨t, m, rfl, st.mono (by omega), sm.mono (by omega), ?_⟩
                  refine ⟨_, rfl, (st.sub sm).mono (by omega), ((st.sub sm).dot (st.sub sm)).B (by omega), fun y hy => ?_⟩
                  rcases root_cases hy with ⟨rfl, hn2⟩ | ⟨rfl, hn2⟩ | ⟨rfl, hn2⟩
                  · exact oEq_nf (no (inv fun ok => hn2 ok.2.2.1) L2 l2)
                  · rw [oEq_ff, decide_eq_false (fun z => ln z.symm)]
                    exact no (inv fun ok => hn2 ok.2.2.1) L2 l2
                  · rw [oEq_ff]
                    by_cases he : len (vsub t m) = len (vsub b m)
                    · rw [decide_eq_true he]
                      have := h L2 l2
                      rw [tr_t ⟨m, t, lf, rfl, htb, hn, hn2, he⟩] at this
                      exact this
                    · rw [decide_eq_false he]
                      exact no (inv fun ok => he ok.2.2.2) L2 l2
          · refine no (fun ⟨m', t', lf, hu, ok⟩ => hst ?_) L2 l2
            have e := (arc_word hu).2
            injection e with _ e
            injection e with _ e
            injection e with e _
            exact ⟨_, e⟩
        · refine no (fun ⟨m', t', lf, hu, ok⟩ => hpt ?_) L2 l2
          have e := (arc_word hu).2
          injection e with _ e
          injection e with e _
          exact ⟨_, e⟩
      · refine no (fun ⟨m', t', lf, hu, ok⟩ => hpt ?_) L1 l1
        have e := (arc_word hu).2
        injection e with e _
        exact ⟨_, e⟩
    · rw [show (s == ("arc" : Str)) = false by simpa using hw]
      walk_at "ev105"
      exact no (fun ⟨m, t, lf, hu, ok⟩ => hw (arc_word hu).1) L .refl
  · rw [if_neg hl]
    walk_at "ev105"
    refine no (fun ⟨m, t, lf, hu, ok⟩ => hl ?_) L .refl
    rw [(arc_word hu).2]; rfl
theorem ok_is_piece : ∀ args L R, args.length = 2 → s_is_piece args L R → d_is_piece_0 (initE 2 args) L { nx := fun _ L' => R .non L', rt := R } := by
  rintro _ L R _ ⟨b, x, B, n, rfl, hx, sb, hB, h⟩
  have no : ¬ IsPc b x → ∀ L', Le L L' → R (.bl false) L' := fun hn L' hL' => by
    have := h L' hL'
    rw [tr_f hn] at this
    exact this
  unfold d_is_piece_0 d_is_piece_0a_0
  show sSeq _ _ [some (vc b), some x] L _
  walk_at "ev105"
  rw [isi_tupT hx]
  walk_at "ev105"
  refine bIf_tr (fun hp => ?_) fun hp => ?_
  · obtain ⟨xs, rfl⟩ := hp
    obtain ⟨k, rfl, hs⟩ := hx.sub
    cases xs with
    | nil =>
      walk_at "ev105"
      refine no (fun ⟨q, hq, _⟩ => ?_) L .refl
      cases q <;> cases hq
    | cons y r =>
      walk_at "ev105"
      rw [if_neg (by rw [List.length_cons]; omega)]
      have hy := hs y (by simp)
      have hr := fun z hz => hs z (List.mem_cons_of_mem y hz)
      rw [isi_strT hy]
      walk_at "ev105"
      refine bIf_tr (fun hst => ?_) fun hst => ?_
      · obtain ⟨s, rfl⟩ := hst
        have hso : PyData.strOk s = true := by cases hy with | str h _ => exact h
        unfold d_is_piece_1
        walk_at "ev105"
        refine ⟨b, s, r, B, k, rfl, hso, hr, sb, hB, fun L1 l1 => ?_⟩
        refine bIf_tr (fun hsd => ?_) fun hsd => ?_
        · have := h L1 l1
          obtain ⟨t, ht, ok⟩ := hsd
          rw [tr_t ⟨_, ht, ok⟩] at this
          exact this
        · refine ⟨b, s, r, B, k, rfl, hso, fun z hz => (hr z hz).le l1, sb, hB, fun L2 l2 => ?_⟩
          have := h L2 (l1.trans l2)
          rw [tr_eq (q := IsPc b (.tup (.str s :: r))) ?_]
          · exact this
          · constructor
            · rintro ⟨m, t, lf, hu, ok⟩
              exact ⟨_, hu, ok⟩
            · rintro ⟨q, hq, ok⟩
              cases q with
              | side t => exact absurd ⟨t, hq, ok⟩ hsd
              | arc m t lf => exact ⟨m, t, lf, hq, ok⟩
      · refine no (fun ⟨q, hq, _⟩ => hst ?_) L .refl
        cases q with
        | side t =>
          have hq : PV.tup (y :: r) = .tup [.str "side", vc t] := hq
          injection hq with hq
          injection hq with hq _
          exact ⟨_, hq⟩
        | arc m t lf =>
          have hq : PV.tup (y :: r) = .tup [.str "arc", vc m, vc t, .str (trn lf)] := hq
          injection hq with hq
          injection hq with hq _
          exact ⟨_, hq⟩
  · refine no (fun ⟨q, hq, _⟩ => hp ?_) L .refl
    cases q with
    | side t => exact ⟨_, hq⟩
    | arc m t lf => exact ⟨_, hq⟩
theorem path_two {x : PV} (h : IsPath x) : ∃ b xs, x = .tup [vc b, .tup xs] := by
  obtain ⟨p, h1, _⟩ := h
  exact ⟨p.1, p.2.map pcV, h1⟩
theorem Tg.pcsz {L : Sto} {B n : Nat} {q : Pc} (h : Tg L B n (pcV q)) : PcSz B q := by
  cases q with
  | side t =>
    obtain ⟨m, _, hs⟩ := Tg.sub (show Tg L B n (.tup [.str "side", vc t]) from h)
    exact (hs (vc t) (by simp)).vsz
  | arc m t lf =>
    obtain ⟨k, _, hs⟩ := Tg.sub (show Tg L B n (.tup [.str "arc", vc m, vc t, .str (trn lf)]) from h)
    exact ⟨(hs (vc m) (by simp)).vsz, (hs (vc t) (by simp)).vsz⟩
theorem ok_is_path : ∀ args L R, args.length = 1 → s_is_path args L R → d_is_path_0 (initE 3 args) L { nx := fun _ L' => R .non L', rt := R } := by
  rintro _ L R _ ⟨x, B, n, rfl, hx, hB, h⟩
  have no : ¬ IsPath x → ∀ L', Le L L' → R (.bl false) L' := fun hn L' hL' => by
    have := h L' hL'
    rw [tr_f hn] at this
    exact this
  unfold d_is_path_0 d_is_path_0a_0
  show sSeq _ _ [some x, none, none] L _
  walk_at "ev105"
  rw [isi_tupT hx]
  walk_at "ev105"
  refine bIf_tr (fun hp => ?_) fun hp => ?_
  · obtain ⟨xs, rfl⟩ := hp
    obtain ⟨k, rfl, hs⟩ := hx.sub
    walk_at "ev105"
    by_cases h2 : (xs.length : Int) = 2
    · rw [if_pos h2]
      obtain ⟨a, c, rfl⟩ := len2 h2
      have ha := hs a (by simp)
      have hc := hs c (by simp)
      walk_at "ev105"
      refine ⟨a, B, k, rfl, ha, fun L1 l1 => ?_⟩
      walk_at "ev105"
      refine bIf_tr (fun hpt => ?_) fun hpt => ?_
      · obtain ⟨b, rfl⟩ := hpt
        have sb := ha.vsz
        unfold d_is_path_1 d_is_path_1a_0
        walk_at "ev105"
        rw [isi_tupT (hc.le l1)]
        walk_at "ev105"
        refine bIf_tr (fun hct => ?_) fun hct => ?_
        · obtain ⟨ys, rfl⟩ := hct
          obtain ⟨k2, rfl, hys⟩ := (hc.le l1).sub
          walk_at "ev105"
          by_cases hy0 : (ys.length : Int) = 0
          · rw [if_pos hy0]
            refine no (fun z => (path_pcs.mp z).1 ?_) L1 l1
            exact List.eq_nil_of_length_eq_zero (by omega)
          · rw [if_neg hy0]
            unfold d_is_path_2
            walk_at "ev105"
            unfold d_is_path_3
            walk_at "ev105"
            have hne : ys ≠ [] := fun z => hy0 (by rw [z]; rfl)
            refine loop_i (fun i e l => Le L1 l ∧ ∃ w z, e = [some (.tup [vc b, .tup ys]), some (vc w), z] ∧ SzV B w ∧ (IsPcs b ys ↔ IsPcs w (ys.drop i))) ⟨.refl, _, _, rfl, sb, by rw [List.drop_zero]⟩ (fun _ _ _ _ => trivial) ?_ ?_
            · rintro i t e l K hx2 ⟨hl, w, z, rfl, sw, hiff⟩ hK
              have hd : ys.drop i = t :: ys.drop (i + 1) := by
                obtain ⟨hi, e⟩ := List.getElem?_eq_some_iff.mp hx2
                rw [← e]
                exact List.drop_eq_getElem_cons hi
              rw [hd, pcs_cons] at hiff
              have ht := (hys t (List.mem_of_getElem? hx2)).le hl
              walk_at "ev105"
              unfold d_is_path_3f_0 d_is_path_3f_0a_0
              walk_at "ev105"
              refine ⟨w, t, B, k2, rfl, ht, sw, hB, fun L2 l2 => ?_⟩
              walk_at "ev105"
              refine bIf_tr (fun hpc => ?_) fun hpc => ?_
              · obtain ⟨q, rfl, okq⟩ := hpc
                unfold d_is_path_3f_1
                walk_at "ev105"
                refine ⟨q, rfl, ?_⟩
                refine hK _ _ ⟨hl.trans l2, q.to, _, rfl, ht.pcsz.to, hiff.trans ?_⟩
                constructor
                · rintro ⟨q', hq', _, h3⟩
                  rw [pcV_inj hq']
                  exact h3
                · intro h3
                  exact ⟨q, rfl, okq, h3⟩
              · refine no (fun z => hpc ?_) L2 (l1.trans (hl.trans l2))
                obtain ⟨q, h1, h3, _⟩ := hiff.mp (path_pcs.mp z).2
                exact ⟨q, h1, h3⟩
            · rintro e l ⟨hl, w, z, rfl, sw, hiff⟩
              unfold d_is_path_4
              walk_at "ev105"
              have := h l (l1.trans hl)
              rw [tr_t (path_pcs.mpr ⟨hne, hiff.mpr (by rw [List.drop_length]; exact ⟨[], rfl, trivial⟩)⟩)] at this
              exact this
        · refine no (fun z => hct ?_) L1 l1
          obtain ⟨p, hp, _⟩ := z
          have hp : PV.tup [vc b, c] = .tup [vc p.1, .tup (p.2.map pcV)] := hp
          injection hp with hp
          injection hp with _ hp
          injection hp with hp _
          exact ⟨_, hp⟩
      · refine no (fun z => hpt ?_) L1 l1
        obtain ⟨p, hp, _⟩ := z
        have hp : PV.tup [a, c] = .tup [vc p.1, .tup (p.2.map pcV)] := hp
        injection hp with hp
        injection hp with hp _
        exact ⟨_, hp⟩
    · rw [if_neg h2]
      walk_at "ev105"
      refine no (fun z => h2 ?_) L .refl
      obtain ⟨b, ys, hp⟩ := path_two z
      injection hp with hp
      rw [hp]; rfl
  · refine no (fun z => hp ?_) L .refl
    obtain ⟨b, ys, rfl⟩ := path_two z
    exact ⟨_, rfl⟩
end
section
open PySem PySem.Spec PyProof.Rows L2
open TL (tl len_tl ext_tl tl_append tl_mk mk_tl)
def sI (i : Int) : Str := Str.ofString (toString i)
def dg (n : Nat) : List Nat := (Nat.toDigits 10 n).map Char.toNat
theorem tl_sI (n : Nat) : tl (sI (n : Nat)) = dg n := PySem.W.KIN.signs_num n
theorem dg_small {n : Nat} (h : n < 10) : dg n = [48 + n] := by
  unfold dg
  rw [Nat.toDigits_of_lt_base h]
  have : ∀ d : Nat, d < 10 → [Nat.digitChar d].map Char.toNat = [48 + d] := by decide
  exact this n h
theorem dg_step {n : Nat} (h : 10 ≤ n) : dg n = dg (n / 10) ++ [48 + n % 10] := by
  have hm : n % 10 < 10 := Nat.mod_lt n (by decide)
  have t : Nat.toDigits 10 (n / 10) ++ Nat.toDigits 10 (n % 10) = Nat.toDigits 10 (10 * (n / 10) + n % 10) := Nat.toDigits_append_toDigits (by decide) (by omega) hm
  rw [Nat.div_add_mod] at t
  have e := dg_small hm
  unfold dg at *
  rw [← t, List.map_append, e]
theorem dg_digits : ∀ {n : Nat}, ∀ c ∈ dg n, 48 ≤ c ∧ c ≤ 57 := by
  intro n
  induction n using Nat.strongRecOn with
  | _ n ih =>
    intro c hc
    by_cases h : n < 10
    · rw [dg_small h] at hc
      have := List.mem_singleton.mp hc
      omega
    · rw [dg_step (by omega)] at hc
      rcases List.mem_append.mp hc with hc | hc
      · exact ih (n / 10) (by omega) c hc
      · have := List.mem_singleton.mp hc
        omega
theorem dg_ne {n : Nat} : dg n ≠ [] := by
  by_cases h : n < 10
  · rw [dg_small h]; simp
  · rw [dg_step (by omega)]; simp
theorem dg_len : ∀ {k n : Nat}, n < 10 ^ (k + 1) → (dg n).length ≤ k + 1
  | 0, n, h => by rw [dg_small (by omega)]; exact Nat.le_refl 1
  | k + 1, n, h => by
    by_cases h1 : n < 10
    · rw [dg_small h1]; simp
    · rw [dg_step (by omega), List.length_append]
      have := dg_len (k := k) (n := n / 10) (by rw [Nat.pow_succ] at h; omega)
      show _ + 1 ≤ _
      omega
theorem len_sI (n : Nat) : (sI (n : Nat)).length = (dg n).length := by rw [len_tl, tl_sI]
theorem sI_neg (m : Nat) : sI (-((m + 1 : Nat) : Int)) = ("-" : Str) ++ sI ((m + 1 : Nat) : Int) := by
  refine ext_tl ?_
  rw [tl_append, tl_sI]
  show (Str.ofString (toString (Int.negSucc m))).cps.toList = _
  rw [PyProof.Rows.signs_ofString]
  show ("-" ++ Nat.repr (m + 1)).toList.map Char.toNat = _
  rw [String.toList_append, List.map_append, Nat.toList_repr]
  rfl
/-- of a text of signs that all go: nothing is left -/
theorem strip_all {x y : Str} (h : ∀ c ∈ tl x, y.cps.contains c = true) : Txt.stripChars x y = Str.empty := by
  unfold Txt.stripChars
  rw [stripBy_eq]
  have hg : ∀ k, k < x.length → y.cps.contains (x.cps.getD k 0) = true := fun k hk => by
    refine h _ ?_
    have hk' : k < x.cps.size := hk
    simp only [Array.getD, hk', dif_pos]
    exact Array.getElem_mem_toList hk'
  obtain ⟨h1, h2, h3⟩ := lo_facts y.cps.contains x
  have hlo : stripLo y.cps.contains true x = x.length := by
    rcases h3 with h3 | h3
    · exact h3
    · by_cases hl : stripLo y.cps.contains true x = x.length
      · exact hl
      · rw [hg _ (by omega)] at h3
        cases h3
  rw [hlo]
  obtain ⟨q1, q2, _⟩ := hi_facts y.cps.contains x x.length (Nat.le_refl _)
  have : stripHi y.cps.contains true x x.length = x.length := by omega
  rw [this]
  refine ext_tl ?_
  rw [TL.tl_strSub_end]
  show (tl x).drop x.length = []
  rw [len_tl, List.drop_length]
def frT (q : Rat) : Str := if q.den = 1 then sI q.num else sI q.num ++ ("/" : Str) ++ sI ((q.den : Nat) : Int)
theorem sI_signs {i : Int} : ∀ c ∈ tl (sI i), c = 45 ∨ (48 ≤ c ∧ c ≤ 57) := by
  intro c hc
  by_cases h : 0 ≤ i
  · obtain ⟨n, rfl⟩ := Int.eq_ofNat_of_zero_le h
    rw [tl_sI] at hc
    exact .inr (dg_digits c hc)
  · obtain ⟨m, hm⟩ : ∃ m : Nat, i = -((m + 1 : Nat) : Int) := ⟨(-i - 1).toNat, by omega⟩
    rw [hm, sI_neg, tl_append, tl_sI] at hc
    rcases List.mem_append.mp hc with hc | hc
    · have : tl ("-" : Str) = [45] := by decide +kernel
      rw [this] at hc
      exact .inl (List.mem_singleton.mp hc)
    · exact .inr (dg_digits c hc)
theorem frT_signs {q : Rat} : ∀ c ∈ tl (frT q), c = 45 ∨ c = 47 ∨ (48 ≤ c ∧ c ≤ 57) := by
  intro c hc
  unfold frT at hc
  split at hc
  · rcases sI_signs c hc with h | h
    · exact .inl h
    · exact .inr (.inr h)
  · rw [tl_append, tl_append] at hc
    rcases List.mem_append.mp hc with hc | hc
    · rcases List.mem_append.mp hc with hc | hc
      · rcases sI_signs c hc with h | h
        · exact .inl h
        · exact .inr (.inr h)
      · have : tl ("/" : Str) = [47] := by decide +kernel
        rw [this] at hc
        exact .inr (.inl (List.mem_singleton.mp hc))
    · rcases sI_signs c hc with h | h
      · exact .inl h
      · exact .inr (.inr h)
open TL (joinL tl_join join_eq split_join)
theorem joinL_cons {S p : List Nat} : ∀ {ys : List (List Nat)}, ys ≠ [] → joinL S (p :: ys) = p ++ (S ++ joinL S ys)
  | [], h => absurd rfl h
  | _ :: _, _ => rfl
theorem joinL_app {S : List Nat} : ∀ {xs ys : List (List Nat)}, xs ≠ [] → ys ≠ [] → joinL S (xs ++ ys) = joinL S xs ++ (S ++ joinL S ys)
  | [], _, h, _ => absurd rfl h
  | [p], ys, _, hy => joinL_cons hy
  | p :: q :: r, ys, _, hy => by
    show joinL S (p :: ((q :: r) ++ ys)) = joinL S (p :: q :: r) ++ _
    rw [joinL_cons (by simp), joinL_cons (by simp), joinL_app (xs := q :: r) (by simp) hy]
    simp only [List.append_assoc]
theorem joinL_flat {S : List Nat} : ∀ {ls : List (List (List Nat))}, (∀ l ∈ ls, l ≠ []) → joinL S ls.flatten = joinL S (ls.map (joinL S))
  | [], _ => rfl
  | [l], _ => by
    show joinL S (l ++ []) = joinL S l
    rw [List.append_nil]
  | l :: m :: r, h => by
    have h2 : (m :: r).flatten ≠ [] := fun z => h m (by simp) (by
      have : m ++ r.flatten = [] := z
      exact (List.append_eq_nil_iff.mp this).1)
    show joinL S (l ++ (m :: r).flatten) = joinL S (joinL S l :: (m :: r).map (joinL S))
    rw [joinL_app (h l (by simp)) h2, joinL_flat (ls := m :: r) (fun x hx => h x (List.mem_cons_of_mem _ hx)), joinL_cons (by simp)]
def ptT (v : Vc) : Str := frT v.1 ++ (" " : Str) ++ frT v.2
def pcT : Pc → Str
  | .side t => ("side " : Str) ++ ptT t
  | .arc m t lf => ("arc " : Str) ++ trn lf ++ (" " : Str) ++ ptT m ++ (" " : Str) ++ ptT t
def pthT (p : Pth) : Str := Txt.join " " ((("from " : Str) ++ ptT p.1) :: p.2.map pcT)
def pcW : Pc → List Str
  | .side t => ["side", frT t.1, frT t.2]
  | .arc m t lf => ["arc", trn lf, frT m.1, frT m.2, frT t.1, frT t.2]
def pthW (p : Pth) : List Str := [("from" : Str), frT p.1.1, frT p.1.2] ++ (p.2.map pcW).flatten
theorem tl_sp : tl (" " : Str) = [32] := by decide +kernel
theorem tl_ptT {v : Vc} : tl (ptT v) = tl (frT v.1) ++ ([32] ++ tl (frT v.2)) := by
  unfold ptT
  rw [tl_append, tl_append, tl_sp, List.append_assoc]
theorem tl_pcT {q : Pc} : tl (pcT q) = joinL [32] ((pcW q).map tl) := by
  cases q with
  | side t =>
    show tl (("side " : Str) ++ ptT t) = tl ("side" : Str) ++ ([32] ++ (tl (frT t.1) ++ ([32] ++ tl (frT t.2))))
    have e : tl ("side " : Str) = tl ("side" : Str) ++ [32] := by decide +kernel
    rw [tl_append, e, tl_ptT, List.append_assoc]
  | arc m t lf =>
    show tl (("arc " : Str) ++ trn lf ++ (" " : Str) ++ ptT m ++ (" " : Str) ++ ptT t) = tl ("arc" : Str) ++ ([32] ++ (tl (trn lf) ++ ([32] ++ (tl (frT m.1) ++ ([32] ++ (tl (frT m.2) ++ ([32] ++ (tl (frT t.1) ++ ([32] ++ tl (frT t.2))))))))))
    have e : tl ("arc " : Str) = tl ("arc" : Str) ++ [32] := by decide +kernel
    rw [tl_append, tl_append, tl_append, tl_append, tl_append, e, tl_ptT, tl_ptT, tl_sp]
    simp only [List.append_assoc]
theorem tl_from {v : Vc} : tl (("from " : Str) ++ ptT v) = joinL [32] ([("from" : Str), frT v.1, frT v.2].map tl) := by
  show tl (("from " : Str) ++ ptT v) = tl ("from" : Str) ++ ([32] ++ (tl (frT v.1) ++ ([32] ++ tl (frT v.2))))
  have e : tl ("from " : Str) = tl ("from" : Str) ++ [32] := by decide +kernel
  rw [tl_append, e, tl_ptT, List.append_assoc]
theorem pcW_ne {q : Pc} : pcW q ≠ [] := by cases q <;> (intro z; cases z)
theorem tl_pthT {p : Pth} : tl (pthT p) = joinL [32] ((("from " : Str) ++ ptT p.1) :: p.2.map pcT |>.map tl) := by
  unfold pthT
  rw [join_eq, tl_join, tl_sp]
theorem pthT_join {p : Pth} : pthT p = Txt.join " " (pthW p) := by
  refine ext_tl ?_
  rw [tl_pthT, join_eq, tl_join, tl_sp]
  have e1 : (pthW p).map tl = (([("from" : Str), frT p.1.1, frT p.1.2].map tl) :: p.2.map fun q => (pcW q).map tl).flatten := by
    unfold pthW
    rw [List.map_append, List.map_flatten, List.map_map]; rfl
  rw [e1, joinL_flat (fun l hl => ?_)]
  · rw [List.map_cons, List.map_cons, tl_from, List.map_map, List.map_map]
    congr 2
    exact List.map_congr_left fun q _ => tl_pcT
  · rcases List.mem_cons.mp hl with rfl | hl
    · simp
    · obtain ⟨q, _, rfl⟩ := List.mem_map.mp hl
      exact fun z => pcW_ne (List.map_eq_nil_iff.mp z)
theorem frT_sp {q : Rat} : 32 ∉ tl (frT q) := fun z => by have := frT_signs 32 z; omega
theorem pthW_free {p : Pth} : ∀ w ∈ pthW p, 32 ∉ tl w := by
  intro w hw
  have lit : ∀ w ∈ (["from", "side", "arc", "left", "right"] : List Str), 32 ∉ tl w := by decide +kernel
  rcases List.mem_append.mp hw with hw | hw
  · rcases List.mem_cons.mp hw with rfl | hw
    · exact lit _ (by simp)
    rcases List.mem_cons.mp hw with rfl | hw
    · exact frT_sp
    · rw [List.mem_singleton.mp hw]; exact frT_sp
  · obtain ⟨l, hl, hw⟩ := List.mem_flatten.mp hw
    obtain ⟨q, _, rfl⟩ := List.mem_map.mp hl
    cases q with
    | side t =>
      rcases List.mem_cons.mp hw with rfl | hw
      · exact lit _ (by simp)
      rcases List.mem_cons.mp hw with rfl | hw
      · exact frT_sp
      · rw [List.mem_singleton.mp hw]; exact frT_sp
    | arc m t lf =>
      rcases List.mem_cons.mp hw with rfl | hw
      · exact lit _ (by simp)
      rcases List.mem_cons.mp hw with rfl | hw
      · cases lf
        · exact lit _ (by simp [trn])
        · exact lit _ (by simp [trn])
      rcases List.mem_cons.mp hw with rfl | hw
      · exact frT_sp
      rcases List.mem_cons.mp hw with rfl | hw
      · exact frT_sp
      rcases List.mem_cons.mp hw with rfl | hw
      · exact frT_sp
      · rw [List.mem_singleton.mp hw]; exact frT_sp
theorem split_pthT {p : Pth} : Txt.split (pthT p) " " = pthW p := by
  rw [pthT_join]
  exact split_join (s := 32) (S := []) tl_sp (by decide +kernel) (by unfold pthW; simp) pthW_free
theorem pthT_snoc {s : Vc} {ps : List Pc} {q : Pc} : pthT (s, ps ++ [q]) = pthT (s, ps) ++ (" " : Str) ++ pcT q := by
  refine ext_tl ?_
  rw [tl_append, tl_append, tl_pthT, tl_pthT, tl_sp]
  have : ((("from " : Str) ++ ptT s) :: (ps ++ [q]).map pcT).map tl = (((("from " : Str) ++ ptT s) :: ps.map pcT).map tl) ++ [tl (pcT q)] := by
    rw [List.map_append, ← List.cons_append, List.map_append]; rfl
  show joinL [32] (((("from " : Str) ++ ptT s) :: (ps ++ [q]).map pcT).map tl) = _
  rw [this, joinL_app (by simp) (by simp), List.append_assoc]
  rfl
end
section
open PySem PySem.Spec PyProof.Rows L2
open TL (tl len_tl ext_tl tl_append tl_mk mk_tl)
open PySem.NumText (AllDigits digitsVal)
theorem snoc_cases {α : Type} (l : List α) : l = [] ∨ ∃ p c, l = p ++ [c] := by
  by_cases h : l = []
  · exact .inl h
  · exact .inr ⟨l.dropLast, l.getLast h, (List.dropLast_concat_getLast h).symm⟩
theorem val_snoc {p : List Nat} {c : Nat} : digitsVal (p ++ [c]) = digitsVal p * 10 + (c - 48) := by
  unfold digitsVal
  rw [List.foldl_append]; rfl
theorem val_dg (n : Nat) : digitsVal (dg n) = n := PySem.W.KIN.val_back n
theorem dg_inj {m n : Nat} (h : dg m = dg n) : m = n := by rw [← val_dg m, h, val_dg]
def AllD (z : Str) : Prop := ∀ c ∈ tl z, 48 ≤ c ∧ c ≤ 57
instance (z : Str) : Decidable (AllD z) := by unfold AllD; infer_instance
theorem val_lt {l : List Nat} (h : AllDigits l) : digitsVal l < 10 ^ l.length := by
  suffices ∀ (k : Nat) (l : List Nat), l.length = k → AllDigits l → digitsVal l < 10 ^ k from this _ l rfl h
  intro k
  induction k with
  | zero => intro l hl _; rw [List.eq_nil_of_length_eq_zero hl]; decide
  | succ k ih =>
    intro l hl hd
    rcases snoc_cases l with rfl | ⟨p, c, rfl⟩
    · cases hl
    have := ih p (by rw [List.length_append] at hl; exact Nat.succ.inj hl) (fun x hx => hd x (List.mem_append_left _ hx))
    have hc := hd c (by simp)
    rw [val_snoc, Nat.pow_succ]
    omega
/-- the number that one to sixty figures write -/
def numT (z : Str) : Option Nat := if 1 ≤ z.length ∧ z.length ≤ 60 ∧ AllD z then some (digitsVal (tl z)) else none
def pO : Option Nat → PV
  | none => .non
  | some n => .int (n : Int)
theorem numT_lt {z : Str} {n : Nat} (h : numT z = some n) : n < 10 ^ 60 := by
  unfold numT at h
  split at h
  · rename_i q
    cases h
    have := val_lt (l := tl z) q.2.2
    rw [← len_tl] at this
    exact Nat.lt_of_lt_of_le this (Nat.pow_le_pow_right (by decide) q.2.1)
  · cases h
theorem AllD_sI {n : Nat} : AllD (sI (n : Nat)) := fun c hc => dg_digits c (by rw [tl_sI] at hc; exact hc)
theorem len_sI1 {n : Nat} : 1 ≤ (sI (n : Nat)).length := by rw [len_sI]; exact List.length_pos_iff.mpr dg_ne
theorem len_sI60 {n : Nat} (h : n < 10 ^ 60) : (sI (n : Nat)).length ≤ 60 := by rw [len_sI]; exact dg_len (k := 59) h
theorem numT_sI {n : Nat} (h : n < 10 ^ 60) : numT (sI (n : Nat)) = some n := by
  unfold numT
  rw [if_pos ⟨len_sI1, len_sI60 h, AllD_sI⟩, tl_sI, val_dg]
theorem strip_some {x y : Str} {c : Nat} (hc : c ∈ tl x) (h : y.cps.contains c = false) : Txt.stripChars x y ≠ Str.empty := by
  intro z
  unfold Txt.stripChars at z
  rw [stripBy_eq] at z
  obtain ⟨i, hi, rfl⟩ := List.getElem_of_mem hc
  rw [← len_tl] at hi
  have hci : x.cps.getD i 0 = (tl x)[i]'(by rw [← len_tl]; exact hi) := by
    have hi' : i < x.cps.size := hi
    simp only [Array.getD, hi', dif_pos]
    rfl
  rw [← hci] at h
  obtain ⟨h1, h2, h3⟩ := lo_facts y.cps.contains x
  obtain ⟨q1, q2, q3, q4⟩ := hi_facts y.cps.contains x (stripLo y.cps.contains true x) h1
  have hlo : stripLo y.cps.contains true x ≤ i := Classical.byContradiction fun hn => by
    have := h2 i (by omega)
    rw [h] at this; cases this
  have hhi : i < stripHi y.cps.contains true x (stripLo y.cps.contains true x) := Classical.byContradiction fun hn => by
    have := q3 i (by omega) hi
    rw [h] at this; cases this
  have e := congrArg tl z
  rw [TL.tl_strSub] at e
  have := congrArg List.length e
  rw [List.length_take, List.length_drop, ← len_tl] at this
  have this : min (stripHi y.cps.contains true x (stripLo y.cps.contains true x) - stripLo y.cps.contains true x) (x.length - stripLo y.cps.contains true x) = 0 := this
  omega
end
section
open PySem PySem.Spec PyProof.Rows L2
open TL (tl len_tl ext_tl tl_append tl_mk mk_tl)
open PySem.NumText (AllDigits digitsVal)
def s_fraction_text : Spec := fun args L R => ∃ q, args = [fr q] ∧ Sz 1900 q ∧ R (.str (frT q)) L
def d_fraction_text_0 : WS := sRet (wIfE (wBin oEq (wBin oIx (wVar 0) (wC (.int 1))) (wC (.int 1))) (wBi gStr [wBin oIx (wVar 0) (wC (.int 0))]) (wBin oAdd (wBin oAdd (wBi gStr [wBin oIx (wVar 0) (wC (.int 0))]) (wC (.str "/"))) (wBi gStr [wBin oIx (wVar 0) (wC (.int 1))])))
theorem len_le_sI {i : Int} {b : Nat} (hb : 0 < b) (h : i.natAbs < 2 ^ b) : (sI i).length ≤ b + 1 := by
  have hl : i.natAbs.log2 < b := by
    rcases Nat.eq_zero_or_pos i.natAbs with z | z
    · rw [z]; exact hb
    · exact (Nat.log2_lt (by omega)).mpr h
  have := int_text_length_le (a := i) hb hl
  unfold sI
  rw [PyProof.Rows.ofString_len]
  exact this
theorem log_sz {i : Int} {b : Nat} (hb : 0 < b) (h : i.natAbs < 2 ^ b) : i.natAbs.log2 < b := by
  rcases Nat.eq_zero_or_pos i.natAbs with z | z
  · rw [z]; exact hb
  · exact (Nat.log2_lt (by omega)).mpr h
theorem len_ap' (a b : Str) : (a ++ b).length = a.length + b.length := by
  show (a.cps ++ b.cps).size = _
  rw [Array.size_append]; rfl
theorem ok_fraction_text : ∀ args L R, args.length = 1 → s_fraction_text args L R → d_fraction_text_0 (initE 1 args) L { nx := fun _ L' => R .non L', rt := R } := by
  rintro _ L R _ ⟨q, rfl, sq, h⟩
  have l1 := log_sz (b := 1900) (by decide) sq.1
  have l2 := log_sz (i := ((q.den : Nat) : Int)) (b := 1900) (by decide) (by rw [Int.natAbs_natCast]; exact sq.2)
  have n1 := len_le_sI (b := 1900) (by decide) sq.1
  have n2 := len_le_sI (i := ((q.den : Nat) : Int)) (b := 1900) (by decide) (by rw [Int.natAbs_natCast]; exact sq.2)
  unfold frT at h
  unfold d_fraction_text_0
  show sRet _ [some (fr q)] L _
  walk_at "ev105"
  by_cases hd : q.den = 1
  · rw [if_pos hd] at h
    rw [if_pos (by omega)]
    exact ⟨by omega, h⟩
  · rw [if_neg hd] at h
    rw [if_neg (by omega)]
    have hs : (("/" : Str)).length = 1 := by decide +kernel
    refine ⟨by omega, ?_⟩
    refine ⟨by rw [hs]; show (sI q.num).length + 1 ≤ 16777216; omega, ?_⟩
    refine ⟨by omega, ?_⟩
    exact ⟨by rw [len_ap', hs]; show (sI q.num).length + 1 + (sI _).length ≤ 16777216; omega, h⟩
theorem ty_str {L : Sto} {z : Str} : tyOk "str" (.str z) L := rfl
theorem sh_empty : SeqAt.shaped (.str ("" : Str)) = true := by decide +kernel
theorem sl_partB {q : Rat} (h : q.den ≠ 1) : Txt.partition (frT q) "/" = (sI q.num, ("/" : Str), sI ((q.den : Nat) : Int)) := by
  unfold frT
  rw [if_neg h]
  refine TL.partition_app (s := 47) (S := []) (by decide +kernel) fun z => ?_
  have := sI_signs 47 z
  omega
theorem sl_partA {q : Rat} (h : q.den = 1) : Txt.partition (frT q) "/" = (sI q.num, Str.empty, Str.empty) := by
  unfold frT
  rw [if_pos h]
  refine TL.partition_none (s := 47) (S := []) (by decide +kernel) fun z => ?_
  have := sI_signs 47 z
  omega
theorem starts_ap {z : Str} : Txt.startswith (("-" : Str) ++ z) "-" = true := by
  have hl : (("-" : Str)).length = 1 := by decide +kernel
  have ht : (("-" : Str)).cps.toList = [45] := by decide +kernel
  unfold Txt.startswith
  rw [PySem.StrLaws.subAt_eq, hl, ht, len_ap', hl, List.drop_zero, show (("-" : Str) ++ z).cps.toList = [45] ++ tl z by rw [← ht]; exact tl_append _ _]
  rw [decide_eq_true (show 0 + 1 ≤ 1 + z.length by omega)]
  rfl
theorem starts_dg {n : Nat} : Txt.startswith (sI ((n : Nat) : Int)) "-" = false := by
  have hl : (("-" : Str)).length = 1 := by decide +kernel
  have ht : (("-" : Str)).cps.toList = [45] := by decide +kernel
  unfold Txt.startswith
  rw [PySem.StrLaws.subAt_eq, hl, ht, List.drop_zero, show (sI ((n : Nat) : Int)).cps.toList = dg n from tl_sI n]
  have : ((dg n).take 1 == [45]) = false := by
    cases hd : dg n with
    | nil => rfl
    | cons c r =>
      have := dg_digits (n := n) c (by rw [hd]; exact List.mem_cons_self)
      show ((c == 45) && _) = false
      rw [show (c == 45) = false by rw [beq_eq_false_iff_ne]; omega]; rfl
  rw [this, Bool.and_false]
theorem cutM {z : Str} : cutS (("-" : Str) ++ z) (some 1) none = z := by
  refine ext_tl ?_
  unfold cutS
  rw [tl_mk]
  have h0 : HT.sIx (("-" : Str) ++ z).length 0 (some ((1 : Nat) : Int)) = min 1 (("-" : Str) ++ z).length := HT.sIx_nat _ _ _
  have h0 : HT.sIx (("-" : Str) ++ z).length 0 (some 1) = min 1 (("-" : Str) ++ z).length := h0
  have h1 : HT.sIx (("-" : Str) ++ z).length (("-" : Str) ++ z).length none = (("-" : Str) ++ z).length := rfl
  have hl : (("-" : Str) ++ z).length = 1 + z.length := by rw [len_ap', show (("-" : Str)).length = 1 by decide +kernel]
  rw [h0, h1, hl, Nat.min_eq_left (by omega), show (("-" : Str) ++ z).cps.toList = 45 :: tl z from (by rw [show (("-" : Str) ++ z).cps.toList = tl ("-" : Str) ++ tl z from tl_append _ _]; rw [show tl ("-" : Str) = [45] by decide +kernel]; rfl)]
  show (tl z).take (1 + z.length - 1) = tl z
  rw [show 1 + z.length - 1 = (tl z).length by rw [← len_tl]; omega, List.take_length]
theorem sI_inj {i j : Int} (h : sI i = sI j) : i = j := by
  have key : ∀ {m n : Nat}, sI (-((m + 1 : Nat) : Int)) ≠ sI ((n : Nat) : Int) := fun {m n} z => by
    rw [sI_neg] at z
    have := congrArg tl z
    rw [tl_append, tl_sI, tl_sI, show tl ("-" : Str) = [45] by decide +kernel] at this
    have := dg_digits (n := n) 45 (by rw [← this]; exact List.mem_cons_self)
    omega
  by_cases hi : 0 ≤ i
  · obtain ⟨m, rfl⟩ := Int.eq_ofNat_of_zero_le hi
    by_cases hj : 0 ≤ j
    · obtain ⟨n, rfl⟩ := Int.eq_ofNat_of_zero_le hj
      have := congrArg tl h
      rw [tl_sI, tl_sI] at this
      rw [dg_inj this]
    · obtain ⟨n, rfl⟩ : ∃ n : Nat, j = -((n + 1 : Nat) : Int) := ⟨(-j - 1).toNat, by omega⟩
      exact absurd h.symm key
  · obtain ⟨m, rfl⟩ : ∃ n : Nat, i = -((n + 1 : Nat) : Int) := ⟨(-i - 1).toNat, by omega⟩
    by_cases hj : 0 ≤ j
    · obtain ⟨n, rfl⟩ := Int.eq_ofNat_of_zero_le hj
      exact absurd h key
    · obtain ⟨n, rfl⟩ : ∃ n : Nat, j = -((n + 1 : Nat) : Int) := ⟨(-j - 1).toNat, by omega⟩
      rw [sI_neg, sI_neg] at h
      have := congrArg tl h
      rw [tl_append, tl_append, tl_sI, tl_sI] at this
      have := dg_inj (List.append_cancel_left this)
      omega
theorem frT_inj {p q : Rat} (h : frT p = frT q) : p = q := by
  have hse : (Str.empty : Str) ≠ ("/" : Str) := by decide +kernel
  have hh : Txt.partition (frT p) "/" = Txt.partition (frT q) "/" := by rw [h]
  by_cases hp : p.den = 1
  · rw [sl_partA hp] at hh
    by_cases hq : q.den = 1
    · rw [sl_partA hq] at hh
      exact Rat.ext (sI_inj (congrArg Prod.fst hh)) (by rw [hp, hq])
    · rw [sl_partB hq] at hh
      exact absurd (congrArg (fun z => z.2.1) hh) hse
  · rw [sl_partB hp] at hh
    by_cases hq : q.den = 1
    · rw [sl_partA hq] at hh
      exact absurd (congrArg (fun z => z.2.1) hh).symm hse
    · rw [sl_partB hq] at hh
      refine Rat.ext (sI_inj (congrArg Prod.fst hh)) ?_
      have := sI_inj (congrArg (fun z => z.2.2) hh)
      omega
/-- the text z writes q, by numbers of at most sixty figures -/
def FrIn (z : Str) (q : Rat) : Prop := z = frT q ∧ q.num.natAbs < 10 ^ 60 ∧ q.den < 10 ^ 60
open Classical in
noncomputable def frR (z : Str) : Option Rat := if h : ∃ q, FrIn z q then some (choose h) else none
theorem frR_of {z : Str} {q : Rat} (h : FrIn z q) : frR z = some q := by
  have ex : ∃ q, FrIn z q := ⟨q, h⟩
  unfold frR
  rw [dif_pos ex]
  have := Classical.choose_spec ex
  rw [frT_inj (this.1.symm.trans h.1)]
theorem frR_some {z : Str} {q : Rat} (h : frR z = some q) : FrIn z q := by
  unfold frR at h
  split at h
  · rename_i ex
    cases h
    exact Classical.choose_spec ex
  · cases h
theorem frR_no {z : Str} (h : ∀ q, ¬ FrIn z q) : frR z = none := by
  cases e : frR z with
  | none => rfl
  | some q => exact absurd (frR_some e) (h q)
noncomputable def frO (z : Str) : PV := match frR z with
  | some q => fr q
  | none => .non
theorem FrIn.sz {z : Str} {q : Rat} (h : FrIn z q) : Sz 200 q := by
  have p60 : 10 ^ 60 < 2 ^ 200 := by decide
  exact ⟨Nat.lt_trans h.2.1 p60, Nat.lt_trans h.2.2 p60⟩
theorem spl1 {s : Nat} : ∀ (l acc : List Nat), s ∉ acc → ∃ parts, TL.spl [s] 0 acc l = parts ∧ parts ≠ [] ∧ TL.joinL [s] parts = acc ++ l ∧ ∀ p ∈ parts, s ∉ p
  | [], acc, h => ⟨[acc], TL.spl_nil _ _ _, by simp, by rw [List.append_nil]; rfl, fun p hp => by rw [List.mem_singleton.mp hp]; exact h⟩
  | c :: r, acc, h => by
    by_cases hc : c = s
    · subst hc
      obtain ⟨ps, e, hn, hj, hf⟩ := spl1 (s := c) r [] (by simp)
      refine ⟨acc :: ps, ?_, by simp, ?_, ?_⟩
      · rw [TL.spl_hit (show TL.pre [c] (c :: r) = true from TL.pre_self [c] r)]
        rw [← e]; rfl
      · rw [joinL_cons hn, hj]; rfl
      · intro p hp
        rcases List.mem_cons.mp hp with rfl | hp
        · exact h
        · exact hf p hp
    · obtain ⟨ps, e, hn, hj, hf⟩ := spl1 (s := s) r (acc ++ [c]) (by
        intro z
        rcases List.mem_append.mp z with z | z
        · exact h z
        · exact hc (List.mem_singleton.mp z).symm)
      refine ⟨ps, ?_, hn, ?_, hf⟩
      · rw [TL.spl_miss (TL.pre_of_head [] r hc), e]
      · rw [hj, List.append_assoc]; rfl
/-- a text cut at one sign -/
theorem split1 {y : Str} {s : Nat} (ey : tl y = [s]) (hk : y.cps.all (· < 256) = true) (z : Str) : Txt.split z y ≠ [] ∧ Txt.join y (Txt.split z y) = z ∧ ∀ w ∈ Txt.split z y, s ∉ tl w := by
  have e := TL.split_spl z y (by rw [ey]; simp) (TL.kind_ok hk)
  obtain ⟨ps, e1, hn, hj, hf⟩ := spl1 (s := s) (tl z) [] (by simp)
  rw [ey, e1] at e
  refine ⟨fun q => ?_, ?_, fun w hw => hf _ (by rw [← e]; exact List.mem_map_of_mem hw)⟩
  · rw [q] at e
    exact hn e.symm
  · refine ext_tl ?_
    rw [TL.join_eq, TL.tl_join, ey, e, hj]; rfl
theorem par1 {s : Nat} : ∀ (l acc : List Nat), (s ∉ l ∧ TL.par [s] acc l = none) ∨ ∃ a b, l = a ++ s :: b ∧ s ∉ a ∧ TL.par [s] acc l = some (acc ++ a, b)
  | [], acc => .inl ⟨by simp, rfl⟩
  | c :: r, acc => by
    by_cases hc : c = s
    · subst hc
      refine .inr ⟨[], r, rfl, by simp, ?_⟩
      rw [TL.par_hit (show TL.pre [c] (c :: r) = true from TL.pre_self [c] r), List.append_nil]; rfl
    · rcases par1 (s := s) r (acc ++ [c]) with ⟨h1, h2⟩ | ⟨a, b, h1, h2, h3⟩
      · refine .inl ⟨fun z => ?_, ?_⟩
        · rcases List.mem_cons.mp z with z | z
          · exact hc z.symm
          · exact h1 z
        · rw [TL.par_miss (TL.pre_of_head [] r hc), h2]
      · refine .inr ⟨c :: a, b, by rw [h1]; rfl, fun z => ?_, ?_⟩
        · rcases List.mem_cons.mp z with z | z
          · exact hc z.symm
          · exact h2 z
        · rw [TL.par_miss (TL.pre_of_head [] r hc), h3, List.append_assoc]; rfl
/-- a text parted at the stroke -/
theorem part1 (z : Str) : (47 ∉ tl z ∧ Txt.partition z "/" = (z, Str.empty, Str.empty)) ∨ ∃ a b : Str, z = a ++ ("/" : Str) ++ b ∧ 47 ∉ tl a ∧ Txt.partition z "/" = (a, ("/" : Str), b) := by
  have e47 : tl ("/" : Str) = [47] := by decide +kernel
  rcases par1 (s := 47) (tl z) [] with ⟨h1, h2⟩ | ⟨a, b, h1, h2, h3⟩
  · refine .inl ⟨h1, ?_⟩
    exact TL.partition_none (s := 47) (S := []) e47 h1
  · have hz : z = (⟨a.toArray⟩ : Str) ++ ("/" : Str) ++ ⟨b.toArray⟩ := by
      refine ext_tl ?_
      rw [tl_append, tl_append, e47, h1, List.append_assoc]; rfl
    refine .inr ⟨_, _, hz, h2, ?_⟩
    rw [hz]
    exact TL.partition_app (s := 47) (S := []) e47 h2
end
section
open PySem PySem.Spec PyProof.Rows L2
abbrev SpecX := List PV → Sto → PK → (Nat → Sto → Prop) → Prop
def liftSpX (K : PySem.W.Frag) (cl : Nat → Value) (n : Nat) (S : SpecX) : Sp := fun vs H Q E => vs.length = n ∧ ∃ args L R EX, RepVs K H args vs ∧ RepH K H L ∧ S args L R EX ∧ Kt K H L R Q ∧
  ∀ kd L' H', EX kd L' → Fm H L H' L' → RepH K H' L' → E (cl kd) none H'
structure FnX (P : Program) (w : World) (K : PySem.W.Frag) (mg : Str → Option Value) (base : Heap) (k : Nat) (f : Addr) (fd : FuncData) (ps : List Str) (sp : Sp) : Prop where
  ln : ∀ vs H Q E, sp vs H Q E → vs.length = ps.length
  go : ∀ (A : Around) (fr : List PySem.Env) (s : Shared) (H : Hp) (as : Args) (us : List Value) (vs : List V) (Q : VK) (E : XK), A.guards = some [] → Room k A → Env0 P w K mg base A fr s H →
    BindsTo s fd as (ps.zip us) → Vals vs us → sp vs H Q E → codeAny (model P w) A (.call (.ref f) as) (CR (L2.CX P w) fr P w H s Q E) s
structure FnIsX (P : Program) (w : World) (K : PySem.W.Frag) (mg : Str → Option Value) (base : Heap) (cl : Nat → Value) (k : Nat) (x : Str) (n : Nat) (S : SpecX) : Prop where
  ex : ∃ (f : Addr) (fd : FuncData) (ps : List Str), mg x = some (.ref f) ∧ PySem.W.keepIn K (.ref f) = true ∧ Binds K fd ps [] ∧ FnX P w K mg base k f fd ps (liftSpX K cl n S)
section
variable {P : Program} {w : World} {K : PySem.W.Frag} {mg : Str → Option Value} {base : Heap} {k : Nat} {f : Addr} {fd : FuncData} {ps : List Str} {sp : Sp}
theorem FnX.up {j : Nat} (g : FnX P w K mg base j f fd ps sp) (h : j ≤ k) : FnX P w K mg base k f fd ps sp :=
  ⟨g.ln, fun A fr s H as us vs Q E gd room => g.go A fr s H as us vs Q E gd (room.mono h)⟩
theorem FnIsX.mono {cl : Nat → Value} {k k' : Nat} {x : Str} {n : Nat} {S : SpecX} (h : FnIsX P w K mg base cl k x n S) (hk : k ≤ k') : FnIsX P w K mg base cl k' x n S := by
  obtain ⟨f, fd, ps, h1, h2, h3, h4⟩ := h.ex
  exact ⟨f, fd, ps, h1, h2, h3, h4.up hk⟩
end
section
variable {X : Cx} {k : Nat} {f : Addr} {fd : FuncData} {ps : List Str} {sp : Sp} {x : Str} {p pos : Pos} {e : Expr} {es : List Expr} {t : TA} {W : WX}
theorem x_runs {pins : List (Addr × Obj)} {σ : L2.St} {H : Hp} {s : Shared} {Q : VK} {us : List Value} {vs : List V} (g : FnX X.prog X.w X.K X.mg X.base k f fd ps sp) (gd : X.A.guards = some []) (room : Room k X.A) (bi : Binds X.K fd ps [])
    (tk : Takes X W) (I : Inv X pins σ H s) (rv : Vals vs us) (hs : sp vs H Q (L2.WE W σ)) : wpAny (model X.prog X.w) X.A (call (.ref f) us) (EP X pins σ Q) X.xe s := by
  have n1 : us.length = ps.length := by
    have := g.ln _ _ _ _ hs
    rw [rv.length] at this
    exact this
  have b1 := bi s us I.kIn (by rw [List.append_nil]; exact n1)
  rw [List.append_nil] at b1
  have c1 := g.go X.A X.stack s H ⟨us, []⟩ us vs Q _ gd room I.env0 b1 rv hs
  refine wpAny_call (codeAny_mono c1 ?_)
  intro res s2 hres
  match res, hres with
  | .ok (.ret u), hres => exact I.after hres
  | .ok .next, hres => exact hres.elim
  | .ok .brk, hres => exact hres.elim
  | .ok .cont, hres => exact hres.elim
  | .error ee, hres => exact passAt tk σ pins H s ee s2 I hres
def tCallX (sp : Sp) (W : WX) (t : TA) : TE := fun σ H Q => t σ H fun vs H1 => sp vs H1 Q (L2.WE W σ)
theorem x_call (g : FnX X.prog X.w X.K X.mg X.base k f fd ps sp) (gd : X.A.guards = some []) (room : Room k X.A) (gl : Gl X x) (hm : X.mg x = some (.ref f)) (hk : PySem.W.keepIn X.K (.ref f) = true) (bi : Binds X.K fd ps [])
    (tk : Takes X W) (ha : PA X (e :: es) t) (hdb : (x == ("__debug__" : Str)) = false) (he : starEach (e :: es) X.env = (false, eval e X.env) :: starEach es X.env) (hpl : (backTo pos (starEach es X.env)).any (·.1) = false) :
    PE X (.Call (.Name x p) (e :: es) [] pos) (tCallX sp W t) := by
  constructor
  intro pins s σ H Q I ht
  apply wpAny_Call_Name_kw
  apply ld_glob I gl hm _ hdb
  have a1 := ha.run pos pins s σ H _ I ht
  refine PySem.W.callWith_K (h₀ := X.base) I.ok.mod.kin hk (thn a1 ?_) he hpl
  rintro us s1 ⟨vs, H1, J, rv, q⟩
  exact ⟨J.kIn, x_runs g gd room bi tk J rv q⟩
end
/-- a def by its body -/
theorem x_def {P : Program} {w : World} {K : PySem.W.Frag} {mg : Str → Option Value} {base : Heap} {k : Nat} {f : Addr} {nm ql : Str} {pr : Arguments} {bd : List Stmt} {sc : Scope} {dV kV doc pm cdv ct oc : Value} {an od : Option Addr}
    {osl : Array (Option Value)} {N ps : List Str} {sp : Sp} (lk : K.lookup f = some ⟨oc, od, .func (PySem.W.fnOf nm ql pr bd sc dV kV doc pm an cdv ct), osl⟩) (cd : PySem.W.codeIn K cdv ql = true) (S : FnScope N ps sc)
    (ln : ∀ vs H Q E, sp vs H Q E → vs.length = ps.length)
    (hb : ∀ (A : Around) (fr : List PySem.Env) (s : Shared) (H : Hp) (vs : List V) (Q : VK) (E : XK), A.guards = some [] → Room k (A.deeper (envOfC ql sc s.heap.objs.size f cdv)) → sp vs H Q E →
      ∃ t, PSs (cxOf (L2.CX P w) P w K mg base N ql sc f cdv A fr s H E) bd t ∧ t { nx := fun _ H' => Q .non H', rt := Q } (L2.start N vs) H) :
    FnX P w K mg base (k + 1) f (PySem.W.fnOf nm ql pr bd sc dV kV doc pm an cdv ct) ps sp := by
  constructor
  · exact ln
  intro A fr s H as us vs Q E gd room e0 bt rv hs
  have n1 := ln _ _ _ _ hs
  have keep : ∀ b o, base.get? b = some o → s.heap.get? b = some o := fun b o z => (e0.bs b o z).1
  have kin : K.In s.heap := e0.mod.kin.keeps keep
  have nol : s.heap.NoLimit := e0.mod.nolimit.keeps keep
  have kinds : ∀ y ∈ ps.zip us, sc.names.lookup y.1 = some .local ∨ (sc.names.lookup y.1 = some .cell ∧ ((cellsFrom (s.heap.objs.size + 1) sc.names []).lookup y.1).isSome = true) := by
    rintro ⟨y, v⟩ hy
    have hm := (List.of_mem_zip hy).1
    cases S.par y hm with
    | inl z => exact .inl z
    | inr z => exact .inr ⟨z, PySem.W.cellsFrom_some _ _ _ (.inl z)⟩
  apply codeAny_call_function room.depth (kin _ _ lk) rfl S.co S.gen rfl (PySem.W.codeRec_of kin cd)
  apply bt
  apply wpAny_newFunctionEnv_cells S.kind kinds
  rintro en rfl s1 ic
  refine ⟨nol.keeps ic.toInCall.keep, codeAny_func ?_⟩
  obtain ⟨t, pt, q⟩ := hb A fr s H vs Q E gd (room.deeper _) hs
  have J : Inv (cxOf (L2.CX P w) P w K mg base N ql sc f cdv A fr s H E) [] (L2.start N vs) H s1 := inv_start S room.hd e0 n1 rv ic
  refine wpAny_mono (pt.run [] s1 _ H _ J q) ?_ (fun _ _ z => z)
  intro fl s2 z
  match fl, z with
  | .ret u, ⟨v, σ2, H2, J2, r2, q2⟩ => exact ⟨v, H2, J2.os, J2.bare, J2.base, J2.hok, r2, q2⟩
  | .next, ⟨σ2, H2, J2, q2⟩ => exact ⟨V.non, H2, J2.os, J2.bare, J2.base, J2.hok, rfl, q2⟩
  | .brk, ⟨_, _, _, q2⟩ => exact q2.elim
  | .cont, ⟨_, _, _, q2⟩ => exact q2.elim
end
section
open PySem PySem.Spec PyProof.Rows L2
/-- what is there stays -/
def Hs (H H' : Hp) : Prop := ∀ b o, H b = some o → H' b = some o
theorem Hs.refl {H : Hp} : Hs H H := fun _ _ h => h
theorem Hs.trans {H H1 H2 : Hp} (a : Hs H H1) (b : Hs H1 H2) : Hs H H2 := fun c o h => b c o (a c o h)
theorem Hs.new {H : Hp} {p : Addr} {o : HO} (n : H p = none) : Hs H (upd H p o) := fun b u e => by rw [upd_ne (ne_of_none e n)]; exact e
theorem Hs.ex {H H' : Hp} (h : Hs H H') : Ex H H' := ⟨fun a xs e => h a _ e, fun a o xs e => h a _ e⟩
theorem Hs.fm {H H' : Hp} {L : Sto} (h : Hs H H') : Fm H L H' L := fun a o e n => ⟨h a o e, n⟩
theorem Hs.rep {K : PySem.W.Frag} {H H' : Hp} {L : Sto} (h : Hs H H') (r : RepH K H L) : RepH K H' L := fun a o e => (r a o e).ex h.ex fun u q => h a u q
section
variable {X : Cx} {a D : Addr} {oe : Obj} {pn : List (Addr × Obj)}
/-- a class that stands in the text, or a built-in one -/
structure Cn (X : Cx) (D : Addr) (x : Str) (b : Bool) : Prop where
  gl : Gl X x
  nd : (x == ("__debug__" : Str)) = false
  nn : x ≠ "__name__"
  ex : ∃ c cv, ClsV c cv ∧ (X.mg x = some cv ∨ (X.mg x = none ∧ bootBuiltins x = some cv)) ∧ PySem.W.kitOne X.K (.ref D) cv = some b
/-- the names that a suite asks with -/
structure SuN (X : Cx) (j : Nat) (xe : Str) : Prop where
  nd : X.N.Nodup
  ix : X.N[j]? = some xe
  vis : Vis X.env.scope xe
  d1 : (xe == ("__debug__" : Str)) = false
  d2 : (xe == ("__classdict__" : Str)) = false
  gi : Gl X "isinstance"
  mi : X.mg "isinstance" = none
theorem pe_cls {x : Str} {b : Bool} {p : Pos} (h : Cn X D x b) : ∃ c cv, ClsV c cv ∧ PySem.W.kitOne X.K (.ref D) cv = some b ∧ PE (X.suite a pn) (.Name x p) (tC c) := by
  obtain ⟨c, cv, h1, h2, h3⟩ := h.ex
  refine ⟨c, cv, h1, h3, ?_⟩
  have r : RelV c cv := by cases h1 <;> rfl
  rcases h2 with h2 | ⟨h2, h4⟩
  · exact pe_glob (X := X.suite a pn) h.gl h2 r h.nd
  · exact pe_bltn (X := X.suite a pn) h.gl h2 h4 r h.nn h.nd
variable {j : Nat} {xe : Str} {a1 a2 a3 a4 a5 a6 : Pos}
theorem pe_isi1 (C : ExcC X.K D) (hz : Zc (.ref D) none oe) (hf : ∃ vs, oe.data = .fields vs) (hn : SuN X j xe) {x : Str} {b : Bool} (h : Cn X D x b) :
    PE (X.suite a ((a, oe) :: pn)) (.Call (.Name "isinstance" a1) [.Name xe a2, .Name x a3] [] a4) (fun σ H Q => σ[j]? = some (some (.ref a)) ∧ Q (.bl b) H) := by
  obtain ⟨c, cv, h1, h2, h3⟩ := pe_cls (a := a) (pn := (a, oe) :: pn) (p := a3) h
  refine (pe_callB (X := X.suite a ((a, oe) :: pn)) (call_isE C hz hf) hn.gi hn.mi (by first | rfl | decide +kernel) (pa_cons (pe_var (X := X.suite a ((a, oe) :: pn)) hn.ix hn.vis hn.d1 hn.d2) (pa_cons h3 pa_nil))).weak fun σ H Q q => ?_
  exact ⟨_, q.1, c, cv, b, rfl, fun u r => h1.eq r, h2, q.2⟩
end
end
section
open PySem PySem.Spec PyProof.Rows L2
theorem PS_nox {X : Cx} {st : Stmt} {t : TS} (h : L2.PS X.nox st t) : L2.PS X st t := ⟨fun pins s σ H D I hw =>
  wpAny_mono (h.run pins s σ H D (I.wish _) hw) (fun _ _ q => q.unwish) fun _ _ z => False.elim z⟩
theorem takesF {X : Cx} : Takes X (fun _ _ _ _ => False) := fun _ _ x => by
  obtain ⟨_, _, _, _, _, _, _, _, _, _, _, _, _, _, _, _, h⟩ := x
  exact h.elim
/-- a class that is raised: kind kd -/
structure RaC (K : PySem.W.Frag) (mg : Str → Option Value) (cl : Nat → Value) (x : Str) (kd : Nat) : Prop where
  ex : ∃ C B newId initId bmB, cl kd = .ref C ∧ ExcBaseFacts B newId initId bmB ∧ PySem.W.excIn K C bmB newId = true ∧ mg x = some (.ref C) ∧ PySem.W.keepIn K (.ref C) = true ∧
    PySem.W.subIn K (.ref C) (.type "BaseException") = some true ∧ PySem.W.typeIn K (.ref C) = some (.type "type")
/-- first a statement, then: if test: raise C(text), then: return e -/
def zRai (w1 : WS) (wt we : WE) (kd : Nat) (n : Nat) : SpecX := fun args L R EX => w1 (initE n args) L { nx := fun e' l => wt e' l fun x La => bIf x (EX kd La) (we e' La R), rt := R }
section
variable {P : Program} {w : World} {K : PySem.W.Frag} {mg : Str → Option Value} {base : Heap} {k : Nat} {T : Tab} {cl : Nat → Value}
theorem raise_fn (hT : TabOk P w K mg base k T) {x qual : Str} {st : Stmt} {f : Addr} {fd : FuncData} {N ps : List Str} {n kd : Nat} {S : SpecX} {s1 : Stmt} {t e : Expr} {cn m : Str} {j : Nat} {p1 p2 p3 p4 p5 p6 : Pos} {w1 : WS} {wt we : WE}
    (F : Fun K x qual st f fd) (sc : FnScope N ps (defScope st))
    (hb : defBody st = [s1, .If t [.Raise (some (.Call (.Name cn p1) [.Constant (.str m) j p2] [] p3)) none p4] [] p5, .Return (some e) p6])
    (h1 : cS T n ⟨N, defScope st, fun _ => true⟩ s1 = some w1) (h2 : cT T n ⟨N, defScope st, fun _ => true⟩ t = some wt) (h3 : cE T n ⟨N, defScope st, fun _ => true⟩ e = some we)
    (hg : (defScope st).names.lookup cn = some .globalImplicit) (hd : (cn == ("__debug__" : Str)) = false) (hcl : RaC K mg cl cn kd)
    (hS : ∀ args L R EX, args.length = ps.length → S args L R EX → zRai w1 wt we kd N.length args L R EX) : FnX P w K mg base (k + 1) f fd ps (liftSpX K cl ps.length S) := by
  obtain ⟨oc, od, kV, doc, pm, an, cdv, ct, osl, rfl, lk, hcd⟩ := F.ex
  obtain ⟨C, B, newId, initId, bmB, ec, eF, eq, em, ek, eb, et⟩ := hcl.ex
  rw [hb] at lk ⊢
  refine x_def lk hcd sc (fun vs H Q E h => h.1) fun A outer s H vs Q E gd hr h => ?_
  obtain ⟨hl, args, L, R, EX, ra, rh, hs, kt, ke⟩ := h
  have hx : XOk (cxOf (L2.CX P w) P w K mg base N qual (defScope st) f cdv A outer s H E).nox T ⟨N, defScope st, fun _ => true⟩ :=
    ⟨rfl, sc.nd, rfl, sc.kind, fun _ _ => rfl, rfl, gd, ⟨k, hr, hT.fns⟩, hT.non, hT.con⟩
  have g1 := PS_nox ((cS_ok hx PassesOwn.never n).1 h1)
  have g2 := ((sn_all n).t hx h2).nox
  have g3 := ((sn_all n).e hx h3).nox
  have tk : Takes (cxOf (L2.CX P w) P w K mg base N qual (defScope st) f cdv A outer s H E) (fun cls d _ H => E cls d H) := takes_of rfl rfl rfl rfl
  have r1 := ps_raise (pos := p4) rfl tk (pmk_own (X := cxOf (L2.CX P w) P w K mg base N qual (defScope st) f cdv A outer s H E) (x := cn) (m := m) (j := j) (p := p1) (p2 := p2) (pos := p3) eF eq em ek (raises_own eb et) hg hd)
  refine ⟨_, pss_cons g1 (pss_cons (ps_if (pos := p5) g2 (pss_one r1) pss_nil) (pss_one (ps_ret (pos := p6) g3))), ?_⟩
  have hs := hS args L R EX (by rw [ra.length, hl]) hs
  refine ⟨initE N.length args, L, _, start_rep ra, rh, hs, ?_⟩
  refine ⟨fun env' L' σ' H' h f r' rh' => ?_, kt, fun _ _ _ _ h => h.elim, fun _ _ _ _ h => h.elim⟩
  refine ⟨env', L', _, r', rh', h, fun x La H1 hq f1 r1 => ?_⟩
  obtain ⟨b, rfl, hc⟩ := bIf_bl hq
  refine ⟨b, rfl, ?_⟩
  cases b with
  | true =>
    rw [if_pos rfl] at hc ⊢
    show E (.ref C) none H1
    rw [← ec]
    exact ke kd La H1 hc (f.trans f1) r1
  | false =>
    rw [if_neg Bool.false_ne_true] at hc ⊢
    exact ⟨env', La, R, r'.ex (f1.ex rh'), r1, hc, kt.fm (f.trans f1)⟩
structure ErC (K : PySem.W.Frag) (mg : Str → Option Value) (v : Value) (x : Str) (b : Bool) : Prop where
  ex : ∃ D c cv, v = .ref D ∧ ClsV c cv ∧ (mg x = some cv ∨ (mg x = none ∧ bootBuiltins x = some cv)) ∧ PySem.W.kitOne K (.ref D) cv = some b
end
end
section
open PySem PySem.Spec PyProof.Rows L2
open TL (tl len_tl ext_tl tl_append tl_mk mk_tl)
open PySem.NumText (AllDigits digitsVal)
structure Tx (z : Str) : Prop where
  lo : ∀ c ∈ tl z, c < 128
  ln : z.length ≤ 100000
theorem Tx.sh {z : Str} (h : Tx z) : SeqAt.shaped (.str z) = true := shp (by
    unfold PyData.canLay0 PyData.strOk
    rw [Array.all_eq_true']
    intro c hc
    have := h.lo c (by simpa [tl] using hc)
    exact decide_eq_true (by omega)) (by show 0 ≤ 64; decide)
def s_number_in : Spec := fun args L R => ∃ z, args = [.str z] ∧ Tx z ∧ R (pO (numT z)) L
def s_fraction_in : Spec := fun args L R => ∃ z, args = [.str z] ∧ Tx z ∧ R (frO z) L
def s_fraction_from : SpecX := fun args L R E => ∃ z, args = [.str z] ∧ Tx z ∧ (∀ q, frR z = some q → R (fr q) L) ∧ (frR z = none → E 0 L)
def d_number_in_1 : WS := sRet (wBi gInt [wVar 0])
def d_number_in_0a_0 : WS := sRet (wC .non)
def d_number_in_0 : WS := sSeq (sIf (wOr (wUn oNot (wChain oLe oLe (wC (.int 1)) (wBi gLen [wVar 0]) (wC (.int 60)))) (wBin oNe (wMt "str" mStrip (wVar 0) [wC (.str "0123456789")]) (wC (.str "")))) d_number_in_0a_0 sNil) d_number_in_1
def d_fraction_in_6 : WS := sRet (wIfE (wBin oEq (wCall s_fraction_text [wVar 7]) (wVar 0)) (wVar 7) (wC .non))
def d_fraction_in_5 : WS := sSeq (sAsg (gN 7) (wCall s_fraction [wBin oMul (wVar 4) (wVar 5), wVar 6])) d_fraction_in_6
def d_fraction_in_4a_0 : WS := sRet (wC .non)
def d_fraction_in_4 : WS := sSeq (sIf (wOr (wBin oIs (wVar 5) (wC .non)) (wOr (wBin oIs (wVar 6) (wC .non)) (wBin oEq (wVar 6) (wC (.int 0))))) d_fraction_in_4a_0 sNil) d_fraction_in_5
def d_fraction_in_3 : WS := sSeq (sAsg (gN 6) (wIfE (wBin oEq (wVar 2) (wC (.str "/"))) (wCall s_number_in [wVar 3]) (wC (.int 1)))) d_fraction_in_4
def d_fraction_in_2 : WS := sSeq (sAsg (gN 5) (wCall s_number_in [wIfE (wBin oLt (wVar 4) (wC (.int 0))) (wSl (wVar 1) (wSo (wC (.int 1))) wNo) (wVar 1)])) d_fraction_in_3
def d_fraction_in_1 : WS := sSeq (sAsg (gN 4) (wIfE (wMt "str" mStarts (wVar 1) [wC (.str "-")]) (wC (.int (-1))) (wC (.int 1)))) d_fraction_in_2
def d_fraction_in_0 : WS := sSeq (sAsg (gT 3 (gsL [gN 1, gN 2, gN 3])) (wMt "str" mPart (wVar 0) [wC (.str "/")])) d_fraction_in_1
theorem empty_eq : (Str.empty : Str) = ("" : Str) := by decide +kernel
theorem fig_in {c : Nat} : (("0123456789" : Str)).cps.contains c = true ↔ 48 ≤ c ∧ c ≤ 57 := by
  rw [Array.contains_iff_mem, Array.mem_def, show (("0123456789" : Str)).cps.toList = [48, 49, 50, 51, 52, 53, 54, 55, 56, 57] by decide +kernel]
  constructor
  · intro h
    simp only [List.mem_cons, List.not_mem_nil, or_false] at h
    omega
  · intro h
    simp only [List.mem_cons, List.not_mem_nil, or_false]
    omega
theorem Tx.of {z a : Str} (h : Tx z) (hs : ∀ c ∈ tl a, c ∈ tl z) (hl : a.length ≤ z.length) : Tx a := ⟨fun c hc => h.lo c (hs c hc), Nat.le_trans hl h.ln⟩
theorem Tx.strip {z y : Str} (h : Tx z) : Tx (Txt.stripChars z y) := by
  obtain ⟨i, j, e⟩ : ∃ i j, tl (Txt.stripChars z y) = ((tl z).drop i).take j := by
    unfold Txt.stripChars
    rw [stripBy_eq]
    exact ⟨_, _, TL.tl_strSub _ _ _⟩
  refine h.of (fun c hc => ?_) ?_
  · rw [e] at hc
    exact List.mem_of_mem_drop (List.mem_of_mem_take hc)
  · rw [len_tl, e, len_tl, List.length_take, List.length_drop]
    omega
theorem ok_number_in : ∀ args L R, args.length = 1 → s_number_in args L R → d_number_in_0 (initE 1 args) L { nx := fun _ L' => R .non L', rt := R } := by
  rintro _ L R _ ⟨z, rfl, hx, h⟩
  have hl := hx.ln
  unfold d_number_in_0 d_number_in_0a_0
  show sSeq _ _ [some (.str z)] L _
  walk_at "ev105"
  refine ⟨by show _ ≤ 16777216; omega, ?_⟩
  unfold numT at h
  by_cases h1 : 1 ≤ z.length
  case neg =>
    rw [if_neg (fun q => h1 q.1)] at h
    walk_at "ev105"
    rw [if_neg (by omega)]
    walk_at "ev105"
    exact h
  walk_at "ev105"
  rw [if_pos (by omega)]
  by_cases h2 : z.length ≤ 60
  case neg =>
    rw [if_neg (fun q => h2 q.2.1)] at h
    rw [if_neg (by omega)]
    walk_at "ev105"
    exact h
  rw [if_pos (by omega)]
  refine ⟨ty_str, by show _ ≤ 16777216; omega, ?_⟩
  by_cases ha : AllD z
  · rw [if_pos ⟨h1, h2, ha⟩] at h
    have e0 : Txt.stripChars z "0123456789" = Str.empty := strip_all fun c hc => fig_in.mpr (ha c hc)
    rw [e0, empty_eq]
    walk_at "ev105"
    rw [oNe_sS sh_empty sh_empty, beq_self_eq_true]
    walk_at "ev105"
    unfold d_number_in_1
    walk_at "ev105"
    refine ⟨_, intText_digits ha (fun e => ?_) (by omega), by omega, h⟩
    have : tl z = [] := e
    rw [len_tl, this] at h1
    exact absurd h1 (by decide)
  · rw [if_neg (fun q => ha q.2.2)] at h
    obtain ⟨c, hc, hn⟩ : ∃ c ∈ tl z, ¬ (48 ≤ c ∧ c ≤ 57) := Classical.byContradiction fun q => ha fun c hc => Classical.byContradiction fun hn => q ⟨c, hc, hn⟩
    have e0 : Txt.stripChars z "0123456789" ≠ Str.empty := strip_some hc (by
      cases e : (("0123456789" : Str)).cps.contains c with
      | false => rfl
      | true => exact absurd (fig_in.mp e) hn)
    have e1 : (Txt.stripChars z "0123456789" == ("" : Str)) = false := by
      rw [beq_eq_false_iff_ne, ← empty_eq]
      exact e0
    walk_at "ev105"
    rw [oNe_sS hx.strip.sh sh_empty, e1]
    walk_at "ev105"
    exact h
def hdP (a : Str) : Int := if Txt.startswith a "-" = true then -1 else 1
def nzP (a : Str) : Str := if Txt.startswith a "-" = true then cutS a (some 1) none else a
theorem nz_sI {i : Int} (h : i.natAbs < 10 ^ 60) : numT (nzP (sI i)) = some i.natAbs ∧ hdP (sI i) * (i.natAbs : Int) = i := by
  by_cases h0 : 0 ≤ i
  · obtain ⟨m, rfl⟩ := Int.eq_ofNat_of_zero_le h0
    unfold nzP hdP
    rw [if_neg (by rw [starts_dg]; decide), if_neg (by rw [starts_dg]; decide)]
    exact ⟨numT_sI (by simpa using h), by simp⟩
  · obtain ⟨m, rfl⟩ : ∃ m : Nat, i = -((m + 1 : Nat) : Int) := ⟨(-i - 1).toNat, by omega⟩
    unfold nzP hdP
    rw [sI_neg, if_pos starts_ap, if_pos starts_ap, cutM]
    rw [show (-((m + 1 : Nat) : Int)).natAbs = m + 1 by omega] at h ⊢
    exact ⟨numT_sI h, by omega⟩
theorem key_fr {z a s b : Str} {q : Rat} (h : FrIn z q) (hp : Txt.partition z "/" = (a, s, b)) :
    numT (nzP a) = some q.num.natAbs ∧ hdP a * (q.num.natAbs : Int) = q.num ∧ ((s = ("/" : Str) ∧ numT b = some q.den) ∨ (s = ("" : Str) ∧ q.den = 1)) := by
  obtain ⟨rfl, h1, h2⟩ := h
  by_cases hd : q.den = 1
  · rw [sl_partA hd] at hp
    obtain ⟨rfl, rfl, rfl⟩ : sI q.num = a ∧ Str.empty = s ∧ Str.empty = b := by
      have := congrArg Prod.fst hp
      have := congrArg (fun x => x.2.1) hp
      have := congrArg (fun x => x.2.2) hp
      exact ⟨by assumption, by assumption, by assumption⟩
    obtain ⟨e1, e2⟩ := nz_sI h1
    exact ⟨e1, e2, .inr ⟨empty_eq, hd⟩⟩
  · rw [sl_partB hd] at hp
    obtain ⟨rfl, rfl, rfl⟩ : sI q.num = a ∧ ("/" : Str) = s ∧ sI ((q.den : Nat) : Int) = b := by
      have := congrArg Prod.fst hp
      have := congrArg (fun x => x.2.1) hp
      have := congrArg (fun x => x.2.2) hp
      exact ⟨by assumption, by assumption, by assumption⟩
    obtain ⟨e1, e2⟩ := nz_sI h1
    exact ⟨e1, e2, .inl ⟨rfl, numT_sI h2⟩⟩
theorem Tx.cut {z : Str} (h : Tx z) (i j : Option Int) : Tx (cutS z i j) := by
  refine h.of (fun c hc => ?_) ?_
  · unfold cutS at hc
    rw [tl_mk] at hc
    exact List.mem_of_mem_drop (List.mem_of_mem_take hc)
  · unfold cutS
    rw [len_tl, len_tl, tl_mk, List.length_take, List.length_drop]
    show min _ ((tl z).length - _) ≤ _
    omega
theorem Tx.nil : Tx ("" : Str) := ⟨by decide +kernel, by decide +kernel⟩
theorem Tx.pt {z a s b : Str} (h : Tx z) (hp : Txt.partition z "/" = (a, s, b)) : Tx a ∧ Tx b ∧ (s = ("/" : Str) ∨ s = ("" : Str)) := by
  rcases part1 z with ⟨_, e⟩ | ⟨a', b', hz, _, e⟩
  · rw [e] at hp
    have e1 : z = a := congrArg Prod.fst hp
    have e2 : Str.empty = s := congrArg (fun x => x.2.1) hp
    have e3 : Str.empty = b := congrArg (fun x => x.2.2) hp
    subst e1 e2 e3
    exact ⟨h, by rw [empty_eq]; exact Tx.nil, .inr empty_eq⟩
  · rw [e] at hp
    have e1 : a' = a := congrArg Prod.fst hp
    have e2 : ("/" : Str) = s := congrArg (fun x => x.2.1) hp
    have e3 : b' = b := congrArg (fun x => x.2.2) hp
    subst e1 e2 e3
    subst hz
    refine ⟨h.of (fun c hc => ?_) ?_, h.of (fun c hc => ?_) ?_, .inl rfl⟩
    · rw [tl_append, tl_append]; simp [hc]
    · rw [len_ap', len_ap']; omega
    · rw [tl_append, tl_append]; simp [hc]
    · rw [len_ap', len_ap']; omega
theorem rat_sz {i : Int} {d : Nat} (h1 : i.natAbs < 10 ^ 60) (h2 : d < 10 ^ 60) (h0 : 0 < d) : ((i : Rat) / ((d : Int) : Rat)).num.natAbs < 10 ^ 60 ∧ ((i : Rat) / ((d : Int) : Rat)).den < 10 ^ 60 := by
  have hd : ((d : Nat) : Int) ≠ 0 := by omega
  rw [← Rat.divInt_eq_div]
  rw [Rat.num_divInt, Rat.den_divInt, if_neg hd]
  refine ⟨Nat.lt_of_le_of_lt ?_ h1, Nat.lt_of_le_of_lt (Nat.div_le_self _ _) (by rw [Int.natAbs_natCast]; exact h2)⟩
  have e : (((d : Nat) : Int).sign * i / ((Int.gcd ((d : Nat) : Int) i : Nat) : Int)).natAbs = (((d : Nat) : Int).sign * i).natAbs / Int.gcd ((d : Nat) : Int) i := by
    rw [Int.natAbs_ediv_of_dvd]
    · rfl
    · exact Int.dvd_trans (Int.gcd_dvd_right _ _) (Int.dvd_mul_left _ _)
  rw [e]
  refine Nat.le_trans (Nat.div_le_self _ _) ?_
  rw [Int.natAbs_mul, Int.natAbs_sign_of_ne_zero hd, Nat.one_mul]
  exact Nat.le_refl _
theorem frT_sh (q : Rat) : SeqAt.shaped (.str (frT q)) = true := shp (by
    unfold PyData.canLay0 PyData.strOk
    rw [Array.all_eq_true']
    intro c hc
    have := frT_signs c (by simpa using hc)
    exact decide_eq_true (by omega)) (by show 0 ≤ 64; decide)
theorem ok_fraction_in : ∀ args L R, args.length = 1 → s_fraction_in args L R → d_fraction_in_0 (initE 8 args) L { nx := fun _ L' => R .non L', rt := R } := by
  rintro _ L R _ ⟨z, rfl, hx, h⟩
  unfold d_fraction_in_0
  show sSeq _ _ [some (.str z), none, none, none, none, none, none, none] L _
  have hl := hx.ln
  obtain ⟨a, s, b, hp⟩ : ∃ a s b, Txt.partition z "/" = (a, s, b) := ⟨_, _, _, rfl⟩
  obtain ⟨ta, tb, hs⟩ := hx.pt hp
  have key := fun q (hq : FrIn z q) => key_fr hq hp
  walk_at "ev105"
  refine ⟨ty_str, by decide +kernel, by show _ ≤ 16777216; omega, ?_⟩
  rw [hp]
  walk_at "ev105"
  refine ⟨rfl, ?_⟩
  have no : (∀ q, ¬ FrIn z q) → R .non L := fun hn => by
    have : frO z = .non := by unfold frO; rw [frR_no hn]
    rw [← this]; exact h
  -- behind hand
  have two : d_fraction_in_2 [some (.str z), some (.str a), some (.str s), some (.str b), some (.int (hdP a)), none, none, none] L { nx := fun _ L' => R .non L', rt := R } := by
    have four : ∀ (on od : Option Nat), numT (nzP a) = on → (s = ("/" : Str) → numT b = od) → (s = ("" : Str) → od = some 1) → d_fraction_in_4 [some (.str z), some (.str a), some (.str s), some (.str b), some (.int (hdP a)), some (pO on), some (pO od), none] L { nx := fun _ L' => R .non L', rt := R } := by
      intro on od hon ho1 ho2
      unfold d_fraction_in_4 d_fraction_in_4a_0
      cases on with
      | none =>
        walk_at "ev105"
        exact no fun q hq => by rw [(key q hq).1] at hon; cases hon
      | some n =>
        cases od with
        | none =>
          walk_at "ev105"
          refine no fun q hq => ?_
          rcases (key q hq).2.2 with ⟨e1, e2⟩ | ⟨e1, e2⟩
          · rw [e2] at ho1; cases ho1 e1
          · cases ho2 e1
        | some d =>
          show sSeq _ _ [some (.str z), some (.str a), some (.str s), some (.str b), some (.int (hdP a)), some (.int (n : Int)), some (.int (d : Int)), none] L _
          have hk : hdP a = 1 ∨ hdP a = -1 := by unfold hdP; split <;> simp
          have hn60 := numT_lt hon
          have hd60 : d < 10 ^ 60 := by
            rcases hs with e | e
            · exact numT_lt (ho1 e)
            · have := Option.some.inj (ho2 e)
              omega
          walk_at "ev105"
          by_cases h0 : d = 0
          · rw [if_pos (by omega)]
            walk_at "ev105"
            refine no fun q hq => ?_
            have := q.den_pos
            rcases (key q hq).2.2 with ⟨e1, e2⟩ | ⟨e1, e2⟩
            · rw [e2] at ho1; cases ho1 e1; omega
            · have := Option.some.inj (ho2 e1); omega
          rw [if_neg (by omega)]
          walk_at "ev105"
          unfold d_fraction_in_5
          walk_at "ev105"
          refine ⟨mulL (by rcases hk with e | e <;> rw [e] <;> decide), ?_⟩
          have hm : (hdP a * (n : Int)).natAbs = n := by rcases hk with e | e <;> rw [e] <;> omega
          have p60 : 10 ^ 60 < 2 ^ 200 := by decide
          refine ⟨hdP a * (n : Int), (d : Int), rfl, by omega, DenOk.of (show ((d : Nat) : Int).natAbs < 2 ^ 200 by rw [Int.natAbs_natCast]; omega) (by decide), ?_⟩
          obtain ⟨z1, z2⟩ := rat_sz (i := hdP a * (n : Int)) (d := d) (by rw [hm]; exact hn60) hd60 (by omega)
          have one : ∀ q, FrIn z q → ((hdP a * (n : Int) : Int) : Rat) / ((d : Int) : Rat) = q := fun q hq => by
            obtain ⟨e1, e2, e3⟩ := key q hq
            rw [hon] at e1
            have e1 := Option.some.inj e1
            rw [← e1] at e2
            rw [e2]
            have : d = q.den := by
              rcases e3 with ⟨e4, e5⟩ | ⟨e4, e5⟩
              · have := ho1 e4
                rw [e5] at this
                exact (Option.some.inj this).symm
              · have := Option.some.inj (ho2 e4); omega
            rw [this]
            exact (num_den q).symm
          generalize ((hdP a * (n : Int) : Int) : Rat) / ((d : Int) : Rat) = one' at *
          unfold d_fraction_in_6
          walk_at "ev105"
          have so : Sz 200 one' := ⟨Nat.lt_trans z1 p60, Nat.lt_trans z2 p60⟩
          refine ⟨one', rfl, so.mono (by decide), ?_⟩
          walk_at "ev105"
          rw [oEq_sS (frT_sh one') hx.sh]
          by_cases he : frT one' = z
          · rw [he, beq_self_eq_true]
            walk_at "ev105"
            have : frO z = fr one' := by unfold frO; rw [frR_of ⟨he.symm, z1, z2⟩]
            rw [← this]; exact h
          · rw [show (frT one' == z) = false by rw [beq_eq_false_iff_ne]; exact he]
            walk_at "ev105"
            exact no fun q hq => he (by rw [one q hq]; exact hq.1.symm)
    unfold d_fraction_in_2
    walk_at "ev105"
    have three : d_fraction_in_3 [some (.str z), some (.str a), some (.str s), some (.str b), some (.int (hdP a)), some (pO (numT (nzP a))), none, none] L { nx := fun _ L' => R .non L', rt := R } := by
      unfold d_fraction_in_3
      rw [e_seq, e_asg]
      have sl : SeqAt.shaped (.str ("/" : Str)) = true := by decide +kernel
      rcases hs with e | e
      · subst e
        walk_at "ev105"
        rw [oEq_sS sl sl, beq_self_eq_true]
        walk_at "ev105"
        refine ⟨b, rfl, tb, ?_⟩
        exact four _ _ rfl (fun _ => rfl) (fun q => absurd q (by decide +kernel))
      · subst e
        walk_at "ev105"
        rw [oEq_sS sh_empty sl, show (("" : Str) == "/") = false by decide +kernel]
        walk_at "ev105"
        exact four _ (some 1) rfl (fun q => absurd q (by decide +kernel)) (fun _ => rfl)
    by_cases hh : Txt.startswith a "-" = true
    · have e1 : hdP a = -1 := if_pos hh
      have e2 : nzP a = cutS a (some 1) none := if_pos hh
      rw [e1] at three ⊢
      rw [if_pos (by decide)]
      walk_at "ev105"
      refine ⟨by show _ ≤ 16777216; have := ta.ln; omega, ?_⟩
      rw [e2] at three
      exact ⟨_, rfl, ta.cut _ _, three⟩
    · have e1 : hdP a = 1 := if_neg hh
      have e2 : nzP a = a := if_neg hh
      rw [e1] at three ⊢
      rw [if_neg (by decide)]
      walk_at "ev105"
      rw [e2] at three
      exact ⟨_, rfl, ta, three⟩
  unfold d_fraction_in_1
  walk_at "ev105"
  refine ⟨ty_str, ?_⟩
  show bIf (.bl (Txt.startswith a "-")) _ _
  by_cases hh : Txt.startswith a "-" = true
  · have e1 : hdP a = -1 := if_pos hh
    rw [e1] at two
    rw [hh]
    walk_at "ev105"
    exact two
  · have e1 : hdP a = 1 := if_neg hh
    rw [e1] at two
    rw [show Txt.startswith a "-" = false by simpa using hh]
    walk_at "ev105"
    exact two
end
section
open PySem PySem.Spec PyProof.Rows L2
open TL (tl len_tl ext_tl tl_append tl_mk mk_tl)
open PySem.NumText (AllDigits digitsVal)
theorem tl_cto {z : Str} (i : Nat) : tl (cutS z none (some (i : Int))) = (tl z).take i := by
  unfold cutS
  rw [tl_mk]
  have h0 : HT.sIx z.length z.length (some ((i : Nat) : Int)) = min i z.length := HT.sIx_nat _ _ _
  have h1 : HT.sIx z.length 0 none = 0 := rfl
  rw [h0, h1]
  have e : z.cps.toList = tl z := rfl
  have hl : z.length = (tl z).length := len_tl z
  rw [e, hl, List.drop_zero]
  show (tl z).take (min i (tl z).length - 0) = _
  rw [Nat.sub_zero]
  by_cases h : i ≤ (tl z).length
  · rw [Nat.min_eq_left h]
  · rw [Nat.min_eq_right (by omega), List.take_length, List.take_of_length_le (by omega)]
/-- whether a text begins with the sign -/
def mi (z : Str) : Bool := (tl z).head? == some 45
def sg (hd : Bool) (n : Nat) : Int := if hd = true then -(n : Int) else (n : Int)
end
section
open PySem PySem.Spec PyProof.Rows L2
open TL (tl len_tl ext_tl tl_append tl_mk mk_tl)
structure Tl (n : Nat) (z : Str) : Prop where
  lo : ∀ c ∈ tl z, c < 128
  ln : z.length ≤ n
theorem Tl.tx {n : Nat} {z : Str} (h : Tl n z) (hn : n ≤ 100000) : Tx z := ⟨h.lo, Nat.le_trans h.ln hn⟩
theorem Tl.mono {n m : Nat} {z : Str} (h : Tl n z) (hn : n ≤ m) : Tl m z := ⟨h.lo, Nat.le_trans h.ln hn⟩
theorem Tx.tl {z : Str} (h : Tx z) : Tl z.length z := ⟨h.lo, Nat.le_refl _⟩
theorem Tl.app {n m : Nat} {a b : Str} (h : Tl n a) (k : Tl m b) : Tl (n + m) (a ++ b) := ⟨fun c hc => by
  rw [tl_append] at hc
  rcases List.mem_append.mp hc with hc | hc
  · exact h.lo c hc
  · exact k.lo c hc, by rw [len_ap']; exact Nat.add_le_add h.ln k.ln⟩
theorem Tl.to {n : Nat} {z : Str} (h : Tl n z) (i : Nat) : Tl (min i n) (cutS z none (some (i : Int))) := ⟨fun c hc => by
  rw [tl_cto] at hc
  exact h.lo c (List.mem_of_mem_take hc), by
  rw [len_tl, tl_cto, List.length_take, ← len_tl]; have := h.ln; omega⟩
theorem Tl.lit {z : Str} (h : z.cps.all (· < 128) = true) : Tl z.length z := ⟨fun c hc => by
  have := (Array.all_eq_true'.mp h) c (by simpa [tl] using hc)
  exact of_decide_eq_true this, Nat.le_refl _⟩
end
section
open PySem PySem.Spec PyProof.Rows L2
open TL (tl len_tl ext_tl tl_append tl_mk mk_tl join_eq)
def s_point_text : Spec := fun args L R => ∃ v, args = [vc v] ∧ SzV 200 v ∧ R (.str (ptT v)) L
def s_piece_text : Spec := fun args L R => ∃ q, args = [pcV q] ∧ PcSz 200 q ∧ R (.str (pcT q)) L
def s_path_text : Spec := fun args L R => ∃ p, args = [pth p] ∧ PSz 200 p ∧ p.2.length ≤ 400 ∧ ∀ L', Le L L' → R (.str (pthT p)) L'
def d_point_text_0 : WS := sRet (wBin oAdd (wBin oAdd (wCall s_fraction_text [wBin oIx (wVar 0) (wC (.int 0))]) (wC (.str " "))) (wCall s_fraction_text [wBin oIx (wVar 0) (wC (.int 1))]))
def d_piece_text_1 : WS := sRet (wBin oAdd (wBin oAdd (wBin oAdd (wBin oAdd (wBin oAdd (wC (.str "arc ")) (wBin oIx (wVar 0) (wC (.int 3)))) (wC (.str " "))) (wCall s_point_text [wBin oIx (wVar 0) (wC (.int 1))])) (wC (.str " "))) (wCall s_point_text [wBin oIx (wVar 0) (wC (.int 2))]))
def d_piece_text_0a_0 : WS := sRet (wBin oAdd (wC (.str "side ")) (wCall s_point_text [wBin oIx (wVar 0) (wC (.int 1))]))
def d_piece_text_0 : WS := sSeq (sIf (wBin oEq (wBin oIx (wVar 0) (wC (.int 0))) (wC (.str "side"))) d_piece_text_0a_0 sNil) d_piece_text_1
def d_path_text_0 : WS := sRet (wMt "str" mJoin (wC (.str " ")) [wBin oAdd (wLst [wBin oAdd (wC (.str "from ")) (wCall s_point_text [wBin oIx (wVar 0) (wC (.int 0))])]) (wComp [1] (iAny (wBin oIx (wVar 0) (wC (.int 1)))) (gN 1) (wC (.bl true)) (wCall s_piece_text [wVar 1]))])
theorem len_frT {q : Rat} (h : Sz 200 q) : (frT q).length ≤ 410 := by
  have nl := len_le_sI (b := 200) (by decide) h.1
  have dl := len_le_sI (i := ((q.den : Nat) : Int)) (b := 200) (by decide) (by rw [Int.natAbs_natCast]; exact h.2)
  unfold frT
  split
  · omega
  · have hs : (("/" : Str)).length = 1 := by decide +kernel
    rw [len_ap', len_ap', hs]; omega
theorem len_ptT {v : Vc} (h : SzV 200 v) : (ptT v).length ≤ 821 := by
  have h1 := len_frT h.1
  have h2 := len_frT h.2
  unfold ptT
  rw [len_ap', len_ap', show ((" " : Str)).length = 1 by decide +kernel]
  omega
theorem len_pcT {q : Pc} (h : PcSz 200 q) : (pcT q).length ≤ 1700 := by
  cases q with
  | side t =>
    have h1 := len_ptT h
    show (("side " : Str) ++ ptT t).length ≤ _
    rw [len_ap', show (("side " : Str)).length = 5 by decide +kernel]
    omega
  | arc m t lf =>
    have h1 := len_ptT h.1
    have h2 := len_ptT h.2
    have h3 : (trn lf).length ≤ 5 := by cases lf <;> decide +kernel
    show (("arc " : Str) ++ trn lf ++ (" " : Str) ++ ptT m ++ (" " : Str) ++ ptT t).length ≤ _
    rw [len_ap', len_ap', len_ap', len_ap', len_ap', show (("arc " : Str)).length = 4 by decide +kernel, show ((" " : Str)).length = 1 by decide +kernel]
    omega
theorem ok_point_text : ∀ args L R, args.length = 1 → s_point_text args L R → d_point_text_0 (initE 1 args) L { nx := fun _ L' => R .non L', rt := R } := by
  rintro _ L R _ ⟨v, rfl, sv, h⟩
  have h1 := len_frT sv.1
  have h2 := len_frT sv.2
  have hs : ((" " : Str)).length = 1 := by decide +kernel
  unfold d_point_text_0
  show sRet _ [some (vc v)] L _
  walk_at "ev105"
  refine ⟨v.1, rfl, sv.1.mono (by decide), ?_⟩
  walk_at "ev105"
  refine ⟨by rw [hs]; show _ + 1 ≤ 16777216; omega, ?_⟩
  refine ⟨v.2, rfl, sv.2.mono (by decide), ?_⟩
  walk_at "ev105"
  exact ⟨by rw [len_ap', hs]; show _ ≤ 16777216; omega, h⟩
theorem ok_piece_text : ∀ args L R, args.length = 1 → s_piece_text args L R → d_piece_text_0 (initE 1 args) L { nx := fun _ L' => R .non L', rt := R } := by
  rintro _ L R _ ⟨q, rfl, sq, h⟩
  have hs : ((" " : Str)).length = 1 := by decide +kernel
  unfold d_piece_text_0 d_piece_text_0a_0
  show sSeq _ _ [some (pcV q)] L _
  cases q with
  | side t =>
    have h1 := len_ptT sq
    have h5 : (("side " : Str)).length = 5 := by decide +kernel
    walk_at "ev105"
    refine ⟨t, rfl, sq, ?_⟩
    walk_at "ev105"
    exact ⟨by rw [h5]; show _ ≤ 16777216; omega, h⟩
  | arc m t lf =>
    have h1 := len_ptT sq.1
    have h2 := len_ptT sq.2
    have h3 : (trn lf).length ≤ 5 := by cases lf <;> decide +kernel
    have h4 : (("arc " : Str)).length = 4 := by decide +kernel
    walk_at "ev105"
    unfold d_piece_text_1
    walk_at "ev105"
    refine ⟨by rw [h4]; show _ ≤ 16777216; omega, ?_⟩
    refine ⟨by rw [len_ap', h4, hs]; show _ ≤ 16777216; omega, ?_⟩
    refine ⟨m, rfl, sq.1, ?_⟩
    walk_at "ev105"
    refine ⟨by rw [len_ap', len_ap', h4, hs]; show _ ≤ 16777216; omega, ?_⟩
    refine ⟨by rw [len_ap', len_ap', len_ap', h4, hs]; show _ ≤ 16777216; omega, ?_⟩
    refine ⟨t, rfl, sq.2, ?_⟩
    walk_at "ev105"
    exact ⟨by rw [len_ap', len_ap', len_ap', len_ap', h4, hs]; show _ ≤ 16777216; omega, h⟩
theorem sum_le {xs : List Nat} {b : Nat} (h : ∀ x ∈ xs, x ≤ b) : xs.sum ≤ xs.length * b := by
  induction xs with
  | nil => exact Nat.zero_le _
  | cons x r ih =>
    have h1 := h x List.mem_cons_self
    have h2 := ih fun y hy => h y (List.mem_cons_of_mem _ hy)
    rw [List.sum_cons, List.length_cons, Nat.succ_mul]
    omega
theorem ok_path_text : ∀ args L R, args.length = 1 → s_path_text args L R → d_path_text_0 (initE 2 args) L { nx := fun _ L' => R .non L', rt := R } := by
  rintro _ L R _ ⟨p, rfl, sz, hl, h⟩
  have hs : ((" " : Str)).length = 1 := by decide +kernel
  have h1 := len_ptT sz.1
  have h5 : (("from " : Str)).length = 5 := by decide +kernel
  unfold d_path_text_0
  show sRet _ [some (pth p), none] L _
  walk_at "ev105"
  refine ⟨ty_str, ?_⟩
  refine ⟨p.1, rfl, sz.1, ?_⟩
  walk_at "ev105"
  refine ⟨by rw [h5]; show _ ≤ 16777216; omega, ?_⟩
  intro q1 hq1
  have e1 := put_same (L := L) (a := q1) (o := .l [.str (("from " : Str) ++ ptT p.1)])
  have l1 := Le.new (o := .l [.str (("from " : Str) ++ ptT p.1)]) hq1
  generalize put L q1 _ = L1 at *
  refine comp_map (α := Pc) (xs := p.2) (f := pcV) (g := fun q => .str (pcT q)) (fun _ _ => trivial) (by omega) ?_ ?_
  · intro q hq l R' hl' hR'
    walk_at "ev105"
    exact ⟨q, rfl, sz.2 q hq, hR' l hl'⟩
  intro l hl2 q2 hq2
  have e2 := put_same (L := l) (a := q2) (o := .l (p.2.map fun q => .str (pcT q)))
  have l2 := hl2.trans (Le.new (o := .l (p.2.map fun q => .str (pcT q))) hq2)
  generalize put l q2 _ = L2 at *
  refine e_cat (l2 _ _ e1) e2 ⟨by rw [List.length_map]; show 1 + _ ≤ 16777216; omega, ?_⟩
  intro q3 hq3
  have ll := (l1.trans l2).trans (Le.new (o := .l ([.str (("from " : Str) ++ ptT p.1)] ++ p.2.map fun q => PV.str (pcT q))) hq3)
  refine ⟨(("from " : Str) ++ ptT p.1) :: p.2.map pcT, ?_, ?_, ?_⟩
  · rw [put_same, List.map_cons, List.map_map]; rfl
  · have hb : ∀ x ∈ (((("from " : Str) ++ ptT p.1) :: p.2.map pcT).map (·.length)), x ≤ 1700 := by
      intro x hx
      obtain ⟨w, hw, rfl⟩ := List.mem_map.mp hx
      rcases List.mem_cons.mp hw with rfl | hw
      · rw [len_ap', h5]; omega
      · obtain ⟨q, hq, rfl⟩ := List.mem_map.mp hw
        exact len_pcT (sz.2 q hq)
    have := sum_le hb
    rw [List.length_map, List.length_cons, List.length_map] at this
    rw [List.length_cons, List.length_map, hs]
    omega
  · exact h _ ll
theorem in_none_vc {v : Vc} {L : Sto} {R : PK} (h : R (.bl false) L) : oIn .non (vc v) L R := by
  have hn : ¬ ([fr v.1, fr v.2].all flP = true) := by
    show ¬ ((false && _) = true)
    simp
  refine Eq.mpr (if_neg (t := flP .non = true ∧ [fr v.1, fr v.2].all flP = true ∧ R (.bl (id (inB .non [fr v.1, fr v.2]))) L) hn) ?_
  refine ⟨.none, [ratD v.1, ratD v.2], .non, .cons .rat (.cons .rat .nil), by decide, shp rfl (by show max (max 0 (max 0 0) + 1) (max (max 0 (max 0 0) + 1) 0) + 1 ≤ 64; decide), ?_⟩
  exact h
theorem cutFrom {α : Type} (xs : List α) (m : Nat) : cutP xs (some (m : Int)) none = xs.drop m := by
  unfold cutP
  have h0 : HT.sIx xs.length 0 (some (m : Int)) = min m xs.length := HT.sIx_nat _ _ _
  have h1 : HT.sIx xs.length xs.length none = xs.length := rfl
  rw [h0, h1]
  by_cases h : m ≤ xs.length
  · rw [Nat.min_eq_left h, List.take_of_length_le (by rw [List.length_drop]; omega)]
  · rw [Nat.min_eq_right (by omega), List.drop_eq_nil_of_le (by omega), List.drop_eq_nil_of_le (by omega), List.take_nil]
def pt2 : Option Rat → Option Rat → PV
  | some x, some y => vc (x, y)
  | _, _ => .non
noncomputable def ptO : List Str → PV
  | a :: b :: _ => pt2 (frR a) (frR b)
  | _ => .non
noncomputable def pcO : List Str → PV
  | [] => .non
  | w :: r => if w = "side" then .tup [.tup [.str "side", ptO (r.take 2)], .int 3] else if w = "arc" then (match r with
    | [] => .non
    | t :: r' => if t = "left" ∨ t = "right" then .tup [.tup [.str "arc", ptO (r'.take 2), ptO ((r'.drop 2).take 2), .str t], .int 6] else .non) else .non
def s_point_in : Spec := fun args L R => ∃ (w : Addr) (ws : List Str), args = [.ref w] ∧ L w = some (.l (ws.map PV.str)) ∧ (∀ a ∈ ws, Tx a) ∧ R (ptO ws) L
def s_piece_ahead : Spec := fun args L R => ∃ (w : Addr) (ws : List Str), args = [.ref w] ∧ L w = some (.l (ws.map PV.str)) ∧ (∀ a ∈ ws, Tx a) ∧ ws ≠ [] ∧ ∀ L', Le L L' → R (pcO ws) L'
def d_point_in_2 : WS := sRet (wIfE (wBin oIn (wC .non) (wVar 1)) (wC .non) (wVar 1))
def d_point_in_1 : WS := sSeq (sAsg (gN 1) (wTup [wCall s_fraction_in [wBin oIx (wVar 0) (wC (.int 0))], wCall s_fraction_in [wBin oIx (wVar 0) (wC (.int 1))]])) d_point_in_2
def d_point_in_0a_0 : WS := sRet (wC .non)
def d_point_in_0 : WS := sSeq (sIf (wBin oLt (wBi gLen [wVar 0]) (wC (.int 2))) d_point_in_0a_0 sNil) d_point_in_1
def d_piece_ahead_2 : WS := sRet (wC .non)
def d_piece_ahead_1a_0 : WS := sRet (wTup [wTup [wC (.str "arc"), wCall s_point_in [wSl (wVar 0) (wSo (wC (.int 2))) (wSo (wC (.int 4)))], wCall s_point_in [wSl (wVar 0) (wSo (wC (.int 4))) (wSo (wC (.int 6)))], wBin oIx (wVar 0) (wC (.int 1))], wC (.int 6)])
def d_piece_ahead_1 : WS := sSeq (sIf (wAnd (wBin oEq (wBin oIx (wVar 0) (wC (.int 0))) (wC (.str "arc"))) (wAnd (wBin oGt (wBi gLen [wVar 0]) (wC (.int 1))) (wBin oIn (wBin oIx (wVar 0) (wC (.int 1))) (wC (.tup [.str "left", .str "right"]))))) d_piece_ahead_1a_0 sNil) d_piece_ahead_2
def d_piece_ahead_0a_0 : WS := sRet (wTup [wTup [wC (.str "side"), wCall s_point_in [wSl (wVar 0) (wSo (wC (.int 1))) (wSo (wC (.int 3)))]], wC (.int 3)])
def d_piece_ahead_0 : WS := sSeq (sIf (wBin oEq (wBin oIx (wVar 0) (wC (.int 0))) (wC (.str "side"))) d_piece_ahead_0a_0 sNil) d_piece_ahead_1
theorem in_none_b {x y : PV} {L : Sto} {R : PK} (hx : x = .non ∨ ∃ q, x = fr q) (hy : y = .non ∨ ∃ q, y = fr q) (h : x = .non ∨ y = .non) (hR : R (.bl true) L) : oIn .non (.tup [x, y]) L R := by
  have sh : ∀ a b : PyData, a.canLay0 = true → b.canLay0 = true → a.depth ≤ 3 → b.depth ≤ 3 → SeqAt.shaped (.tuple [a, b]) = true := fun a b ha hb da db => shp (by
    show (a.canLay0 && (b.canLay0 && true)) = true
    rw [ha, hb]; rfl) (by show max a.depth (max b.depth 0) + 1 ≤ 64; omega)
  have c0 : ∀ q : Rat, (ratD q).canLay0 = true := fun q => rfl
  have d0 : ∀ q : Rat, (ratD q).depth ≤ 3 := fun q => by show max 0 (max 0 0) + 1 ≤ 3; decide
  rcases hx with rfl | ⟨q, rfl⟩ <;> rcases hy with rfl | ⟨r, rfl⟩
  · exact ⟨rfl, rfl, hR⟩
  · have hn : ¬ ([PV.non, fr r].all flP = true) := by show ¬ ((true && (false && true)) = true); decide
    refine Eq.mpr (if_neg (t := flP .non = true ∧ [PV.non, fr r].all flP = true ∧ R (.bl (id (inB .non [PV.non, fr r]))) L) hn) ?_
    exact ⟨.none, [.none, ratD r], .non, .cons .non (.cons .rat .nil), by decide, sh _ _ rfl (c0 r) (Nat.zero_le _) (d0 r), hR⟩
  · have hn : ¬ ([fr q, PV.non].all flP = true) := by show ¬ ((false && (true && true)) = true); decide
    refine Eq.mpr (if_neg (t := flP .non = true ∧ [fr q, PV.non].all flP = true ∧ R (.bl (id (inB .non [fr q, PV.non]))) L) hn) ?_
    exact ⟨.none, [ratD q, .none], .non, .cons .rat (.cons .non .nil), by decide, sh _ _ (c0 q) rfl (d0 q) (Nat.zero_le _), hR⟩
  · rcases h with h | h <;> cases h
theorem ok_point_in : ∀ args L R, args.length = 1 → s_point_in args L R → d_point_in_0 (initE 2 args) L { nx := fun _ L' => R .non L', rt := R } := by
  rintro _ L R _ ⟨w, ws, rfl, e, tx, h⟩
  unfold d_point_in_0 d_point_in_0a_0
  show sSeq _ _ [some (.ref w), none] L _
  walk_at "ev105"
  rw [e_lenl e]
  walk_at "ev105"
  match ws, e, tx, h with
  | [], e, tx, h => rw [if_pos (by decide)]; exact h
  | [a], e, tx, h => rw [if_pos (by show ((1 : Nat) : Int) < 2; decide)]; exact h
  | a :: b :: r, e, tx, h =>
    rw [if_neg (by rw [List.length_map, List.length_cons, List.length_cons]; omega)]
    unfold d_point_in_1
    walk_at "ev105"
    rw [ixl0 e]
    refine ⟨a, rfl, tx a (by simp), ?_⟩
    walk_at "ev105"
    rw [ixl1 e]
    refine ⟨b, rfl, tx b (by simp), ?_⟩
    walk_at "ev105"
    unfold d_point_in_2
    walk_at "ev105"
    have hx : frO a = .non ∨ ∃ q, frO a = fr q := by
      unfold frO; cases frR a with
      | none => exact .inl rfl
      | some q => exact .inr ⟨q, rfl⟩
    have hy : frO b = .non ∨ ∃ q, frO b = fr q := by
      unfold frO; cases frR b with
      | none => exact .inl rfl
      | some q => exact .inr ⟨q, rfl⟩
    have h : R (pt2 (frR a) (frR b)) L := h
    cases ha : frR a with
    | none =>
      rw [ha] at h
      have ea : frO a = .non := by unfold frO; rw [ha]
      refine in_none_b hx hy (.inl ea) ?_
      walk_at "ev105"
      cases hb : frR b <;> (rw [hb] at h; exact h)
    | some x =>
      cases hb : frR b with
      | none =>
        rw [ha, hb] at h
        have eb : frO b = .non := by unfold frO; rw [hb]
        refine in_none_b hx hy (.inr eb) ?_
        walk_at "ev105"
        exact h
      | some y =>
        rw [ha, hb] at h
        have ea : frO a = fr x := by unfold frO; rw [ha]
        have eb : frO b = fr y := by unfold frO; rw [hb]
        rw [ea, eb]
        refine in_none_vc (v := (x, y)) ?_
        walk_at "ev105"
        exact h
theorem side_ne_arc : (("arc" : Str)) ≠ "side" := by decide +kernel
theorem pcO_side {r : List Str} : pcO ("side" :: r) = .tup [.tup [.str "side", ptO (r.take 2)], .int 3] := by
  simp [pcO]
theorem pcO_no {a : Str} {r : List Str} (h1 : a ≠ "side") (h2 : a ≠ "arc") : pcO (a :: r) = .non := (if_neg h1).trans (if_neg h2)
theorem pcO_a {r : List Str} : pcO ("arc" :: r) = (match r with
    | [] => .non
    | t :: r' => if t = "left" ∨ t = "right" then .tup [.tup [.str "arc", ptO (r'.take 2), ptO ((r'.drop 2).take 2), .str t], .int 6] else .non) := by
  cases r <;> simp [pcO, side_ne_arc]
theorem pcO_arc0 : pcO ["arc"] = .non := pcO_a
theorem pcO_arc {t : Str} {r : List Str} (h : t = "left" ∨ t = "right") : pcO ("arc" :: t :: r) = .tup [.tup [.str "arc", ptO (r.take 2), ptO ((r.drop 2).take 2), .str t], .int 6] := pcO_a.trans (if_pos h)
theorem pcO_arcN {t : Str} {r : List Str} (h : ¬ (t = "left" ∨ t = "right")) : pcO ("arc" :: t :: r) = .non := pcO_a.trans (if_neg h)
theorem TxL {ws : List Str} (tx : ∀ a ∈ ws, Tx a) (i j : Nat) : ∀ a ∈ (ws.drop i).take j, Tx a := fun a ha => tx a (List.mem_of_mem_drop (List.mem_of_mem_take ha))
theorem cut_map2 {xs : List Str} (i j : Nat) : cutP (xs.map PV.str) (some (i : Int)) (some (j : Int)) = ((xs.drop i).take (j - i)).map PV.str := by
  rw [cut_len, List.map_take, List.map_drop]
theorem ok_piece_ahead : ∀ args L R, args.length = 1 → s_piece_ahead args L R → d_piece_ahead_0 (initE 1 args) L { nx := fun _ L' => R .non L', rt := R } := by
  rintro _ L R _ ⟨w, ws, rfl, e, tx, hne, h⟩
  unfold d_piece_ahead_0 d_piece_ahead_0a_0
  show sSeq _ _ [some (.ref w)] L _
  cases ws with
  | nil => exact absurd rfl hne
  | cons a r =>
  have ta := tx a (by simp)
  walk_at "ev105"
  rw [ixl0 e]
  rw [oEq_sS ta.sh sh_side]
  by_cases hs : a = "side"
  · rw [show (a == ("side" : Str)) = true by rw [hs]; decide +kernel]
    subst hs
    rw [pcO_side] at h
    walk_at "ev105"
    rw [e_sll e, show cutP ((("side" : Str) :: r).map PV.str) (some 1) (some 3) = _ from cut_map2 1 3]
    intro p1 hp1
    refine ⟨p1, _, rfl, put_same, TxL tx 1 2, ?_⟩
    walk_at "ev105"
    exact h _ (Le.new hp1)
  · rw [show (a == ("side" : Str)) = false by rw [beq_eq_false_iff_ne]; exact hs]
    walk_at "ev105"
    unfold d_piece_ahead_1 d_piece_ahead_1a_0
    walk_at "ev105"
    rw [ixl0 e]
    rw [oEq_sS ta.sh sh_arc]
    by_cases hc : a = "arc"
    case neg =>
      rw [show (a == ("arc" : Str)) = false by rw [beq_eq_false_iff_ne]; exact hc]
      rw [pcO_no hs hc] at h
      walk_at "ev105"
      unfold d_piece_ahead_2
      walk_at "ev105"
      exact h _ .refl
    rw [show (a == ("arc" : Str)) = true by rw [hc]; decide +kernel]
    subst hc
    walk_at "ev105"
    rw [e_lenl e]
    walk_at "ev105"
    cases r with
    | nil =>
      rw [pcO_arc0] at h
      rw [if_neg (by show ¬ (1 : Int) < ((1 : Nat) : Int); decide)]
      unfold d_piece_ahead_2
      walk_at "ev105"
      exact h _ .refl
    | cons t r' =>
    rw [if_pos (by rw [List.length_map, List.length_cons, List.length_cons]; omega)]
    rw [ixl1 e]
    refine ⟨rfl, rfl, ?_⟩
    by_cases ht : t = "left" ∨ t = "right"
    · have hin : inB (.str t) [.str "left", .str "right"] = true := by
        rcases ht with rfl | rfl
        · exact in_turns.mpr ⟨true, rfl⟩
        · exact in_turns.mpr ⟨false, rfl⟩
      rw [hin]
      rw [pcO_arc ht] at h
      walk_at "ev105"
      rw [e_sll e, show cutP ((("arc" : Str) :: t :: r').map PV.str) (some 2) (some 4) = _ from cut_map2 2 4]
      intro p1 hp1
      have l1 := Le.new (o := .l ((((("arc" : Str) :: t :: r').drop 2).take (4 - 2)).map PV.str)) hp1
      have e := l1 _ _ e
      refine ⟨p1, _, rfl, put_same, TxL tx 2 2, ?_⟩
      generalize put L p1 _ = L1 at *
      walk_at "ev105"
      rw [e_sll e, show cutP ((("arc" : Str) :: t :: r').map PV.str) (some 4) (some 6) = _ from cut_map2 4 6]
      intro p2 hp2
      have l2 := Le.new (o := .l ((((("arc" : Str) :: t :: r').drop 4).take (6 - 4)).map PV.str)) hp2
      have e := l2 _ _ e
      refine ⟨p2, _, rfl, put_same, TxL tx 4 2, ?_⟩
      generalize put L1 p2 _ = L2 at *
      walk_at "ev105"
      rw [ixl1 e]
      walk_at "ev105"
      exact h _ (l1.trans l2)
    · have hin : inB (.str t) [.str "left", .str "right"] = false := by
        cases e : inB (.str t) [.str "left", .str "right"] with
        | false => rfl
        | true =>
          obtain ⟨lf, e⟩ := in_turns.mp e
          refine absurd ?_ ht
          cases lf
          · exact .inr e
          · exact .inl e
      rw [hin]
      rw [pcO_arcN ht] at h
      walk_at "ev105"
      unfold d_piece_ahead_2
      walk_at "ev105"
      exact h _ .refl
end
section
open PySem PySem.Spec PyProof.Rows L2
open TL (tl len_tl ext_tl tl_append tl_mk mk_tl join_eq)
def NB (q : Rat) : Prop := q.num.natAbs < 10 ^ 60 ∧ q.den < 10 ^ 60
def VB (v : Vc) : Prop := NB v.1 ∧ NB v.2
def QB : Pc → Prop
  | .side t => VB t
  | .arc m t _ => VB m ∧ VB t
def PthIn (z : Str) (p : Pth) : Prop := z = pthT p ∧ VB p.1 ∧ ∀ q ∈ p.2, QB q
theorem NB.sz {q : Rat} (h : NB q) : Sz 200 q := by
  have p60 : 10 ^ 60 < 2 ^ 200 := by decide
  exact ⟨Nat.lt_trans h.1 p60, Nat.lt_trans h.2 p60⟩
theorem VB.sz {v : Vc} (h : VB v) : SzV 200 v := ⟨h.1.sz, h.2.sz⟩
theorem QB.sz {q : Pc} (h : QB q) : PcSz 200 q := by
  cases q with
  | side t => exact VB.sz h
  | arc m t lf => exact ⟨VB.sz h.1, VB.sz h.2⟩
theorem PthIn.words {z : Str} {p : Pth} (h : PthIn z p) : Txt.split z " " = pthW p := by rw [h.1, split_pthT]
theorem frO_frT {q : Rat} (h : NB q) : frR (frT q) = some q := frR_of ⟨rfl, h⟩
theorem ptO_of {v : Vc} {r : List Str} (h : VB v) : ptO (frT v.1 :: frT v.2 :: r) = vc v := by
  show pt2 (frR (frT v.1)) (frR (frT v.2)) = _
  rw [frO_frT h.1, frO_frT h.2]; rfl
theorem pt2_cases (x y : Option Rat) : pt2 x y = .non ∨ ∃ a b, x = some a ∧ y = some b ∧ pt2 x y = vc (a, b) := by
  cases x with
  | none => exact .inl rfl
  | some a =>
    cases y with
    | none => exact .inl rfl
    | some b => exact .inr ⟨a, b, rfl, rfl, rfl⟩
theorem ptO_cases (ws : List Str) : ptO ws = .non ∨ ∃ v r, ws = frT v.1 :: frT v.2 :: r ∧ VB v ∧ ptO ws = vc v := by
  match ws with
  | [] => exact .inl rfl
  | [_] => exact .inl rfl
  | a :: b :: r =>
    rcases pt2_cases (frR a) (frR b) with h | ⟨x, y, h1, h2, h3⟩
    · exact .inl h
    · have e1 := frR_some h1
      have e2 := frR_some h2
      exact .inr ⟨(x, y), r, by rw [← e1.1, ← e2.1], ⟨e1.2, e2.2⟩, h3⟩
theorem ptO_vc {ws : List Str} {v : Vc} (h : ptO ws = vc v) : ∃ r, ws = frT v.1 :: frT v.2 :: r ∧ VB v := by
  rcases ptO_cases ws with e | ⟨u, r, e1, e2, e3⟩
  · rw [h] at e; cases e
  · rw [h] at e3
    rw [vc_inj' e3]
    exact ⟨r, e1, e2⟩
theorem trn_or (lf : Bool) : trn lf = "left" ∨ trn lf = "right" := by cases lf <;> simp [trn]
theorem pcO_of {q : Pc} {rest : List Str} (h : QB q) : pcO (pcW q ++ rest) = .tup [pcV q, .int ((pcW q).length : Nat)] := by
  cases q with
  | side t =>
    show pcO ("side" :: frT t.1 :: frT t.2 :: rest) = _
    rw [pcO_side]
    show PV.tup [.tup [.str "side", ptO [frT t.1, frT t.2]], .int 3] = _
    rw [ptO_of h]; rfl
  | arc m t lf =>
    show pcO ("arc" :: trn lf :: frT m.1 :: frT m.2 :: frT t.1 :: frT t.2 :: rest) = _
    rw [pcO_arc (trn_or lf)]
    show PV.tup [.tup [.str "arc", ptO [frT m.1, frT m.2], ptO [frT t.1, frT t.2], .str (trn lf)], .int 6] = _
    rw [ptO_of h.1, ptO_of h.2]; rfl
/-- what pcO tells -/
theorem pcO_cases {ws : List Str} (tx : ∀ a ∈ ws, Tl 1000 a) : pcO ws = .non ∨ ∃ (x : PV) (k : Nat), pcO ws = .tup [x, .int (k : Int)] ∧ 3 ≤ k ∧ (∀ l, Tg l 380 3 x) ∧ ∀ q, x = pcV q → ∃ rest, ws = pcW q ++ rest ∧ QB q ∧ k = (pcW q).length := by
  have tg : ∀ (ws : List Str) l, Tg l 380 2 (ptO ws) := fun ws l => by
    rcases ptO_cases ws with e | ⟨v, r, _, h2, e⟩
    · rw [e]; exact .non
    · rw [e]; exact (Tg.ofV h2.sz (by decide)).mono (by decide) (by decide)
  match ws, tx with
  | [], _ => exact .inl rfl
  | a :: r, tx =>
    by_cases hs : a = "side"
    · subst hs
      refine .inr ⟨_, 3, pcO_side, Nat.le_refl _, fun l => .tup (by show 2 ≤ 380; decide) fun y hy => ?_, fun q hq => ?_⟩
      · simp only [List.mem_cons, List.not_mem_nil, or_false] at hy
        rcases hy with rfl | rfl
        · exact .str ok_side len_side
        · exact tg _ l
      · cases q with
        | arc m t lf =>
          have hq : PV.tup [.str "side", ptO (r.take 2)] = .tup [.str "arc", vc m, vc t, .str (trn lf)] := hq
          injection hq with hq; injection hq with _ hq; injection hq with _ hq; cases hq
        | side t =>
          have hq : PV.tup [.str "side", ptO (r.take 2)] = .tup [.str "side", vc t] := hq
          injection hq with hq; injection hq with _ hq; injection hq with hq _
          obtain ⟨r', e1, e2⟩ := ptO_vc hq
          have e3 : r = frT t.1 :: frT t.2 :: r.drop 2 := by
            match r, e1 with
            | a :: b :: c, e1 =>
              have e1 : a :: b :: [] = frT t.1 :: frT t.2 :: r' := e1
              injection e1 with e4 e1; injection e1 with e5 _
              rw [e4, e5]; rfl
          exact ⟨r.drop 2, by rw [e3]; rfl, e2, rfl⟩
    · by_cases hc : a = "arc"
      case neg => exact .inl (pcO_no hs hc)
      subst hc
      match r, tx with
      | [], _ => exact .inl pcO_arc0
      | t :: r', tx =>
        by_cases ht : t = "left" ∨ t = "right"
        case neg => exact .inl (pcO_arcN ht)
        obtain ⟨lf, rfl⟩ : ∃ lf, t = trn lf := by
          rcases ht with h | h
          · exact ⟨true, h⟩
          · exact ⟨false, h⟩
        refine .inr ⟨_, 6, pcO_arc ht, by decide, fun l => .tup (by show 4 ≤ 380; decide) fun y hy => ?_, fun q hq => ?_⟩
        · simp only [List.mem_cons, List.not_mem_nil, or_false] at hy
          rcases hy with rfl | rfl | rfl | rfl
          · exact .str ok_arc len_arc
          · exact tg _ l
          · exact tg _ l
          · exact .str (ok_trn lf) (len_trn lf)
        · cases q with
          | side t =>
            have hq : PV.tup [.str "arc", ptO (r'.take 2), ptO ((r'.drop 2).take 2), .str (trn lf)] = .tup [.str "side", vc t] := hq
            injection hq with hq; injection hq with _ hq; injection hq with _ hq; cases hq
          | arc m t lf' =>
            have hq : PV.tup [.str "arc", ptO (r'.take 2), ptO ((r'.drop 2).take 2), .str (trn lf)] = .tup [.str "arc", vc m, vc t, .str (trn lf')] := hq
            injection hq with hq; injection hq with _ hq; injection hq with h1 hq; injection hq with h2 hq; injection hq with h3 _; injection h3 with h3
            obtain ⟨s1, e1, b1⟩ := ptO_vc h1
            obtain ⟨s2, e2, b2⟩ := ptO_vc h2
            have e3 : r' = frT m.1 :: frT m.2 :: frT t.1 :: frT t.2 :: r'.drop 4 := by
              match r', e1, e2 with
              | a :: b :: c :: d :: r, e1, e2 =>
                have e1 : a :: b :: [] = frT m.1 :: frT m.2 :: s1 := e1
                have e2 : c :: d :: [] = frT t.1 :: frT t.2 :: s2 := e2
                injection e1 with e4 e1; injection e1 with e5 _
                injection e2 with e6 e2; injection e2 with e7 _
                rw [e4, e5, e6, e7]; rfl
            exact ⟨r'.drop 4, by rw [e3, h3]; rfl, ⟨b1, b2⟩, rfl⟩
end
section
open PySem PySem.Spec PyProof.Rows L2
open TL (tl len_tl ext_tl tl_append tl_mk mk_tl join_eq)
def PRes (z : Str) (T : PV) : Prop := (∀ p, PthIn z p → T = pth p) ∧ ∀ p, T = pth p → PthIn z p
def s_path_in : Spec := fun args L R => ∃ z, args = [.str z] ∧ Tl 1000 z ∧ ∀ T L', Le L L' → PRes z T → Tg L' 380 5 T → R T L'
def d_path_in_6 : WS := sRet (wTup [wVar 2, wBi gTuple [wVar 3]])
def d_path_in_5w_3 : WS := sAug 4 oAddI (wBin oIx (wVar 5) (wC (.int 1)))
def d_path_in_5w_2 : WS := sSeq (sExpr (wMt "list" mAppend (wVar 3) [wBin oIx (wVar 5) (wC (.int 0))])) d_path_in_5w_3
def d_path_in_5w_1a_0 : WS := sRet (wC .non)
def d_path_in_5w_1 : WS := sSeq (sIf (wBin oIs (wVar 5) (wC .non)) d_path_in_5w_1a_0 sNil) d_path_in_5w_2
def d_path_in_5w_0 : WS := sSeq (sAsg (gN 5) (wCall s_piece_ahead [wSl (wVar 1) (wSo (wVar 4)) wNo])) d_path_in_5w_1
def d_path_in_5 : WS := sSeq (sWhile (wBin oLt (wVar 4) (wBi gLen [wVar 1])) d_path_in_5w_0) d_path_in_6
def d_path_in_4 : WS := sSeq (sAsg (gN 4) (wC (.int 3))) d_path_in_5
def d_path_in_3 : WS := sSeq (sAsg (gN 3) (wLst [])) d_path_in_4
def d_path_in_2a_0 : WS := sRet (wC .non)
def d_path_in_2 : WS := sSeq (sIf (wBin oNe (wBin oIx (wVar 1) (wC (.int 0))) (wC (.str "from"))) d_path_in_2a_0 sNil) d_path_in_3
def d_path_in_1 : WS := sSeq (sAsg (gN 2) (wCall s_point_in [wSl (wVar 1) (wSo (wC (.int 1))) (wSo (wC (.int 3)))])) d_path_in_2
def d_path_in_0 : WS := sSeq (sAsg (gN 1) (wMt "str" mSplit (wVar 0) [wC (.str " ")])) d_path_in_1
theorem pcW_ne' {q : Pc} : 3 ≤ (pcW q).length := by
  cases q with
  | side t => exact Nat.le_refl 3
  | arc m t lf => exact (by decide : 3 ≤ 6)
theorem flat_nil {ps : List Pc} (h : (ps.map pcW).flatten = []) : ps = [] := by
  cases ps with
  | nil => rfl
  | cons q r =>
    have : pcW q ++ (r.map pcW).flatten = [] := h
    exact absurd (List.append_eq_nil_iff.mp this).1 pcW_ne
theorem map_snoc {xs : List PV} {x : PV} {qs : List Pc} (h : xs ++ [x] = qs.map pcV) : ∃ ps q, qs = ps ++ [q] ∧ xs = ps.map pcV ∧ x = pcV q := by
  rcases snoc_cases qs with rfl | ⟨ps, q, rfl⟩
  · exact absurd h (by simp)
  · rw [List.map_append] at h
    have h : xs ++ [x] = ps.map pcV ++ [pcV q] := h
    have := List.append_inj' h rfl
    exact ⟨ps, q, rfl, this.1, by simpa using this.2⟩
theorem split_len {z : Str} : ((Txt.split z " ").length ≤ z.length + 1) ∧ ∀ w ∈ Txt.split z " ", (∀ c ∈ tl w, c ∈ tl z) ∧ w.length ≤ z.length := by
  obtain ⟨hne, hj, hf⟩ := split1 (y := " ") (s := 32) (by decide +kernel) (by decide +kernel) z
  have e32 : tl (" " : Str) = [32] := by decide +kernel
  have e : tl z = TL.joinL [32] ((Txt.split z " ").map tl) := by
    have := congrArg tl hj
    rw [TL.join_eq, TL.tl_join, e32] at this
    exact this.symm
  have key : ∀ (l : List (List Nat)), l.length ≤ (TL.joinL [32] l).length + 1 ∧ ∀ p ∈ l, (∀ c ∈ p, c ∈ TL.joinL [32] l) ∧ p.length ≤ (TL.joinL [32] l).length := by
    intro l
    induction l with
    | nil => exact ⟨Nat.zero_le _, fun p hp => by cases hp⟩
    | cons a r ih =>
      cases r with
      | nil => exact ⟨by show 1 ≤ _ + 1; omega, fun p hp => by rw [List.mem_singleton.mp hp]; exact ⟨fun c hc => hc, Nat.le_refl _⟩⟩
      | cons b r =>
        rw [joinL_cons (by simp)]
        refine ⟨?_, fun p hp => ?_⟩
        · have := ih.1
          rw [List.length_cons, List.length_append, List.length_append]
          show _ + 1 ≤ a.length + (1 + _) + 1
          omega
        · rcases List.mem_cons.mp hp with rfl | hp
          · exact ⟨fun c hc => List.mem_append_left _ hc, by rw [List.length_append]; omega⟩
          · obtain ⟨h1, h2⟩ := ih.2 p hp
            exact ⟨fun c hc => List.mem_append_right _ (List.mem_append_right _ (h1 c hc)), by rw [List.length_append, List.length_append]; omega⟩
  obtain ⟨k1, k2⟩ := key ((Txt.split z " ").map tl)
  rw [← e] at k1 k2
  rw [List.length_map, ← len_tl] at k1
  refine ⟨k1, fun w hw => ?_⟩
  obtain ⟨h1, h2⟩ := k2 (tl w) (List.mem_map_of_mem hw)
  exact ⟨h1, by rw [len_tl, len_tl]; exact h2⟩
theorem ok_path_in : ∀ args L R, args.length = 1 → s_path_in args L R → d_path_in_0 (initE 6 args) L { nx := fun _ L' => R .non L', rt := R } := by
  rintro _ L R _ ⟨z, rfl, hz, h⟩
  have hlen := hz.ln
  obtain ⟨sl, sw⟩ := split_len (z := z)
  obtain ⟨hne, hj, _⟩ := split1 (y := " ") (s := 32) (by decide +kernel) (by decide +kernel) z
  have hwd : ∀ p, PthIn z p → Txt.split z " " = pthW p := fun p hp => hp.words
  have htl : ∀ a ∈ Txt.split z " ", Tl 1000 a := fun a ha => ⟨fun c hc => hz.lo c ((sw a ha).1 c hc), Nat.le_trans (sw a ha).2 hlen⟩
  have htx : ∀ a ∈ Txt.split z " ", Tx a := fun a ha => (htl a ha).tx (by decide)
  unfold d_path_in_0
  show sSeq _ _ [some (.str z), none, none, none, none, none] L _
  walk_at "ev105"
  refine ⟨ty_str, by decide +kernel, by show _ + 2 ≤ 16777216; omega, ?_⟩
  generalize hws : Txt.split z " " = ws at *
  intro w hw
  have e1 := put_same (L := L) (a := w) (o := .l (ws.map PV.str))
  have l1 := Le.new (o := .l (ws.map PV.str)) hw
  generalize put L w _ = L1 at *
  unfold d_path_in_1
  walk_at "ev105"
  rw [e_sll e1, show cutP (ws.map PV.str) (some 1) (some 3) = _ from cut_map2 1 3]
  intro p2 hp2
  have l2 := Le.new (o := .l (((ws.drop 1).take (3 - 1)).map PV.str)) hp2
  have e2 := l2 _ _ e1
  refine ⟨p2, _, rfl, put_same, TxL htx 1 2, ?_⟩
  generalize put L1 p2 _ = L2 at *
  unfold d_path_in_2 d_path_in_2a_0
  walk_at "ev105"
  have l02 := l1.trans l2
  have dead : (∀ p, ¬ PthIn z p) → ∀ L', Le L L' → R .non L' := fun hn L' hL => h .non L' hL ⟨fun p hp => absurd hp (hn p), fun p hp => by cases hp⟩ .non
  cases ws with
  | nil => exact absurd rfl hne
  | cons w0 wr =>
  have sf : SeqAt.shaped (.str ("from" : Str)) = true := by decide +kernel
  rw [ixl0 e2, oNe_sS (htx w0 (by simp)).sh sf]
  by_cases h0 : w0 = "from"
  case neg =>
    rw [show (w0 == ("from" : Str)) = false by rw [beq_eq_false_iff_ne]; exact h0]
    walk_at "ev105"
    refine dead (fun p hp => h0 ?_) _ l02
    have := hwd p hp
    exact (List.cons.inj this).1
  subst h0
  rw [show (("from" : Str) == ("from" : Str)) = true by decide +kernel]
  walk_at "ev105"
  unfold d_path_in_3
  walk_at "ev105"
  intro q hq
  have eq := put_same (L := L2) (a := q) (o := .l [])
  have l3 := Le.new (o := .l []) hq
  have e3 := l3 _ _ e2
  have hql1 : L q = none := l02.free hq
  have nwq : w ≠ q := fun z => by rw [z, hq] at e2; cases e2
  have l03 := l02.trans l3
  generalize put L2 q _ = L3 at *
  unfold d_path_in_4
  walk_at "ev105"
  unfold d_path_in_5
  walk_at "ev105"
  have i0 : ∀ p, PthIn z p → wr = frT p.1.1 :: frT p.1.2 :: (p.2.map pcW).flatten := fun p hp => (List.cons.inj (hwd p hp)).2
  have hwl : wr.length ≤ 1000 := by
    have : wr.length + 1 ≤ z.length + 1 := sl
    omega
  have eS : ptO ((("from" :: wr : List Str).drop 1).take (3 - 1)) = ptO (wr.take 2) := rfl
  rw [eS]
  refine ⟨fun m env L' => ∃ (a : Nat) (xs : List PV) (z5 : Option PV), m = wr.length - a ∧ 2 + 3 * xs.length ≤ a ∧ env = [some (.str z), some (.ref w), some (ptO (wr.take 2)), some (.ref q), some (.int (((a + 1 : Nat)) : Int)), z5] ∧ Le L L' ∧
    L' w = some (.l (("from" :: wr : List Str).map PV.str)) ∧ L' q = some (.l xs) ∧ (∀ x ∈ xs, ∀ l, Tg l 380 3 x) ∧ (xs.length ≤ 334) ∧
    (∀ qs : List Pc, xs = qs.map pcV → wr.drop 2 = (qs.map pcW).flatten ++ wr.drop a ∧ ∀ x ∈ qs, QB x) ∧
    ∀ p, PthIn z p → xs.length ≤ p.2.length ∧ wr.drop a = ((p.2.drop xs.length).map pcW).flatten ∧ xs = (p.2.take xs.length).map pcV,
    ⟨_, 2, [], none, rfl, Nat.le_refl _, rfl, l03, e3, eq, (fun x hx => by cases hx), Nat.zero_le _, ?_, ?_⟩, ?_⟩
  · intro qs hqs
    cases qs with
    | nil => exact ⟨rfl, fun x hx => by cases hx⟩
    | cons _ _ => cases hqs
  · intro p hp
    refine ⟨Nat.zero_le _, ?_, rfl⟩
    rw [i0 p hp]; rfl
  rintro m env L' ⟨a, xs, z5, rfl, ha, rfl, hle, ew, eq, htg, hxl, I1, I2⟩
  walk_at "ev105"
  rw [e_lenl ew]
  walk_at "ev105"
  by_cases hin : a < wr.length
  · rw [if_pos (by rw [List.length_map, List.length_cons]; omega)]
    unfold d_path_in_5w_0
    walk_at "ev105"
    rw [e_sll ew, cutFrom]
    have hdrop : (("from" :: wr : List Str).map PV.str).drop (a + 1) = (wr.drop a).map PV.str := by rw [List.map_drop]; rfl
    rw [hdrop]
    intro p3 hp3
    have l4 := Le.new (o := .l ((wr.drop a).map PV.str)) hp3
    have hdn : wr.drop a ≠ [] := fun e => by
      have := congrArg List.length e
      rw [List.length_drop] at this
      have : wr.length - a = 0 := this
      omega
    have htd : ∀ x ∈ wr.drop a, Tl 1000 x := fun x hx => htl x (List.mem_cons_of_mem _ (List.mem_of_mem_drop hx))
    refine ⟨p3, wr.drop a, rfl, put_same, fun x hx => (htd x hx).tx (by decide), hdn, fun L5 l5 => ?_⟩
    have l45 := l4.trans l5
    generalize put L' p3 _ = L4 at *
    have hq5 := l45 _ _ eq
    -- where a piece stands ahead
    have next : ∀ p, PthIn z p → ∃ qi, p.2[xs.length]? = some qi ∧ QB qi ∧ wr.drop a = pcW qi ++ ((p.2.drop (xs.length + 1)).map pcW).flatten := fun p hp => by
      obtain ⟨k1, k2, k3⟩ := I2 p hp
      have hlt : xs.length < p.2.length := Classical.byContradiction fun hn => by
        rw [show p.2.drop xs.length = [] from List.drop_eq_nil_of_le (by omega)] at k2
        exact hdn k2
      refine ⟨p.2[xs.length], List.getElem?_eq_getElem hlt, hp.2.2 _ (List.getElem_mem hlt), ?_⟩
      rw [k2, List.drop_eq_getElem_cons hlt]; rfl
    unfold d_path_in_5w_1 d_path_in_5w_1a_0
    rcases pcO_cases htd with hno | ⟨x, k, hk, hk3, hxt, hxq⟩
    · rw [hno]
      walk_at "ev105"
      refine dead (fun p hp => ?_) _ (hle.trans l45)
      obtain ⟨qi, n1, n2, n3⟩ := next p hp
      rw [n3, pcO_of n2] at hno
      cases hno
    · rw [hk]
      walk_at "ev105"
      unfold d_path_in_5w_2
      walk_at "ev105"
      refine ⟨ty_list hq5, e_app hq5 ⟨by show _ < 16777216; omega, ?_⟩⟩
      unfold d_path_in_5w_3
      rw [e_aug (x := .int (((a + 1 : Nat)) : Int)) rfl]
      walk_at "ev105"
      have hx3 : xs.length < 334 := by omega
      refine ⟨wr.length - (a + k), by omega, a + k, xs ++ [x], some (.tup [x, .int (k : Int)]), rfl, by rw [List.length_append]; show 2 + 3 * (_ + 1) ≤ _; omega, ?_, (hle.trans l45).put hql1, ?_, put_same, ?_, by rw [List.length_append]; show _ + 1 ≤ _; omega, ?_, ?_⟩
      · rw [show (((a + k + 1 : Nat)) : Int) = (((a + 1 : Nat)) : Int) + (k : Int) by omega]
      · rw [put_ne nwq]; exact l45 _ _ ew
      · intro y hy
        rcases List.mem_append.mp hy with hy | hy
        · exact htg y hy
        · rw [List.mem_singleton.mp hy]; exact hxt
      · intro qs hqs
        obtain ⟨ps, qq, rfl, h1, h2⟩ := map_snoc hqs
        obtain ⟨j1, j2⟩ := I1 ps h1
        obtain ⟨rest, r1, r2, r3⟩ := hxq qq h2
        refine ⟨?_, fun y hy => ?_⟩
        · rw [j1, r1, List.map_append, List.flatten_append, List.append_assoc]
          congr 1
          have : wr.drop (a + k) = rest := by rw [← List.drop_drop, r1, r3, List.drop_left]
          rw [this]
          show _ = (pcW qq ++ []) ++ rest
          rw [List.append_nil]
        · rcases List.mem_append.mp hy with hy | hy
          · exact j2 y hy
          · rw [List.mem_singleton.mp hy]; exact r2
      · intro p hp
        obtain ⟨k1, k2, k3⟩ := I2 p hp
        obtain ⟨qi, n1, n2, n3⟩ := next p hp
        have e := hk
        rw [n3, pcO_of n2] at e
        have e : PV.tup [pcV qi, .int ((pcW qi).length : Nat)] = .tup [x, .int (k : Int)] := e
        injection e with e; injection e with ex e; injection e with e _; injection e with e
        have ek : k = (pcW qi).length := by omega
        have hlt := (List.getElem?_eq_some_iff.mp n1).1
        rw [List.length_append]
        refine ⟨by show _ + 1 ≤ _; omega, ?_, ?_⟩
        · rw [← List.drop_drop, n3, ek, List.drop_left]; rfl
        · show _ = (p.2.take (xs.length + 1)).map pcV
          rw [List.take_add_one, n1, List.map_append, ← k3, ← ex]; rfl
  · rw [if_neg (by rw [List.length_map, List.length_cons]; omega)]
    unfold d_path_in_6
    walk_at "ev105"
    rw [e_tupl eq]
    have hnil : wr.drop a = [] := List.drop_eq_nil_of_le (by omega)
    refine h _ _ hle ⟨fun p hp => ?_, fun p hp => ?_⟩ ?_
    · obtain ⟨k1, k2, k3⟩ := I2 p hp
      rw [hnil] at k2
      have hd := flat_nil k2.symm
      have hl : p.2.length ≤ xs.length := Classical.byContradiction fun hn => by
        have := congrArg List.length hd
        rw [List.length_drop] at this
        have : p.2.length - xs.length = 0 := this
        omega
      rw [List.take_of_length_le hl] at k3
      rw [k3, i0 p hp]
      show PV.tup [ptO [frT p.1.1, frT p.1.2], _] = _
      rw [ptO_of hp.2.1]; rfl
    · have hp : PV.tup [ptO (wr.take 2), .tup xs] = .tup [vc p.1, .tup (p.2.map pcV)] := hp
      injection hp with hp; injection hp with h1 hp; injection hp with h2 _; injection h2 with h2
      obtain ⟨j1, j2⟩ := I1 p.2 h2
      obtain ⟨r, r1, r2⟩ := ptO_vc h1
      rw [hnil, List.append_nil] at j1
      refine ⟨?_, r2, j2⟩
      rw [← hj, pthT_join]
      have : ("from" :: wr : List Str) = pthW p := by
        have e : wr = frT p.1.1 :: frT p.1.2 :: wr.drop 2 := by
          match wr, r1 with
          | a :: b :: c, r1 =>
            have r1 : a :: b :: [] = frT p.1.1 :: frT p.1.2 :: r := r1
            injection r1 with e4 r1; injection r1 with e5 _
            rw [e4, e5]; rfl
        rw [e, j1]; rfl
      rw [this]
    · refine .tup (by show 2 ≤ 380; decide) fun y hy => ?_
      simp only [List.mem_cons, List.not_mem_nil, or_false] at hy
      rcases hy with rfl | rfl
      · rcases ptO_cases (wr.take 2) with e | ⟨v, r, _, h2, e⟩
        · rw [e]; exact .non
        · rw [e]; exact (Tg.ofV h2.sz (by decide)).mono (by decide) (by decide)
      · exact .tup (by omega) fun x hx => htg x hx _
end
section
open PySem PySem.Spec PyProof.Rows L2
open TL (tl len_tl ext_tl tl_append tl_mk mk_tl join_eq)
theorem pcW_inj {q q' : Pc} {r r' : List Str} (hq : QB q) (hq' : QB q') (h : pcW q ++ r = pcW q' ++ r') : q = q' ∧ r = r' := by
  have e1 := pcO_of (rest := r) hq
  have e2 := pcO_of (rest := r') hq'
  rw [h, e2] at e1
  injection e1 with e1; injection e1 with e1 _
  have := pcV_inj e1
  subst this
  exact ⟨rfl, List.append_cancel_left h⟩
theorem flat_inj : ∀ {ps qs : List Pc}, (∀ q ∈ ps, QB q) → (∀ q ∈ qs, QB q) → (ps.map pcW).flatten = (qs.map pcW).flatten → ps = qs
  | [], [], _, _, _ => rfl
  | [], q :: r, _, _, h => by
    have h : [] = pcW q ++ (r.map pcW).flatten := h
    exact absurd (List.append_eq_nil_iff.mp h.symm).1 pcW_ne
  | q :: r, [], _, _, h => by
    have h : pcW q ++ (r.map pcW).flatten = [] := h
    exact absurd (List.append_eq_nil_iff.mp h).1 pcW_ne
  | q :: r, q' :: r', h1, h2, h => by
    obtain ⟨e1, e2⟩ := pcW_inj (h1 q (by simp)) (h2 q' (by simp)) (show pcW q ++ (r.map pcW).flatten = pcW q' ++ (r'.map pcW).flatten from h)
    rw [e1, flat_inj (fun x hx => h1 x (List.mem_cons_of_mem _ hx)) (fun x hx => h2 x (List.mem_cons_of_mem _ hx)) e2]
theorem PthIn.uniq {z : Str} {p p' : Pth} (h : PthIn z p) (h' : PthIn z p') : p = p' := by
  have e := h.words.symm.trans h'.words
  have e : ("from" : Str) :: frT p.1.1 :: frT p.1.2 :: (p.2.map pcW).flatten = ("from" : Str) :: frT p'.1.1 :: frT p'.1.2 :: (p'.2.map pcW).flatten := e
  injection e with _ e; injection e with e1 e; injection e with e2 e
  have h1 : p.1 = p'.1 := Prod.ext (frT_inj e1) (frT_inj e2)
  have h2 := flat_inj h.2.2 h'.2.2 e
  exact Prod.ext h1 h2
def PathR (z : Str) (p : Pth) : Prop := PthIn z p ∧ p.2 ≠ [] ∧ PcsOk p.1 p.2
open Classical in
noncomputable def pthR (z : Str) : Option Pth := if h : ∃ p, PathR z p then some (choose h) else none
theorem pthR_of {z : Str} {p : Pth} (h : PathR z p) : pthR z = some p := by
  have ex : ∃ p, PathR z p := ⟨p, h⟩
  unfold pthR
  rw [dif_pos ex]
  have := Classical.choose_spec ex
  rw [this.1.uniq h.1]
theorem pthR_some {z : Str} {p : Pth} (h : pthR z = some p) : PathR z p := by
  unfold pthR at h
  split at h
  · rename_i ex
    cases h
    exact Classical.choose_spec ex
  · cases h
theorem pthR_no {z : Str} (h : ∀ p, ¬ PathR z p) : pthR z = none := by
  cases e : pthR z with
  | none => rfl
  | some q => exact absurd (pthR_some e) (h q)
def s_path_from : SpecX := fun args L R E => ∃ z, args = [.str z] ∧ Tl 1000 z ∧ (∀ p, pthR z = some p → ∀ L', Le L L' → R (pth p) L') ∧ (pthR z = none → ∀ L', Le L L' → E 0 L')
theorem res_path {z : Str} {T : PV} (h : PRes z T) (hp : IsPath T) : ∃ p, T = pth p ∧ pthR z = some p := by
  obtain ⟨p, rfl, h1, h2⟩ := hp
  exact ⟨p, rfl, pthR_of ⟨h.2 p rfl, h1, h2⟩⟩
theorem res_no {z : Str} {T : PV} (h : PRes z T) (hp : ¬ IsPath T) : pthR z = none := pthR_no fun p hpr => hp ⟨p, h.1 p hpr.1, hpr.2⟩
theorem ok_path_from : ∀ args L R EX, args.length = 1 → s_path_from args L R EX → zRai (sAsg (gN 1) (wCall s_path_in [wVar 0])) (wUn oNot (wCall s_is_path [wVar 1])) (wVar 1) 0 2 args L R EX := by
  rintro _ L R EX _ ⟨z, rfl, hz, h1, h2⟩
  unfold zRai
  show sAsg _ _ [some (.str z), none] L _
  walk_at "ev105"
  refine ⟨z, rfl, hz, fun T L1 l1 hr ht => ?_⟩
  walk_at "ev105"
  refine ⟨T, 380, 5, rfl, ht, by decide, fun L2 l2 => ?_⟩
  by_cases hp : IsPath T
  · rw [tr_t hp]
    obtain ⟨p, e1, e2⟩ := res_path hr hp
    rw [e1]
    walk_at "ev105"
    exact h1 p e2 _ (l1.trans l2)
  · rw [tr_f hp]
    walk_at "ev105"
    exact h2 (res_no hr hp) _ (l1.trans l2)
end
section
open PySem PySem.Spec PyProof.Rows L2
open TL (tl len_tl ext_tl tl_append tl_mk mk_tl join_eq)
def sL (ws : List Str) : Nat := (ws.map fun w => w.length + 1).sum
theorem joinL_len {s : Nat} : ∀ {l : List (List Nat)}, l ≠ [] → (TL.joinL [s] l).length + 1 = (l.map fun p => p.length + 1).sum
  | [], h => absurd rfl h
  | [p], _ => by show p.length + 1 = (p.length + 1) + 0; omega
  | p :: q :: r, _ => by
    rw [joinL_cons (by simp), List.map_cons, List.sum_cons, ← joinL_len (s := s) (l := q :: r) (by simp), List.length_append, List.length_append]
    show _ + (1 + _) + 1 = _
    omega
theorem tl_spc : tl (" " : Str) = [32] := by decide +kernel
theorem join_sp {ws : List Str} (h : ws ≠ []) : (Txt.join " " ws).length + 1 = sL ws := by
  rw [join_eq, len_tl, TL.tl_join, tl_spc, joinL_len (by simpa using h), List.map_map]
  unfold sL
  exact congrArg List.sum (List.map_congr_left fun w _ => by show (tl w).length + 1 = w.length + 1; rw [← len_tl])
theorem join_le {ws : List Str} : (Txt.join " " ws).length ≤ sL ws := by
  by_cases h : ws = []
  · subst h; decide +kernel
  · have := join_sp h; omega
theorem joinL_mem {s : Nat} : ∀ {l : List (List Nat)} {c : Nat}, c ∈ TL.joinL [s] l → c = s ∨ ∃ p ∈ l, c ∈ p
  | [], c, h => by cases h
  | [p], c, h => .inr ⟨p, by simp, h⟩
  | p :: q :: r, c, h => by
    rw [joinL_cons (by simp)] at h
    rcases List.mem_append.mp h with h | h
    · exact .inr ⟨p, by simp, h⟩
    · rcases List.mem_append.mp h with h | h
      · exact .inl (List.mem_singleton.mp h)
      · rcases joinL_mem (l := q :: r) h with h | ⟨x, h1, h2⟩
        · exact .inl h
        · exact .inr ⟨x, List.mem_cons_of_mem _ h1, h2⟩
theorem Tl.join {ws : List Str} {n : Nat} (h : ∀ w ∈ ws, ∀ c ∈ tl w, c < 128) (hn : sL ws ≤ n) : Tl n (Txt.join " " ws) := ⟨fun c hc => by
  rw [join_eq, TL.tl_join, tl_spc] at hc
  rcases joinL_mem hc with rfl | ⟨p, h1, h2⟩
  · decide
  · obtain ⟨w, hw, rfl⟩ := List.mem_map.mp h1
    exact h w hw c h2, Nat.le_trans join_le hn⟩
end
section
open PySem PySem.Spec PyProof.Rows L2
def w3 (c1 c2 c3 co : Str) : WE := wIfE (wBin oEq (wMt "list" mCountL (wVar 4) [wC (.bl true)]) (wC (.int 1))) (wBin oIx (wLst [wC (.str c1), wC (.str c2), wC (.str c3)]) (wMt "list" mIndex (wVar 4) [wC (.bl true)])) (wC (.str co))
theorem oneOf3 {bA bB bC : Bool} {r : Str} {c1 c2 c3 co : Str} (h : (bA = true ∧ bB = false ∧ bC = false ∧ r = c1) ∨ (bA = false ∧ bB = true ∧ bC = false ∧ r = c2)) {p : Addr} {L : Sto} {R : PK} (e : L p = some (.l [.bl bA, .bl bB, .bl bC]))
    (hR : ∀ L', Le L L' → R (.str r) L') : w3 c1 c2 c3 co [none, none, none, none, some (.ref p)] L R := by
  have pd : ∀ {L' : Sto}, Le L L' → PD L' (.ref p) (.list [.bool bA, .bool bB, .bool bC]) := fun l => .lst (l _ _ e) (.cons (.bl _) (.cons (.bl _) (.cons (.bl _) .nil)))
  have sh : SeqAt.shaped (.list [.bool bA, .bool bB, .bool bC]) = true := by cases bA <;> cases bB <;> cases bC <;> decide +kernel
  have sb : SeqAt.shaped (.bool true) = true := by decide +kernel
  unfold w3
  walk_at "ev105"
  refine ⟨ty_list e, .bool true, _, pd .refl, .bl _, sh, sb, ?_⟩
  have hc : ([PyData.bool bA, .bool bB, .bool bC].countP fun z => PyData.eqv z (.bool true)) = 1 := by
    rcases h with ⟨rfl, rfl, rfl, _⟩ | ⟨rfl, rfl, rfl, _⟩ <;> decide +kernel
  rw [hc]
  walk_at "ev105"
  rw [if_pos (by rfl)]
  intro p2 hp2
  have l2 := Le.new (o := .l [.str c1, .str c2, .str c3]) hp2
  have e2 := put_same (L := L) (a := p2) (o := .l [.str c1, .str c2, .str c3])
  generalize put L p2 _ = L2 at *
  rcases h with ⟨rfl, rfl, rfl, rfl⟩ | ⟨rfl, rfl, rfl, rfl⟩
  · refine ⟨ty_list (l2 _ _ e), .bool true, _, 0, .bool true, pd l2, .bl _, sh, sb, rfl, by decide +kernel, fun m z hm => by omega, ?_⟩
    show oIx (.ref p2) (.int 0) L2 R
    rw [ixl0 e2]
    exact hR _ l2
  · refine ⟨ty_list (l2 _ _ e), .bool true, _, 1, .bool true, pd l2, .bl _, sh, sb, rfl, by decide +kernel, fun m z hm hz => ?_, ?_⟩
    · obtain rfl : m = 0 := by omega
      cases hz
      decide +kernel
    · show oIx (.ref p2) (.int 1) L2 R
      rw [ixl1 e2]
      exact hR _ l2
section
variable {X : Cx} {a D : Addr} {oe : Obj} {pn : List (Addr × Obj)} {j : Nat} {xe : Str}
theorem pe_w3 {xk c1 c2 c3 co : Str} {k1 k2 k3 k4 k5 k6 k7 : Nat} {p1 p2 p3 p4 p5 p6 p7 p8 p9 p10 p11 p12 p13 p14 p15 p16 p17 : Pos} (hu : X.A.units + 65 < cLine) (hk : X.N[4]? = some xk) (vk : Vis X.env.scope xk) (d1 : (xk == ("__debug__" : Str)) = false) (d2 : (xk == ("__classdict__" : Str)) = false)
    (hl1 : (p2.endLine == p4.line) = true) (hl2 : (p12.endLine == p14.line) = true) :
    PE X (.IfExp (.Compare (.Call (.Attribute (.Name xk p1) "count" p2) [.Constant (.bool true) k1 p3] [] p4) [.Eq] [.Constant (.int 1) k2 p5] p6)
      (.Subscript (.List [.Constant (.str c1) k3 p7, .Constant (.str c2) k4 p8, .Constant (.str c3) k5 p9] p10) (.Call (.Attribute (.Name xk p11) "index" p12) [.Constant (.bool true) k6 p13] [] p14) p15) (.Constant (.str co) k7 p16) p17) (liftE X.K (w3 c1 c2 c3 co)) := by
  have qb : ∀ {k : Nat} {p : Pos}, PE X (.Constant (.bool true) k p) (liftE X.K (wC (.bl true))) := q_const pe_bl fun _ => rfl
  have qs : ∀ {x : Str} {k : Nat} {p : Pos}, PE X (.Constant (.str x) k p) (liftE X.K (wC (.str x))) := q_const pe_str fun _ => rfl
  have qv : ∀ {p : Pos}, PE X (.Name xk p) (liftE X.K (wVar 4)) := q_var hk vk d1 d2
  refine q_ifE (t_cmp (ok_eq (by omega)) (q_mt (k_countL hu) qv (q_cons qb q_nil rfl) rfl rfl hl1 rfl rfl) (q_const pe_int fun _ => rfl) rfl) ?_ qs
  refine q_ix (by omega) (q_lst (q_cons qs (q_cons qs (q_cons qs q_nil rfl) rfl) rfl)) (q_mt (k_index hu) qv (q_cons qb q_nil rfl) rfl rfl hl2 rfl rfl) (plain_ix rfl)
theorem suite2 {xk xf A B Cm c1 c2 c3 co r : Str} {k1 k2 k3 k4 k5 k6 k7 : Nat} {q1 q2 q3 q4 q5 a1 a2 a3 a4 b1 b2 b3 b4 e1 e2 e3 e4 p1 p2 p3 p4 p5 p6 p7 p8 p9 p10 p11 p12 p13 p14 p15 p16 p17 : Pos} {bA bB bC : Bool} (C : ExcC X.K D) (hz : Zc (.ref D) none oe) (hf : ∃ vs, oe.data = .fields vs) (hn : SuN X j xe)
    (hA : Cn X D A bA) (hB : Cn X D B bB) (hC : Cn X D Cm bC) (hr : (bA = true ∧ bB = false ∧ bC = false ∧ r = c1) ∨ (bA = false ∧ bB = true ∧ bC = false ∧ r = c2)) (hu : X.A.units + 65 < cLine)
    (hk : X.N[4]? = some xk) (hf' : X.N[2]? = some xf) (lk : Loc X.env.scope xk) (lf : Loc X.env.scope xf) (vk : Vis X.env.scope xk)
    (d1 : (xk == ("__debug__" : Str)) = false) (d2 : (xk == ("__classdict__" : Str)) = false) (fk : X.fn xk = true ∨ X.env.scope.names.lookup xk = some .local) (ff : X.fn xf = true ∨ X.env.scope.names.lookup xf = some .local)
    (hl1 : (p2.endLine == p4.line) = true) (hl2 : (p12.endLine == p14.line) = true) :
    PSs (X.suite a ((a, oe) :: pn)) [.Assign [.Name xk q1] (.List [.Call (.Name "isinstance" a1) [.Name xe a2, .Name A a3] [] a4, .Call (.Name "isinstance" b1) [.Name xe b2, .Name B b3] [] b4, .Call (.Name "isinstance" e1) [.Name xe e2, .Name Cm e3] [] e4] q2) q3,
      .Assign [.Name xf q4] (.IfExp (.Compare (.Call (.Attribute (.Name xk p1) "count" p2) [.Constant (.bool true) k1 p3] [] p4) [.Eq] [.Constant (.int 1) k2 p5] p6)
      (.Subscript (.List [.Constant (.str c1) k3 p7, .Constant (.str c2) k4 p8, .Constant (.str c3) k5 p9] p10) (.Call (.Attribute (.Name xk p11) "index" p12) [.Constant (.bool true) k6 p13] [] p14) p15) (.Constant (.str co) k7 p16) p17) q5]
      (fun D' σ H => σ[j]? = some (some (.ref a)) ∧ σ.length = 5 ∧ ∀ H' v, Hs H H' → D'.nx ((σ.set 4 v).set 2 (some (.str r))) H') := by
  have e1' := pe_lst (pos := q2) (pa_cons (pe_isi1 (a := a) (pn := pn) (a1 := a1) (a2 := a2) (a3 := a3) (a4 := a4) C hz hf hn hA) (pa_cons (pe_isi1 (a := a) (pn := pn) (a1 := b1) (a2 := b2) (a3 := b3) (a4 := b4) C hz hf hn hB) (pa_cons (pe_isi1 (a := a) (pn := pn) (a1 := e1) (a2 := e2) (a3 := e3) (a4 := e4) C hz hf hn hC) pa_nil)))
  have s1 := ps_set (X := X.suite a ((a, oe) :: pn)) (pos := q3) (pos' := q1) hn.nd hk lk e1' rfl fk
  have e2' := pe_w3 (X := X.suite a ((a, oe) :: pn)) (xk := xk) (c1 := c1) (c2 := c2) (c3 := c3) (co := co) (k1 := k1) (k2 := k2) (k3 := k3) (k4 := k4) (k5 := k5) (k6 := k6) (k7 := k7) (p1 := p1) (p3 := p3) (p5 := p5) (p6 := p6) (p7 := p7) (p8 := p8) (p9 := p9) (p10 := p10) (p11 := p11) (p13 := p13) (p15 := p15) (p16 := p16) (p17 := p17) hu hk vk d1 d2 hl1 hl2
  have s2 := ps_set (X := X.suite a ((a, oe) :: pn)) (pos := q5) (pos' := q4) hn.nd hf' lf e2' rfl ff
  refine (pss_cons s1 (pss_one s2)).weak fun D' σ H q => ?_
  obtain ⟨hj, hl, q⟩ := q
  refine ⟨hj, hj, hj, by show 3 ≤ sizeLine; decide, fun p hp => ?_⟩
  have h1 : Hs H (upd H p (.lst [.bl bA, .bl bB, .bl bC])) := Hs.new hp
  show tAsg (liftE X.K (w3 c1 c2 c3 co)) (gName 2) D' (σ.set 4 (some (.ref p))) (upd H p (.lst [.bl bA, .bl bB, .bl bC]))
  refine ⟨[none, none, none, none, some (.ref p)], fun b => if b = p then some (.l [.bl bA, .bl bB, .bl bC]) else none, fun x _ => x = .str r, ?_, ?_, oneOf3 hr (by show (if p = p then _ else _) = _; rw [if_pos rfl]) fun _ _ => rfl, ?_⟩
  · refine ⟨by rw [List.length_set, hl]; rfl, fun i x e => ?_⟩
    match i, e with
    | 4, e => cases e; exact ⟨.ref p, List.getElem?_set_self (by omega), rfl⟩
    | 0, e => cases e
    | 1, e => cases e
    | 2, e => cases e
    | 3, e => cases e
    | i + 5, e => simp at e
  · intro b o e
    have e : (if b = p then some (SO.l [.bl bA, .bl bB, .bl bC]) else none) = some o := e
    by_cases hb : b = p
    · subst hb
      rw [if_pos rfl] at e
      cases e
      exact ⟨_, upd_same, .bl bA, _, rfl, rfl, .bl bB, _, rfl, rfl, .bl bC, _, rfl, rfl, rfl⟩
    · rw [if_neg hb] at e; cases e
  · intro x L' v H2 hx f rv rh
    subst hx
    cases (show _ = _ from rv)
    refine q H2 _ fun b o hb => (f b o (h1 b o hb) ?_).1
    show (if b = p then _ else _) = _
    rw [if_neg (fun z => by rw [z, hp] at hb; cases hb)]
end
/-- a def that asks one of two defs and tells the kind of a refusal by a word -/
def sAsk (S1 S2 : SpecX) (res : Nat → Str) (kn kp : Nat) : Spec := fun args L R => ∃ (i : Int) (x : PV), args = [.int i, x] ∧ (if i = 0 then S1 else S2) [x] L R (fun kd L' => (kd = kn ∨ kd = kp) ∧ R (.str (res kd)) L')
section
variable {P : Program} {w : World} {K : PySem.W.Frag} {mg : Str → Option Value} {base : Heap} {k : Nat} {cl : Nat → Value}
theorem told2_fn {x qual : Str} {st : Stmt} {f : Addr} {fd : FuncData} {xw xt xf xe xk fx gx cs A B Cm c1 c2 c3 co : Str} {S1 S2 : SpecX} {kn kp : Nat} {res : Nat → Str}
    {j0 j1 k1 k2 k3 k4 k5 k6 k7 : Nat} {p1 p2 p3 p4 p5 p6 p7 p8 p9 p10 p11 p12 p13 p14 p15 p16 p17 q1 q2 q3 q4 q5 a1 a2 a3 a4 b1 b2 b3 b4 e1 e2 e3 e4 r1 r2 r3 r4 r5 r6 r7 r8 r9 r10 r11 r12 r13 r14 r15 r16 r17 r18 r19 r20 : Pos}
    (F : Fun K x qual st f fd) (sc : FnScope [xw, xt, xf, xe, xk] [xw, xt] (defScope st))
    (hb : defBody st = [.Assign [.Name xf r1] (.Constant .none j0 r2) r3,
      .Try [.Assign [.Name xf r4] (.IfExp (.Compare (.Name xw r5) [.Eq] [.Constant (.int 0) j1 r6] r7) (.Call (.Name fx r8) [.Name xt r9] [] r10) (.Call (.Name gx r11) [.Name xt r12] [] r13) r14) r15]
        [.ExceptHandler (some (.Name cs r16)) (some xe) [.Assign [.Name xk q1] (.List [.Call (.Name "isinstance" a1) [.Name xe a2, .Name A a3] [] a4, .Call (.Name "isinstance" b1) [.Name xe b2, .Name B b3] [] b4, .Call (.Name "isinstance" e1) [.Name xe e2, .Name Cm e3] [] e4] q2) q3,
      .Assign [.Name xf q4] (.IfExp (.Compare (.Call (.Attribute (.Name xk p1) "count" p2) [.Constant (.bool true) k1 p3] [] p4) [.Eq] [.Constant (.int 1) k2 p5] p6)
      (.Subscript (.List [.Constant (.str c1) k3 p7, .Constant (.str c2) k4 p8, .Constant (.str c3) k5 p9] p10) (.Call (.Attribute (.Name xk p11) "index" p12) [.Constant (.bool true) k6 p13] [] p14) p15) (.Constant (.str co) k7 p16) p17) q5] r17] [] [] r18,
      .Return (some (.Name xf r19)) r20])
    (loc : [xw, xt, xf, xe, xk].all (fun y => (defScope st).names.lookup y == some .local) = true) (ok : [xw, xt, xf, xe, xk, fx, gx, cs, A, B, Cm].all okName = true)
    (glo : [fx, gx, cs, A, B, Cm, "isinstance"].all (fun y => (defScope st).names.lookup y == some .globalImplicit) = true)
    (hl1 : (p2.endLine == p4.line) = true) (hl2 : (p12.endLine == p14.line) = true)
    (G1 : FnIsX P w K mg base cl k fx 1 S1) (G2 : FnIsX P w K mg base cl k gx 1 S2) (mi : mg "isinstance" = none) (hcs : ∃ c, mg cs = some c ∧ ∀ kd, kd = kn ∨ kd = kp → PySem.W.exmOne K (cl kd) c = some true)
    (hE : ∀ kd, kd = kn ∨ kd = kp → ∃ D bA bB bC, cl kd = .ref D ∧ ExcC K D ∧ ErC K mg (cl kd) A bA ∧ ErC K mg (cl kd) B bB ∧ ErC K mg (cl kd) Cm bC ∧ ((bA = true ∧ bB = false ∧ bC = false ∧ res kd = c1) ∨ (bA = false ∧ bB = true ∧ bC = false ∧ res kd = c2))) :
    FnG P w K mg base (k + 1) f fd [xw, xt] (liftSp K 2 (sAsk S1 S2 res kn kp)) := by
  obtain ⟨oc, od, kV, doc, pm, an, cdv, ct, osl, rfl, lk, hcd⟩ := F.ex
  obtain ⟨f1, fd1, ps1, m1, kk1, bi1, g1⟩ := G1.ex
  obtain ⟨f2, fd2, ps2, m2, kk2, bi2, g2⟩ := G2.ex
  obtain ⟨csv, hcs, hexm⟩ := hcs
  rw [hb] at lk ⊢
  have lo : ∀ {y : Str}, y ∈ [xw, xt, xf, xe, xk] → (defScope st).names.lookup y = some .local := fun {y} hy => by
    have := List.all_eq_true.mp loc y hy
    simpa using this
  have gl : ∀ {y : Str}, y ∈ [fx, gx, cs, A, B, Cm, "isinstance"] → (defScope st).names.lookup y = some .globalImplicit := fun {y} hy => by
    have := List.all_eq_true.mp glo y hy
    simpa using this
  have nm : ∀ {y : Str}, y ∈ [xw, xt, xf, xe, xk, fx, gx, cs, A, B, Cm] → (y == ("__debug__" : Str)) = false ∧ (y == ("__classdict__" : Str)) = false ∧ y ≠ "__name__" := fun {y} hy => okName_of (List.all_eq_true.mp ok y hy)
  refine g_def lk hcd sc (fun vs H Q E h => h.1) fun A' outer s H vs Q E gd hr h => ?_
  obtain ⟨hl, args, L, R, ra, rh, hs, kt⟩ := h
  have hu : (cxOf CX0 P w K mg base [xw, xt, xf, xe, xk] qual (defScope st) f cdv A' outer s H E).A.units + 65 < cLine := by have := hr.un; show (A'.deeper (envOfC qual (defScope st) s.heap.objs.size f cdv)).units + 65 < cLine; omega
  have cn : ∀ {De : Addr} {kd : Nat} {y : Str} {b : Bool}, cl kd = .ref De → y ∈ [A, B, Cm] → ErC K mg (cl kd) y b → Cn (cxOf CX0 P w K mg base [xw, xt, xf, xe, xk] qual (defScope st) f cdv A' outer s H E) De y b := fun {De kd y b} hcD hy h => by
    obtain ⟨D', c, cv, e1, e2, e3, e4⟩ := h.ex
    rw [hcD] at e1
    cases e1
    have hy1 : y ∈ [fx, gx, cs, A, B, Cm, "isinstance"] := by
      simp only [List.mem_cons, List.not_mem_nil, or_false] at hy ⊢
      rcases hy with h | h | h <;> simp [h]
    have hy2 : y ∈ [xw, xt, xf, xe, xk, fx, gx, cs, A, B, Cm] := by
      simp only [List.mem_cons, List.not_mem_nil, or_false] at hy ⊢
      rcases hy with h | h | h <;> simp [h]
    exact ⟨gl hy1, (nm hy2).1, (nm hy2).2.2, c, cv, e2, e3, e4⟩
  have sun : SuN (cxOf CX0 P w K mg base [xw, xt, xf, xe, xk] qual (defScope st) f cdv A' outer s H E) 3 xe :=
    ⟨sc.nd, rfl, .inl (lo (by simp)), (nm (y := xe) (by simp)).1, (nm (y := xe) (by simp)).2.1, gl (y := "isinstance") (by simp), mi⟩
  have hN : (cxOf CX0 P w K mg base [xw, xt, xf, xe, xk] qual (defScope st) f cdv A' outer s H E).N.Nodup := sc.nd
  have st0 := ps_set (X := cxOf CX0 P w K mg base [xw, xt, xf, xe, xk] qual (defScope st) f cdv A' outer s H E) (i := 2) (pos := r3) (pos' := r1) hN rfl (.inl (lo (y := xf) (by simp))) (pe_non (j := j0) (pos := r2)) rfl (.inl rfl)
  have st2 := ps_ret (pos := r20) (pe_var (X := cxOf CX0 P w K mg base [xw, xt, xf, xe, xk] qual (defScope st) f cdv A' outer s H E) (i := 2) (pos := r19) rfl (.inl (lo (y := xf) (by simp))) (nm (y := xf) (by simp)).1 (nm (y := xf) (by simp)).2.1)
  have st1 := ps_try_as (X := cxOf CX0 P w K mg base [xw, xt, xf, xe, xk] qual (defScope st) f cdv A' outer s H E) (x := cs) (n := xe) (c := csv) (i := 3) (np := r16) (pos := r18) (pos' := r17) (Wout := fun _ _ _ _ => False)
    (body := [.Assign [.Name xf r4] (.IfExp (.Compare (.Name xw r5) [.Eq] [.Constant (.int 0) j1 r6] r7) (.Call (.Name fx r8) [.Name xt r9] [] r10) (.Call (.Name gx r11) [.Name xt r12] [] r13) r14) r15])
    (b₀ := .Assign [.Name xk q1] (.List [.Call (.Name "isinstance" a1) [.Name xe a2, .Name A a3] [] a4, .Call (.Name "isinstance" b1) [.Name xe b2, .Name B b3] [] b4, .Call (.Name "isinstance" e1) [.Name xe e2, .Name Cm e3] [] e4] q2) q3)
    (suite := [.Assign [.Name xf q4] (.IfExp (.Compare (.Call (.Attribute (.Name xk p1) "count" p2) [.Constant (.bool true) k1 p3] [] p4) [.Eq] [.Constant (.int 1) k2 p5] p6)
      (.Subscript (.List [.Constant (.str c1) k3 p7, .Constant (.str c2) k4 p8, .Constant (.str c3) k5 p9] p10) (.Call (.Attribute (.Name xk p11) "index" p12) [.Constant (.bool true) k6 p13] [] p14) p15) (.Constant (.str co) k7 p16) p17) q5])
    (tb := fun W => tAsg (tIf (liftT K (wBin oEq (wVar 0) (wC (.int 0)))) (tCallX (liftSpX K cl 1 S1) W (tCons (tVar 1) tNil)) (tCallX (liftSpX K cl 1 S2) W (tCons (tVar 1) tNil))) (gName 2))
    (ts := fun a cls d => fun D' σ H => ∃ kd, (kd = kn ∨ kd = kp) ∧ cls = cl kd ∧ d = none ∧ σ[3]? = some (some (.ref a)) ∧ σ.length = 5 ∧ ∀ H' v, Hs H H' → D'.nx ((σ.set 4 v).set 2 (some (.str (res kd)))) H')
    rfl rfl hN rfl (lo (y := xe) (by simp)) ⟨gl (y := cs) (by simp), (nm (y := cs) (by simp)).1, .inl hcs⟩ takesF
    (fun W pn xe' tk _ => pss_one (ps_set (X := (cxOf CX0 P w K mg base [xw, xt, xf, xe, xk] qual (defScope st) f cdv A' outer s H E).tr pn xe') (i := 2) (pos := r15) (pos' := r4) hN rfl (.inl (lo (y := xf) (by simp)))
      (pe_ifExp (pos := r14) (t_cmp (X := (cxOf CX0 P w K mg base [xw, xt, xf, xe, xk] qual (defScope st) f cdv A' outer s H E).tr pn xe') (pos := r7) (ok_eq (by have : _ < cLine := hu; show _ < cLine; exact Nat.lt_of_le_of_lt (Nat.add_le_add_left (by decide) _) this)) (q_var (pos := r5) (i := 0) rfl (.inl (lo (y := xw) (by simp))) (nm (y := xw) (by simp)).1 (nm (y := xw) (by simp)).2.1) (q_const (pe_int (j := j1) (pos := r6)) fun _ => rfl) rfl)
        (x_call (X := (cxOf CX0 P w K mg base [xw, xt, xf, xe, xk] qual (defScope st) f cdv A' outer s H E).tr pn xe') (p := r8) (pos := r10) g1 gd hr (gl (y := fx) (by simp)) m1 kk1 bi1 tk (pa_cons (pe_var (X := (cxOf CX0 P w K mg base [xw, xt, xf, xe, xk] qual (defScope st) f cdv A' outer s H E).tr pn xe') (i := 1) (pos := r9) rfl (.inl (lo (y := xt) (by simp))) (nm (y := xt) (by simp)).1 (nm (y := xt) (by simp)).2.1) pa_nil) (nm (y := fx) (by simp)).1 rfl rfl)
        (x_call (X := (cxOf CX0 P w K mg base [xw, xt, xf, xe, xk] qual (defScope st) f cdv A' outer s H E).tr pn xe') (p := r11) (pos := r13) g2 gd hr (gl (y := gx) (by simp)) m2 kk2 bi2 tk (pa_cons (pe_var (X := (cxOf CX0 P w K mg base [xw, xt, xf, xe, xk] qual (defScope st) f cdv A' outer s H E).tr pn xe') (i := 1) (pos := r12) rfl (.inl (lo (y := xt) (by simp))) (nm (y := xt) (by simp)).1 (nm (y := xt) (by simp)).2.1) pa_nil) (nm (y := gx) (by simp)).1 rfl rfl)) rfl (.inl rfl)))
    (fun a oe cls d pn hz hf => ⟨fun pins s1 σ H1 D' I hq => by
      obtain ⟨kd, hkd, ec, ed, hq⟩ := hq
      obtain ⟨De, bA, bB, bC, hcD, hEx, hA, hB, hC, hres⟩ := hE kd hkd
      rw [hcD] at ec
      subst ec ed
      exact (suite2 (X := cxOf CX0 P w K mg base [xw, xt, xf, xe, xk] qual (defScope st) f cdv A' outer s H E) hEx hz hf sun (cn hcD (by simp) hA) (cn hcD (by simp) hB) (cn hcD (by simp) hC) hres hu rfl rfl (.inl (lo (y := xk) (by simp))) (.inl (lo (y := xf) (by simp))) (.inl (lo (y := xk) (by simp)))
        (nm (y := xk) (by simp)).1 (nm (y := xk) (by simp)).2.1 (.inl rfl) (.inl rfl) hl1 hl2).run pins s1 σ H1 D' I hq⟩)
  refine ⟨_, pss_cons st0 (pss_cons st1 (pss_one st2)), ?_⟩
  obtain ⟨i, y, rfl, hs⟩ := hs
  obtain ⟨v0, _, rfl, rv0, v1, _, rfl, rv1, hnil⟩ := ra
  cases (show _ = _ from hnil)
  cases (show _ = _ from rv0)
  refine ⟨[some (.int i), some y, none, none, none], L, fun z L' => z = .bl (decide (i = 0)) ∧ L' = L, ⟨rfl, fun m z e => ?_⟩, rh, ?_, fun z L' H' hz f rr => ?_⟩
  · match m, e with
    | 0, e => cases e; exact ⟨.int i, rfl, rfl⟩
    | 1, e => cases e; exact ⟨v1, rfl, rv1⟩
    | 2, e => cases e
    | 3, e => cases e
    | 4, e => cases e
    | m + 5, e => simp at e
  · walk_at "ev105"
  obtain ⟨rfl, rfl⟩ := hz
  refine ⟨decide (i = 0), rfl, ?_⟩
  by_cases hi : i = 0
  · rw [if_pos hi] at hs
    rw [decide_eq_true hi, if_pos rfl]
    refine ⟨v1, rfl, rfl, [y], L', R, _, ⟨v1, [], rfl, rv1.ex (f.ex rh), rfl⟩, rr, hs, fun z La u H1 hz f1 ru r1 => ⟨u, rfl, kt z La u H1 hz (f.trans f1) ru r1⟩, fun kd' La H1 hq f1 r1 => ?_⟩
    obtain ⟨hkd, hq⟩ := hq
    refine ⟨true, hexm kd' hkd, fun _ a na => ⟨kd', hkd, rfl, rfl, rfl, rfl, fun H2 v hs2 => ⟨_, rfl, ?_⟩⟩, fun z => by cases z⟩
    exact kt _ La _ H2 hq ((f.trans f1).trans hs2.fm) rfl (hs2.rep r1)
  · rw [if_neg hi] at hs
    rw [decide_eq_false hi, if_neg Bool.false_ne_true]
    refine ⟨v1, rfl, rfl, [y], L', R, _, ⟨v1, [], rfl, rv1.ex (f.ex rh), rfl⟩, rr, hs, fun z La u H1 hz f1 ru r1 => ⟨u, rfl, kt z La u H1 hz (f.trans f1) ru r1⟩, fun kd' La H1 hq f1 r1 => ?_⟩
    obtain ⟨hkd, hq⟩ := hq
    refine ⟨true, hexm kd' hkd, fun _ a na => ⟨kd', hkd, rfl, rfl, rfl, rfl, fun H2 v hs2 => ⟨_, rfl, ?_⟩⟩, fun z => by cases z⟩
    exact kt _ La _ H2 hq ((f.trans f1).trans hs2.fm) rfl (hs2.rep r1)
end
end
section
open PySem PySem.Spec PyProof.Rows L2
open TL (tl len_tl ext_tl tl_append tl_mk mk_tl join_eq)
theorem IsI.nd {z : Int} {q : Rat} {B : Int} (h : IsI 65 (65 * B) q) (hB : B ≤ 250) : q.num.natAbs ≤ 16250 ∧ q.den ≤ 65 := by
  obtain ⟨z, h1, h2, h3⟩ := h
  have e : q = (z : Rat) / ((65 : Int) : Rat) := by
    have : ((65 : Int) : Rat) ≠ 0 := by decide
    rw [← h1]; grind
  have hd : (65 : Int) ≠ 0 := by decide
  rw [e, ← Rat.divInt_eq_div, Rat.num_divInt, Rat.den_divInt, if_neg hd]
  refine ⟨?_, Nat.div_le_self _ _⟩
  have e : ((65 : Int).sign * z / ((Int.gcd 65 z : Nat) : Int)).natAbs = ((65 : Int).sign * z).natAbs / Int.gcd 65 z := by
    rw [Int.natAbs_ediv_of_dvd]
    · rfl
    · exact Int.dvd_trans (Int.gcd_dvd_right _ _) (Int.dvd_mul_left _ _)
  rw [e]
  refine Nat.le_trans (Nat.div_le_self _ _) ?_
  rw [Int.natAbs_mul, Int.natAbs_sign_of_ne_zero hd, Nat.one_mul]
  omega
theorem Tl.sI10 {i : Int} (h : i.natAbs < 10 ^ 5) : Tl 6 (Mp.sI i) := by
  refine ⟨fun c hc => by have := sI_signs c hc; omega, ?_⟩
  by_cases h0 : 0 ≤ i
  · obtain ⟨m, rfl⟩ := Int.eq_ofNat_of_zero_le h0
    rw [len_sI]
    exact Nat.le_trans (dg_len (k := 4) (by simpa using h)) (by decide)
  · obtain ⟨m, rfl⟩ : ∃ n : Nat, i = -((n + 1 : Nat) : Int) := ⟨(-i - 1).toNat, by omega⟩
    rw [sI_neg, len_ap', len_sI, show (("-" : Str)).length = 1 by decide +kernel]
    have := dg_len (k := 4) (n := m + 1) (by omega)
    omega
theorem Tl.fr65 {q : Rat} {B : Int} (h : IsI 65 (65 * B) q) (hB : B ≤ 250) : Tl 9 (Mp.frT q) := by
  obtain ⟨h1, h2⟩ := h.nd (z := 0) hB
  have t1 := Tl.sI10 (i := q.num) (Nat.lt_of_le_of_lt h1 (by decide))
  unfold Mp.frT
  split
  · exact t1.mono (by decide)
  · have t2 : Tl 2 (Mp.sI ((q.den : Nat) : Int)) := ⟨fun c hc => by have := sI_signs c hc; omega, by rw [len_sI]; exact dg_len (k := 1) (by omega)⟩
    have t : Tl 1 ("/" : Str) := (Tl.lit (by decide +kernel)).mono (by decide +kernel)
    exact ((t1.app t).app t2)
def Pc65 (B : Int) : Pc → Prop
  | .side t => P65 B t
  | .arc m t _ => P65 B m ∧ P65 B t
theorem mv_65 {m : Mv} {b : Vc} {B : Int} (h : MvOk m) (hb : P65 B b) (h0 : 0 ≤ B) (h1 : B ≤ 230) : Pc65 (B + 12) (mvP b m) := by
  have hto := (mv_ok h hb h0 h1).2.1
  cases m with
  | side u t => exact hto
  | arc u o r lf =>
    obtain ⟨hu, ho, hne, r0, r6⟩ := h
    have q1 : P65 (B + 6) (vsub b (vscl u (r : Rat))) := by rw [off_on]; exact hb.on hu.neg (by omega) r6
    exact ⟨q1.mono (by omega), hto⟩
theorem Pc65.mono {B C : Int} {q : Pc} (h : Pc65 B q) (k : B ≤ C) : Pc65 C q := by
  cases q with
  | side t => exact P65.mono h k
  | arc m t lf => exact ⟨P65.mono h.1 k, P65.mono h.2 k⟩
theorem mvs_65 : ∀ {ms : List Mv} {b : Vc} {B : Int}, (∀ m ∈ ms, MvOk m) → P65 B b → 0 ≤ B → B + 12 * (ms.length : Int) ≤ 230 → ∀ q ∈ mvPs b ms, Pc65 230 q
  | [], _, _, _, _, _, _, q, hq => by cases hq
  | m :: r, b, B, hm, hb, h0, h1, q, hq => by
    have h1' : B + 12 * ((r.length : Int) + 1) ≤ 230 := by rw [List.length_cons] at h1; omega
    rcases List.mem_cons.mp hq with rfl | hq
    · exact (mv_65 (hm m (by simp)) hb h0 (by omega)).mono (by omega)
    · exact mvs_65 (fun x hx => hm x (List.mem_cons_of_mem _ hx)) (mv_ok (hm m (by simp)) hb h0 (by omega)).2.1 (by omega) (by omega) q hq
theorem pcW_65 {q : Pc} (h : Pc65 230 q) : ∀ w ∈ pcW q, Tl 9 w := by
  have lit : ∀ {z : Str}, z.cps.all (· < 128) = true → z.length ≤ 9 → Tl 9 z := fun h1 h2 => (Tl.lit h1).mono h2
  intro w hw
  cases q with
  | side t =>
    simp only [pcW, List.mem_cons, List.not_mem_nil, or_false] at hw
    rcases hw with rfl | rfl | rfl
    · exact lit (by decide +kernel) (by decide +kernel)
    · exact Tl.fr65 h.1 (by decide)
    · exact Tl.fr65 h.2 (by decide)
  | arc m t lf =>
    simp only [pcW, List.mem_cons, List.not_mem_nil, or_false] at hw
    rcases hw with rfl | rfl | rfl | rfl | rfl | rfl
    · exact lit (by decide +kernel) (by decide +kernel)
    · cases lf <;> exact lit (by decide +kernel) (by decide +kernel)
    · exact Tl.fr65 h.1.1 (by decide)
    · exact Tl.fr65 h.1.2 (by decide)
    · exact Tl.fr65 h.2.1 (by decide)
    · exact Tl.fr65 h.2.2 (by decide)
theorem pthW_65 {p : Pth} (h1 : P65 4 p.1) (h2 : ∀ q ∈ p.2, Pc65 230 q) : ∀ w ∈ pthW p, Tl 9 w := by
  intro w hw
  unfold pthW at hw
  rcases List.mem_append.mp hw with hw | hw
  · simp only [List.mem_cons, List.not_mem_nil, or_false] at hw
    rcases hw with rfl | rfl | rfl
    · exact (Tl.lit (by decide +kernel)).mono (by decide +kernel)
    · exact Tl.fr65 h1.1 (by decide)
    · exact Tl.fr65 h1.2 (by decide)
  · obtain ⟨l, hl, hw⟩ := List.mem_flatten.mp hw
    obtain ⟨q, hq, rfl⟩ := List.mem_map.mp hl
    exact pcW_65 (h2 q hq) w hw
theorem pcW_len6 {q : Pc} : (pcW q).length ≤ 6 := by
  cases q with
  | side t => exact (by decide : 3 ≤ 6)
  | arc m t lf => exact Nat.le_refl 6
theorem flat_len (ps : List Pc) : 3 * ps.length ≤ ((ps.map pcW).flatten).length ∧ ((ps.map pcW).flatten).length ≤ 6 * ps.length := by
  induction ps with
  | nil => exact ⟨Nat.zero_le _, Nat.zero_le _⟩
  | cons q r ih =>
    rw [List.map_cons, List.flatten_cons, List.length_append, List.length_cons]
    have h1 := pcW_ne' (q := q)
    have h2 := pcW_len6 (q := q)
    omega
theorem sL_le {ws : List Str} {k : Nat} (h : ∀ w ∈ ws, w.length ≤ k) : sL ws ≤ ws.length * (k + 1) := by
  induction ws with
  | nil => exact Nat.zero_le _
  | cons a r ih =>
    have h1 := h a (by simp)
    have h2 := ih fun w hw => h w (List.mem_cons_of_mem _ hw)
    unfold sL at *
    rw [List.map_cons, List.sum_cons, List.length_cons, Nat.succ_mul]
    omega
theorem pthT_65 {p : Pth} (h1 : P65 4 p.1) (h2 : ∀ q ∈ p.2, Pc65 230 q) (hl : p.2.length ≤ 6) : Tl 390 (pthT p) := by
  have hw := pthW_65 h1 h2
  rw [pthT_join]
  refine Tl.join (fun w h => (hw w h).lo) ?_
  have := sL_le (k := 9) fun w h => (hw w h).ln
  have hf := (flat_len p.2).2
  have hlen : (pthW p).length = 3 + ((p.2.map pcW).flatten).length := by unfold pthW; rw [List.length_append]; rfl
  rw [hlen] at this
  have : (3 + ((p.2.map pcW).flatten).length) * 10 ≤ 39 * 10 := Nat.mul_le_mul_right _ (by omega)
  omega
theorem frO_cases (z : Str) : (frR z = none ∧ frO z = .non) ∨ ∃ q, frR z = some q ∧ frO z = fr q := by
  unfold frO
  cases frR z with
  | none => exact .inl ⟨rfl, rfl⟩
  | some q => exact .inr ⟨q, rfl, rfl⟩
theorem ok_fraction_from : ∀ args L R EX, args.length = 1 → s_fraction_from args L R EX → zRai (sAsg (gN 1) (wCall s_fraction_in [wVar 0])) (wBin oIs (wVar 1) (wC .non)) (wVar 1) 0 2 args L R EX := by
  rintro _ L R EX _ ⟨z, rfl, hz, h1, h2⟩
  unfold zRai
  show sAsg _ _ [some (.str z), none] L _
  walk_at "ev105"
  refine ⟨z, rfl, hz, ?_⟩
  rcases frO_cases z with ⟨e1, e2⟩ | ⟨q, e1, e2⟩
  · rw [e2]
    walk_at "ev105"
    exact h2 e1
  · rw [e2]
    walk_at "ev105"
    exact h1 q e1
theorem Tl.sI {i : Int} {b : Nat} (hb : 0 < b) (h : i.natAbs < 2 ^ b) : Tl (b + 1) (Mp.sI i) := ⟨fun c hc => by have := sI_signs c hc; omega, len_le_sI hb h⟩
theorem Tl.frT {q : Rat} {b : Nat} (hb : 0 < b) (h : Sz b q) : Tl (2 * b + 3) (Mp.frT q) := by
  have h1 := Tl.sI hb h.1
  have h2 := Tl.sI (i := ((q.den : Nat) : Int)) hb (by rw [Int.natAbs_natCast]; exact h.2)
  unfold Mp.frT
  split
  · exact h1.mono (by omega)
  · have t : Tl 1 ("/" : Str) := (Tl.lit (by decide +kernel)).mono (by decide +kernel)
    exact ((h1.app t).app h2).mono (by omega)
theorem frR_sp {z : Str} (h : 32 ∈ tl z) : frR z = none := frR_no fun q hq => frT_sp (q := q) (by rw [← hq.1]; exact h)
theorem pthT_f {p : Pth} : 102 ∈ tl (pthT p) ∧ 32 ∈ tl (pthT p) := by
  have h : ∀ c ∈ tl ("from " : Str), c ∈ tl (pthT p) := by
    intro c hc
    have e : tl (pthT p) = tl ("from " : Str) ++ (tl (pthT p)).drop 5 := by
      have k : ∃ r, tl (pthT p) = tl ("from " : Str) ++ r := by
        rw [tl_pthT]
        cases p.2 with
        | nil => exact ⟨tl (ptT p.1), by simp [TL.joinL, tl_append]⟩
        | cons q r => exact ⟨_, by rw [List.map_cons, List.map_cons, List.map_cons, TL.joinL, tl_append, List.append_assoc]⟩
      obtain ⟨r, hr⟩ := k
      rw [hr]
      have hl : (tl ("from " : Str)).length = 5 := by decide +kernel
      rw [List.drop_append_of_le_length (by omega), ← hl, List.drop_length]
      rfl
    rw [e]
    exact List.mem_append_left _ hc
  exact ⟨h 102 (by decide +kernel), h 32 (by decide +kernel)⟩
theorem pthR_nf {z : Str} (h : 102 ∉ tl z) : pthR z = none := pthR_no fun p hp => h (by rw [hp.1.1]; exact pthT_f.1)
theorem frT_f {q : Rat} : 102 ∉ tl (frT q) := fun z => by have := frT_signs 102 z; omega
theorem sI_neT (i : Int) : tl (sI i) ≠ [] := by
  have h0 : ∀ n : Nat, tl (sI ((n : Nat) : Int)) ≠ [] := fun n h => by
    have := len_sI1 (n := n)
    rw [len_tl, h] at this
    simp at this
  cases i with
  | ofNat n => exact h0 n
  | negSucc m =>
    show tl (sI (-((m + 1 : Nat) : Int))) ≠ []
    rw [sI_neg, tl_append]
    exact fun h => h0 _ (List.append_eq_nil_iff.mp h).2
theorem frT_ne (q : Rat) : tl (frT q) ≠ [] := by
  unfold frT
  split
  · exact sI_neT _
  · rw [tl_append, tl_append]
    exact fun h => sI_neT q.num (List.append_eq_nil_iff.mp (List.append_eq_nil_iff.mp h).1).1
theorem pthR_end {z : Str} (h : (tl z).getLast? = some 32) : pthR z = none := pthR_no fun p hp => by
  have hne := hp.2.1
  obtain ⟨ps, q, hq⟩ : ∃ ps q, p.2 = ps ++ [q] := ⟨_, _, (List.dropLast_concat_getLast hne).symm⟩
  have e : pthT p = pthT (p.1, ps) ++ (" " : Str) ++ pcT q := by
    rw [← pthT_snoc, ← hq]
  have k : ∃ A w, tl z = A ++ tl (frT w) := by
    rw [hp.1.1, e]
    cases q with
    | side t => exact ⟨_, t.2, by show tl (_ ++ _ ++ (("side " : Str) ++ (frT t.1 ++ (" " : Str) ++ frT t.2))) = _; simp only [tl_append]; rw [← List.append_assoc, ← List.append_assoc, ← List.append_assoc]⟩
    | arc m t lf => exact ⟨_, t.2, by show tl (_ ++ _ ++ (("arc " : Str) ++ trn lf ++ (" " : Str) ++ ptT m ++ (" " : Str) ++ (frT t.1 ++ (" " : Str) ++ frT t.2))) = _; simp only [tl_append]; rw [← List.append_assoc, ← List.append_assoc, ← List.append_assoc]⟩
  obtain ⟨A, w, ew⟩ := k
  rw [ew, List.getLast?_append] at h
  have hw := frT_ne w
  obtain ⟨c, hc⟩ : ∃ c, (tl (frT w)).getLast? = some c := ⟨_, List.getLast?_eq_some_getLast hw⟩
  rw [hc] at h
  cases h
  exact frT_sp (List.mem_of_getLast? hc)
end
section
open PySem PySem.Spec PyProof.Rows L2
open TL (tl len_tl ext_tl tl_append tl_mk mk_tl join_eq)
def sq_fraction_by : Spec := fun args L R => ∃ (b : Addr) (n : Int), args = [.ref b] ∧ Bx b n L ∧ n < 1152921504606840000 ∧ ∀ q L', Sz 14 q → Bx b (n + 6) L' → LeB b L L' → R (fr q) L'
def q_fraction_by_4 : WS := sRet (wCall sq_lowest [wBin oMul (wVar 2) (wCall sl_take [wVar 0, wC (.int 10000)]), wBin oAdd (wC (.int 1)) (wCall sl_take [wVar 0, wBin oIx (wLst [wC (.int 65), wC (.int 999)]) (wBin oSub (wVar 1) (wC (.int 4)))])])
def q_fraction_by_3a_0 : WS := sRet (wCall sq_lowest [wBin oMul (wVar 2) (wC (.int 9999)), wBin oSub (wC (.int 999)) (wCall sl_take [wVar 0, wC (.int 3)])])
def q_fraction_by_3 : WS := sSeq (sIf (wBin oEq (wVar 1) (wC (.int 3))) q_fraction_by_3a_0 sNil) q_fraction_by_4
def q_fraction_by_2a_0 : WS := sRet (wCall sq_lowest [wBin oMul (wVar 2) (wCall sl_take [wVar 0, wC (.int 20)]), wBin oAdd (wC (.int 1)) (wCall sl_take [wVar 0, wC (.int 12)])])
def q_fraction_by_2 : WS := sSeq (sIf (wBin oEq (wVar 1) (wC (.int 2))) q_fraction_by_2a_0 sNil) q_fraction_by_3
def q_fraction_by_1a_0 : WS := sRet (wTup [wBin oMul (wBin oMul (wVar 2) (wCall sl_take [wVar 0, wC (.int 12)])) (wVar 1), wC (.int 1)])
def q_fraction_by_1 : WS := sSeq (sIf (wBin oLt (wVar 1) (wC (.int 2))) q_fraction_by_1a_0 sNil) q_fraction_by_2
def q_fraction_by_0 : WS := sSeq (sPar [1, 2] [wCall sl_take [wVar 0, wC (.int 6)], wBin oSub (wC (.int 1)) (wBin oMul (wC (.int 2)) (wCall sl_take [wVar 0, wC (.int 2)]))]) q_fraction_by_1
theorem ok_q_fraction_by : ∀ args L R, args.length = 1 → sq_fraction_by args L R → q_fraction_by_0 (initE 3 args) L { nx := fun _ L' => R .non L', rt := R } := by
  rintro _ L R _ ⟨b, n, rfl, hb, hn, h⟩
  unfold q_fraction_by_0
  show sSeq _ _ [some (.ref b), none, none] L _
  walk_at "ev105"
  refine ⟨b, 6, n, rfl, hb, by omega, by decide, denS (by decide), fun w L1 w0 w1 b1 l1 => ⟨b, 2, _, rfl, b1, by omega, by decide, denS (by decide), fun r L2 r0 r1 b2 l2 => ⟨mulL (by decide), ?_⟩⟩⟩
  walk_at "ev105"
  have l2 := l1.trans l2
  have hh := hand_rng r0 r1
  generalize hhd : 1 - 2 * r = hd at *
  unfold q_fraction_by_1 q_fraction_by_1a_0
  walk_at "ev105"
  split
  · refine ⟨b, 12, _, rfl, b2, by omega, by decide, denS (by decide), fun s L3 s0 s1 b3 l3 => ⟨mulL (by omega), mulL (by rcases hh with rfl | rfl <;> omega), ?_⟩⟩
    walk_at "ev105"
    rw [fr_int]
    refine h _ _ (Sz.int ?_ (by decide)) (b3.mono (by omega)) (l2.trans l3)
    show _ < 16384
    have e1 := hand_abs (c := 12) hh s0 (by omega)
    have e2 : w = 0 ∨ w = 1 := by omega
    rcases e2 with rfl | rfl <;> omega
  unfold q_fraction_by_2 q_fraction_by_2a_0
  walk_at "ev105"
  split
  · refine ⟨b, 20, _, rfl, b2, by omega, by decide, denS (by decide), fun s L3 s0 s1 b3 l3 => ⟨mulL (by omega), b, 12, _, rfl, b3, by omega, by decide, denS (by decide), fun t L4 t0 t1 b4 l4 => ⟨_, _, rfl, by omega, denS ?_, ?_⟩⟩⟩
    · have : (2 : Nat) ^ 64 = 18446744073709551616 := by decide
      omega
    · exact h _ _ (szd (by omega) (by have := hand_abs (c := 20) hh s0 (by omega); omega) (by omega)) (b4.mono (by omega)) ((l2.trans l3).trans l4)
  unfold q_fraction_by_3 q_fraction_by_3a_0
  walk_at "ev105"
  split
  · refine ⟨mulR (by decide), b, 3, _, rfl, b2, by omega, by decide, denS (by decide), fun t L4 t0 t1 b4 l4 => ⟨_, _, rfl, by omega, denS ?_, ?_⟩⟩
    · have : (2 : Nat) ^ 64 = 18446744073709551616 := by decide
      omega
    · exact h _ _ (szd (by omega) (by rcases hh with rfl | rfl <;> omega) (by omega)) (b4.mono (by omega)) (l2.trans l4)
  unfold q_fraction_by_4
  walk_at "ev105"
  refine ⟨b, 10000, _, rfl, b2, by omega, by decide, denS (by decide), fun s L3 s0 s1 b3 l3 => ⟨mulL (by omega), fun p hp => ?_⟩⟩
  have b3' := b3.new (o := .l [.int 65, .int 999]) hp
  have l3' := (l2.trans l3).le (o := .l [.int 65, .int 999]) hp
  walk_at "ev105"
  have hw : w - 4 = 0 ∨ w - 4 = 1 := by omega
  have fin : ∀ m : Int, 0 < m → m ≤ 999 → sl_take [.ref b, .int m] (put L3 p (.l [.int 65, .int 999])) fun x La => sl_lowest [.int (hd * s), .int (1 + match x with | .int i => i | _ => 0)] La R := fun m m0 m1 => by
    refine ⟨b, m, _, rfl, b3', by omega, m0, denS ?_, fun t L4 t0 t1 b4 l4 => ⟨_, _, rfl, ?_, denS ?_, ?_⟩⟩
    · have : (2 : Nat) ^ 64 = 18446744073709551616 := by decide
      omega
    · show (1 : Int) + t ≠ 0
      omega
    · have : (2 : Nat) ^ 64 = 18446744073709551616 := by decide
      show ((1 : Int) + t).natAbs < _
      omega
    · refine h _ _ (szd ?_ (by have := hand_abs (c := 10000) hh s0 (by omega); omega) ?_) (b4.mono (by omega)) (l3'.trans l4)
      · show (1 : Int) + t ≠ 0
        omega
      · show ((1 : Int) + t).natAbs < _
        omega
  have conv : ∀ m : Int, 0 < m → m ≤ 999 → sl_take [.ref b, .int m] (put L3 p (.l [.int 65, .int 999])) fun x La => oAdd (.int 1) x La fun x La => sl_lowest [.int (hd * s), x] La R := fun m m0 m1 => by
    obtain ⟨b', m', n', e, q1, q2, q3, q4, q5⟩ := fin m m0 m1
    cases e
    exact ⟨b, m, n', rfl, q1, q2, q3, q4, fun r L' a1 a2 a3 a4 => q5 r L' a1 a2 a3 a4⟩
  rcases hw with hw | hw
  · rw [hw, ixl0 put_same]
    exact conv 65 (by decide) (by decide)
  · rw [hw, ixl1 put_same]
    exact conv 999 (by decide) (by decide)
def s_path_from1 : SpecX := fun args L R E => ∃ z, args = [.str z] ∧ Tl 1000 z ∧ (∀ p, pthR z = some p → ∀ L', Le L L' → R (pth p) L') ∧ (pthR z = none → ∀ L', Le L L' → E 1 L')
theorem ok_path_from1 : ∀ args L R EX, args.length = 1 → s_path_from1 args L R EX → zRai (sAsg (gN 1) (wCall s_path_in [wVar 0])) (wUn oNot (wCall s_is_path [wVar 1])) (wVar 1) 1 2 args L R EX := by
  intro args L R EX hl h
  exact ok_path_from args L R (fun _ => EX 1) hl h
def rsk (k : Nat) : Str := if k = 0 then "number" else "path"
def sq_asked : Spec := sAsk s_fraction_from s_path_from1 rsk 0 1
/-- what is told of an ask -/
inductive Due where
  | fq (q : Rat) | pp (p : Pth) | sz (z : Str)
def Due.v : Due → PV
  | .fq q => fr q | .pp p => pth p | .sz z => .str z
def Due.t : Due → Str
  | .fq q => (ratD q).shown | .pp p => pthS p | .sz z => z
def Due.ok : Due → Prop
  | .fq q => Sz 14 q | .pp p => PSz 14 p ∧ p.2.length ≤ 12 | .sz z => z = "number" ∨ z = "path"
theorem due_str {d : Due} {L : Sto} {R : PK} (h : d.ok) (k : R (.str d.t) L) : gStr [d.v] L R := by
  cases d with
  | fq q =>
    have q' := shw_rat h
    exact .inr ⟨_, PD.rat, q'.sh, q'.nd, Nat.le_trans q'.dp (by decide), Nat.le_trans q'.ln (by decide), k⟩
  | pp p => exact str_pth h.1 h.2 k
  | sz z => exact k
theorem wd_sh {z : Str} (h : z = "number" ∨ z = "path") : SeqAt.shaped (.str z) = true := by rcases h with rfl | rfl <;> decide +kernel
theorem due_sh {d : Due} (h : d.ok) : SeqAt.shaped (.str d.t) = true := by
  cases d with
  | fq q =>
    have q' := shw_rat h
    exact shp q'.ok (by show 0 ≤ 64; decide)
  | pp p => exact sh_pthS h.1 h.2
  | sz z => exact wd_sh h
theorem ne_str {z : Str} {L : Sto} {R : PK} (h : SeqAt.shaped (.str z) = true) (k : R (.bl false) L) : oNe (.str z) (.str z) L R := by
  rw [oNe_sS h h, beq_self_eq_true]
  exact k
theorem lay_pcsY : ∀ ps : List Pc, PyData.canLayAll0 (ps.map pcD) = true
  | [] => rfl
  | .side _ :: r => by
    show ((PyData.strOk "side" && (true && true)) && PyData.canLayAll0 (r.map pcD)) = true
    rw [lay_pcsY r]; decide +kernel
  | .arc _ _ lf :: r => by
    show ((PyData.strOk "arc" && (true && (true && (PyData.strOk (trn lf) && true)))) && PyData.canLayAll0 (r.map pcD)) = true
    rw [lay_pcsY r]; cases lf <;> decide +kernel
theorem lay_pthY (p : Pth) : (pthD p).canLay0 = true := by
  show (true && (PyData.canLayAll0 (p.2.map pcD) && true)) = true
  rw [lay_pcsY]; rfl
theorem dep_pcsY : ∀ ps : List Pc, PyData.depthAll (ps.map pcD) ≤ 3
  | [] => Nat.zero_le _
  | q :: r => by
    show max (pcD q).depth (PyData.depthAll (r.map pcD)) ≤ 3
    have h1 := dep_pcsY r
    have h2 : (pcD q).depth ≤ 3 := by cases q <;> exact Nat.le_refl 3
    omega
theorem dep_pthY (p : Pth) : (pthD p).depth ≤ 5 := by
  show max (vcD p.1).depth (max (PyData.depthAll (p.2.map pcD) + 1) 0) + 1 ≤ 5
  have h1 := dep_pcsY p.2
  have h2 : (vcD p.1).depth ≤ 3 := show (2 : Nat) ≤ 3 by decide
  omega
theorem due_ne {d : Due} {L : Sto} {R : PK} (h : d.ok) (k : R (.bl false) L) : oNe d.v d.v L R := by
  cases d with
  | fq q => rw [show Due.v (.fq q) = fr q from rfl, oNe_ff, decide_eq_true rfl]; exact k
  | pp p =>
    have sh : SeqAt.shaped (pthD p) = true := shp (lay_pthY p) (Nat.le_trans (dep_pthY p) (by decide))
    refine ⟨pthD p, pthD p, PD.pth, PD.pth, sh, sh, ?_⟩
    rw [SeqAt.eqv_refl _ (lay_pthY p)]
    exact k
  | sz z => exact ne_str (wd_sh h) k
structure PG (p : Pth) : Prop where
  ok : PathOk p
  sz : PSz 14 p
  tl : Tl 390 (pthT p)
  inn : PthIn (pthT p) p
section
variable (q0 q1 : Rat) (p0 p1 : Pth)
def dueAt (w a : Nat) : Due := if w = 0 then (match a with | 0 => .fq q0 | 1 => .fq q1 | _ => .sz "number") else (match a with | 2 => .pp p0 | 3 => .pp p1 | _ => .sz "path")
def zAt (a : Nat) : Str := match a with
  | 0 => frT q0 | 1 => frT q1 | 2 => pthT p0 | 3 => pthT p1 | 4 => frT q0 ++ (" " : Str) | 5 => frT q1 ++ (" " : Str) | 6 => pthT p0 ++ (" " : Str) | _ => pthT p1 ++ (" " : Str)
end
section
variable {q0 q1 : Rat} {p0 p1 : Pth} {L : Sto} {R : PK}
theorem due_ok (h0 : Sz 14 q0) (h1 : Sz 14 q1) (g0 : PG p0) (g1 : PG p1) (w a : Nat) : (dueAt q0 q1 p0 p1 w a).ok := by
  unfold dueAt
  split
  · split
    · exact h0
    · exact h1
    · exact .inl rfl
  · split
    · exact ⟨g0.sz, g0.ok.ln⟩
    · exact ⟨g1.sz, g1.ok.ln⟩
    · exact .inr rfl
theorem fr_is {q : Rat} (h : Sz 14 q) : frR (frT q) = some q := by
  have p14 : 2 ^ 14 < 10 ^ 60 := by decide
  exact frR_of ⟨rfl, Nat.lt_trans h.1 p14, Nat.lt_trans h.2 p14⟩
theorem pth_is {p : Pth} (h : PG p) : pthR (pthT p) = some p := pthR_of ⟨h.inn, h.ok.ne, h.ok.ok⟩
theorem sp_in (z : Str) : 32 ∈ tl (z ++ (" " : Str)) := by
  rw [tl_append]
  exact List.mem_append_right _ (by decide +kernel)
theorem sp_end (z : Str) : (tl (z ++ (" " : Str))).getLast? = some 32 := by
  rw [tl_append, show tl (" " : Str) = [32] by decide +kernel, List.getLast?_concat]
theorem fr_nf (q : Rat) : 102 ∉ tl (frT q ++ (" " : Str)) := by
  rw [tl_append]
  intro h
  rcases List.mem_append.mp h with h | h
  · exact frT_f h
  · exact absurd h (by decide +kernel)
theorem z_tl (h0 : Sz 14 q0) (h1 : Sz 14 q1) (g0 : PG p0) (g1 : PG p1) (a : Nat) : Tl 400 (zAt q0 q1 p0 p1 a) := by
  have sp : Tl 1 (" " : Str) := (Tl.lit (by decide +kernel)).mono (by decide +kernel)
  have f0 := Tl.frT (b := 14) (by decide) h0
  have f1 := Tl.frT (b := 14) (by decide) h1
  unfold zAt
  split
  · exact f0.mono (by decide)
  · exact f1.mono (by decide)
  · exact g0.tl.mono (by decide)
  · exact g1.tl.mono (by decide)
  · exact (f0.app sp).mono (by decide)
  · exact (f1.app sp).mono (by decide)
  · exact (g0.tl.app sp).mono (by decide)
  · exact (g1.tl.app sp).mono (by decide)
theorem ask_fr {z : Str} {q : Rat} (hz : Tl 400 z) (h : frR z = some q) (k : R (fr q) L) : sq_asked [.int 0, .str z] L R :=
  ⟨0, _, rfl, by rw [if_pos rfl]; exact ⟨z, rfl, hz.tx (by decide), fun q' hq => by rw [h] at hq; cases hq; exact k, fun hn => by rw [h] at hn; cases hn⟩⟩
theorem ask_fn {z : Str} (hz : Tl 400 z) (h : frR z = none) (k : R (.str "number") L) : sq_asked [.int 0, .str z] L R :=
  ⟨0, _, rfl, by rw [if_pos rfl]; exact ⟨z, rfl, hz.tx (by decide), fun q' hq => by rw [h] at hq; (cases hq), fun _ => ⟨.inl rfl, k⟩⟩⟩
theorem ask_pr {z : Str} {p : Pth} (hz : Tl 400 z) (h : pthR z = some p) (k : ∀ L', Le L L' → R (pth p) L') : sq_asked [.int 1, .str z] L R :=
  ⟨1, _, rfl, by rw [if_neg (by decide)]; exact ⟨z, rfl, hz.mono (by decide), fun q' hq => by rw [h] at hq; cases hq; exact k, fun hn => by rw [h] at hn; cases hn⟩⟩
theorem ask_pn {z : Str} (hz : Tl 400 z) (h : pthR z = none) (k : ∀ L', Le L L' → R (.str "path") L') : sq_asked [.int 1, .str z] L R :=
  ⟨1, _, rfl, by rw [if_neg (by decide)]; exact ⟨z, rfl, hz.mono (by decide), fun q' hq => by rw [h] at hq; (cases hq), fun _ L' l => ⟨.inr rfl, k L' l⟩⟩⟩
theorem ask_ok (h0 : Sz 14 q0) (h1 : Sz 14 q1) (g0 : PG p0) (g1 : PG p1) {w a : Nat} (hw : w < 2) (ha : a < 8) (h : ∀ L', Le L L' → R (dueAt q0 q1 p0 p1 w a).v L') : sq_asked [.int (w : Nat), .str (zAt q0 q1 p0 p1 a)] L R := by
  have hz := z_tl h0 h1 g0 g1 a
  match w, hw with
  | 0, _ =>
    have h := h L .refl
    match a, ha with
    | 0, _ => exact ask_fr hz (fr_is h0) h
    | 1, _ => exact ask_fr hz (fr_is h1) h
    | 2, _ => exact ask_fn hz (frR_sp pthT_f.2) h
    | 3, _ => exact ask_fn hz (frR_sp pthT_f.2) h
    | 4, _ => exact ask_fn hz (frR_sp (sp_in _)) h
    | 5, _ => exact ask_fn hz (frR_sp (sp_in _)) h
    | 6, _ => exact ask_fn hz (frR_sp (sp_in _)) h
    | 7, _ => exact ask_fn hz (frR_sp (sp_in _)) h
  | 1, _ =>
    match a, ha with
    | 0, _ => exact ask_pn hz (pthR_nf frT_f) h
    | 1, _ => exact ask_pn hz (pthR_nf frT_f) h
    | 2, _ => exact ask_pr hz (pth_is g0) h
    | 3, _ => exact ask_pr hz (pth_is g1) h
    | 4, _ => exact ask_pn hz (pthR_nf (fr_nf _)) h
    | 5, _ => exact ask_pn hz (pthR_nf (fr_nf _)) h
    | 6, _ => exact ask_pn hz (pthR_end (sp_end _)) h
    | 7, _ => exact ask_pn hz (pthR_end (sp_end _)) h
end
def sl_law : Spec := fun args L R => ∃ ns : List Int, args = [.fz ns] ∧ ∀ L', R (.bl true) L'
def l_law_2 : WS := sRet (wC (.bl true))
def l_law_1f_6f_4a_1a_0 : WS := sRet (wC (.bl false))
def l_law_1f_6f_4a_1 : WS := sIf (wBin oNe (wVar 13) (wBin oIx (wVar 6) (wVar 10))) l_law_1f_6f_4a_1a_0 sNil
def l_law_1f_6f_4a_0 : WS := sSeq (sAsg (gN 13) (wIfE (wBin oEq (wVar 9) (wC (.int 0))) (wCall s_fraction_text [wVar 11]) (wCall s_path_text [wVar 11]))) l_law_1f_6f_4a_1
def l_law_1f_6f_4 : WS := sIf (wBi gIsi [wVar 11, wC (.ty "tuple")]) l_law_1f_6f_4a_0 sNil
def l_law_1f_6f_3a_0 : WS := sRet (wC (.bl false))
def l_law_1f_6f_3 : WS := sSeq (sIf (wOr (wBin oNe (wVar 11) (wVar 12)) (wBin oNe (wSetd (wVar 7) [wVar 9, wVar 10] (wBi gStr [wVar 11])) (wBi gStr [wVar 11]))) l_law_1f_6f_3a_0 sNil) l_law_1f_6f_4
def l_law_1f_6f_2 : WS := sSeq (sAsg (gN 12) (wIfE (wAnd (wBin oLt (wVar 10) (wC (.int 4))) (wBin oEq (wVar 9) (wBin oDiv (wVar 10) (wC (.int 2))))) (wBin oIx (wBin oAdd (wVar 5) (wVar 4)) (wVar 10)) (wBin oIx (wLst [wC (.str "number"), wC (.str "path")]) (wVar 9)))) l_law_1f_6f_3
def l_law_1f_6f_1 : WS := sSeq (sAsg (gN 11) (wCall sq_asked [wVar 9, wBin oIx (wVar 6) (wVar 10)])) l_law_1f_6f_2
def l_law_1f_6f_0 : WS := sSeq (sPar [9, 10] [wCall sl_take [wVar 3, wC (.int 2)], wCall sl_take [wVar 3, wC (.int 8)]]) l_law_1f_6f_1
def l_law_1f_6 : WS := sFor (iR1 (wC (.int 12))) (gN 8) l_law_1f_6f_0
def l_law_1f_5 : WS := sSeq (sAsg (gN 7) (wDisp [])) l_law_1f_6
def l_law_1f_4 : WS := sSeq (sAsg (gN 6) (wBin oAdd (wVar 6) (wComp [15] (iAny (wVar 6)) (gN 15) (wC (.bl true)) (wBin oAdd (wVar 15) (wC (.str " ")))))) l_law_1f_5
def l_law_1f_3 : WS := sSeq (sAsg (gN 6) (wBin oAdd (wComp [14] (iAny (wVar 5)) (gN 14) (wC (.bl true)) (wCall s_fraction_text [wVar 14])) (wComp [14] (iAny (wVar 4)) (gN 14) (wC (.bl true)) (wCall s_path_text [wVar 14])))) l_law_1f_4
def l_law_1f_2 : WS := sSeq (sAsg (gN 5) (wComp [8] (iR1 (wC (.int 2))) (gN 8) (wC (.bl true)) (wCall sq_fraction_by [wVar 3]))) l_law_1f_3
def l_law_1f_1 : WS := sSeq (sAsg (gN 4) (wComp [8] (iR1 (wC (.int 2))) (gN 8) (wC (.bl true)) (wCall sq_path_by [wVar 3, wC (.int 3)]))) l_law_1f_2
def l_law_1f_0 : WS := sSeq (sAsg (gN 3) (wCall sl_box_of [wVar 1, wVar 2])) l_law_1f_1
def l_law_1 : WS := sSeq (sFor (iR1 (wBi gLen [wVar 1])) (gN 2) l_law_1f_0) l_law_2
def l_law_0 : WS := sSeq (sAsg (gN 1) (wCall sl_folded [wVar 0, wC (.int 3)])) l_law_1
theorem due_kind {q0 q1 : Rat} {p0 p1 : Pth} (h0 : Sz 14 q0) (h1 : Sz 14 q1) (g0 : PG p0) (g1 : PG p1) {w a : Nat} (hw : w < 2) (ha : a < 8) : (∃ q, dueAt q0 q1 p0 p1 w a = .fq q ∧ w = 0 ∧ zAt q0 q1 p0 p1 a = frT q ∧ Sz 14 q) ∨ (∃ p, dueAt q0 q1 p0 p1 w a = .pp p ∧ w = 1 ∧ zAt q0 q1 p0 p1 a = pthT p ∧ PG p) ∨ ∃ z, dueAt q0 q1 p0 p1 w a = .sz z := by
  match w, hw with
  | 0, _ =>
    match a, ha with
    | 0, _ => exact .inl ⟨q0, rfl, rfl, rfl, h0⟩
    | 1, _ => exact .inl ⟨q1, rfl, rfl, rfl, h1⟩
    | 2, _ | 3, _ | 4, _ | 5, _ | 6, _ | 7, _ => exact .inr (.inr ⟨_, rfl⟩)
  | 1, _ =>
    match a, ha with
    | 2, _ => exact .inr (.inl ⟨p0, rfl, rfl, rfl, g0⟩)
    | 3, _ => exact .inr (.inl ⟨p1, rfl, rfl, rfl, g1⟩)
    | 0, _ | 1, _ | 4, _ | 5, _ | 6, _ | 7, _ => exact .inr (.inr ⟨_, rfl⟩)
def Jk (c a4 a5 a10 : Addr) (ms : List Int) (q0 q1 : Rat) (p0 p1 : Pth) (l : Sto) : Prop := l c = some (.l (ms.map PV.int)) ∧ l a4 = some (.l ([p0, p1].map pth)) ∧ l a5 = some (.l ([q0, q1].map fr)) ∧ l a10 = some (.l ((List.range 8).map fun a => .str (zAt q0 q1 p0 p1 a)))
def Nb (b d c a4 a5 a10 : Addr) : Prop := d ≠ b ∧ c ≠ b ∧ a4 ≠ b ∧ a5 ≠ b ∧ a10 ≠ b ∧ c ≠ d ∧ a4 ≠ d ∧ a5 ≠ d ∧ a10 ≠ d
section
variable {b d c a4 a5 a10 : Addr} {ms : List Int} {q0 q1 : Rat} {p0 p1 : Pth} {l l' : Sto} {kvs : List (List Key × PV)}
theorem Jk.le (h : Jk c a4 a5 a10 ms q0 q1 p0 p1 l) (k : Le l l') : Jk c a4 a5 a10 ms q0 q1 p0 p1 l' := ⟨k _ _ h.1, k _ _ h.2.1, k _ _ h.2.2.1, k _ _ h.2.2.2⟩
theorem Jk.leb (h : Jk c a4 a5 a10 ms q0 q1 p0 p1 l) (n : Nb b d c a4 a5 a10) (k : LeB b l l') : Jk c a4 a5 a10 ms q0 q1 p0 p1 l' := by
  obtain ⟨_, n1, n2, n3, n4, _⟩ := n
  exact ⟨k _ _ n1 h.1, k _ _ n2 h.2.1, k _ _ n3 h.2.2.1, k _ _ n4 h.2.2.2⟩
theorem Jk.put {o : SO} (h : Jk c a4 a5 a10 ms q0 q1 p0 p1 l) (n : Nb b d c a4 a5 a10) : Jk c a4 a5 a10 ms q0 q1 p0 p1 (Mp.put l d o) := by
  obtain ⟨_, _, _, _, _, n1, n2, n3, n4⟩ := n
  exact ⟨by rw [put_ne n1]; exact h.1, by rw [put_ne n2]; exact h.2.1, by rw [put_ne n3]; exact h.2.2.1, by rw [put_ne n4]; exact h.2.2.2⟩
theorem dTIs.le (h : dTIs l d kvs) (k : Le l l') : dTIs l' d kvs := h.imp (fun h => k _ _ h) fun h => ⟨h.1, k _ _ h.2⟩
theorem dTIs.leb (h : dTIs l d kvs) (n : d ≠ b) (k : LeB b l l') : dTIs l' d kvs := h.imp (fun h => k _ _ n h) fun h => ⟨h.1, k _ _ n h.2⟩
end
theorem pg_of {s : Vc} {ms : List Mv} (hne : ms ≠ []) (hl : ms.length ≤ 12 ∧ (ms.length : Int) ≤ 3 + 2) (hok : ∀ m ∈ ms, MvOk m) (hs : P65 4 s) : PG (s, mvPs s ms) := by
  obtain ⟨ok, sz⟩ := mvs_path hok hs hne hl.1
  have h65 := mvs_65 hok hs (by decide) (by have := hl.2; omega)
  have hlp : (mvPs s ms).length ≤ 6 := by rw [mvPs_len]; have := hl.2; omega
  have tz := pthT_65 (p := (s, mvPs s ms)) hs h65 hlp
  have p14 : 2 ^ 14 < 10 ^ 60 := by decide
  have nb : ∀ {q : Rat}, Sz 14 q → NB q := fun h => ⟨Nat.lt_trans h.1 p14, Nat.lt_trans h.2 p14⟩
  exact ⟨ok, sz, tz, rfl, ⟨nb sz.1.1, nb sz.1.2⟩, fun q hq => by
      have := sz.2 q hq
      cases q with
      | side t => exact ⟨nb this.1, nb this.2⟩
      | arc m t lf => exact ⟨⟨nb this.1.1, nb this.1.2⟩, nb this.2.1, nb this.2.2⟩⟩
theorem seq2 {α : Type} {xs : List α} (h : xs.length = 2) : ∃ a b, xs = [a, b] := by
  match xs, h with
  | [a, b], _ => exact ⟨a, b, rfl⟩
theorem ok_l_law : ∀ args L R, args.length = 1 → sl_law args L R → l_law_0 (initE 16 args) L { nx := fun _ L' => R .non L', rt := R } := by
  rintro _ L R _ ⟨ns, rfl, h⟩
  unfold l_law_0
  show sSeq _ _ [some (.fz ns), none, none, none, none, none, none, none, none, none, none, none, none, none, none, none] L _
  walk_at "ev105"
  refine ⟨ns, 3, rfl, by decide, by decide, fun c L1 ms hc l1 e1 m2 mk => ?_⟩
  walk_at "ev105"
  unfold l_law_1
  walk_at "ev105"
  rw [e_lenl e1, e_r1K, List.length_map]
  refine ⟨⟨by omega, by omega⟩, ?_⟩
  refine loop_i (fun i e l => l c = some (.l (ms.map PV.int)) ∧ ∃ z2 z3 z4 z5 z6 z7 z8 z9 z10 z11 z12 z13 z14 z15, e = [some (.fz ns), some (.ref c), z2, z3, z4, z5, z6, z7, z8, z9, z10, z11, z12, z13, z14, z15]) ⟨e1, _, _, _, _, _, _, _, _, _, _, _, _, _, _, rfl⟩ (fun _ _ _ _ => trivial) ?_ ?_
  · rintro i t e l K hx ⟨e1, z2, z3, z4, z5, z6, z7, z8, z9, z10, z11, z12, z13, z14, z15, rfl⟩ hK
    obtain ⟨rfl, hi⟩ := rgL_get hx
    walk_at "ev105"
    unfold l_law_1f_0
    walk_at "ev105"
    refine ⟨c, ms, _, rfl, e1, by omega, by omega, fun b L2 hb l2 b2 => ?_⟩
    have e2 := l2 _ _ e1
    have hcb : c ≠ b := ne_adr hb e1
    unfold l_law_1f_1
    walk_at "ev105"
    refine ⟨⟨by decide, by decide⟩, ?_⟩
    refine comp_i (fun i acc l' => ∃ ps : List Pth, acc = ps.map pth ∧ ps.length = i ∧ (∀ p ∈ ps, PG p) ∧ LeB b L2 l' ∧ Bx b (0 + 100 * (i : Int)) l') ⟨[], rfl, rfl, fun d hd => by (cases hd), fun _ _ _ z => z, b2.mono (by omega)⟩ (fun _ _ _ _ => trivial) (by decide) ?_ ?_
    · rintro j t' acc l' K' hx ⟨ps, rfl, hl, hps, le, bx⟩ hi' hK'
      obtain ⟨rfl, hj⟩ := rgL_get hx
      have hj : j < 2 := hj
      walk_at "ev105"
      refine ⟨b, _, 3, rfl, by decide, by decide, bx, by omega, fun s ms' L4 hne hl4 hok hs b4 l4 => ⟨by rw [List.length_map]; show _ < 16777216; omega, hK' _ _ ?_ ⟨ps ++ [(s, mvPs s ms')], ?_, ?_, ?_, le.trans l4, b4.mono (by omega)⟩⟩⟩
      · rw [List.length_append, List.length_map]; show ps.length + 1 ≤ j + 1; omega
      · rw [List.map_append]; rfl
      · rw [List.length_append, hl]; rfl
      · intro p hp
        rcases List.mem_append.mp hp with hp | hp
        · exact hps p hp
        · rw [List.mem_singleton.mp hp]
          exact pg_of hne hl4 hok hs
    · rintro acc l' ⟨ps, rfl, hl, hps, le, bx⟩
      have hl : ps.length = 2 := hl
      obtain ⟨p0, p1, rfl⟩ := seq2 hl
      have g0 := hps p0 (by simp)
      have g1 := hps p1 (by simp)
      clear hps
      intro a4 h4
      have e4 := put_same (L := l') (a := a4) (o := .l ([p0, p1].map pth))
      have le4 := le.trans ((Le.new (o := .l ([p0, p1].map pth)) h4).b b)
      have b4 := bx.new (o := .l ([p0, p1].map pth)) h4
      have n4b : a4 ≠ b := fun z => by
        obtain ⟨_, _, _, q1, _⟩ := bx
        rw [z, q1] at h4
        cases h4
      generalize put l' a4 _ = L4 at *
      unfold l_law_1f_2
      walk_at "ev105"
      refine ⟨⟨by decide, by decide⟩, ?_⟩
      refine comp_i (fun i acc l' => ∃ qs : List Rat, acc = qs.map fr ∧ qs.length = i ∧ (∀ q ∈ qs, Sz 14 q) ∧ LeB b L4 l' ∧ Bx b (200 + 6 * (i : Int)) l') ⟨[], rfl, rfl, fun d hd => by (cases hd), fun _ _ _ z => z, b4.mono (by decide)⟩ (fun _ _ _ _ => trivial) (by decide) ?_ ?_
      · rintro j t' acc l' K' hx ⟨qs, rfl, hl, hqs, le, bx⟩ hi' hK'
        obtain ⟨rfl, hj⟩ := rgL_get hx
        have hj : j < 2 := hj
        walk_at "ev105"
        refine ⟨b, _, rfl, bx, by omega, fun q L5 sq b5 l5 => ⟨by rw [List.length_map]; show _ < 16777216; omega, hK' _ _ ?_ ⟨qs ++ [q], ?_, ?_, ?_, le.trans l5, b5.mono (by omega)⟩⟩⟩
        · rw [List.length_append, List.length_map]; show qs.length + 1 ≤ j + 1; omega
        · rw [List.map_append]; rfl
        · rw [List.length_append, hl]; rfl
        · intro p hp
          rcases List.mem_append.mp hp with hp | hp
          · exact hqs p hp
          · rw [List.mem_singleton.mp hp]; exact sq
      · rintro acc l5 ⟨qs, rfl, hl, hqs, le5, b5⟩
        have hl : qs.length = 2 := hl
        obtain ⟨q0, q1, rfl⟩ := seq2 hl
        have s0 := hqs q0 (by simp)
        have s1 := hqs q1 (by simp)
        clear hqs
        intro a5 h5
        have k5 := Le.new (o := .l ([q0, q1].map fr)) h5
        have e5 := put_same (L := l5) (a := a5) (o := .l ([q0, q1].map fr))
        have e4 := k5 _ _ (le5 _ _ n4b e4)
        have le5 := (le4.trans le5).trans (k5.b b)
        have b5 := b5.new (o := .l ([q0, q1].map fr)) h5
        generalize put l5 a5 _ = L5 at *
        unfold l_law_1f_3
        walk_at "ev105"
        rw [e_lsK e5]
        refine comp_map (xs := [q0, q1]) (f := fr) (g := fun q => .str (frT q)) (fun l hl => hl _ _ e5) (by show 2 < 16000000; decide) ?_ ?_
        · intro q hq l' R' hl' hR'
          have sq : Sz 14 q := by
            rcases List.mem_cons.mp hq with rfl | hq
            · exact s0
            · rw [List.mem_singleton.mp hq]; exact s1
          walk_at "ev105"
          exact ⟨q, rfl, sq.mono (by decide), hR' _ hl'⟩
        intro L6 l6 a6 h6
        have k6 := l6.trans (Le.new (o := .l ([q0, q1].map fun q => .str (frT q))) h6)
        have e6 : put L6 a6 (.l ([q0, q1].map fun q => PV.str (frT q))) a6 = some (.l [.str (frT q0), .str (frT q1)]) := put_same
        generalize put L6 a6 _ = L6' at *
        walk_at "ev105"
        rw [e_lsK (k6 _ _ e4)]
        refine comp_map (xs := [p0, p1]) (f := pth) (g := fun p => .str (pthT p)) (fun l hl => hl _ _ (k6 _ _ e4)) (by show 2 < 16000000; decide) ?_ ?_
        · intro p hp l' R' hl' hR'
          have gp : PG p := by
            rcases List.mem_cons.mp hp with rfl | hp
            · exact g0
            · rw [List.mem_singleton.mp hp]; exact g1
          walk_at "ev105"
          exact ⟨p, rfl, gp.sz.mono (by decide), by have := gp.ok.ln; omega, fun L' h' => hR' _ (hl'.trans h')⟩
        intro L7 l7 a7 h7
        have k7 := l7.trans (Le.new (o := .l ([p0, p1].map fun p => .str (pthT p))) h7)
        have e7 : put L7 a7 (.l ([p0, p1].map fun p => PV.str (pthT p))) a7 = some (.l [.str (pthT p0), .str (pthT p1)]) := put_same
        generalize put L7 a7 _ = L7' at *
        walk_at "ev105"
        refine e_cat (k7 _ _ e6) e7 ⟨by show 2 + 2 ≤ 16777216; decide, ?_⟩
        intro a8 h8
        have k8 := Le.new (o := .l ([.str (frT q0), .str (frT q1)] ++ [.str (pthT p0), .str (pthT p1)])) h8
        have e8 : put L7' a8 (.l ([.str (frT q0), .str (frT q1)] ++ [.str (pthT p0), .str (pthT p1)])) a8 = some (.l (([frT q0, frT q1, pthT p0, pthT p1] : List Str).map PV.str)) := put_same
        have k8 := (k6.trans k7).trans k8
        generalize put L7' a8 _ = L8 at *
        unfold l_law_1f_4
        walk_at "ev105"
        rw [e_lsK e8]
        have tls : ∀ z ∈ ([frT q0, frT q1, pthT p0, pthT p1] : List Str), z.length ≤ 1000 := by
          intro z hz
          have f0 := (z_tl s0 s1 g0 g1 0).ln
          have f1 := (z_tl s0 s1 g0 g1 1).ln
          have f2 := (z_tl s0 s1 g0 g1 2).ln
          have f3 := (z_tl s0 s1 g0 g1 3).ln
          simp only [List.mem_cons, List.not_mem_nil, or_false] at hz
          rcases hz with rfl | rfl | rfl | rfl
          · exact Nat.le_trans f0 (by decide)
          · exact Nat.le_trans f1 (by decide)
          · exact Nat.le_trans f2 (by decide)
          · exact Nat.le_trans f3 (by decide)
        refine comp_map (xs := ([frT q0, frT q1, pthT p0, pthT p1] : List Str)) (f := PV.str) (g := fun z => .str (z ++ (" " : Str))) (fun l hl => hl _ _ e8) (by show 4 < 16000000; decide) ?_ ?_
        · intro z hz l' R' hl' hR'
          have hs : ((" " : Str)).length = 1 := by decide +kernel
          walk_at "ev105"
          exact ⟨by have := tls z hz; rw [hs]; show _ ≤ 16777216; omega, hR' _ hl'⟩
        intro L9 l9 a9 h9
        have k9 := l9.trans (Le.new (o := .l (([frT q0, frT q1, pthT p0, pthT p1] : List Str).map fun z => .str (z ++ (" " : Str)))) h9)
        have e9 : put L9 a9 (.l (([frT q0, frT q1, pthT p0, pthT p1] : List Str).map fun z => PV.str (z ++ (" " : Str)))) a9 = some (.l [.str (frT q0 ++ (" " : Str)), .str (frT q1 ++ (" " : Str)), .str (pthT p0 ++ (" " : Str)), .str (pthT p1 ++ (" " : Str))]) := put_same
        generalize put L9 a9 _ = L9' at *
        walk_at "ev105"
        refine e_cat (k9 _ _ e8) e9 ⟨by show 4 + 4 ≤ 16777216; decide, ?_⟩
        intro a10 h10
        have k10 := Le.new (o := .l ((([frT q0, frT q1, pthT p0, pthT p1] : List Str).map PV.str) ++ [.str (frT q0 ++ (" " : Str)), .str (frT q1 ++ (" " : Str)), .str (pthT p0 ++ (" " : Str)), .str (pthT p1 ++ (" " : Str))])) h10
        have e10 : put L9' a10 (.l ((([frT q0, frT q1, pthT p0, pthT p1] : List Str).map PV.str) ++ [.str (frT q0 ++ (" " : Str)), .str (frT q1 ++ (" " : Str)), .str (pthT p0 ++ (" " : Str)), .str (pthT p1 ++ (" " : Str))])) a10 = some (.l ((List.range 8).map fun a => .str (zAt q0 q1 p0 p1 a))) := put_same
        have k10 := (k8.trans k9).trans k10
        generalize put L9' a10 _ = L10 at *
        have e4 := k10 _ _ e4
        have e5 := k10 _ _ e5
        have le10 := le5.trans (k10.b b)
        have b10 := b5.le k10
        unfold l_law_1f_5
        walk_at "ev105"
        intro a11 h11
        refine ⟨put_same, ?_⟩
        rw [put_put]
        have ed := put_same (L := L10) (a := a11) (o := .d [])
        have k11 := Le.new (o := .d []) h11
        have jk : Jk c a4 a5 a10 ms q0 q1 p0 p1 L10 := ⟨le10 _ _ hcb (l2 _ _ e1), e4, e5, e10⟩
        have nb : Nb b a11 c a4 a5 a10 := by
          have nbx : ∀ {x : Addr} {xs : List PV}, L10 x = some (.l xs) → x ≠ a11 := fun hx z => by rw [z, h11] at hx; cases hx
          have n5 : a5 ≠ b := fun z => by
            obtain ⟨_, _, _, q1', _⟩ := b10
            rw [z, q1'] at e5
            cases e5
          have n10 : a10 ≠ b := fun z => by
            obtain ⟨_, _, _, q1', _⟩ := b10
            rw [z, q1'] at e10
            cases e10
          have n11 : a11 ≠ b := fun z => by
            obtain ⟨_, _, _, q1', _⟩ := b10
            rw [z, q1'] at h11
            cases h11
          exact ⟨n11, hcb, n4b, n5, n10, nbx jk.1, nbx e4, nbx e5, nbx e10⟩
        have jk := jk.le k11
        have b11 := b10.le k11
        generalize put L10 a11 _ = L11 at *
        clear e8 e9 e6 e7 tls le10 le5 le4
        unfold l_law_1f_6
        walk_at "ev105"
        refine ⟨⟨by decide, by decide⟩, ?_⟩
        refine loop_i (fun j e l => Jk c a4 a5 a10 ms q0 q1 p0 p1 l ∧ Bx b (300 + 2 * (j : Int)) l ∧ (∃ kvs, dTIs l a11 kvs ∧ kvs.length ≤ j ∧ ∀ kv ∈ kvs, ∃ w a : Nat, kv = ([.inl (w : Int), .inl (a : Int)], .str (dueAt q0 q1 p0 p1 w a).t)) ∧
          ∃ z8 z9 z10 z11 z12 z13 z14 z15, e = [some (.fz ns), some (.ref c), some (.int (0 + (i : Nat))), some (.ref b), some (.ref a4), some (.ref a5), some (.ref a10), some (.ref a11), z8, z9, z10, z11, z12, z13, z14, z15])
          ⟨jk, b11.mono (by decide), ⟨[], .inr ⟨rfl, ed⟩, Nat.zero_le _, fun kv h => absurd h List.not_mem_nil⟩, _, _, _, _, _, _, _, _, rfl⟩ (fun _ _ _ _ => trivial) ?_ ?_
        · rintro j t e l K2 hx2 ⟨jk, bx, ⟨kvs, hk, hkl, hkv⟩, z8, z9, z10, z11, z12, z13, z14, z15, rfl⟩ hK2
          obtain ⟨rfl, hj⟩ := rgL_get hx2
          have hj : j < 12 := hj
          walk_at "ev105"
          unfold l_law_1f_6f_0
          walk_at "ev105"
          refine ⟨b, 2, _, rfl, bx, by omega, by decide, denS (by decide), fun w L2 w0 w1 b2 l2 => ?_⟩
          refine ⟨b, 8, _, rfl, b2, by omega, by decide, denS (by decide), fun a L3 a0 a1 b3 l3 => ?_⟩
          obtain ⟨w, rfl⟩ := Int.eq_ofNat_of_zero_le w0
          obtain ⟨a, rfl⟩ := Int.eq_ofNat_of_zero_le a0
          have hw : w < 2 := by omega
          have ha : a < 8 := by omega
          have jk := (jk.leb nb l2).leb nb l3
          have hk := (hk.leb nb.1 l2).leb nb.1 l3
          unfold l_law_1f_6f_1
          walk_at "ev105"
          refine ixl_nat jk.2.2.2 (x := .str (zAt q0 q1 p0 p1 a)) (by rw [List.getElem?_map, List.getElem?_range ha]; rfl) ?_
          refine ask_ok s0 s1 g0 g1 hw ha fun L4 l4 => ?_
          have jk := jk.le l4
          have hk := hk.le l4
          have b4 := b3.le l4
          have hdo := due_ok s0 s1 g0 g1 w a
          have rest : ∀ (L' : Sto) (v1 v2 : PV), Le L4 L' → v1 = (dueAt q0 q1 p0 p1 w a).v → v2 = (dueAt q0 q1 p0 p1 w a).v → l_law_1f_6f_3 [some (.fz ns), some (.ref c), some (.int (0 + (i : Nat))), some (.ref b), some (.ref a4), some (.ref a5), some (.ref a10), some (.ref a11), some (.int (0 + (j : Nat))), some (.int (w : Nat)), some (.int (a : Nat)), some v1, some v2, z13, z14, z15] L' { nx := K2, rt := R, bk := K, ct := K2 } := by
            intro L' v1 v2 l' ev1 ev2
            subst ev1
            subst ev2
            have jk := jk.le l'
            have hk := hk.le l'
            have b5 := b4.le l'
            unfold l_law_1f_6f_3 l_law_1f_6f_3a_0
            walk_at "ev105"
            refine due_ne hdo ?_
            walk_at "ev105"
            unfold wSetd
            walk_at "ev105"
            refine ⟨a11, rfl, ⟨kvs, hk⟩, ?_⟩
            walk_at "ev105"
            refine due_str hdo ?_
            refine ⟨kvs, [.inl (w : Int), .inl (a : Int)], rfl, hk, by show _ < 16777216; omega, ?_⟩
            have last : ∀ l', Jk c a4 a5 a10 ms q0 q1 p0 p1 l' → Bx b (300 + 2 * (j : Int) + 2) l' → (∃ kvs, dTIs l' a11 kvs ∧ kvs.length ≤ j + 1 ∧ ∀ kv ∈ kvs, ∃ w a : Nat, kv = ([.inl (w : Int), .inl (a : Int)], .str (dueAt q0 q1 p0 p1 w a).t)) →
                l_law_1f_6f_4 [some (.fz ns), some (.ref c), some (.int (0 + (i : Nat))), some (.ref b), some (.ref a4), some (.ref a5), some (.ref a10), some (.ref a11), some (.int (0 + (j : Nat))), some (.int (w : Nat)), some (.int (a : Nat)), some (dueAt q0 q1 p0 p1 w a).v, some (dueAt q0 q1 p0 p1 w a).v, z13, z14, z15] l' { nx := K2, rt := R, bk := K, ct := K2 } := by
              intro l' jk bx hkv
              have fin : ∀ (l2 : Sto) (v1 v2 : PV) (z13 : Option PV), Le l' l2 → K2 [some (.fz ns), some (.ref c), some (.int (0 + (i : Nat))), some (.ref b), some (.ref a4), some (.ref a5), some (.ref a10), some (.ref a11), some (.int (0 + (j : Nat))), some (.int (w : Nat)), some (.int (a : Nat)), some v1, some v2, z13, z14, z15] l2 := by
                intro l2 v1 v2 z13 k
                obtain ⟨kvs, h1, h2, h3⟩ := hkv
                exact hK2 _ _ ⟨jk.le k, (bx.le k).mono (by omega), ⟨kvs, h1.le k, h2, h3⟩, _, _, _, _, _, _, _, _, rfl⟩
              unfold l_law_1f_6f_4 l_law_1f_6f_4a_0
              have tz : SeqAt.shaped (.str (zAt q0 q1 p0 p1 a)) = true := ((z_tl s0 s1 g0 g1 a).tx (by decide)).sh
              have ez : ([PV.str (zAt q0 q1 p0 p1 a)] : List PV) = [.str (zAt q0 q1 p0 p1 a)] := rfl
              rcases due_kind (q0 := q0) (q1 := q1) (p0 := p0) (p1 := p1) s0 s1 g0 g1 hw ha with ⟨q, e1, rfl, e2, sq⟩ | ⟨p, e1, rfl, e2, gp⟩ | ⟨z, e1⟩
              · rw [e1]
                show sIf _ _ _ [some (.fz ns), some (.ref c), some (.int (0 + (i : Nat))), some (.ref b), some (.ref a4), some (.ref a5), some (.ref a10), some (.ref a11), some (.int (0 + (j : Nat))), some (.int (0 : Nat)), some (.int (a : Nat)), some (fr q), some (fr q), z13, z14, z15] l' _
                walk_at "ev105"
                unfold l_law_1f_6f_4a_1 l_law_1f_6f_4a_1a_0
                show gIsi [.tup [.int q.num, .int q.den], .ty "tuple"] l' _
                walk_at "ev105"
                rw [if_pos (show ((0 : Nat) : Int) = 0 from rfl)]
                refine ⟨q, rfl, sq.mono (by decide), ?_⟩
                walk_at "ev105"
                refine ixl_nat jk.2.2.2 (x := .str (zAt q0 q1 p0 p1 a)) (by rw [List.getElem?_map, List.getElem?_range ha]; rfl) ?_
                rw [e2] at tz ⊢
                refine ne_str tz ?_
                walk_at "ev105"
                exact fin _ _ _ _ .refl
              · rw [e1]
                show sIf _ _ _ [some (.fz ns), some (.ref c), some (.int (0 + (i : Nat))), some (.ref b), some (.ref a4), some (.ref a5), some (.ref a10), some (.ref a11), some (.int (0 + (j : Nat))), some (.int (1 : Nat)), some (.int (a : Nat)), some (pth p), some (pth p), z13, z14, z15] l' _
                walk_at "ev105"
                unfold l_law_1f_6f_4a_1 l_law_1f_6f_4a_1a_0
                show gIsi [.tup [vc p.1, .tup (p.2.map pcV)], .ty "tuple"] l' _
                walk_at "ev105"
                rw [if_neg (show ¬ ((1 : Nat) : Int) = 0 by decide)]
                refine ⟨p, rfl, gp.sz.mono (by decide), by have := gp.ok.ln; omega, fun l2 k2 => ?_⟩
                walk_at "ev105"
                refine ixl_nat (jk.le k2).2.2.2 (x := .str (zAt q0 q1 p0 p1 a)) (by rw [List.getElem?_map, List.getElem?_range ha]; rfl) ?_
                rw [e2] at tz ⊢
                refine ne_str tz ?_
                walk_at "ev105"
                exact fin _ _ _ _ k2
              · rw [e1]
                show sIf _ _ _ [some (.fz ns), some (.ref c), some (.int (0 + (i : Nat))), some (.ref b), some (.ref a4), some (.ref a5), some (.ref a10), some (.ref a11), some (.int (0 + (j : Nat))), some (.int (w : Nat)), some (.int (a : Nat)), some (.str z), some (.str z), z13, z14, z15] l' _
                walk_at "ev105"
                exact fin _ _ _ _ .refl
            cases he : kvs.find? fun kv => decide (kv.1 = ([.inl (w : Int), .inl (a : Int)] : List Key)) with
            | some kv =>
              have hm := List.mem_of_find?_eq_some he
              have hp := List.find?_some he
              obtain ⟨w', a', e⟩ := hkv kv hm
              have hkey : kv.1 = ([.inl (w : Int), .inl (a : Int)] : List Key) := of_decide_eq_true hp
              rw [e] at hkey
              have h1 : (w' : Int) = (w : Int) := by injection hkey with h1 _; injection h1
              have h2 : (a' : Int) = (a : Int) := by injection hkey with _ h2; injection h2 with h2 _; injection h2
              have h1 : w' = w := by omega
              have h2 : a' = a := by omega
              subst h1 h2
              subst e
              refine due_str hdo (ne_str (due_sh hdo) ?_)
              walk_at "ev105"
              exact last _ jk (b5.mono (by omega)) ⟨kvs, hk, by omega, hkv⟩
            | none =>
              refine due_str hdo (ne_str (due_sh hdo) ?_)
              walk_at "ev105"
              refine last _ (jk.put nb) ?_ ⟨_, .inl put_same, by rw [List.length_append]; show kvs.length + 1 ≤ j + 1; omega, fun kv h => ?_⟩
              · exact Bx.leb (b5.mono (by omega)) nb.1.symm LeB.put
              · rcases List.mem_append.mp h with h | h
                · exact hkv kv h
                · rw [List.mem_singleton.mp h]; exact ⟨w, a, rfl⟩
          have wb : ∀ (hd : (dueAt q0 q1 p0 p1 w a).v = .str (rsk w)), newL L4 [PV.str (Str.ofString "number"), PV.str (Str.ofString "path")] fun x La => oIx x (PV.int (w : Nat)) La fun x La => l_law_1f_6f_3 [some (.fz ns), some (.ref c), some (.int (0 + (i : Nat))), some (.ref b), some (.ref a4), some (.ref a5), some (.ref a10), some (.ref a11), some (.int (0 + (j : Nat))), some (.int (w : Nat)), some (.int (a : Nat)), some (dueAt q0 q1 p0 p1 w a).v, some x, z13, z14, z15] La { nx := K2, rt := R, bk := K, ct := K2 } := by
            intro hd p hp
            refine ixl_nat (put_same) (x := .str (rsk w)) ?_ (rest _ _ _ (Le.new hp) rfl hd.symm)
            match w, hw with
            | 0, _ => rfl
            | 1, _ => rfl
          have dw : ∀ w a, w < 2 → a < 8 → ¬ (a < 4 ∧ w = a / 2) → (dueAt q0 q1 p0 p1 w a).v = .str (rsk w) := by
            intro w a hw ha hn
            match w, hw with
            | 0, _ =>
              match a, ha with
              | 0, _ => exact absurd ⟨by decide, rfl⟩ hn
              | 1, _ => exact absurd ⟨by decide, rfl⟩ hn
              | 2, _ | 3, _ | 4, _ | 5, _ | 6, _ | 7, _ => rfl
            | 1, _ =>
              match a, ha with
              | 2, _ => exact absurd ⟨by decide, rfl⟩ hn
              | 3, _ => exact absurd ⟨by decide, rfl⟩ hn
              | 0, _ | 1, _ | 4, _ | 5, _ | 6, _ | 7, _ => rfl
          have df : ∀ w a, a < 4 → w = a / 2 → (([q0, q1].map fr) ++ ([p0, p1].map pth))[a]? = some (dueAt q0 q1 p0 p1 w a).v := by
            intro w a ha hw
            subst hw
            match a, ha with
            | 0, _ | 1, _ | 2, _ | 3, _ => rfl
          unfold l_law_1f_6f_2
          walk_at "ev105"
          have fd : ((a : Nat) : Int).fdiv 2 = ((a / 2 : Nat) : Int) := by
            rw [Int.fdiv_eq_ediv_of_nonneg _ (by decide)]
            rfl
          rw [fd]
          split
          · refine ⟨by decide, noPl (denS (by decide)), ?_⟩
            split
            · rename_i h4 hwa
              have h4 : a < 4 := by omega
              have hwa : w = a / 2 := by omega
              refine ⟨_, _, jk.2.2.1, jk.2.1, by show 2 + 2 ≤ 16777216; decide, fun p hp => ?_⟩
              exact ixl_nat put_same (df w a h4 hwa) (rest _ _ _ (Le.new hp) rfl rfl)
            · rename_i h4 hwa
              exact wb (dw w a hw ha fun h => hwa (by omega))
          · rename_i h4
            exact wb (dw w a hw ha fun h => h4 (by omega))
        · rintro e l ⟨jk, bx, _, z8, z9, z10, z11, z12, z13, z14, z15, rfl⟩
          exact hK _ _ ⟨jk.1, _, _, _, _, _, _, _, _, _, _, _, _, _, _, rfl⟩
  · rintro e l ⟨e1, z2, z3, z4, z5, z6, z7, z8, z9, z10, z11, z12, z13, z14, z15, rfl⟩
    unfold l_law_2
    walk_at "ev105"
    exact h _
end
section
open PySem PySem.Spec PyProof.Rows L2
def nn : List Str := ["bool", "int", "isinstance", "abs", "len", "tuple", "all", "str", "divmod", "enumerate", "list", "range", "ValueError"]
theorem zsc_is_number : FnScope ["thing"] ["thing"] (defScope zst_is_number) := ⟨rfl, rfl, rfl, by decide +kernel, rfl, by decide +kernel, by decide +kernel⟩
def ztb_is_number : Tab := ⟨[], [], nn⟩
theorem zcs_is_number : cSs ztb_is_number 60 ⟨["thing"], defScope zst_is_number, fun _ => true⟩ (defBody zst_is_number) = some d_is_number_0 := by rfl
theorem zsc_divisor_of : FnScope ["one", "other"] ["one", "other"] (defScope zst_divisor_of) := ⟨rfl, rfl, rfl, by decide +kernel, rfl, by decide +kernel, by decide +kernel⟩
def ztb_divisor_of : Tab := ⟨[], [], nn⟩
theorem zcs_divisor_of : cSs ztb_divisor_of 60 ⟨["one", "other"], defScope zst_divisor_of, fun _ => true⟩ (defBody zst_divisor_of) = some d_divisor_of_0 := by rfl
theorem zsc_is_fraction : FnScope ["thing"] ["thing"] (defScope zst_is_fraction) := ⟨rfl, rfl, rfl, by decide +kernel, rfl, by decide +kernel, by decide +kernel⟩
def ztb_is_fraction : Tab := ⟨[("is_number", 1, s_is_number), ("divisor_of", 2, s_divisor_of)], [], nn⟩
theorem zcs_is_fraction : cSs ztb_is_fraction 60 ⟨["thing"], defScope zst_is_fraction, fun _ => true⟩ (defBody zst_is_fraction) = some d_is_fraction_0 := by rfl
theorem zsc_fraction : FnScope ["n", "d", "divisor"] ["n", "d"] (defScope zst_fraction) := ⟨rfl, rfl, rfl, by decide +kernel, rfl, by decide +kernel, by decide +kernel⟩
def ztb_fraction : Tab := ⟨[("divisor_of", 2, s_divisor_of)], [], nn⟩
theorem zcs_fraction : cSs ztb_fraction 60 ⟨["n", "d", "divisor"], defScope zst_fraction, fun _ => true⟩ (defBody zst_fraction) = some d_fraction_0 := by rfl
theorem zsc_added : FnScope ["one", "other"] ["one", "other"] (defScope zst_added) := ⟨rfl, rfl, rfl, by decide +kernel, rfl, by decide +kernel, by decide +kernel⟩
def ztb_added : Tab := ⟨[("fraction", 2, s_fraction)], [], nn⟩
theorem zcs_added : cSs ztb_added 60 ⟨["one", "other"], defScope zst_added, fun _ => true⟩ (defBody zst_added) = some d_added_0 := by rfl
theorem zsc_taken : FnScope ["one", "other"] ["one", "other"] (defScope zst_taken) := ⟨rfl, rfl, rfl, by decide +kernel, rfl, by decide +kernel, by decide +kernel⟩
def ztb_taken : Tab := ⟨[("fraction", 2, s_fraction)], [], nn⟩
theorem zcs_taken : cSs ztb_taken 60 ⟨["one", "other"], defScope zst_taken, fun _ => true⟩ (defBody zst_taken) = some d_taken_0 := by rfl
theorem zsc_times : FnScope ["one", "other"] ["one", "other"] (defScope zst_times) := ⟨rfl, rfl, rfl, by decide +kernel, rfl, by decide +kernel, by decide +kernel⟩
def ztb_times : Tab := ⟨[("fraction", 2, s_fraction)], [], nn⟩
theorem zcs_times : cSs ztb_times 60 ⟨["one", "other"], defScope zst_times, fun _ => true⟩ (defBody zst_times) = some d_times_0 := by rfl
theorem zsc_whole_root : FnScope ["number", "low", "high", "middle"] ["number"] (defScope zst_whole_root) := ⟨rfl, rfl, rfl, by decide +kernel, rfl, by decide +kernel, by decide +kernel⟩
def ztb_whole_root : Tab := ⟨[], [], nn⟩
theorem zcs_whole_root : cSs ztb_whole_root 60 ⟨["number", "low", "high", "middle"], defScope zst_whole_root, fun _ => true⟩ (defBody zst_whole_root) = some d_whole_root_0 := by rfl
theorem zsc_root_of : FnScope ["one", "top", "bottom"] ["one"] (defScope zst_root_of) := ⟨rfl, rfl, rfl, by decide +kernel, rfl, by decide +kernel, by decide +kernel⟩
def ztb_root_of : Tab := ⟨[("whole_root", 1, s_whole_root)], [], nn⟩
theorem zcs_root_of : cSs ztb_root_of 60 ⟨["one", "top", "bottom"], defScope zst_root_of, fun _ => true⟩ (defBody zst_root_of) = some d_root_of_0 := by rfl
theorem zsc_minus : FnScope ["one", "other"] ["one", "other"] (defScope zst_minus) := ⟨rfl, rfl, rfl, by decide +kernel, rfl, by decide +kernel, by decide +kernel⟩
def ztb_minus : Tab := ⟨[("taken", 2, s_taken)], [], nn⟩
theorem zcs_minus : cSs ztb_minus 60 ⟨["one", "other"], defScope zst_minus, fun _ => true⟩ (defBody zst_minus) = some d_minus_0 := by rfl
theorem zsc_dot : FnScope ["one", "other"] ["one", "other"] (defScope zst_dot) := ⟨rfl, rfl, rfl, by decide +kernel, rfl, by decide +kernel, by decide +kernel⟩
def ztb_dot : Tab := ⟨[("added", 2, s_added), ("times", 2, s_times)], [], nn⟩
theorem zcs_dot : cSs ztb_dot 60 ⟨["one", "other"], defScope zst_dot, fun _ => true⟩ (defBody zst_dot) = some d_dot_0 := by rfl
theorem zsc_length_of : FnScope ["vector"] ["vector"] (defScope zst_length_of) := ⟨rfl, rfl, rfl, by decide +kernel, rfl, by decide +kernel, by decide +kernel⟩
def ztb_length_of : Tab := ⟨[("root_of", 1, s_root_of), ("dot", 2, s_dot)], [], nn⟩
theorem zcs_length_of : cSs ztb_length_of 60 ⟨["vector"], defScope zst_length_of, fun _ => true⟩ (defBody zst_length_of) = some d_length_of_0 := by rfl
theorem zsc_is_point : FnScope ["thing", "part"] ["thing"] (defScope zst_is_point) := ⟨rfl, rfl, rfl, by decide +kernel, rfl, by decide +kernel, by decide +kernel⟩
def ztb_is_point : Tab := ⟨[("is_fraction", 1, s_is_fraction)], [], nn⟩
theorem zcs_is_point : cSs ztb_is_point 60 ⟨["thing", "part"], defScope zst_is_point, fun _ => true⟩ (defBody zst_is_point) = some d_is_point_0 := by rfl
theorem zsc_is_side : FnScope ["begin", "thing"] ["begin", "thing"] (defScope zst_is_side) := ⟨rfl, rfl, rfl, by decide +kernel, rfl, by decide +kernel, by decide +kernel⟩
def ztb_is_side : Tab := ⟨[("minus", 2, s_minus), ("length_of", 1, s_length_of), ("is_point", 1, s_is_point)], [("SIDE", .str "side")], nn⟩
theorem zcs_is_side : cSs ztb_is_side 60 ⟨["begin", "thing"], defScope zst_is_side, fun _ => true⟩ (defBody zst_is_side) = some d_is_side_0 := by rfl
theorem zsc_is_arc : FnScope ["begin", "thing", "radius"] ["begin", "thing"] (defScope zst_is_arc) := ⟨rfl, rfl, rfl, by decide +kernel, rfl, by decide +kernel, by decide +kernel⟩
def ztb_is_arc : Tab := ⟨[("minus", 2, s_minus), ("length_of", 1, s_length_of), ("is_point", 1, s_is_point)], [("ARC", .str "arc"), ("NOUGHT", .tup [.int 0, .int 1]), ("TURNS_paths", .tup [.str "left", .str "right"])], nn⟩
theorem zcs_is_arc : cSs ztb_is_arc 60 ⟨["begin", "thing", "radius"], defScope zst_is_arc, fun _ => true⟩ (defBody zst_is_arc) = some d_is_arc_0 := by rfl
theorem zsc_is_piece : FnScope ["begin", "thing"] ["begin", "thing"] (defScope zst_is_piece) := ⟨rfl, rfl, rfl, by decide +kernel, rfl, by decide +kernel, by decide +kernel⟩
def ztb_is_piece : Tab := ⟨[("is_side", 2, s_is_side), ("is_arc", 2, s_is_arc)], [], nn⟩
theorem zcs_is_piece : cSs ztb_is_piece 60 ⟨["begin", "thing"], defScope zst_is_piece, fun _ => true⟩ (defBody zst_is_piece) = some d_is_piece_0 := by rfl
theorem zsc_to_of : FnScope ["piece"] ["piece"] (defScope zst_to_of) := ⟨rfl, rfl, rfl, by decide +kernel, rfl, by decide +kernel, by decide +kernel⟩
def ztb_to_of : Tab := ⟨[], [("SIDE", .str "side")], nn⟩
theorem zcs_to_of : cSs ztb_to_of 60 ⟨["piece"], defScope zst_to_of, fun _ => true⟩ (defBody zst_to_of) = some d_to_of_0 := by rfl
theorem zsc_is_path : FnScope ["thing", "begin", "piece"] ["thing"] (defScope zst_is_path) := ⟨rfl, rfl, rfl, by decide +kernel, rfl, by decide +kernel, by decide +kernel⟩
def ztb_is_path : Tab := ⟨[("is_point", 1, s_is_point), ("is_piece", 2, s_is_piece), ("to_of", 1, s_to_of)], [], nn⟩
theorem zcs_is_path : cSs ztb_is_path 60 ⟨["thing", "begin", "piece"], defScope zst_is_path, fun _ => true⟩ (defBody zst_is_path) = some d_is_path_0 := by rfl
theorem zsc_fraction_text : FnScope ["one"] ["one"] (defScope zst_fraction_text) := ⟨rfl, rfl, rfl, by decide +kernel, rfl, by decide +kernel, by decide +kernel⟩
def ztb_fraction_text : Tab := ⟨[], [], nn⟩
theorem zcs_fraction_text : cSs ztb_fraction_text 60 ⟨["one"], defScope zst_fraction_text, fun _ => true⟩ (defBody zst_fraction_text) = some d_fraction_text_0 := by rfl
theorem zsc_number_in : FnScope ["text"] ["text"] (defScope zst_number_in) := ⟨rfl, rfl, rfl, by decide +kernel, rfl, by decide +kernel, by decide +kernel⟩
def ztb_number_in : Tab := ⟨[], [("FIGURES", .str "0123456789"), ("MOST_FIGURES", .int 60)], nn⟩
theorem zcs_number_in : cSs ztb_number_in 60 ⟨["text"], defScope zst_number_in, fun _ => true⟩ (defBody zst_number_in) = some d_number_in_0 := by rfl
theorem zsc_fraction_in : FnScope ["text", "top", "stroke", "bottom", "hand", "n", "d", "one"] ["text"] (defScope zst_fraction_in) := ⟨rfl, rfl, rfl, by decide +kernel, rfl, by decide +kernel, by decide +kernel⟩
def ztb_fraction_in : Tab := ⟨[("fraction", 2, s_fraction), ("fraction_text", 1, s_fraction_text), ("number_in", 1, s_number_in)], [], nn⟩
theorem zcs_fraction_in : cSs ztb_fraction_in 60 ⟨["text", "top", "stroke", "bottom", "hand", "n", "d", "one"], defScope zst_fraction_in, fun _ => true⟩ (defBody zst_fraction_in) = some d_fraction_in_0 := by rfl
theorem zsc_fraction_from : FnScope ["text", "one"] ["text"] (defScope zst_fraction_from) := ⟨rfl, rfl, rfl, by decide +kernel, rfl, by decide +kernel, by decide +kernel⟩
def ztb_fraction_from : Tab := ⟨[("fraction_in", 1, s_fraction_in)], [], nn⟩
theorem zrx_fraction_from {P : Program} {w : World} {K : PySem.W.Frag} {mg : Str → Option Value} {base : Heap} {k : Nat} {cl : Nat → Value} {f : Addr} {fd : FuncData} (hT : TabOk P w K mg base k ztb_fraction_from) (F : Fun K "fraction_from" "fraction_from" zst_fraction_from f fd) (hcl : RaC K mg cl "BadNumber" 0) : FnX P w K mg base (k + 1) f fd ["text"] (liftSpX K cl 1 s_fraction_from) := raise_fn (n := 60) hT F zsc_fraction_from rfl rfl rfl rfl rfl (by decide) hcl ok_fraction_from
theorem zsc_point_text : FnScope ["point"] ["point"] (defScope zst_point_text) := ⟨rfl, rfl, rfl, by decide +kernel, rfl, by decide +kernel, by decide +kernel⟩
def ztb_point_text : Tab := ⟨[("fraction_text", 1, s_fraction_text)], [], nn⟩
theorem zcs_point_text : cSs ztb_point_text 60 ⟨["point"], defScope zst_point_text, fun _ => true⟩ (defBody zst_point_text) = some d_point_text_0 := by rfl
theorem zsc_piece_text : FnScope ["piece"] ["piece"] (defScope zst_piece_text) := ⟨rfl, rfl, rfl, by decide +kernel, rfl, by decide +kernel, by decide +kernel⟩
def ztb_piece_text : Tab := ⟨[("point_text", 1, s_point_text)], [], nn⟩
theorem zcs_piece_text : cSs ztb_piece_text 60 ⟨["piece"], defScope zst_piece_text, fun _ => true⟩ (defBody zst_piece_text) = some d_piece_text_0 := by rfl
theorem zsc_path_text : FnScope ["path", "piece"] ["path"] (defScope zst_path_text) := ⟨rfl, rfl, rfl, by decide +kernel, rfl, by decide +kernel, by decide +kernel⟩
def ztb_path_text : Tab := ⟨[("point_text", 1, s_point_text), ("piece_text", 1, s_piece_text)], [], nn⟩
theorem zcs_path_text : cSs ztb_path_text 60 ⟨["path", "piece"], defScope zst_path_text, fun _ => true⟩ (defBody zst_path_text) = some d_path_text_0 := by rfl
theorem zsc_point_in : FnScope ["words", "point"] ["words"] (defScope zst_point_in) := ⟨rfl, rfl, rfl, by decide +kernel, rfl, by decide +kernel, by decide +kernel⟩
def ztb_point_in : Tab := ⟨[("fraction_in", 1, s_fraction_in)], [], nn⟩
theorem zcs_point_in : cSs ztb_point_in 60 ⟨["words", "point"], defScope zst_point_in, fun _ => true⟩ (defBody zst_point_in) = some d_point_in_0 := by rfl
theorem zsc_piece_ahead : FnScope ["words"] ["words"] (defScope zst_piece_ahead) := ⟨rfl, rfl, rfl, by decide +kernel, rfl, by decide +kernel, by decide +kernel⟩
def ztb_piece_ahead : Tab := ⟨[("point_in", 1, s_point_in)], [("TURNS_texts", .tup [.str "left", .str "right"])], nn⟩
theorem zcs_piece_ahead : cSs ztb_piece_ahead 60 ⟨["words"], defScope zst_piece_ahead, fun _ => true⟩ (defBody zst_piece_ahead) = some d_piece_ahead_0 := by rfl
theorem zsc_path_in : FnScope ["text", "words", "start", "pieces", "at", "found"] ["text"] (defScope zst_path_in) := ⟨rfl, rfl, rfl, by decide +kernel, rfl, by decide +kernel, by decide +kernel⟩
def ztb_path_in : Tab := ⟨[("point_in", 1, s_point_in), ("piece_ahead", 1, s_piece_ahead)], [], nn⟩
theorem zcs_path_in : cSs ztb_path_in 60 ⟨["text", "words", "start", "pieces", "at", "found"], defScope zst_path_in, fun _ => true⟩ (defBody zst_path_in) = some d_path_in_0 := by rfl
theorem zsc_path_from : FnScope ["text", "path"] ["text"] (defScope zst_path_from) := ⟨rfl, rfl, rfl, by decide +kernel, rfl, by decide +kernel, by decide +kernel⟩
def ztb_path_from : Tab := ⟨[("is_path", 1, s_is_path), ("path_in", 1, s_path_in)], [], nn⟩
theorem zrx_path_from {P : Program} {w : World} {K : PySem.W.Frag} {mg : Str → Option Value} {base : Heap} {k : Nat} {cl : Nat → Value} {f : Addr} {fd : FuncData} (hT : TabOk P w K mg base k ztb_path_from) (F : Fun K "path_from" "path_from" zst_path_from f fd) (hcl : RaC K mg cl "BadPath" 1) : FnX P w K mg base (k + 1) f fd ["text"] (liftSpX K cl 1 s_path_from1) := raise_fn (n := 60) hT F zsc_path_from rfl rfl rfl rfl rfl (by decide) hcl ok_path_from1
theorem zsc_law_box_of : FnScope ["_law_script", "_law_k", "_law_cell"] ["_law_script", "_law_k"] (defScope zst_law_box_of) := ⟨rfl, rfl, rfl, by decide +kernel, rfl, by decide +kernel, by decide +kernel⟩
def ztb_law_box_of : Tab := ⟨[], [], nn⟩
theorem zcs_law_box_of : cSs ztb_law_box_of 60 ⟨["_law_script", "_law_k", "_law_cell"], defScope zst_law_box_of, fun _ => true⟩ (defBody zst_law_box_of) = some l_box_of_0 := by rfl
theorem zsc_law_take : FnScope ["_law_box", "_law_many", "_law_found", "_law_once"] ["_law_box", "_law_many"] (defScope zst_law_take) := ⟨rfl, rfl, rfl, by decide +kernel, rfl, by decide +kernel, by decide +kernel⟩
def ztb_law_take : Tab := ⟨[], [], nn⟩
theorem zcs_law_take : cSs ztb_law_take 60 ⟨["_law_box", "_law_many", "_law_found", "_law_once"], defScope zst_law_take, fun _ => true⟩ (defBody zst_law_take) = some l_take_0 := by rfl
theorem zsc_law_folded : FnScope ["_law_script", "_law_many", "_law_cells", "_law_k", "_law_cell"] ["_law_script", "_law_many"] (defScope zst_law_folded) := ⟨rfl, rfl, rfl, by decide +kernel, rfl, by decide +kernel, by decide +kernel⟩
def ztb_law_folded : Tab := ⟨[], [], nn⟩
theorem zcs_law_folded : cSs ztb_law_folded 60 ⟨["_law_script", "_law_many", "_law_cells", "_law_k", "_law_cell"], defScope zst_law_folded, fun _ => true⟩ (defBody zst_law_folded) = some l_folded_0 := by rfl
theorem zsc_law_lowest : FnScope ["_law_n", "_law_d", "_law_one", "_law_other"] ["_law_n", "_law_d"] (defScope zst_law_lowest) := ⟨rfl, rfl, rfl, by decide +kernel, rfl, by decide +kernel, by decide +kernel⟩
def ztb_law_lowest : Tab := ⟨[], [], nn⟩
theorem zcs_law_lowest : cSs ztb_law_lowest 60 ⟨["_law_n", "_law_d", "_law_one", "_law_other"], defScope zst_law_lowest, fun _ => true⟩ (defBody zst_law_lowest) = some q_lowest_0 := by rfl
theorem zsc_law_sum : FnScope ["_law_one", "_law_other"] ["_law_one", "_law_other"] (defScope zst_law_sum) := ⟨rfl, rfl, rfl, by decide +kernel, rfl, by decide +kernel, by decide +kernel⟩
def ztb_law_sum : Tab := ⟨[("_law_lowest", 2, sq_lowest)], [], nn⟩
theorem zcs_law_sum : cSs ztb_law_sum 60 ⟨["_law_one", "_law_other"], defScope zst_law_sum, fun _ => true⟩ (defBody zst_law_sum) = some q_sum_0 := by rfl
theorem zsc_law_product : FnScope ["_law_one", "_law_other"] ["_law_one", "_law_other"] (defScope zst_law_product) := ⟨rfl, rfl, rfl, by decide +kernel, rfl, by decide +kernel, by decide +kernel⟩
def ztb_law_product : Tab := ⟨[("_law_lowest", 2, sq_lowest)], [], nn⟩
theorem zcs_law_product : cSs ztb_law_product 60 ⟨["_law_one", "_law_other"], defScope zst_law_product, fun _ => true⟩ (defBody zst_law_product) = some q_product_0 := by rfl
theorem zsc_law_less : FnScope ["_law_one", "_law_other"] ["_law_one", "_law_other"] (defScope zst_law_less) := ⟨rfl, rfl, rfl, by decide +kernel, rfl, by decide +kernel, by decide +kernel⟩
def ztb_law_less : Tab := ⟨[("_law_lowest", 2, sq_lowest)], [], nn⟩
theorem zcs_law_less : cSs ztb_law_less 60 ⟨["_law_one", "_law_other"], defScope zst_law_less, fun _ => true⟩ (defBody zst_law_less) = some q_less_0 := by rfl
theorem zsc_law_joined : FnScope ["_law_one", "_law_other"] ["_law_one", "_law_other"] (defScope zst_law_joined) := ⟨rfl, rfl, rfl, by decide +kernel, rfl, by decide +kernel, by decide +kernel⟩
def ztb_law_joined : Tab := ⟨[("_law_sum", 2, sq_sum)], [], nn⟩
theorem zcs_law_joined : cSs ztb_law_joined 60 ⟨["_law_one", "_law_other"], defScope zst_law_joined, fun _ => true⟩ (defBody zst_law_joined) = some q_joined_0 := by rfl
theorem zsc_law_off : FnScope ["_law_one", "_law_other"] ["_law_one", "_law_other"] (defScope zst_law_off) := ⟨rfl, rfl, rfl, by decide +kernel, rfl, by decide +kernel, by decide +kernel⟩
def ztb_law_off : Tab := ⟨[("_law_less", 2, sq_less)], [], nn⟩
theorem zcs_law_off : cSs ztb_law_off 60 ⟨["_law_one", "_law_other"], defScope zst_law_off, fun _ => true⟩ (defBody zst_law_off) = some q_off_0 := by rfl
theorem zsc_law_scaled_by : FnScope ["_law_vector", "_law_share"] ["_law_vector", "_law_share"] (defScope zst_law_scaled_by) := ⟨rfl, rfl, rfl, by decide +kernel, rfl, by decide +kernel, by decide +kernel⟩
def ztb_law_scaled_by : Tab := ⟨[("_law_product", 2, sq_product)], [], nn⟩
theorem zcs_law_scaled_by : cSs ztb_law_scaled_by 60 ⟨["_law_vector", "_law_share"], defScope zst_law_scaled_by, fun _ => true⟩ (defBody zst_law_scaled_by) = some q_scaled_by_0 := by rfl
theorem zsc_law_to_left : FnScope ["_law_vector"] ["_law_vector"] (defScope zst_law_to_left) := ⟨rfl, rfl, rfl, by decide +kernel, rfl, by decide +kernel, by decide +kernel⟩
def ztb_law_to_left : Tab := ⟨[], [], nn⟩
theorem zcs_law_to_left : cSs ztb_law_to_left 60 ⟨["_law_vector"], defScope zst_law_to_left, fun _ => true⟩ (defBody zst_law_to_left) = some q_to_left_0 := by rfl
theorem zsc_law_unit_of : FnScope ["_law_k", "_law_some", "_law_found", "_law_turn"] ["_law_k"] (defScope zst_law_unit_of) := ⟨rfl, rfl, rfl, by decide +kernel, rfl, by decide +kernel, by decide +kernel⟩
def ztb_law_unit_of : Tab := ⟨[("_law_to_left", 1, sq_to_left)], [], nn⟩
theorem zcs_law_unit_of : cSs ztb_law_unit_of 60 ⟨["_law_k", "_law_some", "_law_found", "_law_turn"], defScope zst_law_unit_of, fun _ => true⟩ (defBody zst_law_unit_of) = some q_unit_of_0 := by rfl
theorem zsc_law_move_by : FnScope ["_law_box", "_law_arcs", "_law_kind", "_law_many", "_law_first", "_law_more", "_law_turn"] ["_law_box", "_law_arcs"] (defScope zst_law_move_by) := ⟨rfl, rfl, rfl, by decide +kernel, rfl, by decide +kernel, by decide +kernel⟩
def ztb_law_move_by : Tab := ⟨[("_law_take", 2, sl_take), ("_law_unit_of", 1, sq_unit_of)], [], nn⟩
theorem zcs_law_move_by : cSs ztb_law_move_by 60 ⟨["_law_box", "_law_arcs", "_law_kind", "_law_many", "_law_first", "_law_more", "_law_turn"], defScope zst_law_move_by, fun _ => true⟩ (defBody zst_law_move_by) = some q_move_by_0 := by rfl
theorem zsc_law_path_of : FnScope ["_law_start", "_law_moves", "_law_at", "_law_pieces", "_law_move", "_law_middle"] ["_law_start", "_law_moves"] (defScope zst_law_path_of) := ⟨rfl, rfl, rfl, by decide +kernel, rfl, by decide +kernel, by decide +kernel⟩
def ztb_law_path_of : Tab := ⟨[("_law_joined", 2, sq_joined), ("_law_off", 2, sq_off), ("_law_scaled_by", 2, sq_scaled_by)], [], nn⟩
theorem zcs_law_path_of : cSs ztb_law_path_of 60 ⟨["_law_start", "_law_moves", "_law_at", "_law_pieces", "_law_move", "_law_middle"], defScope zst_law_path_of, fun _ => true⟩ (defBody zst_law_path_of) = some q_path_of_0 := by rfl
theorem zsc_law_move_back : FnScope ["_law_move"] ["_law_move"] (defScope zst_law_move_back) := ⟨rfl, rfl, rfl, by decide +kernel, rfl, by decide +kernel, by decide +kernel⟩
def ztb_law_move_back : Tab := ⟨[("_law_scaled_by", 2, sq_scaled_by)], [], nn⟩
theorem zcs_law_move_back : cSs ztb_law_move_back 60 ⟨["_law_move"], defScope zst_law_move_back, fun _ => true⟩ (defBody zst_law_move_back) = some q_move_back_0 := by rfl
theorem zsc_law_path_by : FnScope ["_law_box", "_law_most", "_law_way", "_law_many", "_law_start", "_law_moves", "_law_left", "_law_turn", "_law_move"] ["_law_box", "_law_most"] (defScope zst_law_path_by) := ⟨rfl, rfl, rfl, by decide +kernel, rfl, by decide +kernel, by decide +kernel⟩
def ztb_law_path_by : Tab := ⟨[("_law_take", 2, sl_take), ("_law_move_by", 2, sq_move_by), ("_law_path_of", 2, sq_path_of), ("_law_move_back", 1, sq_move_back)], [], nn⟩
theorem zcs_law_path_by : cSs ztb_law_path_by 60 ⟨["_law_box", "_law_most", "_law_way", "_law_many", "_law_start", "_law_moves", "_law_left", "_law_turn", "_law_move"], defScope zst_law_path_by, fun _ => true⟩ (defBody zst_law_path_by) = some q_path_by_0 := by rfl
theorem zsc_law_fraction_by : FnScope ["_law_box", "_law_way", "_law_hand"] ["_law_box"] (defScope zst_law_fraction_by) := ⟨rfl, rfl, rfl, by decide +kernel, rfl, by decide +kernel, by decide +kernel⟩
def ztb_law_fraction_by : Tab := ⟨[("_law_take", 2, sl_take), ("_law_lowest", 2, sq_lowest)], [], nn⟩
theorem zcs_law_fraction_by : cSs ztb_law_fraction_by 60 ⟨["_law_box", "_law_way", "_law_hand"], defScope zst_law_fraction_by, fun _ => true⟩ (defBody zst_law_fraction_by) = some q_fraction_by_0 := by rfl
theorem zsc_law_asked : FnScope ["_law_which", "_law_thing", "_law_found", "error", "_law_kinds"] ["_law_which", "_law_thing"] (defScope zst_law_asked) := ⟨rfl, rfl, rfl, by decide +kernel, rfl, by decide +kernel, by decide +kernel⟩
theorem zsc_law : FnScope ["_law_script", "_law_cells", "_law_k", "_law_box", "_law_paths_drawn", "_law_some", "_law_texts", "_law_told", "_law_turn", "_law_which", "_law_at", "_law_found", "_law_due", "_law_again", "_law_one", "_law_text"] ["_law_script"] (defScope zst_law) := ⟨rfl, rfl, rfl, by decide +kernel, rfl, by decide +kernel, by decide +kernel⟩
def ztb_law : Tab := ⟨[("fraction_text", 1, s_fraction_text), ("path_text", 1, s_path_text), ("_law_box_of", 2, sl_box_of), ("_law_take", 2, sl_take), ("_law_folded", 2, sl_folded), ("_law_path_by", 2, sq_path_by), ("_law_fraction_by", 1, sq_fraction_by), ("_law_asked", 2, sq_asked)], [], nn⟩
theorem zcs_law : cSs ztb_law 60 ⟨["_law_script", "_law_cells", "_law_k", "_law_box", "_law_paths_drawn", "_law_some", "_law_texts", "_law_told", "_law_turn", "_law_which", "_law_at", "_law_found", "_law_due", "_law_again", "_law_one", "_law_text"], defScope zst_law, fun _ => true⟩ (defBody zst_law) = some l_law_0 := by rfl
theorem zall_mk {l : PySem.W.OpenLaw} {w : World} {K : PySem.W.Frag} {h : Heap} {mg : Str → Option Value} {fa : Addr} (X : K.In h) (G : h.Ns mainGlobals mg) (hfa : mg "law" = some (.ref fa)) (c : SaysM zfb zfn K) :
    ∃ fd : FuncData, (∀ (s : Shared) (v : Value), BindsTo s fd ⟨[v], []⟩ [("_law_script", v)]) ∧ ∀ base : Heap, K.In base → base.Ns mainGlobals mg → FnG l.prog w K mg base 11 fa fd ["_law_script"] (liftSp K 1 sl_law) := by
  obtain ⟨f0, a0, fd0, F0⟩ := c.fun_ (x := "is_number") (st := zst_is_number) 0 rfl
  obtain ⟨f1, a1, fd1, F1⟩ := c.fun_ (x := "divisor_of") (st := zst_divisor_of) 1 rfl
  obtain ⟨f2, a2, fd2, F2⟩ := c.fun_ (x := "is_fraction") (st := zst_is_fraction) 2 rfl
  obtain ⟨f3, a3, fd3, F3⟩ := c.fun_ (x := "fraction") (st := zst_fraction) 3 rfl
  obtain ⟨f4, a4, fd4, F4⟩ := c.fun_ (x := "added") (st := zst_added) 4 rfl
  obtain ⟨f5, a5, fd5, F5⟩ := c.fun_ (x := "taken") (st := zst_taken) 5 rfl
  obtain ⟨f6, a6, fd6, F6⟩ := c.fun_ (x := "times") (st := zst_times) 6 rfl
  obtain ⟨f7, a7, fd7, F7⟩ := c.fun_ (x := "whole_root") (st := zst_whole_root) 7 rfl
  obtain ⟨f8, a8, fd8, F8⟩ := c.fun_ (x := "root_of") (st := zst_root_of) 8 rfl
  obtain ⟨f9, a9, fd9, F9⟩ := c.fun_ (x := "minus") (st := zst_minus) 9 rfl
  obtain ⟨f10, a10, fd10, F10⟩ := c.fun_ (x := "dot") (st := zst_dot) 10 rfl
  obtain ⟨f11, a11, fd11, F11⟩ := c.fun_ (x := "length_of") (st := zst_length_of) 11 rfl
  obtain ⟨f12, a12, fd12, F12⟩ := c.fun_ (x := "is_point") (st := zst_is_point) 12 rfl
  obtain ⟨f13, a13, fd13, F13⟩ := c.fun_ (x := "is_side") (st := zst_is_side) 13 rfl
  obtain ⟨f14, a14, fd14, F14⟩ := c.fun_ (x := "is_arc") (st := zst_is_arc) 14 rfl
  obtain ⟨f15, a15, fd15, F15⟩ := c.fun_ (x := "is_piece") (st := zst_is_piece) 15 rfl
  obtain ⟨f16, a16, fd16, F16⟩ := c.fun_ (x := "to_of") (st := zst_to_of) 16 rfl
  obtain ⟨f17, a17, fd17, F17⟩ := c.fun_ (x := "is_path") (st := zst_is_path) 17 rfl
  obtain ⟨f18, a18, fd18, F18⟩ := c.fun_ (x := "fraction_text") (st := zst_fraction_text) 18 rfl
  obtain ⟨f19, a19, fd19, F19⟩ := c.fun_ (x := "number_in") (st := zst_number_in) 19 rfl
  obtain ⟨f20, a20, fd20, F20⟩ := c.fun_ (x := "fraction_in") (st := zst_fraction_in) 20 rfl
  obtain ⟨f21, a21, fd21, F21⟩ := c.fun_ (x := "fraction_from") (st := zst_fraction_from) 21 rfl
  obtain ⟨f22, a22, fd22, F22⟩ := c.fun_ (x := "point_text") (st := zst_point_text) 22 rfl
  obtain ⟨f23, a23, fd23, F23⟩ := c.fun_ (x := "piece_text") (st := zst_piece_text) 23 rfl
  obtain ⟨f24, a24, fd24, F24⟩ := c.fun_ (x := "path_text") (st := zst_path_text) 24 rfl
  obtain ⟨f25, a25, fd25, F25⟩ := c.fun_ (x := "point_in") (st := zst_point_in) 25 rfl
  obtain ⟨f26, a26, fd26, F26⟩ := c.fun_ (x := "piece_ahead") (st := zst_piece_ahead) 26 rfl
  obtain ⟨f27, a27, fd27, F27⟩ := c.fun_ (x := "path_in") (st := zst_path_in) 27 rfl
  obtain ⟨f28, a28, fd28, F28⟩ := c.fun_ (x := "path_from") (st := zst_path_from) 28 rfl
  obtain ⟨f29, a29, fd29, F29⟩ := c.fun_ (x := "_law_box_of") (st := zst_law_box_of) 29 rfl
  obtain ⟨f30, a30, fd30, F30⟩ := c.fun_ (x := "_law_take") (st := zst_law_take) 30 rfl
  obtain ⟨f31, a31, fd31, F31⟩ := c.fun_ (x := "_law_folded") (st := zst_law_folded) 31 rfl
  obtain ⟨f32, a32, fd32, F32⟩ := c.fun_ (x := "_law_lowest") (st := zst_law_lowest) 32 rfl
  obtain ⟨f33, a33, fd33, F33⟩ := c.fun_ (x := "_law_sum") (st := zst_law_sum) 33 rfl
  obtain ⟨f34, a34, fd34, F34⟩ := c.fun_ (x := "_law_product") (st := zst_law_product) 34 rfl
  obtain ⟨f35, a35, fd35, F35⟩ := c.fun_ (x := "_law_less") (st := zst_law_less) 35 rfl
  obtain ⟨f36, a36, fd36, F36⟩ := c.fun_ (x := "_law_joined") (st := zst_law_joined) 36 rfl
  obtain ⟨f37, a37, fd37, F37⟩ := c.fun_ (x := "_law_off") (st := zst_law_off) 37 rfl
  obtain ⟨f38, a38, fd38, F38⟩ := c.fun_ (x := "_law_scaled_by") (st := zst_law_scaled_by) 38 rfl
  obtain ⟨f39, a39, fd39, F39⟩ := c.fun_ (x := "_law_to_left") (st := zst_law_to_left) 39 rfl
  obtain ⟨f40, a40, fd40, F40⟩ := c.fun_ (x := "_law_unit_of") (st := zst_law_unit_of) 40 rfl
  obtain ⟨f41, a41, fd41, F41⟩ := c.fun_ (x := "_law_move_by") (st := zst_law_move_by) 41 rfl
  obtain ⟨f42, a42, fd42, F42⟩ := c.fun_ (x := "_law_path_of") (st := zst_law_path_of) 42 rfl
  obtain ⟨f43, a43, fd43, F43⟩ := c.fun_ (x := "_law_move_back") (st := zst_law_move_back) 43 rfl
  obtain ⟨f44, a44, fd44, F44⟩ := c.fun_ (x := "_law_path_by") (st := zst_law_path_by) 44 rfl
  obtain ⟨f45, a45, fd45, F45⟩ := c.fun_ (x := "_law_fraction_by") (st := zst_law_fraction_by) 45 rfl
  obtain ⟨f46, a46, fd46, F46⟩ := c.fun_ (x := "_law_asked") (st := zst_law_asked) 46 rfl
  obtain ⟨f47, a47, fd47, F47⟩ := c.fun_ (x := "law") (st := zst_law) 47 rfl
  have e := hfa.symm.trans (PySem.W.mg_of X G a47)
  cases e
  obtain ⟨u_SIDE, v_SIDE, gu_SIDE, gr_SIDE, gp_SIDE⟩ := c.cn X G (x := "SIDE") (p := .str "side") 0 rfl
  obtain ⟨u_ARC, v_ARC, gu_ARC, gr_ARC, gp_ARC⟩ := c.cn X G (x := "ARC") (p := .str "arc") 1 rfl
  obtain ⟨u_NOUGHT, v_NOUGHT, gu_NOUGHT, gr_NOUGHT, gp_NOUGHT⟩ := c.cn X G (x := "NOUGHT") (p := .tup [.int 0, .int 1]) 2 rfl
  obtain ⟨u_TURNS_paths, v_TURNS_paths, gu_TURNS_paths, gr_TURNS_paths, gp_TURNS_paths⟩ := c.cn X G (x := "TURNS_paths") (p := .tup [.str "left", .str "right"]) 3 rfl
  obtain ⟨u_FIGURES, v_FIGURES, gu_FIGURES, gr_FIGURES, gp_FIGURES⟩ := c.cn X G (x := "FIGURES") (p := .str "0123456789") 4 rfl
  obtain ⟨u_MOST_FIGURES, v_MOST_FIGURES, gu_MOST_FIGURES, gr_MOST_FIGURES, gp_MOST_FIGURES⟩ := c.cn X G (x := "MOST_FIGURES") (p := .int 60) 5 rfl
  obtain ⟨u_TURNS_texts, v_TURNS_texts, gu_TURNS_texts, gr_TURNS_texts, gp_TURNS_texts⟩ := c.cn X G (x := "TURNS_texts") (p := .tup [.str "left", .str "right"]) 6 rfl
  have n_BadNumber : PySem.W.nsIn K mainGlobals "BadNumber" = some (some (.ref (He.ga K "BadNumber"))) := of_decide_eq_true (c.fact 7 rfl)
  have n_BadPath : PySem.W.nsIn K mainGlobals "BadPath" = some (some (.ref (He.ga K "BadPath"))) := of_decide_eq_true (c.fact 8 rfl)
  have n_BadSheet : PySem.W.nsIn K mainGlobals "BadSheet" = some (some (.ref (He.ga K "BadSheet"))) := of_decide_eq_true (c.fact 9 rfl)
  have n_SideError : PySem.W.nsIn K mainGlobals "SideError" = some (some (.ref (He.ga K "SideError"))) := of_decide_eq_true (c.fact 10 rfl)
  have b_BadNumber : PySem.W.subIn K (.ref (He.ga K "BadNumber")) (.type "BaseException") = some true := of_decide_eq_true (c.fact 11 rfl)
  have t_BadNumber : PySem.W.typeIn K (.ref (He.ga K "BadNumber")) = some (.type "type") := of_decide_eq_true (c.fact 12 rfl)
  have d_BadNumber : PySem.W.hasDictIn K (He.ga K "BadNumber") = true := c.fact 13 rfl
  have b_BadPath : PySem.W.subIn K (.ref (He.ga K "BadPath")) (.type "BaseException") = some true := of_decide_eq_true (c.fact 14 rfl)
  have t_BadPath : PySem.W.typeIn K (.ref (He.ga K "BadPath")) = some (.type "type") := of_decide_eq_true (c.fact 15 rfl)
  have d_BadPath : PySem.W.hasDictIn K (He.ga K "BadPath") = true := c.fact 16 rfl
  have b_SideError : PySem.W.subIn K (.ref (He.ga K "SideError")) (.type "BaseException") = some true := of_decide_eq_true (c.fact 17 rfl)
  have t_SideError : PySem.W.typeIn K (.ref (He.ga K "SideError")) = some (.type "type") := of_decide_eq_true (c.fact 18 rfl)
  have d_SideError : PySem.W.hasDictIn K (He.ga K "SideError") = true := c.fact 19 rfl
  have x_BadNumber : PySem.W.excIn K (He.ga K "BadNumber") [.type "ValueError", .type "Exception", .type "BaseException", .type "object"] "ValueError.__new__" = true := c.fact 20 rfl
  have k_BadNumber : PySem.W.keepIn K (.ref (He.ga K "BadNumber")) = true := c.fact 21 rfl
  have s_BadNumber : PySem.W.subIn K (.ref (He.ga K "BadNumber")) (.ref (He.ga K "SideError")) = some true := of_decide_eq_true (c.fact 22 rfl)
  have e1_BadNumber : PySem.W.findIn K (.ref (He.ga K "BadNumber")) "__getattribute__" = some (some (.builtin "BaseException.__getattribute__")) := of_decide_eq_true (c.fact 23 rfl)
  have e2_BadNumber : PySem.W.findIn K (.ref (He.ga K "BadNumber")) "__getattr__" = some none := of_decide_eq_true (c.fact 24 rfl)
  have e3_BadNumber : PySem.W.findIn K (.ref (He.ga K "BadNumber")) "__class__" = some (some (.builtin "object.__class__")) := of_decide_eq_true (c.fact 25 rfl)
  have e4_BadNumber : PySem.W.mroIn K (He.ga K "BadNumber") (.type "object") = some true := of_decide_eq_true (c.fact 26 rfl)
  have i_BadNumber_BadNumber : PySem.W.kitOne K (.ref (He.ga K "BadNumber")) (.ref (He.ga K "BadNumber")) = some true := of_decide_eq_true (c.fact 27 rfl)
  have i_BadNumber_BadPath : PySem.W.kitOne K (.ref (He.ga K "BadNumber")) (.ref (He.ga K "BadPath")) = some false := of_decide_eq_true (c.fact 28 rfl)
  have i_BadNumber_BadSheet : PySem.W.kitOne K (.ref (He.ga K "BadNumber")) (.ref (He.ga K "BadSheet")) = some false := of_decide_eq_true (c.fact 29 rfl)
  have i_BadNumber_ValueError : PySem.W.kitOne K (.ref (He.ga K "BadNumber")) (.type "ValueError") = some true := of_decide_eq_true (c.fact 30 rfl)
  have x_BadPath : PySem.W.excIn K (He.ga K "BadPath") [.type "ValueError", .type "Exception", .type "BaseException", .type "object"] "ValueError.__new__" = true := c.fact 31 rfl
  have k_BadPath : PySem.W.keepIn K (.ref (He.ga K "BadPath")) = true := c.fact 32 rfl
  have s_BadPath : PySem.W.subIn K (.ref (He.ga K "BadPath")) (.ref (He.ga K "SideError")) = some true := of_decide_eq_true (c.fact 33 rfl)
  have e1_BadPath : PySem.W.findIn K (.ref (He.ga K "BadPath")) "__getattribute__" = some (some (.builtin "BaseException.__getattribute__")) := of_decide_eq_true (c.fact 34 rfl)
  have e2_BadPath : PySem.W.findIn K (.ref (He.ga K "BadPath")) "__getattr__" = some none := of_decide_eq_true (c.fact 35 rfl)
  have e3_BadPath : PySem.W.findIn K (.ref (He.ga K "BadPath")) "__class__" = some (some (.builtin "object.__class__")) := of_decide_eq_true (c.fact 36 rfl)
  have e4_BadPath : PySem.W.mroIn K (He.ga K "BadPath") (.type "object") = some true := of_decide_eq_true (c.fact 37 rfl)
  have i_BadPath_BadNumber : PySem.W.kitOne K (.ref (He.ga K "BadPath")) (.ref (He.ga K "BadNumber")) = some false := of_decide_eq_true (c.fact 38 rfl)
  have i_BadPath_BadPath : PySem.W.kitOne K (.ref (He.ga K "BadPath")) (.ref (He.ga K "BadPath")) = some true := of_decide_eq_true (c.fact 39 rfl)
  have i_BadPath_BadSheet : PySem.W.kitOne K (.ref (He.ga K "BadPath")) (.ref (He.ga K "BadSheet")) = some false := of_decide_eq_true (c.fact 40 rfl)
  have i_BadPath_ValueError : PySem.W.kitOne K (.ref (He.ga K "BadPath")) (.type "ValueError") = some true := of_decide_eq_true (c.fact 41 rfl)
  have y1 : PySem.W.specialIn K (.builtin "object.__class__") "__get__" = some (some (.builtin "getset_descriptor.__get__")) := of_decide_eq_true (c.fact 42 rfl)
  have y2 : PySem.W.takesIn K (.builtin "object.__class__") = some true := of_decide_eq_true (c.fact 43 rfl)
  have nk : NonOk mg nn := .cons (c.free X G (x := "bool") 44 rfl) (.cons (c.free X G (x := "int") 45 rfl) (.cons (c.free X G (x := "isinstance") 46 rfl) (.cons (c.free X G (x := "abs") 47 rfl) (.cons (c.free X G (x := "len") 48 rfl) (.cons (c.free X G (x := "tuple") 49 rfl) (.cons (c.free X G (x := "all") 50 rfl) (.cons (c.free X G (x := "str") 51 rfl) (.cons (c.free X G (x := "divmod") 52 rfl) (.cons (c.free X G (x := "enumerate") 53 rfl) (.cons (c.free X G (x := "list") 54 rfl) (.cons (c.free X G (x := "range") 55 rfl) (.cons (c.free X G (x := "ValueError") 56 rfl) (.nil)))))))))))))
  have bL : ∀ (s : Shared) (v : Value), BindsTo s fd47 ⟨[v], []⟩ [("_law_script", v)] := by
    obtain ⟨_, _, kV, dc, pm, an, cd, ct, _, rfl, _, _⟩ := F47.ex
    exact fun s v => .of_eq rfl
  refine ⟨fd47, bL, fun base _ _ => ?_⟩
  let cl : Nat → Value := fun kd => if kd = 0 then .ref (He.ga K "BadNumber") else .ref (He.ga K "BadPath")
  have hE0 : ∃ D, cl 0 = .ref D ∧ ExcC K D := ⟨(He.ga K "BadNumber"), rfl, e1_BadNumber, e2_BadNumber, b_BadNumber, d_BadNumber, e3_BadNumber, y1, y2, e4_BadNumber⟩
  have hR0 : RaC K mg cl "BadNumber" 0 := ⟨(He.ga K "BadNumber"), _, _, _, _, rfl, PySem.F.excBase_ValueError, x_BadNumber, PySem.W.mg_of X G n_BadNumber, k_BadNumber, b_BadNumber, t_BadNumber⟩
  have hS0 : ∃ c, mg "SideError" = some c ∧ PySem.W.exmOne K (cl 0) c = some true := ⟨.ref (He.ga K "SideError"), PySem.W.mg_of X G n_SideError, PySem.W.exm_ref b_SideError d_SideError t_SideError s_BadNumber⟩
  have hC0_BadNumber : ErC K mg (cl 0) "BadNumber" true := ⟨(He.ga K "BadNumber"), .ref (He.ga K "BadNumber"), .ref (He.ga K "BadNumber"), rfl, .own _, .inl (PySem.W.mg_of X G n_BadNumber), i_BadNumber_BadNumber⟩
  have hC0_BadPath : ErC K mg (cl 0) "BadPath" false := ⟨(He.ga K "BadNumber"), .ref (He.ga K "BadPath"), .ref (He.ga K "BadPath"), rfl, .own _, .inl (PySem.W.mg_of X G n_BadPath), i_BadNumber_BadPath⟩
  have hC0_BadSheet : ErC K mg (cl 0) "BadSheet" false := ⟨(He.ga K "BadNumber"), .ref (He.ga K "BadSheet"), .ref (He.ga K "BadSheet"), rfl, .own _, .inl (PySem.W.mg_of X G n_BadSheet), i_BadNumber_BadSheet⟩
  have hC0_ValueError : ErC K mg (cl 0) "ValueError" true := ⟨(He.ga K "BadNumber"), .ty "ValueError", .type "ValueError", rfl, .ty _, .inr ⟨nk _ (by rfl), PyProof.Rows.Boot.«ValueError»⟩, i_BadNumber_ValueError⟩
  have hE1 : ∃ D, cl 1 = .ref D ∧ ExcC K D := ⟨(He.ga K "BadPath"), rfl, e1_BadPath, e2_BadPath, b_BadPath, d_BadPath, e3_BadPath, y1, y2, e4_BadPath⟩
  have hR1 : RaC K mg cl "BadPath" 1 := ⟨(He.ga K "BadPath"), _, _, _, _, rfl, PySem.F.excBase_ValueError, x_BadPath, PySem.W.mg_of X G n_BadPath, k_BadPath, b_BadPath, t_BadPath⟩
  have hS1 : ∃ c, mg "SideError" = some c ∧ PySem.W.exmOne K (cl 1) c = some true := ⟨.ref (He.ga K "SideError"), PySem.W.mg_of X G n_SideError, PySem.W.exm_ref b_SideError d_SideError t_SideError s_BadPath⟩
  have hC1_BadNumber : ErC K mg (cl 1) "BadNumber" false := ⟨(He.ga K "BadPath"), .ref (He.ga K "BadNumber"), .ref (He.ga K "BadNumber"), rfl, .own _, .inl (PySem.W.mg_of X G n_BadNumber), i_BadPath_BadNumber⟩
  have hC1_BadPath : ErC K mg (cl 1) "BadPath" true := ⟨(He.ga K "BadPath"), .ref (He.ga K "BadPath"), .ref (He.ga K "BadPath"), rfl, .own _, .inl (PySem.W.mg_of X G n_BadPath), i_BadPath_BadPath⟩
  have hC1_BadSheet : ErC K mg (cl 1) "BadSheet" false := ⟨(He.ga K "BadPath"), .ref (He.ga K "BadSheet"), .ref (He.ga K "BadSheet"), rfl, .own _, .inl (PySem.W.mg_of X G n_BadSheet), i_BadPath_BadSheet⟩
  have hC1_ValueError : ErC K mg (cl 1) "ValueError" true := ⟨(He.ga K "BadPath"), .ty "ValueError", .type "ValueError", rfl, .ty _, .inr ⟨nk _ (by rfl), PyProof.Rows.Boot.«ValueError»⟩, i_BadPath_ValueError⟩
  have b0 := F0.binds (ps := ["thing"]) fun _ _ _ _ _ _ us hl => match us, hl with | [_], _ => rfl
  have g0 : FnIs l.prog w K mg base 1 "is_number" 1 s_is_number := def_ok (k := 0) (TabOk.start nk) F0 zsc_is_number zcs_is_number (PySem.W.mg_of X G a0) b0 ok_is_number
  have b1 := F1.binds (ps := ["one", "other"]) fun _ _ _ _ _ _ us hl => match us, hl with | [_, _], _ => rfl
  have g1 : FnIs l.prog w K mg base 1 "divisor_of" 2 s_divisor_of := def_ok (k := 0) (TabOk.start nk) F1 zsc_divisor_of zcs_divisor_of (PySem.W.mg_of X G a1) b1 ok_divisor_of
  have b7 := F7.binds (ps := ["number"]) fun _ _ _ _ _ _ us hl => match us, hl with | [_], _ => rfl
  have g7 : FnIs l.prog w K mg base 1 "whole_root" 1 s_whole_root := def_ok (k := 0) (TabOk.start nk) F7 zsc_whole_root zcs_whole_root (PySem.W.mg_of X G a7) b7 ok_whole_root
  have b16 := F16.binds (ps := ["piece"]) fun _ _ _ _ _ _ us hl => match us, hl with | [_], _ => rfl
  have g16 : FnIs l.prog w K mg base 1 "to_of" 1 s_to_of := def_ok (k := 0) ((TabOk.start nk).cn (p := .str "side") gu_SIDE (v := v_SIDE) gr_SIDE gp_SIDE) F16 zsc_to_of zcs_to_of (PySem.W.mg_of X G a16) b16 ok_to_of
  have b18 := F18.binds (ps := ["one"]) fun _ _ _ _ _ _ us hl => match us, hl with | [_], _ => rfl
  have g18 : FnIs l.prog w K mg base 1 "fraction_text" 1 s_fraction_text := def_ok (k := 0) (TabOk.start nk) F18 zsc_fraction_text zcs_fraction_text (PySem.W.mg_of X G a18) b18 ok_fraction_text
  have b19 := F19.binds (ps := ["text"]) fun _ _ _ _ _ _ us hl => match us, hl with | [_], _ => rfl
  have g19 : FnIs l.prog w K mg base 1 "number_in" 1 s_number_in := def_ok (k := 0) (((TabOk.start nk).cn (p := .int 60) gu_MOST_FIGURES (v := v_MOST_FIGURES) gr_MOST_FIGURES gp_MOST_FIGURES).cn (p := .str "0123456789") gu_FIGURES (v := v_FIGURES) gr_FIGURES gp_FIGURES) F19 zsc_number_in zcs_number_in (PySem.W.mg_of X G a19) b19 ok_number_in
  have b29 := F29.binds (ps := ["_law_script", "_law_k"]) fun _ _ _ _ _ _ us hl => match us, hl with | [_, _], _ => rfl
  have g29 : FnIs l.prog w K mg base 1 "_law_box_of" 2 sl_box_of := def_ok (k := 0) (TabOk.start nk) F29 zsc_law_box_of zcs_law_box_of (PySem.W.mg_of X G a29) b29 ok_l_box_of
  have b30 := F30.binds (ps := ["_law_box", "_law_many"]) fun _ _ _ _ _ _ us hl => match us, hl with | [_, _], _ => rfl
  have g30 : FnIs l.prog w K mg base 1 "_law_take" 2 sl_take := def_ok (k := 0) (TabOk.start nk) F30 zsc_law_take zcs_law_take (PySem.W.mg_of X G a30) b30 ok_l_take
  have b31 := F31.binds (ps := ["_law_script", "_law_many"]) fun _ _ _ _ _ _ us hl => match us, hl with | [_, _], _ => rfl
  have g31 : FnIs l.prog w K mg base 1 "_law_folded" 2 sl_folded := def_ok (k := 0) (TabOk.start nk) F31 zsc_law_folded zcs_law_folded (PySem.W.mg_of X G a31) b31 ok_l_folded
  have b32 := F32.binds (ps := ["_law_n", "_law_d"]) fun _ _ _ _ _ _ us hl => match us, hl with | [_, _], _ => rfl
  have g32 : FnIs l.prog w K mg base 1 "_law_lowest" 2 sq_lowest := def_ok (k := 0) (TabOk.start nk) F32 zsc_law_lowest zcs_law_lowest (PySem.W.mg_of X G a32) b32 ok_q_lowest
  have b39 := F39.binds (ps := ["_law_vector"]) fun _ _ _ _ _ _ us hl => match us, hl with | [_], _ => rfl
  have g39 : FnIs l.prog w K mg base 1 "_law_to_left" 1 sq_to_left := def_ok (k := 0) (TabOk.start nk) F39 zsc_law_to_left zcs_law_to_left (PySem.W.mg_of X G a39) b39 ok_q_to_left
  have b2 := F2.binds (ps := ["thing"]) fun _ _ _ _ _ _ us hl => match us, hl with | [_], _ => rfl
  have g2 : FnIs l.prog w K mg base 2 "is_fraction" 1 s_is_fraction := def_ok (k := 1) (((TabOk.start nk).add (g1.mono (by decide))).add (g0.mono (by decide))) F2 zsc_is_fraction zcs_is_fraction (PySem.W.mg_of X G a2) b2 ok_is_fraction
  have b3 := F3.binds (ps := ["n", "d"]) fun _ _ _ _ _ _ us hl => match us, hl with | [_, _], _ => rfl
  have g3 : FnIs l.prog w K mg base 2 "fraction" 2 s_fraction := def_ok (k := 1) ((TabOk.start nk).add (g1.mono (by decide))) F3 zsc_fraction zcs_fraction (PySem.W.mg_of X G a3) b3 ok_fraction
  have b8 := F8.binds (ps := ["one"]) fun _ _ _ _ _ _ us hl => match us, hl with | [_], _ => rfl
  have g8 : FnIs l.prog w K mg base 2 "root_of" 1 s_root_of := def_ok (k := 1) ((TabOk.start nk).add (g7.mono (by decide))) F8 zsc_root_of zcs_root_of (PySem.W.mg_of X G a8) b8 ok_root_of
  have b22 := F22.binds (ps := ["point"]) fun _ _ _ _ _ _ us hl => match us, hl with | [_], _ => rfl
  have g22 : FnIs l.prog w K mg base 2 "point_text" 1 s_point_text := def_ok (k := 1) ((TabOk.start nk).add (g18.mono (by decide))) F22 zsc_point_text zcs_point_text (PySem.W.mg_of X G a22) b22 ok_point_text
  have b33 := F33.binds (ps := ["_law_one", "_law_other"]) fun _ _ _ _ _ _ us hl => match us, hl with | [_, _], _ => rfl
  have g33 : FnIs l.prog w K mg base 2 "_law_sum" 2 sq_sum := def_ok (k := 1) ((TabOk.start nk).add (g32.mono (by decide))) F33 zsc_law_sum zcs_law_sum (PySem.W.mg_of X G a33) b33 ok_q_sum
  have b34 := F34.binds (ps := ["_law_one", "_law_other"]) fun _ _ _ _ _ _ us hl => match us, hl with | [_, _], _ => rfl
  have g34 : FnIs l.prog w K mg base 2 "_law_product" 2 sq_product := def_ok (k := 1) ((TabOk.start nk).add (g32.mono (by decide))) F34 zsc_law_product zcs_law_product (PySem.W.mg_of X G a34) b34 ok_q_product
  have b35 := F35.binds (ps := ["_law_one", "_law_other"]) fun _ _ _ _ _ _ us hl => match us, hl with | [_, _], _ => rfl
  have g35 : FnIs l.prog w K mg base 2 "_law_less" 2 sq_less := def_ok (k := 1) ((TabOk.start nk).add (g32.mono (by decide))) F35 zsc_law_less zcs_law_less (PySem.W.mg_of X G a35) b35 ok_q_less
  have b40 := F40.binds (ps := ["_law_k"]) fun _ _ _ _ _ _ us hl => match us, hl with | [_], _ => rfl
  have g40 : FnIs l.prog w K mg base 2 "_law_unit_of" 1 sq_unit_of := def_ok (k := 1) ((TabOk.start nk).add (g39.mono (by decide))) F40 zsc_law_unit_of zcs_law_unit_of (PySem.W.mg_of X G a40) b40 ok_q_unit_of
  have b45 := F45.binds (ps := ["_law_box"]) fun _ _ _ _ _ _ us hl => match us, hl with | [_], _ => rfl
  have g45 : FnIs l.prog w K mg base 2 "_law_fraction_by" 1 sq_fraction_by := def_ok (k := 1) (((TabOk.start nk).add (g32.mono (by decide))).add (g30.mono (by decide))) F45 zsc_law_fraction_by zcs_law_fraction_by (PySem.W.mg_of X G a45) b45 ok_q_fraction_by
  have b4 := F4.binds (ps := ["one", "other"]) fun _ _ _ _ _ _ us hl => match us, hl with | [_, _], _ => rfl
  have g4 : FnIs l.prog w K mg base 3 "added" 2 s_added := def_ok (k := 2) ((TabOk.start nk).add (g3.mono (by decide))) F4 zsc_added zcs_added (PySem.W.mg_of X G a4) b4 ok_added
  have b5 := F5.binds (ps := ["one", "other"]) fun _ _ _ _ _ _ us hl => match us, hl with | [_, _], _ => rfl
  have g5 : FnIs l.prog w K mg base 3 "taken" 2 s_taken := def_ok (k := 2) ((TabOk.start nk).add (g3.mono (by decide))) F5 zsc_taken zcs_taken (PySem.W.mg_of X G a5) b5 ok_taken
  have b6 := F6.binds (ps := ["one", "other"]) fun _ _ _ _ _ _ us hl => match us, hl with | [_, _], _ => rfl
  have g6 : FnIs l.prog w K mg base 3 "times" 2 s_times := def_ok (k := 2) ((TabOk.start nk).add (g3.mono (by decide))) F6 zsc_times zcs_times (PySem.W.mg_of X G a6) b6 ok_times
  have b12 := F12.binds (ps := ["thing"]) fun _ _ _ _ _ _ us hl => match us, hl with | [_], _ => rfl
  have g12 : FnIs l.prog w K mg base 3 "is_point" 1 s_is_point := def_ok (k := 2) ((TabOk.start nk).add (g2.mono (by decide))) F12 zsc_is_point zcs_is_point (PySem.W.mg_of X G a12) b12 ok_is_point
  have b20 := F20.binds (ps := ["text"]) fun _ _ _ _ _ _ us hl => match us, hl with | [_], _ => rfl
  have g20 : FnIs l.prog w K mg base 3 "fraction_in" 1 s_fraction_in := def_ok (k := 2) ((((TabOk.start nk).add (g19.mono (by decide))).add (g18.mono (by decide))).add (g3.mono (by decide))) F20 zsc_fraction_in zcs_fraction_in (PySem.W.mg_of X G a20) b20 ok_fraction_in
  have b23 := F23.binds (ps := ["piece"]) fun _ _ _ _ _ _ us hl => match us, hl with | [_], _ => rfl
  have g23 : FnIs l.prog w K mg base 3 "piece_text" 1 s_piece_text := def_ok (k := 2) ((TabOk.start nk).add (g22.mono (by decide))) F23 zsc_piece_text zcs_piece_text (PySem.W.mg_of X G a23) b23 ok_piece_text
  have b36 := F36.binds (ps := ["_law_one", "_law_other"]) fun _ _ _ _ _ _ us hl => match us, hl with | [_, _], _ => rfl
  have g36 : FnIs l.prog w K mg base 3 "_law_joined" 2 sq_joined := def_ok (k := 2) ((TabOk.start nk).add (g33.mono (by decide))) F36 zsc_law_joined zcs_law_joined (PySem.W.mg_of X G a36) b36 ok_q_joined
  have b37 := F37.binds (ps := ["_law_one", "_law_other"]) fun _ _ _ _ _ _ us hl => match us, hl with | [_, _], _ => rfl
  have g37 : FnIs l.prog w K mg base 3 "_law_off" 2 sq_off := def_ok (k := 2) ((TabOk.start nk).add (g35.mono (by decide))) F37 zsc_law_off zcs_law_off (PySem.W.mg_of X G a37) b37 ok_q_off
  have b38 := F38.binds (ps := ["_law_vector", "_law_share"]) fun _ _ _ _ _ _ us hl => match us, hl with | [_, _], _ => rfl
  have g38 : FnIs l.prog w K mg base 3 "_law_scaled_by" 2 sq_scaled_by := def_ok (k := 2) ((TabOk.start nk).add (g34.mono (by decide))) F38 zsc_law_scaled_by zcs_law_scaled_by (PySem.W.mg_of X G a38) b38 ok_q_scaled_by
  have b41 := F41.binds (ps := ["_law_box", "_law_arcs"]) fun _ _ _ _ _ _ us hl => match us, hl with | [_, _], _ => rfl
  have g41 : FnIs l.prog w K mg base 3 "_law_move_by" 2 sq_move_by := def_ok (k := 2) (((TabOk.start nk).add (g40.mono (by decide))).add (g30.mono (by decide))) F41 zsc_law_move_by zcs_law_move_by (PySem.W.mg_of X G a41) b41 ok_q_move_by
  have b9 := F9.binds (ps := ["one", "other"]) fun _ _ _ _ _ _ us hl => match us, hl with | [_, _], _ => rfl
  have g9 : FnIs l.prog w K mg base 4 "minus" 2 s_minus := def_ok (k := 3) ((TabOk.start nk).add (g5.mono (by decide))) F9 zsc_minus zcs_minus (PySem.W.mg_of X G a9) b9 ok_minus
  have b10 := F10.binds (ps := ["one", "other"]) fun _ _ _ _ _ _ us hl => match us, hl with | [_, _], _ => rfl
  have g10 : FnIs l.prog w K mg base 4 "dot" 2 s_dot := def_ok (k := 3) (((TabOk.start nk).add (g6.mono (by decide))).add (g4.mono (by decide))) F10 zsc_dot zcs_dot (PySem.W.mg_of X G a10) b10 ok_dot
  have b21 := F21.binds (ps := ["text"]) fun _ _ _ _ _ _ us hl => match us, hl with | [_], _ => rfl
  have g21 : FnIsX l.prog w K mg base cl 4 "fraction_from" 1 s_fraction_from := ⟨_, _, _, PySem.W.mg_of X G a21, F21.kp, b21, zrx_fraction_from (k := 3) ((TabOk.start nk).add (g20.mono (by decide))) F21 hR0⟩
  have b24 := F24.binds (ps := ["path"]) fun _ _ _ _ _ _ us hl => match us, hl with | [_], _ => rfl
  have g24 : FnIs l.prog w K mg base 4 "path_text" 1 s_path_text := def_ok (k := 3) (((TabOk.start nk).add (g23.mono (by decide))).add (g22.mono (by decide))) F24 zsc_path_text zcs_path_text (PySem.W.mg_of X G a24) b24 ok_path_text
  have b25 := F25.binds (ps := ["words"]) fun _ _ _ _ _ _ us hl => match us, hl with | [_], _ => rfl
  have g25 : FnIs l.prog w K mg base 4 "point_in" 1 s_point_in := def_ok (k := 3) ((TabOk.start nk).add (g20.mono (by decide))) F25 zsc_point_in zcs_point_in (PySem.W.mg_of X G a25) b25 ok_point_in
  have b42 := F42.binds (ps := ["_law_start", "_law_moves"]) fun _ _ _ _ _ _ us hl => match us, hl with | [_, _], _ => rfl
  have g42 : FnIs l.prog w K mg base 4 "_law_path_of" 2 sq_path_of := def_ok (k := 3) ((((TabOk.start nk).add (g38.mono (by decide))).add (g37.mono (by decide))).add (g36.mono (by decide))) F42 zsc_law_path_of zcs_law_path_of (PySem.W.mg_of X G a42) b42 ok_q_path_of
  have b43 := F43.binds (ps := ["_law_move"]) fun _ _ _ _ _ _ us hl => match us, hl with | [_], _ => rfl
  have g43 : FnIs l.prog w K mg base 4 "_law_move_back" 1 sq_move_back := def_ok (k := 3) ((TabOk.start nk).add (g38.mono (by decide))) F43 zsc_law_move_back zcs_law_move_back (PySem.W.mg_of X G a43) b43 ok_q_move_back
  have b11 := F11.binds (ps := ["vector"]) fun _ _ _ _ _ _ us hl => match us, hl with | [_], _ => rfl
  have g11 : FnIs l.prog w K mg base 5 "length_of" 1 s_length_of := def_ok (k := 4) (((TabOk.start nk).add (g10.mono (by decide))).add (g8.mono (by decide))) F11 zsc_length_of zcs_length_of (PySem.W.mg_of X G a11) b11 ok_length_of
  have b26 := F26.binds (ps := ["words"]) fun _ _ _ _ _ _ us hl => match us, hl with | [_], _ => rfl
  have g26 : FnIs l.prog w K mg base 5 "piece_ahead" 1 s_piece_ahead := def_ok (k := 4) (((TabOk.start nk).cn (p := .tup [.str "left", .str "right"]) gu_TURNS_texts (v := v_TURNS_texts) gr_TURNS_texts gp_TURNS_texts).add (g25.mono (by decide))) F26 zsc_piece_ahead zcs_piece_ahead (PySem.W.mg_of X G a26) b26 ok_piece_ahead
  have b44 := F44.binds (ps := ["_law_box", "_law_most"]) fun _ _ _ _ _ _ us hl => match us, hl with | [_, _], _ => rfl
  have g44 : FnIs l.prog w K mg base 5 "_law_path_by" 2 sq_path_by := def_ok (k := 4) (((((TabOk.start nk).add (g43.mono (by decide))).add (g42.mono (by decide))).add (g41.mono (by decide))).add (g30.mono (by decide))) F44 zsc_law_path_by zcs_law_path_by (PySem.W.mg_of X G a44) b44 ok_q_path_by
  have b13 := F13.binds (ps := ["begin", "thing"]) fun _ _ _ _ _ _ us hl => match us, hl with | [_, _], _ => rfl
  have g13 : FnIs l.prog w K mg base 6 "is_side" 2 s_is_side := def_ok (k := 5) (((((TabOk.start nk).cn (p := .str "side") gu_SIDE (v := v_SIDE) gr_SIDE gp_SIDE).add (g12.mono (by decide))).add (g11.mono (by decide))).add (g9.mono (by decide))) F13 zsc_is_side zcs_is_side (PySem.W.mg_of X G a13) b13 ok_is_side
  have b14 := F14.binds (ps := ["begin", "thing"]) fun _ _ _ _ _ _ us hl => match us, hl with | [_, _], _ => rfl
  have g14 : FnIs l.prog w K mg base 6 "is_arc" 2 s_is_arc := def_ok (k := 5) (((((((TabOk.start nk).cn (p := .tup [.str "left", .str "right"]) gu_TURNS_paths (v := v_TURNS_paths) gr_TURNS_paths gp_TURNS_paths).cn (p := .tup [.int 0, .int 1]) gu_NOUGHT (v := v_NOUGHT) gr_NOUGHT gp_NOUGHT).cn (p := .str "arc") gu_ARC (v := v_ARC) gr_ARC gp_ARC).add (g12.mono (by decide))).add (g11.mono (by decide))).add (g9.mono (by decide))) F14 zsc_is_arc zcs_is_arc (PySem.W.mg_of X G a14) b14 ok_is_arc
  have b27 := F27.binds (ps := ["text"]) fun _ _ _ _ _ _ us hl => match us, hl with | [_], _ => rfl
  have g27 : FnIs l.prog w K mg base 6 "path_in" 1 s_path_in := def_ok (k := 5) (((TabOk.start nk).add (g26.mono (by decide))).add (g25.mono (by decide))) F27 zsc_path_in zcs_path_in (PySem.W.mg_of X G a27) b27 ok_path_in
  have b15 := F15.binds (ps := ["begin", "thing"]) fun _ _ _ _ _ _ us hl => match us, hl with | [_, _], _ => rfl
  have g15 : FnIs l.prog w K mg base 7 "is_piece" 2 s_is_piece := def_ok (k := 6) (((TabOk.start nk).add (g14.mono (by decide))).add (g13.mono (by decide))) F15 zsc_is_piece zcs_is_piece (PySem.W.mg_of X G a15) b15 ok_is_piece
  have b17 := F17.binds (ps := ["thing"]) fun _ _ _ _ _ _ us hl => match us, hl with | [_], _ => rfl
  have g17 : FnIs l.prog w K mg base 8 "is_path" 1 s_is_path := def_ok (k := 7) ((((TabOk.start nk).add (g16.mono (by decide))).add (g15.mono (by decide))).add (g12.mono (by decide))) F17 zsc_is_path zcs_is_path (PySem.W.mg_of X G a17) b17 ok_is_path
  have b28 := F28.binds (ps := ["text"]) fun _ _ _ _ _ _ us hl => match us, hl with | [_], _ => rfl
  have g28 : FnIsX l.prog w K mg base cl 9 "path_from" 1 s_path_from1 := ⟨_, _, _, PySem.W.mg_of X G a28, F28.kp, b28, zrx_path_from (k := 8) (((TabOk.start nk).add (g27.mono (by decide))).add (g17.mono (by decide))) F28 hR1⟩
  have b46 := F46.binds (ps := ["_law_which", "_law_thing"]) fun _ _ _ _ _ _ us hl => match us, hl with | [_, _], _ => rfl
  have hcs46 : ∃ c, mg "SideError" = some c ∧ ∀ kd, kd = 0 ∨ kd = 1 → PySem.W.exmOne K (cl kd) c = some true := ⟨.ref (He.ga K "SideError"), PySem.W.mg_of X G n_SideError, by
    intro kd hk
    rcases hk with rfl | rfl
    · exact PySem.W.exm_ref b_SideError d_SideError t_SideError s_BadNumber
    · exact PySem.W.exm_ref b_SideError d_SideError t_SideError s_BadPath⟩
  have hke46 : ∀ kd, kd = 0 ∨ kd = 1 → ∃ D bA bB bC, cl kd = .ref D ∧ ExcC K D ∧ ErC K mg (cl kd) "BadNumber" bA ∧ ErC K mg (cl kd) "BadPath" bB ∧ ErC K mg (cl kd) "BadSheet" bC ∧ ((bA = true ∧ bB = false ∧ bC = false ∧ rsk kd = "number") ∨ (bA = false ∧ bB = true ∧ bC = false ∧ rsk kd = "path")) := by
    intro kd hk
    rcases hk with rfl | rfl
    · exact ⟨(He.ga K "BadNumber"), true, false, false, rfl, ⟨e1_BadNumber, e2_BadNumber, b_BadNumber, d_BadNumber, e3_BadNumber, y1, y2, e4_BadNumber⟩, hC0_BadNumber, hC0_BadPath, hC0_BadSheet, .inl ⟨rfl, rfl, rfl, rfl⟩⟩
    · exact ⟨(He.ga K "BadPath"), false, true, false, rfl, ⟨e1_BadPath, e2_BadPath, b_BadPath, d_BadPath, e3_BadPath, y1, y2, e4_BadPath⟩, hC1_BadNumber, hC1_BadPath, hC1_BadSheet, .inr ⟨rfl, rfl, rfl, rfl⟩⟩
  have g46 : FnIs l.prog w K mg base 10 "_law_asked" 2 sq_asked := ⟨_, _, _, PySem.W.mg_of X G a46, F46.kp, b46, told2_fn (k := 9) F46 zsc_law_asked rfl (by decide) (by decide) (by decide) (by rfl) (by rfl) (g21.mono (by decide)) (g28.mono (by decide)) (nk _ (by rfl)) hcs46 hke46⟩
  exact def_fn (k := 10) (((((((((TabOk.start nk).add (g46.mono (by decide))).add (g45.mono (by decide))).add (g44.mono (by decide))).add (g31.mono (by decide))).add (g30.mono (by decide))).add (g29.mono (by decide))).add (g24.mono (by decide))).add (g18.mono (by decide))) F47 zsc_law zcs_law ok_l_law
end
end Mp
open PySem PySem.W PySem.Calls PyProof.Rows
set_option maxHeartbeats 0 in
theorem PySem.Challenge.cw_sidecut_k50_texts_again_and_shared_holds : PySem.Challenge.rw_sidecut_k50_texts_again_and_shared.Holds := by
  w_on; o_law
  refine HandSHeadRun.head_any (r := OpenLaw.row PySem.Challenge.rw_sidecut_k50_texts_again_and_shared) (q := view (OpenLaw.row PySem.Challenge.rw_sidecut_k50_texts_again_and_shared).prog [67]) (H := Mp.zhhk) (ob := Mp.zhob) (M := 20000) (loose := Mp.zhnames) (d := HandSHeadRun.topDef (OpenLaw.row PySem.Challenge.rw_sidecut_k50_texts_again_and_shared).prog 67) (kwd := []) Mp.zhob_eq
    (by kernel_rfl) (fun s => by kernel_rfl) Mp.zhrun (by kernel_rfl) (by kernel_rfl) (by kernel_rfl) (by rfl) (by first | assumption | decide +kernel) (by decide +kernel) ⟨rfl, rfl, rfl, rfl, rfl, by decide +kernel⟩ ?hw ?hc
  case hw => w_witness2
  case hc =>
    refine Mp.g_walkE (l := PySem.Challenge.rw_sidecut_k50_texts_again_and_shared) (n := 63) (k := 11) (x := "_law_script") (sp := fun K => Mp.liftSp K 1 Mp.sl_law) rfl (by decide) (by kernel_rfl) ⟨rfl, by decide, by decide⟩ ?F (fun _ _ a ns hl hO hS => Mp.law_sp hO hS ⟨ns, rfl, fun _ => rfl⟩)
    intro w mg fa h Y G hmg0
    obtain ⟨K, KX, c⟩ := Y
    have hmg : mg ("law" : PySem.Str) = some (.ref fa) := by
      have e : (HandSHeadRun.topDef (OpenLaw.row PySem.Challenge.rw_sidecut_k50_texts_again_and_shared).prog 67).name = ("law" : PySem.Str) := by kernel_rfl
      rw [← e]
      exact hmg0
    exact ⟨K, KX, Mp.zall_mk KX G hmg c⟩
