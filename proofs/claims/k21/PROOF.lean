import PyProof.Rows.All
import Wide.All
import OpenK.AllK
import Wide.FinOn
import HandS.ForMost
import HandS.Wide
import HandS.IsInst
import HandS.Walk
import HandS.Zip
import HandS.Rev
import HandS.Conv
import HandS.TupAny
import HandS.Style
import HandS.Deep
import HandS.More
import HandS.FStrTup
import KE.SortData
import PyProof.Rows.IntBool
import HandS.Words
import KE.KStateDown
import HandS.Head0
import HandS.Head1
import HandS.Head2
import HandS.HeadHook1
import HandS.Ends
import HandS.WordsDict
import KE.GoesMore
import HandS.NoneIn
import HandS.RevRange
import HandS.Text
import HandS.StrMore
import KE.KDictZip
import PyProof.ListNew
import HandS.Zip0
import HandS.Iter
import PySem.Challenge.RW_sidecut_k21_near_points_are_in_blocks
set_option Elab.async false
set_option linter.all false
set_option maxRecDepth 100000
set_option maxHeartbeats 4000000
namespace Mp
open PySem PySem.Spec PyProof.Rows L2
inductive PV where
  | non | bl (b : Bool) | int (i : Int) | str (x : Str) | ref (a : Addr) | ty (n : String) | fz (ns : List Int) | tup (xs : List PV)
inductive SO where
  | l (xs : List PV) | d (kvs : List (Key × PV))
abbrev Sto := Addr → Option SO
def put (L : Sto) (a : Addr) (o : SO) : Sto := fun b => if b = a then some o else L b
theorem put_same {L : Sto} {a : Addr} {o : SO} : put L a o a = some o := by unfold put; rw [if_pos rfl]
theorem put_ne {L : Sto} {a b : Addr} {o : SO} (h : b ≠ a) : put L a o b = L b := by unfold put; rw [if_neg h]
def TupAt (K : PySem.W.Frag) (H : Hp) (a : Addr) (vs : List V) : Prop := H a = some (.tup vs) ∨ SqT K (fun _ => none) a vs
mutual
def RepV (K : PySem.W.Frag) (H : Hp) : PV → V → Prop
  | .non, v => v = .non
  | .bl b, v => v = .bl b
  | .int i, v => v = .int i
  | .str x, v => v = .str x
  | .ref a, v => v = .ref a
  | .ty n, v => v = .ty n
  | .fz ns, v => ∃ a, v = .ref a ∧ ((∃ o, H a = some (.frz o (.lst (ns.map V.int)))) ∨ SqL K (fun _ => none) a (ns.map V.int))
  | .tup xs, v => ∃ a vs, v = .ref a ∧ TupAt K H a vs ∧ RepVs K H xs vs
def RepVs (K : PySem.W.Frag) (H : Hp) : List PV → List V → Prop
  | [], vs => vs = []
  | x :: xs, vs => ∃ v r, vs = v :: r ∧ RepV K H x v ∧ RepVs K H xs r
end
def RepKs (K : PySem.W.Frag) (H : Hp) : List (Key × PV) → List (Key × V) → Prop
  | [], ks => ks = []
  | (k, x) :: xs, ks => ∃ v r, ks = (k, v) :: r ∧ RepV K H x v ∧ RepKs K H xs r
def RepO (K : PySem.W.Frag) (H : Hp) (a : Addr) : SO → Prop
  | .l xs => ∃ vs, H a = some (.lst vs) ∧ RepVs K H xs vs
  | .d kvs => ∃ ks, H a = some (.dK ks) ∧ RepKs K H kvs ks
def RepH (K : PySem.W.Frag) (H : Hp) (L : Sto) : Prop := ∀ a o, L a = some o → RepO K H a o
/-- what is not in the store stays -/
def Fm (H : Hp) (L : Sto) (H' : Hp) (L' : Sto) : Prop := ∀ a o, H a = some o → L a = none → H' a = some o ∧ L' a = none
abbrev Env := List (Option PV)
def RepS (K : PySem.W.Frag) (H : Hp) (σ : L2.St) (env : Env) : Prop := σ.length = env.length ∧ ∀ (i : Nat) (x : PV), env[i]? = some (some x) → ∃ v, σ[i]? = some (some v) ∧ RepV K H x v
/-- tuples and frozen lists stay -/
def Ex (H H' : Hp) : Prop := (∀ a xs, H a = some (.tup xs) → H' a = some (.tup xs)) ∧ (∀ a o xs, H a = some (.frz o (.lst xs)) → H' a = some (.frz o (.lst xs)))
section
variable {K : PySem.W.Frag} {H H' H1 H2 : Hp} {L L' La Lb : Sto}
theorem Fm.refl : Fm H L H L := fun _ _ h n => ⟨h, n⟩
theorem Fm.trans (a : Fm H L H1 La) (b : Fm H1 La H2 Lb) : Fm H L H2 Lb := fun c o h n => let ⟨x, y⟩ := a c o h n; b c o x y
theorem RepH.notTup (r : RepH K H L) {a : Addr} {xs : List V} (h : H a = some (.tup xs)) : L a = none := by
  cases e : L a with
  | none => rfl
  | some o =>
    cases o with
    | l ys => obtain ⟨vs, q, _⟩ := r a _ e; rw [h] at q; cases q
    | d ys => obtain ⟨vs, q, _⟩ := r a _ e; rw [h] at q; cases q
theorem RepH.notFrz (r : RepH K H L) {a : Addr} {o : Obj} {u : HO} (h : H a = some (.frz o u)) : L a = none := by
  cases e : L a with
  | none => rfl
  | some o =>
    cases o with
    | l ys => obtain ⟨vs, q, _⟩ := r a _ e; rw [h] at q; cases q
    | d ys => obtain ⟨vs, q, _⟩ := r a _ e; rw [h] at q; cases q
theorem RepH.fresh (r : RepH K H L) {a : Addr} (h : H a = none) : L a = none := by
  cases e : L a with
  | none => rfl
  | some o =>
    cases o with
    | l ys => obtain ⟨vs, q, _⟩ := r a _ e; rw [h] at q; cases q
    | d ys => obtain ⟨vs, q, _⟩ := r a _ e; rw [h] at q; cases q
theorem Fm.ex (f : Fm H L H' L') (r : RepH K H L) : Ex H H' := ⟨fun a xs h => (f a _ h (r.notTup h)).1, fun a o xs h => (f a _ h (r.notFrz h)).1⟩
theorem Ex.refl : Ex H H := ⟨fun _ _ h => h, fun _ _ _ h => h⟩
theorem Ex.trans (a : Ex H H1) (b : Ex H1 H2) : Ex H H2 := ⟨fun c xs h => b.1 c xs (a.1 c xs h), fun c o xs h => b.2 c o xs (a.2 c o xs h)⟩
theorem sqT_up {a : Addr} {xs : List V} (h : SqT K (fun _ => none) a xs) : SqT K H a xs := by
  rcases h with (h | ⟨o, h⟩) | h
  · cases h
  · cases h
  · exact .inr h
theorem sqL_up {a : Addr} {xs : List V} (h : SqL K (fun _ => none) a xs) : SqL K H a xs := by
  rcases h with (h | ⟨o, h⟩) | h
  · cases h
  · cases h
  · exact .inr h
theorem TupAt.sq {a : Addr} {xs : List V} (h : TupAt K H a xs) : SqT K H a xs := by
  rcases h with h | h
  · exact .inl (.inl h)
  · exact sqT_up h
theorem TupAt.ex {a : Addr} {xs : List V} (e : Ex H H') (h : TupAt K H a xs) : TupAt K H' a xs := h.elim (fun q => .inl (e.1 _ _ q)) .inr
mutual
theorem RepV.ex (e : Ex H H') : ∀ {x : PV} {v : V}, RepV K H x v → RepV K H' x v
  | .non, _, h => h
  | .bl _, _, h => h
  | .int _, _, h => h
  | .str _, _, h => h
  | .ref _, _, h => h
  | .ty _, _, h => h
  | .fz _, _, ⟨a, h1, h2⟩ => ⟨a, h1, h2.elim (fun ⟨o, q⟩ => .inl ⟨o, e.2 _ _ _ q⟩) .inr⟩
  | .tup _, _, ⟨a, vs, h1, h2, h3⟩ => ⟨a, vs, h1, h2.ex e, RepVs.ex e h3⟩
theorem RepVs.ex (e : Ex H H') : ∀ {x : List PV} {v : List V}, RepVs K H x v → RepVs K H' x v
  | [], _, h => h
  | _ :: _, _, ⟨v, r, h1, h2, h3⟩ => ⟨v, r, h1, RepV.ex e h2, RepVs.ex e h3⟩
end
theorem RepKs.ex (e : Ex H H') : ∀ {x : List (Key × PV)} {v : List (Key × V)}, RepKs K H x v → RepKs K H' x v
  | [], _, h => h
  | _ :: _, _, ⟨v, r, h1, h2, h3⟩ => ⟨v, r, h1, RepV.ex e h2, RepKs.ex e h3⟩
theorem RepVs.length : ∀ {x : List PV} {v : List V}, RepVs K H x v → x.length = v.length
  | [], _, h => by
    have h : _ = [] := h
    rw [h]
    rfl
  | _ :: _, _, ⟨v, r, h1, h2, h3⟩ => by rw [h1, List.length_cons, List.length_cons, RepVs.length h3]
theorem RepVs.get : ∀ {xs : List PV} {vs : List V} {i : Nat} {x : PV}, RepVs K H xs vs → xs[i]? = some x → ∃ v, vs[i]? = some v ∧ RepV K H x v
  | [], _, _, _, _, e => by simp at e
  | y :: ys, _, 0, x, ⟨v, r, h1, h2, h3⟩, e => by
    simp at e
    subst e
    exact ⟨v, by rw [h1]; rfl, h2⟩
  | y :: ys, _, i + 1, x, ⟨v, r, h1, h2, h3⟩, e => by
    obtain ⟨w, q1, q2⟩ := RepVs.get (i := i) h3 (by simpa using e)
    exact ⟨w, by rw [h1]; simpa using q1, q2⟩
theorem RepVs.append : ∀ {xs ys : List PV} {vs ws : List V}, RepVs K H xs vs → RepVs K H ys ws → RepVs K H (xs ++ ys) (vs ++ ws)
  | [], _, _, _, h, q => by
    have h : _ = [] := h
    rw [h]
    exact q
  | _ :: _, _, _, _, ⟨v, r, h1, h2, h3⟩, q => ⟨v, r ++ _, by rw [h1]; rfl, h2, RepVs.append h3 q⟩
theorem RepVs.take : ∀ {xs : List PV} {vs : List V} (n : Nat), RepVs K H xs vs → RepVs K H (xs.take n) (vs.take n)
  | _, _, 0, _ => rfl
  | [], _, _ + 1, h => by
    have h : _ = [] := h
    rw [h]
    rfl
  | _ :: _, _, n + 1, ⟨v, r, h1, h2, h3⟩ => ⟨v, r.take n, by rw [h1]; rfl, h2, RepVs.take n h3⟩
theorem RepVs.drop : ∀ {xs : List PV} {vs : List V} (n : Nat), RepVs K H xs vs → RepVs K H (xs.drop n) (vs.drop n)
  | _, _, 0, h => h
  | [], _, _ + 1, h => by
    have h : _ = [] := h
    rw [h]
    rfl
  | _ :: _, _, n + 1, ⟨v, r, h1, h2, h3⟩ => by
    rw [h1]
    exact RepVs.drop n h3
theorem RepVs.set : ∀ {xs : List PV} {vs : List V} (n : Nat) {x : PV} {v : V}, RepVs K H xs vs → RepV K H x v → RepVs K H (xs.set n x) (vs.set n v)
  | [], _, _, _, _, h, _ => by
    have h : _ = [] := h
    rw [h]
    rfl
  | _ :: _, _, 0, _, _, ⟨v, r, h1, h2, h3⟩, q => ⟨_, r, by rw [h1]; rfl, q, h3⟩
  | _ :: _, _, n + 1, _, _, ⟨v, r, h1, h2, h3⟩, q => ⟨v, r.set n _, by rw [h1]; rfl, h2, RepVs.set n h3 q⟩
theorem RepVs.eraseIdx : ∀ {xs : List PV} {vs : List V} (n : Nat), RepVs K H xs vs → RepVs K H (xs.eraseIdx n) (vs.eraseIdx n)
  | [], _, _, h => by
    have h : _ = [] := h
    rw [h]
    rfl
  | _ :: _, _, 0, ⟨v, r, h1, h2, h3⟩ => by rw [h1]; exact h3
  | _ :: _, _, n + 1, ⟨v, r, h1, h2, h3⟩ => ⟨v, r.eraseIdx n, by rw [h1]; rfl, h2, RepVs.eraseIdx n h3⟩
theorem RepVs.reverse : ∀ {xs : List PV} {vs : List V}, RepVs K H xs vs → RepVs K H xs.reverse vs.reverse
  | [], _, h => by
    have h : _ = [] := h
    rw [h]
    rfl
  | _ :: _, _, ⟨v, r, h1, h2, h3⟩ => by
    rw [h1, List.reverse_cons, List.reverse_cons]
    exact RepVs.append (RepVs.reverse h3) ⟨v, [], rfl, h2, rfl⟩
theorem RepVs.dropLast : ∀ {xs : List PV} {vs : List V}, RepVs K H xs vs → RepVs K H xs.dropLast vs.dropLast := fun {xs vs} h => by
  rw [List.dropLast_eq_take, List.dropLast_eq_take, h.length]
  exact h.take _
theorem RepVs.rep {xs : List PV} {vs : List V} (h : RepVs K H xs vs) : ∀ k : Nat, RepVs K H (List.replicate k xs).flatten (List.replicate k vs).flatten
  | 0 => rfl
  | k + 1 => by
    rw [List.replicate_succ, List.replicate_succ, List.flatten_cons, List.flatten_cons]
    exact h.append (RepVs.rep h k)
theorem RepVs.ints : ∀ {ns : List Int} {vs : List V}, RepVs K H (ns.map PV.int) vs → vs = ns.map V.int
  | [], _, h => h
  | n :: ns, _, ⟨v, r, h1, h2, h3⟩ => by
    have h2 : v = .int n := h2
    rw [h1, h2, RepVs.ints h3]
    rfl
theorem RepVs.ofInts : ∀ {ns : List Int}, RepVs K H (ns.map PV.int) (ns.map V.int)
  | [] => rfl
  | n :: ns => ⟨.int n, _, rfl, rfl, RepVs.ofInts⟩
theorem RepVs.bls : ∀ {ns : List Bool} {vs : List V}, RepVs K H (ns.map PV.bl) vs → vs = ns.map V.bl
  | [], _, h => h
  | n :: ns, _, ⟨v, r, h1, h2, h3⟩ => by
    have h2 : v = .bl n := h2
    rw [h1, h2, RepVs.bls h3]
    rfl
theorem RepVs.strs : ∀ {ns : List Str} {vs : List V}, RepVs K H (ns.map PV.str) vs → vs = ns.map V.str
  | [], _, h => h
  | n :: ns, _, ⟨v, r, h1, h2, h3⟩ => by
    have h2 : v = .str n := h2
    rw [h1, h2, RepVs.strs h3]
    rfl
theorem RepVs.one {x : PV} {vs : List V} (h : RepVs K H [x] vs) : ∃ v, vs = [v] ∧ RepV K H x v := by
  obtain ⟨v, r, h1, h2, h3⟩ := h
  have h3 : r = [] := h3
  subst h3
  exact ⟨v, h1, h2⟩
theorem RepVs.two {x y : PV} {vs : List V} (h : RepVs K H [x, y] vs) : ∃ v w, vs = [v, w] ∧ RepV K H x v ∧ RepV K H y w := by
  obtain ⟨v, r, h1, h2, h3⟩ := h
  obtain ⟨w, h4, h5⟩ := h3.one
  subst h4
  exact ⟨v, w, h1, h2, h5⟩
theorem RepVs.three {x y z : PV} {vs : List V} (h : RepVs K H [x, y, z] vs) : ∃ v w u, vs = [v, w, u] ∧ RepV K H x v ∧ RepV K H y w ∧ RepV K H z u := by
  obtain ⟨v, r, h1, h2, h3⟩ := h
  obtain ⟨w, u, h4, h5, h6⟩ := h3.two
  subst h4
  exact ⟨v, w, u, h1, h2, h5, h6⟩
theorem RepO.ex (e : Ex H H') {a : Addr} {o : SO} (h : RepO K H a o) (k : ∀ u, H a = some u → H' a = some u) : RepO K H' a o := by
  cases o with
  | l xs => obtain ⟨vs, h1, h2⟩ := h; exact ⟨vs, k _ h1, h2.ex e⟩
  | d xs => obtain ⟨vs, h1, h2⟩ := h; exact ⟨vs, k _ h1, h2.ex e⟩
theorem RepS.ex {σ : L2.St} {env : Env} (e : Ex H H') (h : RepS K H σ env) : RepS K H' σ env := ⟨h.1, fun i x q => let ⟨v, a, b⟩ := h.2 i x q; ⟨v, a, b.ex e⟩⟩
/-- the store's entry, in the heap -/
theorem RepH.lst (r : RepH K H L) {a : Addr} {xs : List PV} (h : L a = some (.l xs)) : ∃ vs, H a = some (.lst vs) ∧ RepVs K H xs vs := r a _ h
theorem RepH.dct (r : RepH K H L) {a : Addr} {xs : List (Key × PV)} (h : L a = some (.d xs)) : ∃ vs, H a = some (.dK vs) ∧ RepKs K H xs vs := r a _ h
theorem ex_new {p : Addr} {o : HO} (hp : H p = none) : Ex H (upd H p o) := ⟨fun a xs h => by rw [upd_ne (ne_of_none h hp)]; exact h, fun a o' xs h => by rw [upd_ne (ne_of_none h hp)]; exact h⟩
theorem fm_tup {p : Addr} {vs : List V} (r : RepH K H L) (hp : H p = none) : Fm H L (upd H p (.tup vs)) L := fun a o h n => ⟨by rw [upd_ne (ne_of_none h hp)]; exact h, n⟩
theorem reph_tup {p : Addr} {vs : List V} (r : RepH K H L) (hp : H p = none) : RepH K (upd H p (.tup vs)) L := fun a o h => (r a o h).ex (ex_new hp) fun u q => by rw [upd_ne (ne_of_none q hp)]; exact q
theorem repv_tup {p : Addr} {xs : List PV} {vs : List V} (h : RepVs K H xs vs) (hp : H p = none) : RepV K (upd H p (.tup vs)) (.tup xs) (.ref p) :=
  ⟨p, vs, rfl, .inl upd_same, h.ex (ex_new hp)⟩
theorem fm_new {p : Addr} {o : HO} {u : SO} (hp : H p = none) : Fm H L (upd H p o) (put L p u) := fun a o' h n => ⟨by rw [upd_ne (ne_of_none h hp)]; exact h, by rw [put_ne (ne_of_none h hp)]; exact n⟩
theorem reph_new {p : Addr} {xs : List PV} {vs : List V} (r : RepH K H L) (hp : H p = none) (h : RepVs K H xs vs) : RepH K (upd H p (.lst vs)) (put L p (.l xs)) := fun a o e => by
  by_cases q : a = p
  · subst q
    rw [put_same] at e
    cases e
    exact ⟨vs, upd_same, h.ex (ex_new hp)⟩
  · rw [put_ne q] at e
    exact (r a o e).ex (ex_new hp) fun u q' => by rw [upd_ne q]; exact q'
theorem reph_newD {p : Addr} {xs : List (Key × PV)} {vs : List (Key × V)} (r : RepH K H L) (hp : H p = none) (h : RepKs K H xs vs) : RepH K (upd H p (.dK vs)) (put L p (.d xs)) := fun a o e => by
  by_cases q : a = p
  · subst q
    rw [put_same] at e
    cases e
    exact ⟨vs, upd_same, h.ex (ex_new hp)⟩
  · rw [put_ne q] at e
    exact (r a o e).ex (ex_new hp) fun u q' => by rw [upd_ne q]; exact q'
theorem ex_put {p : Addr} {o : HO} {u : SO} (r : RepH K H L) (hp : L p = some u) : Ex H (upd H p o) :=
  ⟨fun a xs h => by
    have n := r.notTup h
    rw [upd_ne (fun z => by rw [z, hp] at n; cases n)]; exact h,
   fun a o' xs h => by
    have n := r.notFrz h
    rw [upd_ne (fun z => by rw [z, hp] at n; cases n)]; exact h⟩
theorem fm_put {p : Addr} {o : HO} {u u' : SO} (hp : L p = some u) : Fm H L (upd H p o) (put L p u') := fun a o' h n => by
  have ne : a ≠ p := fun z => by rw [z, hp] at n; cases n
  exact ⟨by rw [upd_ne ne]; exact h, by rw [put_ne ne]; exact n⟩
theorem reph_put {p : Addr} {u : SO} {xs : List PV} {vs : List V} (r : RepH K H L) (hp : L p = some u) (h : RepVs K H xs vs) : RepH K (upd H p (.lst vs)) (put L p (.l xs)) := fun a o e => by
  by_cases q : a = p
  · subst q
    rw [put_same] at e
    cases e
    exact ⟨vs, upd_same, h.ex (ex_put r hp)⟩
  · rw [put_ne q] at e
    exact (r a o e).ex (ex_put r hp) fun u q' => by rw [upd_ne q]; exact q'
theorem reph_putD {p : Addr} {u : SO} {xs : List (Key × PV)} {vs : List (Key × V)} (r : RepH K H L) (hp : L p = some u) (h : RepKs K H xs vs) : RepH K (upd H p (.dK vs)) (put L p (.d xs)) := fun a o e => by
  by_cases q : a = p
  · subst q
    rw [put_same] at e
    cases e
    exact ⟨vs, upd_same, h.ex (ex_put r hp)⟩
  · rw [put_ne q] at e
    exact (r a o e).ex (ex_put r hp) fun u q' => by rw [upd_ne q]; exact q'
abbrev PK := PV → Sto → Prop
abbrev WE := Env → Sto → PK → Prop
abbrev WA := Env → Sto → (List PV → Sto → Prop) → Prop
/-- what R promises reaches Q, from H, L on -/
def Kt (K : PySem.W.Frag) (H : Hp) (L : Sto) (R : PK) (Q : VK) : Prop := ∀ x L' v H', R x L' → Fm H L H' L' → RepV K H' x v → RepH K H' L' → Q v H'
def KtA (K : PySem.W.Frag) (n : Nat) (H : Hp) (L : Sto) (R : List PV → Sto → Prop) (Q : List V → Hp → Prop) : Prop := ∀ x L' v H', R x L' → x.length = n → Fm H L H' L' → RepVs K H' x v → RepH K H' L' → Q v H'
def liftE (K : PySem.W.Frag) (w : WE) : TE := fun σ H Q => ∃ env L R, RepS K H σ env ∧ RepH K H L ∧ w env L R ∧ Kt K H L R Q
def wAr : List WE → WA
  | [], _, L, R => R [] L
  | w :: ws, env, L, R => w env L fun x La => wAr ws env La fun xs Lb => R (x :: xs) Lb
def liftA (K : PySem.W.Frag) (ws : List WE) : TA := fun σ H Q => ∃ env L R, RepS K H σ env ∧ RepH K H L ∧ wAr ws env L R ∧ KtA K ws.length H L R Q
/-- a test: the value is a bool -/
def liftT (K : PySem.W.Frag) (w : WE) : TT := fun σ H Q => ∃ env L R, RepS K H σ env ∧ RepH K H L ∧ w env L R ∧ ∀ x L' H', R x L' → Fm H L H' L' → RepH K H' L' → ∃ b, x = .bl b ∧ Q b H'
theorem Kt.fm {R : PK} {Q : VK} (k : Kt K H L R Q) (f : Fm H L H1 La) : Kt K H1 La R Q := fun x L' v H' r f' => k x L' v H' r (f.trans f')
theorem _root_.L2.PE.weak {X : Cx} {e : Expr} {t t' : TE} (h : PE X e t) (w : ∀ σ H Q, t' σ H Q → t σ H Q) : PE X e t' := ⟨fun pins s σ H Q I q => h.run pins s σ H Q I (w σ H Q q)⟩
theorem _root_.L2.PT.weak {X : Cx} {e : Expr} {t t' : TT} (h : PT X e t) (w : ∀ σ H Q, t' σ H Q → t σ H Q) : PT X e t' := ⟨fun pins s σ H Q I q => h.run pins s σ H Q I (w σ H Q q)⟩
theorem _root_.L2.PA.weak {X : Cx} {e : List Expr} {t t' : TA} (h : PA X e t) (w : ∀ σ H Q, t' σ H Q → t σ H Q) : PA X e t' := ⟨fun pos pins s σ H Q I q => h.run pos pins s σ H Q I (w σ H Q q)⟩
theorem _root_.L2.PS.weak {X : Cx} {e : Stmt} {t t' : TS} (h : PS X e t) (w : ∀ D σ H, t' D σ H → t D σ H) : PS X e t' := ⟨fun pins s σ H D I q => h.run pins s σ H D I (w D σ H q)⟩
theorem _root_.L2.PSs.weak {X : Cx} {e : List Stmt} {t t' : TS} (h : PSs X e t) (w : ∀ D σ H, t' D σ H → t D σ H) : PSs X e t' := ⟨fun pins s σ H D I q => h.run pins s σ H D I (w D σ H q)⟩
end
end Mp
namespace Mp
open PySem PySem.Spec PyProof.Rows L2
/-- what a value of the module reaches: a def with its code, a tuple to any depth -/
def valG (g : Addr → Option Obj) : Nat → Value → List Addr
  | 0, _ => []
  | n + 1, .ref a => a :: (match g a with
    | some ⟨_, _, .func fd, _⟩ => He.refV fd.code
    | some ⟨_, _, .seq its _, _⟩ => its.toList.flatMap (valG g n)
    | _ => [])
  | _, _ => []
def asM (n : Nat) (g : Addr → Option Obj) : List Addr := mainGlobals :: ((match g mainGlobals with
  | some ⟨_, _, .dict es _, _⟩ => es.toList.flatMap fun e => valG g 4 e.val
  | _ => []) ++ (match n with
  | 0 => []
  | n + 1 => He.asG g n))
abbrev OneM : Type := Option (Bool × Str × Str × Arguments × FuncBody × Scope × Addr × List (Str × Addr) × Value × Addr)
def oneM (K : PySem.W.Frag) (x : Str) : OneM := match PySem.W.nsIn K mainGlobals x with
  | some (some (.ref f)) => (match K.lookup f with
    | some ⟨_, _, .func fd, _⟩ => some (PySem.W.codeIn K fd.code x, fd.name, fd.qualname, fd.params, fd.body, fd.scope, fd.globals, fd.closure, fd.defaults, fd.builtins)
    | _ => none)
  | _ => none
def dueM (d : Str × Stmt) : OneM := some (true, d.1, d.1, defArgs d.2, .stmts (defBody d.2), defScope d.2, mainGlobals, [], .none, builtinsNs)
abbrev AlM : Type := Bool × List OneM
def obsM (fb : List (PySem.W.Frag → Bool)) (fn : List (Str × Stmt)) (K : PySem.W.Frag) : AlM := (fb.all fun f => f K, fn.map fun d => oneM K d.1)
def valM (fn : List (Str × Stmt)) : AlM := (true, fn.map dueM)
def SaysM (fb : List (PySem.W.Frag → Bool)) (fn : List (Str × Stmt)) (K : PySem.W.Frag) : Prop := obsM fb fn K = valM fn
def obsMG (n : Nat) (fb : List (PySem.W.Frag → Bool)) (fn : List (Str × Stmt)) (g : Addr → Option Obj) : AlM := obsM fb fn (He.frG g (asM n g))
def hookM (n : Nat) (fb : List (PySem.W.Frag → Bool)) (fn : List (Str × Stmt)) : PySem.W.Hook where
  α := AlM
  obs := fun s => obsMG n fb fn s.heap.get?
  val := fun _ => valM fn
  says := fun _ h => ∃ K : PySem.W.Frag, K.In h ∧ SaysM fb fn K
  of := fun _ _ e => ⟨_, He.frG_in, e⟩
  keeps := fun _ _ _ ⟨K, hK, c⟩ k => ⟨K, PySem.W.Frag.In.keeps hK k, c⟩
theorem obsMG_eq {n : Nat} {fb : List (PySem.W.Frag → Bool)} {fn : List (Str × Stmt)} {g : Addr → Option Obj} {s : Shared} (h : ∀ a, g a = s.heap.get? a) : obsMG n fb fn g = (hookM n fb fn).obs s := by
  have e : g = s.heap.get? := funext h
  rw [e] <;> rfl
theorem oneM_ok {K : PySem.W.Frag} {d : Str × Stmt} (e : oneM K d.1 = dueM d) : ∃ f, PySem.W.nsIn K mainGlobals d.1 = some (some (.ref f)) ∧ ∃ fd, Fun K d.1 d.1 d.2 f fd := by
  obtain ⟨x, st⟩ := d
  unfold oneM at e
  dsimp only at e ⊢
  cases q : PySem.W.nsIn K mainGlobals x with
  | none => rw [q] at e; cases e
  | some o =>
    rw [q] at e
    cases o with
    | none => cases e
    | some v =>
      cases v with
      | ref f =>
        have e : (match K.lookup f with
          | some ⟨_, _, .func fd, _⟩ => some (PySem.W.codeIn K fd.code x, fd.name, fd.qualname, fd.params, fd.body, fd.scope, fd.globals, fd.closure, fd.defaults, fd.builtins)
          | _ => (none : OneM)) = dueM (x, st) := e
        refine ⟨f, rfl, ?_⟩
        cases l : K.lookup f with
        | none => rw [l] at e; cases e
        | some o =>
          obtain ⟨oc, od, dt, osl⟩ := o
          rw [l] at e
          cases dt with
          | func fd =>
            obtain ⟨n1, n2, n3, n4, n5, n6, n7, n8, n9, n10, n11, n12, n13, n14, n15⟩ := fd
            have e2 : some (PySem.W.codeIn K n13 x, n1, n2, n3, n4, n5, n6, n7, n8, n15) = dueM (x, st) := e
            simp only [dueM, Option.some.injEq, Prod.mk.injEq] at e2
            obtain ⟨h0, h1, h2, h3, h4, h5, h6, h7, h8, h9⟩ := e2
            subst h1 h2 h3 h4 h5 h6 h7 h8 h9
            exact ⟨_, fun_mk l h0 (by simp [PySem.W.keepIn, l])⟩
          | _ => cases e
      | _ => cases e
def zfree (x : Str) : PySem.W.Frag → Bool := fun K => He.eqO (PySem.W.nsIn K mainGlobals x) (some none)
/-- a constant of the module, however deep -/
def okT (o : Option Obj) : Option (List Value) := match o with
  | some ⟨.type c, _, .seq its _, _⟩ => if c = "tuple" ∧ its.size ≤ sizeLine then some its.toList else none
  | _ => none
mutual
def cvB (K : PySem.W.Frag) : PV → Value → Bool
  | .non, .none => true
  | .bl b, .bool c => b == c
  | .int i, .int j _ => decide (i = j)
  | .str x, .str y _ => decide (x = y)
  | .tup xs, .ref a => (match okT (K.lookup a) with
    | some us => cvBs K xs us
    | none => false)
  | _, _ => false
def cvBs (K : PySem.W.Frag) : List PV → List Value → Bool
  | [], [] => true
  | x :: xs, u :: us => cvB K x u && cvBs K xs us
  | _, _ => false
end
theorem okT_ok {K : PySem.W.Frag} {a : Addr} {us : List Value} (h : okT (K.lookup a) = some us) : ∃ (o : Obj) (its : Array Value) (n : Nat), K.lookup a = some o ∧ o.cls = .type "tuple" ∧ o.data = .seq its n ∧ its.size ≤ sizeLine ∧ its.toList = us := by
  cases q : K.lookup a with
  | none => rw [q] at h; cases h
  | some o =>
    obtain ⟨oc, od, dt, osl⟩ := o
    rw [q] at h
    unfold okT at h
    cases oc with
    | type c =>
      cases dt with
      | seq its n =>
        have h2 : (if c = "tuple" ∧ its.size ≤ sizeLine then some its.toList else none) = some us := h
        by_cases z : c = "tuple" ∧ its.size ≤ sizeLine
        · rw [if_pos z] at h2
          exact ⟨_, its, n, rfl, congrArg Value.type z.1, rfl, z.2, Option.some.inj h2⟩
        · rw [if_neg z] at h2; cases h2
      | _ => cases h
    | _ => cases dt <;> cases h
mutual
theorem cvB_ok {K : PySem.W.Frag} : ∀ {p : PV} {u : Value}, cvB K p u = true → ∃ v, RelV v u ∧ ∀ H, RepV K H p v
  | .non, .none, _ => ⟨.non, rfl, fun _ => by rw [RepV]⟩
  | .bl b, .bool c, h => ⟨.bl b, by rw [cvB] at h; rw [eq_of_beq h]; rfl, fun _ => by rw [RepV]⟩
  | .int i, .int j _, h => ⟨.int i, by rw [cvB] at h; rw [of_decide_eq_true h]; exact ⟨_, rfl⟩, fun _ => by rw [RepV]⟩
  | .str x, .str y _, h => ⟨.str x, by rw [cvB] at h; rw [of_decide_eq_true h]; exact ⟨_, rfl⟩, fun _ => by rw [RepV]⟩
  | .tup xs, .ref a, h => by
    rw [cvB] at h
    cases q : okT (K.lookup a) with
    | none => rw [q] at h; cases h
    | some us =>
      rw [q] at h
      have h2 : cvBs K xs us = true := h
      obtain ⟨vs, h3, h4⟩ := cvBs_ok h2
      obtain ⟨o, its, n, e1, e2, e3, e4, e5⟩ := okT_ok q
      exact ⟨.ref a, rfl, fun H => by rw [RepV]; exact ⟨a, vs, rfl, .inr (.inr ⟨o, its, n, e1, e2, e3, e4, by rw [e5]; exact h3⟩), h4 H⟩⟩
theorem cvBs_ok {K : PySem.W.Frag} : ∀ {p : List PV} {u : List Value}, cvBs K p u = true → ∃ v, Vals v u ∧ ∀ H, RepVs K H p v
  | [], [], _ => ⟨[], .nil, fun _ => by rw [RepVs]⟩
  | x :: xs, u :: us, h => by
    rw [cvBs, Bool.and_eq_true] at h
    obtain ⟨v, h1, h2⟩ := cvB_ok h.1
    obtain ⟨vs, h3, h4⟩ := cvBs_ok h.2
    exact ⟨v :: vs, .cons h1 h3, fun H => by rw [RepVs]; exact ⟨v, vs, rfl, h2 H, h4 H⟩⟩
end
def zcn (x : Str) (p : PV) : PySem.W.Frag → Bool := fun K => match PySem.W.nsIn K mainGlobals x with
  | some (some u) => cvB K p u
  | _ => false
end Mp
namespace Mp
open PySem PySem.Spec PyProof.Rows L2
def ztp (i : Nat) : Stmt := PySem.Challenge.pw_sidecut_k21_near_points_are_in_blocks.main.body.getD i (.Pass ⟨0, 0, 0, 0⟩)
abbrev zst_divisor_of : Stmt := ztp 2
abbrev zst_fraction : Stmt := ztp 3
abbrev zst_added : Stmt := ztp 4
abbrev zst_taken : Stmt := ztp 5
abbrev zst_times : Stmt := ztp 6
abbrev zst_over : Stmt := ztp 7
abbrev zst_compared : Stmt := ztp 8
abbrev zst_whole_root : Stmt := ztp 9
abbrev zst_root_of : Stmt := ztp 10
abbrev zst_plus : Stmt := ztp 12
abbrev zst_minus : Stmt := ztp 13
abbrev zst_scaled : Stmt := ztp 14
abbrev zst_dot : Stmt := ztp 15
abbrev zst_cross : Stmt := ztp 16
abbrev zst_left_of : Stmt := ztp 17
abbrev zst_length_of : Stmt := ztp 18
abbrev zst_unit_of : Stmt := ztp 19
abbrev zst_opposite : Stmt := ztp 24
abbrev zst_to_of : Stmt := ztp 25
abbrev zst_ends_of : Stmt := ztp 26
abbrev zst_is_closed : Stmt := ztp 27
abbrev zst_begin_of : Stmt := ztp 28
abbrev zst_radius_of : Stmt := ztp 29
abbrev zst_heading_at : Stmt := ztp 30
abbrev zst_headings : Stmt := ztp 31
abbrev zst_corner_word : Stmt := ztp 32
abbrev zst_corners : Stmt := ztp 33
abbrev zst_turned : Stmt := ztp 37
abbrev zst_turn_by : Stmt := ztp 38
abbrev zst_steps_on : Stmt := ztp 39
abbrev zst_is_in_quarter : Stmt := ztp 40
abbrev zst_quarters_between : Stmt := ztp 41
abbrev zst_mirrored_unit : Stmt := ztp 42
abbrev zst_is_ahead : Stmt := ztp 43
abbrev zst_half_of : Stmt := ztp 44
abbrev zst_units_between : Stmt := ztp 45
abbrev zst_least_dot : Stmt := ztp 46
abbrev zst_tip_of : Stmt := ztp 47
abbrev zst_right_of : Stmt := ztp 53
abbrev zst_strip : Stmt := ztp 54
abbrev zst_fan : Stmt := ztp 55
abbrev zst_corner_units : Stmt := ztp 56
abbrev zst_corner_fans : Stmt := ztp 57
abbrev zst_arc_units : Stmt := ztp 58
abbrev zst_inner_of : Stmt := ztp 59
abbrev zst_sector_pair : Stmt := ztp 60
abbrev zst_exchanged : Stmt := ztp 61
abbrev zst_sectors : Stmt := ztp 62
abbrev zst_own_blocks : Stmt := ztp 63
abbrev zst_start_cap : Stmt := ztp 64
abbrev zst_end_cap : Stmt := ztp 65
abbrev zst_blocks : Stmt := ztp 66
abbrev zst_law_box : Stmt := ztp 68
abbrev zst_law_take : Stmt := ztp 69
abbrev zst_law_folded : Stmt := ztp 70
abbrev zst_law_frac : Stmt := ztp 71
abbrev zst_law_sum : Stmt := ztp 72
abbrev zst_law_product : Stmt := ztp 73
abbrev zst_law_less : Stmt := ztp 74
abbrev zst_law_add : Stmt := ztp 75
abbrev zst_law_sub : Stmt := ztp 76
abbrev zst_law_scaled_by : Stmt := ztp 77
abbrev zst_law_cross : Stmt := ztp 78
abbrev zst_law_quarter : Stmt := ztp 80
abbrev zst_law_unit_at : Stmt := ztp 81
abbrev zst_law_one_move : Stmt := ztp 82
abbrev zst_law_path_of : Stmt := ztp 83
abbrev zst_law_back : Stmt := ztp 84
abbrev zst_law_all_moves : Stmt := ztp 85
abbrev zst_law_drawn : Stmt := ztp 86
abbrev zst_law_width : Stmt := ztp 87
abbrev zst_law_case : Stmt := ztp 88
abbrev zst_law_on_path : Stmt := ztp 89
abbrev zst_law_in : Stmt := ztp 90
abbrev zst_law : Stmt := ztp 91
def zfn : List (Str × Stmt) := [(("divisor_of" : Str), zst_divisor_of), (("fraction" : Str), zst_fraction), (("added" : Str), zst_added), (("taken" : Str), zst_taken), (("times" : Str), zst_times), (("over" : Str), zst_over), (("compared" : Str), zst_compared), (("whole_root" : Str), zst_whole_root), (("root_of" : Str), zst_root_of), (("plus" : Str), zst_plus), (("minus" : Str), zst_minus), (("scaled" : Str), zst_scaled), (("dot" : Str), zst_dot), (("cross" : Str), zst_cross), (("left_of" : Str), zst_left_of), (("length_of" : Str), zst_length_of), (("unit_of" : Str), zst_unit_of), (("opposite" : Str), zst_opposite), (("to_of" : Str), zst_to_of), (("ends_of" : Str), zst_ends_of), (("is_closed" : Str), zst_is_closed), (("begin_of" : Str), zst_begin_of), (("radius_of" : Str), zst_radius_of), (("heading_at" : Str), zst_heading_at), (("headings" : Str), zst_headings), (("corner_word" : Str), zst_corner_word), (("corners" : Str), zst_corners), (("turned" : Str), zst_turned), (("turn_by" : Str), zst_turn_by), (("steps_on" : Str), zst_steps_on), (("is_in_quarter" : Str), zst_is_in_quarter), (("quarters_between" : Str), zst_quarters_between), (("mirrored_unit" : Str), zst_mirrored_unit), (("is_ahead" : Str), zst_is_ahead), (("half_of" : Str), zst_half_of), (("units_between" : Str), zst_units_between), (("least_dot" : Str), zst_least_dot), (("tip_of" : Str), zst_tip_of), (("right_of" : Str), zst_right_of), (("strip" : Str), zst_strip), (("fan" : Str), zst_fan), (("corner_units" : Str), zst_corner_units), (("corner_fans" : Str), zst_corner_fans), (("arc_units" : Str), zst_arc_units), (("inner_of" : Str), zst_inner_of), (("sector_pair" : Str), zst_sector_pair), (("exchanged" : Str), zst_exchanged), (("sectors" : Str), zst_sectors), (("own_blocks" : Str), zst_own_blocks), (("start_cap" : Str), zst_start_cap), (("end_cap" : Str), zst_end_cap), (("blocks" : Str), zst_blocks), (("_law_box" : Str), zst_law_box), (("_law_take" : Str), zst_law_take), (("_law_folded" : Str), zst_law_folded), (("_law_frac" : Str), zst_law_frac), (("_law_sum" : Str), zst_law_sum), (("_law_product" : Str), zst_law_product), (("_law_less" : Str), zst_law_less), (("_law_add" : Str), zst_law_add), (("_law_sub" : Str), zst_law_sub), (("_law_scaled_by" : Str), zst_law_scaled_by), (("_law_cross" : Str), zst_law_cross), (("_law_quarter" : Str), zst_law_quarter), (("_law_unit_at" : Str), zst_law_unit_at), (("_law_one_move" : Str), zst_law_one_move), (("_law_path_of" : Str), zst_law_path_of), (("_law_back" : Str), zst_law_back), (("_law_all_moves" : Str), zst_law_all_moves), (("_law_drawn" : Str), zst_law_drawn), (("_law_width" : Str), zst_law_width), (("_law_case" : Str), zst_law_case), (("_law_on_path" : Str), zst_law_on_path), (("_law_in" : Str), zst_law_in), (("law" : Str), zst_law)]
def zfb : List (PySem.W.Frag → Bool) := [zcn "NOUGHT_fractions" (.tup [.int 0, .int 1]), zcn "NOUGHT_paths" (.tup [.int 0, .int 1]), zcn "SIDE" (.str "side"), zcn "TURNS" (.tup [.str "left", .str "right"]), zcn "ONE_turns" (.tup [.int 1, .int 1]), zcn "NOUGHT_turns" (.tup [.int 0, .int 1]), zcn "LESS" (.tup [.int (-1), .int 1]), zcn "ONE_blocks" (.tup [.int 1, .int 1]), zcn "NOUGHT_blocks" (.tup [.int 0, .int 1]), zcn "TWO" (.tup [.int 2, .int 1]), zfree "abs", zfree "int", zfree "len", zfree "range", zfree "reversed", zfree "zip", zfree "tuple", zfree "dict", zfree "divmod", zfree "enumerate", zfree "list", zfree "min", zfree "any", zfree "max"]
def zhn0 : List Str := ["NOUGHT_fractions", "divisor_of", "fraction", "added", "taken", "times", "over", "compared", "whole_root", "root_of", "plus", "minus", "scaled", "dot", "cross", "left_of", "length_of", "unit_of", "NOUGHT_paths", "SIDE"]
def zhn1 : List Str := ["TURNS", "opposite", "to_of", "ends_of", "is_closed", "begin_of", "radius_of", "heading_at", "headings", "corner_word", "corners", "ONE_turns", "NOUGHT_turns", "turned", "turn_by", "steps_on", "is_in_quarter", "quarters_between", "mirrored_unit", "is_ahead"]
def zhn2 : List Str := ["half_of", "units_between", "least_dot", "tip_of", "ONE_blocks", "TWO", "NOUGHT_blocks", "LESS", "right_of", "strip", "fan", "corner_units", "corner_fans", "arc_units", "inner_of", "sector_pair", "exchanged", "sectors", "own_blocks", "start_cap"]
def zhn3 : List Str := ["end_cap", "blocks", "_law_box", "_law_take", "_law_folded", "_law_frac", "_law_sum", "_law_product", "_law_less", "_law_add", "_law_sub", "_law_scaled_by", "_law_cross", "_law_dot", "_law_quarter", "_law_unit_at", "_law_one_move", "_law_path_of", "_law_back", "_law_all_moves"]
def zhn4 : List Str := ["_law_drawn", "_law_width", "_law_case", "_law_on_path", "_law_in"]
def zhnames : List Str := zhn0 ++ zhn1 ++ zhn2 ++ zhn3 ++ zhn4
abbrev zhR : PySem.W.OpenRow := PySem.W.OpenLaw.row PySem.Challenge.rw_sidecut_k21_near_points_are_in_blocks
abbrev zhhk : PySem.W.Hook := hookM 0 zfb zfn
def zhob (s : PySem.W.SharedT) : AlM := obsMG 0 zfb zfn (HandSHeadRun.getT s)
theorem zhob_eq (s : PySem.W.SharedT) : zhob s = zhhk.obs s.abs := obsMG_eq (HandSHeadRun.getT_eq s)
theorem zhrun (w : World) : HandSHeadRun.RunEq zhR (PySem.W.view zhR.prog [91]) zhhk zhob 20000 zhnames w := by
  intro os
  kernel_rfl
end Mp
namespace Mp
open PySem PySem.Spec PyProof.Rows L2
abbrev Op2 := PV → PV → Sto → PK → Prop
abbrev BiF := List PV → Sto → PK → Prop
def newL (L : Sto) (xs : List PV) (R : PK) : Prop := ∀ p, L p = none → R (.ref p) (put L p (.l xs))
def oAdd : Op2 := fun x y L R => match x, y with
  | .bl k, .int j => R (.int (b2i k + j)) L
  | .int i, .int j => R (.int (i + j)) L
  | .str a, .str b => a.length + b.length ≤ sizeLine ∧ R (.str (a ++ b)) L
  | .tup xs, .tup ys => xs.length + ys.length ≤ sizeLine ∧ R (.tup (xs ++ ys)) L
  | .ref a, .ref b => ∃ xs ys, L a = some (.l xs) ∧ L b = some (.l ys) ∧ xs.length + ys.length ≤ sizeLine ∧ newL L (xs ++ ys) R
  | _, _ => False
def oSub : Op2 := fun x y L R => match x, y with
  | .bl k, .int j => R (.int (b2i k - j)) L
  | .int i, .int j => R (.int (i - j)) L
  | _, _ => False
structure MulOk (i j : Int) : Prop where
  ok : IntMulOk i j
structure PowOk (i j : Int) : Prop where
  nn : 0 ≤ j
  sz : (Builtin.Int.intBits i : Int) * j ≤ 2 ^ 27
def oMul : Op2 := fun x y L R => match x, y with
  | .int i, .bl k => R (.int (i * b2i k)) L
  | .str z, .int n => PySem.MulOk z n ∧ R (.str (Txt.mul z n)) L
  | .int i, .int j => MulOk i j ∧ R (.int (i * j)) L
  | .ref a, .int k => ∃ xs, L a = some (.l xs) ∧ -(2 ^ 63) ≤ k ∧ k < 2 ^ 63 ∧ xs.length * k.toNat ≤ sizeLine ∧ newL L (List.replicate k.toNat xs).flatten R
  | _, _ => False
structure NoPl (i j : Int) : Prop where
  ok : Builtin.divisionGoesByPylong i j = false
def oDiv : Op2 := fun x y L R => match x, y with
  | .int i, .int j => j ≠ 0 ∧ NoPl i j ∧ R (.int (i.fdiv j)) L
  | _, _ => False
def oMod : Op2 := fun x y L R => match x, y with
  | .int i, .int j => j ≠ 0 ∧ R (.int (i.fmod j)) L
  | _, _ => False
def oPow : Op2 := fun x y L R => match x, y with
  | .int i, .int j => PowOk i j ∧ R (.int (i ^ j.toNat)) L
  | _, _ => False
def oI (g : Int → Int → Bool) : Op2 := fun x y L R => match x, y with
  | .int i, .int j => R (.bl (g i j)) L
  | _, _ => False
abbrev oLt : Op2 := oI fun i j => decide (i < j)
abbrev oLe : Op2 := oI fun i j => decide (i ≤ j)
abbrev oGt : Op2 := oI fun i j => decide (j < i)
abbrev oGe : Op2 := oI fun i j => decide (j ≤ i)
def isN : PV → Bool
  | .non => true
  | _ => false
def oIs : Op2 := fun x y L R => match y with
  | .non => R (.bl (isN x)) L
  | .bl b => (match x with
    | .bl a => R (.bl (decide (a = b))) L
    | _ => False)
  | _ => False
def oIsNot : Op2 := fun x y L R => match y with
  | .non => R (.bl (!isN x)) L
  | .bl b => (match x with
    | .bl a => R (.bl (!decide (a = b))) L
    | _ => False)
  | _ => False
mutual
inductive PD (L : Sto) : PV → PyData → Prop
  | non : PD L .non .none
  | bl (b : Bool) : PD L (.bl b) (.bool b)
  | int (i : Int) : PD L (.int i) (.int i)
  | str (x : Str) : PD L (.str x) (.str x)
  | lst {a : Addr} {xs : List PV} {ds : List PyData} : L a = some (.l xs) → PDs L xs ds → PD L (.ref a) (.list ds)
  | tup {xs : List PV} {ds : List PyData} : PDs L xs ds → PD L (.tup xs) (.tuple ds)
inductive PDs (L : Sto) : List PV → List PyData → Prop
  | nil : PDs L [] []
  | cons {x : PV} {xs : List PV} {d : PyData} {ds : List PyData} : PD L x d → PDs L xs ds → PDs L (x :: xs) (d :: ds)
end
def oEq : Op2 := fun x y L R => ∃ d e, PD L x d ∧ PD L y e ∧ SeqAt.shaped d = true ∧ SeqAt.shaped e = true ∧ R (.bl (PyData.eqv d e)) L
def oNe : Op2 := fun x y L R => ∃ d e, PD L x d ∧ PD L y e ∧ SeqAt.shaped d = true ∧ SeqAt.shaped e = true ∧ R (.bl (!PyData.eqv d e)) L
section
variable {K : PySem.W.Frag} {H H' : Hp} {L : Sto}
mutual
theorem PD.dp (r : RepH K H L) : ∀ {x : PV} {d : PyData} {v : V}, PD L x d → RepV K H x v → Dp K H v d
  | _, _, _, .non, h => by cases (show _ = _ from h); exact .non
  | _, _, _, .bl b, h => by cases (show _ = _ from h); exact .bl b
  | _, _, _, .int b, h => by cases (show _ = _ from h); exact .int b
  | _, _, _, .str b, h => by cases (show _ = _ from h); exact .str b
  | _, _, _, .lst ha hs, h => by
    cases (show _ = _ from h)
    obtain ⟨vs, h1, h2⟩ := r.lst ha
    exact .lst (.inl (.inl h1)) (PDs.dp r hs h2)
  | _, _, _, .tup hs, h => by
    obtain ⟨a, vs, rfl, h1, h2⟩ := h
    exact .tup h1.sq (PDs.dp r hs h2)
theorem PDs.dp (r : RepH K H L) : ∀ {x : List PV} {d : List PyData} {v : List V}, PDs L x d → RepVs K H x v → DpAll K H v d
  | _, _, _, .nil, h => by cases (show _ = _ from h); exact .nil
  | _, _, _, .cons h1 h2, h => by
    obtain ⟨v, r', rfl, q1, q2⟩ := h
    exact .cons (PD.dp r h1 q1) (PDs.dp r h2 q2)
end
end
def OpS (K : PySem.W.Frag) (f : Op2) (r : R2) : Prop := ∀ (x y : PV) (v u : V) (H : Hp) (L : Sto) (R : PK) (Q : VK), RepV K H x v → RepV K H y u → RepH K H L → f x y L R → Kt K H L R Q → r v u H Q
/-- the machine's operation fn keeps to f -/
def OpOk (X : Cx) (fn : Value → Value → Sem Value) (f : Op2) : Prop := ∃ r, OpR X fn r ∧ OpS X.K f r
section
variable {X : Cx} {K : PySem.W.Frag} {H H' : Hp} {L : Sto} {R : PK} {Q : VK}
theorem Kt.here (k : Kt K H L R Q) (rh : RepH K H L) {x : PV} {v : V} (h : R x L) (rv : RepV K H x v) : Q v H := k x L v H h .refl rv rh
theorem Kt.newl (k : Kt K H L R Q) (rh : RepH K H L) {xs : List PV} {vs : List V} (h : newL L xs R) (rv : RepVs K H xs vs) : ∀ p, H p = none → Q (.ref p) (upd H p (.lst vs)) := fun p hp =>
  k _ _ _ _ (h p (rh.fresh hp)) (fm_new hp) rfl (reph_new rh hp rv)
theorem Kt.newt (k : Kt K H L R Q) (rh : RepH K H L) {xs : List PV} {vs : List V} (h : R (.tup xs) L) (rv : RepVs K H xs vs) : ∀ p, H p = none → Q (.ref p) (upd H p (.tup vs)) := fun p hp =>
  k _ _ _ _ h (fm_tup rh hp) (repv_tup rv hp) (reph_tup rh hp)
theorem op_add_bi : OpR X (binaryOp .Add) (fun x y H Q => ∃ k i, x = .bl k ∧ y = .int i ∧ Q (.int (b2i k + i)) H) := by
  intro pins s σ H x y v u Q I rx ry h
  obtain ⟨k, i, rfl, rfl, q⟩ := h
  obtain ⟨t, rfl⟩ := ry
  cases rx
  exact PySem.IntBool.add_bool_int ⟨.int (b2i k + i), H, I.tok _, ⟨_, rfl⟩, q⟩
theorem op_sub_bi : OpR X (binaryOp .Sub) (fun x y H Q => ∃ k i, x = .bl k ∧ y = .int i ∧ Q (.int (b2i k - i)) H) := by
  intro pins s σ H x y v u Q I rx ry h
  obtain ⟨k, i, rfl, rfl, q⟩ := h
  obtain ⟨t, rfl⟩ := ry
  cases rx
  exact PySem.IntBool.sub_bool_int ⟨.int (b2i k - i), H, I.tok _, ⟨_, rfl⟩, q⟩
theorem op_mul_ib : OpR X (binaryOp .Mult) (fun x y H Q => ∃ i k, x = .int i ∧ y = .bl k ∧ Q (.int (i * b2i k)) H) := by
  intro pins s σ H x y v u Q I rx ry h
  obtain ⟨i, k, rfl, rfl, q⟩ := h
  obtain ⟨t, rfl⟩ := rx
  cases ry
  exact PySem.IntBool.mul_int_bool ⟨.int (i * b2i k), H, I.tok _, ⟨_, rfl⟩, q⟩
theorem op_mul_si : OpR X (binaryOp .Mult) (fun x y H Q => ∃ z i, x = .str z ∧ y = .int i ∧ PySem.MulOk z i ∧ Q (.str (Txt.mul z i)) H) := by
  intro pins s σ H x y v u Q I rx ry h
  obtain ⟨z, i, rfl, rfl, ok, q⟩ := h
  obtain ⟨t, rfl⟩ := rx
  obtain ⟨t', rfl⟩ := ry
  exact PySem.SB.mul ok fun t' k => ⟨.str _, H, I.tok _, ⟨_, rfl⟩, q⟩
theorem un_neg_b : UnR X (unaryOp .USub) (fun x H Q => ∃ k, x = .bl k ∧ Q (.int (-b2i k)) H) := by
  intro pins s σ H x v Q I rx h
  obtain ⟨k, rfl, q⟩ := h
  cases rx
  refine unaryOp_gives (op := .USub) (T := "bool") rfl rfl PySem.F.slot_bool_neg PySem.F.entry_int_neg (PySem.F.args_int_neg_1 _) (m := .int (-b2i k)) ?_ ?_
  · cases k <;> exact .of_eq rfl
  · exact ⟨.int (-b2i k), H, I.tok _, ⟨_, rfl⟩, q⟩
theorem UnR.or {f} {r r'} (h : UnR X f r) (h' : UnR X f r') : UnR X f (fun x H Q => r x H Q ∨ r' x H Q) := by
  intro pins s σ H x v Q I rx z
  rcases z with z | z
  · exact h _ _ _ _ _ _ _ I rx z
  · exact h' _ _ _ _ _ _ _ I rx z
theorem ok_add : OpOk X (binaryOp .Add) oAdd := by
  refine ⟨_, op_add_bi.or (op_add.or (op_add_str.or (op_catA.or op_cat))), ?_⟩
  intro x y v u H L R Q rx ry rh h k
  cases x <;> cases y <;> first | exact absurd h (fun z => z) | skip
  · cases (show _ = _ from rx); cases (show _ = _ from ry)
    exact .inl ⟨_, _, rfl, rfl, k.here rh h rfl⟩
  · cases (show _ = _ from rx); cases (show _ = _ from ry)
    exact .inr (.inl ⟨_, _, rfl, rfl, k.here rh h rfl⟩)
  · cases (show _ = _ from rx); cases (show _ = _ from ry)
    exact .inr (.inr (.inl ⟨_, _, rfl, rfl, h.1, k.here rh h.2 rfl⟩))
  · cases (show _ = _ from rx); cases (show _ = _ from ry)
    obtain ⟨xs, ys, h1, h2, h3, h4⟩ := h
    obtain ⟨vs, e1, r1⟩ := rh.lst h1
    obtain ⟨ws, e2, r2⟩ := rh.lst h2
    exact .inr (.inr (.inr (.inr ⟨_, _, vs, ws, rfl, rfl, e1, e2, by rw [← r1.length, ← r2.length]; exact h3, k.newl rh h4 (r1.append r2)⟩)))
  · obtain ⟨a, vs, rfl, t1, r1⟩ := rx
    obtain ⟨b, ws, rfl, t2, r2⟩ := ry
    refine .inr (.inr (.inr (.inl ⟨a, b, vs, ws, rfl, rfl, t1.sq, t2.sq, by rw [← r1.length, ← r2.length]; exact h.1, fun z => ?_, fun z1 z2 => ?_, fun _ _ => k.newt rh h.2 (r1.append r2)⟩)))
    · subst z
      rename_i xs ys
      have e : xs = [] := List.eq_nil_of_length_eq_zero (by rw [r1.length]; rfl)
      subst e
      exact k.here rh h.2 ⟨b, ws, rfl, t2, r2⟩
    · subst z2
      rename_i xs ys
      have e : ys = [] := List.eq_nil_of_length_eq_zero (by rw [r2.length]; rfl)
      subst e
      refine k.here rh (x := .tup (xs ++ [])) h.2 ⟨a, vs, rfl, t1, ?_⟩
      rw [List.append_nil]
      exact r1
theorem ok_sub : OpOk X (binaryOp .Sub) oSub := by
  refine ⟨_, op_sub_bi.or op_sub, ?_⟩
  intro x y v u H L R Q rx ry rh h k
  cases x <;> cases y <;> first | exact absurd h (fun z => z) | skip
  · cases (show _ = _ from rx); cases (show _ = _ from ry)
    exact .inl ⟨_, _, rfl, rfl, k.here rh h rfl⟩
  · cases (show _ = _ from rx); cases (show _ = _ from ry)
    exact .inr ⟨_, _, rfl, rfl, k.here rh h rfl⟩
theorem op_mulA : OpR X (binaryOp .Mult) (rI MulOk fun i j => .int (i * j)) := opI fun _ _ _ _ _ _ _ hc q => mul_int q hc.ok
theorem op_powA : OpR X (binaryOp .Pow) (rI PowOk fun i j => .int (i ^ j.toNat)) := opI fun _ _ _ _ _ _ _ hc q => pow_int hc.nn hc.sz q
theorem op_fdivA : OpR X (binaryOp .FloorDiv) (rI (fun i j => j ≠ 0 ∧ NoPl i j) fun i j => .int (i.fdiv j)) := opI fun _ _ _ _ _ _ _ hc q => floordiv_int hc.1 q (.inl hc.2.ok)
theorem ok_mul : OpOk X (binaryOp .Mult) oMul := by
  refine ⟨_, op_mul_ib.or (op_mulA.or (op_rep.or op_mul_si)), ?_⟩
  intro x y v u H L R Q rx ry rh h k
  cases x <;> cases y <;> first | exact absurd h (fun z => z) | skip
  · cases (show _ = _ from rx); cases (show _ = _ from ry)
    exact .inl ⟨_, _, rfl, rfl, k.here rh h rfl⟩
  · cases (show _ = _ from rx); cases (show _ = _ from ry)
    exact .inr (.inl ⟨_, _, rfl, rfl, h.1, k.here rh h.2 rfl⟩)
  · cases (show _ = _ from rx); cases (show _ = _ from ry)
    exact .inr (.inr (.inr ⟨_, _, rfl, rfl, h.1, k.here rh h.2 rfl⟩))
  · cases (show _ = _ from rx); cases (show _ = _ from ry)
    obtain ⟨xs, h1, h2, h3, h4, h5⟩ := h
    obtain ⟨vs, e1, r1⟩ := rh.lst h1
    exact .inr (.inr (.inl ⟨_, _, vs, rfl, rfl, e1, h2, h3, by rw [← r1.length]; exact h4, k.newl rh h5 (r1.rep _)⟩))
theorem ok_div : OpOk X (binaryOp .FloorDiv) oDiv := by
  refine ⟨_, op_fdivA, ?_⟩
  intro x y v u H L R Q rx ry rh h k
  cases x <;> cases y <;> first | exact absurd h (fun z => z) | skip
  cases (show _ = _ from rx); cases (show _ = _ from ry)
  exact ⟨_, _, rfl, rfl, ⟨h.1, h.2.1⟩, k.here rh h.2.2 rfl⟩
theorem ok_mod : OpOk X (binaryOp .Mod) oMod := by
  refine ⟨_, op_modN, ?_⟩
  intro x y v u H L R Q rx ry rh h k
  cases x <;> cases y <;> first | exact absurd h (fun z => z) | skip
  cases (show _ = _ from rx); cases (show _ = _ from ry)
  exact ⟨_, _, rfl, rfl, h.1, k.here rh h.2 rfl⟩
theorem ok_pow : OpOk X (binaryOp .Pow) oPow := by
  refine ⟨_, op_powA, ?_⟩
  intro x y v u H L R Q rx ry rh h k
  cases x <;> cases y <;> first | exact absurd h (fun z => z) | skip
  cases (show _ = _ from rx); cases (show _ = _ from ry)
  exact ⟨_, _, rfl, rfl, h.1, k.here rh h.2 rfl⟩
theorem okI {op : CmpOp} {g : Int → Int → Bool} (ho : OpR X (compareOp op) (rI0 fun i j => .bl (g i j))) : OpOk X (compareOp op) (oI g) := by
  refine ⟨_, ho, ?_⟩
  intro x y v u H L R Q rx ry rh h k
  cases x <;> cases y <;> first | exact absurd h (fun z => z) | skip
  cases (show _ = _ from rx); cases (show _ = _ from ry)
  exact ⟨_, _, rfl, rfl, k.here rh h rfl⟩
theorem ok_lt : OpOk X (compareOp .Lt) oLt := okI op_lt
theorem ok_le : OpOk X (compareOp .LtE) oLe := okI op_le
theorem ok_gt : OpOk X (compareOp .Gt) oGt := okI op_gt
theorem ok_ge : OpOk X (compareOp .GtE) oGe := okI op_ge
theorem repv_non {x : PV} {v : V} (r : RepV K H x v) : decide (v = .non) = isN x := by
  cases x with
  | non => cases (show _ = _ from r); rfl
  | fz ns => obtain ⟨a, rfl, _⟩ := r; rfl
  | tup ns => obtain ⟨a, vs, rfl, _⟩ := r; rfl
  | _ => cases (show _ = _ from r); rfl
theorem ok_is : OpOk X (compareOp .Is) oIs := by
  refine ⟨_, op_isN.or op_isBl, ?_⟩
  intro x y v u H L R Q rx ry rh h k
  have e := repv_non rx
  unfold oIs at h
  split at h
  · cases (show _ = _ from ry)
    exact .inl ⟨rfl, by rw [e]; exact k.here rh h rfl⟩
  · cases (show _ = _ from ry)
    split at h
    · cases (show _ = _ from rx)
      exact .inr ⟨_, _, rfl, rfl, k.here rh h rfl⟩
    · exact h.elim
  · exact h.elim
theorem ok_isnot : OpOk X (compareOp .IsNot) oIsNot := by
  refine ⟨_, op_notN.or op_notBl, ?_⟩
  intro x y v u H L R Q rx ry rh h k
  have e := repv_non rx
  unfold oIsNot at h
  split at h
  · cases (show _ = _ from ry)
    exact .inl ⟨rfl, by rw [e]; exact k.here rh h rfl⟩
  · cases (show _ = _ from ry)
    split at h
    · cases (show _ = _ from rx)
      exact .inr ⟨_, _, rfl, rfl, k.here rh h rfl⟩
    · exact h.elim
  · exact h.elim
theorem ok_eq (hu : X.A.units + 64 < cLine) : OpOk X (compareOp .Eq) oEq := by
  refine ⟨_, op_eqD hu, ?_⟩
  rintro x y v u H L R Q rx ry rh ⟨d, e, h1, h2, h3, h4, h5⟩ k
  exact ⟨d, e, h1.dp rh rx, h2.dp rh ry, h3, h4, k.here rh h5 rfl⟩
theorem ok_ne (hu : X.A.units + 64 < cLine) : OpOk X (compareOp .NotEq) oNe := by
  refine ⟨_, op_neD hu, ?_⟩
  rintro x y v u H L R Q rx ry rh ⟨d, e, h1, h2, h3, h4, h5⟩ k
  exact ⟨d, e, h1.dp rh rx, h2.dp rh ry, h3, h4, k.here rh h5 rfl⟩
end
def gv : Env → Nat → Option PV
  | [], _ => none
  | x :: _, 0 => x
  | _ :: r, i + 1 => gv r i
theorem gv_some : ∀ {env : Env} {i : Nat} {x : PV}, gv env i = some x → env[i]? = some (some x)
  | [], _, _, h => by cases h
  | _ :: _, 0, _, h => by
    have h : _ = _ := h
    simp only [gv] at h
    rw [h]
    rfl
  | _ :: r, i + 1, x, h => by
    have := gv_some (env := r) (i := i) h
    simpa using this
def wVar (i : Nat) : WE := fun env L R => match gv env i with
  | some x => R x L
  | none => False
def wC (x : PV) : WE := fun _ L R => R x L
def wBin (f : Op2) (a b : WE) : WE := fun env L R => a env L fun x La => b env La fun y Lb => f x y Lb R
def wUn (f : PV → Sto → PK → Prop) (a : WE) : WE := fun env L R => a env L fun x La => f x La R
def oNeg : PV → Sto → PK → Prop := fun x L R => match x with
  | .bl k => R (.int (-b2i k)) L
  | .int i => R (.int (-i)) L
  | _ => False
def bIf (x : PV) (A B : Prop) : Prop := match x with
  | .bl c => if c = true then A else B
  | _ => False
def wAnd (a b : WE) : WE := fun env L R => a env L fun x La => bIf x (b env La R) (R (.bl false) La)
def wOr (a b : WE) : WE := fun env L R => a env L fun x La => bIf x (R (.bl true) La) (b env La R)
def oNot : PV → Sto → PK → Prop := fun x L R => match x with
  | .bl c => R (.bl (!c)) L
  | _ => False
def wIfE (t a b : WE) : WE := fun env L R => t env L fun x La => bIf x (a env La R) (b env La R)
def wChain (f g : Op2) (a b c : WE) : WE := fun env L R => a env L fun x La => b env La fun y Lb => f x y Lb fun z Lc => bIf z (c env Lc fun w Ld => g y w Ld R) (R (.bl false) Lc)
def wTup (ws : List WE) : WE := fun env L R => wAr ws env L fun xs La => xs.length ≤ sizeLine ∧ R (.tup xs) La
def wLst (ws : List WE) : WE := fun env L R => wAr ws env L fun xs La => xs.length ≤ sizeLine ∧ newL La xs R
def wBi (g : BiF) (ws : List WE) : WE := fun env L R => wAr ws env L fun xs La => g xs La R
section
variable {X : Cx} {pos : Pos} {a b c : Expr} {wa wb wc : WE}
theorem lift_bin {f : Op2} {r : R2} {σ : L2.St} {H : Hp} {Q : VK} (hf : OpS X.K f r) (h : liftE X.K (wBin f wa wb) σ H Q) : tOp r (liftE X.K wa) (liftE X.K wb) σ H Q := by
  obtain ⟨env, L, R, hs, hL, hw, k⟩ := h
  refine ⟨env, L, _, hs, hL, hw, fun x La v H1 hb f1 rx r1 => ?_⟩
  refine ⟨env, La, _, hs.ex (f1.ex hL), r1, hb, fun y Lb u H2 hc f2 ry r2 => ?_⟩
  exact hf x y v u H2 Lb R Q (rx.ex (f2.ex r1)) ry r2 hc (k.fm (f1.trans f2))
theorem q_var {i : Nat} {x : Str} (hN : X.N[i]? = some x) (hv : Vis X.env.scope x) (hd : (x == ("__debug__" : Str)) = false) (hcd : (x == ("__classdict__" : Str)) = false) : PE X (.Name x pos) (liftE X.K (wVar i)) :=
  (pe_var hN hv hd hcd).weak fun σ H Q h => by
    obtain ⟨env, L, R, hs, hL, hw, k⟩ := h
    unfold wVar at hw
    cases e : gv env i with
    | none => rw [e] at hw; exact hw.elim
    | some x =>
      rw [e] at hw
      obtain ⟨v, e1, r1⟩ := hs.2 i x (gv_some e)
      exact ⟨v, e1, k.here hL hw r1⟩
theorem q_const {e : Expr} {v : V} {x : PV} (h : PE X e (tC v)) (r : ∀ H, RepV X.K H x v) : PE X e (liftE X.K (wC x)) := h.weak fun σ H Q h => by
  obtain ⟨env, L, R, hs, hL, hw, k⟩ := h
  exact k.here hL hw (r H)
theorem q_bin {op : Operator} {f : Op2} (ho : OpOk X (binaryOp op) f) (ha : PE X a (liftE X.K wa)) (hb : PE X b (liftE X.K wb)) : PE X (.BinOp a op b pos) (liftE X.K (wBin f wa wb)) := by
  obtain ⟨r, h1, h2⟩ := ho
  exact (pe_op h1 ha hb).weak fun σ H Q h => lift_bin h2 h
theorem q_cmp {op : CmpOp} {f : Op2} (ho : OpOk X (compareOp op) f) (ha : PE X a (liftE X.K wa)) (hb : PE X b (liftE X.K wb)) (hm : behindInMarks op b = false) : PE X (.Compare a [op] [b] pos) (liftE X.K (wBin f wa wb)) := by
  obtain ⟨r, h1, h2⟩ := ho
  exact (pe_cmpR h1 ha hb hm).weak fun σ H Q h => lift_bin h2 h
theorem lift_test {w : WE} {te : TE} (hw : ∀ σ H Q, liftE X.K w σ H Q → te σ H Q) {σ : L2.St} {H : Hp} {Q : Bool → Hp → Prop} (h : liftT X.K w σ H Q) : te σ H fun x H' => ∃ k, x = .bl k ∧ Q k H' := by
  obtain ⟨env, L, R, hs, hL, hw', k⟩ := h
  refine hw σ H _ ⟨env, L, R, hs, hL, hw', fun x L' v H' r f rv rh => ?_⟩
  obtain ⟨b, rfl, q⟩ := k x L' H' r f rh
  exact ⟨b, rv, q⟩
theorem t_cmp {op : CmpOp} {f : Op2} (ho : OpOk X (compareOp op) f) (ha : PE X a (liftE X.K wa)) (hb : PE X b (liftE X.K wb)) (hm : behindInMarks op b = false) : PT X (.Compare a [op] [b] pos) (liftT X.K (wBin f wa wb)) := by
  obtain ⟨r, h1, h2⟩ := ho
  exact (pt_cmpR h1 ha hb hm).weak fun σ H Q h => lift_test (fun σ H Q h => lift_bin h2 h) h
theorem t_val {e : Expr} {w : WE} (h : PE X e (liftE X.K w)) (he : ∀ whole, isTrue e X.env whole = (do let v ← whole; standAt e.pos; holding [v] (truthy v))) : PT X e (liftT X.K w) :=
  (pt_val h he).weak fun σ H Q h => lift_test (fun σ H Q h => h) h
theorem lift_chain {f g : Op2} {r r' : R2} {σ : L2.St} {H : Hp} {Q : VK} (hf : OpS X.K f r) (hg : OpS X.K g r') (h : liftE X.K (wChain f g wa wb wc) σ H Q) : tChain r r' (liftE X.K wa) (liftE X.K wb) (liftE X.K wc) σ H Q := by
  obtain ⟨env, L, R, hs, hL, hw, k⟩ := h
  refine ⟨env, L, _, hs, hL, hw, fun x La v H1 hb f1 rx r1 => ?_⟩
  refine ⟨env, La, _, hs.ex (f1.ex hL), r1, hb, fun y Lb u H2 hc f2 ry r2 => ?_⟩
  refine hf x y v u H2 Lb _ _ (rx.ex (f2.ex r1)) ry r2 hc fun z Lc zv H3 hz f3 rz r3 => ?_
  cases z <;> first | exact absurd hz (fun z => z) | skip
  rename_i k'
  cases (show _ = _ from rz)
  refine ⟨k', rfl, ?_⟩
  have hz : if k' = true then _ else _ := hz
  cases k' with
  | false =>
    rw [if_neg Bool.false_ne_true] at hz ⊢
    exact (k.fm ((f1.trans f2).trans f3)).here r3 hz rfl
  | true =>
    rw [if_pos rfl] at hz ⊢
    refine ⟨env, Lc, _, ((hs.ex (f1.ex hL)).ex (f2.ex r1)).ex (f3.ex r2), r3, hz, fun w Ld wv H4 hw4 f4 rw r4 => ?_⟩
    exact hg y w u wv H4 Ld R Q ((ry.ex (f3.ex r2)).ex (f4.ex r3)) rw r4 hw4 (k.fm (((f1.trans f2).trans f3).trans f4))
theorem q_chain {op op' : CmpOp} {f g : Op2} (ho : OpOk X (compareOp op) f) (ho' : OpOk X (compareOp op') g) (ha : PE X a (liftE X.K wa)) (hb : PE X b (liftE X.K wb)) (hc : PE X c (liftE X.K wc)) (hm : lastMarks [op, op'] [b, c] = false) :
    PE X (.Compare a [op, op'] [b, c] pos) (liftE X.K (wChain f g wa wb wc)) := by
  obtain ⟨r, h1, h2⟩ := ho
  obtain ⟨r', h1', h2'⟩ := ho'
  exact (pe_chain h1 h1' ha hb hc hm).weak fun σ H Q h => lift_chain h2 h2' h
theorem t_chain {op op' : CmpOp} {f g : Op2} (ho : OpOk X (compareOp op) f) (ho' : OpOk X (compareOp op') g) (ha : PE X a (liftE X.K wa)) (hb : PE X b (liftE X.K wb)) (hc : PE X c (liftE X.K wc)) (hm : lastMarks [op, op'] [b, c] = false) :
    PT X (.Compare a [op, op'] [b, c] pos) (liftT X.K (wChain f g wa wb wc)) := by
  obtain ⟨r, h1, h2⟩ := ho
  obtain ⟨r', h1', h2'⟩ := ho'
  exact (pt_chain h1 h1' ha hb hc hm).weak fun σ H Q h => lift_test (fun σ H Q h => lift_chain h2 h2' h) h
theorem q_neg (ha : PE X a (liftE X.K wa)) : PE X (.UnaryOp .USub a pos) (liftE X.K (wUn oNeg wa)) := (pe_un (UnR.or un_neg_b un_neg) ha).weak fun σ H Q h => by
  obtain ⟨env, L, R, hs, hL, hw, k⟩ := h
  refine ⟨env, L, _, hs, hL, hw, fun x La v H1 hb f1 rx r1 => ?_⟩
  cases x <;> first | exact absurd hb (fun z => z) | skip
  · cases (show _ = _ from rx)
    exact .inl ⟨_, rfl, (k.fm f1).here r1 hb rfl⟩
  · cases (show _ = _ from rx)
    exact .inr ⟨_, rfl, (k.fm f1).here r1 hb rfl⟩
theorem q_not (ha : PE X a (liftE X.K wa)) : PE X (.UnaryOp .Not a pos) (liftE X.K (wUn oNot wa)) := (pe_not ha).weak fun σ H Q h => by
  obtain ⟨env, L, R, hs, hL, hw, k⟩ := h
  refine ⟨env, L, _, hs, hL, hw, fun x La v H1 hb f1 rx r1 => ?_⟩
  cases x <;> first | exact absurd hb (fun z => z) | skip
  cases (show _ = _ from rx)
  exact ⟨_, rfl, (k.fm f1).here r1 hb rfl⟩
theorem t_not (ha : PT X a (liftT X.K wa)) : PT X (.UnaryOp .Not a pos) (liftT X.K (wUn oNot wa)) := (pt_not ha).weak fun σ H Q h => by
  obtain ⟨env, L, R, hs, hL, hw, k⟩ := h
  refine ⟨env, L, _, hs, hL, hw, fun x La H1 hb f1 r1 => ?_⟩
  cases x <;> first | exact absurd hb (fun z => z) | skip
  refine ⟨_, rfl, ?_⟩
  obtain ⟨b, e, q⟩ := k _ La H1 hb f1 r1
  cases e
  exact q
variable {rest : List Expr}
theorem bIf_bl {x : PV} {A B : Prop} (h : bIf x A B) : ∃ c, x = .bl c ∧ if c = true then A else B := by
  cases x <;> first | exact absurd h (fun z => z) | exact ⟨_, rfl, h⟩
theorem q_and (ha : PE X a (liftE X.K wa)) (hb : PE X (.BoolOp .And (b :: rest) pos) (liftE X.K wb)) : PE X (.BoolOp .And (a :: b :: rest) pos) (liftE X.K (wAnd wa wb)) := (pe_and ha hb).weak fun σ H Q h => by
  obtain ⟨env, L, R, hs, hL, hw, k⟩ := h
  refine ⟨env, L, _, hs, hL, hw, fun x La v H1 hb f1 rx r1 => ?_⟩
  obtain ⟨c, rfl, hc⟩ := bIf_bl hb
  cases (show _ = _ from rx)
  refine ⟨c, rfl, ?_⟩
  cases c with
  | true => exact ⟨env, La, R, hs.ex (f1.ex hL), r1, hc, k.fm f1⟩
  | false => exact (k.fm f1).here r1 hc rfl
theorem q_or (ha : PE X a (liftE X.K wa)) (hb : PE X (.BoolOp .Or (b :: rest) pos) (liftE X.K wb)) : PE X (.BoolOp .Or (a :: b :: rest) pos) (liftE X.K (wOr wa wb)) := (pe_or ha hb).weak fun σ H Q h => by
  obtain ⟨env, L, R, hs, hL, hw, k⟩ := h
  refine ⟨env, L, _, hs, hL, hw, fun x La v H1 hb f1 rx r1 => ?_⟩
  obtain ⟨c, rfl, hc⟩ := bIf_bl hb
  cases (show _ = _ from rx)
  refine ⟨c, rfl, ?_⟩
  cases c with
  | false => exact ⟨env, La, R, hs.ex (f1.ex hL), r1, hc, k.fm f1⟩
  | true => exact (k.fm f1).here r1 hc rfl
theorem q_one {op} (ha : PE X a (liftE X.K wa)) : PE X (.BoolOp op [a] pos) (liftE X.K wa) := pe_one ha
theorem w_and1 (ha : PT X a (liftT X.K wa)) : PW X (.BoolOp .And [a] pos) (liftT X.K wa) := pw_and1 ha
theorem w_or1 (ha : PT X a (liftT X.K wa)) : PW X (.BoolOp .Or [a] pos) (liftT X.K wa) := pw_or1 ha
theorem pw_weak {e : Expr} {t t' : TT} (h : PW X e t) (w : ∀ σ H Q, t' σ H Q → t σ H Q) : PW X e t' := ⟨fun wh pins s σ H Q I q => h.run wh pins s σ H Q I (w σ H Q q)⟩
theorem w_and (ha : PT X a (liftT X.K wa)) (hb : PW X (.BoolOp .And (b :: rest) pos) (liftT X.K wb)) : PW X (.BoolOp .And (a :: b :: rest) pos) (liftT X.K (wAnd wa wb)) := pw_weak (pw_and ha hb) fun σ H Q h => by
  obtain ⟨env, L, R, hs, hL, hw, k⟩ := h
  refine ⟨env, L, _, hs, hL, hw, fun x La H1 hb f1 r1 => ?_⟩
  obtain ⟨c, rfl, hc⟩ := bIf_bl hb
  refine ⟨c, rfl, ?_⟩
  cases c with
  | true => exact ⟨env, La, R, hs.ex (f1.ex hL), r1, hc, fun x L' H' r f rh => k x L' H' r (f1.trans f) rh⟩
  | false =>
    obtain ⟨b, e, q⟩ := k _ La H1 hc f1 r1
    cases e
    exact q
theorem w_or (ha : PT X a (liftT X.K wa)) (hb : PW X (.BoolOp .Or (b :: rest) pos) (liftT X.K wb)) : PW X (.BoolOp .Or (a :: b :: rest) pos) (liftT X.K (wOr wa wb)) := pw_weak (pw_or ha hb) fun σ H Q h => by
  obtain ⟨env, L, R, hs, hL, hw, k⟩ := h
  refine ⟨env, L, _, hs, hL, hw, fun x La H1 hb f1 r1 => ?_⟩
  obtain ⟨c, rfl, hc⟩ := bIf_bl hb
  refine ⟨c, rfl, ?_⟩
  cases c with
  | false => exact ⟨env, La, R, hs.ex (f1.ex hL), r1, hc, fun x L' H' r f rh => k x L' H' r (f1.trans f) rh⟩
  | true =>
    obtain ⟨b, e, q⟩ := k _ La H1 hc f1 r1
    cases e
    exact q
theorem q_ifE (hc : PT X c (liftT X.K wc)) (ha : PE X a (liftE X.K wa)) (hb : PE X b (liftE X.K wb)) : PE X (.IfExp c a b pos) (liftE X.K (wIfE wc wa wb)) := (pe_ifExp hc ha hb).weak fun σ H Q h => by
  obtain ⟨env, L, R, hs, hL, hw, k⟩ := h
  refine ⟨env, L, _, hs, hL, hw, fun x La H1 hb f1 r1 => ?_⟩
  obtain ⟨c, rfl, hc⟩ := bIf_bl hb
  refine ⟨c, rfl, ?_⟩
  cases c with
  | true => exact ⟨env, La, R, hs.ex (f1.ex hL), r1, hc, k.fm f1⟩
  | false => exact ⟨env, La, R, hs.ex (f1.ex hL), r1, hc, k.fm f1⟩
/-- arguments -/
theorem q_nil : PA X [] (liftA X.K []) := (pa_nil).weak fun σ H Q h => by
  obtain ⟨env, L, R, hs, hL, hw, k⟩ := h
  exact k [] L [] H hw rfl .refl rfl hL
theorem q_cons {es : List Expr} {ws : List WE} (ha : PE X a (liftE X.K wa)) (hr : PA X es (liftA X.K ws)) (hs : starEach (a :: es) X.env = (false, eval a X.env) :: starEach es X.env) : PA X (a :: es) (liftA X.K (wa :: ws)) := (pa_cons ha hr hs).weak fun σ H Q h => by
  obtain ⟨env, L, R, hs, hL, hw, k⟩ := h
  refine ⟨env, L, _, hs, hL, hw, fun x La v H1 hb f1 rx r1 => ?_⟩
  refine ⟨env, La, _, hs.ex (f1.ex hL), r1, hb, fun xs Lb vs H2 hc hn f2 rxs r2 => ?_⟩
  exact k (x :: xs) Lb (v :: vs) H2 hc (by rw [List.length_cons, List.length_cons, hn]) (f1.trans f2) ⟨v, vs, rfl, rx.ex (f2.ex r1), rxs⟩ r2
theorem q_tup {es : List Expr} {ws : List WE} {x1} (h : PA X es (liftA X.K ws)) : PE X (.Tuple es x1 pos) (liftE X.K (wTup ws)) := (pe_tup h).weak fun σ H Q h => by
  obtain ⟨env, L, R, hs, hL, hw, k⟩ := h
  exact ⟨env, L, _, hs, hL, hw, fun xs La vs H1 hb hn f1 rx r1 => ⟨by rw [← rx.length]; exact hb.1, (k.fm f1).newt r1 hb.2 rx⟩⟩
theorem q_lst {es : List Expr} {ws : List WE} (h : PA X es (liftA X.K ws)) : PE X (.List es pos) (liftE X.K (wLst ws)) := (pe_lst h).weak fun σ H Q h => by
  obtain ⟨env, L, R, hs, hL, hw, k⟩ := h
  exact ⟨env, L, _, hs, hL, hw, fun xs La vs H1 hb hn f1 rx r1 => ⟨by rw [← rx.length]; exact hb.1, (k.fm f1).newl r1 hb.2 rx⟩⟩
/-- a builtin's rule over data -/
def BiS (K : PySem.W.Frag) (g : BiF) (r : List V → Hp → VK → Prop) : Prop := ∀ (xs : List PV) (vs : List V) (H : Hp) (L : Sto) (R : PK) (Q : VK), RepVs K H xs vs → RepH K H L → g xs L R → Kt K H L R Q → r vs H Q
def BiOk (X : Cx) (f : Value) (g : BiF) : Prop := ∃ r, CallR X f r ∧ BiS X.K g r
theorem lift_bi {g : BiF} {r : List V → Hp → VK → Prop} {ws : List WE} {σ : L2.St} {H : Hp} {Q : VK} (hg : BiS X.K g r) (h : liftE X.K (wBi g ws) σ H Q) : tCB r (liftA X.K ws) σ H Q := by
  obtain ⟨env, L, R, hs, hL, hw, k⟩ := h
  exact ⟨env, L, _, hs, hL, hw, fun xs La vs H1 hb hn f1 rx r1 => hg xs vs H1 La R Q rx r1 hb (k.fm f1)⟩
end
end Mp
namespace HTR
open PySem PySem.Spec PyProof.Rows L2 HT
section
variable {prog : Program} {w : World} {A : Around} {E : Value → Shared → Prop} {s : Shared}
theorem adjust_rev (n : Nat) : Builtin.Slice.sliceAdjust none none (-1) (n : Int) = ((n : Int) - 1, -1) := by
  unfold Builtin.Slice.sliceAdjust
  simp
theorem places_rev (n : Nat) : Builtin.Slice.slicePlaces ((n : Int) - 1) (-1) (-1) = n := by
  unfold Builtin.Slice.slicePlaces
  have h1 : ¬ ((-1 : Int) > 0) := by omega
  rw [if_neg h1]
  split
  · rw [show (- (-1 : Int)) = 1 by omega, Int.ediv_one]
    omega
  · omega
theorem sliceApplied_rev {sl : Addr} {t : Tok} {n : Nat} {Q : Int × Int × Nat → Shared → Prop} (hs : s.heap.IsSliceOf sl .none .none (.int (-1) t))
    (h : Q ((n : Int) - 1, -1, n) s) : wpAny (model prog w) A (Builtin.Slice.sliceApplied (.ref sl) (pure (n : Int))) Q E s := by
  obtain ⟨os, hos, hcs, hds⟩ := id hs
  unfold Builtin.Slice.sliceApplied Builtin.Slice.sliceFields
  refine wpAny_bind (wpAny_bind (wpAny_field hos hds (x := .none) rfl (wpAny_bind (wpAny_field hos hds (x := .none) rfl (wpAny_bind (wpAny_field hos hds (x := .int (-1) t) rfl (wpAny_pure ?_)))))))
  refine wpAny_bind (slicePart_int ?_)
  show wpAny _ _ (if ((-1 : Int) == 0) = true then _ else _) _ _ s
  rw [if_neg (by decide)]
  refine wpAny_bind (slicePart_none (wpAny_bind (slicePart_none (wpAny_bind (wpAny_pure ?_)))))
  show wpAny _ _ (match Builtin.Slice.sliceAdjust none none (-1) (n : Int) with | (lo, hi) => pure (lo, (-1 : Int), Builtin.Slice.slicePlaces lo hi (-1))) _ _ s
  rw [adjust_rev n]
  show wpAny _ _ (pure ((n : Int) - 1, (-1 : Int), Builtin.Slice.slicePlaces ((n : Int) - 1) (-1) (-1))) _ _ s
  rw [places_rev]
  exact wpAny_pure h
theorem filterMap_some {α β : Type} {f : α → Option β} {g : α → β} : ∀ {l : List α}, (∀ m ∈ l, f m = some (g m)) → l.filterMap f = l.map g
  | [], _ => rfl
  | a :: l, h => by
    rw [List.filterMap_cons, h a List.mem_cons_self, filterMap_some fun m hm => h m (List.mem_cons_of_mem _ hm)]
    rfl
theorem pick_rev (xs : Array Value) : ((List.range xs.size).filterMap fun (m : Nat) => xs[((xs.size : Int) - 1 + (m : Int) * -1).toNat]?).toArray = xs.toList.reverse.toArray := by
  congr 1
  apply List.ext_getElem?
  intro i
  have e : (List.range xs.size).filterMap (fun (m : Nat) => xs[((xs.size : Int) - 1 + (m : Int) * -1).toNat]?) = (List.range xs.size).map (fun m => xs.toList.reverse.getD m .none) := by
    refine filterMap_some fun m hm => ?_
    have hm := List.mem_range.mp hm
    rw [show ((xs.size : Int) - 1 + (m : Int) * -1).toNat = xs.size - 1 - m by omega]
    show xs[xs.size - 1 - m]? = some (xs.toList.reverse.getD m .none)
    rw [List.getD_eq_getElem?_getD, List.getElem?_reverse (by simpa using hm)]
    simp only [Array.length_toList]
    rw [Array.getElem?_toList, Array.getElem?_eq_getElem (by omega)]
    rfl
  rw [e, List.getElem?_map]
  by_cases hi : i < xs.size
  · rw [List.getElem?_range hi]
    have : i < xs.toList.reverse.length := by simpa using hi
    rw [List.getElem?_eq_getElem this]
    simp only [Option.map_some, List.getD_eq_getElem?_getD, List.getElem?_eq_getElem this, Option.getD_some]
  · rw [List.getElem?_eq_none (by simpa using hi), List.getElem?_eq_none (by simpa using hi)]
    rfl
theorem getItem_tuple_rev {t sl : Addr} {items : Array Value} {k : Tok} {Q : Value → Shared → Prop} (ht : IsTup s.heap t items) (hs : s.heap.IsSliceOf sl .none .none (.int (-1) k))
    (h : Q (.ref s.heap.objs.size) { s with heap := s.heap.push { cls := .type "tuple", data := .seq items.toList.reverse.toArray } })
    (hsz : items.size ≤ sizeLine) : wpAny (model prog w) A (getItem (.ref t) (.ref sl)) Q E s := by
  have htake : sizeOk (.seq items.toList.reverse.toArray) := by
    show items.toList.reverse.toArray.size ≤ sizeLine
    rw [List.size_toArray, List.length_reverse, Array.length_toList]
    exact hsz
  obtain ⟨os, hos, hcs, hds⟩ := id hs
  have hTs : s.TypeIs (.ref sl) "slice" := ⟨os, hos, hcs⟩
  unfold getItem
  try with_reducible refine wpAny_holding ?_
  first | refine wpAny_bind (wpAny_pure ?_) | skip
  refine wpAny_bind (wpAny_sequenceKey ht.typeIs (by decide) ?_)
  refine wpAny_bind (wpAny_callSpecial?_slot (name := Str.ofString "__getitem__") ht.typeIs PyProof.Rows.slot_tuple_getitem
    (wpAny_call_entry PyProof.Rows.slot_tuple_getitem ht.typeIs entry_tuple_getitem ?_ (args_tuple_getitem _ _)))
  show wpAny _ _ (Builtin.Tuple.tupleItemsOf (.ref t) >>= _) _ _ s
  refine wpAny_bind (tupleItemsOf_ ht ?_)
  refine wpAny_bind (wpAny_typeOf hTs ?_)
  rw [if_pos (by decide)]
  refine wpAny_bind (sliceApplied_rev hs ?_)
  have hno : ¬ ((((items.size : Int) - 1 == 0) && ((-1 : Int) == 1) && (items.size == items.size)) = true) := by
    rw [show ((-1 : Int) == 1) = false by decide, Bool.and_false, Bool.false_and]
    exact Bool.false_ne_true
  show wpAny _ _ (if (((items.size : Int) - 1 == 0) && ((-1 : Int) == 1) && (items.size == items.size)) = true then _ else _) _ _ s
  rw [if_neg hno, pick_rev]
  first
    | exact wpAny_bind (m := Builtin.Tuple.tupleExact _) (wpAny_newObj_type (wpAny_pure ⟨_, rfl, wpAny_pure h⟩) htake)
    | exact wpAny_bind (m := Builtin.Tuple.tupleExact _) (wpAny_newObj_type (wpAny_bind (wpAny_pure (wpAny_pure ⟨_, rfl, wpAny_pure h⟩))) htake)
    | exact wpAny_bind (wpAny_bind (m := Builtin.Tuple.tupleExact _) (wpAny_newObj_type (wpAny_pure (wpAny_pure ⟨_, rfl, wpAny_pure h⟩)) htake))
    | exact wpAny_bind (wpAny_bind (m := Builtin.Tuple.tupleExact _) (wpAny_newObj_type (wpAny_pure ⟨_, rfl, wpAny_pure h⟩) htake))
end
end HTR
namespace Mp
section
open PySem PySem.Spec PyProof.Rows L2
/-- xs[::-1], of a list or a tuple -/
def tRevU (K : PySem.W.Frag) (te : TE) : TE := fun σ H Q => te σ H fun x H1 => (∃ a xs, x = .ref a ∧ SqL K H1 a xs ∧ ∀ p, H1 p = none → Q (.ref p) (upd H1 p (.lst xs.reverse))) ∨ (∃ a xs, x = .ref a ∧ SqT K H1 a xs ∧ ∀ p, H1 p = none → Q (.ref p) (upd H1 p (.tup xs.reverse))) ∨
  ∃ z, x = .str z ∧ z.length ≤ sizeLine ∧ ∀ z' : Str, (∀ c ∈ z'.cps.toList, c ∈ z.cps.toList) → z'.length ≤ z.length → Q (.str z') H1
theorem rev_made {z : Str} {t : Tok} {t1 : Tok} {s : Shared} {Q : Value → Shared → Prop} (hz : z.length ≤ sizeLine)
    (h : ∀ (z' : Str) (t' : Tok) (k : Nat), (∀ c ∈ z'.cps.toList, c ∈ z.cps.toList) → z'.length ≤ z.length → Q (.str z' t') { s with toks := k }) : (sliceMade z t none none (some (-1, t1))).post Q s := by
  unfold sliceMade
  rw [if_neg (by rw [show ((((some ((-1 : Int), t1)).map (·.1)).getD 1) == 1) = false from rfl, Bool.false_and]; exact Bool.false_ne_true)]
  have hl : ((slicePicked z none none (some (-1, t1))).filterMap (z.cps[·]?)).length ≤ z.length := by
    refine Nat.le_trans (List.length_filterMap_le _ _) ?_
    show (Builtin.Str.strSliceIndices none none (-1) z.length).length ≤ _
    unfold Builtin.Str.strSliceIndices sliceRange
    simp only [show ¬ ((-1 : Int) > 0) by decide, if_false, List.length_map, List.length_range]
    split
    · rw [show -(-1 : Int) = 1 by decide, Int.ediv_one]; omega
    · omega
  have hm : ∀ c ∈ ((slicePicked z none none (some (-1, t1))).filterMap (z.cps[·]?)), c ∈ z.cps.toList := fun c hc => by
    obtain ⟨i, _, hi⟩ := List.mem_filterMap.mp hc
    rw [← Array.getElem?_toList] at hi
    exact List.mem_of_getElem? hi
  refine ⟨?_, ?_⟩
  · show (List.toArray _).size ≤ sizeLine
    rw [List.size_toArray]
    exact Nat.le_trans hl hz
  · exact h _ _ _ (fun c hc => hm c (by simpa using hc)) (by show (List.toArray _).size ≤ _; rw [List.size_toArray]; exact hl)
theorem pe_revU {X : Cx} {e : Expr} {te : TE} {k : Nat} {p1 p2 p3 pos : Pos} (he : PE X e te) : PE X (.Subscript e (.Slice none none (some (.UnaryOp .USub (.Constant (.int 1) k p1) p2)) p3) pos) (tRevU X.K te) := by
  refine ⟨fun pins s σ H Q I h => ?_⟩
  refine Subscript_ (thn (he.run pins s σ H _ I h) fun v s1 ⟨x, H1, I1, r1, q1⟩ => ?_)
  have hst : PO X (some (.UnaryOp .USub (.Constant (.int 1) k p1) p2)) (tPart (tUn (rU fun i => .int (-i)) (tC (.int 1)))) := po_some (pe_un un_neg pe_int)
  refine wpAny_Slice (thn (po_none.run pins s1 σ H1 (fun o H2 => o = none ∧ H2 = H1) I1 ⟨rfl, rfl⟩) fun vl s2 ⟨l, H2, I2, pl, el, e2⟩ => ?_)
  subst el e2
  refine thn (po_none.run pins s2 σ H2 (fun o H3 => o = none ∧ H3 = H2) I2 ⟨rfl, rfl⟩) fun vu s3 ⟨u, H3, I3, pu, eu, e3⟩ => ?_
  subst eu e3
  refine thn (hst.run pins s3 σ H3 (fun o H4 => o = some (-1) ∧ H4 = H3) I3 ⟨1, rfl, -1, rfl, rfl, rfl⟩) fun vs s4 ⟨o, H4, I4, ps, eo, e4⟩ => ?_
  subst eo e4
  have I5 : Inv X pins σ H4 { s4 with heap := s4.heap.push { cls := .type "slice", data := .fields #[vl, vu, vs] } } := I4.kept (t' := s4.toks) fun b ob q => Heap.get?_push_of_some _ q
  rcases q1 with ⟨a, xs, ex, hx, q⟩ | ⟨a, xs, ex, hx, q⟩ | ⟨z, ex, hz, q⟩
  · subst ex
    cases r1
    obtain ⟨its, r, ht, hz⟩ := I5.list hx
    have hlen := r.length
    show wpAny (model X.prog X.w) X.A (subscriptTail e (.Slice none none (some (.UnaryOp .USub (.Constant (.int 1) k p1) p2)) p3) (.ref a) (.ref s4.heap.objs.size)) (EP X pins σ Q) X.xe { s4 with heap := s4.heap.push { cls := .type "slice", data := .fields #[vl, vu, vs] } }
    refine tail_any (ops := [.ref a, .ref s4.heap.objs.size]) ht.isList.typeIs (PySem.slot_list_getitem.lookup) ?_ (by with_unfolding_all rfl)
    refine wpAny_getItem_list_slice ht.isList (Heap.IsSliceOf.new _ vl vu vs) pl pu ps (by decide) ?_ (by rw [List.size_toArray]; omega)
    rw [PySem.W.krv_pick]
    refine ⟨.ref _, _, I5.laid (t' := s4.toks) (o := .lst xs.reverse) (fun b ob q => Heap.get?_push_of_some _ q) (Nat.le_refl _) ?_, rfl, q _ (I5.hok.fresh (Nat.le_refl _))⟩
    exact ⟨by rw [List.length_reverse]; exact hz, _, 0, r.reverse, Heap.get?_push_size _ rfl⟩
  · subst ex
    cases r1
    cases pl
    cases pu
    obtain ⟨its, r, ht, hz⟩ := I5.tuple hx
    have hlen := r.length
    show wpAny (model X.prog X.w) X.A (subscriptTail e (.Slice none none (some (.UnaryOp .USub (.Constant (.int 1) k p1) p2)) p3) (.ref a) (.ref s4.heap.objs.size)) (EP X pins σ Q) X.xe { s4 with heap := s4.heap.push { cls := .type "slice", data := .fields #[.none, .none, vs] } }
    refine tail_any (ops := [.ref a, .ref s4.heap.objs.size]) ht.typeIs (PyProof.Rows.slot_tuple_getitem.lookup) ?_ (by with_unfolding_all rfl)
    cases ps with
    | int i t =>
      refine HTR.getItem_tuple_rev ht (Heap.IsSliceOf.new _ .none .none (.int (-1) t)) ?_ (by rw [List.size_toArray]; omega)
      refine ⟨.ref _, _, I5.laid (t' := s4.toks) (o := .tup xs.reverse) (fun b ob q => Heap.get?_push_of_some _ q) (Nat.le_refl _) ?_, rfl, q _ (I5.hok.fresh (Nat.le_refl _))⟩
      exact ⟨by rw [List.length_reverse]; exact hz, _, r.reverse, ⟨_, Heap.get?_push_size _ rfl, rfl, 0, rfl⟩⟩
  · subst ex
    obtain ⟨t, rfl⟩ := r1
    cases pl
    cases pu
    cases ps with
    | int i t2 =>
      show wpAny (model X.prog X.w) X.A (subscriptTail e (.Slice none none (some (.UnaryOp .USub (.Constant (.int 1) k p1) p2)) p3) (.str z t) (.ref s4.heap.objs.size)) (EP X pins σ Q) X.xe { s4 with heap := s4.heap.push { cls := .type "slice", data := .fields #[.none, .none, .int (-1) t2] } }
      refine tail_any (ops := [.str z t, .ref s4.heap.objs.size]) (typeIs_str _ z t) (PySem.F.slot_str_getitem.lookup) ?_ (by with_unfolding_all rfl)
      refine wpAny_getItem_str_slice (l := none) (u := none) (st := some (-1, t2)) ⟨_, Heap.get?_push_size _ rfl, rfl, rfl⟩ rfl (rev_made hz fun z' t' kk h1 h2 => ?_)
      exact ⟨.str z', H4, I5.tok _, ⟨_, rfl⟩, q z' h1 h2⟩
def truP (x : PV) (L : Sto) (R : PK) : Prop := match x with
  | .bl b => R (.bl b) L
  | .int i => R (.bl (i != 0)) L
  | .non => R (.bl false) L
  | .tup xs => R (.bl (!xs.isEmpty)) L
  | .ref a => (match L a with
    | some (.l xs) => R (.bl (!xs.isEmpty)) L
    | _ => False)
  | .str z => z.length ≤ sizeLine ∧ R (.bl ((z.length : Int) != 0)) L
  | _ => False
def wTru (w : WE) : WE := fun env L R => w env L fun x La => truP x La R
theorem RepVs.emp {K : PySem.W.Frag} {H : Hp} {xs : List PV} {vs : List V} (r : RepVs K H xs vs) : xs.isEmpty = vs.isEmpty := by
  have := r.length
  cases xs <;> cases vs <;> first | rfl | simp at this
theorem t_tru {X : Cx} {e : Expr} {w : WE} (h : PE X e (liftE X.K w)) (he : ∀ whole, isTrue e X.env whole = (do let v ← whole; standAt e.pos; holding [v] (truthy v))) : PT X e (liftT X.K (wTru w)) :=
  (pt_truth h he).weak fun σ H Q h => by
  obtain ⟨env, L, R, hs, hL, hw, k⟩ := h
  refine ⟨env, L, _, hs, hL, hw, fun x La v H1 hb f1 rx r1 => ?_⟩
  have fin : ∀ b, R (.bl b) La → Q b H1 := fun b hR => by
    obtain ⟨b', e, q⟩ := k _ La H1 hR f1 r1
    cases e
    exact q
  unfold truP at hb
  split at hb
  · cases (show _ = _ from rx); exact ⟨_, rfl, fin _ hb⟩
  · cases (show _ = _ from rx); exact ⟨_, rfl, fin _ hb⟩
  · cases (show _ = _ from rx); exact ⟨_, rfl, fin _ hb⟩
  · obtain ⟨a, vs, rfl, t, r⟩ := rx
    exact ⟨_, .inr (.inl ⟨vs, t.sq, rfl⟩), by rw [← r.emp]; exact fin _ hb⟩
  · cases (show _ = _ from rx)
    split at hb
    · rename_i xs e
      obtain ⟨vs, h1, r⟩ := r1.lst e
      exact ⟨_, .inl ⟨vs, .of h1, rfl⟩, by rw [← r.emp]; exact fin _ hb⟩
    · exact hb.elim
  · cases (show _ = _ from rx); exact ⟨_, ⟨hb.1, rfl⟩, fin _ hb.2⟩
  · exact hb.elim
end
section
open PySem PySem.Spec PyProof.Rows L2
def cutP {α : Type} (xs : List α) (lo hi : Option Int) : List α := (xs.drop (HT.sIx xs.length 0 lo)).take (HT.sIx xs.length xs.length hi - HT.sIx xs.length 0 lo)
def oIx : Op2 := fun x y L R => match x, y with
  | .tup xs, .int i => match atI xs i with
    | some v => R v L
    | none => False
  | .ref a, y => match L a with
    | some (.l xs) => (match y with
      | .int i => (match atI xs i with
        | some v => R v L
        | none => False)
      | _ => False)
    | some (.d kvs) => (match y with
      | .int i => (match kvs.find? (fun kv => decide (kv.1 = .inl i)) with
        | some kv => R kv.2 L
        | none => False)
      | .str i => (match kvs.find? (fun kv => decide (kv.1 = .inr i)) with
        | some kv => R kv.2 L
        | none => False)
      | _ => False)
    | none => False
  | .fz ns, .int i => match atI ns i with
    | some v => R (.int v) L
    | none => False
  | .str z, .int i => z.length ≤ sizeLine ∧ match atI z.cps.toList i with
    | some c => R (.str ⟨#[c]⟩) L
    | none => False
  | _, _ => False
def oSl (x : PV) (lo hi : Option Int) (L : Sto) (R : PK) : Prop := match x with
  | .tup xs => R (.tup (cutP xs lo hi)) L
  | .ref a => match L a with
    | some (.l xs) => newL L (cutP xs lo hi) R
    | _ => False
  | .fz ns => newL L ((cutP ns lo hi).map PV.int) R
  | .str z => z.length ≤ sizeLine ∧ R (.str (cutS z lo hi)) L
  | _ => False
section
variable {K : PySem.W.Frag} {H : Hp} {L : Sto}
theorem RepVs.at {xs : List PV} {vs : List V} {i : Int} {x : PV} (r : RepVs K H xs vs) (h : atI xs i = some x) : ∃ v, atI vs i = some v ∧ RepV K H x v := by
  unfold atI at h ⊢
  rw [← r.length]
  cases e : ixN xs.length i with
  | none => rw [e] at h; cases h
  | some j =>
    rw [e] at h
    obtain ⟨v, h1, h2⟩ := r.get (i := j) h
    exact ⟨v, h1, h2⟩
theorem RepVs.cut {xs : List PV} {vs : List V} (r : RepVs K H xs vs) (lo hi : Option Int) : RepVs K H (cutP xs lo hi) (cutV vs lo hi) := by
  unfold cutP cutV
  rw [r.length]
  exact (r.drop _).take _
theorem atI_map {α β : Type} (f : α → β) (xs : List α) (i : Int) : atI (xs.map f) i = (atI xs i).map f := by
  unfold atI
  rw [List.length_map]
  cases ixN xs.length i with
  | none => rfl
  | some j => exact List.getElem?_map
theorem cut_map (xs : List Int) (lo hi : Option Int) : cutV (xs.map V.int) lo hi = (cutP xs lo hi).map V.int := by
  unfold cutP cutV
  rw [List.length_map, List.map_take, List.map_drop]
theorem RepKs.find {k : Key} {kv : Key × PV} : ∀ {kvs : List (Key × PV)} {ks : List (Key × V)}, RepKs K H kvs ks → kvs.find? (fun kv => decide (kv.1 = k)) = some kv → ∃ v, valV ks k = some v ∧ RepV K H kv.2 v
  | [], _, _, e => by cases e
  | (k', x) :: r, _, ⟨v, ks, h1, h2, h3⟩, e => by
    subst h1
    rw [List.find?_cons] at e
    unfold valV
    rw [List.find?_cons]
    by_cases q : k' = k
    · rw [show decide (k' = k) = true from decide_eq_true q] at e ⊢
      cases e
      exact ⟨v, rfl, h2⟩
    · rw [show decide (k' = k) = false from decide_eq_false q] at e ⊢
      exact RepKs.find h3 e
theorem fz_sq {ns : List Int} {v : V} (h : RepV K H (.fz ns) v) : ∃ a, v = .ref a ∧ SqL K H a (ns.map V.int) := by
  obtain ⟨a, rfl, h⟩ := h
  refine ⟨a, rfl, ?_⟩
  rcases h with ⟨o, h⟩ | h
  · exact .inl (.inr ⟨o, h⟩)
  · exact sqL_up h
end
section
variable {X : Cx} {pos : Pos} {a b c : Expr} {wa wb wc : WE}
theorem ix_dict (hu : X.A.units + 1 < cLine) : IxR X (fun x y H Q => ∃ a v, x = .ref a ∧ DGet H a y (some v) ∧ Q v H) := by
  intro value slice pins s σ H x y v u Q I rx ry h hs
  obtain ⟨a, w, rfl, g, q⟩ := h
  cases rx
  exact tail_any (dict_typeIs I g) PySem.F.slot_dict_getitem.lookup (d_getItem hu I g ry fun w' s3 I3 rw' => ⟨w, H, I3, rw', q⟩) hs
def IxOk (X : Cx) (f : Op2) : Prop := ∃ r, IxR X r ∧ OpS X.K f r
theorem ok_ix (hu : X.A.units + 1 < cLine) : IxOk X oIx := by
  refine ⟨_, ix_list.or (ix_tup.or (ix_str.or (ix_dict hu))), ?_⟩
  intro x y v u H L R Q rx ry rh h k
  cases x with
  | tup xs =>
    cases y <;> first | exact absurd h (fun z => z) | skip
    rename_i i
    obtain ⟨a, vs, rfl, t, r⟩ := rx
    cases (show _ = _ from ry)
    simp only [oIx] at h
    cases e : atI xs i with
    | none => rw [e] at h; exact h.elim
    | some z =>
      rw [e] at h
      obtain ⟨w, h1, h2⟩ := r.at e
      exact .inr (.inl ⟨a, vs, i, w, rfl, rfl, t.sq, h1, k.here rh h h2⟩)
  | ref a =>
    cases (show _ = _ from rx)
    simp only [oIx] at h
    cases e : L a with
    | none => rw [e] at h; exact h.elim
    | some o =>
      rw [e] at h
      cases o with
      | d kvs =>
        obtain ⟨ks, h1, r⟩ := rh.dct e
        cases y <;> first | exact absurd h (fun z => z) | skip
        · rename_i i
          cases (show _ = _ from ry)
          simp only at h
          split at h
          · rename_i kv e2
            obtain ⟨w, h3, h4⟩ := RepKs.find r e2
            exact .inr (.inr (.inr ⟨a, w, rfl, .inl ⟨ks, .inl i, .inl h1, rfl, h3.symm⟩, k.here rh h h4⟩))
          · exact h.elim
        · rename_i i
          cases (show _ = _ from ry)
          simp only at h
          split at h
          · rename_i kv e2
            obtain ⟨w, h3, h4⟩ := RepKs.find r e2
            exact .inr (.inr (.inr ⟨a, w, rfl, .inl ⟨ks, .inr i, .inl h1, rfl, h3.symm⟩, k.here rh h h4⟩))
          · exact h.elim
      | l xs =>
        obtain ⟨vs, h1, r⟩ := rh.lst e
        cases y <;> first | exact absurd h (fun z => z) | skip
        rename_i i
        cases (show _ = _ from ry)
        simp only at h
        cases e2 : atI xs i with
        | none => rw [e2] at h; exact h.elim
        | some z =>
          rw [e2] at h
          obtain ⟨w, h3, h4⟩ := r.at e2
          exact .inl ⟨a, vs, i, w, rfl, rfl, .inl (.inl h1), h3, k.here rh h h4⟩
  | fz ns =>
    cases y <;> first | exact absurd h (fun z => z) | skip
    rename_i i
    obtain ⟨a, rfl, hq⟩ := fz_sq rx
    cases (show _ = _ from ry)
    simp only [oIx] at h
    cases e : atI ns i with
    | none => rw [e] at h; exact h.elim
    | some z =>
      rw [e] at h
      exact .inl ⟨a, _, i, .int z, rfl, rfl, hq, by rw [atI_map, e]; rfl, k.here rh h rfl⟩
  | str z =>
    cases y <;> first | exact absurd h (fun z => z) | skip
    rename_i i
    cases (show _ = _ from rx)
    cases (show _ = _ from ry)
    obtain ⟨h1, h⟩ := h
    cases e : atI z.cps.toList i with
    | none => rw [e] at h; exact h.elim
    | some c =>
      rw [e] at h
      exact .inr (.inr (.inl ⟨z, i, c, rfl, rfl, h1, e, k.here rh h rfl⟩))
  | _ => exact absurd h (by cases y <;> exact (fun z => z))
theorem q_ix (hu : X.A.units + 1 < cLine) (ha : PE X a (liftE X.K wa)) (hb : PE X b (liftE X.K wb)) (hs : PlainIx b) : PE X (.Subscript a b pos) (liftE X.K (wBin oIx wa wb)) := by
  obtain ⟨r, h1, h2⟩ := ok_ix hu
  exact (pe_ix h1 ha hb hs).weak fun σ H Q h => lift_bin h2 h
abbrev WO := Env → Sto → (Option Int → Sto → Prop) → Prop
def wNo : WO := fun _ L R => R none L
def wSo (a : WE) : WO := fun env L R => a env L fun x La => match x with
  | .int i => R (some i) La
  | _ => False
def liftO (K : PySem.W.Frag) (w : WO) : TO := fun σ H Q => ∃ env L R, RepS K H σ env ∧ RepH K H L ∧ w env L R ∧ ∀ x L' H', R x L' → Fm H L H' L' → RepH K H' L' → Q x H'
def wSl (a : WE) (lo hi : WO) : WE := fun env L R => a env L fun x La => lo env La fun l Lb => hi env Lb fun u Lc => oSl x l u Lc R
theorem po_weak {e : Option Expr} {t t' : TO} (h : PO X e t) (w : ∀ σ H Q, t' σ H Q → t σ H Q) : PO X e t' := ⟨fun pins s σ H Q I q => h.run pins s σ H Q I (w σ H Q q)⟩
theorem o_no : PO X none (liftO X.K wNo) := po_weak po_none fun σ H Q h => by
  obtain ⟨env, L, R, hs, hL, hw, k⟩ := h
  exact k none L H hw .refl hL
theorem o_so (ha : PE X a (liftE X.K wa)) : PO X (some a) (liftO X.K (wSo wa)) := po_weak (po_some ha) fun σ H Q h => by
  obtain ⟨env, L, R, hs, hL, hw, k⟩ := h
  refine ⟨env, L, _, hs, hL, hw, fun x La v H1 hb f1 rx r1 => ?_⟩
  cases x <;> first | exact absurd hb (fun z => z) | skip
  cases (show _ = _ from rx)
  exact ⟨_, rfl, k _ La H1 hb f1 r1⟩
theorem q_sl {lo hi : Option Expr} {wl wh : WO} {p2 : Pos} (ha : PE X a (liftE X.K wa)) (hl : PO X lo (liftO X.K wl)) (hh : PO X hi (liftO X.K wh)) : PE X (.Subscript a (.Slice lo hi none p2) pos) (liftE X.K (wSl wa wl wh)) :=
  (pe_slice (sl_list.or (sl_tupA.or sl_str)) ha hl hh).weak fun σ H Q h => by
  obtain ⟨env, L, R, hs, hL, hw, k⟩ := h
  refine ⟨env, L, _, hs, hL, hw, fun x La v H1 hb f1 rx r1 => ?_⟩
  refine ⟨env, La, _, hs.ex (f1.ex hL), r1, hb, fun l Lb H2 hc f2 r2 => ?_⟩
  refine ⟨env, Lb, _, (hs.ex (f1.ex hL)).ex (f2.ex r1), r2, hc, fun u Lc H3 hd f3 r3 => ?_⟩
  have kk := k.fm ((f1.trans f2).trans f3)
  have rx3 := (rx.ex (f2.ex r1)).ex (f3.ex r2)
  cases x with
  | tup xs =>
    obtain ⟨p, vs, rfl, t, r⟩ := rx3
    refine .inr (.inl ⟨p, vs, rfl, t.sq, fun z => ?_, fun _ => kk.newt r3 hd (r.cut l u)⟩)
    have e : cutP xs l u = xs := by
      unfold cutP
      rw [r.length, z.1, z.2, List.drop_zero, Nat.sub_zero, ← r.length, List.take_length]
    refine kk.here r3 (x := .tup (cutP xs l u)) hd ?_
    rw [e]
    exact ⟨p, vs, rfl, t, r⟩
  | ref p =>
    cases (show _ = _ from rx3)
    simp only [oSl] at hd
    split at hd
    · rename_i xs e
      obtain ⟨vs, h1, r⟩ := r3.lst e
      exact .inl ⟨p, vs, rfl, .inl (.inl h1), kk.newl r3 hd (r.cut l u)⟩
    · exact hd.elim
  | fz ns =>
    obtain ⟨p, rfl, hq⟩ := fz_sq rx3
    refine .inl ⟨p, _, rfl, hq, ?_⟩
    rw [cut_map]
    exact kk.newl r3 hd RepVs.ofInts
  | str z =>
    cases (show _ = _ from rx3)
    exact .inr (.inr ⟨z, rfl, hd.1, kk.here r3 hd.2 rfl⟩)
  | _ => exact absurd hd (fun z => z)
def oRev (x : PV) (L : Sto) (R : PK) : Prop := match x with
  | .ref a => match L a with
    | some (.l xs) => newL L xs.reverse R
    | _ => False
  | .tup xs => R (.tup xs.reverse) L
  | .str z => z.length ≤ sizeLine ∧ ∀ z' : Str, (∀ c ∈ z'.cps.toList, c ∈ z.cps.toList) → z'.length ≤ z.length → R (.str z') L
  | _ => False
theorem q_rev {k : Nat} {p1 p2 p3 : Pos} (ha : PE X a (liftE X.K wa)) : PE X (.Subscript a (.Slice none none (some (.UnaryOp .USub (.Constant (.int 1) k p1) p2)) p3) pos) (liftE X.K (wUn oRev wa)) := (pe_revU ha).weak fun σ H Q h => by
  obtain ⟨env, L, R, hs, hL, hw, k⟩ := h
  refine ⟨env, L, _, hs, hL, hw, fun x La v H1 hb f1 rx r1 => ?_⟩
  cases x <;> first | exact absurd hb (fun z => z) | skip
  · cases (show _ = _ from rx)
    exact .inr (.inr ⟨_, rfl, hb.1, fun z' h1 h2 => (k.fm f1).here r1 (hb.2 z' h1 h2) rfl⟩)
  · rename_i p
    cases (show _ = _ from rx)
    simp only [oRev] at hb
    split at hb
    · rename_i xs e
      obtain ⟨vs, h1, r⟩ := r1.lst e
      exact .inl ⟨p, vs, rfl, .inl (.inl h1), (k.fm f1).newl r1 hb r.reverse⟩
    · exact hb.elim
  · obtain ⟨p, vs, rfl, t, r⟩ := rx
    exact .inr (.inl ⟨p, vs, rfl, t.sq, (k.fm f1).newt r1 hb r.reverse⟩)
end
def gLen : BiF := fun xs L R => match xs with
  | [.tup ys] => R (.int ys.length) L
  | [.ref a] => (match L a with
    | some (.l ys) => R (.int ys.length) L
    | some (.d ys) => R (.int ys.length) L
    | none => False)
  | [.fz ns] => R (.int ns.length) L
  | [.str z] => z.length ≤ sizeLine ∧ R (.int z.length) L
  | _ => False
def gAbs : BiF := fun xs L R => match xs with
  | [.int i] => R (.int (i.natAbs : Int)) L
  | _ => False
def gMin : BiF := fun xs L R => match xs with
  | [.int i, .int j] => R (.int (min i j)) L
  | [.ref a] => ∃ ns : List Int, L a = some (.l (ns.map PV.int)) ∧ 0 < ns.length ∧ ∀ m, m ∈ ns → (∀ y, y ∈ ns → m ≤ y) → R (.int m) L
  | _ => False
def gMax : BiF := fun xs L R => match xs with
  | [.int i, .int j] => R (.int (max i j)) L
  | [.ref a] => ∃ ns : List Int, L a = some (.l (ns.map PV.int)) ∧ 0 < ns.length ∧ ∀ m, m ∈ ns → (∀ y, y ∈ ns → y ≤ m) → R (.int m) L
  | _ => False
def gInt : BiF := fun xs L R => match xs with
  | [.int i] => R (.int i) L
  | [.bl k] => R (.int (if k then 1 else 0)) L
  | [.str z] => ∃ n, PySem.intText? z = some n ∧ z.length ≤ 640 ∧ R (.int n) L
  | _ => False
def gDivmod : BiF := fun xs L R => match xs with
  | [.int i, .int j] => 0 < j ∧ NoPl i j ∧ R (.tup [.int (i / j), .int (i % j)]) L
  | _ => False
def gList : BiF := fun xs L R => match xs with
  | [.tup ys] => newL L ys R
  | [.ref a] => (match L a with
    | some (.l ys) => newL L ys R
    | _ => False)
  | [.fz ns] => newL L (ns.map PV.int) R
  | _ => False
def gTuple : BiF := fun xs L R => match xs with
  | [.tup ys] => R (.tup ys) L
  | [.ref a] => (match L a with
    | some (.l ys) => R (.tup ys) L
    | _ => False)
  | _ => False
def gAll : BiF := fun xs L R => match xs with
  | [.ref a] => ∃ bs : List Bool, L a = some (.l (bs.map PV.bl)) ∧ R (.bl (bs.all id)) L
  | _ => False
def gAny : BiF := fun xs L R => match xs with
  | [.ref a] => ∃ bs : List Bool, L a = some (.l (bs.map PV.bl)) ∧ R (.bl (bs.any id)) L
  | _ => False
def gSum : BiF := fun xs L R => match xs with
  | [.ref a] => ∃ ns : List Int, L a = some (.l (ns.map PV.int)) ∧ R (.int ns.sum) L
  | _ => False
def bLe (a b : Bool) : Bool := !a || b
def gSorted : BiF := fun xs L R => match xs with
  | [.ref a] => (∃ ns : List Int, L a = some (.l (ns.map PV.int)) ∧ ns.length < 64 ∧ ∀ ns' : List Int, ns'.Perm ns → ns'.Pairwise (· ≤ ·) → newL L (ns'.map PV.int) R) ∨
    (∃ ss : List Str, L a = some (.l (ss.map PV.str)) ∧ ss.length < 64 ∧ ∀ ys : List Str, ys.Perm ss → sortedS ys = true → newL L (ys.map PV.str) R) ∨
    (∃ bs : List Bool, L a = some (.l (bs.map PV.bl)) ∧ bs.length < 64 ∧ bs.Pairwise (fun a b => bLe a b = true) ∧ newL L (bs.map PV.bl) R) ∨
    ∃ zs : List (PV × PyData), L a = some (.l (zs.map Prod.fst)) ∧ zs.length ≤ sizeLine ∧ (∀ z ∈ zs, PD L z.1 z.2 ∧ z.2.depth ≤ 40) ∧ PySem.W.AllAlike (zs.map Prod.snd) ∧ PySem.W.Sortable (zs.map Prod.snd) ∧
      newL L ((zs.mergeSort (PySem.W.dataLe false Prod.snd)).map Prod.fst) R
  | _ => False
def gStr : BiF := fun xs L R => match xs with
  | [.int i] => i.natAbs.log2 < 1920 ∧ R (.str (Str.ofString (toString i))) L
  | [.tup xs] => (∃ ns : List Int, xs = ns.map PV.int ∧ (∀ i ∈ ns, i.natAbs < 100000) ∧ ns.length ≤ 100 ∧ ∀ m, R (.str m) L) ∨ ∃ d, PD L (.tup xs) d ∧ d.showable = true ∧ d.hasDict = false ∧ d.depth ≤ 40 ∧ d.shown.length ≤ sizeLine ∧ R (.str d.shown) L
  | [.non] => R (.str "None") L
  | [.bl b] => R (.str (if b then "True" else "False")) L
  | [.str z] => R (.str z) L
  | [.ref a] => ∃ d, PD L (.ref a) d ∧ d.showable = true ∧ d.hasDict = false ∧ d.depth ≤ 40 ∧ d.shown.length ≤ sizeLine ∧ R (.str d.shown) L
  | _ => False
def tyName : PV → Sto → String
  | .non, _ => "NoneType"
  | .bl _, _ => "bool"
  | .int _, _ => "int"
  | .str _, _ => "str"
  | .tup _, _ => "tuple"
  | .fz _, _ => "list"
  | .ref a, L => (match L a with
    | some (.l _) => "list"
    | some (.d _) => "dict"
    | none => "")
  | .ty _, _ => ""
def isiB (t c : String) : Option Bool := match t, c with
  | "NoneType", "int" => some false | "NoneType", "bool" => some false | "NoneType", "str" => some false | "NoneType", "tuple" => some false | "NoneType", "list" => some false | "NoneType", "dict" => some false
  | "bool", "int" => some true | "bool", "bool" => some true | "bool", "str" => some false | "bool", "tuple" => some false | "bool", "list" => some false | "bool", "dict" => some false
  | "int", "int" => some true | "int", "bool" => some false | "int", "str" => some false | "int", "tuple" => some false | "int", "list" => some false | "int", "dict" => some false
  | "str", "int" => some false | "str", "bool" => some false | "str", "str" => some true | "str", "tuple" => some false | "str", "list" => some false | "str", "dict" => some false
  | "tuple", "int" => some false | "tuple", "bool" => some false | "tuple", "str" => some false | "tuple", "tuple" => some true | "tuple", "list" => some false | "tuple", "dict" => some false
  | "list", "int" => some false | "list", "bool" => some false | "list", "str" => some false | "list", "tuple" => some false | "list", "list" => some true | "list", "dict" => some false
  | "dict", "int" => some false | "dict", "bool" => some false | "dict", "str" => some false | "dict", "tuple" => some false | "dict", "list" => some false | "dict", "dict" => some true
  | _, _ => none
def isiBs (t : String) : List PV → Option Bool
  | [] => some false
  | .ty c :: r => (match isiB t c, isiBs t r with
    | some a, some b => some (a || b)
    | _, _ => none)
  | _ => none
def gIsi : BiF := fun xs L R => match xs with
  | [x, .ty c] => (match isiB (tyName x L) c with
    | some b => R (.bl b) L
    | none => False)
  | [x, .tup cs] => cs ≠ [] ∧ (match isiBs (tyName x L) cs with
    | some b => R (.bl b) L
    | none => False)
  | _ => False
end
section
open PySem PySem.Spec PyProof.Rows L2
structure FnG (P : Program) (w : World) (K : PySem.W.Frag) (mg : Str → Option Value) (base : Heap) (k : Nat) (f : Addr) (fd : FuncData) (ps : List Str) (sp : Sp) : Prop where
  ln : ∀ vs H Q E, sp vs H Q E → vs.length = ps.length
  go : ∀ (A : Around) (fr : List PySem.Env) (s : Shared) (H : Hp) (as : Args) (us : List Value) (vs : List V) (Q : VK) (E : XK), A.guards = some [] → Room k A → Env0 P w K mg base A fr s H →
    BindsTo s fd as (ps.zip us) → Vals vs us → sp vs H Q E → codeAny (model P w) A (.call (.ref f) as) (CR CX0 fr P w H s Q E) s
section
variable {P : Program} {w : World} {K : PySem.W.Frag} {mg : Str → Option Value} {base : Heap} {k : Nat} {f : Addr} {fd : FuncData} {ps : List Str} {sp : Sp}
theorem FnG.up {j : Nat} (g : FnG P w K mg base j f fd ps sp) (h : j ≤ k) : FnG P w K mg base k f fd ps sp :=
  ⟨g.ln, fun A fr s H as us vs Q E gd room => g.go A fr s H as us vs Q E gd (room.mono h)⟩
end
section
variable {X : Cx} {k : Nat} {f : Addr} {fd : FuncData} {ps : List Str} {sp : Sp} {x : Str} {p pos : Pos} {e : Expr} {es : List Expr} {t : TA}
theorem g_runs {pins : List (Addr × Obj)} {σ : L2.St} {H : Hp} {s : Shared} {Q : VK} {us : List Value} {vs : List V} (g : FnG X.prog X.w X.K X.mg X.base k f fd ps sp) (gd : X.A.guards = some []) (room : Room k X.A) (bi : Binds X.K fd ps [])
    (I : Inv X pins σ H s) (rv : Vals vs us) (hs : sp vs H Q E0) : wpAny (model X.prog X.w) X.A (call (.ref f) us) (EP X pins σ Q) X.xe s := by
  have n1 : us.length = ps.length := by
    have := g.ln _ _ _ _ hs
    rw [rv.length] at this
    exact this
  have b1 := bi s us I.kIn (by rw [List.append_nil]; exact n1)
  rw [List.append_nil] at b1
  have c1 := g.go X.A X.stack s H ⟨us, []⟩ us vs Q E0 gd room I.env0 b1 rv hs
  refine wpAny_call (codeAny_mono c1 ?_)
  intro res s2 hres
  match res, hres with
  | .ok (.ret u), hres => exact I.after hres
  | .ok .next, hres => exact hres.elim
  | .ok .brk, hres => exact hres.elim
  | .ok .cont, hres => exact hres.elim
  | .error _, hres => exact hres.elim
theorem g_call (g : FnG X.prog X.w X.K X.mg X.base k f fd ps sp) (gd : X.A.guards = some []) (room : Room k X.A) (gl : Gl X x) (hm : X.mg x = some (.ref f)) (hk : PySem.W.keepIn X.K (.ref f) = true) (bi : Binds X.K fd ps [])
    (ha : PA X (e :: es) t) (hdb : (x == ("__debug__" : Str)) = false) (he : starEach (e :: es) X.env = (false, eval e X.env) :: starEach es X.env) (hpl : (backTo pos (starEach es X.env)).any (·.1) = false) :
    PE X (.Call (.Name x p) (e :: es) [] pos) (tCall sp [] E0 t) := by
  constructor
  intro pins s σ H Q I ht
  apply wpAny_Call_Name_kw
  apply ld_glob I gl hm _ hdb
  have a1 := ha.run pos pins s σ H _ I ht
  refine PySem.W.callWith_K (h₀ := X.base) I.ok.mod.kin hk (thn a1 ?_) he hpl
  rintro us s1 ⟨vs, H1, J, rv, q⟩
  rw [List.append_nil] at q
  exact ⟨J.kIn, g_runs g gd room bi J rv q⟩
theorem g_call0 (g : FnG X.prog X.w X.K X.mg X.base k f fd ps sp) (gd : X.A.guards = some []) (room : Room k X.A) (gl : Gl X x) (hm : X.mg x = some (.ref f)) (hk : PySem.W.keepIn X.K (.ref f) = true) (bi : Binds X.K fd ps [])
    (hdb : (x == ("__debug__" : Str)) = false) : PE X (.Call (.Name x p) [] [] pos) (tCall sp [] E0 tNil) := by
  constructor
  intro pins s σ H Q I ht
  apply wpAny_Call_Name_kw
  apply ld_glob I gl hm _ hdb
  exact PySem.W.callWith_K0 I.kIn hk (g_runs (us := []) g gd room bi I .nil ht)
end
/-- a def by its body, called where nothing is being shown -/
theorem g_def {P : Program} {w : World} {K : PySem.W.Frag} {mg : Str → Option Value} {base : Heap} {k : Nat} {f : Addr} {nm ql : Str} {pr : Arguments} {bd : List Stmt} {sc : Scope} {dV kV doc pm cdv ct oc : Value} {an od : Option Addr}
    {osl : Array (Option Value)} {N ps : List Str} {sp : Sp} (lk : K.lookup f = some ⟨oc, od, .func (PySem.W.fnOf nm ql pr bd sc dV kV doc pm an cdv ct), osl⟩) (cd : PySem.W.codeIn K cdv ql = true) (S : FnScope N ps sc)
    (ln : ∀ vs H Q E, sp vs H Q E → vs.length = ps.length)
    (hb : ∀ (A : Around) (fr : List PySem.Env) (s : Shared) (H : Hp) (vs : List V) (Q : VK) (E : XK), A.guards = some [] → Room k (A.deeper (envOfC ql sc s.heap.objs.size f cdv)) → sp vs H Q E →
      ∃ t, PSs (cxOf CX0 P w K mg base N ql sc f cdv A fr s H E) bd t ∧ t { nx := fun _ H' => Q .non H', rt := Q } (L2.start N vs) H) :
    FnG P w K mg base (k + 1) f (PySem.W.fnOf nm ql pr bd sc dV kV doc pm an cdv ct) ps sp := by
  constructor
  · exact ln
  intro A fr s H as us vs Q E gd room e0 bt rv hs
  have n1 := ln _ _ _ _ hs
  have keep : ∀ b o, base.get? b = some o → s.heap.get? b = some o := fun b o z => (e0.bs b o z).1
  have kin : K.In s.heap := e0.mod.kin.keeps keep
  have nol : s.heap.NoLimit := e0.mod.nolimit.keeps keep
  have kinds : ∀ y ∈ ps.zip us, sc.names.lookup y.1 = some .local ∨ (sc.names.lookup y.1 = some .cell ∧ ((cellsFrom (s.heap.objs.size + 1) sc.names []).lookup y.1).isSome = true) := by
    rintro ⟨y, v⟩ hy
    have hm := (List.of_mem_zip hy).1
    cases S.par y hm with
    | inl z => exact .inl z
    | inr z => exact .inr ⟨z, PySem.W.cellsFrom_some _ _ _ (.inl z)⟩
  apply codeAny_call_function room.depth (kin _ _ lk) rfl S.co S.gen rfl (PySem.W.codeRec_of kin cd)
  apply bt
  apply wpAny_newFunctionEnv_cells S.kind kinds
  rintro en rfl s1 ic
  refine ⟨nol.keeps ic.toInCall.keep, codeAny_func ?_⟩
  obtain ⟨t, pt, q⟩ := hb A fr s H vs Q E gd (room.deeper _) hs
  have J : Inv (cxOf CX0 P w K mg base N ql sc f cdv A fr s H E) [] (L2.start N vs) H s1 := inv_start S room.hd e0 n1 rv ic
  refine wpAny_mono (pt.run [] s1 _ H _ J q) ?_ (fun _ _ z => z)
  intro fl s2 z
  match fl, z with
  | .ret u, ⟨v, σ2, H2, J2, r2, q2⟩ => exact ⟨v, H2, J2.os, J2.bare, J2.base, J2.hok, r2, q2⟩
  | .next, ⟨σ2, H2, J2, q2⟩ => exact ⟨V.non, H2, J2.os, J2.bare, J2.base, J2.hok, rfl, q2⟩
  | .brk, ⟨_, _, _, q2⟩ => exact q2.elim
  | .cont, ⟨_, _, _, q2⟩ => exact q2.elim
/-- the law's call, from its promise -/
theorem g_law {P : Program} {w : World} {K : PySem.W.Frag} {mg mb : Str → Option Value} {k : Nat} {fa a : Addr} {fd : FuncData} {x : Str} {sp : Sp} {s : Shared} {its : List Value} {ns : List Int}
    (kin : K.In s.heap) (nm : s.heap.Ns mainGlobals mg) (nb : s.heap.Ns builtinsNs mb) (bb : ∀ x : Str, x ≠ "__name__" → mb x = bootBuiltins x) (nol : s.heap.NoLimit) (gn : s.gens = #[])
    (oa : s.heap.get? a = some { cls := .type "list", data := .seq its.toArray }) (ia : IntsAre its ns) (len : ns.length ≤ sizeLine) (room : Room k callerA)
    (F : ∀ base : Heap, K.In base → base.Ns mainGlobals mg → FnG P w K mg base k fa fd [x] sp) (bi : ∀ (s : Shared) (u : Value), BindsTo s fd ⟨[u], []⟩ [(x, u)])
    (hs : ∀ H : Hp, Only H → SqL K H a (ns.map V.int) → sp [.ref a] H (fun v _ => v = .bl true) fun _ _ _ => False) :
    codeAny (model P w) callerA (.call (.ref fa) ⟨[.ref a], []⟩) (fun r s' => r = .ok (.ret (.bool true)) ∧ OldK s.heap s'.heap ∧ s'.os = s.os ∧ AllBare s'.gens) s := by
  have ri := vals_ints ia
  have li := ia.length
  have from_H : ∀ H : Hp, Only H → SqL K H a (ns.map V.int) → HOk P w H s.heap → (∀ b, b ≠ a → H b = none) → (K.lookup a = none ∨ H a = none) →
      codeAny (model P w) callerA (.call (.ref fa) ⟨[.ref a], []⟩) (fun r s' => r = .ok (.ret (.bool true)) ∧ OldK s.heap s'.heap ∧ s'.os = s.os ∧ AllBare s'.gens) s := by
    intro H only sq hok off ka
    have seen : ∀ {b : Addr} {o : Obj}, s.heap.get? b = some o → H b = none → (hidT s.heap H).get? b = some o := fun h n => hidT_get h n
    have nsd : ∀ {b : Addr} {m : Str → Option Value}, s.heap.Ns b m → (hidT s.heap H).Ns b m := by
      rintro b m ⟨o, en, ep, h1, h2, h3⟩
      refine ⟨o, en, ep, seen h1 ?_, h2, h3⟩
      by_cases z : b = a
      · exfalso
        rw [z, oa] at h1
        cases h1
        cases (show Data.seq its.toArray _ = Data.dict en ep from h2)
      · exact off b z
    have kb : K.In (hidT s.heap H) := by
      intro b o h1
      refine seen (kin b o h1) ?_
      by_cases z : b = a
      · rw [z] at h1 ⊢
        rcases ka with h | h
        · rw [h] at h1; cases h1
        · exact h
      · exact off b z
    have lim : (hidT s.heap H).NoLimit := by
      obtain ⟨mc, h1, h2⟩ := nol
      exact ⟨mc, nsd h1, h2⟩
    have md : Mod K mg (hidT s.heap H) := ⟨kb, nsd nm, ⟨mb, nsd nb, bb⟩, lim⟩
    have e0 : Env0 P w K mg (hidT s.heap H) callerA [] s H :=
      ⟨rfl, md, fun b o h => of_hidT h, Nat.le_of_eq (hidT_size _ _), trivial, fun b h => absurd (show b ∈ ([] : List Addr) from h) List.not_mem_nil, hok, .of_eq gn⟩
    have run := (F _ kb (nsd nm)).go callerA [] s H ⟨[.ref a], []⟩ [.ref a] [.ref a] _ _ rfl room e0 (bi s (.ref a)) (.cons rfl .nil) (hs H only sq)
    refine codeAny_mono run ?_
    intro r s2 z
    match r, z with
    | .error _, z => exact z.elim
    | .ok .next, z => exact z.elim
    | .ok .brk, z => exact z.elim
    | .ok .cont, z => exact z.elim
    | .ok (.ret u), ⟨v, H2, os, bare, un, hok2, rv, hv⟩ =>
      have hv : v = .bl true := hv
      subst hv
      have hu : u = Value.bool true := rv
      subst hu
      refine ⟨rfl, OldK.of_keep ?_, os, bare⟩
      intro b o h1
      rcases only b with z | ⟨ob, xs, z⟩
      · exact un.keep b o h1 z (fun y => by cases (show b ∈ ([] : List Addr) from y)) (fun y => by cases y)
      · obtain ⟨y1, _⟩ := hok b _ z
        obtain ⟨y2, _⟩ := hok2 b _ (un.frzs b ob _ z)
        rw [h1] at y1
        cases y1
        exact y2
  by_cases hk : K.lookup a = none
  · let H : Hp := fun b => if b = a then some (.frz { cls := .type "list", data := .seq its.toArray } (.lst (ns.map V.int))) else none
    have Ha : H a = some (.frz { cls := .type "list", data := .seq its.toArray } (.lst (ns.map V.int))) := if_pos rfl
    have Hn : ∀ b, b ≠ a → H b = none := fun b z => if_neg z
    refine from_H H ?_ (.inl (.inr ⟨_, Ha⟩)) ?_ Hn (.inl hk)
    · intro b
      by_cases z : b = a
      · exact .inr ⟨_, _, by rw [z]; exact Ha⟩
      · exact .inl (Hn b z)
    · intro b u hu
      by_cases z : b = a
      · subst z
        rw [Ha] at hu
        cases hu
        exact ⟨oa, by rw [List.length_map]; exact len, its, _, ri, oa⟩
      · rw [Hn b z] at hu; cases hu
  · obtain ⟨o, ho⟩ := Option.ne_none_iff_exists'.mp hk
    have h1 := kin a o ho
    rw [oa] at h1
    cases h1
    refine from_H (fun _ => none) (fun _ => .inl rfl) (.inr ⟨_, its.toArray, _, ho, rfl, rfl, rfl, ?_, by simpa using ri⟩) (fun b u z => by cases (show (none : Option HO) = some u from z)) (fun _ _ => rfl) (.inr rfl)
    rw [List.size_toArray, li]
    exact len
end
section
open PySem PySem.Spec PyProof.Rows L2
section
variable {fb : List (PySem.W.Frag → Bool)} {fn : List (Str × Stmt)} {K : PySem.W.Frag} {h : Heap} {mg : Str → Option Value}
theorem SaysM.fact (c : SaysM fb fn K) (i : Nat) {f : PySem.W.Frag → Bool} (e : fb[i]? = some f) : f K = true := by
  have c1 : (fb.all fun f => f K) = true := congrArg (fun z : AlM => z.1) c
  exact List.all_eq_true.mp c1 f (List.mem_of_getElem? e)
theorem SaysM.fun_ (c : SaysM fb fn K) {x : Str} {st : Stmt} (i : Nat) (e1 : fn[i]? = some (x, st)) :
    ∃ f, PySem.W.nsIn K mainGlobals x = some (some (.ref f)) ∧ ∃ fd, Fun K x x st f fd := by
  have c2 : fn.map (fun d => oneM K d.1) = fn.map dueM := congrArg (fun z : AlM => z.2) c
  have e3 : (fn.map fun d => oneM K d.1)[i]? = (fn.map dueM)[i]? := by rw [c2]
  rw [List.getElem?_map, List.getElem?_map, e1] at e3
  exact oneM_ok (d := (x, st)) (Option.some.inj e3)
theorem SaysM.cn (c : SaysM fb fn K) (X : K.In h) (G : h.Ns mainGlobals mg) {x : Str} {p : PV} (i : Nat) (e : fb[i]? = some (zcn x p)) : ∃ u v, mg x = some u ∧ RelV v u ∧ ∀ H, RepV K H p v := by
  have k : (match PySem.W.nsIn K mainGlobals x with
    | some (some u) => cvB K p u
    | _ => false) = true := c.fact i e
  cases q : PySem.W.nsIn K mainGlobals x with
  | none => rw [q] at k; cases k
  | some o =>
    rw [q] at k
    cases o with
    | none => cases k
    | some u =>
      obtain ⟨v, h1, h2⟩ := cvB_ok (show cvB K p u = true from k)
      exact ⟨u, v, PySem.W.mg_of X G q, h1, h2⟩
theorem SaysM.free (c : SaysM fb fn K) (X : K.In h) (G : h.Ns mainGlobals mg) {x : Str} (i : Nat) (e : fb[i]? = some (zfree x)) : mg x = none := PySem.W.mg_none_of X G (He.eqO_ok (c.fact i e))
end
/-- the goal that the head's run leaves -/
theorem g_walkE {l : PySem.W.OpenLaw} {n k : Nat} {q : Program} {loose : List Str} {XP : (Str → Option Value) → Heap → Prop} {YP : World → Heap → Prop} {d : DefRec} {sp : PySem.W.Frag → Sp} {x : Str}
    (hn : l.most = some n) (hn2 : n ≤ sizeLine) (hdf : d.params.defaults = []) (room : Room k callerA)
    (F : ∀ (w : World) (mg : Str → Option Value) (fa : Addr) (h : Heap), YP w h → h.Ns mainGlobals mg → mg d.name = some (.ref fa) →
      ∃ K : PySem.W.Frag, K.In h ∧ ∃ fd : FuncData, (∀ (s : Shared) (u : Value), BindsTo s fd ⟨[u], []⟩ [(x, u)]) ∧ ∀ base : Heap, K.In base → base.Ns mainGlobals mg → FnG l.prog w K mg base k fa fd [x] (sp K))
    (hs : ∀ (K : PySem.W.Frag) (H : Hp) (a : Addr) (ns : List Int), ns.length ≤ n → Only H → SqL K H a (ns.map V.int) → sp K [.ref a] H (fun v _ => v = .bl true) fun _ _ _ => False) :
    PySem.W.WalkO q loose XP YP l.row.toRowW d [] (fun f vs => PySem.call f vs) := by
  apply Att.attach_call hn hdf
  intro w s₀ s mg mb fa o pm cd doc a its ns G Y _ _ _ hmg oa ia len gn
  obtain ⟨K, kin, fd, bi, hF⟩ := F w mg fa _ Y G.T.g hmg
  exact g_law kin G.T.g G.T.b G.T.builtins G.T.nolimit gn oa ia (Nat.le_trans len hn2) room hF bi fun H => hs K H a ns len
end
section
open PySem PySem.Spec PyProof.Rows L2
section
variable {X : Cx} {K : PySem.W.Frag} {H : Hp} {L : Sto}
theorem b_len : BiOk X (.builtin "len") gLen := by
  refine ⟨_, call_len.or call_lenD, ?_⟩
  intro xs vs H L R Q rx rh h k
  unfold gLen at h
  split at h
  · obtain ⟨v, rfl, p, ws, rfl, t, r⟩ := rx.one
    exact .inl ⟨_, _, rfl, .inr ⟨ws, t.sq, rfl⟩, by rw [← r.length]; exact k.here rh h rfl⟩
  · obtain ⟨v, rfl, rv⟩ := rx.one
    cases (show _ = _ from rv)
    split at h
    · rename_i ys e
      obtain ⟨ws, h1, r⟩ := rh.lst e
      exact .inl ⟨_, _, rfl, .inl ⟨ws, .inl (.inl h1), rfl⟩, by rw [← r.length]; exact k.here rh h rfl⟩
    · rename_i ys e
      obtain ⟨ws, h1, r⟩ := rh.dct e
      have len : ∀ {a : List (Key × PV)} {b : List (Key × V)}, RepKs X.K H a b → a.length = b.length := fun {a} => by
        induction a with
        | nil => intro b q; cases (show _ = _ from q); rfl
        | cons p a ih => intro b q; obtain ⟨v, r', rfl, _, q⟩ := q; rw [List.length_cons, List.length_cons, ih q]
      exact .inr ⟨_, ws, rfl, h1, by rw [← len r]; exact k.here rh h rfl⟩
    · exact h.elim
  · obtain ⟨v, rfl, rv⟩ := rx.one
    obtain ⟨a, rfl, hq⟩ := fz_sq rv
    refine .inl ⟨_, _, rfl, .inl ⟨_, hq, rfl⟩, ?_⟩
    rw [List.length_map]
    exact k.here rh h rfl
  · obtain ⟨v, rfl, rv⟩ := rx.one
    cases (show _ = _ from rv)
    exact .inl ⟨_, _, rfl, ⟨h.1, rfl⟩, k.here rh h.2 rfl⟩
  · exact h.elim
theorem b_abs : BiOk X (.builtin "abs") gAbs := by
  refine ⟨_, call_abs, ?_⟩
  intro xs vs H L R Q rx rh h k
  unfold gAbs at h
  split at h
  · rename_i i
    obtain ⟨v, rfl, rv⟩ := rx.one
    cases (show _ = _ from rv)
    refine ⟨i, rfl, ?_⟩
    rw [show (if i < 0 then -i else i) = (i.natAbs : Int) by split <;> omega]
    exact k.here rh h rfl
  · exact h.elim
theorem b_min (hc : X.calm = true) : BiOk X (.builtin "min") gMin := by
  refine ⟨_, (call_min2 hc).or (cr_min hc), ?_⟩
  intro xs vs H L R Q rx rh h k
  unfold gMin at h
  split at h
  · rename_i i j
    obtain ⟨v, w, rfl, rv, rw'⟩ := rx.two
    cases (show _ = _ from rv)
    cases (show _ = _ from rw')
    refine .inl ⟨i, j, rfl, ?_⟩
    rw [show (if j < i then j else i) = min i j by rw [Int.min_def]; split <;> split <;> omega]
    exact k.here rh h rfl
  · obtain ⟨v, rfl, rv⟩ := rx.one
    cases (show _ = _ from rv)
    obtain ⟨ns, e, h0, h1⟩ := h
    obtain ⟨ws, h2, r⟩ := rh.lst e
    have := r.ints
    subst this
    exact .inr ⟨_, ns, rfl, .inl (.inl h2), h0, fun m hm hl => k.here rh (h1 m hm hl) rfl⟩
  · exact h.elim
theorem b_max (hc : X.calm = true) : BiOk X (.builtin "max") gMax := by
  refine ⟨_, (call_max2 hc).or (cr_max hc), ?_⟩
  intro xs vs H L R Q rx rh h k
  unfold gMax at h
  split at h
  · rename_i i j
    obtain ⟨v, w, rfl, rv, rw'⟩ := rx.two
    cases (show _ = _ from rv)
    cases (show _ = _ from rw')
    refine .inl ⟨i, j, rfl, ?_⟩
    rw [show (if j > i then j else i) = max i j by rw [Int.max_def]; split <;> split <;> omega]
    exact k.here rh h rfl
  · obtain ⟨v, rfl, rv⟩ := rx.one
    cases (show _ = _ from rv)
    obtain ⟨ns, e, h0, h1⟩ := h
    obtain ⟨ws, h2, r⟩ := rh.lst e
    have := r.ints
    subst this
    exact .inr ⟨_, ns, rfl, .inl (.inl h2), h0, fun m hm hl => k.here rh (h1 m hm hl) rfl⟩
  · exact h.elim
theorem call_int_s : CallR X (.type "int") (fun xs H Q => ∃ z n, xs = [.str z] ∧ (PySem.intText? z = some n ∧ z.length ≤ 640) ∧ Q (.int n) H) := by
  intro pins s σ H xs us Q I r h
  obtain ⟨z, n, rfl, ⟨h1, h2⟩, q⟩ := h
  obtain ⟨u, rfl, t, rfl⟩ := vals1 r
  exact PySem.W.KIN.call_text h1 h2 ⟨.int n, H, I.tok _, ⟨_, rfl⟩, q⟩
theorem b_int : BiOk X (.type "int") gInt := by
  refine ⟨_, call_int1.or call_int_s, ?_⟩
  intro xs vs H L R Q rx rh h k
  unfold gInt at h
  split at h
  · obtain ⟨v, rfl, rv⟩ := rx.one
    cases (show _ = _ from rv)
    exact .inl (.inl ⟨_, rfl, k.here rh h rfl⟩)
  · obtain ⟨v, rfl, rv⟩ := rx.one
    cases (show _ = _ from rv)
    exact .inl (.inr ⟨_, rfl, k.here rh h rfl⟩)
  · obtain ⟨v, rfl, rv⟩ := rx.one
    cases (show _ = _ from rv)
    obtain ⟨n, h1, h2, h3⟩ := h
    exact .inr ⟨_, n, rfl, ⟨h1, h2⟩, k.here rh h3 rfl⟩
  · exact h.elim
theorem call_divmodA : CallR X (.builtin "divmod") (fun xs H Q => ∃ i j, xs = [.int i, .int j] ∧ (0 < j ∧ NoPl i j) ∧ ∀ p, H p = none → Q (.ref p) (upd H p (.tup [.int (i / j), .int (i % j)]))) := by
  intro pins s σ H xs us Q I r h
  obtain ⟨i, j, rfl, ⟨h1, h2⟩, q⟩ := h
  obtain ⟨u, w', rfl, ⟨t, rfl⟩, ⟨t', rfl⟩⟩ := vals2 r
  refine divmod_int (by omega) ?_ (.inl h2.ok)
  rw [Int.fdiv_eq_ediv_of_nonneg i (by omega), Int.fmod_eq_emod_of_nonneg i (by omega)]
  have hn : H s.heap.objs.size = none := I.hok.fresh (Nat.le_refl _)
  refine ⟨.ref s.heap.objs.size, _, ?_, rfl, q _ hn⟩
  refine I.laid (fun b o e => Heap.get?_push_of_some _ e) (Nat.le_refl _) ⟨by simp only [List.length_cons, List.length_nil]; rw [sizeLine_eq]; decide, [.int (i / j) s.toks, .int (i % j) (s.toks + 1)], .cons ⟨_, rfl⟩ (.cons ⟨_, rfl⟩ .nil), ?_⟩
  exact ⟨_, Heap.get?_push_size s.heap rfl, rfl, 0, rfl⟩
theorem b_divmod : BiOk X (.builtin "divmod") gDivmod := by
  refine ⟨_, call_divmodA, ?_⟩
  intro xs vs H L R Q rx rh h k
  unfold gDivmod at h
  split at h
  · obtain ⟨v, w, rfl, rv, rw'⟩ := rx.two
    cases (show _ = _ from rv)
    cases (show _ = _ from rw')
    exact ⟨_, _, rfl, ⟨h.1, h.2.1⟩, k.newt rh h.2.2 ⟨_, _, rfl, rfl, _, _, rfl, rfl, rfl⟩⟩
  · exact h.elim
theorem b_list : BiOk X (.type "list") gList := by
  refine ⟨_, call_list_of, ?_⟩
  intro xs vs H L R Q rx rh h k
  unfold gList at h
  split at h
  · obtain ⟨v, rfl, p, ws, rfl, t, r⟩ := rx.one
    exact ⟨p, ws, rfl, .inr t.sq, k.newl rh h r⟩
  · obtain ⟨v, rfl, rv⟩ := rx.one
    cases (show _ = _ from rv)
    split at h
    · rename_i ys e
      obtain ⟨ws, h1, r⟩ := rh.lst e
      exact ⟨_, ws, rfl, .inl (.inl (.inl h1)), k.newl rh h r⟩
    · exact h.elim
  · obtain ⟨v, rfl, rv⟩ := rx.one
    obtain ⟨a, rfl, hq⟩ := fz_sq rv
    exact ⟨a, _, rfl, .inl hq, k.newl rh h RepVs.ofInts⟩
  · exact h.elim
theorem b_tuple : BiOk X (.type "tuple") gTuple := by
  refine ⟨_, call_tuple_of, ?_⟩
  intro xs vs H L R Q rx rh h k
  unfold gTuple at h
  split at h
  · obtain ⟨v, rfl, p, ws, rfl, t, r⟩ := rx.one
    exact ⟨p, ws, rfl, .inr ⟨t.sq, k.here rh h ⟨p, ws, rfl, t, r⟩⟩⟩
  · obtain ⟨v, rfl, rv⟩ := rx.one
    cases (show _ = _ from rv)
    split at h
    · rename_i ys e
      obtain ⟨ws, h1, r⟩ := rh.lst e
      exact ⟨_, ws, rfl, .inl ⟨.inl (.inl h1), k.newt rh h r⟩⟩
    · exact h.elim
  · exact h.elim
theorem b_all (hc : X.calm = true) : BiOk X (.builtin "all") gAll := by
  refine ⟨_, cr_all hc, ?_⟩
  intro xs vs H L R Q rx rh h k
  unfold gAll at h
  split at h
  · obtain ⟨v, rfl, rv⟩ := rx.one
    cases (show _ = _ from rv)
    obtain ⟨bs, e, h1⟩ := h
    obtain ⟨ws, h2, r⟩ := rh.lst e
    have := r.bls
    subst this
    exact ⟨_, bs, rfl, .inl (.inl h2), k.here rh h1 rfl⟩
  · exact h.elim
theorem b_any (hc : X.calm = true) : BiOk X (.builtin "any") gAny := by
  refine ⟨_, cr_any hc, ?_⟩
  intro xs vs H L R Q rx rh h k
  unfold gAny at h
  split at h
  · obtain ⟨v, rfl, rv⟩ := rx.one
    cases (show _ = _ from rv)
    obtain ⟨bs, e, h1⟩ := h
    obtain ⟨ws, h2, r⟩ := rh.lst e
    have := r.bls
    subst this
    exact ⟨_, bs, rfl, .inl (.inl h2), k.here rh h1 rfl⟩
  · exact h.elim
theorem b_sum (hc : X.calm = true) : BiOk X (.builtin "sum") gSum := by
  refine ⟨_, cr_sum hc, ?_⟩
  intro xs vs H L R Q rx rh h k
  unfold gSum at h
  split at h
  · obtain ⟨v, rfl, rv⟩ := rx.one
    cases (show _ = _ from rv)
    obtain ⟨bs, e, h1⟩ := h
    obtain ⟨ws, h2, r⟩ := rh.lst e
    have := r.ints
    subst this
    exact ⟨_, bs, rfl, .inl (.inl h2), k.here rh h1 rfl⟩
  · exact h.elim
theorem RepVs.ofStrs' {K : PySem.W.Frag} {H : Hp} : ∀ {ns : List Str}, RepVs K H (ns.map PV.str) (ns.map V.str)
  | [] => rfl
  | n :: ns => ⟨.str n, _, rfl, rfl, RepVs.ofStrs'⟩
theorem RepVs.ofBls {K : PySem.W.Frag} {H : Hp} : ∀ {ns : List Bool}, RepVs K H (ns.map PV.bl) (ns.map V.bl)
  | [] => rfl
  | n :: ns => ⟨.bl n, _, rfl, rfl, RepVs.ofBls⟩
theorem data_ble (a b : Bool) : PySem.W.dataLe false PyData.bool a b = bLe a b := by cases a <;> cases b <;> decide +kernel
theorem each_bools : ∀ {bs : List Bool} {its : List Value}, Vals (bs.map V.bl) its → PySem.W.EachIs (fun v (b : Bool) => v = .bool b) its bs
  | [], _, r => by cases r; exact .nil
  | b :: bs, _, r => by
    cases r with
    | cons r1 r2 => exact .cons r1 (each_bools r2)
theorem vals_bools : ∀ {bs : List Bool} {its : List Value}, PySem.W.EachIs (fun v (b : Bool) => v = .bool b) its bs → Vals (bs.map V.bl) its
  | [], _, r => by cases r; exact .nil
  | b :: bs, _, r => by
    cases r with
    | cons r1 r2 => exact .cons r1 (vals_bools r2)
theorem cr_sortedB (hu : X.A.units + 2 < cLine) : CallR X (.builtin "sorted") (fun vs H Q => ∃ (a : Addr) (bs : List Bool), vs = [V.ref a] ∧ SqL X.K H a (bs.map V.bl) ∧ bs.length < 64 ∧ bs.Pairwise (fun a b => bLe a b = true) ∧
    ∀ (p : Addr), H p = none → Q (.ref p) (upd H p (.lst (bs.map V.bl)))) := by
  intro pins s σ H vs us Q I r h
  obtain ⟨a, bs, rfl, hs, h64, hp, q⟩ := h
  obtain ⟨its, rv, hl, _⟩ := I.list hs
  rw [Vals.ref1 r]
  have e := each_bools rv
  have hL : bs.length ≤ sizeLine := small64 h64
  refine PySem.W.sorted_data (enc := PyData.bool) hl.isList e (e.mono fun v b h => ⟨[], by rw [h]; exact .bool b⟩) (.of fun _ _ => rfl) (.others fun b => ⟨by simp, by simp⟩) hL (fun b _ => by show _ + 2 + 0 < _; omega) fun out ho he => ?_
  obtain ⟨ep, he'⟩ := PyProof.Rows.sortedAll_at s.heap its (List.toArray out)
  have hm : bs.mergeSort (PySem.W.dataLe false PyData.bool) = bs := List.mergeSort_of_pairwise (hp.imp fun h => by rw [data_ble]; exact h)
  rw [hm] at he
  have hlen : (bs.map V.bl).length ≤ sizeLine := by rw [List.length_map]; exact hL
  exact ⟨.ref _, upd H (s.heap.objs.size + 1) (.lst (bs.map V.bl)), I.laid (t' := s.toks) (fun _ _ => PyProof.Rows.sortedAll_old) (Nat.le_succ _) ⟨hlen, (List.toArray out).toList, ep, by rw [List.toList_toArray]; exact vals_bools he, he'⟩, rfl, q _ (I.hok.fresh (Nat.le_succ _))⟩
theorem each_relV : ∀ {ts : List (V × PyData)} {its : List Value}, Vals (ts.map Prod.fst) its → PySem.W.EachIs (fun v (t : V × PyData) => RelV t.1 v) its ts
  | [], _, r => by cases r; exact .nil
  | t :: ts, _, r => by
    cases r with
    | cons r1 r2 => exact .cons r1 (each_relV r2)
theorem vals_relV : ∀ {ts : List (V × PyData)} {its : List Value}, PySem.W.EachIs (fun v (t : V × PyData) => RelV t.1 v) its ts → Vals (ts.map Prod.fst) its
  | [], _, r => by cases r; exact .nil
  | t :: ts, _, r => by
    cases r with
    | cons r1 r2 => exact .cons r1 (vals_relV r2)
theorem each_reads {X : Cx} {pins : List (Addr × Obj)} {σ : L2.St} {H : Hp} {s : Shared} (I : L2.Inv X pins σ H s) : ∀ {ts : List (V × PyData)} {its : List Value}, Vals (ts.map Prod.fst) its → (∀ t ∈ ts, Dp X.K H t.1 t.2) → PySem.W.EachIs (fun v (t : V × PyData) => ∃ as, Reads s.heap v t.2 as) its ts
  | [], _, r, _ => by cases r; exact .nil
  | t :: ts, _, r, h => by
    cases r with
    | cons r1 r2 => exact .cons (Dp.reads I t.2 _ _ (h t List.mem_cons_self) r1) (each_reads I r2 fun u hu => h u (List.mem_cons_of_mem _ hu))
theorem cr_sortedD (hu : X.A.units + 65 < cLine) : CallR X (.builtin "sorted") (fun vs H Q => ∃ (a : Addr) (ts : List (V × PyData)), vs = [V.ref a] ∧ SqL X.K H a (ts.map Prod.fst) ∧ ts.length ≤ sizeLine ∧ (∀ t ∈ ts, Dp X.K H t.1 t.2 ∧ t.2.depth ≤ 40) ∧ PySem.W.AllAlike (ts.map Prod.snd) ∧ PySem.W.Sortable (ts.map Prod.snd) ∧
    ∀ (p : Addr), H p = none → Q (.ref p) (upd H p (.lst ((ts.mergeSort (PySem.W.dataLe false Prod.snd)).map Prod.fst)))) := by
  intro pins s σ H vs us Q I r h
  obtain ⟨a, ts, rfl, hs, hL, hd, hal, hk, q⟩ := h
  obtain ⟨its, rv, hl, _⟩ := I.list hs
  rw [Vals.ref1 r]
  refine PySem.W.sorted_data (enc := Prod.snd) hl.isList (each_relV rv) (each_reads I rv fun t ht => (hd t ht).1) hal hk hL (fun b hb => by have := (hd b hb).2; omega) fun out ho he => ?_
  obtain ⟨ep, he'⟩ := PyProof.Rows.sortedAll_at s.heap its (List.toArray out)
  have hlen : ((ts.mergeSort (PySem.W.dataLe false Prod.snd)).map Prod.fst).length ≤ sizeLine := by rw [List.length_map, List.length_mergeSort]; exact hL
  exact ⟨.ref _, upd H (s.heap.objs.size + 1) (.lst _), I.laid (t' := s.toks) (fun _ _ => PyProof.Rows.sortedAll_old) (Nat.le_succ _) ⟨hlen, (List.toArray out).toList, ep, by rw [List.toList_toArray]; exact vals_relV he, he'⟩, rfl, q _ (I.hok.fresh (Nat.le_succ _))⟩
theorem zip3_of {K : PySem.W.Frag} {H : Hp} : ∀ {zs : List (PV × PyData)} {ws : List V}, RepVs K H (zs.map Prod.fst) ws → ∃ qs : List (PV × V × PyData), qs.map (fun q => (q.1, q.2.2)) = zs ∧ qs.map (fun q => q.2.1) = ws ∧ ∀ q ∈ qs, RepV K H q.1 q.2.1
  | [], ws, r => by
    cases (show _ = _ from r)
    exact ⟨[], rfl, rfl, fun q hq => absurd hq List.not_mem_nil⟩
  | z :: zs, ws, r => by
    obtain ⟨v, vs, h1, h2, h3⟩ := r
    subst h1
    obtain ⟨qs, e1, e2, e3⟩ := zip3_of h3
    refine ⟨(z.1, v, z.2) :: qs, by rw [List.map_cons, e1], by rw [List.map_cons, e2], fun q hq => ?_⟩
    rcases List.mem_cons.mp hq with rfl | hq
    · exact h2
    · exact e3 q hq
theorem RepVs.of3 {K : PySem.W.Frag} {H : Hp} : ∀ {qs : List (PV × V × PyData)}, (∀ q ∈ qs, RepV K H q.1 q.2.1) → RepVs K H (qs.map fun q => q.1) (qs.map fun q => q.2.1)
  | [], _ => rfl
  | q :: qs, h => ⟨q.2.1, _, rfl, h q List.mem_cons_self, RepVs.of3 fun x hx => h x (List.mem_cons_of_mem _ hx)⟩
theorem b_sorted (hu : X.A.units + 65 < cLine) : BiOk X (.builtin "sorted") gSorted := by
  refine ⟨_, CallR.or cr_sorted (CallR.or cr_sortedS (CallR.or (cr_sortedB (by omega)) (cr_sortedD hu))), ?_⟩
  intro xs vs H L R Q rx rh h k
  unfold gSorted at h
  split at h
  · obtain ⟨v, rfl, rv⟩ := rx.one
    cases (show _ = _ from rv)
    rcases h with ⟨ns, e, h0, h1⟩ | ⟨ns, e, h0, h1⟩ | ⟨ns, e, h0, h1, h2⟩ | ⟨zs, e, h0, hd, hal, hk, h2⟩
    · obtain ⟨ws, h2, r⟩ := rh.lst e
      have := r.ints
      subst this
      exact .inl ⟨_, ns, rfl, .inl (.inl h2), h0, fun ns' p hp hs hn => k.newl rh (h1 ns' hp hs) RepVs.ofInts p hn⟩
    · obtain ⟨ws, h2, r⟩ := rh.lst e
      have := r.strs
      subst this
      exact .inr (.inl ⟨_, ns, rfl, .inl (.inl h2), h0, fun ns' p hp hs hn => k.newl rh (h1 ns' hp hs) RepVs.ofStrs' p hn⟩)
    · obtain ⟨ws, h3, r⟩ := rh.lst e
      have := r.bls
      subst this
      exact .inr (.inr (.inl ⟨_, ns, rfl, .inl (.inl h3), h0, h1, fun p hn => k.newl rh h2 RepVs.ofBls p hn⟩))
    · obtain ⟨ws, h3, r⟩ := rh.lst e
      obtain ⟨qs, e1, e2, e3⟩ := zip3_of r
      have l1 : (qs.map fun q => q.2).map Prod.fst = ws := by rw [List.map_map]; exact e2
      have l2 : (qs.map fun q => q.2).map Prod.snd = zs.map Prod.snd := by rw [← e1, List.map_map, List.map_map]; rfl
      have s1 : zs.mergeSort (PySem.W.dataLe false Prod.snd) = (qs.mergeSort (PySem.W.dataLe false fun q => q.2.2)).map fun q => (q.1, q.2.2) := by
        rw [← e1]
        exact (List.map_mergeSort (r := PySem.W.dataLe false fun q : PV × V × PyData => q.2.2) (s := PySem.W.dataLe false Prod.snd) (f := fun q : PV × V × PyData => (q.1, q.2.2)) (l := qs) fun _ _ _ _ => rfl).symm
      have s2 : (qs.map fun q => q.2).mergeSort (PySem.W.dataLe false Prod.snd) = (qs.mergeSort (PySem.W.dataLe false fun q => q.2.2)).map fun q => q.2 := (List.map_mergeSort (r := PySem.W.dataLe false fun q : PV × V × PyData => q.2.2) (s := PySem.W.dataLe false Prod.snd) (f := fun q : PV × V × PyData => q.2) (l := qs) fun _ _ _ _ => rfl).symm
      have hql : qs.length = zs.length := by rw [← e1, List.length_map]
      refine .inr (.inr (.inr ⟨_, qs.map fun q => q.2, rfl, .inl (.inl (by rw [l1]; exact h3)), by rw [List.length_map, hql]; exact h0, fun t ht => ?_, by rw [l2]; exact hal, by rw [l2]; exact hk, fun p hn => ?_⟩))
      · obtain ⟨q, hq, rfl⟩ := List.mem_map.mp ht
        obtain ⟨d1, d2⟩ := hd (q.1, q.2.2) (by rw [← e1]; exact List.mem_map.mpr ⟨q, hq, rfl⟩)
        exact ⟨d1.dp rh (e3 q hq), d2⟩
      · rw [s2, List.map_map]
        rw [s1, List.map_map] at h2
        exact k.newl rh h2 (RepVs.of3 fun q hq => e3 q (List.mem_mergeSort.mp hq)) p hn
  · exact h.elim
theorem str_of_tup {prog : Program} {w : World} {A : Around} {E : Value → Shared → Prop} {s : Shared} {a : Addr} {o : Obj} {items : Array Value} {n : Nat} {ts : List Str} {Q : Value → Shared → Prop} (hu : A.units + 8 < cLine) (ha : s.heap.get? a = some o) (hc : o.cls = .type "tuple") (hd : o.data = .seq items n)
    (hT : ∀ (prog : Program) (w : World), ReprAll prog w items.toList ts) (hsz : (tupleText ts).length + 5 ≤ sizeLine) (h : ∀ (m : Str) (u tk : Tok), Q (.str m u) { s with toks := tk }) : wpAny (model prog w) A (call (.type "str") [.ref a]) Q E s :=
  callType_new F.called_str (by decide) (F.typeCall_str_1 _) (F.newCall_str_1 _) (fun obj => F.args_object_init_2 obj _) F.entry_str_new
    (meets_str_new (S := fun A R s => A.units + 4 < cLine ∧ s.heap.get? a = some o ∧ ∀ (m : Str) (u tk : Tok), R (.ok (.ret (.str m u))) { s with toks := tk }) fun prog w A R s hq =>
      wpAny_strOf_slot rfl (by show A.units + 1 + 1 < cLine; have := hq.1; omega) ⟨o, hq.2.1, hc⟩ F.slot_tuple_str F.slot_tuple_repr
        (fmt_tuple_repr (s := s) hq.2.1 hc hd (hT _ _) (by omega) fun m u tk hm => ⟨m, u, rfl, hq.2.2 m u tk⟩))
    ⟨by show _ + 4 < cLine; first | (show A.units + 4 < cLine; omega) | (show A.units + 1 + 4 < cLine; omega) | (show A.units + 1 + 1 + 4 < cLine; omega), ha, fun m u tk => ⟨typeIs_str _ _ _, h m u tk⟩⟩
theorem ints_repr {prog : Program} {w : World} : ∀ {ns : List Int} {its : List Value}, Vals (ns.map V.int) its → (∀ i ∈ ns, i.natAbs.log2 < 1920) → ReprAll prog w its (ns.map fun i => Str.ofString (toString i))
  | [], _, r, _ => by cases r; exact .nil
  | i :: ns, _, r, h => by
    cases r with
    | cons r1 r2 =>
      obtain ⟨t, rfl⟩ := r1
      exact .cons (ReprIs.int t (h i List.mem_cons_self)) (ints_repr r2 fun z hz => h z (List.mem_cons_of_mem _ hz))
theorem ints_piled : ∀ (ns : List Int), (∀ i ∈ ns, i.natAbs < 100000) → piled (ns.map fun i => Str.ofString (toString i)) ≤ ns.length * 100010
  | [], _ => Nat.zero_le _
  | i :: ns, h => by
    have h1 := PyProof.Rows.len_str_of_int i
    have h2 := h i List.mem_cons_self
    have h3 := ints_piled ns fun z hz => h z (List.mem_cons_of_mem _ hz)
    rw [List.map_cons, piled_cons, List.length_cons, Nat.succ_mul]
    omega
theorem log_small {i : Int} (h : i.natAbs < 100000) : i.natAbs.log2 < 1920 := by
  by_cases h0 : i.natAbs = 0
  · rw [h0]; decide
  · exact (Nat.log2_lt h0).mpr (Nat.lt_trans h (Nat.lt_trans (show 100000 < 2 ^ 20 by decide) (Nat.pow_lt_pow_right (by decide) (by decide))))
theorem call_str_tup {X : Cx} (hu : X.A.units + 64 < cLine) : CallR X (.type "str") (fun xs H Q => ∃ (a : Addr) (ns : List Int), xs = [.ref a] ∧ SqT X.K H a (ns.map V.int) ∧ (∀ i ∈ ns, i.natAbs < 100000) ∧ ns.length ≤ 100 ∧ ∀ m, Q (.str m) H) := by
  intro pins s σ H xs us Q I r h
  obtain ⟨a, ns, rfl, hs, hb, hl, q⟩ := h
  obtain ⟨u, rfl, r1⟩ := vals1 r
  cases r1
  obtain ⟨its, rv, ⟨o, ho, hcl, n, hd⟩, _⟩ := I.tuple hs
  have hp := ints_piled ns hb
  have htx := fmt_text (ns.map fun i => Str.ofString (toString i))
  refine str_of_tup (ts := ns.map fun i => Str.ofString (toString i)) (by omega) ho hcl hd (fun _ _ => ints_repr rv fun i hi => log_small (hb i hi)) ?_ fun m u tk => ⟨.str m, H, I.tok _, ⟨u, rfl⟩, q m⟩
  show _ ≤ 16777216
  omega
theorem call_str_data {X : Cx} (hu : X.A.units + 64 < cLine) (gd : X.A.guards = some []) : CallR X (.type "str") (fun xs H Q => ∃ (a : Addr) (d : PyData), xs = [.ref a] ∧ Dp X.K H (.ref a) d ∧ d.showable = true ∧ d.hasDict = false ∧ d.depth ≤ 40 ∧ d.shown.length ≤ sizeLine ∧ Q (.str d.shown) H) := by
  intro pins s σ H xs us Q I r h
  obtain ⟨a, d, rfl, hd, h1, h2, h3, h4, q⟩ := h
  obtain ⟨u, rfl, r1⟩ := vals1 r
  obtain ⟨as, rd⟩ := Dp.reads I d _ _ hd r1
  cases r1
  exact PySem.str_of_reads rd h1 (fun e => by rw [h2] at e; cases e) gd (by omega) (fun _ _ e => e) (fun h' u tk hk => ⟨.str d.shown, H, I.kept hk, ⟨u, rfl⟩, q⟩) h4
theorem call_str_non {X : Cx} : CallR X (.type "str") (fun xs H Q => xs = [.non] ∧ Q (.str "None") H) := by
  intro pins s σ H xs us Q I r h
  obtain ⟨rfl, q⟩ := h
  obtain ⟨u, rfl, r1⟩ := vals1 r
  cases r1
  exact PySem.P.str_of_none ⟨.str "None", H, I.tok _, ⟨_, rfl⟩, q⟩
theorem call_str_bl {X : Cx} : CallR X (.type "str") (fun xs H Q => ∃ b, xs = [.bl b] ∧ Q (.str (if b then "True" else "False")) H) := by
  intro pins s σ H xs us Q I r h
  obtain ⟨b, rfl, q⟩ := h
  obtain ⟨u, rfl, r1⟩ := vals1 r
  cases r1
  exact PySem.P.str_of_bool ⟨.str _, H, I.tok _, ⟨_, rfl⟩, q⟩
theorem call_str_sx {X : Cx} : CallR X (.type "str") (fun xs H Q => ∃ a, xs = [.str a] ∧ Q (.str a) H) := by
  intro pins s σ H xs us Q I r h
  obtain ⟨a, rfl, q⟩ := h
  obtain ⟨u, rfl, t, rfl⟩ := vals1 r
  exact PySem.P.str_of_str ⟨.str a, H, I, ⟨t, rfl⟩, q⟩
theorem b_str (hu : X.A.units + 65 < cLine) (gd : X.A.guards = some []) : BiOk X (.type "str") gStr := by
  refine ⟨_, ((call_str_int.or (call_str_tup (by omega))).or (call_str_data (by omega) gd)).or (call_str_non.or (call_str_bl.or call_str_sx)), ?_⟩
  intro xs vs H L R Q rx rh h k
  unfold gStr at h
  split at h
  · obtain ⟨v, rfl, rv⟩ := rx.one
    cases (show _ = _ from rv)
    exact .inl (.inl (.inl ⟨_, rfl, h.1, k.here rh h.2 rfl⟩))
  · obtain ⟨v, rfl, rv⟩ := rx.one
    rcases h with ⟨ns, rfl, h1, h2, h3⟩ | ⟨d, h1, h2, h3, h4, h5, h6⟩
    · obtain ⟨a, ws, rfl, t, r⟩ := rv
      rw [RepVs.ints r] at t
      exact .inl (.inl (.inr ⟨a, ns, rfl, t.sq, h1, h2, fun m => k.here rh (h3 m) rfl⟩))
    · have hd := h1.dp rh rv
      obtain ⟨a, ws, rfl, t, r⟩ := rv
      exact .inl (.inr ⟨a, d, rfl, hd, h2, h3, h4, h5, k.here rh h6 rfl⟩)
  · obtain ⟨v, rfl, rv⟩ := rx.one
    cases (show _ = _ from rv)
    exact .inr (.inl ⟨rfl, k.here rh h rfl⟩)
  · obtain ⟨v, rfl, rv⟩ := rx.one
    cases (show _ = _ from rv)
    exact .inr (.inr (.inl ⟨_, rfl, k.here rh h rfl⟩))
  · obtain ⟨v, rfl, rv⟩ := rx.one
    cases (show _ = _ from rv)
    exact .inr (.inr (.inr ⟨_, rfl, k.here rh h rfl⟩))
  · obtain ⟨v, rfl, rv⟩ := rx.one
    obtain ⟨d, h1, h2, h3, h4, h5, h6⟩ := h
    have hd := h1.dp rh rv
    cases (show _ = _ from rv)
    exact .inl (.inr ⟨_, d, rfl, hd, h2, h3, h4, h5, k.here rh h6 rfl⟩)
  · exact h.elim
theorem tup_ty {a : Addr} {vs : List V} (h : TupAt K H a vs) : TyX K H (.ref a) (.type "tuple") := by
  rcases h with h | (h | ⟨o, h⟩) | ⟨o, its, n, h1, h2, _⟩
  · exact .base (.tup h)
  · cases h
  · cases h
  · exact .kTuple h1 h2
theorem fz_ty {ns : List Int} {v : V} (h : RepV K H (.fz ns) v) : TyX K H v (.type "list") := by
  obtain ⟨a, rfl, h⟩ := h
  rcases h with ⟨o, h⟩ | (h | ⟨o, h⟩) | ⟨o, its, n, h1, h2, _⟩
  · exact .base (.frz h)
  · cases h
  · cases h
  · exact .kList h1 h2
theorem ty_of (rh : RepH K H L) {x : PV} {v : V} (r : RepV K H x v) {c : String} {b : Bool} (h : isiB (tyName x L) c = some b) : TyX K H v (.type (tyName x L)) := by
  cases x with
  | non => cases (show _ = _ from r); exact .base .non
  | bl => cases (show _ = _ from r); exact .base (.bl _)
  | int => cases (show _ = _ from r); exact .base (.int _)
  | str => cases (show _ = _ from r); exact .base (.str _)
  | tup => obtain ⟨a, vs, rfl, t, _⟩ := r; exact tup_ty t
  | fz => exact fz_ty r
  | ref a =>
    cases (show _ = _ from r)
    cases e : L a with
    | none => simp [tyName, e, isiB] at h
    | some o =>
      cases o with
      | l xs =>
        obtain ⟨ws, h1, _⟩ := rh.lst e
        simp only [tyName, e]
        exact .base (.lst h1)
      | d xs =>
        obtain ⟨ws, h1, _⟩ := rh.dct e
        simp only [tyName, e]
        exact .base (.dK h1)
  | ty => simp [tyName, isiB] at h
theorem isiB_ok : ∀ {t c : String} {b : Bool}, isiB t c = some b → kitB t c = some b := by
  intro t c b h
  unfold isiB at h
  split at h <;> first | (cases h; decide +kernel) | cases h
theorem isiBs_ok {t : String} : ∀ {cs : List PV} {vs : List V} {b : Bool}, RepVs K H cs vs → isiBs t cs = some b → (cs ≠ [] → ∃ c b', isiB t c = some b') ∧ ∃ us, Paired ClsV vs us ∧ PySem.W.kitAny K (.type t) us = some b
  | [], _, _, h, e => by
    cases (show _ = _ from h)
    cases e
    exact ⟨fun z => absurd rfl z, [], .nil, kitAny_nil⟩
  | c :: r, _, b, ⟨w, ws, h1, h2, h3⟩, h => by
    subst h1
    cases c <;> first | (cases h; done) | skip
    rename_i c
    cases (show _ = _ from h2)
    unfold isiBs at h
    split at h
    · rename_i x y e1 e2
      cases h
      obtain ⟨_, us, q2, q3⟩ := isiBs_ok h3 e2
      refine ⟨fun _ => ⟨c, x, e1⟩, _, .cons (.ty c) q2, kitAny_cons (kit_ty (isiB_ok e1)) (fun z => ?_) (fun z => ?_)⟩
      · rw [z, Bool.false_or]; exact q3
      · rw [z]; rfl
    · cases h
theorem b_isi : BiOk X (.builtin "isinstance") gIsi := by
  refine ⟨_, call_isi.or (call_isiT.or call_isiK), ?_⟩
  intro xs vs H L R Q rx rh h k
  unfold gIsi at h
  split at h
  · rename_i x c
    split at h
    · rename_i b e
      obtain ⟨v, w, rfl, rv, rw'⟩ := rx.two
      cases (show _ = _ from rw')
      exact .inl ⟨v, _, _, _, b, rfl, .ty c, ty_of rh rv e, kit_ty (isiB_ok e), k.here rh h rfl⟩
    · exact h.elim
  · rename_i x cs
    obtain ⟨hne, h⟩ := h
    split at h
    · rename_i b e
      obtain ⟨v, w, rfl, rv, a, ws, rfl, t, r⟩ := rx.two
      obtain ⟨q0, us, q1, q2⟩ := isiBs_ok r e
      obtain ⟨c, b', e'⟩ := q0 hne
      rcases t with t | (t | ⟨o, t⟩) | ⟨⟨oc, od, dt, sl⟩, its, n, t1, t2, t3, t4, t5⟩
      · exact .inr (.inl ⟨v, a, ws, _, us, b, rfl, t, q1, ty_of rh rv e', q2, k.here rh h rfl⟩)
      · cases t
      · cases t
      · simp only at t2 t3
        subst t2 t3
        have e3 := ClsV.all q1 t5
        refine .inr (.inr ⟨v, a, od, us, n, sl, _, b, rfl, ?_, ty_of rh rv e', q2, k.here rh h rfl⟩)
        rw [t1, ← e3]
    · exact h.elim
  · exact h.elim
abbrev MtF := PV → BiF
def mAppend : MtF := fun x xs L R => match x, xs with
  | .ref a, [y] => ∃ ys, L a = some (.l ys) ∧ ys.length < sizeLine ∧ R .non (put L a (.l (ys ++ [y])))
  | _, _ => False
def mExtend : MtF := fun x xs L R => match x, xs with
  | .ref a, [.ref b] => ∃ ys zs, L a = some (.l ys) ∧ L b = some (.l zs) ∧ ys.length + zs.length ≤ sizeLine ∧ R .non (put L a (.l (ys ++ zs)))
  | _, _ => False
def mPop : MtF := fun x xs L R => match x, xs with
  | .ref a, [] => ∃ ys y, L a = some (.l ys) ∧ ys[ys.length - 1]? = some y ∧ R y (put L a (.l ys.dropLast))
  | .ref a, [.int i] => ∃ ys k y, L a = some (.l ys) ∧ -(2 ^ 63) ≤ i ∧ i < 2 ^ 63 ∧ seqIndex? i ys.length = some k ∧ ys[k]? = some y ∧ R y (put L a (.l (ys.eraseIdx k)))
  | _, _ => False
def mReverse : MtF := fun x xs L R => match x, xs with
  | .ref a, [] => ∃ ys, L a = some (.l ys) ∧ R .non (put L a (.l ys.reverse))
  | _, _ => False
def mClear : MtF := fun x xs L R => match x, xs with
  | .ref a, [] => ∃ ys, L a = some (.l ys) ∧ R .non (put L a (.l []))
  | _, _ => False
def mInsert : MtF := fun x xs L R => match x, xs with
  | .ref a, [.int i, y] => ∃ ys, L a = some (.l ys) ∧ ys.length < sizeLine ∧ 0 ≤ i ∧ i < 2 ^ 63 ∧ R .non (put L a (.l (ys.take i.toNat ++ [y] ++ ys.drop i.toNat)))
  | _, _ => False
def MtS (K : PySem.W.Frag) (g : MtF) (r : V → List V → Hp → VK → Prop) : Prop := ∀ (x : PV) (v : V) (xs : List PV) (vs : List V) (H : Hp) (L : Sto) (R : PK) (Q : VK), RepV K H x v → RepVs K H xs vs → RepH K H L → g x xs L R → Kt K H L R Q → r v vs H Q
theorem Kt.putl {R : PK} {Q : VK} (k : Kt K H L R Q) (rh : RepH K H L) {a : Addr} {xs : List PV} {vs : List V} {u : SO} {x : PV} {v : V} (hp : L a = some u) (h : R x (put L a (.l xs))) (rv : RepVs K H xs vs) (rx : RepV K H x v) : Q v (upd H a (.lst vs)) :=
  k _ _ _ _ h (fm_put hp) (rx.ex (ex_put rh hp)) (reph_put rh hp rv)
theorem s_append : MtS K mAppend rAppend := by
  intro x v xs vs H L R Q rx rxs rh h k
  unfold mAppend at h
  split at h
  · obtain ⟨w, rfl, rw'⟩ := rxs.one
    cases (show _ = _ from rx)
    obtain ⟨ys, e, h1, h2⟩ := h
    obtain ⟨ws, h3, r⟩ := rh.lst e
    exact ⟨_, ws, w, rfl, rfl, h3, by rw [← r.length]; exact h1, k.putl rh e h2 (r.append ⟨w, [], rfl, rw', rfl⟩) rfl⟩
  · exact h.elim
theorem s_extend : MtS K mExtend rExtend := by
  intro x v xs vs H L R Q rx rxs rh h k
  unfold mExtend at h
  split at h
  · obtain ⟨w, rfl, rw'⟩ := rxs.one
    cases (show _ = _ from rx)
    cases (show _ = _ from rw')
    obtain ⟨ys, zs, e, e2, h1, h2⟩ := h
    obtain ⟨ws, h3, r⟩ := rh.lst e
    obtain ⟨us, h4, r2⟩ := rh.lst e2
    exact ⟨_, _, ws, us, rfl, rfl, h3, h4, by rw [← r.length, ← r2.length]; exact h1, k.putl rh e h2 (r.append r2) rfl⟩
  · exact h.elim
theorem s_pop : MtS K mPop (fun x vs H Q => rPop x vs H Q ∨ rPopAt x vs H Q) := by
  intro x v xs vs H L R Q rx rxs rh h k
  unfold mPop at h
  split at h
  · cases (show _ = _ from rx)
    cases (show _ = _ from rxs)
    obtain ⟨ys, y, e, h1, h2⟩ := h
    obtain ⟨ws, h3, r⟩ := rh.lst e
    rw [r.length] at h1
    obtain ⟨z, h4, h5⟩ := r.get h1
    exact .inl ⟨_, ws, z, rfl, rfl, h3, h4, k.putl rh e h2 r.dropLast h5⟩
  · obtain ⟨w, rfl, rw'⟩ := rxs.one
    cases (show _ = _ from rx)
    cases (show _ = _ from rw')
    obtain ⟨ys, j, y, e, h0, h1, h2, h3, h4⟩ := h
    obtain ⟨ws, h5, r⟩ := rh.lst e
    rw [r.length] at h2
    obtain ⟨z, h6, h7⟩ := r.get h3
    exact .inr ⟨_, ws, _, j, z, rfl, rfl, h5, h0, h1, h2, h6, k.putl rh e h4 (r.eraseIdx j) h7⟩
  · exact h.elim
theorem s_reverse : MtS K mReverse rReverse := by
  intro x v xs vs H L R Q rx rxs rh h k
  unfold mReverse at h
  split at h
  · cases (show _ = _ from rx)
    cases (show _ = _ from rxs)
    obtain ⟨ys, e, h2⟩ := h
    obtain ⟨ws, h3, r⟩ := rh.lst e
    exact ⟨_, ws, rfl, rfl, h3, k.putl rh e h2 r.reverse rfl⟩
  · exact h.elim
theorem s_clear : MtS K mClear rClear := by
  intro x v xs vs H L R Q rx rxs rh h k
  unfold mClear at h
  split at h
  · cases (show _ = _ from rx)
    cases (show _ = _ from rxs)
    obtain ⟨ys, e, h2⟩ := h
    obtain ⟨ws, h3, r⟩ := rh.lst e
    exact ⟨_, ws, rfl, rfl, h3, k.putl rh e h2 (xs := []) rfl rfl⟩
  · exact h.elim
theorem s_insert : MtS K mInsert (fun x vs H Q => ∃ (l : Addr) (xs : List V) (i : Int) (y : V), x = .ref l ∧ vs = [.int i, y] ∧ H l = some (.lst xs) ∧ xs.length < sizeLine ∧ 0 ≤ i ∧ i < 2 ^ 63 ∧ Q .non (upd H l (.lst (xs.take i.toNat ++ [y] ++ xs.drop i.toNat)))) := by
  intro x v xs vs H L R Q rx rxs rh h k
  unfold mInsert at h
  split at h
  · cases (show _ = _ from rx)
    rename_i i y
    obtain ⟨vi, rest, rfl, ri, r2⟩ := rxs
    obtain ⟨vy, rest2, rfl, ry, r3⟩ := r2
    cases (show _ = _ from ri)
    cases (show _ = _ from r3)
    obtain ⟨ys, e, h1, h2, h3, h4⟩ := h
    obtain ⟨ws, h5, r⟩ := rh.lst e
    exact ⟨_, ws, i, vy, rfl, rfl, h5, by rw [← r.length]; exact h1, h2, h3, k.putl rh e h4 (((r.take _).append (ys := [y]) (ws := [vy]) ⟨vy, [], rfl, ry, rfl⟩).append (r.drop _)) rfl⟩
  · exact h.elim
def tyOk (T : String) (x : PV) (L : Sto) : Prop := match x with
  | .ref a => (T = "list" ∧ ∃ ys, L a = some (.l ys)) ∨ (T = "dict" ∧ ∃ ys, L a = some (.d ys))
  | .str _ => T = "str"
  | _ => False
def wMt (T : String) (g : MtF) (o : WE) (ws : List WE) : WE := fun env L R => o env L fun x La => tyOk T x La ∧ wAr ws env La fun xs Lb => g x xs Lb R
theorem tyOk_V {T : String} {x : PV} {v : V} (rh : RepH K H L) (r : RepV K H x v) (h : tyOk T x L) : tyV K T v H := by
  cases x <;> first | exact absurd h (fun z => z) | skip
  · cases (show _ = _ from r)
    exact h
  · cases (show _ = _ from r)
    rcases h with ⟨h1, ys, h2⟩ | ⟨h1, ys, h2⟩
    · obtain ⟨vs, h3, _⟩ := rh.lst h2
      exact .inl ⟨h1, vs, .inl (.inl h3)⟩
    · obtain ⟨vs, h3, _⟩ := rh.dct h2
      exact .inr (.inr (.inl ⟨h1, .inl ⟨vs, h3⟩⟩))
/-- a built-in type's method -/
structure MtOk (X : Cx) (T : String) (name : Str) (g : MtF) : Prop where
  ex : ∃ (id : String) (r : V → List V → Hp → VK → Prop), PlainAttrs T ∧ Slot T name id ∧ typeOf (.builtin id) = pure (.type "method_descriptor") ∧ MtR X id r ∧ MtS X.K g r
variable {pos apos cpos : Pos} {o e : Expr} {es : List Expr} {name : Str} {id T : String} {wo : WE} {ws : List WE}
theorem q_mt {g : MtF} (hm : MtOk X T name g) (ho : PE X o (liftE X.K wo)) (ha : PA X (e :: es) (liftA X.K ws))
    (hbase : attributeBase o name X.env (eval o X.env) = eval o X.env)
    (hfew : ((backTo cpos (starEach (e :: es) X.env)).all (fun x => !x.1) && (backToKw cpos (keywordEach [] X.env)).all (fun x => x.1.isSome)
      && decide ((e :: es).length + ([] : List Keyword).length + (if ([] : List Keyword).isEmpty then 0 else 1) < 30)) = true)
    (hline : (apos.endLine == cpos.line) = true) (hs : starEach (e :: es) X.env = (false, eval e X.env) :: starEach es X.env) (hplain : (backTo cpos (starEach es X.env)).any (·.1) = false) :
    PE X (.Call (.Attribute o name apos) (e :: es) [] cpos) (liftE X.K (wMt T g wo ws)) := by
  obtain ⟨id, r, pa, slot, hty, hr, hg⟩ := hm.ex
  refine (pe_bm pa slot hty hr ho ha hbase hfew hline hs hplain).weak fun σ H Q h => ?_
  obtain ⟨env, L, R, hs, hL, hw, k⟩ := h
  refine ⟨env, L, _, hs, hL, hw, fun x La v H1 hb f1 rx r1 => ⟨tyOk_V r1 rx hb.1, ?_⟩⟩
  refine ⟨env, La, _, hs.ex (f1.ex hL), r1, hb.2, fun xs Lb vs H2 hc hn f2 rxs r2 => ?_⟩
  exact hg x v xs vs H2 Lb R Q (rx.ex (f2.ex r1)) rxs r2 hc (k.fm (f1.trans f2))
theorem q_mt0 {g : MtF} (hm : MtOk X T name g) (ho : PE X o (liftE X.K wo)) (hbase : attributeBase o name X.env (eval o X.env) = eval o X.env) (hline : (apos.endLine == cpos.line) = true) :
    PE X (.Call (.Attribute o name apos) [] [] cpos) (liftE X.K (wMt T g wo [])) := by
  obtain ⟨id, r, pa, slot, hty, hr, hg⟩ := hm.ex
  refine (pe_bm0 pa slot hty hr ho hbase hline).weak fun σ H Q h => ?_
  obtain ⟨env, L, R, hs, hL, hw, k⟩ := h
  refine ⟨env, L, _, hs, hL, hw, fun x La v H1 hb f1 rx r1 => ⟨tyOk_V r1 rx hb.1, ?_⟩⟩
  exact hg x v [] [] H1 La R Q rx rfl r1 hb.2 (k.fm f1)
theorem k_append : MtOk X "list" "append" mAppend := ⟨_, _, PySem.F.plainAttrs_list, PySem.F.slot_list_append, PySem.F.type_list_append, mt_append, s_append⟩
theorem k_extend : MtOk X "list" "extend" mExtend := ⟨_, _, PySem.F.plainAttrs_list, PySem.F.slot_list_extend, PySem.F.type_list_extend, mt_extend, s_extend⟩
theorem k_pop : MtOk X "list" "pop" mPop := ⟨_, _, PySem.F.plainAttrs_list, PySem.F.slot_list_pop, PySem.F.type_list_pop, MtR.or mt_pop mt_popAt, s_pop⟩
theorem k_insert : MtOk X "list" "insert" mInsert := ⟨_, _, PySem.F.plainAttrs_list, PySem.F.slot_list_insert, PySem.F.type_list_insert, mt_insert, s_insert⟩
theorem k_reverse : MtOk X "list" "reverse" mReverse := ⟨_, _, PySem.F.plainAttrs_list, PySem.F.slot_list_reverse, PySem.F.type_list_reverse, mt_reverse, s_reverse⟩
theorem k_clear : MtOk X "list" "clear" mClear := ⟨_, _, PySem.F.plainAttrs_list, PySem.F.slot_list_clear, PySem.F.type_list_clear, mt_clear, s_clear⟩
abbrev Spec := List PV → Sto → PK → Prop
/-- a def's promise over data -/
def liftSp (K : PySem.W.Frag) (n : Nat) (S : Spec) : Sp := fun vs H Q _ => vs.length = n ∧ ∃ args L R, RepVs K H args vs ∧ RepH K H L ∧ S args L R ∧ Kt K H L R Q
def wCall (S : Spec) (ws : List WE) : WE := fun env L R => wAr ws env L fun xs La => S xs La R
/-- a def of the text that keeps S -/
structure FnIs (P : Program) (w : World) (K : PySem.W.Frag) (mg : Str → Option Value) (base : Heap) (k : Nat) (x : Str) (n : Nat) (S : Spec) : Prop where
  ex : ∃ (f : Addr) (fd : FuncData) (ps : List Str), mg x = some (.ref f) ∧ PySem.W.keepIn K (.ref f) = true ∧ Binds K fd ps [] ∧ FnG P w K mg base k f fd ps (liftSp K n S)
theorem FnIs.mono {P : Program} {w : World} {K : PySem.W.Frag} {mg : Str → Option Value} {base : Heap} {k k' : Nat} {x : Str} {n : Nat} {S : Spec} (h : FnIs P w K mg base k x n S) (hk : k ≤ k') : FnIs P w K mg base k' x n S := by
  obtain ⟨f, fd, ps, h1, h2, h3, h4⟩ := h.ex
  exact ⟨f, fd, ps, h1, h2, h3, h4.up hk⟩
theorem lift_call {S : Spec} {n : Nat} {E : XK} (hn : ws.length = n) {σ : L2.St} {H : Hp} {Q : VK} (h : liftE X.K (wCall S ws) σ H Q) : tCall (liftSp X.K n S) [] E (liftA X.K ws) σ H Q := by
  obtain ⟨env, L, R, hs, hL, hw, k⟩ := h
  refine ⟨env, L, _, hs, hL, hw, fun xs La vs H1 hb hl f1 rx r1 => ?_⟩
  show liftSp X.K n S (vs ++ []) H1 Q E
  rw [List.append_nil]
  exact ⟨by rw [← rx.length, hl, hn], xs, La, R, rx, r1, hb, k.fm f1⟩
theorem q_call {x : Str} {p : Pos} {k n : Nat} {S : Spec} (F : FnIs X.prog X.w X.K X.mg X.base k x n S) (gd : X.A.guards = some []) (hr : Room k X.A) (hg : Gl X x) (hn : ws.length = n) (ha : PA X (e :: es) (liftA X.K ws))
    (hdb : (x == ("__debug__" : Str)) = false) (he : starEach (e :: es) X.env = (false, eval e X.env) :: starEach es X.env) (hpl : (backTo pos (starEach es X.env)).any (·.1) = false) :
    PE X (.Call (.Name x p) (e :: es) [] pos) (liftE X.K (wCall S ws)) := by
  obtain ⟨f, fd, ps, h1, h2, h3, h4⟩ := F.ex
  exact (g_call h4 gd hr hg h1 h2 h3 ha hdb he hpl).weak fun σ H Q h => lift_call hn h
theorem q_call0 {x : Str} {p : Pos} {k : Nat} {S : Spec} (F : FnIs X.prog X.w X.K X.mg X.base k x 0 S) (gd : X.A.guards = some []) (hr : Room k X.A) (hg : Gl X x) (hdb : (x == ("__debug__" : Str)) = false) :
    PE X (.Call (.Name x p) [] [] pos) (liftE X.K (wCall S [])) := by
  obtain ⟨f, fd, ps, h1, h2, h3, h4⟩ := F.ex
  refine (g_call0 h4 gd hr hg h1 h2 h3 hdb).weak fun σ H Q h => ?_
  obtain ⟨env, L, R, hs, hL, hw, k⟩ := h
  exact ⟨rfl, [], L, R, rfl, hL, hw, k⟩
/-- a built-in, by its name -/
theorem q_bi {x : Str} {p : Pos} {g : BiF} (hb : BiOk X (.builtin id) g) (hg : Gl X x) (hm : X.mg x = none) (hv : bootBuiltins x = some (.builtin id)) (ha : PA X (e :: es) (liftA X.K ws)) (hn : x ≠ "__name__") (hdb : (x == ("__debug__" : Str)) = false)
    (he : starEach (e :: es) X.env = (false, eval e X.env) :: starEach es X.env) (hpl : (backTo pos (starEach es X.env)).any (·.1) = false) : PE X (.Call (.Name x p) (e :: es) [] pos) (liftE X.K (wBi g ws)) := by
  obtain ⟨r, h1, h2⟩ := hb
  exact (pe_callB h1 hg hm hv ha hn hdb he hpl).weak fun σ H Q h => lift_bi h2 h
theorem q_ty {x : Str} {p : Pos} {g : BiF} (hb : BiOk X (.type id) g) (hg : Gl X x) (hm : X.mg x = none) (hv : bootBuiltins x = some (.type id)) (ha : PA X (e :: es) (liftA X.K ws)) (hn : x ≠ "__name__") (hdb : (x == ("__debug__" : Str)) = false)
    (he : starEach (e :: es) X.env = (false, eval e X.env) :: starEach es X.env) (hpl : (backTo pos (starEach es X.env)).any (·.1) = false) : PE X (.Call (.Name x p) (e :: es) [] pos) (liftE X.K (wBi g ws)) := by
  obtain ⟨r, h1, h2⟩ := hb
  exact (pe_callTy h1 hg hm hv ha hn hdb he hpl).weak fun σ H Q h => lift_bi h2 h
end
end
section
open PySem PySem.Spec PyProof.Rows L2
inductive Sd where
  | l (a : Nat) | t (a : Nat) | s (x : Str)
def chV (x : Str) : List V := x.cps.toList.map fun c => V.str ⟨#[c]⟩
def Sd.At (K : PySem.W.Frag) (H : Hp) : Sd → List V → Prop
  | .l a, vs => SqL K H a vs
  | .t a, vs => SqT K H a vs
  | .s x, vs => vs = chV x
def Sd.val : Sd → V
  | .l a => .ref a
  | .t a => .ref a
  | .s x => .str x
def Sd.adr : Sd → List Nat
  | .l a => [a]
  | .t a => [a]
  | .s _ => []
/-- the iterator of it, so far on -/
def Sd.con : Sd → Addr → Nat → Heap → Prop
  | .l a, it, i, h => h.IsListIter it a i
  | .t a, it, i, h => h.IsTupleIter it a i
  | .s x, it, i, h => ∃ t, h.IsStrIter it (strIterType x) x t i
theorem Sd.con_at {d : Sd} {it : Addr} {i : Nat} {h h' : Heap} (c : d.con it i h) (k : ∀ o, h.get? it = some o → h'.get? it = some o) : d.con it i h' := by
  cases d with
  | l a => exact c.at fun o e => k o e
  | t a => exact c.at fun o e => k o e
  | s x => obtain ⟨t, o, h1, h2, h3⟩ := c; exact ⟨t, o, k o h1, h2, h3⟩
theorem Sd.con_obj {d : Sd} {it : Addr} {i : Nat} {h : Heap} (c : d.con it i h) : ∃ o, h.get? it = some o ∧ ∀ v, o.data ≠ .cell v := by
  cases d with
  | l a => obtain ⟨o, e, _, d⟩ := c; exact ⟨o, e, fun v q => by rw [d] at q; cases q⟩
  | t a => obtain ⟨o, e, _, d⟩ := c; exact ⟨o, e, fun v q => by rw [d] at q; cases q⟩
  | s x => obtain ⟨t, o, e, _, d⟩ := c; exact ⟨o, e, fun v q => by rw [d] at q; cases q⟩
section
variable {X : Cx} {pins : List (Addr × Obj)} {σ : L2.St} {H : Hp} {s : Shared}
theorem Sd.inj {d : Sd} (I : Inv X pins σ H s) {vs ws : List V} (h : d.At X.K H vs) (k : d.At X.K H ws) : vs = ws := by
  cases d with
  | l a => exact I.list_inj h k
  | t a => exact I.tuple_inj h k
  | s x => exact (show vs = chV x from h).trans (show ws = chV x from k).symm
theorem vals_getV : ∀ {vs : List V} {us : List Value} {i : Nat} {u : Value}, Vals vs us → us[i]? = some u → ∃ v, vs[i]? = some v ∧ RelV v u
  | _, _, _, _, .nil, h => by simp at h
  | _, _, 0, _, .cons r _, h => by
    simp at h
    subst h
    exact ⟨_, rfl, r⟩
  | _, _, i + 1, _, .cons _ r, h => by
    obtain ⟨v, h1, h2⟩ := vals_getV (i := i) r (by simpa using h)
    exact ⟨v, by simpa using h1, h2⟩
/-- the kit's iterator of it, as it stands now -/
structure Dr (X : Cx) (s : Shared) (d : Sd) (it : Addr) (i : Nat) (vs : List V) where
  fp : List Nat
  P : Nat → Value → Prop
  St : Nat → Heap → Prop
  D : Draws X.prog X.w X.A.in1 it fp vs.length P St
  st : St i s.heap
  mem : it ∈ fp
  only : ∀ b ∈ fp, b = it ∨ b ∈ d.adr
  con : ∀ j h, St j h → d.con it j h
  rel : ∀ j u, P j u → ∃ v, vs[j]? = some v ∧ RelV v u
theorem dr_of {d : Sd} {it : Addr} {i : Nat} {vs : List V} (hc : X.calm = true) (I : Inv X pins σ H s) (h : d.At X.K H vs) (c : d.con it i s.heap) (hne : it ∉ d.adr) : Nonempty (Dr X s d it i vs) := by
  have hh : X.A.in1.handled = none := I.ok.hd hc
  cases d with
  | l a =>
    obtain ⟨its, rv, p, _⟩ := I.list h
    have hl : vs.length = its.toArray.size := by rw [rv.length]; simp
    refine ⟨⟨[it, a], fun i v => its.toArray[i]? = some v, fun i h => h.IsListIter it a i ∧ h.IsList a its.toArray, by rw [hl]; exact Draws.list hh it a (fun z => hne (by rw [← z]; exact List.mem_singleton.mpr rfl)) its.toArray, ⟨c, p.isList⟩, by simp, fun b hb => ?_, fun j h st => st.1, fun j u hu => ?_⟩⟩
    · have e : b = it ∨ b = a := by simpa using hb
      exact e.imp id fun z => List.mem_singleton.mpr z
    · have hu : its[j]? = some u := by simpa using hu
      obtain ⟨v, h1, h2⟩ := vals_getV rv hu
      exact ⟨v, h1, h2⟩
  | t a =>
    obtain ⟨its, rv, p, _⟩ := I.tuple h
    have hl : vs.length = its.toArray.size := by rw [rv.length]; simp
    refine ⟨⟨[it, a], fun i v => its.toArray[i]? = some v, fun i h => h.IsTupleIter it a i ∧ h.IsTuple a its.toArray, by rw [hl]; exact Draws.tuple hh it a (fun z => hne (by rw [← z]; exact List.mem_singleton.mpr rfl)) its.toArray, ⟨c, p⟩, by simp, fun b hb => ?_, fun j h st => st.1, fun j u hu => ?_⟩⟩
    · have e : b = it ∨ b = a := by simpa using hb
      exact e.imp id fun z => List.mem_singleton.mpr z
    · have hu : its[j]? = some u := by simpa using hu
      obtain ⟨v, h1, h2⟩ := vals_getV rv hu
      exact ⟨v, h1, h2⟩
  | s x =>
    obtain ⟨t, c⟩ := c
    have h : vs = chV x := h
    have hl : vs.length = x.cps.size := by rw [h]; unfold chV; rw [List.length_map, Array.length_toList]
    refine ⟨⟨_, _, _, by rw [hl]; exact Draws.text hh it x t, c, by simp, fun b hb => ?_, fun j h st => ⟨t, st⟩, fun j u hu => ?_⟩⟩
    · exact .inl (by simpa using hb)
    · obtain ⟨c, w, h1, rfl⟩ := hu
      refine ⟨.str ⟨#[c]⟩, ?_, ⟨w, rfl⟩⟩
      rw [h]
      unfold chV
      rw [List.getElem?_map, Array.getElem?_toList, h1]
      rfl
end
theorem na {a b : Nat} (h : a ≠ b) : @Ne Addr a b := h
def ItE (K : PySem.W.Frag) (d : Sd) : It :=
  ⟨fun i H => ∃ vs, d.At K H vs ∧ i < vs.length, fun i H v H' => ∃ T x, v = .ref T ∧ H T = none ∧ H' = upd H T (.tup [.int (i : Nat), x]) ∧ ∀ vs, d.At K H vs → vs[i]? = some x, fun i H => ∃ vs, d.At K H vs ∧ vs.length = i⟩
def ItZ (K : PySem.W.Frag) (d1 d2 : Sd) : It :=
  ⟨fun i H => ∃ vs ws, d1.At K H vs ∧ d2.At K H ws ∧ i < vs.length ∧ i < ws.length,
   fun i H v H' => ∃ T x y, v = .ref T ∧ H T = none ∧ H' = upd H T (.tup [x, y]) ∧ (∀ vs, d1.At K H vs → vs[i]? = some x) ∧ ∀ vs, d2.At K H vs → vs[i]? = some y,
   fun i H => ∃ vs ws, d1.At K H vs ∧ d2.At K H ws ∧ i ≤ vs.length ∧ i ≤ ws.length ∧ (i = vs.length ∨ i = ws.length)⟩
def ItY (K : PySem.W.Frag) (d1 d2 d3 : Sd) : It :=
  ⟨fun i H => ∃ vs ws us, d1.At K H vs ∧ d2.At K H ws ∧ d3.At K H us ∧ i < vs.length ∧ i < ws.length ∧ i < us.length,
   fun i H v H' => ∃ T x y z, v = .ref T ∧ H T = none ∧ H' = upd H T (.tup [x, y, z]) ∧ (∀ vs, d1.At K H vs → vs[i]? = some x) ∧ (∀ vs, d2.At K H vs → vs[i]? = some y) ∧ ∀ vs, d3.At K H vs → vs[i]? = some z,
   fun i H => ∃ vs ws us, d1.At K H vs ∧ d2.At K H ws ∧ d3.At K H us ∧ i ≤ vs.length ∧ i ≤ ws.length ∧ i ≤ us.length ∧ (i = vs.length ∨ i = ws.length ∨ i = us.length)⟩
section
variable {P : Program} {w : World} {K : PySem.W.Frag} {elts : List Expr} {kk : Nat} {tpos : Pos}
theorem turn_E (d : Sd) (m : Nat) (hd : ∀ b ∈ d.adr, b < m) : Turn P w K (.Tuple elts kk tpos) (ItE K d) [m + 1, m] (m + 1) (fun i h => (∃ old, IsEnum h (m + 1) m ((i : Nat) : Int) old) ∧ d.con m i h) where
  mem := by simp
  obj := fun i h st b hb => by
    obtain ⟨⟨old, he⟩, c⟩ := st
    have e' : b = m + 1 ∨ b = m := by simpa using hb
    rcases e' with z | z
    · rw [z]; exact ⟨_, he, fun v q => nomatch q⟩
    · rw [z]; exact Sd.con_obj c
  keep := fun i h h' st k => let ⟨⟨old, he⟩, hi⟩ := st; ⟨⟨old, k (m + 1) (by simp) _ he⟩, Sd.con_at hi fun o q => k m (by simp) o q⟩
  item := by
    intro X hP hw hK hc i pins s σ H E I hf st hg
    subst hP hw hK
    obtain ⟨⟨old, he⟩, c⟩ := st
    obtain ⟨vs, hq, hx⟩ := hg
    have hne : m ∉ d.adr := fun z => Nat.lt_irrefl _ (hd m z)
    obtain ⟨D⟩ := dr_of hc I hq c hne
    have hel : m + 1 < s.heap.objs.size := Heap.lt_size he
    have hil : m < s.heap.objs.size := by omega
    have hef : m + 1 ∉ D.fp := fun z => by
      rcases D.only _ z with q | q
      · omega
      · have := hd _ q; omega
    refine wpAny_pyNext_enum_itemD D.D he D.st hx (na (by omega)) hef fun u h' tk hu ho hst' hT hsz hk => ?_
    obtain ⟨v, hv, ru⟩ := D.rel i u hu
    refine ⟨_, rfl, wpAny_letOwnedTupleGo_enum (s := { s with heap := h', toks := tk + 1 }) ho fun h'' he' sb => ?_⟩
    have hT2 : h''.get? s.heap.objs.size = some { cls := .type "tuple", data := .seq #[.int i tk, u] } := (sb.2 _ (Nat.ne_of_gt hel)).trans hT
    have new : ObjOk X.prog X.w (upd H s.heap.objs.size (.tup [.int (i : Nat), v])) h'' s.heap.objs.size (.tup [.int (i : Nat), v]) :=
      ⟨by show 2 ≤ sizeLine; decide, [.int i tk, u], .cons ⟨_, rfl⟩ (.cons ru .nil), ⟨_, hT2, rfl, _, rfl⟩⟩
    have I1 : Inv X pins σ (upd H s.heap.objs.size (.tup [.int (i : Nat), v])) { s with heap := h'', toks := tk + 1 } :=
      I.turnedNew (ch := [m + 1, m]) (fun b ob hb q => (sb.2 b (fun z => hb (by simp [z]))).trans (hk b ob (fun z => hb (by simp [z])) (fun z => hb (by simp [z])) q)) hf (Nat.le_refl _) new
    refine ⟨.ref s.heap.objs.size, _, I1, rfl, ⟨_, v, rfl, I.hok.fresh (Nat.le_refl _), rfl, fun ys hy => by rw [Sd.inj I hy hq]; exact hv⟩, ⟨⟨u, ?_⟩, Sd.con_at (D.con _ _ hst') fun o q => (sb.2 m (na (by omega))).trans q⟩, fun b hb => ?_⟩
    · have e1 : ((i + 1 : Nat) : Int) = (i : Int) + 1 := by omega
      rw [e1]; exact he'
    · have hb' : b < s.heap.objs.size := by
        have e' : b = m + 1 ∨ b = m := by simpa using hb
        rcases e' with z | z <;> (have z : @Eq Nat b _ := z; show @LT.lt Nat _ b _; omega)
      rw [upd_ne (Nat.ne_of_lt hb')]
      exact (hf b hb).1
  done := by
    intro X hP hw hK hc i pins s σ H E I hf st hg
    subst hP hw hK
    obtain ⟨⟨old, he⟩, c⟩ := st
    obtain ⟨vs, hq, hx⟩ := hg
    have hne : m ∉ d.adr := fun z => Nat.lt_irrefl _ (hd m z)
    obtain ⟨D⟩ := dr_of hc I hq c hne
    have st : D.St vs.length s.heap := hx ▸ D.st
    exact wpAny_pyNext_enum_endD D.D he st fun h' eb => ⟨rfl, I.turnedL (t' := s.toks) (ch := [m + 1, m]) (fun b o hb q => eb b o (fun z => hb (by simp [z])) q) hf⟩
  self := fun A i s Q E st h => let ⟨⟨_, he⟩, _⟩ := st; wpAny_pyIter_enum he h
theorem turn_Z (d1 d2 : Sd) (m : Nat) (hd1 : ∀ b ∈ d1.adr, b < m) (hd2 : ∀ b ∈ d2.adr, b < m) : Turn P w K (.Tuple elts kk tpos) (ItZ K d1 d2) [m + 4, m + 2, m + 3, m, m + 1] (m + 4)
    (fun i h => IsZip h (m + 4) (m + 2) (m + 3) .none ∧ IsTupOf2 h (m + 2) (.ref m) (.ref (m + 1)) ∧ (∃ x y, IsTupOf2 h (m + 3) x y) ∧ d1.con m i h ∧ d2.con (m + 1) i h) where
  mem := by simp
  obj := fun i h st c hc => by
    obtain ⟨hz, hTI, ⟨x, y, hTO⟩, c1, c2⟩ := st
    have e' : c = m + 4 ∨ c = m + 2 ∨ c = m + 3 ∨ c = m ∨ c = m + 1 := by simpa using hc
    rcases e' with q | q | q | q | q
    · rw [q]; exact ⟨_, hz, fun v q => nomatch q⟩
    · rw [q]; exact ⟨_, hTI, fun v q => nomatch q⟩
    · rw [q]; exact ⟨_, hTO, fun v q => nomatch q⟩
    · rw [q]; exact Sd.con_obj c1
    · rw [q]; exact Sd.con_obj c2
  keep := fun i h h' st k => by
    obtain ⟨hz, hTI, ⟨x, y, hTO⟩, h1, h2⟩ := st
    exact ⟨k _ (by simp) _ hz, k _ (by simp) _ hTI, ⟨x, y, k _ (by simp) _ hTO⟩, Sd.con_at h1 fun o q => k _ (by simp) o q, Sd.con_at h2 fun o q => k _ (by simp) o q⟩
  item := by
    intro X hP hw hK hc i pins s σ H E I hf st hg
    subst hP hw hK
    obtain ⟨hz, hTI, ⟨x0, y0, hTO⟩, c1, c2⟩ := st
    obtain ⟨vs, ws, hq1, hq2, hx1, hx2⟩ := hg
    obtain ⟨D1⟩ := dr_of hc I hq1 c1 fun z => Nat.lt_irrefl _ (hd1 m z)
    obtain ⟨D2⟩ := dr_of hc I hq2 c2 fun z => by have := hd2 _ z; omega
    have nf1 : ∀ b, b ≠ m → m ≤ b → b ∉ D1.fp := fun b hb hm z => by
      rcases D1.only _ z with q | q
      · exact hb q
      · have := hd1 _ q; omega
    have nf2 : ∀ b, b ≠ m + 1 → m ≤ b → b ∉ D2.fp := fun b hb hm z => by
      rcases D2.only _ z with q | q
      · exact hb q
      · have := hd2 _ q; omega
    have S : ZipSep2 (m + 4) (m + 2) (m + 3) m (m + 1) D1.fp D2.fp := ⟨na (by omega), na (by omega), na (by omega), na (by omega), D1.mem, nf1 _ (by omega) (by omega), nf1 _ (by omega) (by omega), na (by omega), D2.mem, nf2 _ (by omega) (by omega), nf2 _ (by omega) (by omega), nf2 _ (by omega) (by omega), nf1 _ (by omega) (by omega)⟩
    have hzl : m + 4 < s.heap.objs.size := Heap.lt_size hz
    refine wpAny_pyNext_zipD2_item S D1.D D2.D hz hTI hTO D1.st D2.st hx1 hx2 fun u u2 h' tk hu hu2 z' TO' st1' st2' hT hsz hk => ?_
    obtain ⟨x, hx, ru⟩ := D1.rel i u hu
    obtain ⟨y, hy, ru2⟩ := D2.rel i u2 hu2
    refine ⟨_, rfl, wpAny_letOwnedTupleGo_zip (s := { s with heap := h', toks := tk }) z' fun h'' z'' sb => ?_⟩
    have hT2 : h''.get? s.heap.objs.size = some { cls := .type "tuple", data := .seq #[u, u2] } := (sb.2 _ (Nat.ne_of_gt hzl)).trans hT
    have new : ObjOk X.prog X.w (upd H s.heap.objs.size (.tup [x, y])) h'' s.heap.objs.size (.tup [x, y]) :=
      ⟨by show 2 ≤ sizeLine; decide, [u, u2], .cons ru (.cons ru2 .nil), ⟨_, hT2, rfl, _, rfl⟩⟩
    have I1 : Inv X pins σ (upd H s.heap.objs.size (.tup [x, y])) { s with heap := h'', toks := tk } :=
      I.turnedNew (ch := [m + 4, m + 2, m + 3, m, m + 1]) (fun c o hb q => (sb.2 c (fun q' => hb (by simp [q']))).trans (hk c o (fun q' => hb (by simp [q'])) (fun q' => hb (by simp [q'])) (fun q' => hb (by simp [q'])) (fun q' => hb (by simp [q'])) q)) hf (Nat.le_refl _) new
    refine ⟨.ref s.heap.objs.size, _, I1, rfl, ⟨_, x, y, rfl, I.hok.fresh (Nat.le_refl _), rfl, fun l hl => by rw [Sd.inj I hl hq1]; exact hx, fun l hl => by rw [Sd.inj I hl hq2]; exact hy⟩, ⟨z'', ?_, ⟨u, u2, ?_⟩, ?_, ?_⟩, fun c hcm => ?_⟩
    · exact (sb.2 _ (na (by omega))).trans (hk _ _ (na (by omega)) (na (by omega)) (na (by omega)) (na (by omega)) hTI)
    · exact (sb.2 _ (na (by omega))).trans TO'
    · exact Sd.con_at (D1.con _ _ st1') fun o q => (sb.2 _ (na (by omega))).trans q
    · exact Sd.con_at (D2.con _ _ st2') fun o q => (sb.2 _ (na (by omega))).trans q
    · have hlt : c < s.heap.objs.size := by
        have e' : c = m + 4 ∨ c = m + 2 ∨ c = m + 3 ∨ c = m ∨ c = m + 1 := by simpa using hcm
        rcases e' with q | q | q | q | q <;> (have q : @Eq Nat c _ := q; show @LT.lt Nat _ c _; omega)
      rw [upd_ne (Nat.ne_of_lt hlt)]
      exact (hf c hcm).1
  done := by
    intro X hP hw hK hc i pins s σ H E I hf st hg
    subst hP hw hK
    obtain ⟨hz, hTI, ⟨x0, y0, hTO⟩, c1, c2⟩ := st
    obtain ⟨vs, ws, hq1, hq2, hx1, hx2, hend⟩ := hg
    obtain ⟨D1⟩ := dr_of hc I hq1 c1 fun z => Nat.lt_irrefl _ (hd1 m z)
    obtain ⟨D2⟩ := dr_of hc I hq2 c2 fun z => by have := hd2 _ z; omega
    have nf1 : ∀ b, b ≠ m → m ≤ b → b ∉ D1.fp := fun b hb hm z => by
      rcases D1.only _ z with q | q
      · exact hb q
      · have := hd1 _ q; omega
    have nf2 : ∀ b, b ≠ m + 1 → m ≤ b → b ∉ D2.fp := fun b hb hm z => by
      rcases D2.only _ z with q | q
      · exact hb q
      · have := hd2 _ q; omega
    have S : ZipSep2 (m + 4) (m + 2) (m + 3) m (m + 1) D1.fp D2.fp := ⟨na (by omega), na (by omega), na (by omega), na (by omega), D1.mem, nf1 _ (by omega) (by omega), nf1 _ (by omega) (by omega), na (by omega), D2.mem, nf2 _ (by omega) (by omega), nf2 _ (by omega) (by omega), nf2 _ (by omega) (by omega), nf1 _ (by omega) (by omega)⟩
    exact wpAny_pyNext_zipD2_end S D1.D D2.D hz hTI hTO D1.st D2.st hx1 hx2 hend fun h' tk hk => ⟨rfl, I.turnedL (t' := tk) (ch := [m + 4, m + 2, m + 3, m, m + 1]) (fun c o hb q =>
      hk c o (fun q' => hb (by simp [q'])) (fun q' => hb (by simp [q'])) (fun q' => hb (by simp [q'])) (fun q' => hb (by simp [q'])) q) hf⟩
  self := fun A i s Q E st h => wpAny_pyIter_zip st.1 h
theorem turn_Y (d1 d2 d3 : Sd) (m : Nat) (hd1 : ∀ b ∈ d1.adr, b < m) (hd2 : ∀ b ∈ d2.adr, b < m) (hd3 : ∀ b ∈ d3.adr, b < m) : Turn P w K (.Tuple elts kk tpos) (ItY K d1 d2 d3) [m + 5, m + 3, m + 4, m, m + 1, m + 2] (m + 5)
    (fun i h => IsZip h (m + 5) (m + 3) (m + 4) .none ∧ IsTupOf3 h (m + 3) (.ref m) (.ref (m + 1)) (.ref (m + 2)) ∧ (∃ x y z, IsTupOf3 h (m + 4) x y z) ∧ d1.con m i h ∧ d2.con (m + 1) i h ∧ d3.con (m + 2) i h) where
  mem := by simp
  obj := fun i h st c hc => by
    obtain ⟨hz, hTI, ⟨x, y, z, hTO⟩, c1, c2, c3⟩ := st
    have e' : c = m + 5 ∨ c = m + 3 ∨ c = m + 4 ∨ c = m ∨ c = m + 1 ∨ c = m + 2 := by simpa using hc
    rcases e' with q | q | q | q | q | q
    · rw [q]; exact ⟨_, hz, fun v q => nomatch q⟩
    · rw [q]; exact ⟨_, hTI, fun v q => nomatch q⟩
    · rw [q]; exact ⟨_, hTO, fun v q => nomatch q⟩
    · rw [q]; exact Sd.con_obj c1
    · rw [q]; exact Sd.con_obj c2
    · rw [q]; exact Sd.con_obj c3
  keep := fun i h h' st k => by
    obtain ⟨hz, hTI, ⟨x, y, z, hTO⟩, h1, h2, h3⟩ := st
    exact ⟨k _ (by simp) _ hz, k _ (by simp) _ hTI, ⟨x, y, z, k _ (by simp) _ hTO⟩, Sd.con_at h1 fun o q => k _ (by simp) o q, Sd.con_at h2 fun o q => k _ (by simp) o q, Sd.con_at h3 fun o q => k _ (by simp) o q⟩
  item := by
    intro X hP hw hK hc i pins s σ H E I hf st hg
    subst hP hw hK
    obtain ⟨hz, hTI, ⟨x0, y0, z0, hTO⟩, c1, c2, c3⟩ := st
    obtain ⟨vs, ws, us, hq1, hq2, hq3, hx1, hx2, hx3⟩ := hg
    obtain ⟨D1⟩ := dr_of hc I hq1 c1 fun z => Nat.lt_irrefl _ (hd1 m z)
    obtain ⟨D2⟩ := dr_of hc I hq2 c2 fun z => by have := hd2 _ z; omega
    obtain ⟨D3⟩ := dr_of hc I hq3 c3 fun z => by have := hd3 _ z; omega
    have nf1 : ∀ b, b ≠ m → m ≤ b → b ∉ D1.fp := fun b hb hm z => by
      rcases D1.only _ z with q | q
      · exact hb q
      · have := hd1 _ q; omega
    have nf2 : ∀ b, b ≠ m + 1 → m ≤ b → b ∉ D2.fp := fun b hb hm z => by
      rcases D2.only _ z with q | q
      · exact hb q
      · have := hd2 _ q; omega
    have nf3 : ∀ b, b ≠ m + 2 → m ≤ b → b ∉ D3.fp := fun b hb hm z => by
      rcases D3.only _ z with q | q
      · exact hb q
      · have := hd3 _ q; omega
    have S : ZipSep3 (m + 5) (m + 3) (m + 4) m (m + 1) (m + 2) D1.fp D2.fp D3.fp := ⟨na (by omega), na (by omega), na (by omega), na (by omega), D1.mem, nf1 _ (by omega) (by omega), nf1 _ (by omega) (by omega), na (by omega), D2.mem, nf2 _ (by omega) (by omega), nf2 _ (by omega) (by omega),
      na (by omega), D3.mem, nf3 _ (by omega) (by omega), nf3 _ (by omega) (by omega), nf2 _ (by omega) (by omega), nf3 _ (by omega) (by omega), nf1 _ (by omega) (by omega), nf3 _ (by omega) (by omega), nf1 _ (by omega) (by omega), nf2 _ (by omega) (by omega)⟩
    have hzl : m + 5 < s.heap.objs.size := Heap.lt_size hz
    refine wpAny_pyNext_zipD3_item S D1.D D2.D D3.D hz hTI hTO D1.st D2.st D3.st hx1 hx2 hx3 fun u u2 u3 h' tk hu hu2 hu3 z' TO' st1' st2' st3' hT hsz hk => ?_
    obtain ⟨x, hx, ru⟩ := D1.rel i u hu
    obtain ⟨y, hy, ru2⟩ := D2.rel i u2 hu2
    obtain ⟨z, hzz, ru3⟩ := D3.rel i u3 hu3
    refine ⟨_, rfl, wpAny_letOwnedTupleGo_zip (s := { s with heap := h', toks := tk }) z' fun h'' z'' sb => ?_⟩
    have hT2 : h''.get? s.heap.objs.size = some { cls := .type "tuple", data := .seq #[u, u2, u3] } := (sb.2 _ (Nat.ne_of_gt hzl)).trans hT
    have new : ObjOk X.prog X.w (upd H s.heap.objs.size (.tup [x, y, z])) h'' s.heap.objs.size (.tup [x, y, z]) :=
      ⟨by show 3 ≤ sizeLine; decide, [u, u2, u3], .cons ru (.cons ru2 (.cons ru3 .nil)), ⟨_, hT2, rfl, _, rfl⟩⟩
    have I1 : Inv X pins σ (upd H s.heap.objs.size (.tup [x, y, z])) { s with heap := h'', toks := tk } :=
      I.turnedNew (ch := [m + 5, m + 3, m + 4, m, m + 1, m + 2]) (fun c o hb q => (sb.2 c (fun q' => hb (by simp [q']))).trans (hk c o (fun q' => hb (by simp [q'])) (fun q' => hb (by simp [q'])) (fun q' => hb (by simp [q'])) (fun q' => hb (by simp [q'])) (fun q' => hb (by simp [q'])) q)) hf (Nat.le_refl _) new
    refine ⟨.ref s.heap.objs.size, _, I1, rfl, ⟨_, x, y, z, rfl, I.hok.fresh (Nat.le_refl _), rfl, fun l hl => by rw [Sd.inj I hl hq1]; exact hx, fun l hl => by rw [Sd.inj I hl hq2]; exact hy, fun l hl => by rw [Sd.inj I hl hq3]; exact hzz⟩, ⟨z'', ?_, ⟨u, u2, u3, ?_⟩, ?_, ?_, ?_⟩, fun c hcm => ?_⟩
    · exact (sb.2 _ (na (by omega))).trans (hk _ _ (na (by omega)) (na (by omega)) (na (by omega)) (na (by omega)) (na (by omega)) hTI)
    · exact (sb.2 _ (na (by omega))).trans TO'
    · exact Sd.con_at (D1.con _ _ st1') fun o q => (sb.2 _ (na (by omega))).trans q
    · exact Sd.con_at (D2.con _ _ st2') fun o q => (sb.2 _ (na (by omega))).trans q
    · exact Sd.con_at (D3.con _ _ st3') fun o q => (sb.2 _ (na (by omega))).trans q
    · have hlt : c < s.heap.objs.size := by
        have e' : c = m + 5 ∨ c = m + 3 ∨ c = m + 4 ∨ c = m ∨ c = m + 1 ∨ c = m + 2 := by simpa using hcm
        rcases e' with q | q | q | q | q | q <;> (have q : @Eq Nat c _ := q; show @LT.lt Nat _ c _; omega)
      rw [upd_ne (Nat.ne_of_lt hlt)]
      exact (hf c hcm).1
  done := by
    intro X hP hw hK hc i pins s σ H E I hf st hg
    subst hP hw hK
    obtain ⟨hz, hTI, ⟨x0, y0, z0, hTO⟩, c1, c2, c3⟩ := st
    obtain ⟨vs, ws, us, hq1, hq2, hq3, hx1, hx2, hx3, hend⟩ := hg
    obtain ⟨D1⟩ := dr_of hc I hq1 c1 fun z => Nat.lt_irrefl _ (hd1 m z)
    obtain ⟨D2⟩ := dr_of hc I hq2 c2 fun z => by have := hd2 _ z; omega
    obtain ⟨D3⟩ := dr_of hc I hq3 c3 fun z => by have := hd3 _ z; omega
    have nf1 : ∀ b, b ≠ m → m ≤ b → b ∉ D1.fp := fun b hb hm z => by
      rcases D1.only _ z with q | q
      · exact hb q
      · have := hd1 _ q; omega
    have nf2 : ∀ b, b ≠ m + 1 → m ≤ b → b ∉ D2.fp := fun b hb hm z => by
      rcases D2.only _ z with q | q
      · exact hb q
      · have := hd2 _ q; omega
    have nf3 : ∀ b, b ≠ m + 2 → m ≤ b → b ∉ D3.fp := fun b hb hm z => by
      rcases D3.only _ z with q | q
      · exact hb q
      · have := hd3 _ q; omega
    have S : ZipSep3 (m + 5) (m + 3) (m + 4) m (m + 1) (m + 2) D1.fp D2.fp D3.fp := ⟨na (by omega), na (by omega), na (by omega), na (by omega), D1.mem, nf1 _ (by omega) (by omega), nf1 _ (by omega) (by omega), na (by omega), D2.mem, nf2 _ (by omega) (by omega), nf2 _ (by omega) (by omega),
      na (by omega), D3.mem, nf3 _ (by omega) (by omega), nf3 _ (by omega) (by omega), nf2 _ (by omega) (by omega), nf3 _ (by omega) (by omega), nf1 _ (by omega) (by omega), nf3 _ (by omega) (by omega), nf1 _ (by omega) (by omega), nf2 _ (by omega) (by omega)⟩
    exact wpAny_pyNext_zipD3_end S D1.D D2.D D3.D hz hTI hTO D1.st D2.st D3.st hx1 hx2 hx3 hend fun h' tk hk => ⟨rfl, I.turnedL (t' := tk) (ch := [m + 5, m + 3, m + 4, m, m + 1, m + 2]) (fun c o hb q =>
      hk c o (fun q' => hb (by simp [q'])) (fun q' => hb (by simp [q'])) (fun q' => hb (by simp [q'])) (fun q' => hb (by simp [q'])) (fun q' => hb (by simp [q'])) q) hf⟩
  self := fun A i s Q E st h => wpAny_pyIter_zip st.1 h
end
theorem Sd.lt {X : Cx} {pins : List (Addr × Obj)} {σ : L2.St} {H : Hp} {s : Shared} {d : Sd} {vs : List V} (I : Inv X pins σ H s) (h : d.At X.K H vs) : ∀ b ∈ d.adr, b < s.heap.objs.size := by
  intro b hb
  cases d with
  | l a =>
    rw [List.mem_singleton.mp hb]
    obtain ⟨its, rv, p, _⟩ := I.list h
    exact p.lt
  | t a =>
    rw [List.mem_singleton.mp hb]
    obtain ⟨its, rv, ⟨o, ho, _⟩, _⟩ := I.tuple h
    exact Heap.lt_size ho
  | s x => exact absurd hb List.not_mem_nil
/-- how iter(it) begins -/
structure Bg (h : Heap) (d : Sd) (u : Value) where
  o : Obj
  Hc : Heap → Prop
  B : Begins u o Hc
  ok : Hc h
  con : ∀ h' it, h'.get? it = some o → d.con it 0 h'
theorem bg_of {X : Cx} {pins : List (Addr × Obj)} {σ : L2.St} {H : Hp} {s : Shared} {d : Sd} {vs : List V} {u : Value} (I : Inv X pins σ H s) (h : d.At X.K H vs) (r : RelV d.val u) : Nonempty (Bg s.heap d u) := by
  cases d with
  | l a =>
    cases (show u = Value.ref a from r)
    obtain ⟨its, rv, p, _⟩ := I.list h
    exact ⟨⟨_, _, begins_list a its.toArray, p.isList, fun h' it e => ⟨_, e, rfl, rfl⟩⟩⟩
  | t a =>
    cases (show u = Value.ref a from r)
    obtain ⟨its, rv, p, _⟩ := I.tuple h
    exact ⟨⟨_, _, begins_tuple a its.toArray, p, fun h' it e => ⟨_, e, rfl, rfl⟩⟩⟩
  | s x =>
    obtain ⟨t, rfl⟩ := r
    exact ⟨⟨_, _, begins_text x t, trivial, fun h' it e => ⟨t, _, e, rfl, rfl⟩⟩⟩
set_option maxHeartbeats 4000000 in
theorem meets_enum_newB {v : Value} {o : Obj} {Hc : Heap → Prop} (B : Begins v o Hc) :
    Meets (Builtin.«enumerate.__new__» ⟨[.type "enumerate", v], []⟩) (fun _ R s => Hc s.heap ∧
      R (.ok (.ret (.ref (s.heap.push o).objs.size))) { s with heap := (s.heap.push o).push { cls := .type "enumerate", data := .fields #[.none, .bool false, .ref s.heap.objs.size, rawInt 0, .none, .none] } }) :=
  .of_wp fun prog w A R s h => by
    obtain ⟨hp, g, d, tk, os⟩ := s
    obtain ⟨h1, h⟩ := h
    have hsub := sub_enumerate
    have q1 : ∀ {A' : Around} {E : Value → Shared → Prop} {Q : Value → Shared → Prop}, Q (.ref hp.objs.size) ⟨(hp.push o), g, d, tk, os⟩ → wpAny (model prog w) A' (pyIter v) Q E ⟨hp, g, d, tk, os⟩ :=
      fun q => B.iter prog w _ _ ⟨hp, g, d, tk, os⟩ _ h1 q
    wp_walk
    refine wpAny_stack_any fun st => wpAny_pure ?_
    split
    · rename_i c _ _ _ _ _
      cases (c == Value.type "enumerate")
      · wp_walk using q1
        exact ⟨_, rfl, h⟩
      · wp_walk using q1
        exact ⟨_, rfl, h⟩
    · wp_walk using q1
      exact ⟨_, rfl, h⟩
theorem enum_begins {prog : Program} {w : World} {A : Around} {E : Value → Shared → Prop} {s : Shared} {v : Value} {o : Obj} {Hc : Heap → Prop} {Q : Value → Shared → Prop} (B : Begins v o Hc) (h1 : Hc s.heap)
    (h : ∀ h', IsEnum h' (s.heap.objs.size + 1) s.heap.objs.size 0 .none → h'.get? s.heap.objs.size = some o → h'.objs.size = s.heap.objs.size + 2 →
      (∀ b o, s.heap.get? b = some o → h'.get? b = some o) → Q (.ref (s.heap.objs.size + 1)) { s with heap := h' }) :
    wpAny (model prog w) A (call (.type "enumerate") [v]) Q E s := by
  refine callType_new F.called_enumerate (by decide) (F.typeCall_enumerate_1 _) (F.newCall_enumerate_1 _) (fun obj => F.args_object_init_2 obj _) F.entry_enumerate_new
    (meets_enum_newB B) ⟨h1, ?_⟩
  have hz : (s.heap.push o).objs.size = s.heap.objs.size + 1 := Heap.size_push ..
  show _ ∧ _
  rw [hz]
  have he : IsEnum ((s.heap.push o).push
      { cls := .type "enumerate", data := .fields #[.none, .bool false, .ref s.heap.objs.size, rawInt 0, .none, .none] }) (s.heap.objs.size + 1) s.heap.objs.size 0 .none := by
    have := Heap.get?_push_size (s.heap.push o)
      (o := { cls := .type "enumerate", data := .fields #[.none, .bool false, .ref s.heap.objs.size, rawInt 0, .none, .none] }) rfl
    rw [hz] at this; exact this
  refine ⟨⟨_, he, rfl⟩, h _ he (Heap.get?_push_of_some _ (Heap.get?_push_size _ B.free)) (by rw [Heap.size_push, hz]) fun b o y => Heap.get?_push_of_some _ (Heap.get?_push_of_some _ y)⟩
section
variable {X : Cx} {e e2 e3 : Expr} {ta : TA} {p pos tpos : Pos} {elts : List Expr} {kk : Nat}
def iEG (K : PySem.W.Frag) (ta : TA) : TI := fun σ H R => ta σ H fun vs H1 => ∃ d ws, vs = [d.val] ∧ d.At K H1 ws ∧ R (ItE K d) H1
def iZG (K : PySem.W.Frag) (ta : TA) : TI := fun σ H R => ta σ H fun vs H1 => ∃ d1 d2 ws1 ws2, vs = [d1.val, d2.val] ∧ d1.At K H1 ws1 ∧ d2.At K H1 ws2 ∧ R (ItZ K d1 d2) H1
def iYG (K : PySem.W.Frag) (ta : TA) : TI := fun σ H R => ta σ H fun vs H1 => ∃ d1 d2 d3 ws1 ws2 ws3, vs = [d1.val, d2.val, d3.val] ∧ d1.At K H1 ws1 ∧ d2.At K H1 ws2 ∧ d3.At K H1 ws3 ∧ R (ItY K d1 d2 d3) H1
theorem pi_EG (hg : Gl X "enumerate") (hm : X.mg "enumerate" = none) (ha : PA X [e] ta) (hs : starEach [e] X.env = [(false, eval e X.env)]) :
    PI X (.Tuple elts kk tpos) (.Call (.Name "enumerate" p) [e] [] pos) (iEG X.K ta) := by
  refine ⟨fun pins s σ H R I h => ?_⟩
  refine Call_ (ld_blt I hg hm boot_enumerate (PyProof.Rows.callWith_type1 (thn (ha.run pos pins s σ H _ I h) fun us s1 ⟨vs, H1, I1, r1, q1⟩ => ?_) hs rfl))
  obtain ⟨d, ws, ex, hq, q⟩ := q1
  subst ex
  obtain ⟨u, rfl, r⟩ := vals1 r1
  obtain ⟨B⟩ := bg_of I1 hq r
  refine enum_begins B.B B.ok fun h' he hit hsz hk => wpAny_pyIter_enum he ?_
  have I2 : Inv X pins σ H1 { s1 with heap := h' } := I1.kept (t' := s1.toks) hk
  refine ⟨s1.heap.objs.size + 1, [s1.heap.objs.size + 1, s1.heap.objs.size], _, _, H1, rfl, I2, turn_E d s1.heap.objs.size (Sd.lt I1 hq), ⟨⟨.none, he⟩, B.con _ _ hit⟩, fun b hb => ?_, q⟩
  have e' : b = s1.heap.objs.size + 1 ∨ b = s1.heap.objs.size := by simpa using hb
  have hle : s1.heap.objs.size ≤ b := by
    rcases e' with z | z
    · rw [z]; exact Nat.le_add_right _ _
    · rw [z]; exact Nat.le_refl _
  exact I1.fpOk hle (I1.hok.fresh hle)
theorem pi_ZG (hg : Gl X "zip") (hm : X.mg "zip" = none) (ha : PA X [e, e2] ta) (hs : starEach [e, e2] X.env = (false, eval e X.env) :: starEach [e2] X.env) (hpl : (backTo pos (starEach [e2] X.env)).any (·.1) = false) :
    PI X (.Tuple elts kk tpos) (.Call (.Name "zip" p) [e, e2] [] pos) (iZG X.K ta) := by
  refine ⟨fun pins s σ H R I h => ?_⟩
  refine Call_ (ld_blt I hg hm PyProof.Rows.boot_zip (PyProof.Rows.callWith_type1 (thn (ha.run pos pins s σ H _ I h) fun us s1 ⟨vs, H1, I1, r1, q1⟩ => ?_) hs hpl))
  obtain ⟨d1, d2, ws1, ws2, ex, hq1, hq2, q⟩ := q1
  subst ex
  obtain ⟨u1, u2, rfl, r, r'⟩ := vals2 r1
  obtain ⟨B1⟩ := bg_of I1 hq1 r
  obtain ⟨B2⟩ := bg_of I1 hq2 r'
  refine zip_begins2 B1.B B2.B B1.ok B2.ok fun h' hz hTI hTO h1 h2 hsz hk => wpAny_pyIter_zip hz ?_
  have I2 : Inv X pins σ H1 { s1 with heap := h' } := I1.kept (t' := s1.toks) hk
  refine ⟨s1.heap.objs.size + 4, [s1.heap.objs.size + 4, s1.heap.objs.size + 2, s1.heap.objs.size + 3, s1.heap.objs.size, s1.heap.objs.size + 1], _, _, H1, rfl, I2, turn_Z d1 d2 s1.heap.objs.size (Sd.lt I1 hq1) (Sd.lt I1 hq2), ⟨hz, hTI, ⟨_, _, hTO⟩, B1.con _ _ h1, B2.con _ _ h2⟩, fun c hcm => ?_, q⟩
  have e' : c = s1.heap.objs.size + 4 ∨ c = s1.heap.objs.size + 2 ∨ c = s1.heap.objs.size + 3 ∨ c = s1.heap.objs.size ∨ c = s1.heap.objs.size + 1 := by simpa using hcm
  have hle : s1.heap.objs.size ≤ c := by
    rcases e' with z | z | z | z | z <;> rw [z] <;> first | exact Nat.le_refl _ | exact Nat.le_add_right _ _
  exact I1.fpOk hle (I1.hok.fresh hle)
theorem pi_YG (hg : Gl X "zip") (hm : X.mg "zip" = none) (ha : PA X [e, e2, e3] ta) (hs : starEach [e, e2, e3] X.env = (false, eval e X.env) :: starEach [e2, e3] X.env) (hpl : (backTo pos (starEach [e2, e3] X.env)).any (·.1) = false) :
    PI X (.Tuple elts kk tpos) (.Call (.Name "zip" p) [e, e2, e3] [] pos) (iYG X.K ta) := by
  refine ⟨fun pins s σ H R I h => ?_⟩
  refine Call_ (ld_blt I hg hm PyProof.Rows.boot_zip (PyProof.Rows.callWith_type1 (thn (ha.run pos pins s σ H _ I h) fun us s1 ⟨vs, H1, I1, r1, q1⟩ => ?_) hs hpl))
  obtain ⟨d1, d2, d3, ws1, ws2, ws3, ex, hq1, hq2, hq3, q⟩ := q1
  subst ex
  obtain ⟨u1, us', rfl, r, rr⟩ : ∃ u us', us = u :: us' ∧ RelV d1.val u ∧ Vals [d2.val, d3.val] us' := by
    cases r1 with
    | cons r rr => exact ⟨_, _, rfl, r, rr⟩
  obtain ⟨u2, u3, rfl, r', r''⟩ := vals2 rr
  obtain ⟨B1⟩ := bg_of I1 hq1 r
  obtain ⟨B2⟩ := bg_of I1 hq2 r'
  obtain ⟨B3⟩ := bg_of I1 hq3 r''
  refine zip_begins3 B1.B B2.B B3.B B1.ok B2.ok B3.ok fun h' hz hTI hTO h1 h2 h3 hsz hk => wpAny_pyIter_zip hz ?_
  have I2 : Inv X pins σ H1 { s1 with heap := h' } := I1.kept (t' := s1.toks) hk
  refine ⟨s1.heap.objs.size + 5, [s1.heap.objs.size + 5, s1.heap.objs.size + 3, s1.heap.objs.size + 4, s1.heap.objs.size, s1.heap.objs.size + 1, s1.heap.objs.size + 2], _, _, H1, rfl, I2, turn_Y d1 d2 d3 s1.heap.objs.size (Sd.lt I1 hq1) (Sd.lt I1 hq2) (Sd.lt I1 hq3), ⟨hz, hTI, ⟨_, _, _, hTO⟩, B1.con _ _ h1, B2.con _ _ h2, B3.con _ _ h3⟩, fun c hcm => ?_, q⟩
  have e' : c = s1.heap.objs.size + 5 ∨ c = s1.heap.objs.size + 3 ∨ c = s1.heap.objs.size + 4 ∨ c = s1.heap.objs.size ∨ c = s1.heap.objs.size + 1 ∨ c = s1.heap.objs.size + 2 := by simpa using hcm
  have hle : s1.heap.objs.size ≤ c := by
    rcases e' with z | z | z | z | z | z <;> rw [z] <;> first | exact Nat.le_refl _ | exact Nat.le_add_right _ _
  exact I1.fpOk hle (I1.hok.fresh hle)
end
end
section
open PySem PySem.Spec PyProof.Rows L2
structure Src where
  items : List PV
  keep : Sto → Prop
abbrev WI := Env → Sto → (Src → Sto → Prop) → Prop
def WalkR (K : PySem.W.Frag) (c : Src) (J : It) (Ha : Hp) (La : Sto) : Prop := ∀ i H L, Fm Ha La H L → RepH K H L → c.keep L →
  (i < c.items.length → J.go i H ∧ ∀ v H', J.yld i H v H' → ∃ x, c.items[i]? = some x ∧ RepV K H' x v ∧ Fm H L H' L ∧ RepH K H' L) ∧ (i = c.items.length → J.stop i H)
def liftI (K : PySem.W.Frag) (w : WI) : TI := fun σ H R => ∃ env L R', RepS K H σ env ∧ RepH K H L ∧ w env L R' ∧ ∀ c L' H' J, R' c L' → Fm H L H' L' → RepH K H' L' → WalkR K c J H' L' → R J H'
theorem pi_weak {X : Cx} {tg iter : Expr} {wi wi' : TI} (h : PI X tg iter wi) (w : ∀ σ H R, wi' σ H R → wi σ H R) : PI X tg iter wi' := ⟨fun pins s σ H R I q => h.run pins s σ H R I (w σ H R q)⟩
def rgL (lo : Int) (n : Nat) : List PV := (List.range n).map fun k => PV.int (lo + (k : Nat))
def rgLc (lo c : Int) (n : Nat) : List PV := (List.range n).map fun k => PV.int (lo + (k : Nat) * c)
def RgB (j : Int) : Prop := -(2 ^ 62) ≤ j ∧ j < 2 ^ 62
def iR1 (b : WE) : WI := fun env L R => b env L fun y La => match y with
  | .int j => RgB j ∧ R ⟨rgL 0 j.toNat, fun _ => True⟩ La
  | _ => False
def iR2 (a b : WE) : WI := fun env L R => a env L fun x La => b env La fun y Lb => match x, y with
  | .int i, .int j => RgB i ∧ RgB j ∧ R ⟨rgL i (j - i).toNat, fun _ => True⟩ Lb
  | _, _ => False
def iR3 (a b c : WE) : WI := fun env L R => a env L fun x La => b env La fun y Lb => c env Lb fun z Lc => match x, y, z with
  | .int i, .int j, .int c => ∃ n, RgC i j c n ∧ R ⟨rgLc i c n, fun _ => True⟩ Lc
  | _, _, _ => False
/-- a range walked from its end -/
def iRr (b : WE) : WI := fun env L R => b env L fun y La => match y with
  | .int j => RgB j ∧ R ⟨rgLc (0 + (((j - 0).toNat : Nat) : Int) - 1) (-1) (j - 0).toNat, fun _ => True⟩ La
  | _ => False
def enL (xs : List PV) : List PV := (List.range xs.length).map fun k => PV.tup [.int (k : Nat), xs.getD k .non]
def zipL (xs ys : List PV) : List PV := List.zipWith (fun x y => PV.tup [x, y]) xs ys
/-- a thing that enumerate and zip walk: a list, a tuple, a text -/
def srcK (x : PV) (L : Sto) (R : List PV → (Sto → Prop) → Prop) : Prop := match x with
  | .ref a => match L a with
    | some (.l xs) => R xs fun Lx => Lx a = some (.l xs)
    | _ => False
  | .tup xs => R xs fun _ => True
  | .str z => R (z.cps.toList.map fun c => .str ⟨#[c]⟩) fun _ => True
  | _ => False
def zip3L (xs ys zs : List PV) : List PV := List.zipWith (fun (f : PV → PV) z => f z) (List.zipWith (fun x y => fun z => PV.tup [x, y, z]) xs ys) zs
def iEn (e : WE) : WI := fun env L R => e env L fun x La => srcK x La fun xs kp => R ⟨enL xs, kp⟩ La
def iZp (a b : WE) : WI := fun env L R => a env L fun x La => b env La fun y Lb => srcK x Lb fun xs kx => srcK y Lb fun ys ky => R ⟨zipL xs ys, fun Lx => kx Lx ∧ ky Lx⟩ Lb
def iZ3 (a b c : WE) : WI := fun env L R => a env L fun x La => b env La fun y Lb => c env Lb fun z Lc => srcK x Lc fun xs kx => srcK y Lc fun ys ky => srcK z Lc fun zs kz => R ⟨zip3L xs ys zs, fun Lx => kx Lx ∧ ky Lx ∧ kz Lx⟩ Lc
def iRv (e : WE) : WI := fun env L R => e env L fun x La => match x with
  | .ref a => match La a with
    | some (.l xs) => R ⟨xs.reverse, fun Lx => Lx a = some (.l xs)⟩ La
    | _ => False
  | _ => False
section
variable {X : Cx} {K : PySem.W.Frag} {Ha : Hp} {La : Sto}
theorem wk_range {lo : Int} {n : Nat} : WalkR K ⟨rgL lo n, fun _ => True⟩ (Itr lo n) Ha La := by
  intro i H L f r k
  have hl : (rgL lo n).length = n := by unfold rgL; rw [List.length_map, List.length_range]
  refine ⟨fun hi => ⟨by show i < n; rw [← hl]; exact hi, fun v H' y => ?_⟩, fun hi => by show n ≤ i; rw [hi]; show n ≤ (rgL lo n).length; rw [hl]; exact Nat.le_refl _⟩
  obtain ⟨rfl, rfl⟩ := y
  have hi' : i < n := by rw [← hl]; exact hi
  refine ⟨.int (lo + i), ?_, rfl, .refl, r⟩
  show (rgL lo n)[i]? = _
  unfold rgL
  rw [List.getElem?_map, List.getElem?_range hi']
  rfl
theorem wk_rangeC {lo c : Int} {n : Nat} : WalkR K ⟨rgLc lo c n, fun _ => True⟩ (Itc lo c n) Ha La := by
  intro i H L f r k
  have hl : (rgLc lo c n).length = n := by unfold rgLc; rw [List.length_map, List.length_range]
  refine ⟨fun hi => ⟨by show i < n; rw [← hl]; exact hi, fun v H' y => ?_⟩, fun hi => by show n ≤ i; rw [hi]; show n ≤ (rgLc lo c n).length; rw [hl]; exact Nat.le_refl _⟩
  obtain ⟨rfl, rfl⟩ := y
  have hi' : i < n := by rw [← hl]; exact hi
  refine ⟨.int (lo + (i : Nat) * c), ?_, rfl, .refl, r⟩
  show (rgLc lo c n)[i]? = _
  unfold rgLc
  rw [List.getElem?_map, List.getElem?_range hi']
  rfl
theorem wk_tup {a : Addr} {xs : List PV} {vs : List V} (ra : RepH K Ha La) (t : TupAt K Ha a vs) (rv : RepVs K Ha xs vs) : WalkR K ⟨xs, fun _ => True⟩ (Itt K a) Ha La := by
  intro i H L f r k
  have t' := t.ex (f.ex ra)
  have rv' := rv.ex (f.ex ra)
  refine ⟨fun hi => ?_, fun hi => ⟨vs, t'.sq, by rw [hi]; show vs.length ≤ xs.length; rw [rv.length]; exact Nat.le_refl _⟩⟩
  have hx : xs[i]? = some xs[i] := List.getElem?_eq_getElem hi
  obtain ⟨v, h1, h2⟩ := rv'.get hx
  refine ⟨⟨vs, v, t'.sq, h1⟩, fun u H' y => ?_⟩
  obtain ⟨rfl, y⟩ := y
  have e := y vs t'.sq
  rw [h1] at e
  cases e
  exact ⟨_, hx, h2, .refl, r⟩
theorem wk_list {a : Addr} {xs : List PV} : WalkR K ⟨xs, fun Lx => Lx a = some (.l xs)⟩ (Itl K a) Ha La := by
  intro i H L f r k
  obtain ⟨vs, h1, rv⟩ := r.lst k
  refine ⟨fun hi => ?_, fun hi => ⟨vs, .of h1, by rw [hi]; show vs.length ≤ xs.length; rw [rv.length]; exact Nat.le_refl _⟩⟩
  have hx : xs[i]? = some xs[i] := List.getElem?_eq_getElem hi
  obtain ⟨v, h2, h3⟩ := rv.get hx
  refine ⟨⟨vs, v, .of h1, h2⟩, fun u H' y => ?_⟩
  obtain ⟨rfl, y⟩ := y
  have e := y vs (.of h1)
  rw [h2] at e
  cases e
  exact ⟨_, hx, h3, .refl, r⟩
theorem wk_rev {a : Addr} {xs : List PV} {n : Nat} (hn : n = xs.length) : WalkR K ⟨xs.reverse, fun Lx => Lx a = some (.l xs)⟩ (Itv K a n) Ha La := by
  subst hn
  intro i H L f r k
  obtain ⟨vs, h1, rv⟩ := r.lst k
  refine ⟨fun hi => ?_, fun hi => by show xs.length ≤ i; rw [hi]; show xs.length ≤ xs.reverse.length; rw [List.length_reverse]; exact Nat.le_refl _⟩
  have hi' : i < xs.length := by
    have : i < xs.reverse.length := hi
    rw [List.length_reverse] at this
    exact this
  have hj : xs.length - 1 - i < xs.length := by omega
  have hx : xs[xs.length - 1 - i]? = some xs[xs.length - 1 - i] := List.getElem?_eq_getElem hj
  obtain ⟨v, h2, h3⟩ := rv.get hx
  refine ⟨⟨hi', vs, v, .of h1, h2⟩, fun u H' y => ?_⟩
  obtain ⟨rfl, y⟩ := y
  have e := y vs (.of h1)
  rw [h2] at e
  cases e
  refine ⟨_, ?_, h3, .refl, r⟩
  show xs.reverse[i]? = _
  rw [List.getElem?_reverse hi', hx]
theorem wk_str {z : Str} : WalkR K ⟨z.cps.toList.map fun c => .str ⟨#[c]⟩, fun _ => True⟩ (Its z) Ha La := by
  intro i H L f r k
  refine ⟨fun hi => ?_, fun hi => by show z.cps.size ≤ i; rw [hi]; show z.cps.size ≤ (z.cps.toList.map _).length; rw [List.length_map, Array.length_toList]; exact Nat.le_refl _⟩
  have hi' : i < z.cps.size := by
    have : i < (z.cps.toList.map fun c => PV.str ⟨#[c]⟩).length := hi
    rw [List.length_map, Array.length_toList] at this
    exact this
  refine ⟨hi', fun v H' y => ?_⟩
  obtain ⟨rfl, c, e, rfl⟩ := y
  refine ⟨.str ⟨#[c]⟩, ?_, rfl, .refl, r⟩
  show (z.cps.toList.map _)[i]? = _
  rw [List.getElem?_map, Array.getElem?_toList, e]
  rfl
theorem pair_ok {H : Hp} {L : Sto} (r : RepH K H L) {T : Addr} {x y : PV} {v w : V} (hT : H T = none) (rx : RepV K H x v) (ry : RepV K H y w) :
    RepV K (upd H T (.tup [v, w])) (.tup [x, y]) (.ref T) ∧ Fm H L (upd H T (.tup [v, w])) L ∧ RepH K (upd H T (.tup [v, w])) L :=
  ⟨repv_tup ⟨v, [w], rfl, rx, w, [], rfl, ry, rfl⟩ hT, fm_tup r hT, reph_tup r hT⟩
/-- what is walked, as the machine holds it -/
def SrcOk (K : PySem.W.Frag) (Ha : Hp) (La : Sto) (d : Sd) (xs : List PV) (kp : Sto → Prop) : Prop := kp La ∧ ∀ H L, Fm Ha La H L → RepH K H L → kp L → ∃ vs, d.At K H vs ∧ RepVs K H xs vs
theorem src_ok {x : PV} {v : V} {R : List PV → (Sto → Prop) → Prop} (rx : RepV K Ha x v) (rh : RepH K Ha La) (h : srcK x La R) : ∃ xs kp d, R xs kp ∧ v = d.val ∧ SrcOk K Ha La d xs kp := by
  unfold srcK at h
  split at h
  · cases (show _ = _ from rx)
    rename_i a
    split at h
    · rename_i xs e
      refine ⟨xs, _, .l a, h, rfl, e, fun H L f r k => ?_⟩
      obtain ⟨vs, h1, rv⟩ := r.lst k
      exact ⟨vs, .of h1, rv⟩
    · exact h.elim
  · obtain ⟨p, vs, rfl, t, r⟩ := rx
    exact ⟨_, _, .t p, h, rfl, trivial, fun H L f _ _ => ⟨vs, (t.ex (f.ex rh)).sq, r.ex (f.ex rh)⟩⟩
  · cases (show _ = _ from rx)
    rename_i z
    refine ⟨_, _, .s z, h, rfl, trivial, fun H L f _ _ => ⟨chV z, rfl, ?_⟩⟩
    unfold chV
    generalize z.cps.toList = cs
    induction cs with
    | nil => rfl
    | cons c cs ih => exact ⟨_, _, rfl, rfl, ih⟩
  · exact h.elim
theorem SrcOk.fm {H1 : Hp} {L1 : Sto} {d : Sd} {xs : List PV} {kp : Sto → Prop} (h : SrcOk K Ha La d xs kp) (f : Fm Ha La H1 L1) (k : kp L1) : SrcOk K H1 L1 d xs kp := ⟨k, fun H L f' r k' => h.2 H L (f.trans f') r k'⟩
theorem wk_E {d : Sd} {xs : List PV} {kp : Sto → Prop} (h : SrcOk K Ha La d xs kp) : WalkR K ⟨enL xs, kp⟩ (ItE K d) Ha La := by
  intro i H L f r k
  obtain ⟨vs, h1, rv⟩ := h.2 H L f r k
  have hl : (enL xs).length = xs.length := by unfold enL; rw [List.length_map, List.length_range]
  refine ⟨fun hi => ?_, fun hi => ⟨vs, h1, by rw [hi]; show vs.length = (enL xs).length; rw [hl, rv.length]⟩⟩
  have hi' : i < xs.length := by rw [← hl]; exact hi
  have hx : xs[i]? = some xs[i] := List.getElem?_eq_getElem hi'
  obtain ⟨v, h2, h3⟩ := rv.get hx
  refine ⟨⟨vs, h1, by rw [← rv.length]; exact hi'⟩, fun u H' y => ?_⟩
  obtain ⟨T, w, rfl, hT, rfl, y⟩ := y
  have e := y vs h1
  rw [h2] at e
  cases e
  obtain ⟨q1, q2, q3⟩ := pair_ok r (x := .int (i : Nat)) (v := .int (i : Nat)) hT rfl h3
  refine ⟨_, ?_, q1, q2, q3⟩
  show (enL xs)[i]? = _
  unfold enL
  rw [List.getElem?_map, List.getElem?_range hi']
  simp [List.getD, hx]
theorem wk_Z {d1 d2 : Sd} {xs ys : List PV} {kx ky : Sto → Prop} (hx : SrcOk K Ha La d1 xs kx) (hy : SrcOk K Ha La d2 ys ky) : WalkR K ⟨zipL xs ys, fun L => kx L ∧ ky L⟩ (ItZ K d1 d2) Ha La := by
  intro i H L f r k
  obtain ⟨vs, h1, rv⟩ := hx.2 H L f r k.1
  obtain ⟨ws, g1, rw'⟩ := hy.2 H L f r k.2
  have hl : (zipL xs ys).length = min xs.length ys.length := by unfold zipL; rw [List.length_zipWith]
  have l1 := rv.length
  have l2 := rw'.length
  refine ⟨fun hi => ?_, fun hi => ⟨vs, ws, h1, g1, ?_⟩⟩
  · have hi' : i < min xs.length ys.length := by rw [← hl]; exact hi
    have hx : xs[i]? = some xs[i] := List.getElem?_eq_getElem (by omega)
    have hy : ys[i]? = some ys[i] := List.getElem?_eq_getElem (by omega)
    obtain ⟨v, h2, h3⟩ := rv.get hx
    obtain ⟨w, g2, g3⟩ := rw'.get hy
    refine ⟨⟨vs, ws, h1, g1, by omega, by omega⟩, fun u H' y => ?_⟩
    obtain ⟨T, v', w', rfl, hT, rfl, y1, y2⟩ := y
    have e := y1 vs h1
    rw [h2] at e
    cases e
    have e := y2 ws g1
    rw [g2] at e
    cases e
    obtain ⟨q1, q2, q3⟩ := pair_ok r hT h3 g3
    refine ⟨_, ?_, q1, q2, q3⟩
    show (zipL xs ys)[i]? = _
    unfold zipL
    rw [List.getElem?_zipWith, hx, hy]
  · have e : i = min xs.length ys.length := by rw [hi]; exact hl
    omega
theorem zip3_len {xs ys zs : List PV} : (zip3L xs ys zs).length = min (min xs.length ys.length) zs.length := by unfold zip3L; rw [List.length_zipWith, List.length_zipWith]
theorem wk_Y {d1 d2 d3 : Sd} {xs ys zs : List PV} {kx ky kz : Sto → Prop} (hx : SrcOk K Ha La d1 xs kx) (hy : SrcOk K Ha La d2 ys ky) (hz : SrcOk K Ha La d3 zs kz) : WalkR K ⟨zip3L xs ys zs, fun L => kx L ∧ ky L ∧ kz L⟩ (ItY K d1 d2 d3) Ha La := by
  intro i H L f r k
  obtain ⟨vs, h1, rv⟩ := hx.2 H L f r k.1
  obtain ⟨ws, g1, rw'⟩ := hy.2 H L f r k.2.1
  obtain ⟨us, k1, ru'⟩ := hz.2 H L f r k.2.2
  have hl := zip3_len (xs := xs) (ys := ys) (zs := zs)
  have l1 := rv.length
  have l2 := rw'.length
  have l3 := ru'.length
  refine ⟨fun hi => ?_, fun hi => ⟨vs, ws, us, h1, g1, k1, ?_⟩⟩
  · have hi' : i < min (min xs.length ys.length) zs.length := by rw [← hl]; exact hi
    have hx : xs[i]? = some xs[i] := List.getElem?_eq_getElem (by omega)
    have hy : ys[i]? = some ys[i] := List.getElem?_eq_getElem (by omega)
    have hz : zs[i]? = some zs[i] := List.getElem?_eq_getElem (by omega)
    obtain ⟨v, h2, h3⟩ := rv.get hx
    obtain ⟨w, g2, g3⟩ := rw'.get hy
    obtain ⟨u, k2, k3⟩ := ru'.get hz
    refine ⟨⟨vs, ws, us, h1, g1, k1, by omega, by omega, by omega⟩, fun u H' y => ?_⟩
    obtain ⟨T, v', w', u', rfl, hT, rfl, y1, y2, y3⟩ := y
    have e := y1 vs h1
    rw [h2] at e
    cases e
    have e := y2 ws g1
    rw [g2] at e
    cases e
    have e := y3 us k1
    rw [k2] at e
    cases e
    refine ⟨.tup [xs[i], ys[i], zs[i]], ?_, repv_tup ⟨_, _, rfl, h3, _, _, rfl, g3, _, [], rfl, k3, rfl⟩ hT, fm_tup r hT, reph_tup r hT⟩
    show (zip3L xs ys zs)[i]? = _
    unfold zip3L
    rw [List.getElem?_zipWith, List.getElem?_zipWith, hx, hy, hz]
  · have e : i = min (min xs.length ys.length) zs.length := by rw [hi]; exact hl
    omega
end
section
variable {X : Cx} {pos p : Pos} {a b c tg : Expr} {wa wb wc : WE}
theorem lift_a1 {σ : L2.St} {H : Hp} {T : List V → Hp → Prop} {env : Env} {L : Sto} {R : PK} (hs : RepS X.K H σ env) (hL : RepH X.K H L) (hw : wa env L R)
    (k : ∀ x La v H1, R x La → Fm H L H1 La → RepV X.K H1 x v → RepH X.K H1 La → T [v] H1) : liftA X.K [wa] σ H T := by
  refine ⟨env, L, fun xs La => match xs with | [x] => R x La | _ => False, hs, hL, hw, fun xs La vs H1 hb hn f1 rx r1 => ?_⟩
  match xs, hb with
  | [x], hb =>
    obtain ⟨v, rfl, rv⟩ := rx.one
    exact k x La v H1 hb f1 rv r1
theorem lift_a2 {σ : L2.St} {H : Hp} {T : List V → Hp → Prop} {env : Env} {L : Sto} {R : PV → PV → Sto → Prop} (hs : RepS X.K H σ env) (hL : RepH X.K H L) (hw : wa env L fun x La => wb env La fun y Lb => R x y Lb)
    (k : ∀ x y La v w H1, R x y La → Fm H L H1 La → RepV X.K H1 x v → RepV X.K H1 y w → RepH X.K H1 La → T [v, w] H1) : liftA X.K [wa, wb] σ H T := by
  refine ⟨env, L, fun xs La => match xs with | [x, y] => R x y La | _ => False, hs, hL, hw, fun xs La vs H1 hb hn f1 rx r1 => ?_⟩
  match xs, hb with
  | [x, y], hb =>
    obtain ⟨v, w, rfl, rv, rw'⟩ := rx.two
    exact k x y La v w H1 hb f1 rv rw' r1
theorem lift_a3 {σ : L2.St} {H : Hp} {T : List V → Hp → Prop} {env : Env} {L : Sto} {R : PV → PV → PV → Sto → Prop} (hs : RepS X.K H σ env) (hL : RepH X.K H L) (hw : wa env L fun x La => wb env La fun y Lb => wc env Lb fun z Lc => R x y z Lc)
    (k : ∀ x y z La v w u H1, R x y z La → Fm H L H1 La → RepV X.K H1 x v → RepV X.K H1 y w → RepV X.K H1 z u → RepH X.K H1 La → T [v, w, u] H1) : liftA X.K [wa, wb, wc] σ H T := by
  refine ⟨env, L, fun xs La => match xs with | [x, y, z] => R x y z La | _ => False, hs, hL, hw, fun xs La vs H1 hb hn f1 rx r1 => ?_⟩
  match xs, hb with
  | [x, y, z], hb =>
    obtain ⟨v, w, u, rfl, rv, rw', ru⟩ := rx.three
    exact k x y z La v w u H1 hb f1 rv rw' ru r1
theorem i_r1 (hg : Gl X "range") (hm : X.mg "range" = none) (ha : PA X [a] (liftA X.K [wa])) (hs : starEach [a] X.env = [(false, eval a X.env)]) : PI X tg (.Call (.Name "range" p) [a] [] pos) (liftI X.K (iR1 wa)) := pi_weak (pi_range1 hg hm ha hs) fun σ H R h => by
  obtain ⟨env, L, R', hs, hL, hw, k⟩ := h
  refine lift_a1 hs hL hw fun x La v H1 hb f1 rx r1 => ?_
  cases x <;> first | exact absurd hb (fun z => z) | skip
  cases (show _ = _ from rx)
  exact ⟨_, rfl, hb.1.1, hb.1.2, k _ La H1 _ hb.2 f1 r1 wk_range⟩
theorem i_r2 (hg : Gl X "range") (hm : X.mg "range" = none) (ha : PA X [a, b] (liftA X.K [wa, wb])) (hs : starEach [a, b] X.env = [(false, eval a X.env), (false, eval b X.env)]) (hs2 : starEach [b] X.env = [(false, eval b X.env)]) :
    PI X tg (.Call (.Name "range" p) [a, b] [] pos) (liftI X.K (iR2 wa wb)) := pi_weak (pi_range2 hg hm ha hs hs2) fun σ H R h => by
  obtain ⟨env, L, R', hs, hL, hw, k⟩ := h
  refine lift_a2 hs hL hw fun x y La v w H1 hb f1 rx ry r1 => ?_
  cases x <;> cases y <;> first | exact absurd hb (fun z => z) | skip
  cases (show _ = _ from rx)
  cases (show _ = _ from ry)
  exact ⟨_, _, rfl, ⟨hb.1.1, hb.1.2, hb.2.1.1, hb.2.1.2⟩, k _ La H1 _ hb.2.2 f1 r1 wk_range⟩
theorem i_r3 (hg : Gl X "range") (hm : X.mg "range" = none) (ha : PA X [a, b, c] (liftA X.K [wa, wb, wc])) (hs : starEach [a, b, c] X.env = (false, eval a X.env) :: starEach [b, c] X.env) (hpl : (backTo pos (starEach [b, c] X.env)).any (·.1) = false) :
    PI X tg (.Call (.Name "range" p) [a, b, c] [] pos) (liftI X.K (iR3 wa wb wc)) := pi_weak (pi_range3 hg hm ha hs hpl) fun σ H R h => by
  obtain ⟨env, L, R', hs, hL, hw, k⟩ := h
  refine lift_a3 hs hL hw fun x y z La v w u H1 hb f1 rx ry rz r1 => ?_
  cases x <;> cases y <;> cases z <;> first | exact absurd hb (fun z => z) | skip
  cases (show _ = _ from rx)
  cases (show _ = _ from ry)
  cases (show _ = _ from rz)
  obtain ⟨n, h1, h2⟩ := hb
  exact ⟨_, _, _, n, rfl, h1, k _ La H1 _ h2 f1 r1 wk_rangeC⟩
theorem i_en {elts : List Expr} {kk : Nat} {tpos : Pos} (hg : Gl X "enumerate") (hm : X.mg "enumerate" = none) (ha : PA X [a] (liftA X.K [wa])) (hs : starEach [a] X.env = [(false, eval a X.env)]) : PI X (.Tuple elts kk tpos) (.Call (.Name "enumerate" p) [a] [] pos) (liftI X.K (iEn wa)) := pi_weak (pi_EG hg hm ha hs) fun σ H R h => by
  obtain ⟨env, L, R', hs, hL, hw, k⟩ := h
  refine lift_a1 hs hL hw fun x La v H1 hb f1 rx r1 => ?_
  obtain ⟨xs, kp, d, hR, rfl, ok⟩ := src_ok rx r1 hb
  obtain ⟨vs, h1, _⟩ := ok.2 H1 La .refl r1 ok.1
  exact ⟨d, vs, rfl, h1, k _ La H1 _ hR f1 r1 (wk_E ok)⟩
theorem i_rv (hg : Gl X "reversed") (hm : X.mg "reversed" = none) (ha : PA X [a] (liftA X.K [wa])) (hs : starEach [a] X.env = [(false, eval a X.env)]) : PI X tg (.Call (.Name "reversed" p) [a] [] pos) (liftI X.K (iRv wa)) := pi_weak (pi_reversed hg hm ha hs) fun σ H R h => by
  obtain ⟨env, L, R', hs, hL, hw, k⟩ := h
  refine lift_a1 hs hL hw fun x La v H1 hb f1 rx r1 => ?_
  cases x <;> first | exact absurd hb (fun z => z) | skip
  cases (show _ = _ from rx)
  simp only at hb
  split at hb
  · rename_i xs e
    obtain ⟨vs, h1, rv⟩ := r1.lst e
    exact ⟨_, vs, rfl, .of h1, k _ La H1 _ hb f1 r1 (wk_rev rv.length.symm)⟩
  · exact hb.elim
theorem i_rr {wa : WE} {e : Expr} {p p2 pos pos2 : Pos} (hg : Gl X "reversed") (hm : X.mg "reversed" = none) (hg2 : Gl X "range") (hm2 : X.mg "range" = none) (ha : PE X e (liftE X.K wa)) (na : starEach [e] X.env = (false, eval e X.env) :: starEach [] X.env) :
    PI X tg (.Call (.Name "reversed" p) [.Call (.Name "range" p2) [e] [] pos2] [] pos) (liftI X.K (iRr wa)) := pi_weak (pi_revR hg hm (prg_1 hg2 hm2 ha na)) fun σ H R h => by
  obtain ⟨env, L, R', hs, hL, hw, k⟩ := h
  refine ⟨env, L, _, hs, hL, hw, fun x La v H1 hb f1 rx r1 => ?_⟩
  cases x <;> first | exact absurd hb (fun z => z) | skip
  cases (show _ = _ from rx)
  exact ⟨_, rfl, by decide, by decide, hb.1.1, hb.1.2, k _ La H1 _ hb.2 f1 r1 wk_rangeC⟩
theorem i_zp {elts : List Expr} {kk : Nat} {tpos : Pos} (hg : Gl X "zip") (hm : X.mg "zip" = none) (ha : PA X [a, b] (liftA X.K [wa, wb])) (hs : starEach [a, b] X.env = (false, eval a X.env) :: starEach [b] X.env) (hpl : (backTo pos (starEach [b] X.env)).any (·.1) = false) :
    PI X (.Tuple elts kk tpos) (.Call (.Name "zip" p) [a, b] [] pos) (liftI X.K (iZp wa wb)) := pi_weak (pi_ZG hg hm ha hs hpl) fun σ H R h => by
  obtain ⟨env, L, R', hs, hL, hw, k⟩ := h
  refine lift_a2 hs hL hw fun x y La v w H1 hb f1 rx ry r1 => ?_
  obtain ⟨xs, kx, d1, hb, rfl, ok1⟩ := src_ok rx r1 hb
  obtain ⟨ys, ky, d2, hb, rfl, ok2⟩ := src_ok ry r1 hb
  obtain ⟨vs, h1, _⟩ := ok1.2 H1 La .refl r1 ok1.1
  obtain ⟨ws, h2, _⟩ := ok2.2 H1 La .refl r1 ok2.1
  exact ⟨d1, d2, vs, ws, rfl, h1, h2, k _ La H1 _ hb f1 r1 (wk_Z ok1 ok2)⟩
theorem i_z3 {elts : List Expr} {kk : Nat} {tpos : Pos} (hg : Gl X "zip") (hm : X.mg "zip" = none) (ha : PA X [a, b, c] (liftA X.K [wa, wb, wc])) (hs : starEach [a, b, c] X.env = (false, eval a X.env) :: starEach [b, c] X.env) (hpl : (backTo pos (starEach [b, c] X.env)).any (·.1) = false) :
    PI X (.Tuple elts kk tpos) (.Call (.Name "zip" p) [a, b, c] [] pos) (liftI X.K (iZ3 wa wb wc)) := pi_weak (pi_YG hg hm ha hs hpl) fun σ H R h => by
  obtain ⟨env, L, R', hs, hL, hw, k⟩ := h
  refine lift_a3 hs hL hw fun x y z La v w u H1 hb f1 rx ry rz r1 => ?_
  obtain ⟨xs, kx, d1, hb, rfl, ok1⟩ := src_ok rx r1 hb
  obtain ⟨ys, ky, d2, hb, rfl, ok2⟩ := src_ok ry r1 hb
  obtain ⟨zs, kz, d3, hb, rfl, ok3⟩ := src_ok rz r1 hb
  obtain ⟨vs, h1, _⟩ := ok1.2 H1 La .refl r1 ok1.1
  obtain ⟨ws, h2, _⟩ := ok2.2 H1 La .refl r1 ok2.1
  obtain ⟨us, h3, _⟩ := ok3.2 H1 La .refl r1 ok3.1
  exact ⟨d1, d2, d3, vs, ws, us, rfl, h1, h2, h3, k _ La H1 _ hb f1 r1 (wk_Y ok1 ok2 ok3)⟩
end
abbrev WG := PV → Env → Sto → (Env → Sto → Prop) → Prop
abbrev WGs := List PV → Env → Sto → (Env → Sto → Prop) → Prop
def liftG (K : PySem.W.Frag) (g : WG) : TG := fun v σ H Q => ∃ x env L R, RepV K H x v ∧ RepS K H σ env ∧ RepH K H L ∧ g x env L R ∧ ∀ env' L' σ' H', R env' L' → Fm H L H' L' → RepS K H' σ' env' → RepH K H' L' → Q σ' H'
def liftGs (K : PySem.W.Frag) (g : WGs) : TGs := fun v σ H Q => ∃ x env L R, RepVs K H x v ∧ RepS K H σ env ∧ RepH K H L ∧ g x env L R ∧ ∀ env' L' σ' H', R env' L' → Fm H L H' L' → RepS K H' σ' env' → RepH K H' L' → Q σ' H'
def gN (i : Nat) : WG := fun x env L R => R (env.set i (some x)) L
def gsNil : WGs := fun xs env L R => match xs with
  | [] => R env L
  | _ => False
def gsCons (g : WG) (gs : WGs) : WGs := fun xs env L R => match xs with
  | x :: r => g x env L fun env' L' => gs r env' L' R
  | _ => False
def gT (n : Nat) (gs : WGs) : WG := fun x env L R => match x with
  | .tup xs => xs.length = n ∧ gs xs env L R
  | .ref a => ∃ xs, L a = some (.l xs) ∧ xs.length = n ∧ gs xs env L R
  | _ => False
def gTU (K : PySem.W.Frag) (n : Nat) (t : TGs) : TG := fun v σ H Q => gTup K n t v σ H Q ∨ gUnl K n t v σ H Q
theorem pg_tupU {X : Cx} {pos : Pos} {es : List Expr} {k n : Nat} {t : TGs} (hc : X.calm = true) (h : PGs X es t) (hn : (assignEach es X.env).length = n) (hst : (assignEach es X.env).findIdx? (·.1) = none) : PG X (.Tuple es k pos) (gTU X.K n t) :=
  ⟨fun pins s σ H v u Q I r q => q.elim (fun q => (pg_tup hc h hn hst).run pins s σ H v u Q I r q) fun q => (pg_unl hc h hn hst).run pins s σ H v u Q I r q⟩
/-- o[i] = x, of a list or a dict -/
def gS (o i : WE) : WG := fun x env L R => o env L fun y La => i env La fun z Lb => match y, z with
  | .ref a, .int k => ∃ xs j, Lb a = some (.l xs) ∧ ixN xs.length k = some j ∧ R env (put Lb a (.l (xs.set j x)))
  | _, _ => False
section
variable {X : Cx} {pos p : Pos} {a b tg : Expr} {wa wb wc : WE} {K : PySem.W.Frag} {H H' : Hp} {σ : L2.St} {env : Env} {L : Sto}
theorem RepS.set (h : RepS K H σ env) (i : Nat) {x : PV} {v : V} (r : RepV K H x v) : RepS K H (σ.set i (some v)) (env.set i (some x)) := by
  refine ⟨by rw [List.length_set, List.length_set]; exact h.1, fun j y e => ?_⟩
  by_cases hj : j = i
  · subst hj
    by_cases hl : j < env.length
    · rw [List.getElem?_set_self hl] at e
      cases e
      exact ⟨v, by rw [List.getElem?_set_self (by rw [h.1]; exact hl)], r⟩
    · rw [List.getElem?_eq_none (by rw [List.length_set]; omega)] at e
      cases e
  · rw [List.getElem?_set_ne (Ne.symm hj)] at e
    obtain ⟨w, h1, h2⟩ := h.2 j y e
    exact ⟨w, by rw [List.getElem?_set_ne (Ne.symm hj)]; exact h1, h2⟩
theorem pg_weak {t t' : TG} (h : PG X tg t) (w : ∀ v σ H Q, t' v σ H Q → t v σ H Q) : PG X tg t' := ⟨fun pins s σ H v u Q I r q => h.run pins s σ H v u Q I r (w v σ H Q q)⟩
theorem pgs_weak {tgs : List Expr} {t t' : TGs} (h : PGs X tgs t) (w : ∀ v σ H Q, t' v σ H Q → t v σ H Q) : PGs X tgs t' := ⟨fun pins s σ H v u Q I r q => h.run pins s σ H v u Q I r (w v σ H Q q)⟩
theorem g_name {i : Nat} {x : Str} (hN : X.N.Nodup) (hi : X.N[i]? = some x) (hx : Loc X.env.scope x) (hf : X.fn x = true ∨ X.env.scope.names.lookup x = some .local) : PG X (.Name x pos) (liftG X.K (gN i)) :=
  pg_weak (pg_name hN hi hx hf) fun v σ H Q h => by
    obtain ⟨x, env, L, R, rx, hs, hL, hw, k⟩ := h
    exact k _ L _ H hw .refl (hs.set i rx) hL
theorem g_nil : PGs X [] (liftGs X.K gsNil) := pgs_weak pgs_nil fun v σ H Q h => by
  obtain ⟨x, env, L, R, rx, hs, hL, hw, k⟩ := h
  match x, hw with
  | [], hw =>
    cases (show _ = _ from rx)
    exact ⟨rfl, k _ L _ H hw .refl hs hL⟩
theorem g_cons {es : List Expr} {g : WG} {gs : WGs} (h1 : PG X tg (liftG X.K g)) (h2 : PGs X es (liftGs X.K gs)) (hs : (assignEach (tg :: es) X.env).map (·.2) = assign tg X.env :: (assignEach es X.env).map (·.2)) : PGs X (tg :: es) (liftGs X.K (gsCons g gs)) :=
  pgs_weak (pgs_cons h1 h2 hs) fun v σ H Q h => by
    obtain ⟨x, env, L, R, rx, hs, hL, hw, k⟩ := h
    match x, hw with
    | x :: r, hw =>
      obtain ⟨w, ws, rfl, rw', rr⟩ := rx
      refine ⟨w, ws, rfl, x, env, L, _, rw', hs, hL, hw, fun env' L' σ' H' hb f1 hs' r1 => ?_⟩
      exact ⟨r, env', L', R, rr.ex (f1.ex hL), hs', r1, hb, fun e2 l2 s2 h2 hr f2 => k e2 l2 s2 h2 hr (f1.trans f2)⟩
theorem g_tup {es : List Expr} {kk n : Nat} {gs : WGs} (hc : X.calm = true) (h : PGs X es (liftGs X.K gs)) (hn : (assignEach es X.env).length = n) (hst : (assignEach es X.env).findIdx? (·.1) = none) : PG X (.Tuple es kk pos) (liftG X.K (gT n gs)) :=
  pg_weak (pg_tupU hc h hn hst) fun v σ H Q h => by
    obtain ⟨x, env, L, R, rx, hs, hL, hw, k⟩ := h
    match x, hw with
    | .tup xs, hw =>
      obtain ⟨a, vs, rfl, t, r⟩ := rx
      exact .inl ⟨a, vs, rfl, t.sq, by rw [← r.length]; exact hw.1, xs, env, L, R, r, hs, hL, hw.2, k⟩
    | .ref a, hw =>
      cases (show _ = _ from rx)
      obtain ⟨xs, e, h1, h2⟩ := hw
      obtain ⟨vs, h3, r⟩ := hL.lst e
      exact .inr ⟨a, vs, rfl, .of h3, by rw [← r.length]; exact h1, xs, env, L, R, r, hs, hL, h2, k⟩
theorem g_sub (ha : PE X a (liftE X.K wa)) (hb : PE X b (liftE X.K wb)) (hq : ∀ v, assign (.Subscript a b pos) X.env v = (do
      let ov ← holding [v] (eval a X.env)
      let iv ← holding [v, ov] (eval b X.env)
      standAt pos
      holding [v, ov, iv] (setItem ov iv v)
      release [v, ov, iv] [])) : PG X (.Subscript a b pos) (liftG X.K (gS wa wb)) :=
  pg_weak (pg_sub ha hb set_list hq) fun v σ H Q h => by
    obtain ⟨x, env, L, R, rx, hs, hL, hw, k⟩ := h
    refine ⟨env, L, _, hs, hL, hw, fun y La u H1 hb f1 ry r1 => ?_⟩
    refine ⟨env, La, _, hs.ex (f1.ex hL), r1, hb, fun z Lb w H2 hc f2 rz r2 => ?_⟩
    match y, z, hc with
    | .ref q, .int i, hc =>
      cases (show _ = _ from ry)
      cases (show _ = _ from rz)
      obtain ⟨xs, j, e, hj, hr⟩ := hc
      obtain ⟨vs, h1, r⟩ := r2.lst e
      have ex := (f1.ex hL).trans (f2.ex r1)
      refine ⟨q, vs, i, j, rfl, rfl, h1, by rw [← r.length]; exact hj, ?_⟩
      exact k env _ σ _ hr ((f1.trans f2).trans (fm_put e)) ((hs.ex ex).ex (ex_put r2 e)) (reph_put r2 e (r.set j (rx.ex ex)))
end
end
section
open PySem PySem.Spec PyProof.Rows L2
def wipeE (env : Env) : List Nat → Env
  | [] => env
  | v :: vs => (wipeE env vs).set v none
def compW (keep : Sto → Prop) (g : WG) (t e : WE) (env : Env) : List PV → List PV → Sto → (List PV → Sto → Prop) → Prop
  | [], acc, L, R => keep L ∧ R acc L
  | x :: r, acc, L, R => keep L ∧ g x env L fun env' La => t env' La fun b Lb => bIf b (e env' Lb fun y Lc => acc.length < sizeLine ∧ compW keep g t e env r (acc ++ [y]) Lc R) (compW keep g t e env r acc Lb R)
def wComp (own : List Nat) (it : WI) (g : WG) (t e : WE) : WE := fun env L R => it env L fun c La => compW c.keep g t e (wipeE env own) c.items [] La fun acc Lb => newL Lb acc R
def gsN : List Nat → WGs
  | [] => gsNil
  | i :: is => gsCons (gN i) (gsN is)
/-- a comprehension's target: names of its own -/
def CtOk (K : PySem.W.Frag) (g : TG) (wg : WG) (vs : List Nat) : Prop := ∀ (v : V) (x : PV) (σ : L2.St) (env : Env) (H : Hp) (L : Sto) (R : Env → Sto → Prop) (Q : L2.St → Hp → Prop), RepV K H x v → RepS K H σ env → RepH K H L → wg x env L R →
  (∀ σ2 env2, R env2 L → RepS K H σ2 env2 → wipe σ2 vs = wipe σ vs → Q σ2 H) → g v σ H Q
def CtsOk (K : PySem.W.Frag) (g : TGs) (wg : WGs) (vs : List Nat) : Prop := ∀ (v : List V) (x : List PV) (σ : L2.St) (env : Env) (H : Hp) (L : Sto) (R : Env → Sto → Prop) (Q : L2.St → Hp → Prop), RepVs K H x v → RepS K H σ env → RepH K H L → wg x env L R →
  (∀ σ2 env2, R env2 L → RepS K H σ2 env2 → wipe σ2 vs = wipe σ vs → Q σ2 H) → g v σ H Q
section
variable {X : Cx} {K : PySem.W.Frag} {H H' : Hp} {σ : L2.St} {env : Env} {L : Sto}
theorem wipe_set {σ : L2.St} {i : Nat} {v : Option V} : ∀ {vs : List Nat}, i ∈ vs → wipe (σ.set i v) vs = wipe σ vs
  | a :: vs, h => by
    show (wipe (σ.set i v) vs).set a none = (wipe σ vs).set a none
    by_cases hi : i ∈ vs
    · rw [wipe_set hi]
    · have e : i = a := by
        rcases List.mem_cons.mp h with h | h
        · exact h
        · exact absurd h hi
      subst e
      have com : ∀ (vs : List Nat) (σ : L2.St), i ∉ vs → wipe (σ.set i v) vs = (wipe σ vs).set i v := by
        intro vs
        induction vs with
        | nil => intro σ _; rfl
        | cons b vs ih =>
          intro σ hb
          rw [List.mem_cons, not_or] at hb
          show (wipe (σ.set i v) vs).set b none = ((wipe σ vs).set b none).set i v
          rw [ih σ hb.2, List.set_comm _ _ hb.1]
      rw [com vs σ hi, List.set_set]
theorem wipe_get (σ : L2.St) (i : Nat) : ∀ vs : List Nat, (wipe σ vs)[i]? = if i ∈ vs then (if i < σ.length then some none else none) else σ[i]?
  | [] => by rw [if_neg (by simp)]; rfl
  | v :: vs => by
    show ((wipe σ vs).set v none)[i]? = _
    by_cases h : v = i
    · subst h
      rw [if_pos List.mem_cons_self]
      by_cases hl : v < σ.length
      · rw [List.getElem?_set_self (by rw [wipe_length]; exact hl), if_pos hl]
      · rw [List.getElem?_eq_none (by rw [List.length_set, wipe_length]; omega), if_neg hl]
    · rw [List.getElem?_set_ne h, wipe_get σ i vs]
      have e : (i ∈ v :: vs) = (i ∈ vs) := by
        rw [List.mem_cons]
        exact propext ⟨fun q => q.elim (fun z => absurd z.symm h) id, .inr⟩
      simp only [e]
theorem wipe_idem (σ : L2.St) (vs : List Nat) : wipe (wipe σ vs) vs = wipe σ vs := by
  refine List.ext_getElem? fun i => ?_
  rw [wipe_get (wipe σ vs) i vs, wipe_get σ i vs, wipe_length]
  split <;> rfl
theorem wipe_lenE (env : Env) : ∀ vs : List Nat, (wipeE env vs).length = env.length
  | [] => rfl
  | v :: vs => by unfold wipeE; rw [List.length_set, wipe_lenE env vs]
theorem RepS.wipe (h : RepS K H σ env) : ∀ vs : List Nat, RepS K H (L2.wipe σ vs) (wipeE env vs)
  | [] => h
  | v :: vs => by
    have ih := RepS.wipe h vs
    refine ⟨by rw [wipe_length, wipe_lenE]; exact h.1, fun i x e => ?_⟩
    unfold wipeE at e
    unfold L2.wipe
    by_cases hi : v = i
    · subst hi
      by_cases hl : v < (wipeE env vs).length
      · rw [List.getElem?_set_self hl] at e; cases e
      · rw [List.getElem?_eq_none (by rw [List.length_set]; omega)] at e; cases e
    · rw [List.getElem?_set_ne hi] at e
      obtain ⟨w, h1, h2⟩ := ih.2 i x e
      exact ⟨w, by rw [List.getElem?_set_ne hi]; exact h1, h2⟩
theorem ct_one {i : Nat} {vs : List Nat} (hi : i ∈ vs) : CtOk K (gName i) (gN i) vs := fun v x σ env H L R Q rx hs hL hw k => k _ _ hw (hs.set i rx) (wipe_set hi)
theorem cts_nil {vs : List Nat} : CtsOk K gNil gsNil vs := fun v x σ env H L R Q rx hs hL hw k => by
  match x, hw with
  | [], hw =>
    cases (show _ = _ from rx)
    exact ⟨rfl, k _ _ hw hs rfl⟩
theorem cts_cons {i : Nat} {vs : List Nat} {g : TGs} {wg : WGs} (hi : i ∈ vs) (h : CtsOk K g wg vs) : CtsOk K (gCons (gName i) g) (gsCons (gN i) wg) vs := fun v x σ env H L R Q rx hs hL hw k => by
  match x, hw with
  | x :: r, hw =>
    obtain ⟨w, ws, rfl, rw', rr⟩ := rx
    refine ⟨w, ws, rfl, ?_⟩
    exact h ws r _ _ H L R Q rr (hs.set i rw') hL hw fun σ2 env2 h1 h2 h3 => k σ2 env2 h1 h2 (h3.trans (wipe_set hi))
theorem ct_many {is vs : List Nat} {n : Nat} {g : TGs} (hn : n = is.length) (h : CtsOk K g (gsN is) vs) : CtOk K (gTU K n g) (gT is.length (gsN is)) vs := fun v x σ env H L R Q rx hs hL hw k => by
  match x, hw with
  | .tup xs, hw =>
    obtain ⟨a, ws, rfl, t, r⟩ := rx
    exact .inl ⟨a, ws, rfl, t.sq, by rw [← r.length, hn]; exact hw.1, h ws xs σ env H L R Q r hs hL hw.2 k⟩
  | .ref a, hw =>
    cases (show _ = _ from rx)
    obtain ⟨xs, e, h1, h2⟩ := hw
    obtain ⟨ws, h3, r⟩ := hL.lst e
    exact .inr ⟨a, ws, rfl, .of h3, by rw [← r.length, hn]; exact h1, h ws xs σ env H L R Q r hs hL h2 k⟩
theorem compW_keep {keep : Sto → Prop} {g : WG} {t e : WE} {env : Env} {xs acc : List PV} {L : Sto} {R : List PV → Sto → Prop} (h : compW keep g t e env xs acc L R) : keep L := by
  cases xs with
  | nil => exact h.1
  | cons x r => exact h.1
theorem lift_comp {own : List Nat} {wi : WI} {g : TG} {wg : WG} {tt : TT} {wt we : WE} {σ : L2.St} {H : Hp} {Q : VK} (hg : CtOk K g wg own) (ht : ∀ σ H Q, liftT K wt σ H Q → tt σ H Q) (h : liftE K (wComp own wi wg wt we) σ H Q) :
    tLc (liftI K wi) g tt (liftE K we) own σ H Q := by
  obtain ⟨env, L, R, hs, hL, hw, k⟩ := h
  refine ⟨env, L, _, hs, hL, hw, fun c La H1 J hb f1 r1 wk => ?_⟩
  intro D hD
  have LaD := r1.fresh hD
  refine ⟨fun i m H2 => m = c.items.length - i ∧ i ≤ c.items.length ∧ ∃ Lx acc vs, RepH K H2 Lx ∧ Fm H1 La H2 Lx ∧ H2 D = some (.lst vs) ∧ Lx D = none ∧ RepVs K H2 acc vs ∧
      compW c.keep wg wt we (wipeE env own) (c.items.drop i) acc Lx fun acc Lb => newL Lb acc R, ⟨c.items.length, (Nat.sub_zero _).symm, Nat.zero_le _, La, [], [], ?_, ?_, upd_same, LaD, rfl, hb⟩, ?_⟩
  · exact fun a o e => (r1 a o e).ex (ex_new hD) fun u q => by rw [upd_ne (ne_of_none q hD)]; exact q
  · exact fun a o e n => ⟨by rw [upd_ne (ne_of_none e hD)]; exact e, n⟩
  rintro i m H2 ⟨rfl, hi, Lx, acc, vs, r2, f2, hD2, LD2, rv, hc⟩
  have q := wk i H2 Lx f2 r2 (compW_keep hc)
  by_cases hlt : i < c.items.length
  · refine .inr ⟨(q.1 hlt).1, fun H3 => i + 1 ≤ c.items.length ∧ ∃ Lx acc vs, RepH K H3 Lx ∧ Fm H1 La H3 Lx ∧ H3 D = some (.lst vs) ∧ Lx D = none ∧ RepVs K H3 acc vs ∧
      compW c.keep wg wt we (wipeE env own) (c.items.drop (i + 1)) acc Lx fun acc Lb => newL Lb acc R, fun H' hN => ⟨c.items.length - (i + 1), by omega, rfl, hN.1, hN.2⟩, fun v H' hy => ?_⟩
    obtain ⟨x, hx, rx, f3, r3⟩ := (q.1 hlt).2 v H' hy
    have hdrop : c.items.drop i = x :: c.items.drop (i + 1) := by
      rw [List.drop_eq_getElem_cons hlt]
      rw [List.getElem?_eq_getElem hlt] at hx
      rw [Option.some.inj hx]
    rw [hdrop] at hc
    obtain ⟨_, hc⟩ := hc
    have e3 := f3.ex r2
    have ex13 := (f1.ex hL).trans ((f2.ex r1).trans e3)
    obtain ⟨hD3, LD3⟩ := f3 D _ hD2 LD2
    refine hg v x _ (wipeE env own) H' Lx _ _ rx ((hs.ex ex13).wipe own) r3 hc fun σ2 env2 hc2 hs2 hw2 => ⟨by rw [hw2, wipe_idem], ?_⟩
    refine ht _ _ _ ⟨env2, Lx, _, hs2, r3, hc2, fun b Lb H4 hb4 f4 r4 => ?_⟩
    obtain ⟨b, rfl, hb6⟩ := bIf_bl hb4
    clear hb4
    have hb4 := hb6
    refine ⟨b, rfl, ?_⟩
    obtain ⟨hD4, LD4⟩ := f4 D _ hD3 LD3
    have e4 := f4.ex r3
    cases b with
    | false =>
      rw [if_neg Bool.false_ne_true] at hb4 ⊢
      exact ⟨hlt, Lb, acc, vs, r4, f2.trans (f3.trans f4), hD4, LD4, (rv.ex e3).ex e4, hb4⟩
    | true =>
      rw [if_pos rfl] at hb4 ⊢
      refine ⟨env2, Lb, _, hs2.ex e4, r4, hb4, fun y Lc w H5 hb5 f5 ry r5 => ?_⟩
      obtain ⟨hD5, LD5⟩ := f5 D _ hD4 LD4
      have e5 := f5.ex r4
      have rv5 := ((rv.ex e3).ex e4).ex e5
      have exD : Ex H5 (upd H5 D (.lst (vs ++ [w]))) :=
        ⟨fun a xs q => by rw [upd_ne (fun z => by rw [z, hD5] at q; cases q)]; exact q, fun a o xs q => by rw [upd_ne (fun z => by rw [z, hD5] at q; cases q)]; exact q⟩
      refine ⟨vs, hD5, by rw [← rv.length]; exact hb5.1, hlt, Lc, acc ++ [y], vs ++ [w], ?_, ?_, upd_same, LD5, (rv5.append (show RepVs K H5 [y] [w] from ⟨w, [], rfl, ry, rfl⟩)).ex exD, hb5.2⟩
      · intro a o e
        have ne : a ≠ D := fun z => by rw [z, LD5] at e; cases e
        exact (r5 a o e).ex exD fun u q => by rw [upd_ne ne]; exact q
      · intro a o e n
        have ne : a ≠ D := ne_of_none e hD
        obtain ⟨e1, n1⟩ := (f2.trans (f3.trans (f4.trans f5))) a o e n
        exact ⟨by rw [upd_ne ne]; exact e1, n1⟩
  · have ei : i = c.items.length := by omega
    refine .inl ⟨q.2 ei, ?_⟩
    rw [ei, List.drop_length] at hc
    obtain ⟨_, hc⟩ := hc
    -- the list enters the store
    have exS : Ex H2 H2 := .refl
    refine k _ _ _ _ (hc D LD2) ?_ rfl ?_
    · intro a o e n
      obtain ⟨e1, n1⟩ := f1 a o e n
      obtain ⟨e2, n2⟩ := f2 a o e1 n1
      have ne : a ≠ D := ne_of_none e1 hD
      exact ⟨e2, by rw [put_ne ne]; exact n2⟩
    · intro a o e
      by_cases ne : a = D
      · subst ne
        rw [put_same] at e
        cases e
        exact ⟨vs, hD2, rv⟩
      · rw [put_ne ne] at e
        exact r2 a o e
end
structure Nd where
  nx : Env → Sto → Prop
  rt : PK
  bk : Env → Sto → Prop := fun _ _ => False
  ct : Env → Sto → Prop := fun _ _ => False
abbrev WS := Env → Sto → Nd → Prop
structure NdK (K : PySem.W.Frag) (H : Hp) (L : Sto) (N : Nd) (D : Ends) : Prop where
  nx : ∀ env' L' σ' H', N.nx env' L' → Fm H L H' L' → RepS K H' σ' env' → RepH K H' L' → D.nx σ' H'
  rt : Kt K H L N.rt D.rt
  bk : ∀ env' L' σ' H', N.bk env' L' → Fm H L H' L' → RepS K H' σ' env' → RepH K H' L' → D.bk σ' H'
  ct : ∀ env' L' σ' H', N.ct env' L' → Fm H L H' L' → RepS K H' σ' env' → RepH K H' L' → D.ct σ' H'
theorem NdK.fm {K : PySem.W.Frag} {H H1 : Hp} {L La : Sto} {N : Nd} {D : Ends} (k : NdK K H L N D) (f : Fm H L H1 La) : NdK K H1 La N D :=
  ⟨fun a b c d h f' => k.nx a b c d h (f.trans f'), k.rt.fm f, fun a b c d h f' => k.bk a b c d h (f.trans f'), fun a b c d h f' => k.ct a b c d h (f.trans f')⟩
def liftS (K : PySem.W.Frag) (w : WS) : TS := fun D σ H => ∃ env L N, RepS K H σ env ∧ RepH K H L ∧ w env L N ∧ NdK K H L N D
def sNil : WS := fun env L N => N.nx env L
def sSeq (s t : WS) : WS := fun env L N => s env L { N with nx := fun e l => t e l N }
def sExpr (e : WE) : WS := fun env L N => e env L fun _ La => N.nx env La
def sRet (e : WE) : WS := fun env L N => e env L N.rt
def sRetN : WS := fun _ L N => N.rt .non L
def sAsg (g : WG) (e : WE) : WS := fun env L N => e env L fun x La => g x env La N.nx
def sIf (c : WE) (a b : WS) : WS := fun env L N => c env L fun x La => bIf x (a env La N) (b env La N)
def sBrk : WS := fun env L N => N.bk env L
def sCnt : WS := fun env L N => N.ct env L
def sPar (is : List Nat) (ws : List WE) : WS := fun env L N => wAr ws env L fun xs La => N.nx ((is.zip xs).foldl (fun e p => e.set p.1 (some p.2)) env) La
def sAug (i : Nat) (f : Op2) (e : WE) : WS := fun env L N => match gv env i with
  | some x => e env L fun y La => f x y La fun z Lb => N.nx (env.set i (some z)) Lb
  | none => False
def loopW (keep : Sto → Prop) (g : WG) (b : WS) : List PV → Env → Sto → Nd → Prop
  | [], env, L, N => keep L ∧ N.nx env L
  | x :: r, env, L, N => keep L ∧ g x env L fun env' La => b env' La { nx := fun e l => loopW keep g b r e l N, rt := N.rt, bk := N.nx, ct := fun e l => loopW keep g b r e l N }
def sFor (it : WI) (g : WG) (b : WS) : WS := fun env L N => it env L fun c La => loopW c.keep g b c.items env La N
def sWhile (c : WE) (b : WS) : WS := fun env L N => ∃ W : Nat → Env → Sto → Prop, (∃ m, W m env L) ∧ ∀ m env L, W m env L → c env L fun x La => bIf x (b env La { nx := fun e l => ∃ m', m' < m ∧ W m' e l, rt := N.rt, bk := N.nx, ct := fun e l => ∃ m', m' < m ∧ W m' e l }) (N.nx env La)
section
variable {X : Cx} {K : PySem.W.Frag} {pos p : Pos} {a b c e tg iter : Expr} {st : Stmt} {rest ss : List Stmt} {wa wb wc we : WE} {ws wt : WS} {g : WG}
theorem s_nil : PSs X [] (liftS X.K sNil) := pss_nil.weak fun D σ H h => by
  obtain ⟨env, L, N, hs, hL, hw, k⟩ := h
  exact k.nx env L σ H hw .refl hs hL
/-- a statement that is never reached -/
def sNever : WS := fun _ _ _ => False
theorem s_never {st : Stmt} : PS X st (liftS X.K sNever) := ⟨fun pins s σ H D I h => by
  obtain ⟨env, L, N, _, _, hw, _⟩ := h
  exact hw.elim⟩
theorem s_pass : PS X (.Pass pos) (liftS X.K sNil) := ps_pass.weak fun D σ H h => by
  obtain ⟨env, L, N, hs, hL, hw, k⟩ := h
  exact k.nx env L σ H hw .refl hs hL
theorem s_brk : PS X (.Break pos) (liftS X.K sBrk) := ps_break.weak fun D σ H h => by
  obtain ⟨env, L, N, hs, hL, hw, k⟩ := h
  exact k.bk env L σ H hw .refl hs hL
theorem s_cnt : PS X (.Continue pos) (liftS X.K sCnt) := ps_continue.weak fun D σ H h => by
  obtain ⟨env, L, N, hs, hL, hw, k⟩ := h
  exact k.ct env L σ H hw .refl hs hL
theorem s_cons (h1 : PS X st (liftS X.K ws)) (h2 : PSs X rest (liftS X.K wt)) : PSs X (st :: rest) (liftS X.K (sSeq ws wt)) := (pss_cons h1 h2).weak fun D σ H h => by
  obtain ⟨env, L, N, hs, hL, hw, k⟩ := h
  exact ⟨env, L, _, hs, hL, hw, ⟨fun env' L' σ' H' h f hs' r' => ⟨env', L', N, hs', r', h, k.fm f⟩, k.rt, k.bk, k.ct⟩⟩
theorem s_one (h1 : PS X st (liftS X.K ws)) : PSs X [st] (liftS X.K ws) := pss_one h1
theorem s_expr (he : PE X e (liftE X.K we)) (hs : swapsWith e none pos.line X.env = pure false) : PS X (.Expr e pos) (liftS X.K (sExpr we)) := (ps_expr he hs).weak fun D σ H h => by
  obtain ⟨env, L, N, hs, hL, hw, k⟩ := h
  exact ⟨env, L, _, hs, hL, hw, fun x La v H1 hb f1 rx r1 => k.nx env La σ H1 hb f1 (hs.ex (f1.ex hL)) r1⟩
theorem s_ret (he : PE X e (liftE X.K we)) : PS X (.Return (some e) pos) (liftS X.K (sRet we)) := (ps_ret he).weak fun D σ H h => by
  obtain ⟨env, L, N, hs, hL, hw, k⟩ := h
  exact ⟨env, L, _, hs, hL, hw, k.rt⟩
theorem s_retN : PS X (.Return none pos) (liftS X.K sRetN) := ps_retN.weak fun D σ H h => by
  obtain ⟨env, L, N, hs, hL, hw, k⟩ := h
  exact k.rt.here hL hw rfl
theorem s_asg (he : PE X e (liftE X.K we)) (hg : PG X tg (liftG X.K g)) (hs : swapsWithSole [tg] e pos.line X.env = pure false) (hw : swappedStores [tg] e X.env = pure none) (h1 : (assignEach [tg] X.env).map (·.2) = [assign tg X.env]) :
    PS X (.Assign [tg] e pos) (liftS X.K (sAsg g we)) := (ps_asg he hg hs hw h1).weak fun D σ H h => by
  obtain ⟨env, L, N, hs, hL, hw, k⟩ := h
  refine ⟨env, L, _, hs, hL, hw, fun x La v H1 hb f1 rx r1 => ?_⟩
  exact ⟨x, env, La, N.nx, rx, hs.ex (f1.ex hL), r1, hb, fun env' L' σ' H' h f hs' r' => k.nx env' L' σ' H' h (f1.trans f) hs' r'⟩
theorem s_if {aa bb : List Stmt} (hc : PT X c (liftT X.K wc)) (ha : PSs X aa (liftS X.K ws)) (hb : PSs X bb (liftS X.K wt)) : PS X (.If c aa bb pos) (liftS X.K (sIf wc ws wt)) := (ps_if hc ha hb).weak fun D σ H h => by
  obtain ⟨env, L, N, hs, hL, hw, k⟩ := h
  refine ⟨env, L, _, hs, hL, hw, fun x La H1 hb f1 r1 => ?_⟩
  obtain ⟨c, rfl, hc⟩ := bIf_bl hb
  refine ⟨c, rfl, ?_⟩
  cases c with
  | true => exact ⟨env, La, N, hs.ex (f1.ex hL), r1, hc, k.fm f1⟩
  | false => exact ⟨env, La, N, hs.ex (f1.ex hL), r1, hc, k.fm f1⟩
theorem s_aug {i : Nat} {x : Str} {op : Operator} {r : TIp} {f : Op2} (hN : X.N.Nodup) (hi : X.N[i]? = some x) (hx : Loc X.env.scope x) (hf : X.fn x = true ∨ X.env.scope.names.lookup x = some .local) (ho : PIp X op r) (hr : OpS X.K f r) (he : PE X e (liftE X.K we)) :
    PS X (.AugAssign (.Name x p) op e pos) (liftS X.K (sAug i f we)) := (ps_aug hN hi hx he ho hf).weak fun D σ H h => by
  obtain ⟨env, L, N, hs, hL, hw, k⟩ := h
  unfold sAug at hw
  cases e0 : gv env i with
  | none => rw [e0] at hw; exact hw.elim
  | some x0 =>
    rw [e0] at hw
    obtain ⟨v, e1, r1⟩ := hs.2 i x0 (gv_some e0)
    refine ⟨v, e1, env, L, _, hs, hL, hw, fun y La u H1 hb f1 ry r2 => ?_⟩
    refine hr x0 y v u H1 La _ _ (r1.ex (f1.ex hL)) ry r2 hb fun z Lb w H2 hz f2 rz r3 => ?_
    exact k.nx _ Lb _ H2 hz (f1.trans f2) (((hs.ex (f1.ex hL)).ex (f2.ex r2)).set i rz) r3
def oAddI : Op2 := fun x y L R => match x, y with
  | .int i, .int j => R (.int (i + j)) L
  | _, _ => False
theorem ip_addI : OpS K oAddI (ipI fun i j => i + j) := by
  intro x y v u H L R Q rx ry rh h k
  cases x <;> cases y <;> first | exact absurd h (fun z => z) | skip
  cases (show _ = _ from rx); cases (show _ = _ from ry)
  exact ⟨_, _, rfl, rfl, k.here rh h rfl⟩
theorem s_while {body : List Stmt} (hp : PassesOwn (model X.prog X.w) X.A X.env X.xe) (hc : PT X c (liftT X.K wc)) (hb : PSs X body (liftS X.K ws)) : PS X (.While c body [] pos) (liftS X.K (sWhile wc ws)) := (ps_while hp hc hb).weak fun D σ H h => by
  obtain ⟨env, L, N, hs, hL, ⟨W, ⟨m0, w0⟩, turn⟩, k⟩ := h
  refine ⟨fun m σ' H' => ∃ env' L', W m env' L' ∧ RepS X.K H' σ' env' ∧ RepH X.K H' L' ∧ Fm H L H' L', ⟨m0, env, L, w0, hs, hL, .refl⟩, ?_⟩
  rintro m σ1 H1 ⟨env1, La, w1, hs1, r1, f1⟩
  refine ⟨env1, La, _, hs1, r1, turn m env1 La w1, fun x Lb H2 hb f2 r2 => ?_⟩
  obtain ⟨c, rfl, hc⟩ := bIf_bl hb
  refine ⟨c, rfl, ?_⟩
  cases c with
  | true =>
    rw [if_pos rfl] at hc ⊢
    refine ⟨fun σ' H' => ∃ m', m' < m ∧ ∃ env' L', W m' env' L' ∧ RepS X.K H' σ' env' ∧ RepH X.K H' L' ∧ Fm H L H' L', fun σ' H' q => q, env1, Lb, _, hs1.ex (f2.ex r1), r2, hc, ?_⟩
    exact ⟨fun env' L' σ' H' ⟨m', hm, hw⟩ f hs' r' => ⟨m', hm, env', L', hw, hs', r', f1.trans (f2.trans f)⟩, k.rt.fm (f1.trans f2), fun env' L' σ' H' h f hs' r' => k.nx env' L' σ' H' h (f1.trans (f2.trans f)) hs' r',
      fun env' L' σ' H' ⟨m', hm, hw⟩ f hs' r' => ⟨m', hm, env', L', hw, hs', r', f1.trans (f2.trans f)⟩⟩
  | false =>
    rw [if_neg Bool.false_ne_true] at hc ⊢
    exact k.nx env1 Lb σ1 H2 hc (f1.trans f2) (hs1.ex (f2.ex r1)) r2
theorem loopW_keep {keep : Sto → Prop} {xs : List PV} {env : Env} {L : Sto} {N : Nd} (h : loopW keep g ws xs env L N) : keep L := by
  cases xs with
  | nil => exact h.1
  | cons x r => exact h.1
theorem s_for {body : List Stmt} {wi : WI} (hp : PassesOwn (model X.prog X.w) X.A X.env X.xe) (hc : X.calm = true) (hi : PI X tg iter (liftI X.K wi)) (hg : PG X tg (liftG X.K g)) (hb : PSs X body (liftS X.K ws))
    (hfs : ∀ x, foldedSetIterable iter X.env x = pure x) : PS X (.For tg iter body [] pos) (liftS X.K (sFor wi g ws)) := (ps_for hp hc hi hg hb hfs).weak fun D σ H h => by
  obtain ⟨env, L, N, hs, hL, hw, k⟩ := h
  refine ⟨env, L, _, hs, hL, hw, fun c La H1 J hb f1 r1 wk => ?_⟩
  refine ⟨fun i m σ2 H2 => m = c.items.length - i ∧ i ≤ c.items.length ∧ ∃ env2 Lx, RepS X.K H2 σ2 env2 ∧ RepH X.K H2 Lx ∧ Fm H1 La H2 Lx ∧ loopW c.keep g ws (c.items.drop i) env2 Lx N,
    ⟨c.items.length, (Nat.sub_zero _).symm, Nat.zero_le _, env, La, hs.ex (f1.ex hL), r1, .refl, hb⟩, ?_⟩
  rintro i m σ2 H2 ⟨rfl, hi, env2, Lx, hs2, r2, f2, hc⟩
  have q := wk i H2 Lx f2 r2 (loopW_keep hc)
  by_cases hlt : i < c.items.length
  · refine .inr ⟨(q.1 hlt).1, fun σ3 H3 => i + 1 ≤ c.items.length ∧ ∃ env2 Lx, RepS X.K H3 σ3 env2 ∧ RepH X.K H3 Lx ∧ Fm H1 La H3 Lx ∧ loopW c.keep g ws (c.items.drop (i + 1)) env2 Lx N,
      fun σ' H' hN => ⟨c.items.length - (i + 1), by omega, rfl, hN.1, hN.2⟩, fun v H' hy => ?_⟩
    obtain ⟨x, hx, rx, f3, r3⟩ := (q.1 hlt).2 v H' hy
    have hdrop : c.items.drop i = x :: c.items.drop (i + 1) := by
      rw [List.drop_eq_getElem_cons hlt]
      rw [List.getElem?_eq_getElem hlt] at hx
      rw [Option.some.inj hx]
    rw [hdrop] at hc
    obtain ⟨_, hc⟩ := hc
    refine ⟨x, env2, Lx, _, rx, hs2.ex (f3.ex r2), r3, hc, fun env3 Ly σ3 H3 hc3 f4 hs3 r4 => ?_⟩
    refine ⟨env3, Ly, _, hs3, r4, hc3, ?_⟩
    have ff := f2.trans (f3.trans f4)
    have kk := k.fm (f1.trans ff)
    exact ⟨fun env' L' σ' H' h f hs' r' => ⟨hlt, env', L', hs', r', ff.trans f, h⟩, kk.rt, kk.nx, fun env' L' σ' H' h f hs' r' => ⟨hlt, env', L', hs', r', ff.trans f, h⟩⟩
  · have ei : i = c.items.length := by omega
    refine .inl ⟨q.2 ei, ?_⟩
    rw [ei, List.drop_length] at hc
    exact k.nx env2 Lx σ2 H2 hc.2 (f1.trans f2) hs2 r2
end
end
section
open PySem PySem.Spec PyProof.Rows L2
def kP : Key → PV
  | .inl i => .int i
  | .inr x => .str x
def wPairs : List (Key × WE) → Env → Sto → (List (Key × PV) → Sto → Prop) → Prop
  | [], _, L, R => R [] L
  | (k, w) :: r, env, L, R => w env L fun x La => wPairs r env La fun ps Lb => R ((k, x) :: ps) Lb
def wDisp (ps : List (Key × WE)) : WE := fun env L R => ∀ p, L p = none → wPairs ps env (put L p (.d [])) fun kvs L2 => L2 p = some (.d []) ∧ R (.ref p) (put L2 p (.d kvs))
section
variable {K : PySem.W.Frag}
theorem kP_V {H : Hp} {k : Key} {v : V} (h : RepV K H (kP k) v) : v = kV k := by cases k <;> exact h
theorem lift_pairs : ∀ (ps : List (Key × WE)) {σ : L2.St} {H : Hp} {env : Env} {L : Sto} {R : List (Key × PV) → Sto → Prop} {Q : List (V × V) → Hp → Prop}, RepS K H σ env → RepH K H L → wPairs ps env L R →
    (∀ kvs L' ks H', R kvs L' → Fm H L H' L' → RepKs K H' kvs ks → ks.map (·.1) = ps.map (·.1) → RepH K H' L' → Q (ks.map fun kv => (kV kv.1, kv.2)) H') → tPairs (ps.map fun p => (liftE K (wC (kP p.1)), liftE K p.2)) σ H Q
  | [], σ, H, env, L, R, Q, hs, hL, hw, k => k [] L [] H hw .refl rfl rfl hL
  | (key, w) :: r, σ, H, env, L, R, Q, hs, hL, hw, k => by
    show liftE K (wC (kP key)) σ H fun x H1 => liftE K w σ H1 fun y H2 => tPairs (r.map fun p => (liftE K (wC (kP p.1)), liftE K p.2)) σ H2 fun ps H3 => Q ((x, y) :: ps) H3
    refine ⟨env, L, fun x L' => x = kP key ∧ L' = L, hs, hL, ⟨rfl, rfl⟩, ?_⟩
    rintro x L' v H1 ⟨rfl, rfl⟩ f1 rv r1
    obtain rfl := kP_V rv
    refine ⟨env, L', _, hs.ex (f1.ex hL), r1, hw, fun y La vy H2 hb f2 ry r2 => ?_⟩
    refine lift_pairs r ((hs.ex (f1.ex hL)).ex (f2.ex r1)) r2 hb fun kvs Lb ks H3 hR f3 rk hk r3 => ?_
    exact k ((key, y) :: kvs) Lb ((key, vy) :: ks) H3 hR (f1.trans (f2.trans f3)) ⟨vy, ks, rfl, ry.ex (f3.ex r2), rk⟩ (by rw [List.map_cons, hk]; rfl) r3
theorem merge_app : ∀ (ks acc : List (Key × V)), (∀ k ∈ acc.map (·.1), k ∉ ks.map (·.1)) → (ks.map (·.1)).Nodup → mergeK acc ks = acc ++ ks
  | [], acc, _, _ => (List.append_nil acc).symm
  | (k, v) :: r, acc, h, hn => by
    rw [List.map_cons, List.nodup_cons] at hn
    have h1 : (acc.any fun kv => decide (kv.1 = k)) = false := by
      rw [List.any_eq_false]
      intro kv hkv
      have := h kv.1 (List.mem_map_of_mem hkv)
      rw [List.map_cons, List.mem_cons, not_or] at this
      simpa using this.1
    have h2 : putK acc k v = acc ++ [(k, v)] := by
      unfold putK
      rw [h1, if_neg Bool.false_ne_true]
    show mergeK (putK acc k v) r = _
    rw [h2, merge_app r (acc ++ [(k, v)]) ?_ hn.2, List.append_assoc]
    · rfl
    · intro k' hk' hm
      rw [List.map_append, List.mem_append] at hk'
      rcases hk' with hk' | hk'
      · exact h k' hk' (by rw [List.map_cons]; exact List.mem_cons_of_mem _ hm)
      · rw [List.map_singleton, List.mem_singleton] at hk'
        rw [hk'] at hm
        exact hn.1 hm
theorem lift_disp {ps : List (Key × WE)} {σ : L2.St} {H : Hp} {Q : VK} (hn : (ps.map (·.1)).Nodup) (h15 : ps.length ≤ 15) (h : liftE K (wDisp ps) σ H Q) : tDisp (ps.map fun p => (liftE K (wC (kP p.1)), liftE K p.2)) σ H Q := by
  obtain ⟨env, L, R, hs, hL, hw, k⟩ := h
  intro p hp
  refine lift_pairs ps (hs.ex (ex_new hp)) (reph_newD (xs := []) hL hp (show ([] : List (Key × V)) = [] from rfl)) (hw p (hL.fresh hp)) ?_
  rintro kvs L' ks H' ⟨e, hR⟩ f rk hk r'
  obtain ⟨ks0, e0, r0⟩ := r'.dct e
  cases (show ks0 = [] from r0)
  refine ⟨e0, ks, rfl, ?_, ?_⟩
  · have := congrArg List.length hk
    rw [List.length_map, List.length_map] at this
    omega
  · rw [merge_app ks [] (by simp) (by rw [hk]; exact hn), List.nil_append]
    exact k (.ref p) _ (.ref p) _ hR (((fm_new hp).trans f).trans (fm_put e)) rfl (reph_putD r' e rk)
end
def keyC : Option Expr → Option Key
  | some (.Constant (.int i) _ _) => some (.inl i)
  | some (.Constant (.str x) _ _) => some (.inr x)
  | _ => none
section
variable {X : Cx} {pos : Pos}
theorem pps_of : ∀ {keys : List (Option Expr)} {values : List Expr} {ks : List Key} {ws : List WE}, keys.map keyC = ks.map some → ks.length = ws.length → Paired (fun v w => PE X v (liftE X.K w)) values ws → PPs X pos keys values ((ks.zip ws).map fun p => (liftE X.K (wC (kP p.1)), liftE X.K p.2))
  | [], _, [], [], _, _, .nil => pps_nil
  | k :: keys, _, key :: ks, w :: ws, h, hl, .cons hv hr => by
    rw [List.map_cons, List.map_cons] at h
    injection h with h1 h2
    have pk : ∃ e, k = some e ∧ PE X e (liftE X.K (wC (kP key))) := by
      unfold keyC at h1
      split at h1
      · cases h1; exact ⟨_, rfl, q_const pe_int fun _ => rfl⟩
      · cases h1; exact ⟨_, rfl, q_const pe_str fun _ => rfl⟩
      · cases h1
    obtain ⟨e, rfl, pe⟩ := pk
    exact pps_cons pe hv (pps_of h2 (by simpa using hl) hr)
  | [], _, key :: _, _, h, _, _ => by cases h
  | _ :: _, _, [], _, h, _, _ => by cases h
  | [], _, [], _ :: _, _, hl, _ => by cases hl
  | _ :: _, _, _ :: _, [], _, hl, _ => by cases hl
theorem q_disp {keys : List (Option Expr)} {values : List Expr} {ks : List Key} {ws : List WE} (hk : keys.map keyC = ks.map some) (hl : ks.length = ws.length) (hv : Paired (fun v w => PE X v (liftE X.K w)) values ws) (h0 : ks ≠ []) (h15 : ks.length ≤ 15) (hn : ks.Nodup) :
    PE X (.Dict keys values pos) (liftE X.K (wDisp (ks.zip ws))) := by
  have lk : keys.length = ks.length := by have := congrArg List.length hk; simpa using this
  have lz : (ks.zip ws).map (·.1) = ks := List.map_fst_zip (by omega)
  have hall : keys.all (·.isSome) = true := by
    rw [List.all_eq_true]
    intro k hm
    have : keyC k ∈ ks.map some := by rw [← hk]; exact List.mem_map_of_mem hm
    obtain ⟨key, _, e⟩ := List.mem_map.mp this
    cases k with
    | none => cases e
    | some _ => rfl
  have hn0 : keys ≠ [] := fun z => h0 (List.eq_nil_of_length_eq_zero (by rw [← lk, z]; rfl))
  refine (pe_disp (pps_of (pos := pos) hk hl hv) hall (by rw [lk, hl, ← hv.length]) hn0 (by omega)).weak fun σ H Q h => ?_
  exact lift_disp (by rw [lz]; exact hn) (by rw [List.length_zip]; omega) h
end
def keyP : PV → Option Key
  | .int i => some (.inl i)
  | .str x => some (.inr x)
  | _ => none
def dGet (kvs : List (Key × PV)) (k : Key) (d : PV) : PV := match kvs.find? fun kv => decide (kv.1 = k) with
  | some kv => kv.2
  | none => d
def mGet : MtF := fun x xs L R => match x, xs with
  | .ref a, [k] => (match L a, keyP k with
    | some (.d kvs), some key => R (dGet kvs key .non) L
    | _, _ => False)
  | .ref a, [k, d] => (match L a, keyP k with
    | some (.d kvs), some key => R (dGet kvs key d) L
    | _, _ => False)
  | _, _ => False
section
variable {X : Cx} {K : PySem.W.Frag} {H : Hp} {L : Sto}
theorem RepKs.none {k : Key} : ∀ {kvs : List (Key × PV)} {ks : List (Key × V)}, RepKs K H kvs ks → kvs.find? (fun kv => decide (kv.1 = k)) = none → valV ks k = none
  | [], _, h, _ => by cases (show _ = _ from h); rfl
  | (k', x) :: r, _, ⟨v, ks, h1, h2, h3⟩, e => by
    subst h1
    rw [List.find?_cons] at e
    unfold valV
    rw [List.find?_cons]
    by_cases q : k' = k
    · rw [show decide (k' = k) = true from decide_eq_true q] at e; cases e
    · rw [show decide (k' = k) = false from decide_eq_false q] at e ⊢
      exact RepKs.none h3 e
theorem dGet_ok {kvs : List (Key × PV)} {ks : List (Key × V)} {key : Key} {d : PV} {dv : V} (r : RepKs K H kvs ks) (rd : RepV K H d dv) : RepV K H (dGet kvs key d) ((valV ks key).getD dv) := by
  unfold dGet
  split
  · rename_i kv e
    obtain ⟨v, h1, h2⟩ := RepKs.find r e
    rw [h1]
    exact h2
  · rename_i e
    rw [RepKs.none r e]
    exact rd
theorem keyP_V {y : PV} {u : V} {key : Key} (h : keyP y = some key) (r : RepV K H y u) : u = kV key := by
  cases y <;> first | (cases h; exact r) | cases h
def rGet : V → List V → Hp → VK → Prop := fun x vs H Q => ∃ a, x = .ref a ∧ ((∃ y o, vs = [y] ∧ DGet H a y o ∧ Q (o.getD .non) H) ∨ ∃ y d o, vs = [y, d] ∧ DGet H a y o ∧ Q (o.getD d) H)
theorem mt_get (hu : X.A.units + 1 < cLine) : MtR X "dict.get" rGet := by
  intro pins s σ H x xs v us Q I rx rxs h
  obtain ⟨a, rfl, h⟩ := h
  cases (show v = Value.ref a from rx)
  rcases h with ⟨y, o, rfl, g, q⟩ | ⟨y, d, o, rfl, g, q⟩
  · obtain ⟨u, rfl, r⟩ := vals1 rxs
    exact d_get1 hu I g r fun w' s' I' rw' => ⟨_, H, I', rw', q⟩
  · obtain ⟨u, w, rfl, r, r'⟩ := vals2 rxs
    exact d_get2 hu I g r r' fun w' s' I' rw' => ⟨_, H, I', rw', q⟩
theorem s_get : MtS K mGet rGet := by
  intro x v xs vs H L R Q rx rxs rh h k
  unfold mGet at h
  split at h
  · cases (show _ = _ from rx)
    obtain ⟨u, rfl, ru⟩ := rxs.one
    split at h
    · rename_i kvs key e1 e2
      obtain ⟨ks, h1, r⟩ := rh.dct e1
      exact ⟨_, rfl, .inl ⟨u, valV ks key, rfl, .inl ⟨ks, key, .inl h1, keyP_V e2 ru, rfl⟩, k.here rh h (dGet_ok r (show RepV K H .non .non from rfl))⟩⟩
    · exact h.elim
  · cases (show _ = _ from rx)
    obtain ⟨u, w, rfl, ru, rw'⟩ := rxs.two
    split at h
    · rename_i kvs key e1 e2
      obtain ⟨ks, h1, r⟩ := rh.dct e1
      exact ⟨_, rfl, .inr ⟨u, w, valV ks key, rfl, .inl ⟨ks, key, .inl h1, keyP_V e2 ru, rfl⟩, k.here rh h (dGet_ok r rw')⟩⟩
    · exact h.elim
  · exact h.elim
theorem k_get (hu : X.A.units + 1 < cLine) : MtOk X "dict" "get" mGet := ⟨_, _, PySem.F.plainAttrs_dict, PySem.F.slot_dict_get, PySem.F.type_dict_get, mt_get hu, s_get⟩
def mIndex : MtF := fun x xs L R => match x, xs with
  | .ref a, [y] => ∃ d ds j z, PD L (.ref a) (.list ds) ∧ PD L y d ∧ SeqAt.shaped (.list ds) = true ∧ SeqAt.shaped d = true ∧ ds[j]? = some z ∧ PyData.eqv z d = true ∧ (∀ (m : Nat) (z' : PyData), m < j → ds[m]? = some z' → PyData.eqv z' d = false) ∧ R (.int (j : Nat)) L
  | _, _ => False
theorem s_index : MtS K mIndex (rIndexD K) := by
  intro x v xs vs H L R Q rx rxs rh h k
  unfold mIndex at h
  split at h
  · obtain ⟨u, rfl, ru⟩ := rxs.one
    obtain ⟨d, ds, j, z, h1, h2, h3, h4, h5, h6, h7, h8⟩ := h
    have hd := h1.dp rh rx
    cases (show _ = _ from rx)
    exact ⟨_, u, d, ds, j, z, rfl, rfl, hd, h2.dp rh ru, h3, h4, h5, h6, h7, k.here rh h8 rfl⟩
  · exact h.elim
theorem k_index (hu : X.A.units + 65 < cLine) : MtOk X "list" "index" mIndex := ⟨_, _, PySem.F.plainAttrs_list, PySem.F.slot_list_index, PySem.F.type_list_index, mt_indexD hu, s_index⟩
/-- list.count of data -/
def rCountD (K : PySem.W.Frag) : V → List V → Hp → VK → Prop := fun x xs H Q => ∃ (a : Addr) (y : V) (d : PyData) (ds : List PyData), x = V.ref a ∧ xs = [y] ∧ Dp K H (V.ref a) (.list ds) ∧ Dp K H y d ∧
  SeqAt.shaped (.list ds) = true ∧ SeqAt.shaped d = true ∧ Q (.int (ds.countP fun z => PyData.eqv z d : Nat)) H
theorem mt_countD (hu : X.A.units + 65 < cLine) : MtR X "list.count" (rCountD X.K) := by
  intro pins s σ H x xs v us Q I rx rxs h
  obtain ⟨a, y, d, ds, rfl, rfl, hl, hy, sl, sd, q⟩ := h
  cases rx
  obtain ⟨uy, rfl, ry⟩ := rxs.one
  obtain ⟨bs, r1⟩ := Dp.reads I d y uy hy ry
  have hxs : PyData.canLayAll0 ds = true := SeqAt.canLay_of_shaped sl
  have hroom : X.A.units + 1 + min (PyData.depthAll ds) d.depth < cLine := room_in_shaped sd hu
  cases hl with
  | lst hs ha =>
    obtain ⟨its, rv, ⟨⟨cls, dd, data, sls⟩, n, ho, hc, hdn, hdt⟩, hlen⟩ := I.list hs
    simp only at hc hdt
    subst hc hdt
    obtain ⟨as, h4⟩ := Dp.readsAll I ds _ its ha rv
    have hmap : its.map (SeqAt.readOf s.heap) = ds := SeqAt.readsAll_map ds its as hxs h4
    refine call_meets PySem.F.slot_list_count ⟨_, ho, rfl⟩ PySem.F.entry_list_count (PySem.F.args_list_count_2 _ _)
      (SeqAt.list_countAt a its.toArray n dd sls uy (fun u => PyData.eqv (SeqAt.readOf s.heap u) d)) ⟨ho, SeqAt.items_eqAt (vs := its.toArray) (show ReadsAll s.heap its.toArray.toList ds as from h4) r1 hxs (SeqAt.canLay_of_shaped sd) hroom, ?_⟩
    have ec : its.toArray.toList.countP (fun u => PyData.eqv (SeqAt.readOf s.heap u) d) = ds.countP fun z => PyData.eqv z d := by
      rw [← hmap, List.countP_map]
      rfl
    refine ⟨.int (ds.countP fun z => PyData.eqv z d : Nat), H, I.tok _, ⟨s.toks, ?_⟩, q⟩
    show Value.int ((its.toArray.toList.countP _ : Nat) : Int) s.toks = _
    rw [ec]
def mCountL : MtF := fun x xs L R => match x, xs with
  | .ref a, [y] => ∃ d ds, PD L (.ref a) (.list ds) ∧ PD L y d ∧ SeqAt.shaped (.list ds) = true ∧ SeqAt.shaped d = true ∧ R (.int (ds.countP fun z => PyData.eqv z d : Nat)) L
  | _, _ => False
theorem s_countL : MtS K mCountL (rCountD K) := by
  intro x v xs vs H L R Q rx rxs rh h k
  unfold mCountL at h
  split at h
  · obtain ⟨u, rfl, ru⟩ := rxs.one
    obtain ⟨d, ds, h1, h2, h3, h4, h8⟩ := h
    have hd := h1.dp rh rx
    cases (show _ = _ from rx)
    exact ⟨_, u, d, ds, rfl, rfl, hd, h2.dp rh ru, h3, h4, k.here rh h8 rfl⟩
  · exact h.elim
theorem k_countL (hu : X.A.units + 65 < cLine) : MtOk X "list" "count" mCountL := ⟨_, _, PySem.F.plainAttrs_list, PySem.F.slot_list_count, PySem.F.type_list_count, mt_countD hu, s_countL⟩
end
section
variable {X : Cx} {pos : Pos} {K : PySem.W.Frag} {H : Hp} {L : Sto}
theorem q_disp0 : PE X (.Dict [] [] pos) (liftE X.K (wDisp [])) := pe_dnewK.weak fun σ H Q h => by
  obtain ⟨env, L, R, hs, hL, hw, k⟩ := h
  intro p hp
  obtain ⟨_, hR⟩ := hw p (hL.fresh hp)
  have e : put (put L p (.d [])) p (.d []) = put L p (.d []) := by
    funext b
    by_cases z : b = p
    · rw [z, put_same, put_same]
    · rw [put_ne z]
  rw [e] at hR
  exact k (.ref p) _ (.ref p) _ hR (fm_new hp) rfl (reph_newD (xs := []) hL hp (show ([] : List (Key × V)) = [] from rfl))
/-- dict(xs), xs a list of pairs, no key twice -/
def gDict : BiF := fun xs L R => match xs with
  | [.ref a] => ∃ kvs : List (Key × PV), L a = some (.l (kvs.map fun kv => .tup [kP kv.1, kv.2])) ∧ (kvs.map (·.1)).Nodup ∧ ∀ p, L p = none → R (.ref p) (put L p (.d kvs))
  | _ => False
theorem rep_prs : ∀ {kvs : List (Key × PV)} {ws : List V}, RepVs K H (kvs.map fun kv => PV.tup [kP kv.1, kv.2]) ws →
    ∃ (ps : List Addr) (ks : List (Key × V)), ws = ps.map V.ref ∧ Paired (fun p kv => SqT K H p [kV kv.1, kv.2]) ps ks ∧ RepKs K H kvs ks ∧ ks.map (·.1) = kvs.map (·.1)
  | [], _, r => by
    cases (show _ = _ from r)
    exact ⟨[], [], rfl, .nil, rfl, rfl⟩
  | (key, x) :: r, _, ⟨v, vs, h1, h2, h3⟩ => by
    subst h1
    obtain ⟨ps, ks, rfl, h4, h5, h6⟩ := rep_prs h3
    obtain ⟨a, us, rfl, t, ru⟩ := h2
    obtain ⟨v1, r1, rfl, k1, k2⟩ := ru
    obtain ⟨v2, r2, rfl, k3, k4⟩ := k2
    cases (show _ = _ from k4)
    obtain rfl := kP_V k1
    exact ⟨a :: ps, (key, v2) :: ks, rfl, .cons t.sq h4, ⟨v2, ks, rfl, k3, h5⟩, by rw [List.map_cons, h6]; rfl⟩
theorem b_dict (hc : X.calm = true) : BiOk X (.type "dict") gDict := by
  refine ⟨_, call_dictP hc, ?_⟩
  intro xs vs H L R Q rx rh h k
  unfold gDict at h
  split at h
  · obtain ⟨v, rfl, rv⟩ := rx.one
    cases (show _ = _ from rv)
    obtain ⟨kvs, e, hn, hR⟩ := h
    obtain ⟨ws, h1, r⟩ := rh.lst e
    obtain ⟨ps, ks, rfl, h4, h5, h6⟩ := rep_prs r
    refine ⟨_, ps, ks, rfl, .inl (.inl h1), h4, fun p hp => ?_⟩
    rw [merge_app ks [] (by simp) (by rw [h6]; exact hn), List.nil_append]
    exact k (.ref p) _ (.ref p) _ (hR p (rh.fresh hp)) (fm_new hp) rfl (reph_newD rh hp h5)
  · exact h.elim
end
end
section
open PySem PySem.Spec PyProof.Rows L2
def mJoin : MtF := fun x xs L R => match x, xs with
  | .str a, [.ref p] => ∃ ys : List Str, L p = some (.l (ys.map PV.str)) ∧ (ys.map (·.length)).sum + ys.length * a.length ≤ 16777216 ∧ R (.str (Txt.join a ys)) L
  | _, _ => False
def mSplit : MtF := fun x xs L R => match x, xs with
  | .str a, [.str b] => (b.length == 0) = false ∧ a.length + 2 ≤ sizeLine ∧ newL L ((Txt.split a b).map PV.str) R
  | _, _ => False
def mPart : MtF := fun x xs L R => match x, xs with
  | .str a, [.str b] => (b.length == 0) = false ∧ a.length ≤ sizeLine ∧ R (.tup [.str (Txt.partition a b).1, .str (Txt.partition a b).2.1, .str (Txt.partition a b).2.2]) L
  | _, _ => False
def mStrip : MtF := fun x xs L R => match x, xs with
  | .str a, [.str b] => a.length ≤ sizeLine ∧ R (.str (Txt.stripChars a b)) L
  | _, _ => False
def mStarts : MtF := fun x xs L R => match x, xs with
  | .str a, [.str b] => R (.bl (Txt.startswith a b)) L
  | _, _ => False
def mCount : MtF := fun x xs L R => match x, xs with
  | .str a, [.str b] => R (.int (Txt.count a b)) L
  | _, _ => False
section
variable {X : Cx} {K : PySem.W.Frag} {H : Hp} {L : Sto}
theorem RepVs.ofStrs : ∀ {ns : List Str}, RepVs K H (ns.map PV.str) (ns.map V.str)
  | [] => rfl
  | n :: ns => ⟨.str n, _, rfl, rfl, RepVs.ofStrs⟩
theorem s_join : MtS K mJoin (fun x xs H Q => ∃ a p, ∃ ys : List Str, x = .str a ∧ xs = [.ref p] ∧ (SqL K H p (ys.map V.str) ∨ SqT K H p (ys.map V.str)) ∧
    (ys.map (·.length)).sum + ys.length * a.length ≤ 16777216 ∧ Q (.str (Txt.join a ys)) H) := by
  intro x v xs vs H L R Q rx rxs rh h k
  unfold mJoin at h
  split at h
  · obtain ⟨w, rfl, rw'⟩ := rxs.one
    cases (show _ = _ from rx)
    cases (show _ = _ from rw')
    obtain ⟨ys, e, h1, h2⟩ := h
    obtain ⟨ws, h3, r⟩ := rh.lst e
    have := r.strs
    subst this
    exact ⟨_, _, ys, rfl, rfl, .inl (.inl (.inl h3)), h1, k.here rh h2 rfl⟩
  · exact h.elim
theorem k_join : MtOk X "str" "join" mJoin := ⟨_, _, PySem.F.plainAttrs_str, PySem.F.slot_str_join, PySem.F.type_str_join, mt_join, s_join⟩
theorem s_split : MtS K mSplit (fun x xs H Q => ∃ a b, x = .str a ∧ xs = [.str b] ∧ (b.length == 0) = false ∧ a.length + 2 ≤ sizeLine ∧ rNewStrs (Txt.split a b) H Q) := by
  intro x v xs vs H L R Q rx rxs rh h k
  unfold mSplit at h
  split at h
  · obtain ⟨w, rfl, rw'⟩ := rxs.one
    cases (show _ = _ from rx)
    cases (show _ = _ from rw')
    obtain ⟨h1, h2, h3⟩ := h
    exact ⟨_, _, rfl, rfl, h1, h2, fun p hp => k.newl rh h3 RepVs.ofStrs p hp⟩
  · exact h.elim
theorem k_split : MtOk X "str" "split" mSplit := ⟨_, _, PySem.F.plainAttrs_str, PySem.F.slot_str_split, PySem.F.type_str_split, mt_split, s_split⟩
theorem s_part : MtS K mPart (fun x xs H Q => ∃ a b, x = .str a ∧ xs = [.str b] ∧ (b.length == 0) = false ∧ a.length ≤ sizeLine ∧
    ∀ p, H p = none → Q (.ref p) (upd H p (.tup [.str (Txt.partition a b).1, .str (Txt.partition a b).2.1, .str (Txt.partition a b).2.2]))) := by
  intro x v xs vs H L R Q rx rxs rh h k
  unfold mPart at h
  split at h
  · obtain ⟨w, rfl, rw'⟩ := rxs.one
    cases (show _ = _ from rx)
    cases (show _ = _ from rw')
    obtain ⟨h1, h2, h3⟩ := h
    exact ⟨_, _, rfl, rfl, h1, h2, fun p hp => k _ _ _ _ h3 (fm_tup rh hp) (repv_tup ⟨_, _, rfl, rfl, _, _, rfl, rfl, _, _, rfl, rfl, rfl⟩ hp) (reph_tup rh hp)⟩
  · exact h.elim
theorem k_part : MtOk X "str" "partition" mPart := ⟨_, _, PySem.F.plainAttrs_str, PySem.F.slot_str_partition, PySem.F.type_str_partition, mt_partition, s_part⟩
theorem s_strip : MtS K mStrip (fun x xs H Q => ∃ a b, x = .str a ∧ xs = [.str b] ∧ a.length ≤ sizeLine ∧ Q (.str (Txt.stripChars a b)) H) := by
  intro x v xs vs H L R Q rx rxs rh h k
  unfold mStrip at h
  split at h
  · obtain ⟨w, rfl, rw'⟩ := rxs.one
    cases (show _ = _ from rx)
    cases (show _ = _ from rw')
    obtain ⟨h1, h2⟩ := h
    exact ⟨_, _, rfl, rfl, h1, k.here rh h2 rfl⟩
  · exact h.elim
theorem k_strip : MtOk X "str" "strip" mStrip := ⟨_, _, PySem.F.plainAttrs_str, PySem.F.slot_str_strip, PySem.F.type_str_strip, mt_stripChars, s_strip⟩
theorem s_starts : MtS K mStarts (fun x xs H Q => ∃ a b, x = .str a ∧ xs = [.str b] ∧ Q (.bl (Txt.startswith a b)) H) := by
  intro x v xs vs H L R Q rx rxs rh h k
  unfold mStarts at h
  split at h
  · obtain ⟨w, rfl, rw'⟩ := rxs.one
    cases (show _ = _ from rx)
    cases (show _ = _ from rw')
    exact ⟨_, _, rfl, rfl, k.here rh h rfl⟩
  · exact h.elim
theorem k_starts : MtOk X "str" "startswith" mStarts := ⟨_, _, PySem.F.plainAttrs_str, PySem.F.slot_str_startswith, PySem.F.type_str_startswith, mt_startswith, s_starts⟩
theorem s_count : MtS K mCount (fun x xs H Q => ∃ a b, x = .str a ∧ xs = [.str b] ∧ Q (.int (Txt.count a b)) H) := by
  intro x v xs vs H L R Q rx rxs rh h k
  unfold mCount at h
  split at h
  · obtain ⟨w, rfl, rw'⟩ := rxs.one
    cases (show _ = _ from rx)
    cases (show _ = _ from rw')
    exact ⟨_, _, rfl, rfl, k.here rh h rfl⟩
  · exact h.elim
theorem k_count : MtOk X "str" "count" mCount := ⟨_, _, PySem.F.plainAttrs_str, PySem.F.slot_str_count, PySem.F.type_str_count, mt_count, s_count⟩
end
end
section
open PySem PySem.Spec PyProof.Rows L2
theorem zip_no_len : typeLookup (.type "zip") "__len__" = pure none := am_miss_of_fast (by decide +kernel)
theorem zip_no_hint : typeLookup (.type "zip") "__length_hint__" = pure none := am_miss_of_fast (by decide +kernel)
/-- a zip that hands out new pairs, its i-th next -/
structure ZSt (h : Heap) (z TI TO i1 i2 a b S : Addr) (i : Nat) : Prop where
  st : (IsZip h z TI TO .none ∧ ∃ x y, IsPair h TO x y) ∨ ∃ T f oT, IsZipHeld h z TI TO T f ∧ h.get? T = some oT ∧ T ≠ z ∧ T ≠ i1 ∧ T ≠ i2 ∧ T ≠ S
  ti : IsPair h TI (.ref i1) (.ref i2)
  h1 : h.IsListIter i1 a i
  h2 : h.IsListIter i2 b i
  to : ∃ o, h.get? TO = some o
theorem ZSt.type {h : Heap} {z TI TO i1 i2 a b S : Addr} {i : Nat} (Z : ZSt h z TI TO i1 i2 a b S i) : ∃ fs, h.get? z = some { cls := .type "zip", dict := none, data := .fields fs, slots := #[] } := by
  rcases Z.st with ⟨h, _⟩ | ⟨T, f, oT, h, _⟩
  · exact ⟨_, h⟩
  · exact ⟨_, h⟩
/-- what is written at S alone leaves it -/
theorem ZSt.frame {h h' : Heap} {z TI TO i1 i2 a b S : Addr} {i : Nat} (Z : ZSt h z TI TO i1 i2 a b S i) (D : S ≠ z ∧ S ≠ TI ∧ S ≠ TO ∧ S ≠ i1 ∧ S ≠ i2) (k : ∀ c o, c ≠ S → h.get? c = some o → h'.get? c = some o) : ZSt h' z TI TO i1 i2 a b S i := by
  refine ⟨?_, k _ _ (Ne.symm D.2.1) Z.ti, Z.h1.at fun o q => k _ _ (Ne.symm D.2.2.2.1) q, Z.h2.at fun o q => k _ _ (Ne.symm D.2.2.2.2) q, let ⟨o, q⟩ := Z.to; ⟨o, k _ _ (Ne.symm D.2.2.1) q⟩⟩
  rcases Z.st with ⟨hz, x, y, hTO⟩ | ⟨T, f, oT, hz, hT, n1, n2, n3, n4⟩
  · exact .inl ⟨k _ _ (Ne.symm D.1) hz, x, y, k _ _ (Ne.symm D.2.2.1) hTO⟩
  · exact .inr ⟨T, f, oT, k _ _ (Ne.symm D.1) hz, k _ _ n4 hT, n1, n2, n3, n4⟩
section
variable {prog : Program} {w : World} {A : Around} {E : Value → Shared → Prop} {s : Shared} {z TI TO i1 i2 a b S : Addr} {i : Nat} {xs ys : Array Value}
theorem z_item {x y : Value} {Q : Option Value → Shared → Prop} (D : ZipApart z TI TO i1 i2 a b) (Z : ZSt s.heap z TI TO i1 i2 a b S i) (hS : S < s.heap.objs.size) (hl1 : s.heap.IsList a xs) (hl2 : s.heap.IsList b ys) (hx : xs[i]? = some x) (hy : ys[i]? = some y)
    (hQ : ∀ h', ZSt h' z TI TO i1 i2 a b S (i + 1) → IsPair h' s.heap.objs.size x y → (∀ c o, c ≠ z → c ≠ TO → c ≠ i1 → c ≠ i2 → s.heap.get? c = some o → h'.get? c = some o) → Q (some (.ref s.heap.objs.size)) { s with heap := h' }) :
    wpAny (model prog w) A (pyNext (.ref z)) Q E s := by
  have lz : z < s.heap.objs.size := by obtain ⟨fs, h⟩ := Z.type; exact Heap.lt_size h
  have l1 : i1 < s.heap.objs.size := by obtain ⟨_, e, _⟩ := Z.h1; exact Heap.lt_size e
  have l2 : i2 < s.heap.objs.size := by obtain ⟨_, e, _⟩ := Z.h2; exact Heap.lt_size e
  rcases Z.st with ⟨hz, p, q, hTO⟩ | ⟨T, f, oT, hz, hT, n1, n2, n3, n4⟩
  · refine wpAny_pyNext_zip_item D hz Z.ti hTO Z.h1 Z.h2 hl1 hl2 hx hy fun h' a1 a2 a3 a4 a5 a6 a7 => ?_
    refine hQ h' ⟨.inr ⟨s.heap.objs.size, false, _, a1, a5, Nat.ne_of_gt lz, Nat.ne_of_gt l1, Nat.ne_of_gt l2, Nat.ne_of_gt hS⟩, a7 _ _ D.TIz D.TITO D.TIi1 D.TIi2 Z.ti, a3, a4, _, a2⟩ a5 a7
  · refine wpAny_pyNext_zip_item_held D hz hT Z.ti Z.h1 Z.h2 hl1 hl2 hx hy fun h' a1 a3 a4 a5 a6 a7 => ?_
    refine hQ h' ⟨.inr ⟨T, true, oT, a1, a7 _ _ n1 n2 n3 hT, n1, n2, n3, n4⟩, a7 _ _ D.TIz D.TIi1 D.TIi2 Z.ti, a3, a4, let ⟨o, q⟩ := Z.to; ⟨o, a7 _ _ D.TOz D.TOi1 D.TOi2 q⟩⟩ a5 fun c o c1 _ c3 c4 e => a7 c o c1 c3 c4 e
theorem z_end {Q : Option Value → Shared → Prop} (hh : A.handled = none) (D : ZipApart z TI TO i1 i2 a b) (Z : ZSt s.heap z TI TO i1 i2 a b S i) (hl1 : s.heap.IsList a xs) (hl2 : s.heap.IsList b ys) (he : xs[i]? = none ∨ ys[i]? = none)
    (hQ : ∀ h', (∀ c o, c ≠ z → c ≠ TO → c ≠ i1 → c ≠ i2 → s.heap.get? c = some o → h'.get? c = some o) → Q none { s with heap := h' }) : wpAny (model prog w) A (pyNext (.ref z)) Q E s := by
  rcases Z.st with ⟨hz, p, q, hTO⟩ | ⟨T, f, oT, hz, hT, n1, n2, n3, n4⟩
  · exact wpAny_pyNext_zip_end hh D hz Z.ti hTO Z.h1 Z.h2 hl1 hl2 he fun h' hk => hQ h' hk
  · exact wpAny_pyNext_zip_end_held hh D hz hT Z.ti Z.h1 Z.h2 hl1 hl2 he fun h' hk => hQ h' fun c o c1 _ c3 c4 e => hk c o c1 c3 c4 e
end
/-- pairs at Ts of the first ones of xs and ys -/
def PairsAt (H : Hp) (Ts : List Addr) (xs ys : List V) : Prop := Ts.length ≤ xs.length ∧ Ts.length ≤ ys.length ∧ ∀ (j : Nat) (T : Addr), Ts[j]? = some T → ∃ x y, xs[j]? = some x ∧ ys[j]? = some y ∧ H T = some (.tup [x, y])
section
variable {X : Cx} {pins : List (Addr × Obj)} {σ : L2.St} {z TI TO i1 i2 a b S : Addr} {xs ys : List V} {A : Around} {R : Result → Shared → Prop}
theorem sql_keep {K : PySem.W.Frag} {H H' : Hp} {a : Addr} {xs : List V} (h : SqL K H a xs) (k : ∀ o, H a = some o → H' a = some o) : SqL K H' a xs := by
  rcases h with (h | ⟨o, h⟩) | h
  · exact .inl (.inl (k _ h))
  · exact .inl (.inr ⟨o, k _ h⟩)
  · exact .inr h
theorem ext_loop (hh : A.handled = none) (D : ZipApart z TI TO i1 i2 a b) (hSn : S ≠ z ∧ S ≠ TI ∧ S ≠ TO ∧ S ≠ i1 ∧ S ≠ i2) (hSa : S ≠ a ∧ S ≠ b) (hx16 : min xs.length ys.length ≤ sizeLine) :
    ∀ (k i : Nat) (s : Shared) (H : Hp) (Ts : List Addr), min xs.length ys.length - i = k → Ts.length = i → i ≤ min xs.length ys.length → Inv X pins σ H s → H S = some (.lst (Ts.map V.ref)) → SqL X.K H a xs → SqL X.K H b ys → PairsAt H Ts xs ys →
      (∀ c ∈ [z, TI, TO, i1, i2], FpOk X pins H c) → ZSt s.heap z TI TO i1 i2 a b S i →
      (∀ H' s' Ts', Inv X pins σ H' s' → H' S = some (.lst (Ts'.map V.ref)) → Ts'.length = min xs.length ys.length → PairsAt H' Ts' xs ys → (∀ c o, c ≠ S → H c = some o → H' c = some o) → R (.ok (.ret .none)) s') →
      codeAny (model X.prog X.w) A (.builtin "list.extend.loop" ⟨[.ref S, .ref z, .none], []⟩) R s := by
  intro k
  induction k with
  | zero =>
    intro i s H Ts hk hi hle I hS hqa hqb hp hf Z hR
    obtain ⟨its, rv, p, _⟩ := I.list hqa
    obtain ⟨its2, rv2, p2, _⟩ := I.list hqb
    have l1 := rv.length
    have l2 := rv2.length
    refine codeAny_builtin F.entry_extend_loop ?_
    rw [Around.under_plainId F.plain_extend_loop _]
    show wpAny _ A.in1 (pyNext (.ref z) >>= _) _ _ s
    refine wpAny_bind (z_end (by exact hh) D Z p.isList p2.isList (by
      rcases Nat.le_total xs.length ys.length with q | q
      · exact .inl (by simp; omega)
      · exact .inr (by simp; omega)) fun h' hk' => ?_)
    have I1 : Inv X pins σ H { s with heap := h' } := I.turnedL (t' := s.toks) (ch := [z, TI, TO, i1, i2]) (fun c o hb q => hk' c o (fun q' => hb (by simp [q'])) (fun q' => hb (by simp [q'])) (fun q' => hb (by simp [q'])) (fun q' => hb (by simp [q'])) q) hf
    exact wpAny_pure (hR H _ Ts I1 hS (by omega) hp fun _ _ _ e => e)
  | succ k ih =>
    intro i s H Ts hk hi hle I hS hqa hqb hp hf Z hR
    have hlt : i < min xs.length ys.length := by omega
    obtain ⟨its, rv, p, _⟩ := I.list hqa
    obtain ⟨its2, rv2, p2, _⟩ := I.list hqb
    have l1 := rv.length
    have l2 := rv2.length
    have hx : xs[i]? = some (xs[i]'(by omega)) := List.getElem?_eq_getElem _
    have hy : ys[i]? = some (ys[i]'(by omega)) := List.getElem?_eq_getElem _
    generalize xs[i]'(by omega) = x at hx
    generalize ys[i]'(by omega) = y at hy
    obtain ⟨u, hu, ru⟩ := rv.get hx
    obtain ⟨u2, hu2, ru2⟩ := rv2.get hy
    obtain ⟨_, its3, n3, r3, e3', e3⟩ := I.lstM hS
    have lS : S < s.heap.objs.size := Heap.lt_size e3
    refine codeAny_builtin F.entry_extend_loop ?_
    rw [Around.under_plainId F.plain_extend_loop _]
    show wpAny _ A.in1 (pyNext (.ref z) >>= _) _ _ s
    refine wpAny_bind (z_item (x := u) (y := u2) D Z lS p.isList p2.isList (by simpa using hu) (by simpa using hu2) fun h' Z' hT hk' => ?_)
    have new : ObjOk X.prog X.w (upd H s.heap.objs.size (.tup [x, y])) h' s.heap.objs.size (.tup [x, y]) :=
      ⟨by show 2 ≤ sizeLine; decide, [u, u2], .cons ru (.cons ru2 .nil), ⟨_, hT, rfl, _, rfl⟩⟩
    have hn : H s.heap.objs.size = none := I.hok.fresh (Nat.le_refl _)
    have I1 : Inv X pins σ (upd H s.heap.objs.size (.tup [x, y])) { s with heap := h' } :=
      I.turnedNew (t' := s.toks) (ch := [z, TI, TO, i1, i2]) (fun c o hb q => hk' c o (fun q' => hb (by simp [q'])) (fun q' => hb (by simp [q'])) (fun q' => hb (by simp [q'])) (fun q' => hb (by simp [q'])) q) hf (Nat.le_refl _) new
    have nS : S ≠ s.heap.objs.size := Nat.ne_of_lt lS
    have hS1 : upd H s.heap.objs.size (.tup [x, y]) S = some (.lst (Ts.map V.ref)) := by rw [upd_ne nS]; exact hS
    obtain ⟨z4, its4, n4, r4, e4', e4⟩ := I1.lstM hS1
    have r4l := r4.length
    rw [List.length_map] at r4l
    show wpAny _ A.in1 (updateSeq S (·.push (.ref s.heap.objs.size)) >>= _) _ _ _
    refine wpAny_bind ?_
    have I2 : Inv X pins σ (upd (upd H s.heap.objs.size (.tup [x, y])) S (.lst ((Ts ++ [s.heap.objs.size]).map V.ref))) { s with heap := h'.update S (Obj.mapSeq (·.push (.ref s.heap.objs.size))), toks := s.toks } :=
      I1.lset (its' := its4 ++ [.ref s.heap.objs.size]) hS1 e4 (by simp) (by rw [List.map_append]; exact r4.append (.cons rfl .nil)) (by rw [List.length_map, List.length_append]; show Ts.length + 1 ≤ _; omega)
    have keepH : ∀ c o, c ≠ S → H c = some o → upd (upd H s.heap.objs.size (.tup [x, y])) S (.lst ((Ts ++ [s.heap.objs.size]).map V.ref)) c = some o := fun c o hc e => by
      rw [upd_ne hc, upd_ne (ne_of_none e hn)]; exact e
    refine wpAny_updateSeq e4 rfl (wpAny_pure ⟨plainId_quiet F.plain_extend_loop _, ih (i + 1) _ _ (Ts ++ [s.heap.objs.size]) (by omega) (by rw [List.length_append, hi]; rfl) hlt I2 upd_same ?_ ?_ ?_ (fun c hc => ?_) ?_ fun H' s' Ts' J e1 e2 e3 e4 => hR H' s' Ts' J e1 e2 e3 fun c o hc e => e4 c o hc (keepH c o hc e)⟩) ?_ ?_
    · exact sql_keep hqa fun o e => keepH _ _ (Ne.symm hSa.1) e
    · exact sql_keep hqb fun o e => keepH _ _ (Ne.symm hSa.2) e
    · obtain ⟨q1, q2, q3⟩ := hp
      refine ⟨by rw [List.length_append]; show Ts.length + 1 ≤ _; omega, by rw [List.length_append]; show Ts.length + 1 ≤ _; omega, fun j T hj => ?_⟩
      by_cases hlt2 : j < Ts.length
      · rw [List.getElem?_append_left hlt2] at hj
        obtain ⟨x', y', g1, g2, g3⟩ := q3 j T hj
        refine ⟨x', y', g1, g2, keepH _ _ (fun z => ?_) g3⟩
        rw [z, hS] at g3
        cases g3
      · rw [List.getElem?_append_right (by omega)] at hj
        have hj0 : j - Ts.length = 0 := by
          cases hq : j - Ts.length with
          | zero => rfl
          | succ m => rw [hq] at hj; cases hj
        rw [hj0] at hj
        cases hj
        have : j = i := by omega
        subst this
        exact ⟨x, y, hx, hy, by rw [upd_ne (Ne.symm nS), upd_same]⟩
    · obtain ⟨f1, f2⟩ := hf c hc
      have hcl : c < s.heap.objs.size ∧ c ≠ S := by
        have e' : c = z ∨ c = TI ∨ c = TO ∨ c = i1 ∨ c = i2 := by simpa using hc
        have lTO : TO < s.heap.objs.size := by
          obtain ⟨o, h⟩ := Z.to
          exact Heap.lt_size h
        rcases e' with q | q | q | q | q <;> subst q
        · obtain ⟨fs, h⟩ := Z.type; exact ⟨Heap.lt_size h, Ne.symm hSn.1⟩
        · exact ⟨Heap.lt_size Z.ti, Ne.symm hSn.2.1⟩
        · exact ⟨lTO, Ne.symm hSn.2.2.1⟩
        · obtain ⟨_, e, _⟩ := Z.h1; exact ⟨Heap.lt_size e, Ne.symm hSn.2.2.2.1⟩
        · obtain ⟨_, e, _⟩ := Z.h2; exact ⟨Heap.lt_size e, Ne.symm hSn.2.2.2.2⟩
      exact ⟨by rw [upd_ne hcl.2, upd_ne (Nat.ne_of_lt hcl.1)]; exact f1, f2⟩
    · exact Z'.frame hSn fun c o hc e => (Heap.get?_update_other _ _ (Ne.symm hc)).trans e
    · rw [List.size_toArray]
      omega
    · rw [Array.size_push, List.size_toArray]
      omega
theorem init_zip {s : Shared} {H : Hp} (hh : A.handled = none) (D : ZipApart z TI TO i1 i2 a b) (hSn : S ≠ z ∧ S ≠ TI ∧ S ≠ TO ∧ S ≠ i1 ∧ S ≠ i2) (hSa : S ≠ a ∧ S ≠ b) (hx16 : min xs.length ys.length ≤ sizeLine)
    (I : Inv X pins σ H s) (hS : H S = some (.lst [])) (e : s.heap.get? S = some { cls := .type "list", data := .seq #[] }) (hqa : SqL X.K H a xs) (hqb : SqL X.K H b ys) (hf : ∀ c ∈ [z, TI, TO, i1, i2], FpOk X pins H c) (Z : ZSt s.heap z TI TO i1 i2 a b S 0) (hz0 : IsZip s.heap z TI TO .none)
    (hR : ∀ H' s' Ts', Inv X pins σ H' s' → H' S = some (.lst (Ts'.map V.ref)) → Ts'.length = min xs.length ys.length → PairsAt H' Ts' xs ys → (∀ c o, c ≠ S → H c = some o → H' c = some o) → R (.ok (.ret .none)) s') :
    wpAny (model X.prog X.w) A.in1 (Builtin.«list.__init__» ⟨[.ref S, .ref z], []⟩)
      (fun fin s' => match fin with | .done f => R (.ok f) s' | .again c' => c'.quiet = true ∧ codeAny (model X.prog X.w) A c' R s') (fun e s' => R (.error e) s') s := by
  show wpAny _ A.in1 (do let old ← Builtin.List.listItems (.ref S); Builtin.List.listUpdate (.ref S) (fun _ => #[]); letGo old.toList.reverse; Builtin.List.listExtendWith (.ref S) (.ref z) .none) _ _ s
  refine wpAny_bind ?_
  unfold Builtin.List.listItems
  refine wpAny_bind (wpAny_seqItems e rfl (wpAny_pure ?_))
  show wpAny _ A.in1 (updateSeq S (fun _ => #[]) >>= fun _ => letGo (#[] : Array Value).toList.reverse >>= fun _ => Builtin.List.listExtendWith (.ref S) (.ref z) .none) _ _ s
  have I1 : Inv X pins σ (upd H S (.lst [])) { s with heap := s.heap.update S (Obj.mapSeq (fun _ => (#[] : Array Value))), toks := s.toks } := I.lset (its := []) (its' := []) hS e rfl .nil (Nat.zero_le _)
  have hup : upd H S (.lst []) = H := by
    funext c
    by_cases hc : c = S
    · rw [hc, upd_same, hS]
    · rw [upd_ne hc]
  rw [hup] at I1
  refine wpAny_bind (wpAny_updateSeq e rfl ?_)
  have e2 := Heap.get?_update_self (Obj.mapSeq (fun _ => (#[] : Array Value))) e rfl
  have Z1 : ZSt (s.heap.update S (Obj.mapSeq (fun _ => (#[] : Array Value)))) z TI TO i1 i2 a b S 0 := Z.frame hSn fun c o hc q => (Heap.get?_update_other _ _ (Ne.symm hc)).trans q
  have hz1 : IsZip (s.heap.update S (Obj.mapSeq (fun _ => (#[] : Array Value)))) z TI TO .none := (Heap.get?_update_other _ _ hSn.1).trans hz0
  refine wpAny_bind (wpAny_letGo ?_)
  generalize s.heap.update S (Obj.mapSeq (fun _ => (#[] : Array Value))) = h1 at I1 e2 Z1 hz1 ⊢
  obtain ⟨fs, hz⟩ := Z1.type
  have hT : (⟨h1, s.gens, s.drawn, s.toks, s.os⟩ : Shared).TypeIs (.ref z) "zip" := ⟨_, hz, rfl⟩
  unfold Builtin.List.listExtendWith
  refine wpAny_bind (wpAny_typeOf hT ?_)
  have q1 : Builtin.List.listSameRef (.ref S) (.ref z) = false := by simp [Builtin.List.listSameRef, hSn.1]
  have q2 : (Value.type "zip" == Value.type "list") = false := by decide
  have q3 : (Value.type "zip" == Value.type "tuple") = false := by decide
  simp only [q1, q2, q3, Bool.or_false, Bool.false_eq_true, if_false]
  refine wpAny_bind (wpAny_pyIter_zip (s := ⟨h1, s.gens, s.drawn, s.toks, s.os⟩) hz1 ?_)
  refine wpAny_bind (wpAny_holding ?_)
  unfold Builtin.List.listLengthHint
  refine wpAny_bind (wpAny_specialOf hT zip_no_len ?_)
  show wpAny _ A.in1 (specialOf (Value.ref z) (Str.ofString "__length_hint__") >>= _) _ _ _
  refine wpAny_bind (wpAny_specialOf hT zip_no_hint ?_)
  refine wpAny_pure ?_
  have loop : ∀ h2, Inv X pins σ H ⟨h2, s.gens, s.drawn, s.toks, s.os⟩ → ZSt h2 z TI TO i1 i2 a b S 0 → codeAny (model X.prog X.w) A (.builtin "list.extend.loop" ⟨[.ref S, .ref z, .none], []⟩) R ⟨h2, s.gens, s.drawn, s.toks, s.os⟩ := fun h2 I2 Z2 =>
    ext_loop hh D hSn hSa hx16 _ 0 _ H [] rfl rfl (Nat.zero_le _) I2 hS hqa hqb ⟨Nat.zero_le _, Nat.zero_le _, fun j T hj => by cases hj⟩ hf Z2 hR
  show wpAny _ A.in1 (rule "list.extend.makes-room" >>= fun _ => Builtin.List.listTouch (.ref S) >>= fun _ =>
    again (.builtin "list.extend.loop" ⟨[.ref S, .ref z, .none], []⟩)) _ _ _
  refine wpAny_bind (wpAny_rule ?_)
  refine wpAny_bind ?_
  show wpAny _ A.in1 (updateSeq S (·.push .none) >>= fun _ => updateSeq S (·.pop)) _ _ _
  have I2 : Inv X pins σ (upd H S (.lst [.non])) ⟨h1.update S (Obj.mapSeq (·.push Value.none)), s.gens, s.drawn, s.toks, s.os⟩ := I1.lset (its := []) (its' := [.none]) hS e2 rfl (.cons rfl .nil) (by show 1 ≤ sizeLine; decide)
  refine wpAny_bind (wpAny_updateSeq e2 rfl ?_)
  have e3 := Heap.get?_update_self (Obj.mapSeq (·.push Value.none)) e2 rfl
  have I3 : Inv X pins σ (upd (upd H S (.lst [.non])) S (.lst [])) ⟨(h1.update S (Obj.mapSeq (·.push Value.none))).update S (Obj.mapSeq (·.pop)), s.gens, s.drawn, s.toks, s.os⟩ := I2.lset (its := [.none]) (its' := []) upd_same e3 rfl .nil (Nat.zero_le _)
  have hup3 : upd (upd H S (.lst [.non])) S (.lst []) = H := by
    funext c
    by_cases hc : c = S
    · rw [hc, upd_same, hS]
    · rw [upd_ne hc, upd_ne hc]
  rw [hup3] at I3
  refine wpAny_updateSeq (hz := by seq_fits) e3 rfl ?_
  have Z3 : ZSt ((h1.update S (Obj.mapSeq (·.push Value.none))).update S (Obj.mapSeq (·.pop))) z TI TO i1 i2 a b S 0 := (Z1.frame hSn fun c o hc q => (Heap.get?_update_other _ _ (Ne.symm hc)).trans q).frame hSn fun c o hc q => (Heap.get?_update_other _ _ (Ne.symm hc)).trans q
  exact wpAny_pure ⟨plainId_quiet F.plain_extend_loop _, loop _ I3 Z3⟩
end
end
section
open PySem PySem.Spec PyProof.Rows L2
section
variable {prog : Program} {w : World} {A : Around} {E : Value → Shared → Prop} {s : Shared}
/-- one more pair of a zip whose last pair is held, whatever its two iterators are -/
theorem held_next {z TI TO T i1 i2 : Addr} {f : Bool} {oT : Obj} {x y : Value} {P : Heap → Prop} {Q : Value → Shared → Prop} (e1 : i1 ≠ z) (e2 : i2 ≠ z)
    (hz : IsZipHeld s.heap z TI TO T f) (hT : s.heap.get? T = some oT) (hTI : IsPair s.heap TI (.ref i1) (.ref i2))
    (N1 : ∀ (h : Heap) (Q' : Value → Shared → Prop), Heap.SameBut z s.heap h →
      (∀ h1, Heap.SameBut i1 h h1 → (∀ Q'' : Value → Shared → Prop, (∀ h2, Heap.SameBut i2 h1 h2 → P h2 → Q'' y { s with heap := h2 }) → wpAny (model prog w) A (Builtin.SmallTypes.nextOf (.ref i2)) Q'' E { s with heap := h1 }) → Q' x { s with heap := h1 }) →
      wpAny (model prog w) A (Builtin.SmallTypes.nextOf (.ref i1)) Q' E { s with heap := h })
    (hQ : ∀ h3, IsZipHeld h3 z TI TO T true → P h3 → h3.objs.size = s.heap.objs.size → (∀ c o, c ≠ z → c ≠ i1 → c ≠ i2 → s.heap.get? c = some o → h3.get? c = some o) →
      Q (.ref h3.objs.size) { s with heap := h3.push { cls := .type "tuple", data := .seq #[x, y] } }) :
    wpAny (model prog w) A (Builtin.«zip.__next__» ⟨[.ref z], []⟩) (fun fin s' => ∃ v, fin = .done (.ret v) ∧ Q v s') E s := by
  show wpAny _ _ (field (.ref z) 2 >>= _) _ _ _
  refine wpAny_bind (wpAny_field hz rfl (x := .bool false) rfl ?_)
  show wpAny _ _ (field (.ref z) 3 >>= _) _ _ _
  refine wpAny_bind (wpAny_field hz rfl (x := .ref TI) rfl ?_)
  refine wpAny_bind (wpAny_seqItems hTI rfl ?_)
  show wpAny _ _ (Builtin.SmallTypes.ownedTupleIsFree (.ref z) >>= _) _ _ _
  refine wpAny_bind (wpAny_tupleHeld_zip hz hT fun g hg sg => ?_)
  simp only [Bool.false_eq_true, if_false]
  refine wpAny_bind ?_
  rw [← Array.forIn_toList]
  simp only [List.forIn_cons, List.forIn_nil]
  refine wpAny_bind (wpAny_bind (wpAny_holding ?_))
  show wpAny _ _ (Builtin.SmallTypes.nextOf (.ref i1) >>= _) _ _ _
  refine wpAny_bind (N1 g _ sg fun g1 sg1 N2 => wpAny_pure (wpAny_pure ?_))
  refine wpAny_bind (wpAny_bind (wpAny_holding ?_))
  show wpAny _ _ (Builtin.SmallTypes.nextOf (.ref i2) >>= _) _ _ _
  refine wpAny_bind (N2 _ fun g2 sg2 hp => wpAny_pure (wpAny_pure (wpAny_pure ?_)))
  show wpAny _ _ (newTuple [x, y] >>= _) _ _ _
  refine wpAny_bind (wpAny_newTuple ?_)
  refine wpAny_pure ⟨_, rfl, ?_⟩
  exact hQ g2 (sg2.extBut _ _ e2.symm (sg1.extBut _ _ e1.symm hg)) hp (by rw [sg2.1, sg1.1, sg.1]) fun c o c1 c2 c3 q => sg2.extBut _ _ c3 (sg1.extBut _ _ c2 (sg.extBut _ _ c1 q))
/-- a zip whose last pair is held has none left: its first iterator has none, or its second one has none behind one of the first -/
theorem held_end {z TI TO T i1 i2 : Addr} {f : Bool} {oT : Obj} {Q : Fin → Shared → Prop}
    (hz : IsZipHeld s.heap z TI TO T f) (hT : s.heap.get? T = some oT) (hTI : IsPair s.heap TI (.ref i1) (.ref i2))
    (N : ∀ (h : Heap) (Q' : Value → Shared → Prop), Heap.SameBut z s.heap h →
      (∀ x h1, Heap.SameBut i1 h h1 → (∀ Q'' : Value → Shared → Prop, wpAny (model prog w) A (Builtin.SmallTypes.nextOf (.ref i2)) Q'' E { s with heap := h1 }) → Q' x { s with heap := h1 }) →
      wpAny (model prog w) A (Builtin.SmallTypes.nextOf (.ref i1)) Q' E { s with heap := h }) :
    wpAny (model prog w) A (Builtin.«zip.__next__» ⟨[.ref z], []⟩) Q E s := by
  show wpAny _ _ (field (.ref z) 2 >>= _) _ _ _
  refine wpAny_bind (wpAny_field hz rfl (x := .bool false) rfl ?_)
  show wpAny _ _ (field (.ref z) 3 >>= _) _ _ _
  refine wpAny_bind (wpAny_field hz rfl (x := .ref TI) rfl ?_)
  refine wpAny_bind (wpAny_seqItems hTI rfl ?_)
  show wpAny _ _ (Builtin.SmallTypes.ownedTupleIsFree (.ref z) >>= _) _ _ _
  refine wpAny_bind (wpAny_tupleHeld_zip hz hT fun g hg sg => ?_)
  simp only [Bool.false_eq_true, if_false]
  refine wpAny_bind ?_
  rw [← Array.forIn_toList]
  simp only [List.forIn_cons, List.forIn_nil]
  refine wpAny_bind (wpAny_bind (wpAny_holding ?_))
  show wpAny _ _ (Builtin.SmallTypes.nextOf (.ref i1) >>= _) _ _ _
  refine wpAny_bind (N g _ sg fun x g1 sg1 N2 => wpAny_pure (wpAny_pure ?_))
  refine wpAny_bind (wpAny_bind (wpAny_holding ?_))
  show wpAny _ _ (Builtin.SmallTypes.nextOf (.ref i2) >>= _) _ _ _
  exact wpAny_bind (N2 _)
section
variable {z TI TO T i1 i2 l1 l2 : Addr} {f : Bool} {oT : Obj} {k1 k2 : Nat} {xs ys : Array Value}
theorem next_heldT {x y : Value} {Q : Option Value → Shared → Prop} (D : ZipApart z TI TO i1 i2 l1 l2)
    (hz : IsZipHeld s.heap z TI TO T f) (hT : s.heap.get? T = some oT) (hTI : IsPair s.heap TI (.ref i1) (.ref i2))
    (h1 : s.heap.IsTupleIter i1 l1 k1) (h2 : s.heap.IsTupleIter i2 l2 k2) (hl1 : s.heap.IsTuple l1 xs) (hl2 : s.heap.IsTuple l2 ys) (hx : xs[k1]? = some x) (hy : ys[k2]? = some y)
    (hQ : ∀ h', IsZipHeld h' z TI TO T true → h'.IsTupleIter i1 l1 (k1 + 1) → h'.IsTupleIter i2 l2 (k2 + 1) → IsPair h' s.heap.objs.size x y →
      (∀ c o, c ≠ z → c ≠ i1 → c ≠ i2 → s.heap.get? c = some o → h'.get? c = some o) → Q (some (.ref s.heap.objs.size)) { s with heap := h' }) :
    wpAny (model prog w) A (pyNext (.ref z)) Q E s := by
  have hTy : s.TypeIs (.ref z) "zip" := ⟨_, hz, rfl⟩
  unfold pyNext
  refine wpAny_bind (wpAny_attempt (wpAny_callSpecial?_slot (name := Str.ofString "__next__") hTy F.slot_zip_next (wpAny_call_entry F.slot_zip_next hTy F.entry_zip_next ?_ (F.args_zip_next_1 _))))
  refine held_next (x := x) (y := y) (P := fun h => h.IsTupleIter i1 l1 (k1 + 1) ∧ h.IsTupleIter i2 l2 (k2 + 1)) D.i1z D.i2z hz hT hTI ?_ ?_
  · intro h Q' sg k
    refine RZ.nextOf_tuple_item (s := { s with heap := h }) (h1.extBut sg.extBut D.i1z) (hl1.extBut sg.extBut D.l1z) hx fun g1 a1 sg1 => ?_
    refine k g1 sg1 fun Q'' k2 => ?_
    refine RZ.nextOf_tuple_item (s := { s with heap := g1 }) ((h2.extBut sg.extBut D.i2z).extBut sg1.extBut D.i12.symm) ((hl2.extBut sg.extBut D.l2z).extBut sg1.extBut D.l2i1) hy fun g2 a2 sg2 => ?_
    exact k2 g2 sg2 ⟨a1.extBut sg2.extBut D.i12, a2⟩
  · rintro h3 hz3 ⟨a1, a2⟩ hsz keep
    refine wpAny_pure ?_
    have hp : IsPair (h3.push { cls := .type "tuple", data := .seq #[x, y] }) h3.objs.size x y := Heap.get?_push_size _ rfl
    have up : ∀ c o, h3.get? c = some o → (h3.push { cls := .type "tuple", data := .seq #[x, y] }).get? c = some o := fun c o e => Heap.get?_push_of_some _ e
    rw [hsz] at hp ⊢
    exact hQ _ (up _ _ hz3) (a1.at fun o e => up _ o e) (a2.at fun o e => up _ o e) hp fun c o c1 c2 c3 e => up _ _ (keep c o c1 c2 c3 e)
theorem end_heldT {Q : Option Value → Shared → Prop} (hh : A.handled = none) (D : ZipApart z TI TO i1 i2 l1 l2)
    (hz : IsZipHeld s.heap z TI TO T f) (hT : s.heap.get? T = some oT) (hTI : IsPair s.heap TI (.ref i1) (.ref i2))
    (h1 : s.heap.IsTupleIter i1 l1 k1) (h2 : s.heap.IsTupleIter i2 l2 k2) (hl1 : s.heap.IsTuple l1 xs) (hl2 : s.heap.IsTuple l2 ys) (hend : xs[k1]? = none ∨ ys[k2]? = none)
    (hQ : ∀ h', (∀ c o, c ≠ z → c ≠ i1 → c ≠ i2 → s.heap.get? c = some o → h'.get? c = some o) → Q none { s with heap := h' }) : wpAny (model prog w) A (pyNext (.ref z)) Q E s := by
  have hTy : s.TypeIs (.ref z) "zip" := ⟨_, hz, rfl⟩
  unfold pyNext
  refine wpAny_bind (wpAny_attempt (wpAny_callSpecial?_slot (name := Str.ofString "__next__") hTy F.slot_zip_next (wpAny_call_entry F.slot_zip_next hTy F.entry_zip_next ?_ (F.args_zip_next_1 _))))
  refine held_end hz hT hTI fun h Q' sg k => ?_
  cases hx : xs[k1]? with
  | none =>
    refine RZ.nextOf_tuple_end (s := { s with heap := h }) hh (h1.extBut sg.extBut D.i1z) (hl1.extBut sg.extBut D.l1z) hx fun h' e he st => ?_
    obtain ⟨o, ho, hc⟩ := st
    refine wpAny_bind (wpAny_isInstance (T := "StopIteration") (b := true) ⟨o, ho, hc⟩ isSubtype_stop ?_)
    exact wpAny_pure (hQ _ fun c o c1 c2 _ q => he _ _ c2 (sg.extBut _ _ c1 q))
  | some x =>
    have hy : ys[k2]? = none := by rcases hend with h | h; rw [hx] at h; cases h; exact h
    refine RZ.nextOf_tuple_item (s := { s with heap := h }) (h1.extBut sg.extBut D.i1z) (hl1.extBut sg.extBut D.l1z) hx fun g1 a1 sg1 => ?_
    refine k x g1 sg1 fun Q'' => ?_
    refine RZ.nextOf_tuple_end (s := { s with heap := g1 }) hh ((h2.extBut sg.extBut D.i2z).extBut sg1.extBut D.i12.symm) ((hl2.extBut sg.extBut D.l2z).extBut sg1.extBut D.l2i1) hy fun h' e he st => ?_
    obtain ⟨o, ho, hc⟩ := st
    refine wpAny_bind (wpAny_isInstance (T := "StopIteration") (b := true) ⟨o, ho, hc⟩ isSubtype_stop ?_)
    exact wpAny_pure (hQ _ fun c o c1 c2 c3 q => he _ _ c3 (sg1.extBut _ _ c2 (sg.extBut _ _ c1 q)))
end
end
/-- a zip that hands out new pairs, its i-th next -/
structure ZTt (h : Heap) (z TI TO i1 i2 a b S : Addr) (i : Nat) : Prop where
  st : (IsZip h z TI TO .none ∧ ∃ x y, IsPair h TO x y) ∨ ∃ T f oT, IsZipHeld h z TI TO T f ∧ h.get? T = some oT ∧ T ≠ z ∧ T ≠ i1 ∧ T ≠ i2 ∧ T ≠ S
  ti : IsPair h TI (.ref i1) (.ref i2)
  h1 : h.IsTupleIter i1 a i
  h2 : h.IsTupleIter i2 b i
  to : ∃ o, h.get? TO = some o
theorem ZTt.type {h : Heap} {z TI TO i1 i2 a b S : Addr} {i : Nat} (Z : ZTt h z TI TO i1 i2 a b S i) : ∃ fs, h.get? z = some { cls := .type "zip", dict := none, data := .fields fs, slots := #[] } := by
  rcases Z.st with ⟨h, _⟩ | ⟨T, f, oT, h, _⟩
  · exact ⟨_, h⟩
  · exact ⟨_, h⟩
/-- what is written at S alone leaves it -/
theorem ZTt.frame {h h' : Heap} {z TI TO i1 i2 a b S : Addr} {i : Nat} (Z : ZTt h z TI TO i1 i2 a b S i) (D : S ≠ z ∧ S ≠ TI ∧ S ≠ TO ∧ S ≠ i1 ∧ S ≠ i2) (k : ∀ c o, c ≠ S → h.get? c = some o → h'.get? c = some o) : ZTt h' z TI TO i1 i2 a b S i := by
  refine ⟨?_, k _ _ (Ne.symm D.2.1) Z.ti, Z.h1.at fun o q => k _ _ (Ne.symm D.2.2.2.1) q, Z.h2.at fun o q => k _ _ (Ne.symm D.2.2.2.2) q, let ⟨o, q⟩ := Z.to; ⟨o, k _ _ (Ne.symm D.2.2.1) q⟩⟩
  rcases Z.st with ⟨hz, x, y, hTO⟩ | ⟨T, f, oT, hz, hT, n1, n2, n3, n4⟩
  · exact .inl ⟨k _ _ (Ne.symm D.1) hz, x, y, k _ _ (Ne.symm D.2.2.1) hTO⟩
  · exact .inr ⟨T, f, oT, k _ _ (Ne.symm D.1) hz, k _ _ n4 hT, n1, n2, n3, n4⟩
section
variable {prog : Program} {w : World} {A : Around} {E : Value → Shared → Prop} {s : Shared} {z TI TO i1 i2 a b S : Addr} {i : Nat} {xs ys : Array Value}
theorem zt_item {x y : Value} {Q : Option Value → Shared → Prop} (D : ZipApart z TI TO i1 i2 a b) (Z : ZTt s.heap z TI TO i1 i2 a b S i) (hS : S < s.heap.objs.size) (hl1 : s.heap.IsTuple a xs) (hl2 : s.heap.IsTuple b ys) (hx : xs[i]? = some x) (hy : ys[i]? = some y)
    (hQ : ∀ h', ZTt h' z TI TO i1 i2 a b S (i + 1) → IsPair h' s.heap.objs.size x y → (∀ c o, c ≠ z → c ≠ TO → c ≠ i1 → c ≠ i2 → s.heap.get? c = some o → h'.get? c = some o) → Q (some (.ref s.heap.objs.size)) { s with heap := h' }) :
    wpAny (model prog w) A (pyNext (.ref z)) Q E s := by
  have lz : z < s.heap.objs.size := by obtain ⟨fs, h⟩ := Z.type; exact Heap.lt_size h
  have l1 : i1 < s.heap.objs.size := by obtain ⟨_, e, _⟩ := Z.h1; exact Heap.lt_size e
  have l2 : i2 < s.heap.objs.size := by obtain ⟨_, e, _⟩ := Z.h2; exact Heap.lt_size e
  rcases Z.st with ⟨hz, p, q, hTO⟩ | ⟨T, f, oT, hz, hT, n1, n2, n3, n4⟩
  · refine RZ.pyNext_zipT_item D hz Z.ti hTO Z.h1 Z.h2 hl1 hl2 hx hy fun h' a1 a2 a3 a4 a5 a6 a7 => ?_
    refine hQ h' ⟨.inr ⟨s.heap.objs.size, false, _, a1, a5, Nat.ne_of_gt lz, Nat.ne_of_gt l1, Nat.ne_of_gt l2, Nat.ne_of_gt hS⟩, a7 _ _ D.TIz D.TITO D.TIi1 D.TIi2 Z.ti, a3, a4, _, a2⟩ a5 a7
  · refine next_heldT D hz hT Z.ti Z.h1 Z.h2 hl1 hl2 hx hy fun h' a1 a3 a4 a5 a7 => ?_
    refine hQ h' ⟨.inr ⟨T, true, oT, a1, a7 _ _ n1 n2 n3 hT, n1, n2, n3, n4⟩, a7 _ _ D.TIz D.TIi1 D.TIi2 Z.ti, a3, a4, let ⟨o, q⟩ := Z.to; ⟨o, a7 _ _ D.TOz D.TOi1 D.TOi2 q⟩⟩ a5 fun c o c1 _ c3 c4 e => a7 c o c1 c3 c4 e
theorem zt_end {Q : Option Value → Shared → Prop} (hh : A.handled = none) (D : ZipApart z TI TO i1 i2 a b) (Z : ZTt s.heap z TI TO i1 i2 a b S i) (hl1 : s.heap.IsTuple a xs) (hl2 : s.heap.IsTuple b ys) (he : xs[i]? = none ∨ ys[i]? = none)
    (hQ : ∀ h', (∀ c o, c ≠ z → c ≠ TO → c ≠ i1 → c ≠ i2 → s.heap.get? c = some o → h'.get? c = some o) → Q none { s with heap := h' }) : wpAny (model prog w) A (pyNext (.ref z)) Q E s := by
  rcases Z.st with ⟨hz, p, q, hTO⟩ | ⟨T, f, oT, hz, hT, n1, n2, n3, n4⟩
  · exact RZ.pyNext_zipT_end hh D hz Z.ti hTO Z.h1 Z.h2 hl1 hl2 he fun h' hk => hQ h' hk
  · exact end_heldT hh D hz hT Z.ti Z.h1 Z.h2 hl1 hl2 he fun h' hk => hQ h' fun c o c1 _ c3 c4 e => hk c o c1 c3 c4 e
end
section
variable {X : Cx} {pins : List (Addr × Obj)} {σ : L2.St} {z TI TO i1 i2 a b S : Addr} {xs ys : List V} {A : Around} {R : Result → Shared → Prop}
theorem sqt_keep {K : PySem.W.Frag} {H H' : Hp} {a : Addr} {xs : List V} (h : SqT K H a xs) (k : ∀ o, H a = some o → H' a = some o) : SqT K H' a xs := by
  rcases h with (h | ⟨o, h⟩) | h
  · exact .inl (.inl (k _ h))
  · exact .inl (.inr ⟨o, k _ h⟩)
  · exact .inr h
theorem ext_loopT (hh : A.handled = none) (D : ZipApart z TI TO i1 i2 a b) (hSn : S ≠ z ∧ S ≠ TI ∧ S ≠ TO ∧ S ≠ i1 ∧ S ≠ i2) (hSa : S ≠ a ∧ S ≠ b) (hx16 : min xs.length ys.length ≤ sizeLine) :
    ∀ (k i : Nat) (s : Shared) (H : Hp) (Ts : List Addr), min xs.length ys.length - i = k → Ts.length = i → i ≤ min xs.length ys.length → Inv X pins σ H s → H S = some (.lst (Ts.map V.ref)) → SqT X.K H a xs → SqT X.K H b ys → PairsAt H Ts xs ys →
      (∀ c ∈ [z, TI, TO, i1, i2], FpOk X pins H c) → ZTt s.heap z TI TO i1 i2 a b S i →
      (∀ H' s' Ts', Inv X pins σ H' s' → H' S = some (.lst (Ts'.map V.ref)) → Ts'.length = min xs.length ys.length → PairsAt H' Ts' xs ys → (∀ c o, c ≠ S → H c = some o → H' c = some o) → R (.ok (.ret .none)) s') →
      codeAny (model X.prog X.w) A (.builtin "list.extend.loop" ⟨[.ref S, .ref z, .none], []⟩) R s := by
  intro k
  induction k with
  | zero =>
    intro i s H Ts hk hi hle I hS hqa hqb hp hf Z hR
    obtain ⟨its, rv, p, _⟩ := I.tuple hqa
    obtain ⟨its2, rv2, p2, _⟩ := I.tuple hqb
    have l1 := rv.length
    have l2 := rv2.length
    refine codeAny_builtin F.entry_extend_loop ?_
    rw [Around.under_plainId F.plain_extend_loop _]
    show wpAny _ A.in1 (pyNext (.ref z) >>= _) _ _ s
    refine wpAny_bind (zt_end (by exact hh) D Z p p2 (by
      rcases Nat.le_total xs.length ys.length with q | q
      · exact .inl (by simp; omega)
      · exact .inr (by simp; omega)) fun h' hk' => ?_)
    have I1 : Inv X pins σ H { s with heap := h' } := I.turnedL (t' := s.toks) (ch := [z, TI, TO, i1, i2]) (fun c o hb q => hk' c o (fun q' => hb (by simp [q'])) (fun q' => hb (by simp [q'])) (fun q' => hb (by simp [q'])) (fun q' => hb (by simp [q'])) q) hf
    exact wpAny_pure (hR H _ Ts I1 hS (by omega) hp fun _ _ _ e => e)
  | succ k ih =>
    intro i s H Ts hk hi hle I hS hqa hqb hp hf Z hR
    have hlt : i < min xs.length ys.length := by omega
    obtain ⟨its, rv, p, _⟩ := I.tuple hqa
    obtain ⟨its2, rv2, p2, _⟩ := I.tuple hqb
    have l1 := rv.length
    have l2 := rv2.length
    have hx : xs[i]? = some (xs[i]'(by omega)) := List.getElem?_eq_getElem _
    have hy : ys[i]? = some (ys[i]'(by omega)) := List.getElem?_eq_getElem _
    generalize xs[i]'(by omega) = x at hx
    generalize ys[i]'(by omega) = y at hy
    obtain ⟨u, hu, ru⟩ := rv.get hx
    obtain ⟨u2, hu2, ru2⟩ := rv2.get hy
    obtain ⟨_, its3, n3, r3, e3', e3⟩ := I.lstM hS
    have lS : S < s.heap.objs.size := Heap.lt_size e3
    refine codeAny_builtin F.entry_extend_loop ?_
    rw [Around.under_plainId F.plain_extend_loop _]
    show wpAny _ A.in1 (pyNext (.ref z) >>= _) _ _ s
    refine wpAny_bind (zt_item (x := u) (y := u2) D Z lS p p2 (by simpa using hu) (by simpa using hu2) fun h' Z' hT hk' => ?_)
    have new : ObjOk X.prog X.w (upd H s.heap.objs.size (.tup [x, y])) h' s.heap.objs.size (.tup [x, y]) :=
      ⟨by show 2 ≤ sizeLine; decide, [u, u2], .cons ru (.cons ru2 .nil), ⟨_, hT, rfl, _, rfl⟩⟩
    have hn : H s.heap.objs.size = none := I.hok.fresh (Nat.le_refl _)
    have I1 : Inv X pins σ (upd H s.heap.objs.size (.tup [x, y])) { s with heap := h' } :=
      I.turnedNew (t' := s.toks) (ch := [z, TI, TO, i1, i2]) (fun c o hb q => hk' c o (fun q' => hb (by simp [q'])) (fun q' => hb (by simp [q'])) (fun q' => hb (by simp [q'])) (fun q' => hb (by simp [q'])) q) hf (Nat.le_refl _) new
    have nS : S ≠ s.heap.objs.size := Nat.ne_of_lt lS
    have hS1 : upd H s.heap.objs.size (.tup [x, y]) S = some (.lst (Ts.map V.ref)) := by rw [upd_ne nS]; exact hS
    obtain ⟨z4, its4, n4, r4, e4', e4⟩ := I1.lstM hS1
    have r4l := r4.length
    rw [List.length_map] at r4l
    show wpAny _ A.in1 (updateSeq S (·.push (.ref s.heap.objs.size)) >>= _) _ _ _
    refine wpAny_bind ?_
    have I2 : Inv X pins σ (upd (upd H s.heap.objs.size (.tup [x, y])) S (.lst ((Ts ++ [s.heap.objs.size]).map V.ref))) { s with heap := h'.update S (Obj.mapSeq (·.push (.ref s.heap.objs.size))), toks := s.toks } :=
      I1.lset (its' := its4 ++ [.ref s.heap.objs.size]) hS1 e4 (by simp) (by rw [List.map_append]; exact r4.append (.cons rfl .nil)) (by rw [List.length_map, List.length_append]; show Ts.length + 1 ≤ _; omega)
    have keepH : ∀ c o, c ≠ S → H c = some o → upd (upd H s.heap.objs.size (.tup [x, y])) S (.lst ((Ts ++ [s.heap.objs.size]).map V.ref)) c = some o := fun c o hc e => by
      rw [upd_ne hc, upd_ne (ne_of_none e hn)]; exact e
    refine wpAny_updateSeq e4 rfl (wpAny_pure ⟨plainId_quiet F.plain_extend_loop _, ih (i + 1) _ _ (Ts ++ [s.heap.objs.size]) (by omega) (by rw [List.length_append, hi]; rfl) hlt I2 upd_same ?_ ?_ ?_ (fun c hc => ?_) ?_ fun H' s' Ts' J e1 e2 e3 e4 => hR H' s' Ts' J e1 e2 e3 fun c o hc e => e4 c o hc (keepH c o hc e)⟩) ?_ ?_
    · exact sqt_keep hqa fun o e => keepH _ _ (Ne.symm hSa.1) e
    · exact sqt_keep hqb fun o e => keepH _ _ (Ne.symm hSa.2) e
    · obtain ⟨q1, q2, q3⟩ := hp
      refine ⟨by rw [List.length_append]; show Ts.length + 1 ≤ _; omega, by rw [List.length_append]; show Ts.length + 1 ≤ _; omega, fun j T hj => ?_⟩
      by_cases hlt2 : j < Ts.length
      · rw [List.getElem?_append_left hlt2] at hj
        obtain ⟨x', y', g1, g2, g3⟩ := q3 j T hj
        refine ⟨x', y', g1, g2, keepH _ _ (fun z => ?_) g3⟩
        rw [z, hS] at g3
        cases g3
      · rw [List.getElem?_append_right (by omega)] at hj
        have hj0 : j - Ts.length = 0 := by
          cases hq : j - Ts.length with
          | zero => rfl
          | succ m => rw [hq] at hj; cases hj
        rw [hj0] at hj
        cases hj
        have : j = i := by omega
        subst this
        exact ⟨x, y, hx, hy, by rw [upd_ne (Ne.symm nS), upd_same]⟩
    · obtain ⟨f1, f2⟩ := hf c hc
      have hcl : c < s.heap.objs.size ∧ c ≠ S := by
        have e' : c = z ∨ c = TI ∨ c = TO ∨ c = i1 ∨ c = i2 := by simpa using hc
        have lTO : TO < s.heap.objs.size := by
          obtain ⟨o, h⟩ := Z.to
          exact Heap.lt_size h
        rcases e' with q | q | q | q | q <;> subst q
        · obtain ⟨fs, h⟩ := Z.type; exact ⟨Heap.lt_size h, Ne.symm hSn.1⟩
        · exact ⟨Heap.lt_size Z.ti, Ne.symm hSn.2.1⟩
        · exact ⟨lTO, Ne.symm hSn.2.2.1⟩
        · obtain ⟨_, e, _⟩ := Z.h1; exact ⟨Heap.lt_size e, Ne.symm hSn.2.2.2.1⟩
        · obtain ⟨_, e, _⟩ := Z.h2; exact ⟨Heap.lt_size e, Ne.symm hSn.2.2.2.2⟩
      exact ⟨by rw [upd_ne hcl.2, upd_ne (Nat.ne_of_lt hcl.1)]; exact f1, f2⟩
    · exact Z'.frame hSn fun c o hc e => (Heap.get?_update_other _ _ (Ne.symm hc)).trans e
    · rw [List.size_toArray]
      omega
    · rw [Array.size_push, List.size_toArray]
      omega
theorem init_zipT {s : Shared} {H : Hp} (hh : A.handled = none) (D : ZipApart z TI TO i1 i2 a b) (hSn : S ≠ z ∧ S ≠ TI ∧ S ≠ TO ∧ S ≠ i1 ∧ S ≠ i2) (hSa : S ≠ a ∧ S ≠ b) (hx16 : min xs.length ys.length ≤ sizeLine)
    (I : Inv X pins σ H s) (hS : H S = some (.lst [])) (e : s.heap.get? S = some { cls := .type "list", data := .seq #[] }) (hqa : SqT X.K H a xs) (hqb : SqT X.K H b ys) (hf : ∀ c ∈ [z, TI, TO, i1, i2], FpOk X pins H c) (Z : ZTt s.heap z TI TO i1 i2 a b S 0) (hz0 : IsZip s.heap z TI TO .none)
    (hR : ∀ H' s' Ts', Inv X pins σ H' s' → H' S = some (.lst (Ts'.map V.ref)) → Ts'.length = min xs.length ys.length → PairsAt H' Ts' xs ys → (∀ c o, c ≠ S → H c = some o → H' c = some o) → R (.ok (.ret .none)) s') :
    wpAny (model X.prog X.w) A.in1 (Builtin.«list.__init__» ⟨[.ref S, .ref z], []⟩)
      (fun fin s' => match fin with | .done f => R (.ok f) s' | .again c' => c'.quiet = true ∧ codeAny (model X.prog X.w) A c' R s') (fun e s' => R (.error e) s') s := by
  show wpAny _ A.in1 (do let old ← Builtin.List.listItems (.ref S); Builtin.List.listUpdate (.ref S) (fun _ => #[]); letGo old.toList.reverse; Builtin.List.listExtendWith (.ref S) (.ref z) .none) _ _ s
  refine wpAny_bind ?_
  unfold Builtin.List.listItems
  refine wpAny_bind (wpAny_seqItems e rfl (wpAny_pure ?_))
  show wpAny _ A.in1 (updateSeq S (fun _ => #[]) >>= fun _ => letGo (#[] : Array Value).toList.reverse >>= fun _ => Builtin.List.listExtendWith (.ref S) (.ref z) .none) _ _ s
  have I1 : Inv X pins σ (upd H S (.lst [])) { s with heap := s.heap.update S (Obj.mapSeq (fun _ => (#[] : Array Value))), toks := s.toks } := I.lset (its := []) (its' := []) hS e rfl .nil (Nat.zero_le _)
  have hup : upd H S (.lst []) = H := by
    funext c
    by_cases hc : c = S
    · rw [hc, upd_same, hS]
    · rw [upd_ne hc]
  rw [hup] at I1
  refine wpAny_bind (wpAny_updateSeq e rfl ?_)
  have e2 := Heap.get?_update_self (Obj.mapSeq (fun _ => (#[] : Array Value))) e rfl
  have Z1 : ZTt (s.heap.update S (Obj.mapSeq (fun _ => (#[] : Array Value)))) z TI TO i1 i2 a b S 0 := Z.frame hSn fun c o hc q => (Heap.get?_update_other _ _ (Ne.symm hc)).trans q
  have hz1 : IsZip (s.heap.update S (Obj.mapSeq (fun _ => (#[] : Array Value)))) z TI TO .none := (Heap.get?_update_other _ _ hSn.1).trans hz0
  refine wpAny_bind (wpAny_letGo ?_)
  generalize s.heap.update S (Obj.mapSeq (fun _ => (#[] : Array Value))) = h1 at I1 e2 Z1 hz1 ⊢
  obtain ⟨fs, hz⟩ := Z1.type
  have hT : (⟨h1, s.gens, s.drawn, s.toks, s.os⟩ : Shared).TypeIs (.ref z) "zip" := ⟨_, hz, rfl⟩
  unfold Builtin.List.listExtendWith
  refine wpAny_bind (wpAny_typeOf hT ?_)
  have q1 : Builtin.List.listSameRef (.ref S) (.ref z) = false := by simp [Builtin.List.listSameRef, hSn.1]
  have q2 : (Value.type "zip" == Value.type "list") = false := by decide
  have q3 : (Value.type "zip" == Value.type "tuple") = false := by decide
  simp only [q1, q2, q3, Bool.or_false, Bool.false_eq_true, if_false]
  refine wpAny_bind (wpAny_pyIter_zip (s := ⟨h1, s.gens, s.drawn, s.toks, s.os⟩) hz1 ?_)
  refine wpAny_bind (wpAny_holding ?_)
  unfold Builtin.List.listLengthHint
  refine wpAny_bind (wpAny_specialOf hT zip_no_len ?_)
  show wpAny _ A.in1 (specialOf (Value.ref z) (Str.ofString "__length_hint__") >>= _) _ _ _
  refine wpAny_bind (wpAny_specialOf hT zip_no_hint ?_)
  refine wpAny_pure ?_
  have loop : ∀ h2, Inv X pins σ H ⟨h2, s.gens, s.drawn, s.toks, s.os⟩ → ZTt h2 z TI TO i1 i2 a b S 0 → codeAny (model X.prog X.w) A (.builtin "list.extend.loop" ⟨[.ref S, .ref z, .none], []⟩) R ⟨h2, s.gens, s.drawn, s.toks, s.os⟩ := fun h2 I2 Z2 =>
    ext_loopT hh D hSn hSa hx16 _ 0 _ H [] rfl rfl (Nat.zero_le _) I2 hS hqa hqb ⟨Nat.zero_le _, Nat.zero_le _, fun j T hj => by cases hj⟩ hf Z2 hR
  show wpAny _ A.in1 (rule "list.extend.makes-room" >>= fun _ => Builtin.List.listTouch (.ref S) >>= fun _ =>
    again (.builtin "list.extend.loop" ⟨[.ref S, .ref z, .none], []⟩)) _ _ _
  refine wpAny_bind (wpAny_rule ?_)
  refine wpAny_bind ?_
  show wpAny _ A.in1 (updateSeq S (·.push .none) >>= fun _ => updateSeq S (·.pop)) _ _ _
  have I2 : Inv X pins σ (upd H S (.lst [.non])) ⟨h1.update S (Obj.mapSeq (·.push Value.none)), s.gens, s.drawn, s.toks, s.os⟩ := I1.lset (its := []) (its' := [.none]) hS e2 rfl (.cons rfl .nil) (by show 1 ≤ sizeLine; decide)
  refine wpAny_bind (wpAny_updateSeq e2 rfl ?_)
  have e3 := Heap.get?_update_self (Obj.mapSeq (·.push Value.none)) e2 rfl
  have I3 : Inv X pins σ (upd (upd H S (.lst [.non])) S (.lst [])) ⟨(h1.update S (Obj.mapSeq (·.push Value.none))).update S (Obj.mapSeq (·.pop)), s.gens, s.drawn, s.toks, s.os⟩ := I2.lset (its := [.none]) (its' := []) upd_same e3 rfl .nil (Nat.zero_le _)
  have hup3 : upd (upd H S (.lst [.non])) S (.lst []) = H := by
    funext c
    by_cases hc : c = S
    · rw [hc, upd_same, hS]
    · rw [upd_ne hc, upd_ne hc]
  rw [hup3] at I3
  refine wpAny_updateSeq (hz := by seq_fits) e3 rfl ?_
  have Z3 : ZTt ((h1.update S (Obj.mapSeq (·.push Value.none))).update S (Obj.mapSeq (·.pop))) z TI TO i1 i2 a b S 0 := (Z1.frame hSn fun c o hc q => (Heap.get?_update_other _ _ (Ne.symm hc)).trans q).frame hSn fun c o hc q => (Heap.get?_update_other _ _ (Ne.symm hc)).trans q
  exact wpAny_pure ⟨plainId_quiet F.plain_extend_loop _, loop _ I3 Z3⟩
/-- list(zip(e, f)) of two lists or of two tuples -/
theorem pe_lzip2 {e f : Expr} {ta : TA} {p1 p2 pos1 pos2 : Pos} (hc : X.calm = true) (hg : Gl X "zip") (hm : X.mg "zip" = none) (hgl : Gl X "list") (hml : X.mg "list" = none) (ha : PA X [e, f] ta)
    (hs : starEach [e, f] X.env = (false, eval e X.env) :: starEach [f] X.env) (hpl : (backTo pos1 (starEach [f] X.env)).any (·.1) = false)
    (hs2 : starEach [.Call (.Name "zip" p1) [e, f] [] pos1] X.env = [(false, eval (.Call (.Name "zip" p1) [e, f] [] pos1) X.env)]) :
    PE X (.Call (.Name "list" p2) [.Call (.Name "zip" p1) [e, f] [] pos1] [] pos2) (fun σ H Q => ta σ H fun vs H1 => ∃ (a b : Addr) (xs ys : List V), vs = [.ref a, .ref b] ∧ ((SqL X.K H1 a xs ∧ SqL X.K H1 b ys) ∨ (SqT X.K H1 a xs ∧ SqT X.K H1 b ys)) ∧
      ∀ S Ts H2, H1 S = none → H2 S = some (.lst (Ts.map V.ref)) → Ts.length = min xs.length ys.length → PairsAt H2 Ts xs ys → (∀ c o, H1 c = some o → H2 c = some o) → Q (.ref S) H2) := by
  refine ⟨fun pins s σ H Q I h => ?_⟩
  refine Call_ (ld_blt I hgl hml PyProof.Rows.Boot.«list» (PyProof.Rows.callWith_type1 ?_ hs2 rfl))
  rw [hs2]
  refine Calls.spliced_cons ?_
  refine Call_ (ld_blt I hg hm PyProof.Rows.boot_zip (PyProof.Rows.callWith_type1 (thn (ha.run pos1 pins s σ H _ I h) fun us s1 ⟨vs, H1, I1, r1, q1⟩ => ?_) hs hpl))
  obtain ⟨a, b, xs, ys, ex, hq, q⟩ := q1
  subst ex
  obtain ⟨v1, v2, rfl, ra, rb⟩ := vals2 r1
  cases (show v1 = Value.ref a from ra)
  cases (show v2 = Value.ref b from rb)
  rcases hq with ⟨hqx, hqy⟩ | ⟨hqx, hqy⟩
  · obtain ⟨its, rv, p1', hz16⟩ := I1.list hqx
    obtain ⟨its2, rv2, p2', _⟩ := I1.list hqy
    have hx16 : min xs.length ys.length ≤ sizeLine := Nat.le_trans (Nat.min_le_left _ _) hz16
    have la : a < s1.heap.objs.size := p1'.lt
    have lb : b < s1.heap.objs.size := p2'.lt
    refine call_zip_2 p1'.isList p2'.isList fun h' hz hTI hTO h1 h2 hsz hk => ?_
    have I2 : Inv X pins σ H1 { s1 with heap := h' } := I1.kept (t' := s1.toks) hk
    refine Calls.spliced_nil ?_
    have D := PySem.W.ktu_apart s1.heap.objs.size a b la lb
    have fpo : ∀ c ∈ [s1.heap.objs.size + 4, s1.heap.objs.size + 2, s1.heap.objs.size + 3, s1.heap.objs.size, s1.heap.objs.size + 1], FpOk X pins H1 c := fun c hcm => by
      have e' : c = s1.heap.objs.size + 4 ∨ c = s1.heap.objs.size + 2 ∨ c = s1.heap.objs.size + 3 ∨ c = s1.heap.objs.size ∨ c = s1.heap.objs.size + 1 := by simpa using hcm
      have hle : s1.heap.objs.size ≤ c := by
        rcases e' with z | z | z | z | z <;> rw [z] <;> first | exact Nat.le_add_right _ _ | exact Nat.le_refl _
      exact I1.fpOk hle (I1.hok.fresh hle)
    have lz : s1.heap.objs.size + 4 < h'.objs.size := Heap.lt_size hz
    generalize hzz : s1.heap.objs.size + 4 = z at *
    generalize hTT : s1.heap.objs.size + 2 = TI at *
    generalize hTO' : s1.heap.objs.size + 3 = TO at *
    generalize hi2 : s1.heap.objs.size + 1 = i2 at *
    generalize hi1 : s1.heap.objs.size = i1 at *
    refine callType_codes (Q₁ := fun obj s₁ => obj = .ref h'.objs.size ∧ s₁ = ⟨h'.push { cls := .type "list", data := .seq #[] }, s1.gens, s1.drawn, s1.toks, s1.os⟩) F.called_list (F.typeCall_list_1 _) F.entry_list_init
      (code_list_new _ ⟨rfl, rfl⟩) fun obj s₁ h₁ => ?_
    obtain ⟨rfl, rfl⟩ := h₁
    have hS : (h'.push { cls := .type "list", data := .seq #[] }).get? h'.objs.size = some { cls := .type "list", data := .seq #[] } := Heap.get?_push_size _ rfl
    have I3 : Inv X pins σ (upd H1 h'.objs.size (.lst [])) ⟨h'.push { cls := .type "list", data := .seq #[] }, s1.gens, s1.drawn, s1.toks, s1.os⟩ := I2.lnew (its := []) (t' := s1.toks) .nil (Nat.zero_le _)
    have nS : H1 h'.objs.size = none := I2.hok.fresh (Nat.le_refl _)
    have pk : ∀ c o, h'.get? c = some o → (h'.push { cls := .type "list", data := .seq #[] }).get? c = some o := fun c o q => Heap.get?_push_of_some _ q
    have old : ∀ c o, H1 c = some o → upd H1 h'.objs.size (.lst []) c = some o := fun c o q => by rw [upd_ne (ne_of_none q nS)]; exact q
    have d1 : h'.objs.size ≠ z ∧ h'.objs.size ≠ TI ∧ h'.objs.size ≠ TO ∧ h'.objs.size ≠ i1 ∧ h'.objs.size ≠ i2 := ⟨Nat.ne_of_gt lz, Nat.ne_of_gt (by rw [hsz, ← hTT]; exact Nat.add_lt_add_left (by decide) _), Nat.ne_of_gt (by rw [hsz, ← hTO']; exact Nat.add_lt_add_left (by decide) _), Nat.ne_of_gt (by rw [hsz]; exact Nat.lt_add_of_pos_right (by decide)), Nat.ne_of_gt (by rw [hsz, ← hi2]; exact Nat.add_lt_add_left (by decide) _)⟩
    have d2 : h'.objs.size ≠ a ∧ h'.objs.size ≠ b := ⟨Nat.ne_of_gt (Nat.lt_of_lt_of_le la (by rw [hsz]; exact Nat.le_add_right _ _)), Nat.ne_of_gt (Nat.lt_of_lt_of_le lb (by rw [hsz]; exact Nat.le_add_right _ _))⟩
    refine ⟨⟨_, hS, rfl⟩, F.args_list_init_2 _ _, init_zip (X := X) (pins := pins) (σ := σ) (A := X.A.in1) (by exact (I.ok.hd hc)) D d1 d2 hx16 I3 upd_same hS
      (sql_keep hqx fun o e => old _ _ e) (sql_keep hqy fun o e => old _ _ e) (fun c hcm => ?_) ⟨.inl ⟨pk _ _ hz, _, _, pk _ _ hTO⟩, pk _ _ hTI, h1.at fun o q => pk _ _ q, h2.at fun o q => pk _ _ q, _, pk _ _ hTO⟩ (pk _ _ hz) fun H' s' Ts' J e1 e2 e3 e4 => ?_⟩
    · obtain ⟨f1, f2⟩ := fpo c hcm
      have hcl : c ≠ h'.objs.size := by
        have e' : c = z ∨ c = TI ∨ c = TO ∨ c = i1 ∨ c = i2 := by simpa using hcm
        rcases e' with q | q | q | q | q <;> rw [q]
        · exact Ne.symm d1.1
        · exact Ne.symm d1.2.1
        · exact Ne.symm d1.2.2.1
        · exact Ne.symm d1.2.2.2.1
        · exact Ne.symm d1.2.2.2.2
      exact ⟨by rw [upd_ne hcl]; exact f1, f2⟩
    · exact ⟨rfl, .ref h'.objs.size, H', J, rfl, q _ Ts' H' nS e1 e2 e3 fun c o e => e4 c o (ne_of_none e nS) (old c o e)⟩
  · obtain ⟨its, rv, p1', hz16⟩ := I1.tuple hqx
    obtain ⟨its2, rv2, p2', _⟩ := I1.tuple hqy
    have hx16 : min xs.length ys.length ≤ sizeLine := Nat.le_trans (Nat.min_le_left _ _) hz16
    have la : a < s1.heap.objs.size := p1'.lt
    have lb : b < s1.heap.objs.size := p2'.lt
    refine RZ.call_zipT p1' p2' fun h' hz hTI hTO h1 h2 hsz hk => ?_
    have I2 : Inv X pins σ H1 { s1 with heap := h' } := I1.kept (t' := s1.toks) hk
    refine Calls.spliced_nil ?_
    have D := PySem.W.ktu_apart s1.heap.objs.size a b la lb
    have fpo : ∀ c ∈ [s1.heap.objs.size + 4, s1.heap.objs.size + 2, s1.heap.objs.size + 3, s1.heap.objs.size, s1.heap.objs.size + 1], FpOk X pins H1 c := fun c hcm => by
      have e' : c = s1.heap.objs.size + 4 ∨ c = s1.heap.objs.size + 2 ∨ c = s1.heap.objs.size + 3 ∨ c = s1.heap.objs.size ∨ c = s1.heap.objs.size + 1 := by simpa using hcm
      have hle : s1.heap.objs.size ≤ c := by
        rcases e' with z | z | z | z | z <;> rw [z] <;> first | exact Nat.le_add_right _ _ | exact Nat.le_refl _
      exact I1.fpOk hle (I1.hok.fresh hle)
    have lz : s1.heap.objs.size + 4 < h'.objs.size := Heap.lt_size hz
    generalize hzz : s1.heap.objs.size + 4 = z at *
    generalize hTT : s1.heap.objs.size + 2 = TI at *
    generalize hTO' : s1.heap.objs.size + 3 = TO at *
    generalize hi2 : s1.heap.objs.size + 1 = i2 at *
    generalize hi1 : s1.heap.objs.size = i1 at *
    refine callType_codes (Q₁ := fun obj s₁ => obj = .ref h'.objs.size ∧ s₁ = ⟨h'.push { cls := .type "list", data := .seq #[] }, s1.gens, s1.drawn, s1.toks, s1.os⟩) F.called_list (F.typeCall_list_1 _) F.entry_list_init
      (code_list_new _ ⟨rfl, rfl⟩) fun obj s₁ h₁ => ?_
    obtain ⟨rfl, rfl⟩ := h₁
    have hS : (h'.push { cls := .type "list", data := .seq #[] }).get? h'.objs.size = some { cls := .type "list", data := .seq #[] } := Heap.get?_push_size _ rfl
    have I3 : Inv X pins σ (upd H1 h'.objs.size (.lst [])) ⟨h'.push { cls := .type "list", data := .seq #[] }, s1.gens, s1.drawn, s1.toks, s1.os⟩ := I2.lnew (its := []) (t' := s1.toks) .nil (Nat.zero_le _)
    have nS : H1 h'.objs.size = none := I2.hok.fresh (Nat.le_refl _)
    have pk : ∀ c o, h'.get? c = some o → (h'.push { cls := .type "list", data := .seq #[] }).get? c = some o := fun c o q => Heap.get?_push_of_some _ q
    have old : ∀ c o, H1 c = some o → upd H1 h'.objs.size (.lst []) c = some o := fun c o q => by rw [upd_ne (ne_of_none q nS)]; exact q
    have d1 : h'.objs.size ≠ z ∧ h'.objs.size ≠ TI ∧ h'.objs.size ≠ TO ∧ h'.objs.size ≠ i1 ∧ h'.objs.size ≠ i2 := ⟨Nat.ne_of_gt lz, Nat.ne_of_gt (by rw [hsz, ← hTT]; exact Nat.add_lt_add_left (by decide) _), Nat.ne_of_gt (by rw [hsz, ← hTO']; exact Nat.add_lt_add_left (by decide) _), Nat.ne_of_gt (by rw [hsz]; exact Nat.lt_add_of_pos_right (by decide)), Nat.ne_of_gt (by rw [hsz, ← hi2]; exact Nat.add_lt_add_left (by decide) _)⟩
    have d2 : h'.objs.size ≠ a ∧ h'.objs.size ≠ b := ⟨Nat.ne_of_gt (Nat.lt_of_lt_of_le la (by rw [hsz]; exact Nat.le_add_right _ _)), Nat.ne_of_gt (Nat.lt_of_lt_of_le lb (by rw [hsz]; exact Nat.le_add_right _ _))⟩
    refine ⟨⟨_, hS, rfl⟩, F.args_list_init_2 _ _, init_zipT (X := X) (pins := pins) (σ := σ) (A := X.A.in1) (by exact (I.ok.hd hc)) D d1 d2 hx16 I3 upd_same hS
      (sqt_keep hqx fun o e => old _ _ e) (sqt_keep hqy fun o e => old _ _ e) (fun c hcm => ?_) ⟨.inl ⟨pk _ _ hz, _, _, pk _ _ hTO⟩, pk _ _ hTI, h1.at fun o q => pk _ _ q, h2.at fun o q => pk _ _ q, _, pk _ _ hTO⟩ (pk _ _ hz) fun H' s' Ts' J e1 e2 e3 e4 => ?_⟩
    · obtain ⟨f1, f2⟩ := fpo c hcm
      have hcl : c ≠ h'.objs.size := by
        have e' : c = z ∨ c = TI ∨ c = TO ∨ c = i1 ∨ c = i2 := by simpa using hcm
        rcases e' with q | q | q | q | q <;> rw [q]
        · exact Ne.symm d1.1
        · exact Ne.symm d1.2.1
        · exact Ne.symm d1.2.2.1
        · exact Ne.symm d1.2.2.2.1
        · exact Ne.symm d1.2.2.2.2
      exact ⟨by rw [upd_ne hcl]; exact f1, f2⟩
    · exact ⟨rfl, .ref h'.objs.size, H', J, rfl, q _ Ts' H' nS e1 e2 e3 fun c o e => e4 c o (ne_of_none e nS) (old c o e)⟩
end
def lzK (x y : PV) (L : Sto) (R : PK) : Prop := match x, y with
  | .ref p, .ref q => ∃ xs ys, L p = some (.l xs) ∧ L q = some (.l ys) ∧ newL L (zipL xs ys) R
  | .tup xs, .tup ys => newL L (zipL xs ys) R
  | _, _ => False
def wLzip (a b : WE) : WE := fun env L R => a env L fun x La => b env La fun y Lb => lzK x y Lb R
theorem repvs_zip {K : PySem.W.Frag} {H : Hp} : ∀ {xs ys : List PV} {us ws : List V} {Ts : List Addr}, RepVs K H xs us → RepVs K H ys ws → Ts.length = min us.length ws.length → PairsAt H Ts us ws → RepVs K H (zipL xs ys) (Ts.map V.ref)
  | [], ys, us, ws, Ts, r1, _, hl, _ => by
    cases (show _ = _ from r1)
    have : Ts = [] := List.eq_nil_of_length_eq_zero (by rw [hl]; simp)
    subst this
    rfl
  | x :: xs, [], us, ws, Ts, _, r2, hl, _ => by
    cases (show _ = _ from r2)
    have : Ts = [] := List.eq_nil_of_length_eq_zero (by rw [hl]; simp)
    subst this
    rfl
  | x :: xs, y :: ys, _, _, Ts, ⟨u, us, e1, h1, k1⟩, ⟨w, ws, e2, h2, k2⟩, hl, hp => by
    subst e1 e2
    cases Ts with
    | nil => simp only [List.length_nil, List.length_cons] at hl; omega
    | cons T Ts =>
      obtain ⟨p1, p2, p3⟩ := hp
      obtain ⟨a, b, q1, q2, q3⟩ := p3 0 T rfl
      cases q1
      cases q2
      refine ⟨.ref T, Ts.map V.ref, rfl, ⟨T, [u, w], rfl, .inl q3, u, [w], rfl, h1, w, [], rfl, h2, rfl⟩, repvs_zip k1 k2 (by simp only [List.length_cons] at hl; omega) ⟨by simp only [List.length_cons] at p1; omega, by simp only [List.length_cons] at p2; omega, fun j S hj => ?_⟩⟩
      obtain ⟨a, b, q1, q2, q3⟩ := p3 (j + 1) S hj
      exact ⟨a, b, q1, q2, q3⟩
section
variable {X : Cx} {e f : Expr} {wa wb : WE} {p1 p2 pos1 pos2 : Pos}
theorem q_lzip (hc : X.calm = true) (hg : Gl X "zip") (hm : X.mg "zip" = none) (hgl : Gl X "list") (hml : X.mg "list" = none) (ha : PA X [e, f] (liftA X.K [wa, wb]))
    (hs : starEach [e, f] X.env = (false, eval e X.env) :: starEach [f] X.env) (hpl : (backTo pos1 (starEach [f] X.env)).any (·.1) = false)
    (hs2 : starEach [.Call (.Name "zip" p1) [e, f] [] pos1] X.env = [(false, eval (.Call (.Name "zip" p1) [e, f] [] pos1) X.env)]) :
    PE X (.Call (.Name "list" p2) [.Call (.Name "zip" p1) [e, f] [] pos1] [] pos2) (liftE X.K (wLzip wa wb)) := (pe_lzip2 hc hg hm hgl hml ha hs hpl hs2).weak fun σ H Q h => by
  obtain ⟨env, L, R, hs, hL, hw, k⟩ := h
  refine lift_a2 hs hL hw fun x y La v w H1 hb f1 rx ry rh => ?_
  have fin : ∀ (xs ys : List PV) (us ws : List V), newL La (zipL xs ys) R → RepVs X.K H1 xs us → RepVs X.K H1 ys ws → ∀ (S : Addr) (Ts : List Addr) (H2 : Hp), H1 S = none → H2 S = some (.lst (Ts.map V.ref)) → Ts.length = min us.length ws.length → PairsAt H2 Ts us ws → (∀ c o, H1 c = some o → H2 c = some o) → Q (.ref S) H2 := by
    intro xs ys us ws g3 r1 r2 S Ts H2 n1 n2 n3 n4 n5
    have hS : La S = none := rh.fresh n1
    have fm : Fm H1 La H2 (put La S (.l (zipL xs ys))) := fun c o hco hcn => ⟨n5 c o hco, by
      rw [put_ne (ne_of_none hco n1)]; exact hcn⟩
    have ex : Ex H1 H2 := ⟨fun a xs h => n5 _ _ h, fun a o xs h => n5 _ _ h⟩
    refine k _ _ _ _ (g3 S hS) (f1.trans fm) rfl fun a o ea => ?_
    by_cases q : a = S
    · subst q
      rw [put_same] at ea
      cases ea
      exact ⟨_, n2, repvs_zip (r1.ex ex) (r2.ex ex) n3 n4⟩
    · rw [put_ne q] at ea
      exact (rh a o ea).ex ex fun u hu => n5 _ _ hu
  cases x <;> cases y <;> first | exact absurd hb (fun z => z) | skip
  · cases (show _ = _ from rx)
    cases (show _ = _ from ry)
    obtain ⟨xs, ys, g1, g2, g3⟩ := hb
    obtain ⟨us, e1, r1⟩ := rh.lst g1
    obtain ⟨ws, e2, r2⟩ := rh.lst g2
    exact ⟨_, _, us, ws, rfl, .inl ⟨.of e1, .of e2⟩, fin xs ys us ws g3 r1 r2⟩
  · obtain ⟨a, us, rfl, t1, r1⟩ := rx
    obtain ⟨b, ws, rfl, t2, r2⟩ := ry
    exact ⟨a, b, us, ws, rfl, .inr ⟨t1.sq, t2.sq⟩, fin _ _ us ws hb r1 r2⟩
end
end
section
open PySem PySem.Spec PyProof.Rows L2
def kPV : Key → PV
  | .inl i => .int i
  | .inr x => .str x
def dropL (L : Sto) (a : Addr) : Sto := fun b => if b = a then none else L b
theorem dropL_same {L : Sto} {a : Addr} : dropL L a a = none := by unfold dropL; rw [if_pos rfl]
theorem dropL_ne {L : Sto} {a b : Addr} (h : b ≠ a) : dropL L a b = L b := by unfold dropL; rw [if_neg h]
def iIm (e : WE) : WI := fun env L R => e env L fun x La => match x with
  | .ref a => match La a with
    | some (.d kvs) => R ⟨kvs.map fun kv => .tup [kPV kv.1, kv.2], fun _ => True⟩ (dropL La a)
    | _ => False
  | _ => False
def iItemsN (td : TE) : TI := fun σ H R => td σ H fun x H1 => ∃ d kvs, x = .ref d ∧ H1 d = some (.dK kvs) ∧ ∀ o, R (Iti d o kvs) (upd H1 d (.frz o (.dK kvs)))
section
variable {X : Cx} {e : Expr} {td : TE} {apos cpos : Pos}
theorem pi_itemsN {elts : List Expr} {kk : Nat} {tpos : Pos} (he : PE X e td) (hbase : attributeBase e "items" X.env (eval e X.env) = eval e X.env) (hline : (apos.endLine == cpos.line) = true) :
    PI X (.Tuple elts kk tpos) (.Call (.Attribute e "items" apos) [] [] cpos) (iItemsN td) := by
  refine ⟨fun pins s σ H R I h => ?_⟩
  refine wpAny_Call_method (T := "dict") (id := "dict.items") hbase rfl hline F.plainAttrs_dict F.slot_dict_items F.type_dict_items (thn (he.run pins s σ H _ I h) fun u s1 ⟨x, H1, I1, rx, d, kvs, ex, hd0, q⟩ => ?_)
  subst ex
  obtain rfl : u = Value.ref d := rx
  obtain ⟨o, I1⟩ := I1.lock hd0 trivial
  have q := q o
  have hd : (upd H1 d (.frz o (.dK kvs))) d = some (.frz o (.dK kvs)) := upd_same
  generalize upd H1 d (.frz o (.dK kvs)) = H1 at *
  obtain ⟨hs, hgd, hx, es, ep, vs, hdt, hsz, kv, hm⟩ := I1.frzK hd
  have hl : kvs.length = vs.length := Paired.length kv
  refine ⟨hm.dictOf.typeIs, hm.dictOf.mapOf.noDict, ?_⟩
  have I2 : Inv X pins σ H1 { s1 with heap := s1.heap.push { cls := .type "dict_items", data := .fields #[.ref d] } } := I1.kept (t' := s1.toks) fun b ob q => Heap.get?_push_of_some _ q
  have fin : wpAny (model X.prog X.w) X.A (pyIter (.ref s1.heap.objs.size)) (PIE X pins σ (.Tuple elts kk tpos) R) X.xe { s1 with heap := s1.heap.push { cls := .type "dict_items", data := .fields #[.ref d] } } := by
    refine wpAny_pyIter_items (d := d) (knd := mixKind X.prog X.w) ⟨_, Heap.get?_push_size _ rfl, rfl, rfl⟩ (hm.push _) (pi_one (tk := s1.toks) I2 _ (turn_items _ hdt) ⟨.none, .none, ?_⟩ q)
    rw [hl]
    exact Heap.get?_push_size _ rfl
  show wpAny _ _ (callWith cpos (.builtin "dict.items") [.ref d] [] []) _ X.xe s1
  exact method_meetsIn F.slot_dict_items F.entry_dict_items rfl (PySem.evalArgs_none ⟨rfl, hm.dictOf.typeIs, F.args_dict_items_1 _, _, meets_dict_items (mixKind X.prog X.w) d hs, ⟨vs, hm.dictOf⟩, fin⟩)
end
theorem RepKs.at {K : PySem.W.Frag} {H : Hp} : ∀ {kvs : List (Key × PV)} {ks : List (Key × V)} {i : Nat} {k : Key} {v : V}, RepKs K H kvs ks → ks[i]? = some (k, v) → ∃ x, kvs[i]? = some (k, x) ∧ RepV K H x v
  | [], _, i, k, v, h, e => by
    cases (show _ = [] from h)
    simp at e
  | (k', x) :: r, _, 0, k, v, ⟨w, q, e1, rx, _⟩, e => by
    subst e1
    have e : (k', w) = (k, v) := Option.some.inj e
    cases e
    exact ⟨x, rfl, rx⟩
  | (k', x) :: r, _, i + 1, k, v, ⟨w, q, e1, _, rq⟩, e => by
    subst e1
    exact RepKs.at (i := i) rq e
theorem RepKs.lenX {K : PySem.W.Frag} {H : Hp} : ∀ {kvs : List (Key × PV)} {ks : List (Key × V)}, RepKs K H kvs ks → kvs.length = ks.length
  | [], _, h => by cases (show _ = [] from h); rfl
  | (k', x) :: r, _, ⟨w, q, e1, _, rq⟩ => by subst e1; rw [List.length_cons, List.length_cons, RepKs.lenX rq]
theorem i_im {X : Cx} {a : Expr} {wa : WE} {elts : List Expr} {kk : Nat} {tpos apos cpos : Pos} (ha : PE X a (liftE X.K wa)) (hbase : attributeBase a "items" X.env (eval a X.env) = eval a X.env) (hline : (apos.endLine == cpos.line) = true) :
    PI X (.Tuple elts kk tpos) (.Call (.Attribute a "items" apos) [] [] cpos) (liftI X.K (iIm wa)) := pi_weak (pi_itemsN ha hbase hline) fun σ H R h => by
  obtain ⟨env, L, R', hs, hL, hw, k⟩ := h
  refine ⟨env, L, _, hs, hL, hw, fun x La v H1 hb f1 rx r1 => ?_⟩
  cases x <;> first | exact absurd hb (fun z => z) | skip
  cases (show _ = _ from rx)
  rename_i a
  simp only at hb
  split at hb
  · rename_i kvs e
    obtain ⟨ks, h1, rk⟩ := r1.dct e
    refine ⟨_, ks, rfl, h1, fun o => ?_⟩
    have exx : Ex H1 (upd H1 a (.frz o (.dK ks))) := ⟨fun c xs q => by rw [upd_ne (fun z => by rw [z, h1] at q; cases q)]; exact q, fun c o xs q => by rw [upd_ne (fun z => by rw [z, h1] at q; cases q)]; exact q⟩
    refine k _ (dropL La a) (upd H1 a (.frz o (.dK ks))) _ hb ?_ ?_ ?_
    · intro c u q n
      obtain ⟨q1, q2⟩ := f1 c u q n
      have hca : c ≠ a := fun z => by rw [z, e] at q2; cases q2
      exact ⟨by rw [upd_ne hca]; exact q1, by rw [dropL_ne hca]; exact q2⟩
    · intro c u q
      have hca : c ≠ a := fun z => by rw [z, dropL_same] at q; cases q
      rw [dropL_ne hca] at q
      have := r1 c u q
      cases u with
      | l xs => obtain ⟨vs, g1, g2⟩ := this; exact ⟨vs, by rw [upd_ne hca]; exact g1, g2.ex exx⟩
      | d xs => obtain ⟨vs, g1, g2⟩ := this; exact ⟨vs, by rw [upd_ne hca]; exact g1, g2.ex exx⟩
    · intro i H2 L2 f2 r2 _
      have ha2 : H2 a = some (.frz o (.dK ks)) := (f2 a _ upd_same dropL_same).1
      have rk2 : RepKs X.K H2 kvs ks := by
        have ex2 : Ex (upd H1 a (.frz o (.dK ks))) H2 := ⟨fun c xs q => ?_, fun c u xs q => ?_⟩
        · exact (rk.ex exx).ex ex2
        · have hca : c ≠ a := fun z => by rw [z, upd_same] at q; cases q
          have q0 := q
          rw [upd_ne hca] at q0
          exact (f2 c _ q (by rw [dropL_ne hca]; exact r1.notTup q0)).1
        · by_cases hca : c = a
          · subst hca
            exact (f2 c _ q dropL_same).1
          · have q0 := q
            rw [upd_ne hca] at q0
            exact (f2 c _ q (by rw [dropL_ne hca]; exact r1.notFrz q0)).1
      have hlen : (kvs.map fun kv => PV.tup [kPV kv.1, kv.2]).length = ks.length := by rw [List.length_map]; exact rk2.lenX
      refine ⟨fun hi => ⟨⟨ha2, by rw [← hlen]; exact hi⟩, fun v H' y => ?_⟩, fun hi => ⟨ha2, by rw [hi]; exact Nat.le_of_eq hlen.symm⟩⟩
      obtain ⟨T, key, w, hk, rfl, hT, rfl⟩ := y
      obtain ⟨x, hx, rx⟩ := rk2.at hk
      obtain ⟨q1, q2, q3⟩ := pair_ok r2 (x := kPV key) (v := kV key) hT (by cases key <;> rfl) rx
      refine ⟨_, ?_, q1, q2, q3⟩
      show (kvs.map _)[i]? = _
      rw [List.getElem?_map, hx]
      rfl
  · exact hb.elim
end
section
open PySem PySem.Spec PyProof.Rows L2
def flP : PV → Bool
  | .non => true | .bl _ => true | .int _ => true | .str _ => true
  | _ => false
def toV : PV → V
  | .bl b => .bl b | .int i => .int i | .str x => .str x
  | _ => .non
def inB (x : PV) (ys : List PV) : Bool := inV (toV x) (ys.map toV)
def oInG (f : Bool → Bool) : Op2 := fun x y L R => match y with
  | .tup ys => if ys.all flP = true then flP x = true ∧ ys.all flP = true ∧ R (.bl (f (inB x ys))) L else ∃ d ds, PD L x d ∧ PDs L ys ds ∧ SeqAt.shaped d = true ∧ SeqAt.shaped (.tuple ds) = true ∧ R (.bl (f (ds.any fun z => PyData.eqv z d))) L
  | .str z => (match x with
    | .str u => R (.bl (f (!(Builtin.Str.occurrences z u 0 z.length 1).isEmpty))) L
    | _ => False)
  | .ref a => (match L a with
    | some (.l ys) => ∃ d ds, PD L x d ∧ PDs L ys ds ∧ SeqAt.shaped d = true ∧ SeqAt.shaped (.list ds) = true ∧ R (.bl (f (ds.any fun z => PyData.eqv z d))) L
    | some (.d kvs) => (match x with
      | .int i => R (.bl (f (kvs.find? (fun kv => decide (kv.1 = .inl i))).isSome)) L
      | .str i => R (.bl (f (kvs.find? (fun kv => decide (kv.1 = .inr i))).isSome)) L
      | _ => False)
    | none => False)
  | _ => False
abbrev oIn : Op2 := oInG id
abbrev oNotIn : Op2 := oInG not
section
variable {X : Cx} {K : PySem.W.Frag} {H : Hp} {L : Sto}
theorem flP_V {x : PV} {v : V} (r : RepV K H x v) (h : flP x = true) : v = toV x ∧ flatV v = true := by
  cases x <;> first | (cases (show _ = _ from r); exact ⟨rfl, rfl⟩) | cases h
theorem flP_Vs : ∀ {xs : List PV} {vs : List V}, RepVs K H xs vs → xs.all flP = true → vs = xs.map toV ∧ vs.all flatV = true
  | [], _, r, _ => by cases (show _ = _ from r); exact ⟨rfl, rfl⟩
  | x :: xs, _, ⟨v, vs, h1, h2, h3⟩, h => by
    subst h1
    rw [List.all_cons, Bool.and_eq_true] at h
    obtain ⟨e1, f1⟩ := flP_V h2 h.1
    obtain ⟨e2, f2⟩ := flP_Vs h3 h.2
    exact ⟨by rw [e1, e2]; rfl, by rw [List.all_cons, f1, f2]; rfl⟩
theorem RepKs.miss {k : Key} : ∀ {kvs : List (Key × PV)} {ks : List (Key × V)}, RepKs K H kvs ks → (valV ks k).isSome = (kvs.find? (fun kv => decide (kv.1 = k))).isSome
  | [], _, h => by cases (show _ = _ from h); rfl
  | (k', x) :: r, _, ⟨v, ks, h1, h2, h3⟩ => by
    subst h1
    unfold valV
    rw [List.find?_cons, List.find?_cons]
    by_cases q : k' = k
    · rw [show decide (k' = k) = true from decide_eq_true q]; rfl
    · rw [show decide (k' = k) = false from decide_eq_false q]
      exact RepKs.miss h3
def rInDk (f : Bool → Bool) : R2 := fun x y H Q => ∃ a o, y = .ref a ∧ DGet H a x o ∧ Q (.bl (f o.isSome)) H
theorem op_inDk (hu : X.A.units + 1 < cLine) : OpR X (compareOp .In) (rInDk id) := by
  intro pins s σ H x y v u Q I rx ry h
  obtain ⟨a, o, rfl, g, q⟩ := h
  cases ry
  exact d_in hu I g rx fun s' I' => ⟨.bl o.isSome, H, I', rfl, q⟩
theorem op_notinDk (hu : X.A.units + 1 < cLine) : OpR X (compareOp .NotIn) (rInDk not) := by
  intro pins s σ H x y v u Q I rx ry h
  obtain ⟨a, o, rfl, g, q⟩ := h
  cases ry
  exact d_notIn hu I g rx fun s' I' => ⟨.bl (!o.isSome), H, I', rfl, q⟩
def rInT (K : PySem.W.Frag) (f : Bool → Bool) : R2 := fun x y H Q => ∃ d ds, Dp K H x d ∧ Dp K H y (.tuple ds) ∧ SeqAt.shaped d = true ∧ SeqAt.shaped (.tuple ds) = true ∧ Q (.bl (f (ds.any fun z => PyData.eqv z d))) H
theorem op_inT (hu : X.A.units + 65 < cLine) : OpR X (compareOp .In) (rInT X.K id) := by
  intro pins s σ H x y v u Q I rx ry h
  obtain ⟨d, ds, hd, he, sd, se, q⟩ := h
  obtain ⟨as, r1⟩ := Dp.reads I d x v hd rx
  obtain ⟨bs, r2⟩ := Dp.reads I (.tuple ds) y u he ry
  exact SeqAt.in_tuple_reads r2 r1 (SeqAt.canLay_of_shaped se) (SeqAt.canLay_of_shaped sd) (room_in_shaped sd hu) ⟨.bl _, H, I, rfl, q⟩
theorem op_notInT (hu : X.A.units + 65 < cLine) : OpR X (compareOp .NotIn) (rInT X.K not) := by
  intro pins s σ H x y v u Q I rx ry h
  obtain ⟨d, ds, hd, he, sd, se, q⟩ := h
  obtain ⟨as, r1⟩ := Dp.reads I d x v hd rx
  obtain ⟨bs, r2⟩ := Dp.reads I (.tuple ds) y u he ry
  exact SeqAt.notIn_tuple_reads r2 r1 (SeqAt.canLay_of_shaped se) (SeqAt.canLay_of_shaped sd) (room_in_shaped sd hu) ⟨.bl _, H, I, rfl, q⟩
theorem ok_inG {op : CmpOp} {f : Bool → Bool} (h1 : OpR X (compareOp op) fun x y H Q => ∃ p xs, y = .ref p ∧ (SqL X.K H p xs ∨ SqT X.K H p xs) ∧ flatV x = true ∧ xs.all flatV = true ∧ Q (.bl (f (inV x xs))) H)
    (h2 : OpR X (compareOp op) fun x y H Q => ∃ i j, x = .str i ∧ y = .str j ∧ Q (.bl (f (!(Builtin.Str.occurrences j i 0 j.length 1).isEmpty))) H)
    (h3 : OpR X (compareOp op) fun x y H Q => ∃ d ds, Dp X.K H x d ∧ Dp X.K H y (.list ds) ∧ SeqAt.shaped d = true ∧ SeqAt.shaped (.list ds) = true ∧ Q (.bl (f (ds.any fun z => PyData.eqv z d))) H)
    (h4 : OpR X (compareOp op) (rInDk f)) (h5 : OpR X (compareOp op) (rInT X.K f)) : OpOk X (compareOp op) (oInG f) := by
  refine ⟨_, (h1.or (h2.or (h3.or h4))).or h5, ?_⟩
  intro x y v u H L R Q rx ry rh h k
  unfold oInG at h
  split at h
  · rename_i ys
    by_cases hf : ys.all flP = true
    · rw [if_pos hf] at h
      obtain ⟨a, vs, rfl, t, r⟩ := ry
      obtain ⟨g1, g2, g3⟩ := h
      obtain ⟨e1, f1⟩ := flP_V rx g1
      obtain ⟨e2, f2⟩ := flP_Vs r g2
      refine .inl (.inl ⟨a, vs, rfl, .inr t.sq, f1, f2, ?_⟩)
      rw [e1, e2]
      exact k.here rh g3 rfl
    · rw [if_neg hf] at h
      obtain ⟨d, ds, g1, g2, g3, g4, g5⟩ := h
      exact .inr ⟨d, ds, g1.dp rh rx, (PD.tup g2).dp rh ry, g3, g4, k.here rh g5 rfl⟩
  · cases (show _ = _ from ry)
    split at h
    · cases (show _ = _ from rx)
      exact .inl (.inr (.inl ⟨_, _, rfl, rfl, k.here rh h rfl⟩))
    · exact h.elim
  · cases (show _ = _ from ry)
    split at h
    · rename_i ys e
      obtain ⟨vs, e1, r⟩ := rh.lst e
      obtain ⟨d, ds, g1, g2, g3, g4, g5⟩ := h
      exact .inl (.inr (.inr (.inl ⟨d, ds, g1.dp rh rx, .lst (.inl (.inl e1)) (g2.dp rh r), g3, g4, k.here rh g5 rfl⟩)))
    · rename_i ys e
      obtain ⟨vs, e1, r⟩ := rh.dct e
      split at h
      · cases (show _ = _ from rx)
        rename_i i
        refine .inl (.inr (.inr (.inr ⟨_, valV vs (.inl i), rfl, .inl ⟨vs, .inl i, .inl e1, rfl, rfl⟩, ?_⟩)))
        rw [RepKs.miss r]
        exact k.here rh h rfl
      · cases (show _ = _ from rx)
        rename_i i
        refine .inl (.inr (.inr (.inr ⟨_, valV vs (.inr i), rfl, .inl ⟨vs, .inr i, .inl e1, rfl, rfl⟩, ?_⟩)))
        rw [RepKs.miss r]
        exact k.here rh h rfl
      · exact h.elim
    · exact h.elim
  · exact h.elim
theorem ok_in (hu : X.A.units + 65 < cLine) : OpOk X (compareOp .In) oIn := ok_inG op_in_seq op_in_str (op_inD hu) (op_inDk (by omega)) (op_inT hu)
theorem ok_notin (hu : X.A.units + 65 < cLine) : OpOk X (compareOp .NotIn) oNotIn := ok_inG op_notIn_seq L2.op_notin_str (op_notInD hu) (op_notinDk (by omega)) (op_notInT hu)
end
def iAny (e : WE) : WI := fun env L R => e env L fun x La => match x with
  | .ref a => match La a with
    | some (.l xs) => R ⟨xs, fun Lx => Lx a = some (.l xs)⟩ La
    | _ => False
  | .tup xs => R ⟨xs, fun _ => True⟩ La
  | .str z => R ⟨z.cps.toList.map fun c => .str ⟨#[c]⟩, fun _ => True⟩ La
  | _ => False
section
variable {X : Cx} {tg l : Expr} {wl : WE}
def iAnyT (K : PySem.W.Frag) (tl : TE) : TI := fun σ H R => tl σ H fun x H1 => (∃ a, x = .ref a ∧ (∃ xs, SqL K H1 a xs) ∧ R (Itl K a) H1) ∨ (∃ a, x = .ref a ∧ (∃ xs, SqT K H1 a xs) ∧ R (Itt K a) H1) ∨ ∃ z, x = .str z ∧ R (Its z) H1
theorem pi_any {tl : TE} (hl : PE X l tl) : PI X tg l (iAnyT X.K tl) := by
  refine ⟨fun pins s σ H R I h => ?_⟩
  refine thn (hl.run pins s σ H _ I h) fun v s1 ⟨x, H1, I1, r1, q1⟩ => ?_
  rcases q1 with ⟨a, e, ⟨xs, hq⟩, q⟩ | ⟨a, e, ⟨xs, hq⟩, q⟩ | ⟨z, e, q⟩
  · subst e
    cases r1
    obtain ⟨its, rv, p, hz⟩ := I1.list hq
    refine wpAny_pyIter_list p.isList ?_
    refine ⟨s1.heap.objs.size, [s1.heap.objs.size], _, _, H1, rfl, I1.kept (t' := s1.toks) fun b o e => Heap.get?_push_of_some _ e, turn_list a _, ⟨_, Heap.get?_push_size _ rfl, rfl, rfl⟩, fun b hb => ?_, q⟩
    have e : b = s1.heap.objs.size := by simpa using hb
    subst e
    exact I1.fpOk (Nat.le_refl _) (I1.hok.fresh (Nat.le_refl _))
  · subst e
    cases r1
    obtain ⟨its, rv, p, hz⟩ := I1.tuple hq
    refine wpAny_pyIter_tuple (show s1.heap.IsTuple a its.toArray from p) ?_
    refine ⟨s1.heap.objs.size, [s1.heap.objs.size], _, _, H1, rfl, I1.kept (t' := s1.toks) fun b o e => Heap.get?_push_of_some _ e, turn_tuple a _, ⟨_, Heap.get?_push_size _ rfl, rfl, rfl⟩, fun b hb => ?_, q⟩
    have e : b = s1.heap.objs.size := by simpa using hb
    subst e
    exact I1.fpOk (Nat.le_refl _) (I1.hok.fresh (Nat.le_refl _))
  · subst e
    obtain ⟨t, rfl⟩ := r1
    cases ha : z.cps.all (· < 128)
    · exact wpAny_pyIter_wide ha (pi_one (tk := s1.toks) I1 _ (turn_str _ z t "str_iterator" (.inr rfl)) ⟨_, Heap.get?_push_size _ rfl, rfl, rfl⟩ q)
    · exact wpAny_pyIter_ascii ha (pi_one (tk := s1.toks) I1 _ (turn_str _ z t "str_ascii_iterator" (.inl rfl)) ⟨_, Heap.get?_push_size _ rfl, rfl, rfl⟩ q)
theorem i_any (ha : PE X l (liftE X.K wl)) : PI X tg l (liftI X.K (iAny wl)) := pi_weak (pi_any ha) fun σ H R h => by
  obtain ⟨env, L, R', hs, hL, hw, k⟩ := h
  refine ⟨env, L, _, hs, hL, hw, fun x La v H1 hb f1 rx r1 => ?_⟩
  cases x <;> first | exact absurd hb (fun z => z) | skip
  · cases (show _ = _ from rx)
    exact .inr (.inr ⟨_, rfl, k _ La H1 _ hb f1 r1 wk_str⟩)
  · cases (show _ = _ from rx)
    simp only at hb
    split at hb
    · rename_i xs e
      obtain ⟨vs, h1, _⟩ := r1.lst e
      exact .inl ⟨_, rfl, ⟨vs, .of h1⟩, k _ La H1 _ hb f1 r1 wk_list⟩
    · exact hb.elim
  · obtain ⟨p, vs, rfl, t, r⟩ := rx
    exact .inr (.inl ⟨p, rfl, ⟨vs, t.sq⟩, k _ La H1 _ hb f1 r1 (wk_tup r1 t r)⟩)
end
inductive Bk where
  | fn (id : String) (g : BiF) | ty (id : String) (g : BiF)
structure Tab where
  fns : List (Str × Nat × Spec)
  con : List (Str × PV)
  non : List Str
structure Ct where
  N : List Str
  sc : Scope
  co : Str → Bool
def ixOf : List Str → Str → Option Nat
  | [], _ => none
  | y :: r, x => if y = x then some 0 else (ixOf r x).map (· + 1)
theorem ixOf_get : ∀ {N : List Str} {x : Str} {i : Nat}, ixOf N x = some i → N[i]? = some x
  | [], _, _, h => by cases h
  | y :: r, x, i, h => by
    unfold ixOf at h
    split at h
    · rename_i e
      cases h
      rw [e]
      rfl
    · cases e : ixOf r x with
      | none => rw [e] at h; cases h
      | some j =>
        rw [e] at h
        cases h
        simpa using ixOf_get e
/-- the built-ins, by name -/
def bkTab : List (Str × Bk) := [("len", .fn "len" gLen), ("isinstance", .fn "isinstance" gIsi), ("abs", .fn "abs" gAbs), ("int", .ty "int" gInt), ("list", .ty "list" gList), ("tuple", .ty "tuple" gTuple), ("all", .fn "all" gAll), ("any", .fn "any" gAny),
  ("min", .fn "min" gMin), ("max", .fn "max" gMax), ("divmod", .fn "divmod" gDivmod), ("sum", .fn "sum" gSum), ("sorted", .fn "sorted" gSorted), ("str", .ty "str" gStr), ("dict", .ty "dict" gDict)]
def bkOf (x : Str) : Option Bk := bkTab.lookup x
def tyOf (x : Str) : Option String :=
  if x = "int" then some "int" else
  if x = "bool" then some "bool" else
  if x = "str" then some "str" else
  if x = "tuple" then some "tuple" else
  if x = "list" then some "list" else
  if x = "dict" then some "dict" else none
def mtTab : List (Str × String × MtF) := [("append", "list", mAppend), ("extend", "list", mExtend), ("pop", "list", mPop), ("reverse", "list", mReverse), ("clear", "list", mClear), ("insert", "list", mInsert), ("get", "dict", mGet), ("index", "list", mIndex), ("join", "str", mJoin), ("split", "str", mSplit), ("partition", "str", mPart), ("strip", "str", mStrip), ("startswith", "str", mStarts), ("count", "str", mCount)]
def isCompL : Expr → Bool
  | .ListComp .. => true
  | _ => false
def mtOf (o : Expr) (x : Str) : Option (String × MtF) := if (isCompL o && x == ("count" : Str)) = true then some ("list", mCountL) else mtTab.lookup x
def opOf : Operator → Option Op2
  | .Add => some oAdd | .Sub => some oSub | .Mult => some oMul | .FloorDiv => some oDiv | .Mod => some oMod | .Pow => some oPow
  | _ => none
def cmOf : CmpOp → Option Op2
  | .Lt => some oLt | .LtE => some oLe | .Gt => some oGt | .GtE => some oGe | .Eq => some oEq | .NotEq => some oNe | .Is => some oIs | .IsNot => some oIsNot | .In => some oIn | .NotIn => some oNotIn
def noStar : Expr → Bool
  | .Starred _ _ => false
  | _ => true
def rgArg : List Expr → Option Expr
  | [.Call (.Name x _) [e] [] _] => if x = "range" then some e else none
  | _ => none
theorem rgArg_eq {es : List Expr} {b : Expr} (h : rgArg es = some b) : ∃ p pos, es = [.Call (.Name "range" p) [b] [] pos] := by
  unfold rgArg at h
  split at h
  · split at h
    · rename_i hx
      cases h
      exact ⟨_, _, by rw [hx]⟩
    · cases h
  · cases h
def noSuper : Expr → Bool
  | .Call _ [] _ _ => false
  | _ => true
def noComp : Expr → Bool
  | .ListComp _ _ _ _ | .SetComp _ _ _ _ | .DictComp _ _ _ _ _ => false
  | _ => true
def noSetE : Expr → Bool
  | .Set _ _ _ => false
  | _ => true
def noSlice : Expr → Bool
  | .Slice _ _ _ _ => false
  | _ => true
def okName (x : Str) : Bool := !(x == ("__debug__" : Str)) && !(x == ("__classdict__" : Str)) && !(x == ("__name__" : Str))
def cVar (c : Ct) (x : Str) : Option Nat := match c.sc.names.lookup x with
  | some .local => ixOf c.N x
  | some .cell => ixOf c.N x
  | some .free => ixOf c.N x
  | _ => none
/-- a name that is stored -/
def cSto (c : Ct) (x : Str) : Option Nat := match c.sc.names.lookup x with
  | some .local => ixOf c.N x
  | some .cell => if c.co x = true then ixOf c.N x else none
  | _ => none
def isGl (c : Ct) (x : Str) : Bool := c.sc.names.lookup x == some .globalImplicit
def optAll {α β : Type} (f : α → Option β) : List α → Option (List β)
  | [] => some []
  | a :: r => match f a, optAll f r with
    | some b, some bs => some (b :: bs)
    | _, _ => none
def op2 {α β γ : Type} (f : α → β → γ) : Option α → Option β → Option γ
  | some a, some b => some (f a b)
  | _, _ => none
def op3 {α β γ δ : Type} (f : α → β → γ → δ) : Option α → Option β → Option γ → Option δ
  | some a, some b, some c => some (f a b c)
  | _, _, _ => none
def wName (T : Tab) (c : Ct) (x : Str) : Option WE :=
  if okName x = false then none else
  match cVar c x with
  | some i => some (wVar i)
  | none => if isGl c x = false then none else
    match T.con.lookup x with
    | some p => some (wC p)
    | none => if T.non.contains x = true then (tyOf x).map fun s => wC (.ty s) else none
def wConst : Const → Option WE
  | .int i => some (wC (.int i)) | .bool b => some (wC (.bl b)) | .str x => some (wC (.str x)) | .none => some (wC .non)
  | _ => none
def negC : Expr → Option Int
  | .Constant (.int i) _ _ => some i
  | _ => none
/-- a call by a name -/
def wCallN (T : Tab) (c : Ct) (x : Str) (n : Nat) (ws : Option (List WE)) : Option WE :=
  if okName x = false || isGl c x = false then none else
  match ws with
  | none => none
  | some ws => match T.fns.lookup x with
    | some (m, S) => if m = n then some (wCall S ws) else none
    | none => if T.non.contains x = true then (match bkOf x with
      | some (.fn _ g) => if n = 0 then none else some (wBi g ws)
      | some (.ty _ g) => if n = 0 then none else some (wBi g ws)
      | none => none) else none
def tgOne (c : Ct) : Expr → Option Nat
  | .Name x _ => if okName x = true then cSto c x else none
  | _ => none
/-- a comprehension's target -/
def cTg (c : Ct) : Expr → Option (WG × List Nat)
  | .Name x _ => (if okName x = true then cSto c x else none).map fun i => (gN i, [i])
  | .Tuple es _ _ => (optAll (tgOne c) es).map fun is => (gT is.length (gsN is), is)
  | _ => none
def ownOf (c : Ct) (scope : Scope) : List (Str × Nat) := scope.names.filterMap fun (n, k) => match k with
  | .local => (ixOf c.N n).map fun i => (n, i)
  | .cell => (ixOf c.N n).map fun i => (n, i)
  | _ => none
def blkCt (c : Ct) (scope : Scope) : Ct := { N := c.N, sc := relS scope c.sc, co := fun x => scope.names.lookup x == some .cell }
/-- list(zip(e, f)) -/
def lzOf (T : Tab) (c : Ct) (x : Str) (args : List Expr) : Option (Expr × Expr) := match args with
  | [.Call (.Name y _) [e, f] [] _] => if x = "list" ∧ y = "zip" ∧ T.non.contains "zip" = true ∧ isGl c "zip" = true ∧ T.non.contains "list" = true ∧ isGl c "list" = true then some (e, f) else none
  | _ => none
section
variable (T : Tab)
mutual
def cE : Nat → Ct → Expr → Option WE
  | 0, _, _ => none
  | n + 1, c, e => match e with
    | .Constant k _ _ => wConst k
    | .Name x _ => wName T c x
    | .BinOp a op b _ => op3 wBin (opOf op) (cE n c a) (cE n c b)
    | .UnaryOp .USub a _ => (match negC a with
      | some i => some (wC (.int (-i)))
      | none => (cE n c a).map (wUn oNeg))
    | .UnaryOp .Not a _ => (cE n c a).map (wUn oNot)
    | .BoolOp .And es _ => cAnd n c es
    | .BoolOp .Or es _ => cOr n c es
    | .Compare a [op] [b] _ => if noSetE b = true then op3 wBin (cmOf op) (cE n c a) (cE n c b) else none
    | .Compare a [op, op'] [b, d] _ => if noSetE d = true then (match op2 wChain (cmOf op) (cmOf op') with
      | some f => op3 f (cE n c a) (cE n c b) (cE n c d)
      | none => none) else none
    | .IfExp t a b _ => op3 wIfE (cT n c t) (cE n c a) (cE n c b)
    | .Tuple es _ _ => (cEs n c es).map wTup
    | .List es _ => (cEs n c es).map wLst
    | .Subscript a s _ => cSub n c a s
    | .Call f args kws pos => if kws.isEmpty = true then cCall n c f args pos else none
    | .ListComp elt [⟨tg, iter, ifs, 0⟩] scope _ => cComp n c elt tg iter ifs scope
    | .Dict keys values _ => (match optAll keyC keys, optAll (cE n c) values with
      | some ks, some ws => if ks.length = ws.length ∧ ks.length ≤ 15 ∧ ks.Nodup then some (wDisp (ks.zip ws)) else none
      | _, _ => none)
    | _ => none
def cEs : Nat → Ct → List Expr → Option (List WE)
  | 0, _, _ => none
  | n + 1, c, es => match es with
    | [] => some []
    | e :: r => if noStar e = true then op2 List.cons (cE n c e) (cEs n c r) else none
def cAnd : Nat → Ct → List Expr → Option WE
  | 0, _, _ => none
  | n + 1, c, es => match es with
    | [] => none
    | [e] => cE n c e
    | e :: r => op2 wAnd (cE n c e) (cAnd n c r)
def cOr : Nat → Ct → List Expr → Option WE
  | 0, _, _ => none
  | n + 1, c, es => match es with
    | [] => none
    | [e] => cE n c e
    | e :: r => op2 wOr (cE n c e) (cOr n c r)
/-- a test -/
def cT : Nat → Ct → Expr → Option WE
  | 0, _, _ => none
  | n + 1, c, e => match e with
    | .UnaryOp .Not a _ => (cT n c a).map (wUn oNot)
    | .BoolOp .And es _ => cTAnd n c es
    | .BoolOp .Or es _ => cTOr n c es
    | .Compare a [op] [b] _ => if noSetE b = true then op3 wBin (cmOf op) (cE n c a) (cE n c b) else none
    | .Compare a [op, op'] [b, d] _ => if noSetE d = true then (match op2 wChain (cmOf op) (cmOf op') with
      | some f => op3 f (cE n c a) (cE n c b) (cE n c d)
      | none => none) else none
    | .Name x _ => (wName T c x).map wTru
    | .Subscript a s _ => cSub n c a s
    | .Call f args kws pos => if kws.isEmpty = true then cCall n c f args pos else none
    | _ => none
def cTAnd : Nat → Ct → List Expr → Option WE
  | 0, _, _ => none
  | n + 1, c, es => match es with
    | [] => none
    | [e] => cT n c e
    | e :: r => op2 wAnd (cT n c e) (cTAnd n c r)
def cTOr : Nat → Ct → List Expr → Option WE
  | 0, _, _ => none
  | n + 1, c, es => match es with
    | [] => none
    | [e] => cT n c e
    | e :: r => op2 wOr (cT n c e) (cTOr n c r)
def cSub : Nat → Ct → Expr → Expr → Option WE
  | 0, _, _, _ => none
  | n + 1, c, a, s => match s with
    | .Slice lo hi none _ => op3 wSl (cE n c a) (cO n c lo) (cO n c hi)
    | .Slice none none (some (.UnaryOp .USub (.Constant (.int 1) _ _) _)) _ => (cE n c a).map (wUn oRev)
    | .Slice _ _ _ _ => none
    | i => op2 (wBin oIx) (cE n c a) (cE n c i)
def cO : Nat → Ct → Option Expr → Option WO
  | 0, _, _ => none
  | _ + 1, _, none => some wNo
  | n + 1, c, some e => (cE n c e).map wSo
def cCall : Nat → Ct → Expr → List Expr → Pos → Option WE
  | 0, _, _, _, _ => none
  | n + 1, c, f, args, pos => match f with
    | .Name x _ => (match lzOf T c x args with
      | some (e, g) => (match cEs n c [e, g] with
        | some [a, b] => some (wLzip a b)
        | _ => none)
      | none => wCallN T c x args.length (cEs n c args))
    | .Attribute o m apos => if noSuper o = true ∧ (apos.endLine == pos.line) = true ∧ args.length < 29 then (match mtOf o m with
      | some (s, g) => op2 (wMt s g) (cE n c o) (cEs n c args)
      | none => none) else none
    | _ => none
def cComp : Nat → Ct → Expr → Expr → Expr → List Expr → Scope → Option WE
  | 0, _, _, _, _, _, _ => none
  | n + 1, c, elt, tg, iter, ifs, scope =>
    if blkC c.N c.sc scope (ownOf c scope) = true then
      match cI n c tg iter, cTg (blkCt c scope) tg, cE n (blkCt c scope) elt with
      | some wi, some (g, is), some we => if is.all (fun i => (ownOf c scope).any fun p => p.2 == i) = true then (match ifs with
        | [] => some (wComp ((ownOf c scope).map (·.2)) wi g (wC (.bl true)) we)
        | [t] => (cT n (blkCt c scope) t).map fun wt => wComp ((ownOf c scope).map (·.2)) wi g wt we
        | _ => none) else none
      | _, _, _ => none
    else none
/-- what is walked -/
def cI : Nat → Ct → Expr → Expr → Option WI
  | 0, _, _, _ => none
  | n + 1, c, tg, iter => match iter with
    | .Call (.Name x _) args [] _ =>
      if x = "range" then (if T.non.contains "range" = true ∧ isGl c "range" = true then (match cEs n c args with
        | some [a] => some (iR1 a)
        | some [a, b] => some (iR2 a b)
        | some [a, b, d] => some (iR3 a b d)
        | _ => none) else none)
      else if x = "enumerate" then (if T.non.contains "enumerate" = true ∧ isGl c "enumerate" = true then (match tg, cEs n c args with
        | .Tuple _ _ _, some [a] => some (iEn a)
        | _, _ => none) else none)
      else if x = "zip" then (if T.non.contains "zip" = true ∧ isGl c "zip" = true then (match tg, cEs n c args with
        | .Tuple _ _ _, some [a, b] => some (iZp a b)
        | .Tuple _ _ _, some [a, b, d] => some (iZ3 a b d)
        | _, _ => none) else none)
      else if x = "reversed" then (if T.non.contains "reversed" = true ∧ isGl c "reversed" = true then (match rgArg args with
        | some b => if (T.non.contains "range" = true ∧ isGl c "range" = true) ∧ noStar b = true then (cE n c b).map iRr else none
        | none => match cEs n c args with
          | some [a] => some (iRv a)
          | _ => none) else none)
      else (cE n c iter).map iAny
    | .Call (.Attribute o m apos) [] [] cpos => (match tg with
      | .Tuple _ _ _ => if m = "items" ∧ noSuper o = true ∧ (apos.endLine == cpos.line) = true then (cE n c o).map iIm else (cE n c iter).map iAny
      | _ => (cE n c iter).map iAny)
    | .Set _ _ _ => none
    | e => (cE n c e).map iAny
end
end
end
section
open PySem PySem.Spec PyProof.Rows L2
structure XOk (X : Cx) (T : Tab) (c : Ct) : Prop where
  N : X.N = c.N
  nd : X.N.Nodup
  sc : X.env.scope = c.sc
  kd : c.sc.kind = .function
  co : ∀ x, c.co x = true → X.fn x = true
  calm : X.calm = true
  gd : X.A.guards = some []
  fns : ∃ k, Room k X.A ∧ ∀ x n S, T.fns.lookup x = some (n, S) → FnIs X.prog X.w X.K X.mg X.base k x n S
  non : ∀ x, T.non.contains x = true → X.mg x = none
  con : ∀ x p, T.con.lookup x = some p → ∃ u v, X.mg x = some u ∧ RelV v u ∧ ∀ H, RepV X.K H p v
section
variable {X : Cx} {T : Tab} {c : Ct}
theorem XOk.hu (h : XOk X T c) : X.A.units + 65 < cLine := by
  obtain ⟨k, hr, _⟩ := h.fns
  have := hr.un
  omega
theorem op2_some {α β γ : Type} {f : α → β → γ} {a : Option α} {b : Option β} {z : γ} (h : op2 f a b = some z) : ∃ x y, a = some x ∧ b = some y ∧ z = f x y := by
  cases a <;> cases b <;> first | (cases h; done) | exact ⟨_, _, rfl, rfl, (Option.some.inj h).symm⟩
theorem op3_some {α β γ δ : Type} {f : α → β → γ → δ} {a : Option α} {b : Option β} {d : Option γ} {z : δ} (h : op3 f a b d = some z) : ∃ x y w, a = some x ∧ b = some y ∧ d = some w ∧ z = f x y w := by
  cases a <;> cases b <;> cases d <;> first | (cases h; done) | exact ⟨_, _, _, rfl, rfl, rfl, (Option.some.inj h).symm⟩
theorem map_some' {α β : Type} {f : α → β} {a : Option α} {z : β} (h : a.map f = some z) : ∃ x, a = some x ∧ z = f x := by
  cases a <;> first | (cases h; done) | exact ⟨_, rfl, (Option.some.inj h).symm⟩
theorem opOf_ok {op : Operator} {f : Op2} (h : opOf op = some f) : OpOk X (binaryOp op) f := by
  cases op <;> first | (cases h; done) | skip
  · cases h; exact ok_add
  · cases h; exact ok_sub
  · cases h; exact ok_mul
  · cases h; exact ok_mod
  · cases h; exact ok_pow
  · cases h; exact ok_div
theorem cmOf_ok (hx : XOk X T c) {op : CmpOp} {f : Op2} (h : cmOf op = some f) : OpOk X (compareOp op) f := by
  have hu := hx.hu
  cases op <;> (cases h) <;> first | exact ok_eq (by omega) | exact ok_ne (by omega) | exact ok_lt | exact ok_le | exact ok_gt | exact ok_ge | exact ok_is | exact ok_isnot | exact ok_in hu | exact ok_notin hu
theorem setE_marks {op : CmpOp} {b : Expr} (h : noSetE b = true) : behindInMarks op b = false := by
  cases b <;> first | rfl | cases h
theorem setE_last {op op' : CmpOp} {b d : Expr} (h : noSetE d = true) : lastMarks [op, op'] [b, d] = false := setE_marks h
theorem okName_of {x : Str} (h : okName x = true) : (x == ("__debug__" : Str)) = false ∧ (x == ("__classdict__" : Str)) = false ∧ x ≠ "__name__" := by
  unfold okName at h
  simp only [Bool.and_eq_true, Bool.not_eq_true'] at h
  exact ⟨h.1.1, h.1.2, fun e => by rw [e] at h; exact absurd h.2 (by decide +kernel)⟩
theorem cVar_ok (hx : XOk X T c) {x : Str} {i : Nat} (h : cVar c x = some i) : X.N[i]? = some x ∧ Vis X.env.scope x := by
  unfold cVar at h
  rw [hx.N, hx.sc]
  split at h
  · rename_i e; exact ⟨ixOf_get h, .inl e⟩
  · rename_i e; exact ⟨ixOf_get h, .inr (.inl e)⟩
  · rename_i e; exact ⟨ixOf_get h, .inr (.inr e)⟩
  · cases h
theorem cSto_ok (hx : XOk X T c) {x : Str} {i : Nat} (h : cSto c x = some i) : X.N[i]? = some x ∧ Loc X.env.scope x ∧ (X.fn x = true ∨ X.env.scope.names.lookup x = some .local) := by
  unfold cSto at h
  rw [hx.N, hx.sc]
  split at h
  · rename_i e; exact ⟨ixOf_get h, .inl e, .inr e⟩
  · rename_i e
    split at h
    · rename_i e2
      exact ⟨ixOf_get h, .inr e, .inl (hx.co x e2)⟩
    · cases h
  · cases h
theorem isGl_ok (hx : XOk X T c) {x : Str} (h : isGl c x = true) : Gl X x := by
  unfold isGl at h
  show X.env.scope.names.lookup x = some .globalImplicit
  rw [hx.sc]
  simpa using h
theorem tyOf_ok {x : Str} {s : String} (h : tyOf x = some s) : bootBuiltins x = some (.type s) := by
  unfold tyOf at h
  repeat' (split at h; · rename_i e; cases h; rw [e]; decide +kernel)
  cases h
theorem wName_ok (hx : XOk X T c) {x : Str} {w : WE} {pos : Pos} (h : wName T c x = some w) : PE X (.Name x pos) (liftE X.K w) := by
  unfold wName at h
  split at h
  · cases h
  · rename_i hok
    have hok : okName x = true := by simpa using hok
    obtain ⟨h1, h2, h3⟩ := okName_of hok
    split at h
    · rename_i i e
      cases h
      obtain ⟨e1, e2⟩ := cVar_ok hx e
      exact q_var e1 e2 h1 h2
    · split at h
      · cases h
      · rename_i hg
        have hg := isGl_ok hx (by simpa using hg)
        split at h
        · rename_i p e
          cases h
          obtain ⟨u, v, e1, e2, e3⟩ := hx.con x p e
          exact q_const (pe_glob hg e1 e2 h1) e3
        · split at h
          · rename_i hn
            obtain ⟨s, e1, rfl⟩ := map_some' h
            exact q_const (pe_bltn hg (hx.non x hn) (tyOf_ok e1) (v := .ty s) rfl h3 h1) fun _ => rfl
          · cases h
theorem wConst_ok {k : Const} {w : WE} {j : Nat} {pos : Pos} (h : wConst k = some w) : PE X (.Constant k j pos) (liftE X.K w) := by
  cases k <;> first | (cases h; done) | skip
  all_goals cases h
  · exact q_const pe_non fun _ => rfl
  · exact q_const pe_bl fun _ => rfl
  · exact q_const pe_int fun _ => rfl
  · exact q_const pe_str fun _ => rfl
theorem star_cons {e : Expr} {es : List Expr} {env : PySem.Env} (h : noStar e = true) : starEach (e :: es) env = (false, eval e env) :: starEach es env := by
  cases e <;> first | rfl | cases h
theorem star_any {pos : Pos} {env : PySem.Env} : ∀ {es : List Expr}, es.all noStar = true → (backTo pos (starEach es env)).any (·.1) = false
  | [], _ => rfl
  | e :: r, h => by
    rw [List.all_cons, Bool.and_eq_true] at h
    rw [star_cons h.1]
    show (false || (backTo pos (starEach r env)).any (·.1)) = false
    rw [star_any h.2]
    rfl
theorem star_few {pos : Pos} {env : PySem.Env} : ∀ {es : List Expr}, es.all noStar = true → (backTo pos (starEach es env)).all (fun x => !x.1) = true
  | [], _ => rfl
  | e :: r, h => by
    rw [List.all_cons, Bool.and_eq_true] at h
    rw [star_cons h.1]
    show (!false && (backTo pos (starEach r env)).all (fun x => !x.1)) = true
    rw [star_few h.2]
    rfl
theorem super_base {o : Expr} {m : Str} {env : PySem.Env} {whole : Sem Value} (h : noSuper o = true) : attributeBase o m env whole = whole := by
  cases o <;> first | rfl | skip
  rename_i f args kws p
  cases args with
  | nil => cases h
  | cons a as => cases f <;> rfl
def BkOk (X : Cx) (x : Str) : Bk → Prop
  | .fn id g => BiOk X (.builtin id) g ∧ bootBuiltins x = some (.builtin id)
  | .ty id g => BiOk X (.type id) g ∧ bootBuiltins x = some (.type id)
theorem bkOf_ok (hx : XOk X T c) {x : Str} {b : Bk} (h : bkOf x = some b) : BkOk X x b := by
  have hc := hx.calm
  have hm := PySem.mem_of_lookup (show bkTab.lookup x = some b from h)
  unfold bkTab at hm
  rcases List.mem_cons.mp hm with e | hm
  · cases e; exact ⟨b_len, by decide +kernel⟩
  rcases List.mem_cons.mp hm with e | hm
  · cases e; exact ⟨b_isi, by decide +kernel⟩
  rcases List.mem_cons.mp hm with e | hm
  · cases e; exact ⟨b_abs, by decide +kernel⟩
  rcases List.mem_cons.mp hm with e | hm
  · cases e; exact ⟨b_int, by decide +kernel⟩
  rcases List.mem_cons.mp hm with e | hm
  · cases e; exact ⟨b_list, by decide +kernel⟩
  rcases List.mem_cons.mp hm with e | hm
  · cases e; exact ⟨b_tuple, by decide +kernel⟩
  rcases List.mem_cons.mp hm with e | hm
  · cases e; exact ⟨b_all hc, by decide +kernel⟩
  rcases List.mem_cons.mp hm with e | hm
  · cases e; exact ⟨b_any hc, by decide +kernel⟩
  rcases List.mem_cons.mp hm with e | hm
  · cases e; exact ⟨b_min hc, by decide +kernel⟩
  rcases List.mem_cons.mp hm with e | hm
  · cases e; exact ⟨b_max hc, by decide +kernel⟩
  rcases List.mem_cons.mp hm with e | hm
  · cases e; exact ⟨b_divmod, by decide +kernel⟩
  rcases List.mem_cons.mp hm with e | hm
  · cases e; exact ⟨b_sum hc, by decide +kernel⟩
  rcases List.mem_cons.mp hm with e | hm
  · cases e; exact ⟨b_sorted hx.hu, by decide +kernel⟩
  rcases List.mem_cons.mp hm with e | hm
  · cases e; exact ⟨b_str hx.hu hx.gd, by decide +kernel⟩
  rcases List.mem_cons.mp hm with e | hm
  · cases e; exact ⟨b_dict hc, by decide +kernel⟩
  cases hm
theorem mtOf_ok (hx : XOk X T c) {o : Expr} {m : Str} {s : String} {g : MtF} (h : mtOf o m = some (s, g)) : MtOk X s m g := by
  have hu := hx.hu
  unfold mtOf at h
  split at h
  · rename_i hc
    rw [Bool.and_eq_true, beq_iff_eq] at hc
    cases h
    rw [hc.2]
    exact k_countL hu
  have hm := PySem.mem_of_lookup (show mtTab.lookup m = some (s, g) from h)
  unfold mtTab at hm
  rcases List.mem_cons.mp hm with e | hm
  · cases e; exact k_append
  rcases List.mem_cons.mp hm with e | hm
  · cases e; exact k_extend
  rcases List.mem_cons.mp hm with e | hm
  · cases e; exact k_pop
  rcases List.mem_cons.mp hm with e | hm
  · cases e; exact k_reverse
  rcases List.mem_cons.mp hm with e | hm
  · cases e; exact k_clear
  rcases List.mem_cons.mp hm with e | hm
  · cases e; exact k_insert
  rcases List.mem_cons.mp hm with e | hm
  · cases e; exact k_get (by omega)
  rcases List.mem_cons.mp hm with e | hm
  · cases e; exact k_index hu
  rcases List.mem_cons.mp hm with e | hm
  · cases e; exact k_join
  rcases List.mem_cons.mp hm with e | hm
  · cases e; exact k_split
  rcases List.mem_cons.mp hm with e | hm
  · cases e; exact k_part
  rcases List.mem_cons.mp hm with e | hm
  · cases e; exact k_strip
  rcases List.mem_cons.mp hm with e | hm
  · cases e; exact k_starts
  rcases List.mem_cons.mp hm with e | hm
  · cases e; exact k_count
  cases hm
theorem wCallN_ok (hx : XOk X T c) {x : Str} {args : List Expr} {ws : Option (List WE)} {w : WE} {p pos : Pos} (h : wCallN T c x args.length ws = some w)
    (ha : ∀ vs, ws = some vs → PA X args (liftA X.K vs) ∧ args.all noStar = true ∧ vs.length = args.length) : PE X (.Call (.Name x p) args [] pos) (liftE X.K w) := by
  unfold wCallN at h
  split at h
  · cases h
  · rename_i hok
    rw [Bool.or_eq_true, not_or] at hok
    obtain ⟨h1, h2, h3⟩ := okName_of (x := x) (by simpa using hok.1)
    have hg := isGl_ok hx (x := x) (by simpa using hok.2)
    split at h
    · cases h
    · rename_i vs
      obtain ⟨hpa, hns, hlen⟩ := ha vs rfl
      split at h
      · rename_i m S e
        split at h
        · rename_i hm
          subst hm
          cases h
          obtain ⟨k, hr, hf⟩ := hx.fns
          have F := hf x _ S e
          cases args with
          | nil =>
            have ev : vs = [] := List.eq_nil_of_length_eq_zero hlen
            subst ev
            exact q_call0 F hx.gd hr hg h1
          | cons a as =>
            rw [List.all_cons, Bool.and_eq_true] at hns
            exact q_call F hx.gd hr hg hlen hpa h1 (star_cons hns.1) (star_any hns.2)
        · cases h
      · split at h
        · rename_i hn
          have hm := hx.non x hn
          split at h
          · rename_i id g e
            split at h
            · cases h
            · rename_i hz
              cases h
              obtain ⟨b1, b2⟩ := (show BiOk X (.builtin id) g ∧ _ from bkOf_ok hx e)
              cases args with
              | nil => exact absurd rfl hz
              | cons a as =>
                rw [List.all_cons, Bool.and_eq_true] at hns
                exact q_bi b1 hg hm b2 hpa h3 h1 (star_cons hns.1) (star_any hns.2)
          · rename_i id g e
            split at h
            · cases h
            · rename_i hz
              cases h
              obtain ⟨b1, b2⟩ := (show BiOk X (.type id) g ∧ _ from bkOf_ok hx e)
              cases args with
              | nil => exact absurd rfl hz
              | cons a as =>
                rw [List.all_cons, Bool.and_eq_true] at hns
                exact q_ty b1 hg hm b2 hpa h3 h1 (star_cons hns.1) (star_any hns.2)
          · cases h
        · cases h
theorem optAll_paired {α β : Type} {f : α → Option β} {r : α → β → Prop} (h : ∀ a b, f a = some b → r a b) : ∀ {as : List α} {bs : List β}, optAll f as = some bs → Paired r as bs
  | [], _, e => by cases e; exact .nil
  | a :: as, _, e => by
    unfold optAll at e
    split at e
    · rename_i b bs h1 h2
      cases e
      exact .cons (h a b h1) (optAll_paired h h2)
    · cases e
theorem optAll_map {α β : Type} {f : α → Option β} : ∀ {as : List α} {bs : List β}, optAll f as = some bs → as.map f = bs.map some
  | [], _, e => by cases e; rfl
  | a :: as, _, e => by
    unfold optAll at e
    split at e
    · rename_i b bs h1 h2
      cases e
      rw [List.map_cons, List.map_cons, h1, optAll_map h2]
    · cases e
theorem tgOne_ok {X : Cx} {c : Ct} (hx : XOk X T c) {e : Expr} {i : Nat} (h : tgOne c e = some i) : PG X e (gName i) ∧ noStar e = true := by
  cases e <;> first | (cases h; done) | skip
  rename_i x p
  have h : (if okName x = true then cSto c x else none) = some i := h
  split at h
  · obtain ⟨h1, h2, h3⟩ := cSto_ok hx h
    exact ⟨pg_name hx.nd h1 h2 h3, rfl⟩
  · cases h
theorem asg_len {env : PySem.Env} : ∀ {es : List Expr}, es.all noStar = true → (assignEach es env).length = es.length ∧ (assignEach es env).findIdx? (·.1) = none ∧ (assignEach es env).map (·.2) = es.map fun e => assign e env
  | [], _ => ⟨rfl, rfl, rfl⟩
  | e :: r, h => by
    rw [List.all_cons, Bool.and_eq_true] at h
    obtain ⟨h1, h2, h3⟩ := asg_len (env := env) h.2
    have e1 : assignEach (e :: r) env = (false, assign e env) :: assignEach r env := by
      have := h.1
      cases e <;> first | rfl | cases this
    rw [e1]
    refine ⟨by rw [List.length_cons, List.length_cons, h1], ?_, by rw [List.map_cons, List.map_cons, h3]⟩
    rw [List.findIdx?_cons]
    simp [h2]
theorem blk_ok (hx : XOk X T c) {scope : Scope} (hk : BlkOk X.N X.env.scope scope (ownOf c scope)) (s : Shared) (H : Hp) (C : Addr) (cl : List (Str × Addr)) (fp : List Addr) : XOk (X.blk s H scope (compEnvC scope cl C X.env) fp) T (blkCt c scope) := by
  refine ⟨hx.N, hx.nd, ?_, hk.kind, fun x h => h, hx.calm, hx.gd, hx.fns, hx.non, hx.con⟩
  show relS scope X.env.scope = relS scope c.sc
  rw [hx.sc]
end
end
section
open PySem PySem.Spec PyProof.Rows L2
theorem plain_ix {s : Expr} (h : noSlice s = true) : PlainIx s := fun o i => by cases s <;> first | rfl | cases h
theorem no_fold {iter : Expr} {env : PySem.Env} (h : noSetE iter = true) (x : Value) : foldedSetIterable iter env x = pure x := by cases iter <;> first | rfl | cases h
theorem cI_set {T : Tab} {n : Nat} {c : Ct} {tg iter : Expr} {w : WI} (h : cI T n c tg iter = some w) : noSetE iter = true := by
  cases n with
  | zero => simp only [cI] at h; cases h
  | succ n => cases iter <;> first | rfl | (simp only [cI] at h; cases h)
structure Sn (T : Tab) (n : Nat) : Prop where
  e : ∀ {X : Cx} {c : Ct} {e : Expr} {w : WE}, XOk X T c → cE T n c e = some w → PE X e (liftE X.K w)
  es : ∀ {X : Cx} {c : Ct} {es : List Expr} {ws : List WE}, XOk X T c → cEs T n c es = some ws → PA X es (liftA X.K ws) ∧ es.all noStar = true ∧ ws.length = es.length
  and : ∀ {X : Cx} {c : Ct} {es : List Expr} {w : WE} {pos : Pos}, XOk X T c → cAnd T n c es = some w → PE X (.BoolOp .And es pos) (liftE X.K w)
  or : ∀ {X : Cx} {c : Ct} {es : List Expr} {w : WE} {pos : Pos}, XOk X T c → cOr T n c es = some w → PE X (.BoolOp .Or es pos) (liftE X.K w)
  t : ∀ {X : Cx} {c : Ct} {e : Expr} {w : WE}, XOk X T c → cT T n c e = some w → PT X e (liftT X.K w)
  tand : ∀ {X : Cx} {c : Ct} {es : List Expr} {w : WE} {pos : Pos}, XOk X T c → cTAnd T n c es = some w → PW X (.BoolOp .And es pos) (liftT X.K w)
  tor : ∀ {X : Cx} {c : Ct} {es : List Expr} {w : WE} {pos : Pos}, XOk X T c → cTOr T n c es = some w → PW X (.BoolOp .Or es pos) (liftT X.K w)
  sub : ∀ {X : Cx} {c : Ct} {a s : Expr} {w : WE} {pos : Pos}, XOk X T c → cSub T n c a s = some w → PE X (.Subscript a s pos) (liftE X.K w)
  o : ∀ {X : Cx} {c : Ct} {o : Option Expr} {w : WO}, XOk X T c → cO T n c o = some w → PO X o (liftO X.K w)
  call : ∀ {X : Cx} {c : Ct} {f : Expr} {args : List Expr} {w : WE} {pos : Pos}, XOk X T c → cCall T n c f args pos = some w → PE X (.Call f args [] pos) (liftE X.K w)
  comp : ∀ {X : Cx} {c : Ct} {elt tg iter : Expr} {ifs : List Expr} {scope : Scope} {w : WE}, XOk X T c → cComp T n c elt tg iter ifs scope = some w →
    (∀ pos, PE X (.ListComp elt [⟨tg, iter, ifs, 0⟩] scope pos) (liftE X.K w)) ∧
    ∀ (pos spos py : Pos) (i : Nat) (y : Str), X.N[i]? = some y → X.env.scope.names.lookup y = some .local → swapsWith (.ListComp elt [⟨tg, iter, ifs, 0⟩] scope pos) (some (.Name y py)) spos.line X.env = pure true →
      PS X (.Assign [.Name y py] (.ListComp elt [⟨tg, iter, ifs, 0⟩] scope pos) spos) (liftS X.K (sAsg (gN i) w))
  i : ∀ {X : Cx} {c : Ct} {tg iter : Expr} {w : WI}, XOk X T c → cI T n c tg iter = some w → PI X tg iter (liftI X.K w)
section
variable {T : Tab}
theorem sn_zero : Sn T 0 := by
  refine ⟨?_, ?_, ?_, ?_, ?_, ?_, ?_, ?_, ?_, ?_, ?_, ?_⟩ <;> (intros; rename_i h; first | (simp only [cE] at h; cases h) | (simp only [cEs] at h; cases h) | (simp only [cAnd] at h; cases h) | (simp only [cOr] at h; cases h) | (simp only [cT] at h; cases h) | (simp only [cTAnd] at h; cases h) | (simp only [cTOr] at h; cases h) | (simp only [cSub] at h; cases h) | (simp only [cO] at h; cases h) | (simp only [cCall] at h; cases h) | (simp only [cComp] at h; cases h) | (simp only [cI] at h; cases h))
variable {n : Nat} {X : Cx} {c : Ct}
theorem sn_cmp (ih : Sn T n) (hx : XOk X T c) {a b : Expr} {op : CmpOp} {w : WE} {pos : Pos} (h : (if noSetE b = true then op3 wBin (cmOf op) (cE T n c a) (cE T n c b) else none) = some w) :
    PE X (.Compare a [op] [b] pos) (liftE X.K w) ∧ PT X (.Compare a [op] [b] pos) (liftT X.K w) := by
  split at h
  · rename_i hs
    obtain ⟨f, wa, wb, h1, h2, h3, rfl⟩ := op3_some h
    exact ⟨q_cmp (cmOf_ok hx h1) (ih.e hx h2) (ih.e hx h3) (setE_marks hs), t_cmp (cmOf_ok hx h1) (ih.e hx h2) (ih.e hx h3) (setE_marks hs)⟩
  · cases h
theorem sn_chain (ih : Sn T n) (hx : XOk X T c) {a b d : Expr} {op op' : CmpOp} {w : WE} {pos : Pos}
    (h : (if noSetE d = true then (match op2 wChain (cmOf op) (cmOf op') with | some f => op3 f (cE T n c a) (cE T n c b) (cE T n c d) | none => none) else none) = some w) :
    PE X (.Compare a [op, op'] [b, d] pos) (liftE X.K w) ∧ PT X (.Compare a [op, op'] [b, d] pos) (liftT X.K w) := by
  split at h
  · rename_i hs
    split at h
    · rename_i f e
      obtain ⟨f1, f2, g1, g2, rfl⟩ := op2_some e
      obtain ⟨wa, wb, wc, h1, h2, h3, rfl⟩ := op3_some h
      exact ⟨q_chain (cmOf_ok hx g1) (cmOf_ok hx g2) (ih.e hx h1) (ih.e hx h2) (ih.e hx h3) (setE_last hs), t_chain (cmOf_ok hx g1) (cmOf_ok hx g2) (ih.e hx h1) (ih.e hx h2) (ih.e hx h3) (setE_last hs)⟩
    · cases h
  · cases h
theorem sn_neg (ih : Sn T n) (hx : XOk X T c) {a : Expr} {w : WE} {pos : Pos} (h : (match negC a with | some i => some (wC (.int (-i))) | none => (cE T n c a).map (wUn oNeg)) = some w) : PE X (.UnaryOp .USub a pos) (liftE X.K w) := by
  split at h
  · rename_i i e
    cases h
    cases a <;> first | (cases e; done) | skip
    rename_i k j p
    cases k <;> first | (cases e; done) | skip
    cases e
    exact q_neg (wa := wC (.int i)) (q_const pe_int fun _ => rfl)
  · obtain ⟨wa, h1, rfl⟩ := map_some' h
    exact q_neg (ih.e hx h1)
theorem sn_e (ih : Sn T n) (hx : XOk X T c) {e : Expr} {w : WE} (h : cE T (n + 1) c e = some w) : PE X e (liftE X.K w) := by
  cases e with
  | Constant k j p => simp only [cE] at h; exact wConst_ok h
  | Name x p => simp only [cE] at h; exact wName_ok hx h
  | BinOp a op b p =>
    simp only [cE] at h
    obtain ⟨f, wa, wb, h1, h2, h3, rfl⟩ := op3_some h
    exact q_bin (opOf_ok h1) (ih.e hx h2) (ih.e hx h3)
  | UnaryOp op a p =>
    cases op with
    | USub => simp only [cE] at h; exact sn_neg ih hx h
    | Not =>
      simp only [cE] at h
      obtain ⟨wa, h1, rfl⟩ := map_some' h
      exact q_not (ih.e hx h1)
    | _ => simp only [cE] at h; cases h
  | BoolOp op es p =>
    cases op with
    | And => simp only [cE] at h; exact ih.and hx h
    | Or => simp only [cE] at h; exact ih.or hx h
  | Compare a ops bs p =>
    match ops, bs, h with
    | [op], [b], h => simp only [cE] at h; exact (sn_cmp ih hx h).1
    | [op, op'], [b, d], h => simp only [cE] at h; exact (sn_chain ih hx h).1
    | [], _, h => simp only [cE] at h; cases h
    | [_], [], h => simp only [cE] at h; cases h
    | [_], _ :: _ :: _, h => simp only [cE] at h; cases h
    | [_, _], [], h => simp only [cE] at h; cases h
    | [_, _], [_], h => simp only [cE] at h; cases h
    | [_, _], _ :: _ :: _ :: _, h => simp only [cE] at h; cases h
    | _ :: _ :: _ :: _, _, h => simp only [cE] at h; cases h
  | IfExp t a b p =>
    simp only [cE] at h
    obtain ⟨wt, wa, wb, h1, h2, h3, rfl⟩ := op3_some h
    exact q_ifE (ih.t hx h1) (ih.e hx h2) (ih.e hx h3)
  | Tuple es k p =>
    simp only [cE] at h
    obtain ⟨ws, h1, rfl⟩ := map_some' h
    exact q_tup (ih.es hx h1).1
  | List es p =>
    simp only [cE] at h
    obtain ⟨ws, h1, rfl⟩ := map_some' h
    exact q_lst (ih.es hx h1).1
  | Subscript a s p => simp only [cE] at h; exact ih.sub hx h
  | Call f args kws p =>
    simp only [cE] at h
    split at h
    · rename_i hk
      have : kws = [] := by simpa using hk
      subst this
      exact ih.call hx h
    · cases h
  | ListComp elt gs scope p =>
    match gs, h with
    | [⟨tg, iter, ifs, 0⟩], h => simp only [cE] at h; exact (ih.comp hx h).1 p
    | [], h => simp only [cE] at h; cases h
    | [⟨tg, iter, ifs, .ofNat (k + 1)⟩], h => simp only [cE] at h; cases h
    | [⟨tg, iter, ifs, .negSucc k⟩], h => simp only [cE] at h; cases h
    | _ :: _ :: _, h => simp only [cE] at h; cases h
  | Dict keys values p =>
    simp only [cE] at h
    split at h
    · rename_i ks ws h1 h2
      split at h
      · rename_i hc
        cases h
        by_cases h0 : ks = []
        · subst h0
          have hw : ws = [] := List.eq_nil_of_length_eq_zero hc.1.symm
          subst hw
          have hk := congrArg List.length (optAll_map h1)
          rw [List.length_map, List.length_map] at hk
          have hv := (optAll_paired (r := fun v w => PE X v (liftE X.K w)) (fun a b e => ih.e hx e) h2).length
          have hk : keys = [] := List.eq_nil_of_length_eq_zero hk
          have hv : values = [] := List.eq_nil_of_length_eq_zero hv
          subst hk hv
          exact q_disp0
        · exact q_disp (optAll_map h1) hc.1 (optAll_paired (r := fun v w => PE X v (liftE X.K w)) (fun a b e => ih.e hx e) h2) h0 hc.2.1 hc.2.2
      · cases h
    · cases h
  | _ => simp only [cE] at h; cases h
theorem sn_t (ih : Sn T n) (hx : XOk X T c) {e : Expr} {w : WE} (h : cT T (n + 1) c e = some w) : PT X e (liftT X.K w) := by
  cases e with
  | Name x p =>
    simp only [cT] at h
    obtain ⟨w', h1, rfl⟩ := map_some' h
    exact t_tru (wName_ok hx h1) fun _ => rfl
  | UnaryOp op a p =>
    cases op with
    | Not =>
      simp only [cT] at h
      obtain ⟨wa, h1, rfl⟩ := map_some' h
      exact t_not (ih.t hx h1)
    | _ => simp only [cT] at h; cases h
  | BoolOp op es p =>
    cases op with
    | And => simp only [cT] at h; exact (ih.tand hx h).pt
    | Or => simp only [cT] at h; exact (ih.tor hx h).pt
  | Compare a ops bs p =>
    match ops, bs, h with
    | [op], [b], h => simp only [cT] at h; exact (sn_cmp ih hx h).2
    | [op, op'], [b, d], h => simp only [cT] at h; exact (sn_chain ih hx h).2
    | [], _, h => simp only [cT] at h; cases h
    | [_], [], h => simp only [cT] at h; cases h
    | [_], _ :: _ :: _, h => simp only [cT] at h; cases h
    | [_, _], [], h => simp only [cT] at h; cases h
    | [_, _], [_], h => simp only [cT] at h; cases h
    | [_, _], _ :: _ :: _ :: _, h => simp only [cT] at h; cases h
    | _ :: _ :: _ :: _, _, h => simp only [cT] at h; cases h
  | Subscript a s p => simp only [cT] at h; exact t_val (ih.sub hx h) fun _ => rfl
  | Call f args kws p =>
    simp only [cT] at h
    split at h
    · rename_i hk
      have : kws = [] := by simpa using hk
      subst this
      exact t_val (ih.call hx h) fun _ => rfl
    · cases h
  | _ => simp only [cT] at h; cases h
theorem sn_es (ih : Sn T n) (hx : XOk X T c) {es : List Expr} {ws : List WE} (h : cEs T (n + 1) c es = some ws) : PA X es (liftA X.K ws) ∧ es.all noStar = true ∧ ws.length = es.length := by
  cases es with
  | nil => simp only [cEs] at h; cases h; exact ⟨q_nil, rfl, rfl⟩
  | cons e r =>
    simp only [cEs] at h
    split at h
    · rename_i hs
      obtain ⟨w, vs, h1, h2, rfl⟩ := op2_some h
      obtain ⟨p1, p2, p3⟩ := ih.es hx h2
      exact ⟨q_cons (ih.e hx h1) p1 (star_cons hs), by rw [List.all_cons, hs, p2]; rfl, by rw [List.length_cons, List.length_cons, p3]⟩
    · cases h
theorem sn_and (ih : Sn T n) (hx : XOk X T c) {es : List Expr} {w : WE} {pos : Pos} (h : cAnd T (n + 1) c es = some w) : PE X (.BoolOp .And es pos) (liftE X.K w) := by
  match es, h with
  | [], h => simp only [cAnd] at h; cases h
  | [e], h => simp only [cAnd] at h; exact q_one (ih.e hx h)
  | e :: b :: r, h =>
    simp only [cAnd] at h
    obtain ⟨wa, wb, h1, h2, rfl⟩ := op2_some h
    exact q_and (ih.e hx h1) (ih.and hx h2)
theorem sn_or (ih : Sn T n) (hx : XOk X T c) {es : List Expr} {w : WE} {pos : Pos} (h : cOr T (n + 1) c es = some w) : PE X (.BoolOp .Or es pos) (liftE X.K w) := by
  match es, h with
  | [], h => simp only [cOr] at h; cases h
  | [e], h => simp only [cOr] at h; exact q_one (ih.e hx h)
  | e :: b :: r, h =>
    simp only [cOr] at h
    obtain ⟨wa, wb, h1, h2, rfl⟩ := op2_some h
    exact q_or (ih.e hx h1) (ih.or hx h2)
theorem sn_tand (ih : Sn T n) (hx : XOk X T c) {es : List Expr} {w : WE} {pos : Pos} (h : cTAnd T (n + 1) c es = some w) : PW X (.BoolOp .And es pos) (liftT X.K w) := by
  match es, h with
  | [], h => simp only [cTAnd] at h; cases h
  | [e], h => simp only [cTAnd] at h; exact w_and1 (ih.t hx h)
  | e :: b :: r, h =>
    simp only [cTAnd] at h
    obtain ⟨wa, wb, h1, h2, rfl⟩ := op2_some h
    exact w_and (ih.t hx h1) (ih.tand hx h2)
theorem sn_tor (ih : Sn T n) (hx : XOk X T c) {es : List Expr} {w : WE} {pos : Pos} (h : cTOr T (n + 1) c es = some w) : PW X (.BoolOp .Or es pos) (liftT X.K w) := by
  match es, h with
  | [], h => simp only [cTOr] at h; cases h
  | [e], h => simp only [cTOr] at h; exact w_or1 (ih.t hx h)
  | e :: b :: r, h =>
    simp only [cTOr] at h
    obtain ⟨wa, wb, h1, h2, rfl⟩ := op2_some h
    exact w_or (ih.t hx h1) (ih.tor hx h2)
theorem sn_o (ih : Sn T n) (hx : XOk X T c) {o : Option Expr} {w : WO} (h : cO T (n + 1) c o = some w) : PO X o (liftO X.K w) := by
  cases o with
  | none => simp only [cO] at h; cases h; exact o_no
  | some e =>
    simp only [cO] at h
    obtain ⟨wa, h1, rfl⟩ := map_some' h
    exact o_so (ih.e hx h1)
theorem sn_call (ih : Sn T n) (hx : XOk X T c) {f : Expr} {args : List Expr} {w : WE} {pos : Pos} (h : cCall T (n + 1) c f args pos = some w) : PE X (.Call f args [] pos) (liftE X.K w) := by
  cases f with
  | Name x p =>
    simp only [cCall] at h
    split at h
    · rename_i e1 g eq
      split at h
      · rename_i a b ea
        cases h
        unfold lzOf at eq
        split at eq
        · rename_i y p1 e2 f2 pos1
          split at eq
          · rename_i hc
            obtain ⟨rfl, rfl, n1, g1, n2, g2⟩ := hc
            cases eq
            obtain ⟨q1, q2, q3⟩ := ih.es hx ea
            rw [List.all_cons, Bool.and_eq_true] at q2
            exact q_lzip hx.calm (isGl_ok hx g1) (hx.non _ n1) (isGl_ok hx g2) (hx.non _ n2) q1 (star_cons q2.1) (star_any q2.2) (star_cons rfl)
          · cases eq
        · cases eq
      · cases h
    · exact wCallN_ok hx h fun vs hv => ih.es hx hv
  | Attribute o m ap =>
    simp only [cCall] at h
    split at h
    · rename_i hc
      obtain ⟨h1, h2, h3⟩ := hc
      split at h
      · rename_i s g e
        obtain ⟨wo, ws, g1, g2, rfl⟩ := op2_some h
        obtain ⟨p1, p2, p3⟩ := ih.es hx g2
        cases args with
        | nil =>
          have e2 : ws = [] := List.eq_nil_of_length_eq_zero p3
          subst e2
          exact q_mt0 (mtOf_ok hx e) (ih.e hx g1) (super_base h1) h2
        | cons a as =>
          have hst := p2
          rw [List.all_cons, Bool.and_eq_true] at p2
          refine q_mt (mtOf_ok hx e) (ih.e hx g1) p1 (super_base h1) ?_ h2 (star_cons p2.1) (star_any p2.2)
          rw [star_few hst]
          have e3 : (a :: as).length + ([] : List Keyword).length + (if ([] : List Keyword).isEmpty then 0 else 1) < 30 := by
            show (a :: as).length + 0 + 0 < 30
            omega
          rw [decide_eq_true e3]
          rfl
      · cases h
    · cases h
  | _ => simp only [cCall] at h; cases h
theorem sn_sub (ih : Sn T n) (hx : XOk X T c) {a s : Expr} {w : WE} {pos : Pos} (h : cSub T (n + 1) c a s = some w) : PE X (.Subscript a s pos) (liftE X.K w) := by
  have hu := hx.hu
  have go : ∀ {s : Expr}, noSlice s = true → op2 (wBin oIx) (cE T n c a) (cE T n c s) = some w → PE X (.Subscript a s pos) (liftE X.K w) := fun hs h => by
    obtain ⟨wa, wb, h1, h2, rfl⟩ := op2_some h
    exact q_ix (by omega) (ih.e hx h1) (ih.e hx h2) (plain_ix hs)
  cases s with
  | Slice lo hi st p =>
    cases st with
    | none =>
      simp only [cSub] at h
      obtain ⟨wa, wl, wh, h1, h2, h3, rfl⟩ := op3_some h
      exact q_sl (ih.e hx h1) (ih.o hx h2) (ih.o hx h3)
    | some st =>
      unfold cSub at h
      split at h
      · rename_i e; cases e
      · rename_i e
        cases e
        obtain ⟨wa, h1, rfl⟩ := map_some' h
        exact q_rev (ih.e hx h1)
      · cases h
      · rename_i e1 e2 e3
        exact absurd rfl (e3 _ _ _ _)
  | _ => simp only [cSub] at h; exact go rfl h
theorem sn_comp (ih : Sn T n) (hx : XOk X T c) {elt tg iter : Expr} {ifs : List Expr} {scope : Scope} {w : WE} (h : cComp T (n + 1) c elt tg iter ifs scope = some w) :
    (∀ pos, PE X (.ListComp elt [⟨tg, iter, ifs, 0⟩] scope pos) (liftE X.K w)) ∧
    ∀ (pos spos py : Pos) (i : Nat) (y : Str), X.N[i]? = some y → X.env.scope.names.lookup y = some .local → swapsWith (.ListComp elt [⟨tg, iter, ifs, 0⟩] scope pos) (some (.Name y py)) spos.line X.env = pure true →
      PS X (.Assign [.Name y py] (.ListComp elt [⟨tg, iter, ifs, 0⟩] scope pos) spos) (liftS X.K (sAsg (gN i) w)) := by
  simp only [cComp] at h
  split at h
  · rename_i hb
    have hk : BlkOk X.N X.env.scope scope (ownOf c scope) := by
      rw [hx.N, hx.sc]
      exact blkOk_by hb
    split at h
    · rename_i wi g is we h1 h2 h3
      split at h
      · rename_i hm
        have hm' : ∀ i ∈ is, i ∈ (ownOf c scope).map (·.2) := fun i hi => by
          have := List.all_eq_true.mp hm i hi
          rw [List.any_eq_true] at this
          obtain ⟨p, hp, e⟩ := this
          exact List.mem_map.mpr ⟨p, hp, by simpa using e⟩
        have hbx := fun s H C cl fp => blk_ok hx hk s H C cl fp
        -- the target's reading does not hang on the block's state
        have tg0 : ∃ t, (∀ s H C cl fp, PG (X.blk s H scope (compEnvC scope cl C X.env) fp) tg t) ∧ CtOk X.K t g ((ownOf c scope).map (·.2)) := by
          cases tg <;> first | (cases h2; done) | skip
          · rename_i x p
            obtain ⟨i, g1, g2⟩ := map_some' h2
            cases g2
            have g1' : tgOne (blkCt c scope) (.Name x p) = some i := g1
            exact ⟨_, fun s H C cl fp => (tgOne_ok (hbx s H C cl fp) g1').1, ct_one (hm' i (by simp))⟩
          · rename_i es k p
            obtain ⟨js, g1, g2⟩ := map_some' h2
            cases g2
            have main : ∀ {es : List Expr} {is : List Nat}, optAll (tgOne (blkCt c scope)) es = some is → (∀ i ∈ is, i ∈ (ownOf c scope).map (·.2)) →
                es.all noStar = true ∧ is.length = es.length ∧ ∃ g, (∀ s H C cl fp, PGs (X.blk s H scope (compEnvC scope cl C X.env) fp) es g) ∧ CtsOk X.K g (gsN is) ((ownOf c scope).map (·.2)) := by
              intro es
              induction es with
              | nil => intro is h _; cases h; exact ⟨rfl, rfl, _, fun s H C cl fp => pgs_nil, cts_nil⟩
              | cons e r ihr =>
                intro is h hm
                unfold optAll at h
                split at h
                · rename_i i js h1 h2
                  cases h
                  obtain ⟨q1, q2, t, q3, q4⟩ := ihr h2 fun j hj => hm j (List.mem_cons_of_mem _ hj)
                  have p2 : noStar e = true := by cases e <;> first | rfl | cases h1
                  have p1 : ∀ s H C cl fp, PG (X.blk s H scope (compEnvC scope cl C X.env) fp) e (gName i) := fun s H C cl fp => (tgOne_ok (hbx s H C cl fp) h1).1
                  refine ⟨by rw [List.all_cons, p2, q1]; rfl, by rw [List.length_cons, List.length_cons, q2], _, fun s H C cl fp => pgs_cons (p1 s H C cl fp) (q3 s H C cl fp) ?_, cts_cons (hm i List.mem_cons_self) q4⟩
                  have e1 : ∀ env, assignEach (e :: r) env = (false, assign e env) :: assignEach r env := fun env => by
                    cases e <;> first | rfl | cases p2
                  rw [e1]
                  rfl
                · cases h
            obtain ⟨q1, q2, t, q3, q4⟩ := main g1 hm'
            refine ⟨_, fun s H C cl fp => ?_, ct_many q2.symm q4⟩
            obtain ⟨l1, l2, _⟩ := asg_len (env := (X.blk s H scope (compEnvC scope cl C X.env) fp).env) q1
            exact pg_tupU (n := es.length) hx.calm (q3 s H C cl fp) l1 l2
        obtain ⟨t, pg, ct⟩ := tg0
        have pe : ∀ s H C cl fp, PE (X.blk s H scope (compEnvC scope cl C X.env) fp) elt (liftE X.K we) := fun s H C cl fp => ih.e (hbx s H C cl fp) h3
        have pi := ih.i hx h1
        have hset := no_fold (env := X.env) (cI_set h1)
        have fin : ∀ {tt : TT} {wt : WE}, (∀ s H C cl fp, PTs (X.blk s H scope (compEnvC scope cl C X.env) fp) ifs tt) → (∀ σ H Q, liftT X.K wt σ H Q → tt σ H Q) →
            (∀ pos, PE X (.ListComp elt [⟨tg, iter, ifs, 0⟩] scope pos) (liftE X.K (wComp ((ownOf c scope).map (·.2)) wi g wt we))) ∧
            ∀ (pos spos py : Pos) (i : Nat) (y : Str), X.N[i]? = some y → X.env.scope.names.lookup y = some .local → swapsWith (.ListComp elt [⟨tg, iter, ifs, 0⟩] scope pos) (some (.Name y py)) spos.line X.env = pure true →
              PS X (.Assign [.Name y py] (.ListComp elt [⟨tg, iter, ifs, 0⟩] scope pos) spos) (liftS X.K (sAsg (gN i) (wComp ((ownOf c scope).map (·.2)) wi g wt we))) := fun {tt wt} pt tw => by
          refine ⟨fun pos => (pe_lc hx.calm hx.nd pi hk pg pt pe hset).weak fun σ H Q q => lift_comp ct tw q, fun pos spos py i y hy hyl hsw => ?_⟩
          refine (ps_setLc hx.calm hx.nd hy hyl hsw pi hk pg pt pe hset).weak fun D σ H q => ?_
          obtain ⟨env, L, N, hs, hL, hw, k⟩ := q
          exact lift_comp ct tw ⟨env, L, _, hs, hL, hw, fun x La v H1 hb f1 rx r1 => k.nx _ La _ H1 hb f1 ((hs.ex (f1.ex hL)).set i rx) r1⟩
        match ifs, h with
        | [], h =>
          cases h
          refine fin (fun s H C cl fp => pts_nil) fun σ H Q q => ?_
          obtain ⟨env, L, R, hs, hL, hw, k⟩ := q
          obtain ⟨b, e, q⟩ := k _ L H hw .refl hL
          cases e
          exact q
        | [tst], h =>
          obtain ⟨wt, g1, rfl⟩ := map_some' h
          exact fin (fun s H C cl fp => pts_one (ih.t (hbx s H C cl fp) g1)) fun σ H Q q => q
        | _ :: _ :: _, h => cases h
      · cases h
    · cases h
  · cases h
theorem cEs_one {es : List Expr} {a : WE} (ih : Sn T n) (hx : XOk X T c) (h : cEs T n c es = some [a]) : ∃ e, es = [e] ∧ PA X [e] (liftA X.K [a]) ∧ noStar e = true := by
  obtain ⟨p1, p2, p3⟩ := ih.es hx h
  match es, p3 with
  | [e], _ => exact ⟨e, rfl, p1, by simpa using p2⟩
theorem sn_i (ih : Sn T n) (hx : XOk X T c) {tg iter : Expr} {w : WI} (h : cI T (n + 1) c tg iter = some w) : PI X tg iter (liftI X.K w) := by
  have any : ∀ {e : Expr}, (cE T n c e).map iAny = some w → PI X tg e (liftI X.K w) := fun h => by
    obtain ⟨wa, h1, rfl⟩ := map_some' h
    exact i_any (ih.e hx h1)
  have hgl : ∀ {x : Str}, isGl c x = true → Gl X x := fun h => isGl_ok hx h
  cases iter with
  | Set a b d => simp only [cI] at h; cases h
  | Call f args kws pos =>
    cases f with
    | Name x p =>
      cases kws with
      | cons k ks => simp only [cI] at h; exact any h
      | nil =>
        simp only [cI] at h
        split at h
        · rename_i ex
          subst ex
          split at h
          · rename_i hc
            obtain ⟨hn, hg⟩ := hc
            split at h
            · rename_i a ea
              cases h
              obtain ⟨e, rfl, p1, p2⟩ := cEs_one ih hx ea
              exact i_r1 (hgl hg) (hx.non _ hn) p1 (star_cons p2)
            · rename_i a b ea
              cases h
              obtain ⟨p1, p2, p3⟩ := ih.es hx ea
              match args, p3 with
              | [e, e2], _ =>
                simp only [List.all_cons, List.all_nil, Bool.and_true, Bool.and_eq_true] at p2
                have s2 : starEach [e2] X.env = [(false, eval e2 X.env)] := star_cons p2.2
                exact i_r2 (hgl hg) (hx.non _ hn) p1 (by rw [star_cons p2.1, s2]) s2
            · rename_i a b d ea
              cases h
              obtain ⟨p1, p2, p3⟩ := ih.es hx ea
              match args, p3 with
              | [e, e2, e3], _ =>
                rw [List.all_cons, Bool.and_eq_true] at p2
                exact i_r3 (hgl hg) (hx.non _ hn) p1 (star_cons p2.1) (star_any p2.2)
            · cases h
          · cases h
        · split at h
          · rename_i ex
            subst ex
            split at h
            · rename_i hc
              obtain ⟨hn, hg⟩ := hc
              split at h
              · rename_i a ea
                cases h
                obtain ⟨e, rfl, p1, p2⟩ := cEs_one ih hx ea
                exact i_en (hgl hg) (hx.non _ hn) p1 (star_cons p2)
              · cases h
            · cases h
          · split at h
            · rename_i ex
              subst ex
              split at h
              · rename_i hc
                obtain ⟨hn, hg⟩ := hc
                split at h
                · rename_i a b ea
                  cases h
                  obtain ⟨p1, p2, p3⟩ := ih.es hx ea
                  match args, p3 with
                  | [e, e2], _ =>
                    rw [List.all_cons, Bool.and_eq_true] at p2
                    exact i_zp (hgl hg) (hx.non _ hn) p1 (star_cons p2.1) (star_any p2.2)
                · rename_i a b d ea
                  cases h
                  obtain ⟨p1, p2, p3⟩ := ih.es hx ea
                  match args, p3 with
                  | [e, e2, e3], _ =>
                    rw [List.all_cons, Bool.and_eq_true] at p2
                    exact i_z3 (hgl hg) (hx.non _ hn) p1 (star_cons p2.1) (star_any p2.2)
                · cases h
              · cases h
            · split at h
              · rename_i ex
                subst ex
                split at h
                · rename_i hc
                  obtain ⟨hn, hg⟩ := hc
                  split at h
                  · rename_i b eb
                    obtain ⟨p2, pos2, rfl⟩ := rgArg_eq eb
                    split at h
                    · rename_i hc2
                      obtain ⟨wa, h1, rfl⟩ := map_some' h
                      exact i_rr (hgl hg) (hx.non _ hn) (hgl hc2.1.2) (hx.non _ hc2.1.1) (ih.e hx h1) (star_cons hc2.2)
                    · cases h
                  · split at h
                    · rename_i a ea
                      cases h
                      obtain ⟨e, rfl, p1, p2⟩ := cEs_one ih hx ea
                      exact i_rv (hgl hg) (hx.non _ hn) p1 (star_cons p2)
                    · cases h
                · cases h
              · exact any h
    | Attribute o m apos =>
      cases args with
      | cons a as => simp only [cI] at h; exact any h
      | nil =>
        cases kws with
        | cons k ks => simp only [cI] at h; exact any h
        | nil =>
          cases tg with
          | Tuple elts kk tpos =>
            simp only [cI] at h
            split at h
            · rename_i hc
              obtain ⟨rfl, h1, h2⟩ := hc
              obtain ⟨wa, g1, rfl⟩ := map_some' h
              exact i_im (ih.e hx g1) (super_base h1) h2
            · exact any h
          | _ => simp only [cI] at h; exact any h
    | _ => simp only [cI] at h; exact any h
  | _ => simp only [cI] at h; exact any h
theorem sn_all : ∀ n, Sn T n
  | 0 => sn_zero
  | n + 1 => have ih := sn_all n; ⟨fun hx h => sn_e ih hx h, fun hx h => sn_es ih hx h, fun hx h => sn_and ih hx h, fun hx h => sn_or ih hx h, fun hx h => sn_t ih hx h, fun hx h => sn_tand ih hx h, fun hx h => sn_tor ih hx h, fun hx h => sn_sub ih hx h, fun hx h => sn_o ih hx h, fun hx h => sn_call ih hx h, fun hx h => sn_comp ih hx h, fun hx h => sn_i ih hx h⟩
end
end
section
open PySem PySem.Spec PyProof.Rows L2
def gsL : List WG → WGs
  | [] => gsNil
  | g :: r => gsCons g (gsL r)
/-- whether two or three stores are exchanged -/
def swS (sc : Scope) (ts vs : List Expr) : Option (Option (List Str)) :=
  if !(ts.length == 2 || ts.length == 3) || vs.length != ts.length then some none
  else if (vs.any fun | .Starred .. => true | _ => false) = true then some none
  else if (ts.filterMap fun
    | .Name id pos => if sc.names.lookup id == some .local && pos.line == (ts.head?.map (·.pos.line)).getD 0 then some id else none
    | _ => none).length != ts.length || (ts.filterMap fun
    | .Name id pos => if sc.names.lookup id == some .local && pos.line == (ts.head?.map (·.pos.line)).getD 0 then some id else none
    | _ => none).eraseDups.length != (ts.filterMap fun
    | .Name id pos => if sc.names.lookup id == some .local && pos.line == (ts.head?.map (·.pos.line)).getD 0 then some id else none
    | _ => none).length then some none
  else if vs.all (foldedForSure 8) then some none
  else if vs.all (constantsAlone 8) then none
  else some (some (ts.filterMap fun
    | .Name id pos => if sc.names.lookup id == some .local && pos.line == (ts.head?.map (·.pos.line)).getD 0 then some id else none
    | _ => none))
theorem swS_ok {sc : Scope} {env : PySem.Env} (hs : env.scope = sc) (hk : sc.kind = .function) {ts vs : List Expr} {k k' : Nat} {p p' : Pos} {r : Option (List Str)} (h : swS sc ts vs = some r) :
    swappedStores [.Tuple ts k p] (.Tuple vs k' p') env = pure r := by
  have hb : env.blockKind = .function := by unfold Env.blockKind; rw [hs, hk]; rfl
  have hkk : ∀ id, env.kindOf id = sc.names.lookup id := fun id => by unfold Env.kindOf; rw [hs]
  unfold swS at h
  unfold swappedStores
  simp only [hb, hkk]
  have e0 : ∀ b : Bool, (b || (ScopeKind.function != ScopeKind.function)) = b := fun b => by cases b <;> rfl
  rw [e0]
  split at h
  · rename_i q
    cases h
    exact if_pos q
  rename_i q
  refine (if_neg q).trans ?_
  split at h
  · rename_i q
    cases h
    exact if_pos q
  rename_i q
  refine (if_neg q).trans ?_
  split at h
  · rename_i q
    cases h
    exact if_pos q
  rename_i q
  refine (if_neg q).trans ?_
  split at h
  · rename_i q
    cases h
    exact if_pos q
  rename_i q
  refine (if_neg q).trans ?_
  split at h
  · cases h
  rename_i q
  refine (if_neg q).trans ?_
  cases h
  rfl
def isLC : Expr → Bool
  | .ListComp _ _ _ _ => true
  | _ => false
section
variable (T : Tab)
mutual
def cG : Nat → Ct → Expr → Option WG
  | 0, _, _ => none
  | n + 1, c, e => match e with
    | .Name x _ => if okName x = true then (cSto c x).map gN else none
    | .Tuple es _ _ => (cGs n c es).map fun gs => gT gs.length (gsL gs)
    | .Subscript o i _ => if noSlice i = true then op2 gS (cE T n c o) (cE T n c i) else none
    | _ => none
def cGs : Nat → Ct → List Expr → Option (List WG)
  | 0, _, _ => none
  | n + 1, c, es => match es with
    | [] => some []
    | e :: r => if noStar e = true then op2 List.cons (cG n c e) (cGs n c r) else none
end
def cAsg (n : Nat) (c : Ct) (tg e : Expr) : Option WS := match tg, e with
  | .Tuple ts _ _, .Tuple vs _ _ => (match swS c.sc ts vs with
    | some none => op2 sAsg (cG T n c tg) (cE T n c e)
    | some (some _) => if ts.length == 2 || ts.length == 3 then op2 sPar (optAll (tgOne c) ts) (cEs T n c vs) else none
    | none => none)
  | _, _ => if (noComp e || isLC e) = true then op2 sAsg (cG T n c tg) (cE T n c e) else none
mutual
def cS : Nat → Ct → Stmt → Option WS
  | 0, _, _ => none
  | n + 1, c, s => match s with
    | .Return (some e) _ => (cE T n c e).map sRet
    | .Return none _ => some sRetN
    | .Expr e _ => if noComp e = true then (cE T n c e).map sExpr else none
    | .Assign [tg] e _ => cAsg T n c tg e
    | .AugAssign (.Name x _) .Add e _ => if okName x = true then op2 (fun i w => sAug i oAddI w) (cSto c x) (cE T n c e) else none
    | .If t a b _ => op3 sIf (cT T n c t) (cSs n c a) (cSs n c b)
    | .While t b [] _ => op2 sWhile (cT T n c t) (cSs n c b)
    | .For tg it b [] _ => op3 sFor (cI T n c tg it) (cG T n c tg) (cSs n c b)
    | .Pass _ => some sNil
    | .Raise _ _ _ => some sNever
    | .Break _ => some sBrk
    | .Continue _ => some sCnt
    | _ => none
def cSs : Nat → Ct → List Stmt → Option WS
  | 0, _, _ => none
  | n + 1, c, ss => match ss with
    | [] => some sNil
    | [s] => cS n c s
    | s :: r => op2 sSeq (cS n c s) (cSs n c r)
end
end
section
variable {T : Tab} {X : Cx} {c : Ct}
theorem cG_ok (hx : XOk X T c) : ∀ n, (∀ {e : Expr} {g : WG}, cG T n c e = some g → PG X e (liftG X.K g) ∧ noStar e = true) ∧ ∀ {es : List Expr} {gs : List WG}, cGs T n c es = some gs → PGs X es (liftGs X.K (gsL gs)) ∧ es.all noStar = true ∧ gs.length = es.length
  | 0 => ⟨fun h => (by simp only [cG] at h; cases h), fun h => (by simp only [cGs] at h; cases h)⟩
  | n + 1 => by
    obtain ⟨ih1, ih2⟩ := cG_ok hx n
    refine ⟨fun {e g} h => ?_, fun {es gs} h => ?_⟩
    · cases e with
      | Name x p =>
        simp only [cG] at h
        split at h
        · obtain ⟨i, h1, rfl⟩ := map_some' h
          obtain ⟨e1, e2, e3⟩ := cSto_ok hx h1
          exact ⟨g_name hx.nd e1 e2 e3, rfl⟩
        · cases h
      | Tuple es k p =>
        simp only [cG] at h
        obtain ⟨gs, h1, rfl⟩ := map_some' h
        obtain ⟨p1, p2, p3⟩ := ih2 h1
        obtain ⟨l1, l2, _⟩ := asg_len (env := X.env) p2
        exact ⟨g_tup hx.calm p1 (by rw [l1, p3]) l2, rfl⟩
      | Subscript o i p =>
        simp only [cG] at h
        split at h
        · rename_i hs
          obtain ⟨wo, wi, h1, h2, rfl⟩ := op2_some h
          refine ⟨g_sub ((sn_all n).e hx h1) ((sn_all n).e hx h2) fun v => ?_, rfl⟩
          cases i <;> first | rfl | cases hs
        · cases h
      | _ => simp only [cG] at h; cases h
    · cases es with
      | nil => simp only [cGs] at h; cases h; exact ⟨g_nil, rfl, rfl⟩
      | cons e r =>
        simp only [cGs] at h
        split at h
        · rename_i hs
          obtain ⟨g, gr, h1, h2, rfl⟩ := op2_some h
          obtain ⟨p1, p2, p3⟩ := ih2 h2
          refine ⟨g_cons (ih1 h1).1 p1 ?_, by rw [List.all_cons, hs, p2]; rfl, by rw [List.length_cons, List.length_cons, p3]⟩
          have e1 : assignEach (e :: r) X.env = (false, assign e X.env) :: assignEach r X.env := by
            cases e <;> first | rfl | cases hs
          rw [e1]
          rfl
        · cases h
theorem sole_none {tg e : Expr} {l : Nat} {env : PySem.Env} (h : noComp e = true) : swapsWith e (some tg) l env = pure false := by cases e <;> first | rfl | cases h
theorem sole_expr {e : Expr} {l : Nat} {env : PySem.Env} (h : noComp e = true) : swapsWith e none l env = pure false := by cases e <;> first | rfl | cases h
theorem asg_one {tg : Expr} {env : PySem.Env} (h : noStar tg = true) : (assignEach [tg] env).map (·.2) = [assign tg env] := by
  cases tg <;> first | rfl | cases h
/-- the names of the targets, and their places -/
theorem sw_names {sc : Scope} {ts vs : List Expr} {ns : List Str} (h : swS sc ts vs = some (some ns)) : ns = (ts.filterMap fun
    | .Name id pos => if sc.names.lookup id == some .local && pos.line == (ts.head?.map (·.pos.line)).getD 0 then some id else none
    | _ => none) ∧ ns.length = ts.length ∧ vs.length = ts.length ∧ ns.eraseDups.length = ns.length := by
  unfold swS at h
  split at h
  · cases h
  rename_i q0
  split at h
  · cases h
  split at h
  · cases h
  rename_i q
  split at h
  · cases h
  split at h
  · cases h
  cases h
  rw [Bool.or_eq_true, not_or] at q q0
  exact ⟨rfl, Classical.byContradiction fun z => q.1 (bne_iff_ne.mpr z), Classical.byContradiction fun z => q0.2 (bne_iff_ne.mpr z), Classical.byContradiction fun z => q.2 (bne_iff_ne.mpr z)⟩
theorem filt2 {α β : Type} {f : α → Option β} {a b : α} (h : ([a, b].filterMap f).length = 2) : ∃ x y, f a = some x ∧ f b = some y ∧ [a, b].filterMap f = [x, y] := by
  cases ha : f a <;> cases hb : f b <;> simp [List.filterMap, ha, hb] at h ⊢
theorem filt3 {α β : Type} {f : α → Option β} {a b d : α} (h : ([a, b, d].filterMap f).length = 3) : ∃ x y z, f a = some x ∧ f b = some y ∧ f d = some z ∧ [a, b, d].filterMap f = [x, y, z] := by
  cases ha : f a <;> cases hb : f b <;> cases hd : f d <;> simp [List.filterMap, ha, hb, hd] at h ⊢
theorem name_of {sc : Scope} {l : Nat} {e : Expr} {x : Str} (h : (match e with
    | .Name id pos => if sc.names.lookup id == some .local && pos.line == l then some id else none
    | _ => none) = some x) : (∃ p, e = .Name x p) ∧ sc.names.lookup x = some .local := by
  cases e <;> first | (cases h; done) | skip
  rename_i id pos
  have h : (if (sc.names.lookup id == some .local && pos.line == l) = true then some id else none) = some x := h
  split at h
  · rename_i q
    cases h
    rw [Bool.and_eq_true] at q
    exact ⟨⟨_, rfl⟩, by simpa using q.1⟩
  · cases h
theorem tgOne_get (hx : XOk X T c) {x : Str} {p : Pos} {i : Nat} (h : tgOne c (.Name x p) = some i) : X.N[i]? = some x := by
  have h : (if okName x = true then cSto c x else none) = some i := h
  split at h
  · exact (cSto_ok hx h).1
  · cases h
theorem nodup_ne {α : Type} {l : List α} (hN : l.Nodup) {i j : Nat} {x y : α} (a : l[i]? = some x) (b : l[j]? = some y) (h : x ≠ y) : i ≠ j := fun e => by
  subst e
  rw [a] at b
  exact h (Option.some.inj b)
theorem sw_false {elt : Expr} {gs : List Comprehension} {scope : Scope} {pos py : Pos} {y : Str} {l : Nat} {env : PySem.Env} (hk : env.scope.kind = .function)
    (hb : (env.scope.names.lookup y == some .local && py.line == pos.line && !(scope.names.any fun (n, k) => n == y && (k == .local || k == .cell))) = false) : swapsWithSole [.Name y py] (.ListComp elt gs scope pos) l env = pure false := by
  have hbk : env.blockKind = .function := by unfold Env.blockKind; rw [hk]; rfl
  have hkk : env.kindOf y = env.scope.names.lookup y := rfl
  unfold swapsWithSole swapsWith
  simp only [hbk, hkk, Expr.pos]
  have e0 : ∀ b : Bool, ((ScopeKind.function == ScopeKind.function) && b) = b := fun b => by cases b <;> rfl
  rw [Bool.and_assoc, Bool.and_assoc, e0, ← Bool.and_assoc, hb]
theorem cAsg_ok (hx : XOk X T c) {n : Nat} {tg e : Expr} {w : WS} {pos : Pos} (h : cAsg T n c tg e = some w) : PS X (.Assign [tg] e pos) (liftS X.K w) := by
  have hk := hx.kd
  have hsc := hx.sc
  have plain : ∀ {g : WG} {we : WE}, cG T n c tg = some g → cE T n c e = some we → swapsWithSole [tg] e pos.line X.env = pure false → swappedStores [tg] e X.env = pure none → PS X (.Assign [tg] e pos) (liftS X.K (sAsg g we)) := fun hg he h1 h2 => by
    obtain ⟨p1, p2⟩ := (cG_ok hx n).1 hg
    exact s_asg ((sn_all n).e hx he) p1 h1 h2 (asg_one p2)
  have other : ∀ (hnt : ¬ ((∃ ts k p, tg = .Tuple ts k p) ∧ ∃ vs k p, e = .Tuple vs k p)), (if (noComp e || isLC e) = true then op2 sAsg (cG T n c tg) (cE T n c e) else none) = some w → PS X (.Assign [tg] e pos) (liftS X.K w) := fun hnt h => by
    have hst : ∀ g, cG T n c tg = some g → swappedStores [tg] e X.env = pure none := fun g hg => by
      cases n with
      | zero => simp only [cG] at hg; cases hg
      | succ n =>
        cases tg <;> first | (simp only [cG] at hg; cases hg; done) | rfl | skip
        cases e <;> first | rfl | skip
        exact absurd ⟨⟨_, _, _, rfl⟩, _, _, _, rfl⟩ hnt
    split at h
    · rename_i hc
      obtain ⟨g, we, h1, h2, rfl⟩ := op2_some h
      by_cases hn : noComp e = true
      · exact plain h1 h2 (sole_none hn) (hst g h1)
      · -- a comprehension
        have hl : isLC e = true := by
          rw [Bool.or_eq_true] at hc
          exact hc.resolve_left hn
        obtain ⟨elt, gs, scope, lp, rfl⟩ : ∃ elt gs scope lp, e = .ListComp elt gs scope lp := by
          cases e <;> first | exact ⟨_, _, _, _, rfl⟩ | cases hl
        cases n with
        | zero => simp only [cG] at h1; cases h1
        | succ n =>
          by_cases htn : ∃ y py, tg = .Name y py
          case neg =>
            refine plain h1 h2 ?_ (hst g h1)
            cases tg <;> first | rfl | exact absurd ⟨_, _, rfl⟩ htn
          obtain ⟨y, py, rfl⟩ := htn
          cases hb : (c.sc.names.lookup y == some .local && py.line == lp.line && !(scope.names.any fun (n, k) => n == y && (k == .local || k == .cell)))
          · refine plain h1 h2 ?_ (hst g h1)
            exact sw_false (by rw [hsc]; exact hk) (by rw [hsc]; exact hb)
          · rw [Bool.and_eq_true, Bool.and_eq_true] at hb
            have hloc : X.env.scope.names.lookup y = some .local := by rw [hsc]; simpa using hb.1.1
            have hsw : swapsWith (.ListComp elt gs scope lp) (some (.Name y py)) pos.line X.env = pure true := sw_true (by rw [hsc]; exact hk) hloc hb.1.2 (by simpa using hb.2)
            simp only [cG] at h1
            split at h1
            · obtain ⟨i, g1, rfl⟩ := map_some' h1
              obtain ⟨e1, e2, e3⟩ := cSto_ok hx g1
              match gs, h2, hsw with
              | [⟨tg, iter, ifs, 0⟩], h2, hsw =>
                simp only [cE] at h2
                exact ((sn_all n).comp hx h2).2 lp pos py i y e1 hloc hsw
              | [], h2, _ => simp only [cE] at h2; cases h2
              | [⟨tg, iter, ifs, .ofNat (k + 1)⟩], h2, _ => simp only [cE] at h2; cases h2
              | [⟨tg, iter, ifs, .negSucc k⟩], h2, _ => simp only [cE] at h2; cases h2
              | _ :: _ :: _, h2, _ => simp only [cE] at h2; cases h2
            · cases h1
    · cases h
  unfold cAsg at h
  split at h
  · rename_i ts k p vs k' p'
    split at h
    · rename_i hs
      obtain ⟨g, we, h1, h2, rfl⟩ := op2_some h
      exact plain h1 h2 rfl (swS_ok hsc hk hs)
    · rename_i ns hs
      split at h
      · rename_i hl
        obtain ⟨is, ws, h1, h2, rfl⟩ := op2_some h
        obtain ⟨n1, n2, n3, n4⟩ := sw_names hs
        obtain ⟨p1, p2, p3⟩ := (sn_all n).es hx h2
        have hsw := swS_ok (k := k) (k' := k') (p := p) (p' := p') hsc hk hs
        match ts, vs, n3, hl, h1 with
        | [ta, tb], [va, vb], _, _, h1 =>
          rw [n1] at n2
          obtain ⟨x, y, f1, f2, f3⟩ := filt2 n2
          obtain ⟨⟨px, rfl⟩, lx⟩ := name_of f1
          obtain ⟨⟨py, rfl⟩, ly⟩ := name_of f2
          rw [n1, f3] at hsw
          rw [n1, f3] at n4
          have hxy : x ≠ y := fun z => by
            subst z
            rw [List.eraseDups_cons] at n4
            simp at n4
          unfold optAll optAll optAll at h1
          split at h1
          · rename_i i js g1 g2
            split at g2
            · rename_i j ks g3 g4
              cases g4
              cases g2
              cases h1
              have e1 := tgOne_get hx g1
              have e2 := tgOne_get hx g3
              have hij := nodup_ne hx.nd e1 e2 hxy
              refine (ps_par hx.calm hx.nd e1 e2 hij (by rw [hsc]; exact lx) (by rw [hsc]; exact ly) p1 hsw rfl).weak fun D σ H q => ?_
              obtain ⟨env, L, N, hs, hL, hw, k⟩ := q
              refine ⟨env, L, _, hs, hL, hw, fun xs La vs H1 hb hn f1 rx r1 => ?_⟩
              rw [p3] at hn
              match xs, hn with
              | [u, v], _ =>
                obtain ⟨uu, vv, rfl, ru, rv⟩ := rx.two
                exact ⟨uu, vv, rfl, k.nx _ La _ H1 hb f1 (((hs.ex (f1.ex hL)).set i ru).set j rv) r1⟩
            · cases g2
          · cases h1
        | [ta, tb, td], [va, vb, vd], _, _, h1 =>
          rw [n1] at n2
          obtain ⟨x, y, z, f1, f2, f4, f3⟩ := filt3 n2
          obtain ⟨⟨px, rfl⟩, lx⟩ := name_of f1
          obtain ⟨⟨py, rfl⟩, ly⟩ := name_of f2
          obtain ⟨⟨pz, rfl⟩, lz⟩ := name_of f4
          rw [n1, f3] at hsw
          rw [n1, f3] at n4
          have hxy : x ≠ y := fun q => by
            subst q
            rw [List.eraseDups_cons, List.filter_cons] at n4
            simp at n4
            by_cases q : z = x
            · subst q; simp at n4
            · simp [q, List.eraseDups_cons] at n4
          have hxz : x ≠ z := fun q => by
            subst q
            rw [List.eraseDups_cons] at n4
            by_cases q : y = x
            · subst q; simp at n4
            · simp [q, List.eraseDups_cons] at n4
          have hyz : y ≠ z := fun q => by
            subst q
            rw [List.eraseDups_cons] at n4
            by_cases q : y = x
            · subst q; simp at n4
            · simp [q, List.eraseDups_cons] at n4
          unfold optAll optAll optAll optAll at h1
          split at h1
          · rename_i i js g1 g2
            split at g2
            · rename_i j ks g3 g4
              split at g4
              · rename_i l ms g5 g6
                cases g6
                cases g4
                cases g2
                cases h1
                have e1 := tgOne_get hx g1
                have e2 := tgOne_get hx g3
                have e3 := tgOne_get hx g5
                refine (ps_par3 hx.calm hx.nd e1 e2 e3 (nodup_ne hx.nd e1 e2 hxy) (nodup_ne hx.nd e1 e3 hxz) (nodup_ne hx.nd e2 e3 hyz) (by rw [hsc]; exact lx) (by rw [hsc]; exact ly) (by rw [hsc]; exact lz) p1 hsw rfl).weak fun D σ H q => ?_
                obtain ⟨env, L, N, hs, hL, hw, k⟩ := q
                refine ⟨env, L, _, hs, hL, hw, fun xs La vs H1 hb hn f1 rx r1 => ?_⟩
                rw [p3] at hn
                match xs, hn with
                | [u, v, w], _ =>
                  obtain ⟨uu, vv, ww, rfl, ru, rv, rw'⟩ := rx.three
                  exact ⟨uu, vv, ww, rfl, k.nx _ La _ H1 hb f1 ((((hs.ex (f1.ex hL)).set i ru).set j rv).set l rw') r1⟩
              · cases g4
            · cases g2
          · cases h1
        | [], vs, _, hl, _ => cases hl
        | [_], vs, _, hl, _ => cases hl
        | _ :: _ :: _ :: _ :: _, vs, _, hl, _ => simp at hl
      · cases h
    · cases h
  · rename_i hnt
    refine other (fun ⟨⟨ts, k, p, e1⟩, vs, k', p', e2⟩ => ?_) h
    exact hnt ts k p vs k' p' e1 e2
end
end
section
open PySem PySem.Spec PyProof.Rows L2
section
variable {T : Tab} {X : Cx} {c : Ct}
theorem cS_ok (hx : XOk X T c) (hp : PassesOwn (model X.prog X.w) X.A X.env X.xe) : ∀ n, (∀ {s : Stmt} {w : WS}, cS T n c s = some w → PS X s (liftS X.K w)) ∧ ∀ {ss : List Stmt} {w : WS}, cSs T n c ss = some w → PSs X ss (liftS X.K w)
  | 0 => ⟨fun h => (by simp only [cS] at h; cases h), fun h => (by simp only [cSs] at h; cases h)⟩
  | n + 1 => by
    obtain ⟨ih1, ih2⟩ := cS_ok hx hp n
    have sn := sn_all (T := T) n
    refine ⟨fun {s w} h => ?_, fun {ss w} h => ?_⟩
    · cases s with
      | Return o p =>
        cases o with
        | none => simp only [cS] at h; cases h; exact s_retN
        | some e =>
          simp only [cS] at h
          obtain ⟨we, h1, rfl⟩ := map_some' h
          exact s_ret (sn.e hx h1)
      | Expr e p =>
        simp only [cS] at h
        split at h
        · rename_i hn
          obtain ⟨we, h1, rfl⟩ := map_some' h
          exact s_expr (sn.e hx h1) (sole_expr hn)
        · cases h
      | Assign tgs e p =>
        match tgs, h with
        | [tg], h => simp only [cS] at h; exact cAsg_ok hx h
        | [], h => simp only [cS] at h; cases h
        | _ :: _ :: _, h => simp only [cS] at h; cases h
      | AugAssign tg op e p =>
        cases tg with
        | Name x p2 =>
          cases op with
          | Add =>
            simp only [cS] at h
            split at h
            · obtain ⟨i, we, h1, h2, rfl⟩ := op2_some h
              obtain ⟨e1, e2, e3⟩ := cSto_ok hx h1
              exact s_aug hx.nd e1 e2 e3 ip_add ip_addI (sn.e hx h2)
            · cases h
          | _ => simp only [cS] at h; cases h
        | _ => simp only [cS] at h; cases h
      | If t a b p =>
        simp only [cS] at h
        obtain ⟨wt, wa, wb, h1, h2, h3, rfl⟩ := op3_some h
        exact s_if (sn.t hx h1) (ih2 h2) (ih2 h3)
      | While t b o p =>
        cases o with
        | nil =>
          simp only [cS] at h
          obtain ⟨wt, wb, h1, h2, rfl⟩ := op2_some h
          exact s_while hp (sn.t hx h1) (ih2 h2)
        | cons _ _ => simp only [cS] at h; cases h
      | For tg it b o p =>
        cases o with
        | nil =>
          simp only [cS] at h
          obtain ⟨wi, g, wb, h1, h2, h3, rfl⟩ := op3_some h
          exact s_for hp hx.calm (sn.i hx h1) ((cG_ok hx n).1 h2).1 (ih2 h3) (no_fold (cI_set h1))
        | cons _ _ => simp only [cS] at h; cases h
      | Pass p => simp only [cS] at h; cases h; exact s_pass
      | Raise _ _ _ => simp only [cS] at h; cases h; exact s_never
      | Break p => simp only [cS] at h; cases h; exact s_brk
      | Continue p => simp only [cS] at h; cases h; exact s_cnt
      | _ => simp only [cS] at h; cases h
    · match ss, h with
      | [], h => simp only [cSs] at h; cases h; exact s_nil
      | [s], h => simp only [cSs] at h; exact s_one (ih1 h)
      | s :: s2 :: r, h =>
        simp only [cSs] at h
        obtain ⟨wa, wb, h1, h2, rfl⟩ := op2_some h
        exact s_cons (ih1 h1) (ih2 h2)
end
def initE (n : Nat) (args : List PV) : Env := args.map some ++ List.replicate (n - args.length) none
structure TabOk (P : Program) (w : World) (K : PySem.W.Frag) (mg : Str → Option Value) (base : Heap) (k : Nat) (T : Tab) : Prop where
  fns : ∀ x n S, T.fns.lookup x = some (n, S) → FnIs P w K mg base k x n S
  non : ∀ x, T.non.contains x = true → mg x = none
  con : ∀ x p, T.con.lookup x = some p → ∃ u v, mg x = some u ∧ RelV v u ∧ ∀ H, RepV K H p v
section
variable {P : Program} {w : World} {K : PySem.W.Frag} {mg : Str → Option Value} {base : Heap} {k : Nat} {T : Tab}
theorem TabOk.mono {k' : Nat} (h : TabOk P w K mg base k T) (hk : k ≤ k') : TabOk P w K mg base k' T := ⟨fun x n S e => (h.fns x n S e).mono hk, h.non, h.con⟩
theorem TabOk.add (h : TabOk P w K mg base k T) {x : Str} {n : Nat} {S : Spec} (f : FnIs P w K mg base k x n S) : TabOk P w K mg base k { T with fns := (x, n, S) :: T.fns } := by
  refine ⟨fun y m S' e => ?_, h.non, h.con⟩
  have e : ((x, n, S) :: T.fns).lookup y = some (m, S') := e
  rw [List.lookup_cons] at e
  split at e
  · rename_i q
    cases e
    have q : y = x := by simpa using q
    subst q
    exact f
  · exact h.fns y m S' e
theorem start_rep {N : List Str} {H : Hp} {args : List PV} {vs : List V} (r : RepVs K H args vs) : RepS K H (L2.start N vs) (initE N.length args) := by
  have hl := r.length
  refine ⟨?_, fun i x e => ?_⟩
  · unfold L2.start initE
    rw [List.length_append, List.length_append, List.length_map, List.length_map, List.length_replicate, List.length_replicate, hl]
  · unfold initE at e
    by_cases hi : i < args.length
    · rw [List.getElem?_append_left (by rw [List.length_map]; exact hi), List.getElem?_map] at e
      cases q : args[i]? with
      | none => rw [q] at e; cases e
      | some y =>
        rw [q] at e
        cases e
        obtain ⟨v, h1, h2⟩ := r.get q
        refine ⟨v, ?_, h2⟩
        unfold L2.start
        rw [List.getElem?_append_left (by rw [List.length_map]; omega), List.getElem?_map, h1]
        rfl
    · rw [List.getElem?_append_right (by rw [List.length_map]; omega), List.getElem?_replicate] at e
      split at e <;> cases e
/-- THE RULE for a def, over data -/
theorem def_fn (hT : TabOk P w K mg base k T) {x qual : Str} {st : Stmt} {f : Addr} {fd : FuncData} {N ps : List Str} {n : Nat} {body : WS} {S : Spec} (F : Fun K x qual st f fd) (sc : FnScope N ps (defScope st)) (hc : cSs T n ⟨N, defScope st, fun _ => true⟩ (defBody st) = some body)
    (hS : ∀ args L R, args.length = ps.length → S args L R → body (initE N.length args) L { nx := fun _ L' => R .non L', rt := R }) : FnG P w K mg base (k + 1) f fd ps (liftSp K ps.length S) := by
  obtain ⟨oc, od, kV, doc, pm, an, cdv, ct, osl, rfl, lk, hcd⟩ := F.ex
  refine g_def lk hcd sc (fun vs H Q E h => h.1) fun A outer s H vs Q E gd hr h => ?_
  obtain ⟨hl, args, L, R, ra, rh, hs, kt⟩ := h
  have hx : XOk (cxOf CX0 P w K mg base N qual (defScope st) f cdv A outer s H E).nox T ⟨N, defScope st, fun _ => true⟩ :=
    ⟨rfl, sc.nd, rfl, sc.kind, fun _ _ => rfl, rfl, gd, ⟨k, hr, hT.fns⟩, hT.non, hT.con⟩
  refine ⟨_, ((cS_ok hx PassesOwn.never n).2 hc).nox, ?_⟩
  refine ⟨initE N.length args, L, _, start_rep ra, rh, hS args L R (by rw [ra.length, hl]) hs, ?_⟩
  exact ⟨fun env' L' σ' H' h f r' rh' => kt .non L' .non H' h f rfl rh', kt, fun _ _ _ _ h => h.elim, fun _ _ _ _ h => h.elim⟩
theorem def_ok (hT : TabOk P w K mg base k T) {x qual : Str} {st : Stmt} {f : Addr} {fd : FuncData} {N ps : List Str} {n : Nat} {body : WS} {S : Spec} (F : Fun K x qual st f fd) (sc : FnScope N ps (defScope st)) (hc : cSs T n ⟨N, defScope st, fun _ => true⟩ (defBody st) = some body)
    (hm : mg x = some (.ref f)) (hb : Binds K fd ps []) (hS : ∀ args L R, args.length = ps.length → S args L R → body (initE N.length args) L { nx := fun _ L' => R .non L', rt := R }) : FnIs P w K mg base (k + 1) x ps.length S :=
  ⟨f, fd, ps, hm, F.kp, hb, def_fn hT F sc hc hS⟩
def NonOk (mg : Str → Option Value) (l : List Str) : Prop := ∀ x, l.contains x = true → mg x = none
theorem NonOk.nil : NonOk mg [] := fun x h => by cases h
theorem NonOk.cons {l : List Str} {y : Str} (hy : mg y = none) (h : NonOk mg l) : NonOk mg (y :: l) := fun x e => by
  rw [List.contains_cons, Bool.or_eq_true] at e
  rcases e with e | e
  · have : x = y := by simpa using e
    rw [this]
    exact hy
  · exact h x e
theorem TabOk.start {non : List Str} (h : NonOk mg non) : TabOk P w K mg base k ⟨[], [], non⟩ := ⟨fun x n S e => (by cases e), h, fun x p e => (by cases e)⟩
theorem TabOk.cn (h : TabOk P w K mg base k T) {x : Str} {p : PV} {u : Value} {v : V} (h1 : mg x = some u) (h2 : RelV v u) (h3 : ∀ H, RepV K H p v) : TabOk P w K mg base k { T with con := (x, p) :: T.con } := by
  refine ⟨h.fns, h.non, fun y p' e => ?_⟩
  have e : ((x, p) :: T.con).lookup y = some p' := e
  rw [List.lookup_cons] at e
  split at e
  · rename_i q
    cases e
    have q : y = x := by simpa using q
    subst q
    exact ⟨u, v, h1, h2, h3⟩
  · exact h.con y p' e
end
/-- what the law's promise asks at the entry -/
theorem law_sp {K : PySem.W.Frag} {S : Spec} {H : Hp} {a : Addr} {ns : List Int} (hO : Only H) (hS : SqL K H a (ns.map V.int)) (h : S [.fz ns] (fun _ => none) fun x _ => x = .bl true) : liftSp K 1 S [.ref a] H (fun v _ => v = .bl true) fun _ _ _ => False := by
  refine ⟨rfl, [.fz ns], fun _ => none, _, ⟨.ref a, [], rfl, ⟨a, rfl, ?_⟩, rfl⟩, fun b o e => (by cases e), h, fun x L' v H' hx f rv rh => ?_⟩
  · rcases hS with (h | ⟨o, h⟩) | h
    · rcases hO a with q | ⟨o, xs, q⟩
      · rw [q] at h; cases h
      · rw [q] at h; cases h
    · exact .inl ⟨o, h⟩
    · exact .inr (.inr h)
  · subst hx
    exact rv
end
section
open PySem PySem.Spec PyProof.Rows L2
section
variable {L : Sto} {R : PK} {a b c d e f g h : PV} {r : List PV}
theorem ix0 : oIx (.tup (a :: r)) (.int 0) L R = R a L := by
  show (match atI (a :: r) 0 with | some v => R v L | none => False) = _
  rw [show atI (a :: r) 0 = some a from atI_nat (j := 0) rfl]
theorem ix1 : oIx (.tup (a :: b :: r)) (.int 1) L R = R b L := by
  show (match atI (a :: b :: r) 1 with | some v => R v L | none => False) = _
  rw [show atI (a :: b :: r) 1 = some b from atI_nat (j := 1) rfl]
theorem ix2 : oIx (.tup (a :: b :: c :: r)) (.int 2) L R = R c L := by
  show (match atI (a :: b :: c :: r) 2 with | some v => R v L | none => False) = _
  rw [show atI (a :: b :: c :: r) 2 = some c from atI_nat (j := 2) rfl]
theorem ix3 : oIx (.tup (a :: b :: c :: d :: r)) (.int 3) L R = R d L := by
  show (match atI (a :: b :: c :: d :: r) 3 with | some v => R v L | none => False) = _
  rw [show atI (a :: b :: c :: d :: r) 3 = some d from atI_nat (j := 3) rfl]
theorem ixl_nat {p : Addr} {xs : List PV} {j : Nat} {x : PV} (e : L p = some (.l xs)) (h : xs[j]? = some x) (k : R x L) : oIx (.ref p) (.int j) L R := by
  unfold oIx
  simp only [e, atI_nat h]
  exact k
theorem bIf_t {A B : Prop} : bIf (.bl true) A B = A := by show (if true = true then A else B) = A; exact if_pos rfl
theorem bIf_f {A B : Prop} : bIf (.bl false) A B = B := by show (if false = true then A else B) = B; exact if_neg Bool.false_ne_true
theorem bIf_d {p : Prop} [Decidable p] {A B : Prop} : bIf (.bl (decide p)) A B = if p then A else B := by
  show (if decide p = true then A else B) = _
  by_cases h : p <;> simp [h]
theorem bIf_n {x : Bool} {A B : Prop} : bIf (.bl (!x)) A B = bIf (.bl x) B A := by cases x <;> simp [bIf]
end
def Le (L L' : Sto) : Prop := ∀ a o, L a = some o → L' a = some o
theorem Le.refl {L : Sto} : Le L L := fun _ _ h => h
theorem Le.trans {L La Lb : Sto} (x : Le L La) (y : Le La Lb) : Le L Lb := fun a o h => y a o (x a o h)
theorem Le.new {L : Sto} {p : Addr} {o : SO} (h : L p = none) : Le L (put L p o) := fun a u e => by
  rw [put_ne (fun z => by rw [z, h] at e; cases e)]
  exact e
theorem Le.free {L La : Sto} (x : Le L La) {p : Addr} (h : La p = none) : L p = none := by
  cases e : L p with
  | none => rfl
  | some o => rw [x p o e] at h; cases h
/-- but one list -/
def LeB (b : Addr) (L L' : Sto) : Prop := ∀ a o, a ≠ b → L a = some o → L' a = some o
theorem Le.b {L L' : Sto} (h : Le L L') (b : Addr) : LeB b L L' := fun a o _ e => h a o e
theorem LeB.trans {b : Addr} {L La Lb : Sto} (x : LeB b L La) (y : LeB b La Lb) : LeB b L Lb := fun a o n h => y a o n (x a o n h)
theorem LeB.put {b : Addr} {L : Sto} {o : SO} : LeB b L (put L b o) := fun a u n e => by rw [put_ne n]; exact e
def fr (q : Rat) : PV := .tup [.int q.num, .int q.den]
theorem fr0 {q : Rat} {L : Sto} {R : PK} : oIx (fr q) (.int 0) L R = R (.int q.num) L := ix0
theorem fr1 {q : Rat} {L : Sto} {R : PK} : oIx (fr q) (.int 1) L R = R (.int q.den) L := ix1
def Sz (b : Nat) (q : Rat) : Prop := q.num.natAbs < 2 ^ b ∧ q.den < 2 ^ b
theorem mulOk {i j : Int} (a b : Nat) (ha : i.natAbs < 2 ^ a) (hb : j.natAbs < 2 ^ b) (h : a + b ≤ 134217000) : MulOk i j := by
  constructor
  have key : ∀ (x : Int) (c : Nat), x.natAbs < 2 ^ c → Builtin.Int.intBits x ≤ c := fun x c hc => by
    unfold Builtin.Int.intBits
    split
    · exact Nat.zero_le _
    · rename_i hx
      have hx' : x.natAbs ≠ 0 := fun z => hx (by simpa using z)
      have := (Nat.log2_lt hx').mpr hc
      omega
  have h1 := key i a ha
  have h2 := key j b hb
  have e : bitsLine = 134217728 := by decide
  unfold IntMulOk
  intro z
  rw [Bool.and_eq_true] at z
  have z2 := z.2
  unfold Builtin.Int.intTooBig at z2
  have z3 := of_decide_eq_true z2
  rw [e] at z3
  omega
theorem noPl {i j : Int} (h : j.natAbs < 2 ^ 9000) : NoPl i j := by
  constructor
  refine PyProof.noPylong_of_log2 ?_
  by_cases h0 : j.natAbs = 0
  · rw [h0]; decide +kernel
  · exact (Nat.log2_lt h0).mpr h
section
variable {L : Sto} {R : PK} {i j : Int} {x y : Str} {a : PV}
theorem oEq_ii : oEq (.int i) (.int j) L R = R (.bl (decide (i = j))) L := by
  refine propext ⟨fun h => ?_, fun h => ⟨_, _, .int i, .int j, rfl, rfl, h⟩⟩
  match h with
  | ⟨_, _, .int _, .int _, _, _, h⟩ => exact h
theorem oNe_ii : oNe (.int i) (.int j) L R = R (.bl (!decide (i = j))) L := by
  refine propext ⟨fun h => ?_, fun h => ⟨_, _, .int i, .int j, rfl, rfl, h⟩⟩
  match h with
  | ⟨_, _, .int _, .int _, _, _, h⟩ => exact h
theorem oEq_bb {i j : Bool} : oEq (.bl i) (.bl j) L R = R (.bl (decide (i = j))) L := by
  have e : PyData.eqv (.bool i) (.bool j) = decide (i = j) := by cases i <;> cases j <;> rfl
  refine propext ⟨fun h => ?_, fun h => ⟨_, _, .bl i, .bl j, rfl, rfl, by rw [e]; exact h⟩⟩
  match h with
  | ⟨_, _, .bl _, .bl _, _, _, h⟩ =>
    rw [e] at h
    exact h
theorem oNe_bb {i j : Bool} : oNe (.bl i) (.bl j) L R = R (.bl (!decide (i = j))) L := by
  have e : PyData.eqv (.bool i) (.bool j) = decide (i = j) := by cases i <;> cases j <;> rfl
  refine propext ⟨fun h => ?_, fun h => ⟨_, _, .bl i, .bl j, rfl, rfl, by rw [e]; exact h⟩⟩
  match h with
  | ⟨_, _, .bl _, .bl _, _, _, h⟩ =>
    rw [e] at h
    exact h
end
section
variable {L : Sto} {R : PK} {x : PV} {c : String}
theorem isi_of {b : Bool} (h : isiB (tyName x L) c = some b) : gIsi [x, .ty c] L R = R (.bl b) L := by
  unfold gIsi
  simp only [h]
theorem isi_non_int  : gIsi [.non, .ty "int"] L R = R (.bl false) L := isi_of rfl
theorem isi_non_bool  : gIsi [.non, .ty "bool"] L R = R (.bl false) L := isi_of rfl
theorem isi_non_str  : gIsi [.non, .ty "str"] L R = R (.bl false) L := isi_of rfl
theorem isi_non_tuple  : gIsi [.non, .ty "tuple"] L R = R (.bl false) L := isi_of rfl
theorem isi_non_list  : gIsi [.non, .ty "list"] L R = R (.bl false) L := isi_of rfl
theorem isi_non_dict  : gIsi [.non, .ty "dict"] L R = R (.bl false) L := isi_of rfl
theorem isi_bl_int {u : Bool} : gIsi [(.bl u), .ty "int"] L R = R (.bl true) L := isi_of rfl
theorem isi_bl_bool {u : Bool} : gIsi [(.bl u), .ty "bool"] L R = R (.bl true) L := isi_of rfl
theorem isi_bl_str {u : Bool} : gIsi [(.bl u), .ty "str"] L R = R (.bl false) L := isi_of rfl
theorem isi_bl_tuple {u : Bool} : gIsi [(.bl u), .ty "tuple"] L R = R (.bl false) L := isi_of rfl
theorem isi_bl_list {u : Bool} : gIsi [(.bl u), .ty "list"] L R = R (.bl false) L := isi_of rfl
theorem isi_bl_dict {u : Bool} : gIsi [(.bl u), .ty "dict"] L R = R (.bl false) L := isi_of rfl
theorem isi_int_int {u : Int} : gIsi [(.int u), .ty "int"] L R = R (.bl true) L := isi_of rfl
theorem isi_int_bool {u : Int} : gIsi [(.int u), .ty "bool"] L R = R (.bl false) L := isi_of rfl
theorem isi_int_str {u : Int} : gIsi [(.int u), .ty "str"] L R = R (.bl false) L := isi_of rfl
theorem isi_int_tuple {u : Int} : gIsi [(.int u), .ty "tuple"] L R = R (.bl false) L := isi_of rfl
theorem isi_int_list {u : Int} : gIsi [(.int u), .ty "list"] L R = R (.bl false) L := isi_of rfl
theorem isi_int_dict {u : Int} : gIsi [(.int u), .ty "dict"] L R = R (.bl false) L := isi_of rfl
theorem isi_str_int {u : Str} : gIsi [(.str u), .ty "int"] L R = R (.bl false) L := isi_of rfl
theorem isi_str_bool {u : Str} : gIsi [(.str u), .ty "bool"] L R = R (.bl false) L := isi_of rfl
theorem isi_str_str {u : Str} : gIsi [(.str u), .ty "str"] L R = R (.bl true) L := isi_of rfl
theorem isi_str_tuple {u : Str} : gIsi [(.str u), .ty "tuple"] L R = R (.bl false) L := isi_of rfl
theorem isi_str_list {u : Str} : gIsi [(.str u), .ty "list"] L R = R (.bl false) L := isi_of rfl
theorem isi_str_dict {u : Str} : gIsi [(.str u), .ty "dict"] L R = R (.bl false) L := isi_of rfl
theorem isi_tup_int {u : List PV} : gIsi [(.tup u), .ty "int"] L R = R (.bl false) L := isi_of rfl
theorem isi_tup_bool {u : List PV} : gIsi [(.tup u), .ty "bool"] L R = R (.bl false) L := isi_of rfl
theorem isi_tup_str {u : List PV} : gIsi [(.tup u), .ty "str"] L R = R (.bl false) L := isi_of rfl
theorem isi_tup_tuple {u : List PV} : gIsi [(.tup u), .ty "tuple"] L R = R (.bl true) L := isi_of rfl
theorem isi_tup_list {u : List PV} : gIsi [(.tup u), .ty "list"] L R = R (.bl false) L := isi_of rfl
theorem isi_tup_dict {u : List PV} : gIsi [(.tup u), .ty "dict"] L R = R (.bl false) L := isi_of rfl
theorem isi_fz_int {u : List Int} : gIsi [(.fz u), .ty "int"] L R = R (.bl false) L := isi_of rfl
theorem isi_fz_bool {u : List Int} : gIsi [(.fz u), .ty "bool"] L R = R (.bl false) L := isi_of rfl
theorem isi_fz_str {u : List Int} : gIsi [(.fz u), .ty "str"] L R = R (.bl false) L := isi_of rfl
theorem isi_fz_tuple {u : List Int} : gIsi [(.fz u), .ty "tuple"] L R = R (.bl false) L := isi_of rfl
theorem isi_fz_list {u : List Int} : gIsi [(.fz u), .ty "list"] L R = R (.bl true) L := isi_of rfl
theorem isi_fz_dict {u : List Int} : gIsi [(.fz u), .ty "dict"] L R = R (.bl false) L := isi_of rfl
end
section
variable {L : Sto} {R : PK} {i j : Int} {x y a b : PV} {xs ys : List PV} {u v : Bool} {A B : Prop} {env : Env} {N : Nd}
theorem e_add : (oAdd (.int i) (.int j) L R) = (R (.int (i + j)) L) := propext Iff.rfl
theorem e_addI : (oAddI (.int i) (.int j) L R) = (R (.int (i + j)) L) := propext Iff.rfl
theorem e_addt : (oAdd (.tup xs) (.tup ys) L R) = (xs.length + ys.length ≤ sizeLine ∧ R (.tup (xs ++ ys)) L) := propext Iff.rfl
theorem e_addl {p q : Addr} : (oAdd (.ref p) (.ref q) L R) = (∃ xs ys, L p = some (.l xs) ∧ L q = some (.l ys) ∧ xs.length + ys.length ≤ sizeLine ∧ newL L (xs ++ ys) R) := propext Iff.rfl
theorem e_sub : (oSub (.int i) (.int j) L R) = (R (.int (i - j)) L) := propext Iff.rfl
theorem e_mul : (oMul (.int i) (.int j) L R) = (MulOk i j ∧ R (.int (i * j)) L) := propext Iff.rfl
theorem e_div : (oDiv (.int i) (.int j) L R) = (j ≠ 0 ∧ NoPl i j ∧ R (.int (i.fdiv j)) L) := propext Iff.rfl
theorem e_mod : (oMod (.int i) (.int j) L R) = (j ≠ 0 ∧ R (.int (i.fmod j)) L) := propext Iff.rfl
theorem e_pow : (oPow (.int i) (.int j) L R) = (PowOk i j ∧ R (.int (i ^ j.toNat)) L) := propext Iff.rfl
theorem e_oI {g : Int → Int → Bool} : (oI g (.int i) (.int j) L R) = (R (.bl (g i j)) L) := propext Iff.rfl
theorem e_neg : (oNeg (.int i) L R) = (R (.int (-i)) L) := propext Iff.rfl
theorem e_not : (oNot (.bl u) L R) = (R (.bl (!u)) L) := propext Iff.rfl
theorem e_isn : (oIs x .non L R) = (R (.bl (isN x)) L) := propext Iff.rfl
theorem e_isnn : (oIsNot x .non L R) = (R (.bl (!isN x)) L) := propext Iff.rfl
theorem e_isb : (oIs (.bl u) (.bl v) L R) = (R (.bl (decide (u = v))) L) := propext Iff.rfl
theorem e_isnb : (oIsNot (.bl u) (.bl v) L R) = (R (.bl (!decide (u = v))) L) := propext Iff.rfl
theorem e_isN_non : isN .non = true := rfl
theorem e_isN_bl : isN (.bl u) = false := rfl
theorem e_isN_int : isN (.int i) = false := rfl
theorem e_isN_tup : isN (.tup xs) = false := rfl
theorem e_isN_ref {p : Addr} : isN (.ref p) = false := rfl
theorem e_isN_fz {q : List Int} : isN (.fz q) = false := rfl
theorem e_isN_fr {w : Rat} : isN (fr w) = false := rfl
theorem e_isN_str {z : Str} : isN (.str z) = false := rfl
theorem e_lent : (gLen [.tup xs] L R) = (R (.int xs.length) L) := propext Iff.rfl
theorem e_lenz {ns : List Int} : (gLen [.fz ns] L R) = (R (.int ns.length) L) := propext Iff.rfl
theorem e_abs : (gAbs [.int i] L R) = (R (.int (i.natAbs : Int)) L) := propext Iff.rfl
theorem e_int : (gInt [.int i] L R) = (R (.int i) L) := propext Iff.rfl
theorem e_intb : (gInt [.bl u] L R) = (R (.int (if u then 1 else 0)) L) := propext Iff.rfl
theorem e_dvm : (gDivmod [.int i, .int j] L R) = (0 < j ∧ NoPl i j ∧ R (.tup [.int (i / j), .int (i % j)]) L) := propext Iff.rfl
theorem e_min : (gMin [.int i, .int j] L R) = (R (.int (min i j)) L) := propext Iff.rfl
theorem e_max : (gMax [.int i, .int j] L R) = (R (.int (max i j)) L) := propext Iff.rfl
theorem e_listt : (gList [.tup xs] L R) = (newL L xs R) := propext Iff.rfl
theorem e_listz {ns : List Int} : (gList [.fz ns] L R) = (newL L (ns.map PV.int) R) := propext Iff.rfl
theorem e_tupt : (gTuple [.tup xs] L R) = (R (.tup xs) L) := propext Iff.rfl
theorem e_str : (gStr [.int i] L R) = (i.natAbs.log2 < 1920 ∧ R (.str (Str.ofString (toString i))) L) := propext Iff.rfl
theorem gv_0 {z : Option PV} : gv (z :: env) 0 = z := rfl
theorem gv_s {z : Option PV} {n : Nat} : gv (z :: env) (n + 1) = gv env n := rfl
theorem e_lenl {p : Addr} (h : L p = some (.l xs)) : gLen [.ref p] L R = R (.int xs.length) L := by
  show (match L p with | some (.l ys) => R (.int ys.length) L | some (.d ys) => R (.int ys.length) L | none => False) = _
  rw [h]
theorem e_listl {p : Addr} (h : L p = some (.l xs)) : gList [.ref p] L R = newL L xs R := by
  show (match L p with | some (.l ys) => newL L ys R | _ => False) = _
  rw [h]
theorem e_tupl {p : Addr} (h : L p = some (.l xs)) : gTuple [.ref p] L R = R (.tup xs) L := by
  show (match L p with | some (.l ys) => R (.tup ys) L | _ => False) = _
  rw [h]
theorem e_sll {p : Addr} {lo hi : Option Int} (h : L p = some (.l xs)) : oSl (.ref p) lo hi L R = newL L (cutP xs lo hi) R := by
  show (match L p with | some (.l xs) => newL L (cutP xs lo hi) R | _ => False) = _
  rw [h]
theorem e_slt {lo hi : Option Int} : (oSl (.tup xs) lo hi L R) = (R (.tup (cutP xs lo hi)) L) := propext Iff.rfl
theorem e_slz {lo hi : Option Int} {ns : List Int} : (oSl (.fz ns) lo hi L R) = (newL L ((cutP ns lo hi).map PV.int) R) := propext Iff.rfl
theorem e_v0 : wVar 0 (some x :: env) L R = R x L := propext Iff.rfl
theorem e_v1 {z0 : Option PV} : wVar 1 (z0 :: some x :: env) L R = R x L := propext Iff.rfl
theorem e_v2 {z0 : Option PV} {z1 : Option PV} : wVar 2 (z0 :: z1 :: some x :: env) L R = R x L := propext Iff.rfl
theorem e_v3 {z0 : Option PV} {z1 : Option PV} {z2 : Option PV} : wVar 3 (z0 :: z1 :: z2 :: some x :: env) L R = R x L := propext Iff.rfl
theorem e_v4 {z0 : Option PV} {z1 : Option PV} {z2 : Option PV} {z3 : Option PV} : wVar 4 (z0 :: z1 :: z2 :: z3 :: some x :: env) L R = R x L := propext Iff.rfl
theorem e_v5 {z0 : Option PV} {z1 : Option PV} {z2 : Option PV} {z3 : Option PV} {z4 : Option PV} : wVar 5 (z0 :: z1 :: z2 :: z3 :: z4 :: some x :: env) L R = R x L := propext Iff.rfl
theorem e_v6 {z0 : Option PV} {z1 : Option PV} {z2 : Option PV} {z3 : Option PV} {z4 : Option PV} {z5 : Option PV} : wVar 6 (z0 :: z1 :: z2 :: z3 :: z4 :: z5 :: some x :: env) L R = R x L := propext Iff.rfl
theorem e_v7 {z0 : Option PV} {z1 : Option PV} {z2 : Option PV} {z3 : Option PV} {z4 : Option PV} {z5 : Option PV} {z6 : Option PV} : wVar 7 (z0 :: z1 :: z2 :: z3 :: z4 :: z5 :: z6 :: some x :: env) L R = R x L := propext Iff.rfl
theorem e_v8 {z0 : Option PV} {z1 : Option PV} {z2 : Option PV} {z3 : Option PV} {z4 : Option PV} {z5 : Option PV} {z6 : Option PV} {z7 : Option PV} : wVar 8 (z0 :: z1 :: z2 :: z3 :: z4 :: z5 :: z6 :: z7 :: some x :: env) L R = R x L := propext Iff.rfl
theorem e_v9 {z0 : Option PV} {z1 : Option PV} {z2 : Option PV} {z3 : Option PV} {z4 : Option PV} {z5 : Option PV} {z6 : Option PV} {z7 : Option PV} {z8 : Option PV} : wVar 9 (z0 :: z1 :: z2 :: z3 :: z4 :: z5 :: z6 :: z7 :: z8 :: some x :: env) L R = R x L := propext Iff.rfl
theorem e_v10 {z0 : Option PV} {z1 : Option PV} {z2 : Option PV} {z3 : Option PV} {z4 : Option PV} {z5 : Option PV} {z6 : Option PV} {z7 : Option PV} {z8 : Option PV} {z9 : Option PV} : wVar 10 (z0 :: z1 :: z2 :: z3 :: z4 :: z5 :: z6 :: z7 :: z8 :: z9 :: some x :: env) L R = R x L := propext Iff.rfl
theorem e_v11 {z0 : Option PV} {z1 : Option PV} {z2 : Option PV} {z3 : Option PV} {z4 : Option PV} {z5 : Option PV} {z6 : Option PV} {z7 : Option PV} {z8 : Option PV} {z9 : Option PV} {z10 : Option PV} : wVar 11 (z0 :: z1 :: z2 :: z3 :: z4 :: z5 :: z6 :: z7 :: z8 :: z9 :: z10 :: some x :: env) L R = R x L := propext Iff.rfl
theorem e_v12 {z0 : Option PV} {z1 : Option PV} {z2 : Option PV} {z3 : Option PV} {z4 : Option PV} {z5 : Option PV} {z6 : Option PV} {z7 : Option PV} {z8 : Option PV} {z9 : Option PV} {z10 : Option PV} {z11 : Option PV} : wVar 12 (z0 :: z1 :: z2 :: z3 :: z4 :: z5 :: z6 :: z7 :: z8 :: z9 :: z10 :: z11 :: some x :: env) L R = R x L := propext Iff.rfl
theorem e_v13 {z0 : Option PV} {z1 : Option PV} {z2 : Option PV} {z3 : Option PV} {z4 : Option PV} {z5 : Option PV} {z6 : Option PV} {z7 : Option PV} {z8 : Option PV} {z9 : Option PV} {z10 : Option PV} {z11 : Option PV} {z12 : Option PV} : wVar 13 (z0 :: z1 :: z2 :: z3 :: z4 :: z5 :: z6 :: z7 :: z8 :: z9 :: z10 :: z11 :: z12 :: some x :: env) L R = R x L := propext Iff.rfl
theorem e_v14 {z0 : Option PV} {z1 : Option PV} {z2 : Option PV} {z3 : Option PV} {z4 : Option PV} {z5 : Option PV} {z6 : Option PV} {z7 : Option PV} {z8 : Option PV} {z9 : Option PV} {z10 : Option PV} {z11 : Option PV} {z12 : Option PV} {z13 : Option PV} : wVar 14 (z0 :: z1 :: z2 :: z3 :: z4 :: z5 :: z6 :: z7 :: z8 :: z9 :: z10 :: z11 :: z12 :: z13 :: some x :: env) L R = R x L := propext Iff.rfl
theorem e_v15 {z0 : Option PV} {z1 : Option PV} {z2 : Option PV} {z3 : Option PV} {z4 : Option PV} {z5 : Option PV} {z6 : Option PV} {z7 : Option PV} {z8 : Option PV} {z9 : Option PV} {z10 : Option PV} {z11 : Option PV} {z12 : Option PV} {z13 : Option PV} {z14 : Option PV} : wVar 15 (z0 :: z1 :: z2 :: z3 :: z4 :: z5 :: z6 :: z7 :: z8 :: z9 :: z10 :: z11 :: z12 :: z13 :: z14 :: some x :: env) L R = R x L := propext Iff.rfl
theorem e_v16 {z0 : Option PV} {z1 : Option PV} {z2 : Option PV} {z3 : Option PV} {z4 : Option PV} {z5 : Option PV} {z6 : Option PV} {z7 : Option PV} {z8 : Option PV} {z9 : Option PV} {z10 : Option PV} {z11 : Option PV} {z12 : Option PV} {z13 : Option PV} {z14 : Option PV} {z15 : Option PV} : wVar 16 (z0 :: z1 :: z2 :: z3 :: z4 :: z5 :: z6 :: z7 :: z8 :: z9 :: z10 :: z11 :: z12 :: z13 :: z14 :: z15 :: some x :: env) L R = R x L := propext Iff.rfl
theorem e_v17 {z0 : Option PV} {z1 : Option PV} {z2 : Option PV} {z3 : Option PV} {z4 : Option PV} {z5 : Option PV} {z6 : Option PV} {z7 : Option PV} {z8 : Option PV} {z9 : Option PV} {z10 : Option PV} {z11 : Option PV} {z12 : Option PV} {z13 : Option PV} {z14 : Option PV} {z15 : Option PV} {z16 : Option PV} : wVar 17 (z0 :: z1 :: z2 :: z3 :: z4 :: z5 :: z6 :: z7 :: z8 :: z9 :: z10 :: z11 :: z12 :: z13 :: z14 :: z15 :: z16 :: some x :: env) L R = R x L := propext Iff.rfl
theorem e_v18 {z0 : Option PV} {z1 : Option PV} {z2 : Option PV} {z3 : Option PV} {z4 : Option PV} {z5 : Option PV} {z6 : Option PV} {z7 : Option PV} {z8 : Option PV} {z9 : Option PV} {z10 : Option PV} {z11 : Option PV} {z12 : Option PV} {z13 : Option PV} {z14 : Option PV} {z15 : Option PV} {z16 : Option PV} {z17 : Option PV} : wVar 18 (z0 :: z1 :: z2 :: z3 :: z4 :: z5 :: z6 :: z7 :: z8 :: z9 :: z10 :: z11 :: z12 :: z13 :: z14 :: z15 :: z16 :: z17 :: some x :: env) L R = R x L := propext Iff.rfl
theorem e_v19 {z0 : Option PV} {z1 : Option PV} {z2 : Option PV} {z3 : Option PV} {z4 : Option PV} {z5 : Option PV} {z6 : Option PV} {z7 : Option PV} {z8 : Option PV} {z9 : Option PV} {z10 : Option PV} {z11 : Option PV} {z12 : Option PV} {z13 : Option PV} {z14 : Option PV} {z15 : Option PV} {z16 : Option PV} {z17 : Option PV} {z18 : Option PV} : wVar 19 (z0 :: z1 :: z2 :: z3 :: z4 :: z5 :: z6 :: z7 :: z8 :: z9 :: z10 :: z11 :: z12 :: z13 :: z14 :: z15 :: z16 :: z17 :: z18 :: some x :: env) L R = R x L := propext Iff.rfl
theorem e_v20 {z0 : Option PV} {z1 : Option PV} {z2 : Option PV} {z3 : Option PV} {z4 : Option PV} {z5 : Option PV} {z6 : Option PV} {z7 : Option PV} {z8 : Option PV} {z9 : Option PV} {z10 : Option PV} {z11 : Option PV} {z12 : Option PV} {z13 : Option PV} {z14 : Option PV} {z15 : Option PV} {z16 : Option PV} {z17 : Option PV} {z18 : Option PV} {z19 : Option PV} : wVar 20 (z0 :: z1 :: z2 :: z3 :: z4 :: z5 :: z6 :: z7 :: z8 :: z9 :: z10 :: z11 :: z12 :: z13 :: z14 :: z15 :: z16 :: z17 :: z18 :: z19 :: some x :: env) L R = R x L := propext Iff.rfl
theorem e_v21 {z0 : Option PV} {z1 : Option PV} {z2 : Option PV} {z3 : Option PV} {z4 : Option PV} {z5 : Option PV} {z6 : Option PV} {z7 : Option PV} {z8 : Option PV} {z9 : Option PV} {z10 : Option PV} {z11 : Option PV} {z12 : Option PV} {z13 : Option PV} {z14 : Option PV} {z15 : Option PV} {z16 : Option PV} {z17 : Option PV} {z18 : Option PV} {z19 : Option PV} {z20 : Option PV} : wVar 21 (z0 :: z1 :: z2 :: z3 :: z4 :: z5 :: z6 :: z7 :: z8 :: z9 :: z10 :: z11 :: z12 :: z13 :: z14 :: z15 :: z16 :: z17 :: z18 :: z19 :: z20 :: some x :: env) L R = R x L := propext Iff.rfl
theorem e_v22 {z0 : Option PV} {z1 : Option PV} {z2 : Option PV} {z3 : Option PV} {z4 : Option PV} {z5 : Option PV} {z6 : Option PV} {z7 : Option PV} {z8 : Option PV} {z9 : Option PV} {z10 : Option PV} {z11 : Option PV} {z12 : Option PV} {z13 : Option PV} {z14 : Option PV} {z15 : Option PV} {z16 : Option PV} {z17 : Option PV} {z18 : Option PV} {z19 : Option PV} {z20 : Option PV} {z21 : Option PV} : wVar 22 (z0 :: z1 :: z2 :: z3 :: z4 :: z5 :: z6 :: z7 :: z8 :: z9 :: z10 :: z11 :: z12 :: z13 :: z14 :: z15 :: z16 :: z17 :: z18 :: z19 :: z20 :: z21 :: some x :: env) L R = R x L := propext Iff.rfl
theorem e_v23 {z0 : Option PV} {z1 : Option PV} {z2 : Option PV} {z3 : Option PV} {z4 : Option PV} {z5 : Option PV} {z6 : Option PV} {z7 : Option PV} {z8 : Option PV} {z9 : Option PV} {z10 : Option PV} {z11 : Option PV} {z12 : Option PV} {z13 : Option PV} {z14 : Option PV} {z15 : Option PV} {z16 : Option PV} {z17 : Option PV} {z18 : Option PV} {z19 : Option PV} {z20 : Option PV} {z21 : Option PV} {z22 : Option PV} : wVar 23 (z0 :: z1 :: z2 :: z3 :: z4 :: z5 :: z6 :: z7 :: z8 :: z9 :: z10 :: z11 :: z12 :: z13 :: z14 :: z15 :: z16 :: z17 :: z18 :: z19 :: z20 :: z21 :: z22 :: some x :: env) L R = R x L := propext Iff.rfl
theorem e_v24 {z0 : Option PV} {z1 : Option PV} {z2 : Option PV} {z3 : Option PV} {z4 : Option PV} {z5 : Option PV} {z6 : Option PV} {z7 : Option PV} {z8 : Option PV} {z9 : Option PV} {z10 : Option PV} {z11 : Option PV} {z12 : Option PV} {z13 : Option PV} {z14 : Option PV} {z15 : Option PV} {z16 : Option PV} {z17 : Option PV} {z18 : Option PV} {z19 : Option PV} {z20 : Option PV} {z21 : Option PV} {z22 : Option PV} {z23 : Option PV} : wVar 24 (z0 :: z1 :: z2 :: z3 :: z4 :: z5 :: z6 :: z7 :: z8 :: z9 :: z10 :: z11 :: z12 :: z13 :: z14 :: z15 :: z16 :: z17 :: z18 :: z19 :: z20 :: z21 :: z22 :: z23 :: some x :: env) L R = R x L := propext Iff.rfl
theorem e_v25 {z0 : Option PV} {z1 : Option PV} {z2 : Option PV} {z3 : Option PV} {z4 : Option PV} {z5 : Option PV} {z6 : Option PV} {z7 : Option PV} {z8 : Option PV} {z9 : Option PV} {z10 : Option PV} {z11 : Option PV} {z12 : Option PV} {z13 : Option PV} {z14 : Option PV} {z15 : Option PV} {z16 : Option PV} {z17 : Option PV} {z18 : Option PV} {z19 : Option PV} {z20 : Option PV} {z21 : Option PV} {z22 : Option PV} {z23 : Option PV} {z24 : Option PV} : wVar 25 (z0 :: z1 :: z2 :: z3 :: z4 :: z5 :: z6 :: z7 :: z8 :: z9 :: z10 :: z11 :: z12 :: z13 :: z14 :: z15 :: z16 :: z17 :: z18 :: z19 :: z20 :: z21 :: z22 :: z23 :: z24 :: some x :: env) L R = R x L := propext Iff.rfl
theorem e_v26 {z0 : Option PV} {z1 : Option PV} {z2 : Option PV} {z3 : Option PV} {z4 : Option PV} {z5 : Option PV} {z6 : Option PV} {z7 : Option PV} {z8 : Option PV} {z9 : Option PV} {z10 : Option PV} {z11 : Option PV} {z12 : Option PV} {z13 : Option PV} {z14 : Option PV} {z15 : Option PV} {z16 : Option PV} {z17 : Option PV} {z18 : Option PV} {z19 : Option PV} {z20 : Option PV} {z21 : Option PV} {z22 : Option PV} {z23 : Option PV} {z24 : Option PV} {z25 : Option PV} : wVar 26 (z0 :: z1 :: z2 :: z3 :: z4 :: z5 :: z6 :: z7 :: z8 :: z9 :: z10 :: z11 :: z12 :: z13 :: z14 :: z15 :: z16 :: z17 :: z18 :: z19 :: z20 :: z21 :: z22 :: z23 :: z24 :: z25 :: some x :: env) L R = R x L := propext Iff.rfl
theorem e_v27 {z0 : Option PV} {z1 : Option PV} {z2 : Option PV} {z3 : Option PV} {z4 : Option PV} {z5 : Option PV} {z6 : Option PV} {z7 : Option PV} {z8 : Option PV} {z9 : Option PV} {z10 : Option PV} {z11 : Option PV} {z12 : Option PV} {z13 : Option PV} {z14 : Option PV} {z15 : Option PV} {z16 : Option PV} {z17 : Option PV} {z18 : Option PV} {z19 : Option PV} {z20 : Option PV} {z21 : Option PV} {z22 : Option PV} {z23 : Option PV} {z24 : Option PV} {z25 : Option PV} {z26 : Option PV} : wVar 27 (z0 :: z1 :: z2 :: z3 :: z4 :: z5 :: z6 :: z7 :: z8 :: z9 :: z10 :: z11 :: z12 :: z13 :: z14 :: z15 :: z16 :: z17 :: z18 :: z19 :: z20 :: z21 :: z22 :: z23 :: z24 :: z25 :: z26 :: some x :: env) L R = R x L := propext Iff.rfl
theorem e_v28 {z0 : Option PV} {z1 : Option PV} {z2 : Option PV} {z3 : Option PV} {z4 : Option PV} {z5 : Option PV} {z6 : Option PV} {z7 : Option PV} {z8 : Option PV} {z9 : Option PV} {z10 : Option PV} {z11 : Option PV} {z12 : Option PV} {z13 : Option PV} {z14 : Option PV} {z15 : Option PV} {z16 : Option PV} {z17 : Option PV} {z18 : Option PV} {z19 : Option PV} {z20 : Option PV} {z21 : Option PV} {z22 : Option PV} {z23 : Option PV} {z24 : Option PV} {z25 : Option PV} {z26 : Option PV} {z27 : Option PV} : wVar 28 (z0 :: z1 :: z2 :: z3 :: z4 :: z5 :: z6 :: z7 :: z8 :: z9 :: z10 :: z11 :: z12 :: z13 :: z14 :: z15 :: z16 :: z17 :: z18 :: z19 :: z20 :: z21 :: z22 :: z23 :: z24 :: z25 :: z26 :: z27 :: some x :: env) L R = R x L := propext Iff.rfl
theorem e_v29 {z0 : Option PV} {z1 : Option PV} {z2 : Option PV} {z3 : Option PV} {z4 : Option PV} {z5 : Option PV} {z6 : Option PV} {z7 : Option PV} {z8 : Option PV} {z9 : Option PV} {z10 : Option PV} {z11 : Option PV} {z12 : Option PV} {z13 : Option PV} {z14 : Option PV} {z15 : Option PV} {z16 : Option PV} {z17 : Option PV} {z18 : Option PV} {z19 : Option PV} {z20 : Option PV} {z21 : Option PV} {z22 : Option PV} {z23 : Option PV} {z24 : Option PV} {z25 : Option PV} {z26 : Option PV} {z27 : Option PV} {z28 : Option PV} : wVar 29 (z0 :: z1 :: z2 :: z3 :: z4 :: z5 :: z6 :: z7 :: z8 :: z9 :: z10 :: z11 :: z12 :: z13 :: z14 :: z15 :: z16 :: z17 :: z18 :: z19 :: z20 :: z21 :: z22 :: z23 :: z24 :: z25 :: z26 :: z27 :: z28 :: some x :: env) L R = R x L := propext Iff.rfl
theorem e_v30 {z0 : Option PV} {z1 : Option PV} {z2 : Option PV} {z3 : Option PV} {z4 : Option PV} {z5 : Option PV} {z6 : Option PV} {z7 : Option PV} {z8 : Option PV} {z9 : Option PV} {z10 : Option PV} {z11 : Option PV} {z12 : Option PV} {z13 : Option PV} {z14 : Option PV} {z15 : Option PV} {z16 : Option PV} {z17 : Option PV} {z18 : Option PV} {z19 : Option PV} {z20 : Option PV} {z21 : Option PV} {z22 : Option PV} {z23 : Option PV} {z24 : Option PV} {z25 : Option PV} {z26 : Option PV} {z27 : Option PV} {z28 : Option PV} {z29 : Option PV} : wVar 30 (z0 :: z1 :: z2 :: z3 :: z4 :: z5 :: z6 :: z7 :: z8 :: z9 :: z10 :: z11 :: z12 :: z13 :: z14 :: z15 :: z16 :: z17 :: z18 :: z19 :: z20 :: z21 :: z22 :: z23 :: z24 :: z25 :: z26 :: z27 :: z28 :: z29 :: some x :: env) L R = R x L := propext Iff.rfl
theorem e_v31 {z0 : Option PV} {z1 : Option PV} {z2 : Option PV} {z3 : Option PV} {z4 : Option PV} {z5 : Option PV} {z6 : Option PV} {z7 : Option PV} {z8 : Option PV} {z9 : Option PV} {z10 : Option PV} {z11 : Option PV} {z12 : Option PV} {z13 : Option PV} {z14 : Option PV} {z15 : Option PV} {z16 : Option PV} {z17 : Option PV} {z18 : Option PV} {z19 : Option PV} {z20 : Option PV} {z21 : Option PV} {z22 : Option PV} {z23 : Option PV} {z24 : Option PV} {z25 : Option PV} {z26 : Option PV} {z27 : Option PV} {z28 : Option PV} {z29 : Option PV} {z30 : Option PV} : wVar 31 (z0 :: z1 :: z2 :: z3 :: z4 :: z5 :: z6 :: z7 :: z8 :: z9 :: z10 :: z11 :: z12 :: z13 :: z14 :: z15 :: z16 :: z17 :: z18 :: z19 :: z20 :: z21 :: z22 :: z23 :: z24 :: z25 :: z26 :: z27 :: z28 :: z29 :: z30 :: some x :: env) L R = R x L := propext Iff.rfl
theorem e_v32 {z0 : Option PV} {z1 : Option PV} {z2 : Option PV} {z3 : Option PV} {z4 : Option PV} {z5 : Option PV} {z6 : Option PV} {z7 : Option PV} {z8 : Option PV} {z9 : Option PV} {z10 : Option PV} {z11 : Option PV} {z12 : Option PV} {z13 : Option PV} {z14 : Option PV} {z15 : Option PV} {z16 : Option PV} {z17 : Option PV} {z18 : Option PV} {z19 : Option PV} {z20 : Option PV} {z21 : Option PV} {z22 : Option PV} {z23 : Option PV} {z24 : Option PV} {z25 : Option PV} {z26 : Option PV} {z27 : Option PV} {z28 : Option PV} {z29 : Option PV} {z30 : Option PV} {z31 : Option PV} : wVar 32 (z0 :: z1 :: z2 :: z3 :: z4 :: z5 :: z6 :: z7 :: z8 :: z9 :: z10 :: z11 :: z12 :: z13 :: z14 :: z15 :: z16 :: z17 :: z18 :: z19 :: z20 :: z21 :: z22 :: z23 :: z24 :: z25 :: z26 :: z27 :: z28 :: z29 :: z30 :: z31 :: some x :: env) L R = R x L := propext Iff.rfl
theorem e_v33 {z0 : Option PV} {z1 : Option PV} {z2 : Option PV} {z3 : Option PV} {z4 : Option PV} {z5 : Option PV} {z6 : Option PV} {z7 : Option PV} {z8 : Option PV} {z9 : Option PV} {z10 : Option PV} {z11 : Option PV} {z12 : Option PV} {z13 : Option PV} {z14 : Option PV} {z15 : Option PV} {z16 : Option PV} {z17 : Option PV} {z18 : Option PV} {z19 : Option PV} {z20 : Option PV} {z21 : Option PV} {z22 : Option PV} {z23 : Option PV} {z24 : Option PV} {z25 : Option PV} {z26 : Option PV} {z27 : Option PV} {z28 : Option PV} {z29 : Option PV} {z30 : Option PV} {z31 : Option PV} {z32 : Option PV} : wVar 33 (z0 :: z1 :: z2 :: z3 :: z4 :: z5 :: z6 :: z7 :: z8 :: z9 :: z10 :: z11 :: z12 :: z13 :: z14 :: z15 :: z16 :: z17 :: z18 :: z19 :: z20 :: z21 :: z22 :: z23 :: z24 :: z25 :: z26 :: z27 :: z28 :: z29 :: z30 :: z31 :: z32 :: some x :: env) L R = R x L := propext Iff.rfl
theorem e_v34 {z0 : Option PV} {z1 : Option PV} {z2 : Option PV} {z3 : Option PV} {z4 : Option PV} {z5 : Option PV} {z6 : Option PV} {z7 : Option PV} {z8 : Option PV} {z9 : Option PV} {z10 : Option PV} {z11 : Option PV} {z12 : Option PV} {z13 : Option PV} {z14 : Option PV} {z15 : Option PV} {z16 : Option PV} {z17 : Option PV} {z18 : Option PV} {z19 : Option PV} {z20 : Option PV} {z21 : Option PV} {z22 : Option PV} {z23 : Option PV} {z24 : Option PV} {z25 : Option PV} {z26 : Option PV} {z27 : Option PV} {z28 : Option PV} {z29 : Option PV} {z30 : Option PV} {z31 : Option PV} {z32 : Option PV} {z33 : Option PV} : wVar 34 (z0 :: z1 :: z2 :: z3 :: z4 :: z5 :: z6 :: z7 :: z8 :: z9 :: z10 :: z11 :: z12 :: z13 :: z14 :: z15 :: z16 :: z17 :: z18 :: z19 :: z20 :: z21 :: z22 :: z23 :: z24 :: z25 :: z26 :: z27 :: z28 :: z29 :: z30 :: z31 :: z32 :: z33 :: some x :: env) L R = R x L := propext Iff.rfl
theorem e_v35 {z0 : Option PV} {z1 : Option PV} {z2 : Option PV} {z3 : Option PV} {z4 : Option PV} {z5 : Option PV} {z6 : Option PV} {z7 : Option PV} {z8 : Option PV} {z9 : Option PV} {z10 : Option PV} {z11 : Option PV} {z12 : Option PV} {z13 : Option PV} {z14 : Option PV} {z15 : Option PV} {z16 : Option PV} {z17 : Option PV} {z18 : Option PV} {z19 : Option PV} {z20 : Option PV} {z21 : Option PV} {z22 : Option PV} {z23 : Option PV} {z24 : Option PV} {z25 : Option PV} {z26 : Option PV} {z27 : Option PV} {z28 : Option PV} {z29 : Option PV} {z30 : Option PV} {z31 : Option PV} {z32 : Option PV} {z33 : Option PV} {z34 : Option PV} : wVar 35 (z0 :: z1 :: z2 :: z3 :: z4 :: z5 :: z6 :: z7 :: z8 :: z9 :: z10 :: z11 :: z12 :: z13 :: z14 :: z15 :: z16 :: z17 :: z18 :: z19 :: z20 :: z21 :: z22 :: z23 :: z24 :: z25 :: z26 :: z27 :: z28 :: z29 :: z30 :: z31 :: z32 :: z33 :: z34 :: some x :: env) L R = R x L := propext Iff.rfl
theorem e_v36 {z0 : Option PV} {z1 : Option PV} {z2 : Option PV} {z3 : Option PV} {z4 : Option PV} {z5 : Option PV} {z6 : Option PV} {z7 : Option PV} {z8 : Option PV} {z9 : Option PV} {z10 : Option PV} {z11 : Option PV} {z12 : Option PV} {z13 : Option PV} {z14 : Option PV} {z15 : Option PV} {z16 : Option PV} {z17 : Option PV} {z18 : Option PV} {z19 : Option PV} {z20 : Option PV} {z21 : Option PV} {z22 : Option PV} {z23 : Option PV} {z24 : Option PV} {z25 : Option PV} {z26 : Option PV} {z27 : Option PV} {z28 : Option PV} {z29 : Option PV} {z30 : Option PV} {z31 : Option PV} {z32 : Option PV} {z33 : Option PV} {z34 : Option PV} {z35 : Option PV} : wVar 36 (z0 :: z1 :: z2 :: z3 :: z4 :: z5 :: z6 :: z7 :: z8 :: z9 :: z10 :: z11 :: z12 :: z13 :: z14 :: z15 :: z16 :: z17 :: z18 :: z19 :: z20 :: z21 :: z22 :: z23 :: z24 :: z25 :: z26 :: z27 :: z28 :: z29 :: z30 :: z31 :: z32 :: z33 :: z34 :: z35 :: some x :: env) L R = R x L := propext Iff.rfl
theorem e_v37 {z0 : Option PV} {z1 : Option PV} {z2 : Option PV} {z3 : Option PV} {z4 : Option PV} {z5 : Option PV} {z6 : Option PV} {z7 : Option PV} {z8 : Option PV} {z9 : Option PV} {z10 : Option PV} {z11 : Option PV} {z12 : Option PV} {z13 : Option PV} {z14 : Option PV} {z15 : Option PV} {z16 : Option PV} {z17 : Option PV} {z18 : Option PV} {z19 : Option PV} {z20 : Option PV} {z21 : Option PV} {z22 : Option PV} {z23 : Option PV} {z24 : Option PV} {z25 : Option PV} {z26 : Option PV} {z27 : Option PV} {z28 : Option PV} {z29 : Option PV} {z30 : Option PV} {z31 : Option PV} {z32 : Option PV} {z33 : Option PV} {z34 : Option PV} {z35 : Option PV} {z36 : Option PV} : wVar 37 (z0 :: z1 :: z2 :: z3 :: z4 :: z5 :: z6 :: z7 :: z8 :: z9 :: z10 :: z11 :: z12 :: z13 :: z14 :: z15 :: z16 :: z17 :: z18 :: z19 :: z20 :: z21 :: z22 :: z23 :: z24 :: z25 :: z26 :: z27 :: z28 :: z29 :: z30 :: z31 :: z32 :: z33 :: z34 :: z35 :: z36 :: some x :: env) L R = R x L := propext Iff.rfl
theorem e_v38 {z0 : Option PV} {z1 : Option PV} {z2 : Option PV} {z3 : Option PV} {z4 : Option PV} {z5 : Option PV} {z6 : Option PV} {z7 : Option PV} {z8 : Option PV} {z9 : Option PV} {z10 : Option PV} {z11 : Option PV} {z12 : Option PV} {z13 : Option PV} {z14 : Option PV} {z15 : Option PV} {z16 : Option PV} {z17 : Option PV} {z18 : Option PV} {z19 : Option PV} {z20 : Option PV} {z21 : Option PV} {z22 : Option PV} {z23 : Option PV} {z24 : Option PV} {z25 : Option PV} {z26 : Option PV} {z27 : Option PV} {z28 : Option PV} {z29 : Option PV} {z30 : Option PV} {z31 : Option PV} {z32 : Option PV} {z33 : Option PV} {z34 : Option PV} {z35 : Option PV} {z36 : Option PV} {z37 : Option PV} : wVar 38 (z0 :: z1 :: z2 :: z3 :: z4 :: z5 :: z6 :: z7 :: z8 :: z9 :: z10 :: z11 :: z12 :: z13 :: z14 :: z15 :: z16 :: z17 :: z18 :: z19 :: z20 :: z21 :: z22 :: z23 :: z24 :: z25 :: z26 :: z27 :: z28 :: z29 :: z30 :: z31 :: z32 :: z33 :: z34 :: z35 :: z36 :: z37 :: some x :: env) L R = R x L := propext Iff.rfl
theorem e_v39 {z0 : Option PV} {z1 : Option PV} {z2 : Option PV} {z3 : Option PV} {z4 : Option PV} {z5 : Option PV} {z6 : Option PV} {z7 : Option PV} {z8 : Option PV} {z9 : Option PV} {z10 : Option PV} {z11 : Option PV} {z12 : Option PV} {z13 : Option PV} {z14 : Option PV} {z15 : Option PV} {z16 : Option PV} {z17 : Option PV} {z18 : Option PV} {z19 : Option PV} {z20 : Option PV} {z21 : Option PV} {z22 : Option PV} {z23 : Option PV} {z24 : Option PV} {z25 : Option PV} {z26 : Option PV} {z27 : Option PV} {z28 : Option PV} {z29 : Option PV} {z30 : Option PV} {z31 : Option PV} {z32 : Option PV} {z33 : Option PV} {z34 : Option PV} {z35 : Option PV} {z36 : Option PV} {z37 : Option PV} {z38 : Option PV} : wVar 39 (z0 :: z1 :: z2 :: z3 :: z4 :: z5 :: z6 :: z7 :: z8 :: z9 :: z10 :: z11 :: z12 :: z13 :: z14 :: z15 :: z16 :: z17 :: z18 :: z19 :: z20 :: z21 :: z22 :: z23 :: z24 :: z25 :: z26 :: z27 :: z28 :: z29 :: z30 :: z31 :: z32 :: z33 :: z34 :: z35 :: z36 :: z37 :: z38 :: some x :: env) L R = R x L := propext Iff.rfl
theorem e_ar0 {R : List PV → Sto → Prop} : wAr [] env L R = R [] L := propext Iff.rfl
theorem e_ar1 {w : WE} {ws : List WE} {R : List PV → Sto → Prop} : wAr (w :: ws) env L R = w env L fun x La => wAr ws env La fun xs Lb => R (x :: xs) Lb := propext Iff.rfl
theorem e_gN {n : Nat} {R : Env → Sto → Prop} : gN n x env L R = R (env.set n (some x)) L := propext Iff.rfl
theorem e_par {is : List Nat} {ws : List WE} : sPar is ws env L N = wAr ws env L fun xs La => N.nx ((is.zip xs).foldl (fun e p => e.set p.1 (some p.2)) env) La := propext Iff.rfl
theorem e_c : (wC x env L R) = (R x L) := propext Iff.rfl
theorem e_bin {f : Op2} {p q : WE} : (wBin f p q env L R) = (p env L fun x La => q env La fun y Lb => f x y Lb R) := propext Iff.rfl
theorem e_un {p : WE} {h : PV → Sto → PK → Prop} : (wUn h p env L R) = (p env L fun x La => h x La R) := propext Iff.rfl
theorem e_and {p q : WE} : (wAnd p q env L R) = (p env L fun x La => bIf x (q env La R) (R (.bl false) La)) := propext Iff.rfl
theorem e_or {p q : WE} : (wOr p q env L R) = (p env L fun x La => bIf x (R (.bl true) La) (q env La R)) := propext Iff.rfl
theorem e_ife {p q s : WE} : (wIfE p q s env L R) = (p env L fun x La => bIf x (q env La R) (s env La R)) := propext Iff.rfl
theorem e_chain {f : Op2} {p q s : WE} {f2 : Op2} : (wChain f f2 p q s env L R) = (p env L fun x La => q env La fun y Lb => f x y Lb fun z Lc => bIf z (s env Lc fun w Ld => f2 y w Ld R) (R (.bl false) Lc)) := propext Iff.rfl
theorem e_tup {ws : List WE} : (wTup ws env L R) = (wAr ws env L fun xs La => xs.length ≤ sizeLine ∧ R (.tup xs) La) := propext Iff.rfl
theorem e_lst {ws : List WE} : (wLst ws env L R) = (wAr ws env L fun xs La => xs.length ≤ sizeLine ∧ newL La xs R) := propext Iff.rfl
theorem e_bi {ws : List WE} {gf : BiF} : (wBi gf ws env L R) = (wAr ws env L fun xs La => gf xs La R) := propext Iff.rfl
theorem e_call {ws : List WE} {S : Spec} : (wCall S ws env L R) = (wAr ws env L fun xs La => S xs La R) := propext Iff.rfl
theorem e_sl {p : WE} {lo hi : WO} : (wSl p lo hi env L R) = (p env L fun x La => lo env La fun l Lb => hi env Lb fun u Lc => oSl x l u Lc R) := propext Iff.rfl
theorem e_no {R : Option Int → Sto → Prop} : wNo env L R = R none L := propext Iff.rfl
theorem e_so {p : WE} {R : Option Int → Sto → Prop} : wSo p env L R = p env L fun x La => match x with | .int i => R (some i) La | _ => False := propext Iff.rfl
theorem e_nil : (sNil env L N) = (N.nx env L) := propext Iff.rfl
theorem e_seq {s s2 : WS} : (sSeq s s2 env L N) = (s env L { N with nx := fun e l => s2 e l N }) := propext Iff.rfl
theorem e_expr {p : WE} : (sExpr p env L N) = (p env L fun _ La => N.nx env La) := propext Iff.rfl
theorem e_ret {p : WE} : (sRet p env L N) = (p env L N.rt) := propext Iff.rfl
theorem e_retn : (sRetN env L N) = (N.rt .non L) := propext Iff.rfl
theorem e_asg {p : WE} {g : WG} : (sAsg g p env L N) = (p env L fun x La => g x env La N.nx) := propext Iff.rfl
theorem e_if {s s2 : WS} {p : WE} : (sIf p s s2 env L N) = (p env L fun x La => bIf x (s env La N) (s2 env La N)) := propext Iff.rfl
theorem e_brk : (sBrk env L N) = (N.bk env L) := propext Iff.rfl
theorem e_cnt : (sCnt env L N) = (N.ct env L) := propext Iff.rfl
theorem sz_0 : (([] : List PV).length ≤ sizeLine) = True := eq_true (by show 0 ≤ sizeLine; decide)
theorem sz_1 {z0 : PV} : (([z0] : List PV).length ≤ sizeLine) = True := eq_true (by show 1 ≤ sizeLine; decide)
theorem sz_2 {z0 z1 : PV} : (([z0, z1] : List PV).length ≤ sizeLine) = True := eq_true (by show 2 ≤ sizeLine; decide)
theorem sz_3 {z0 z1 z2 : PV} : (([z0, z1, z2] : List PV).length ≤ sizeLine) = True := eq_true (by show 3 ≤ sizeLine; decide)
theorem sz_4 {z0 z1 z2 z3 : PV} : (([z0, z1, z2, z3] : List PV).length ≤ sizeLine) = True := eq_true (by show 4 ≤ sizeLine; decide)
theorem sz_5 {z0 z1 z2 z3 z4 : PV} : (([z0, z1, z2, z3, z4] : List PV).length ≤ sizeLine) = True := eq_true (by show 5 ≤ sizeLine; decide)
theorem sz_6 {z0 z1 z2 z3 z4 z5 : PV} : (([z0, z1, z2, z3, z4, z5] : List PV).length ≤ sizeLine) = True := eq_true (by show 6 ≤ sizeLine; decide)
theorem sz_7 {z0 z1 z2 z3 z4 z5 z6 : PV} : (([z0, z1, z2, z3, z4, z5, z6] : List PV).length ≤ sizeLine) = True := eq_true (by show 7 ≤ sizeLine; decide)
theorem sz_8 {z0 z1 z2 z3 z4 z5 z6 z7 : PV} : (([z0, z1, z2, z3, z4, z5, z6, z7] : List PV).length ≤ sizeLine) = True := eq_true (by show 8 ≤ sizeLine; decide)
theorem sz_9 {z0 z1 z2 z3 z4 z5 z6 z7 z8 : PV} : (([z0, z1, z2, z3, z4, z5, z6, z7, z8] : List PV).length ≤ sizeLine) = True := eq_true (by show 9 ≤ sizeLine; decide)
theorem sz_10 {z0 z1 z2 z3 z4 z5 z6 z7 z8 z9 : PV} : (([z0, z1, z2, z3, z4, z5, z6, z7, z8, z9] : List PV).length ≤ sizeLine) = True := eq_true (by show 10 ≤ sizeLine; decide)
theorem sz_11 {z0 z1 z2 z3 z4 z5 z6 z7 z8 z9 z10 : PV} : (([z0, z1, z2, z3, z4, z5, z6, z7, z8, z9, z10] : List PV).length ≤ sizeLine) = True := eq_true (by show 11 ≤ sizeLine; decide)
theorem sz_12 {z0 z1 z2 z3 z4 z5 z6 z7 z8 z9 z10 z11 : PV} : (([z0, z1, z2, z3, z4, z5, z6, z7, z8, z9, z10, z11] : List PV).length ≤ sizeLine) = True := eq_true (by show 12 ≤ sizeLine; decide)
theorem sz_13 {z0 z1 z2 z3 z4 z5 z6 z7 z8 z9 z10 z11 z12 : PV} : (([z0, z1, z2, z3, z4, z5, z6, z7, z8, z9, z10, z11, z12] : List PV).length ≤ sizeLine) = True := eq_true (by show 13 ≤ sizeLine; decide)
theorem sz_14 {z0 z1 z2 z3 z4 z5 z6 z7 z8 z9 z10 z11 z12 z13 : PV} : (([z0, z1, z2, z3, z4, z5, z6, z7, z8, z9, z10, z11, z12, z13] : List PV).length ≤ sizeLine) = True := eq_true (by show 14 ≤ sizeLine; decide)
theorem sz_15 {z0 z1 z2 z3 z4 z5 z6 z7 z8 z9 z10 z11 z12 z13 z14 : PV} : (([z0, z1, z2, z3, z4, z5, z6, z7, z8, z9, z10, z11, z12, z13, z14] : List PV).length ≤ sizeLine) = True := eq_true (by show 15 ≤ sizeLine; decide)
theorem sz_16 {z0 z1 z2 z3 z4 z5 z6 z7 z8 z9 z10 z11 z12 z13 z14 z15 : PV} : (([z0, z1, z2, z3, z4, z5, z6, z7, z8, z9, z10, z11, z12, z13, z14, z15] : List PV).length ≤ sizeLine) = True := eq_true (by show 16 ≤ sizeLine; decide)
theorem sz_17 {z0 z1 z2 z3 z4 z5 z6 z7 z8 z9 z10 z11 z12 z13 z14 z15 z16 : PV} : (([z0, z1, z2, z3, z4, z5, z6, z7, z8, z9, z10, z11, z12, z13, z14, z15, z16] : List PV).length ≤ sizeLine) = True := eq_true (by show 17 ≤ sizeLine; decide)
theorem sz_18 {z0 z1 z2 z3 z4 z5 z6 z7 z8 z9 z10 z11 z12 z13 z14 z15 z16 z17 : PV} : (([z0, z1, z2, z3, z4, z5, z6, z7, z8, z9, z10, z11, z12, z13, z14, z15, z16, z17] : List PV).length ≤ sizeLine) = True := eq_true (by show 18 ≤ sizeLine; decide)
theorem sz_19 {z0 z1 z2 z3 z4 z5 z6 z7 z8 z9 z10 z11 z12 z13 z14 z15 z16 z17 z18 : PV} : (([z0, z1, z2, z3, z4, z5, z6, z7, z8, z9, z10, z11, z12, z13, z14, z15, z16, z17, z18] : List PV).length ≤ sizeLine) = True := eq_true (by show 19 ≤ sizeLine; decide)
end
end
section
open PySem PySem.Spec PyProof.Rows L2
local macro_rules | `(tactic| walk_at "ev") => `(tactic| try simp only [fr0, fr1, ix0, ix1, ix2, ix3, bIf_t, bIf_f, bIf_d, bIf_n, oEq_ii, oNe_ii, oEq_bb, oNe_bb, List.set_cons_zero, List.set_cons_succ, List.zip_cons_cons, List.zip_nil_right, List.foldl_cons, List.foldl_nil, e_add, e_addI, e_addt, e_addl, e_sub, e_mul, e_div, e_mod, e_pow, e_oI, e_neg, e_not, e_isn, e_isnn, e_isb, e_isnb, e_isN_non, e_isN_bl, e_isN_int, e_isN_tup, e_isN_ref, e_isN_fz, e_isN_fr, e_isN_str, e_lent, e_lenz, e_abs, e_int, e_intb, e_dvm, e_min, e_max, e_listt, e_listz, e_tupt, e_str, gv_0, gv_s, e_slt, e_slz, e_v0, e_v1, e_v2, e_v3, e_v4, e_v5, e_v6, e_v7, e_v8, e_v9, e_v10, e_v11, e_v12, e_v13, e_v14, e_v15, e_v16, e_v17, e_v18, e_v19, e_v20, e_v21, e_v22, e_v23, e_v24, e_v25, e_v26, e_v27, e_v28, e_v29, e_v30, e_v31, e_v32, e_v33, e_v34, e_v35, e_v36, e_v37, e_v38, e_v39, e_ar0, e_ar1, e_gN, e_par, e_c, e_bin, e_un, e_and, e_or, e_ife, e_chain, e_tup, e_lst, e_bi, e_call, e_sl, e_no, e_so, e_nil, e_seq, e_expr, e_ret, e_retn, e_asg, e_if, e_brk, e_cnt, sz_0, sz_1, sz_2, sz_3, sz_4, sz_5, sz_6, sz_7, sz_8, sz_9, sz_10, sz_11, sz_12, sz_13, sz_14, sz_15, sz_16, sz_17, sz_18, sz_19, true_and, isi_non_int, isi_non_bool, isi_non_str, isi_non_tuple, isi_non_list, isi_non_dict, isi_bl_int, isi_bl_bool, isi_bl_str, isi_bl_tuple, isi_bl_list, isi_bl_dict, isi_int_int, isi_int_bool, isi_int_str, isi_int_tuple, isi_int_list, isi_int_dict, isi_str_int, isi_str_bool, isi_str_str, isi_str_tuple, isi_str_list, isi_str_dict, isi_tup_int, isi_tup_bool, isi_tup_str, isi_tup_tuple, isi_tup_list, isi_tup_dict, isi_fz_int, isi_fz_bool, isi_fz_str, isi_fz_tuple, isi_fz_list, isi_fz_dict])
def s_divisor_of : Spec := fun args L R => ∃ a b : Nat, args = [.int a, .int b] ∧ R (.int (Nat.gcd a b)) L
def d_divisor_of_1 : WS := sRet (wVar 0)
def d_divisor_of_0w_0 : WS := sPar [0, 1] [wVar 1, wBin oMod (wVar 0) (wVar 1)]
def d_divisor_of_0 : WS := sSeq (sWhile (wBin oGt (wVar 1) (wC (.int 0))) d_divisor_of_0w_0) d_divisor_of_1
theorem ok_divisor_of : ∀ args L R, args.length = 2 → s_divisor_of args L R → d_divisor_of_0 (initE 2 args) L { nx := fun _ L' => R .non L', rt := R } := by
  rintro _ L R _ ⟨a, b, rfl, h⟩
  unfold d_divisor_of_0
  show sWhile _ _ [some (.int a), some (.int b)] L _
  refine ⟨fun m env L' => L' = L ∧ ∃ x y : Nat, env = [some (.int x), some (.int y)] ∧ Nat.gcd x y = Nat.gcd a b ∧ m = y, ⟨b, rfl, a, b, rfl, rfl, rfl⟩, ?_⟩
  rintro m env _ ⟨rfl, x, y, rfl, hg, rfl⟩
  walk_at "ev"
  split
  · rename_i hy
    unfold d_divisor_of_0w_0
    walk_at "ev"
    have hy' : 0 < m := by omega
    refine ⟨by omega, x % m, Nat.mod_lt _ hy', m, x % m, ?_, ?_, rfl⟩
    · rw [Int.fmod_eq_emod_of_nonneg _ (by omega)]; rfl
    · rw [← hg, Nat.gcd_comm m, ← Nat.gcd_rec, Nat.gcd_comm]
  · rename_i hy
    have hm : m = 0 := by omega
    subst hm
    unfold d_divisor_of_1
    walk_at "ev"
    rw [Nat.gcd_zero_right] at hg
    rw [hg]
    exact h
theorem fdiv_num {n d : Int} (hd : d ≠ 0) : (.tup [.int (n.fdiv (if d < 0 then -((Nat.gcd n.natAbs d.natAbs : Nat) : Int) else ((Nat.gcd n.natAbs d.natAbs : Nat) : Int))), .int (d.fdiv (if d < 0 then -((Nat.gcd n.natAbs d.natAbs : Nat) : Int) else ((Nat.gcd n.natAbs d.natAbs : Nat) : Int)))] : PV) = fr ((n : Rat) / (d : Rat)) := by
  rw [← Rat.divInt_eq_div]
  unfold fr
  rw [Rat.num_divInt, Rat.den_divInt, if_neg hd]
  have hg : (Int.gcd d n) = Nat.gcd n.natAbs d.natAbs := by rw [Int.gcd, Nat.gcd_comm]
  rw [hg]
  generalize hgg : Nat.gcd n.natAbs d.natAbs = g
  have g0 : 0 < g := by
    rw [← hgg]
    exact Nat.gcd_pos_of_pos_right _ (by omega)
  have dg : g ∣ d.natAbs := by rw [← hgg]; exact Nat.gcd_dvd_right _ _
  by_cases h : d < 0
  · rw [if_pos h, Int.sign_eq_neg_one_of_neg h]
    have e1 : n.fdiv (-(g : Int)) = -1 * n / (g : Int) := by
      have : n.fdiv (-(g : Int)) = (-n).fdiv (g : Int) := by
        have := Int.neg_fdiv_neg (-n) (g : Int)
        rw [Int.neg_neg] at this
        exact this
      rw [this, Int.fdiv_eq_ediv_of_nonneg _ (by omega), Int.neg_one_mul]
    have e2 : d.fdiv (-(g : Int)) = ((d.natAbs / g : Nat) : Int) := by
      have : d.fdiv (-(g : Int)) = (-d).fdiv (g : Int) := by
        have := Int.neg_fdiv_neg (-d) (g : Int)
        rw [Int.neg_neg] at this
        exact this
      rw [this, Int.fdiv_eq_ediv_of_nonneg _ (by omega), Int.natCast_ediv]
      congr 1
      omega
    rw [e1, e2]
  · rw [if_neg h, Int.sign_eq_one_of_pos (by omega), Int.one_mul, Int.fdiv_eq_ediv_of_nonneg _ (by omega), Int.fdiv_eq_ediv_of_nonneg _ (by omega), Int.natCast_ediv]
    congr 3
    congr 2
    omega
def DenOk (d : Int) : Prop := d.natAbs < 2 ^ 9000
theorem DenOk.of {d : Int} {a : Nat} (h : d.natAbs < 2 ^ a) (ha : a ≤ 9000) : DenOk d := Nat.lt_of_lt_of_le h (Nat.pow_le_pow_right (by decide) ha)
theorem DenOk.gcd {n d : Int} (h : DenOk d) (hd : d ≠ 0) : ((Nat.gcd n.natAbs d.natAbs : Nat) : Int).natAbs < 2 ^ 9000 := by exact Nat.lt_of_le_of_lt (Nat.le_of_dvd (by omega) (Nat.gcd_dvd_right _ _)) h
theorem DenOk.gcdN {n d : Int} (h : DenOk d) (hd : d ≠ 0) : (-((Nat.gcd n.natAbs d.natAbs : Nat) : Int)).natAbs < 2 ^ 9000 := by rw [Int.natAbs_neg]; exact h.gcd hd
def s_fraction : Spec := fun args L R => ∃ n d : Int, args = [.int n, .int d] ∧ d ≠ 0 ∧ DenOk d ∧ R (fr ((n : Rat) / (d : Rat))) L
def d_fraction_2 : WS := sRet (wTup [wBin oDiv (wVar 0) (wVar 2), wBin oDiv (wVar 1) (wVar 2)])
def d_fraction_1a_0 : WS := sAsg (gN 2) (wUn oNeg (wVar 2))
def d_fraction_1 : WS := sSeq (sIf (wBin oLt (wVar 1) (wC (.int 0))) d_fraction_1a_0 sNil) d_fraction_2
def d_fraction_0 : WS := sSeq (sAsg (gN 2) (wCall s_divisor_of [wBi gAbs [wVar 0], wBi gAbs [wVar 1]])) d_fraction_1
theorem ok_fraction : ∀ args L R, args.length = 2 → s_fraction args L R → d_fraction_0 (initE 3 args) L { nx := fun _ L' => R .non L', rt := R } := by
  rintro _ L R _ ⟨n, d, rfl, hd, hz, h⟩
  unfold d_fraction_0
  show sSeq _ _ [some (.int n), some (.int d), none] L _
  walk_at "ev"
  refine ⟨_, _, rfl, ?_⟩
  rw [← fdiv_num hd] at h
  have g0 : 0 < Nat.gcd n.natAbs d.natAbs := Nat.gcd_pos_of_pos_right _ (by omega)
  unfold d_fraction_1 d_fraction_1a_0
  walk_at "ev"
  split
  · rename_i hn
    rw [if_pos hn] at h
    unfold d_fraction_2
    walk_at "ev"
    exact ⟨by omega, noPl (hz.gcdN hd), by omega, noPl (hz.gcdN hd), h⟩
  · rename_i hn
    rw [if_neg hn] at h
    unfold d_fraction_2
    walk_at "ev"
    exact ⟨by omega, noPl (hz.gcd hd), by omega, noPl (hz.gcd hd), h⟩
theorem den_pos (q : Rat) : (0 : Int) < q.den := by have := q.den_nz; omega
theorem den_ne (q : Rat) : ((q.den : Int) : Rat) ≠ 0 := by
  intro h
  have := Rat.intCast_inj.mp (show ((q.den : Int) : Rat) = ((0 : Int) : Rat) from h)
  have := q.den_nz
  omega
theorem num_den (q : Rat) : q = (q.num : Rat) / ((q.den : Int) : Rat) := by rw [← Rat.divInt_eq_div]; exact (Rat.num_divInt_den q).symm
theorem num_eq (q : Rat) : (q.num : Rat) = q * ((q.den : Int) : Rat) := by
  have h := num_den q
  have hd := den_ne q
  grind
theorem add_eq (p q : Rat) : ((p.num * q.den + q.num * p.den : Int) : Rat) / ((p.den * q.den : Int) : Rat) = p + q := by
  have h1 := num_eq p
  have h2 := num_eq q
  have d1 := den_ne p
  have d2 := den_ne q
  rw [Rat.intCast_add, Rat.intCast_mul, Rat.intCast_mul, Rat.intCast_mul, h1, h2]
  grind
theorem sub_eq (p q : Rat) : ((p.num * q.den - q.num * p.den : Int) : Rat) / ((p.den * q.den : Int) : Rat) = p - q := by
  have h1 := num_eq p
  have h2 := num_eq q
  have d1 := den_ne p
  have d2 := den_ne q
  rw [Rat.intCast_sub, Rat.intCast_mul, Rat.intCast_mul, Rat.intCast_mul, h1, h2]
  grind
theorem mul_eq (p q : Rat) : ((p.num * q.num : Int) : Rat) / ((p.den * q.den : Int) : Rat) = p * q := by
  have h1 := num_eq p
  have h2 := num_eq q
  have d1 := den_ne p
  have d2 := den_ne q
  rw [Rat.intCast_mul, Rat.intCast_mul, h1, h2]
  grind
theorem div_eq (p q : Rat) (hq : q ≠ 0) : ((p.num * q.den : Int) : Rat) / ((p.den * q.num : Int) : Rat) = p / q := by
  have h1 := num_eq p
  have h2 := num_eq q
  have d1 := den_ne p
  have d2 := den_ne q
  rw [Rat.intCast_mul, Rat.intCast_mul, h1, h2]
  grind
theorem Sz.mono {a b : Nat} {q : Rat} (h : Sz a q) (hb : a ≤ b) : Sz b q := ⟨Nat.lt_of_lt_of_le h.1 (Nat.pow_le_pow_right (by decide) hb), Nat.lt_of_lt_of_le h.2 (Nat.pow_le_pow_right (by decide) hb)⟩
theorem Sz.of {n d : Int} {b : Nat} (hd : d ≠ 0) (h1 : n.natAbs < 2 ^ b) (h2 : d.natAbs < 2 ^ b) : Sz b ((n : Rat) / (d : Rat)) := by
  rw [← Rat.divInt_eq_div]
  unfold Sz
  rw [Rat.num_divInt, Rat.den_divInt, if_neg hd]
  refine ⟨Nat.lt_of_le_of_lt ?_ h1, Nat.lt_of_le_of_lt (Nat.div_le_self _ _) h2⟩
  have e : (d.sign * n / ((Int.gcd d n : Nat) : Int)).natAbs = (d.sign * n).natAbs / Int.gcd d n := by
    rw [Int.natAbs_ediv_of_dvd]
    · rfl
    · exact Int.dvd_trans (Int.gcd_dvd_right _ _) (Int.dvd_mul_left _ _)
  rw [e]
  refine Nat.le_trans (Nat.div_le_self _ _) ?_
  rw [Int.natAbs_mul, Int.natAbs_sign_of_ne_zero hd, Nat.one_mul]
  exact Nat.le_refl _
theorem abs_mul_lt {i j : Int} {a b : Nat} (h1 : i.natAbs < 2 ^ a) (h2 : j.natAbs < 2 ^ b) : (i * j).natAbs < 2 ^ (a + b) := by
  rw [Int.natAbs_mul, Nat.pow_add]
  exact Nat.mul_lt_mul'' h1 h2
theorem abs_add_lt {i j : Int} {a : Nat} (h1 : i.natAbs < 2 ^ a) (h2 : j.natAbs < 2 ^ a) : (i + j).natAbs < 2 ^ (a + 1) := by
  rw [Nat.pow_succ]
  omega
theorem abs_sub_lt {i j : Int} {a : Nat} (h1 : i.natAbs < 2 ^ a) (h2 : j.natAbs < 2 ^ a) : (i - j).natAbs < 2 ^ (a + 1) := by
  rw [Nat.pow_succ]
  omega
theorem abs_mono {i : Int} {a b : Nat} (h : i.natAbs < 2 ^ a) (hb : a ≤ b) : i.natAbs < 2 ^ b := Nat.lt_of_lt_of_le h (Nat.pow_le_pow_right (by decide) hb)
theorem den_abs (q : Rat) : ((q.den : Int)).natAbs = q.den := Int.natAbs_natCast _
theorem mul_den_ne (p q : Rat) : (p.den : Int) * (q.den : Int) ≠ 0 := Int.mul_ne_zero (Int.ne_of_gt (den_pos p)) (Int.ne_of_gt (den_pos q))
theorem Sz.add {p q : Rat} {a b : Nat} (h1 : Sz a p) (h2 : Sz b q) : Sz (a + b + 1) (p + q) := by
  rw [← add_eq]
  refine Sz.of (mul_den_ne p q) (abs_add_lt (abs_mul_lt h1.1 (by rw [den_abs]; exact h2.2)) ?_) (abs_mono (abs_mul_lt (by rw [den_abs]; exact h1.2) (by rw [den_abs]; exact h2.2)) (by omega))
  rw [Nat.add_comm a b]
  exact abs_mul_lt h2.1 (by rw [den_abs]; exact h1.2)
theorem Sz.sub {p q : Rat} {a b : Nat} (h1 : Sz a p) (h2 : Sz b q) : Sz (a + b + 1) (p - q) := by
  rw [← sub_eq]
  refine Sz.of (mul_den_ne p q) (abs_sub_lt (abs_mul_lt h1.1 (by rw [den_abs]; exact h2.2)) ?_) (abs_mono (abs_mul_lt (by rw [den_abs]; exact h1.2) (by rw [den_abs]; exact h2.2)) (by omega))
  rw [Nat.add_comm a b]
  exact abs_mul_lt h2.1 (by rw [den_abs]; exact h1.2)
theorem Sz.mul {p q : Rat} {a b : Nat} (h1 : Sz a p) (h2 : Sz b q) : Sz (a + b) (p * q) := by
  rw [← mul_eq]
  exact Sz.of (mul_den_ne p q) (abs_mul_lt h1.1 h2.1) (abs_mul_lt (by rw [den_abs]; exact h1.2) (by rw [den_abs]; exact h2.2))
theorem num_ne {q : Rat} (h : q ≠ 0) : q.num ≠ 0 := fun e => h (Rat.num_eq_zero.mp e)
theorem Sz.div {p q : Rat} {a b : Nat} (h1 : Sz a p) (h2 : Sz b q) (hq : q ≠ 0) : Sz (a + b) (p / q) := by
  rw [← div_eq p q hq]
  exact Sz.of (Int.mul_ne_zero (Int.ne_of_gt (den_pos p)) (num_ne hq)) (abs_mul_lt h1.1 (by rw [den_abs]; exact h2.2)) (abs_mul_lt (by rw [den_abs]; exact h1.2) h2.1)
theorem Sz.neg {p : Rat} {a : Nat} (h : Sz a p) : Sz a (-p) := ⟨by rw [Rat.neg_num, Int.natAbs_neg]; exact h.1, by rw [Rat.neg_den]; exact h.2⟩
theorem Sz.int {n : Int} {a : Nat} (h : n.natAbs < 2 ^ a) (ha : 0 < a) : Sz a (n : Rat) := ⟨h, by
  show 1 < 2 ^ a
  exact Nat.one_lt_two_pow (by omega)⟩
section
variable {p q : Rat} {a b : Nat}
theorem Sz.nn (hp : Sz a p) (hq : Sz b q) (h : a + b ≤ 134217000) : MulOk p.num q.num := mulOk a b hp.1 hq.1 h
theorem Sz.nd (hp : Sz a p) (hq : Sz b q) (h : a + b ≤ 134217000) : MulOk p.num q.den := mulOk a b hp.1 (by rw [den_abs]; exact hq.2) h
theorem Sz.dn (hp : Sz a p) (hq : Sz b q) (h : a + b ≤ 134217000) : MulOk p.den q.num := mulOk a b (by rw [den_abs]; exact hp.2) hq.1 h
theorem Sz.dd (hp : Sz a p) (hq : Sz b q) (h : a + b ≤ 134217000) : MulOk p.den q.den := mulOk a b (by rw [den_abs]; exact hp.2) (by rw [den_abs]; exact hq.2) h
theorem Sz.okd (hp : Sz a p) (hq : Sz b q) (h : a + b ≤ 9000) : DenOk ((p.den : Int) * q.den) := DenOk.of (abs_mul_lt (by rw [den_abs]; exact hp.2) (by rw [den_abs]; exact hq.2)) h
theorem Sz.okn (hp : Sz a p) (hq : Sz b q) (h : a + b ≤ 9000) : DenOk ((p.den : Int) * q.num) := DenOk.of (abs_mul_lt (by rw [den_abs]; exact hp.2) hq.1) h
end
abbrev SzB (q : Rat) : Prop := Sz 4000 q
def s_added : Spec := fun args L R => ∃ p q : Rat, args = [fr p, fr q] ∧ SzB p ∧ SzB q ∧ R (fr (p + q)) L
def s_taken : Spec := fun args L R => ∃ p q : Rat, args = [fr p, fr q] ∧ SzB p ∧ SzB q ∧ R (fr (p - q)) L
def s_times : Spec := fun args L R => ∃ p q : Rat, args = [fr p, fr q] ∧ SzB p ∧ SzB q ∧ R (fr (p * q)) L
def s_over : Spec := fun args L R => ∃ p q : Rat, args = [fr p, fr q] ∧ q ≠ 0 ∧ SzB p ∧ SzB q ∧ R (fr (p / q)) L
def cmpI (p q : Rat) : Int := if q < p then 1 else if p < q then -1 else 0
def s_compared : Spec := fun args L R => ∃ p q : Rat, args = [fr p, fr q] ∧ SzB p ∧ SzB q ∧ R (.int (cmpI p q)) L
def d_added_0 : WS := sRet (wCall s_fraction [wBin oAdd (wBin oMul (wBin oIx (wVar 0) (wC (.int 0))) (wBin oIx (wVar 1) (wC (.int 1)))) (wBin oMul (wBin oIx (wVar 1) (wC (.int 0))) (wBin oIx (wVar 0) (wC (.int 1)))), wBin oMul (wBin oIx (wVar 0) (wC (.int 1))) (wBin oIx (wVar 1) (wC (.int 1)))])
def d_taken_0 : WS := sRet (wCall s_fraction [wBin oSub (wBin oMul (wBin oIx (wVar 0) (wC (.int 0))) (wBin oIx (wVar 1) (wC (.int 1)))) (wBin oMul (wBin oIx (wVar 1) (wC (.int 0))) (wBin oIx (wVar 0) (wC (.int 1)))), wBin oMul (wBin oIx (wVar 0) (wC (.int 1))) (wBin oIx (wVar 1) (wC (.int 1)))])
def d_times_0 : WS := sRet (wCall s_fraction [wBin oMul (wBin oIx (wVar 0) (wC (.int 0))) (wBin oIx (wVar 1) (wC (.int 0))), wBin oMul (wBin oIx (wVar 0) (wC (.int 1))) (wBin oIx (wVar 1) (wC (.int 1)))])
def d_over_0 : WS := sRet (wCall s_fraction [wBin oMul (wBin oIx (wVar 0) (wC (.int 0))) (wBin oIx (wVar 1) (wC (.int 1))), wBin oMul (wBin oIx (wVar 0) (wC (.int 1))) (wBin oIx (wVar 1) (wC (.int 0)))])
def d_compared_1 : WS := sRet (wBin oSub (wBi gInt [wBin oGt (wVar 2) (wVar 3)]) (wBi gInt [wBin oLt (wVar 2) (wVar 3)]))
def d_compared_0 : WS := sSeq (sPar [2, 3] [wBin oMul (wBin oIx (wVar 0) (wC (.int 0))) (wBin oIx (wVar 1) (wC (.int 1))), wBin oMul (wBin oIx (wVar 1) (wC (.int 0))) (wBin oIx (wVar 0) (wC (.int 1)))]) d_compared_1
theorem ok_added : ∀ args L R, args.length = 2 → s_added args L R → d_added_0 (initE 2 args) L { nx := fun _ L' => R .non L', rt := R } := by
  rintro _ L R _ ⟨p, q, rfl, hp, hq, h⟩
  unfold d_added_0
  show sRet _ [some (fr p), some (fr q)] L _
  walk_at "ev"
  refine ⟨hp.nd hq (by decide), hq.nd hp (by decide), hp.dd hq (by decide), _, _, rfl, mul_den_ne p q, ?_, ?_⟩
  · exact hp.okd hq (by decide)
  · rw [← add_eq] at h
    exact h
theorem ok_taken : ∀ args L R, args.length = 2 → s_taken args L R → d_taken_0 (initE 2 args) L { nx := fun _ L' => R .non L', rt := R } := by
  rintro _ L R _ ⟨p, q, rfl, hp, hq, h⟩
  unfold d_taken_0
  show sRet _ [some (fr p), some (fr q)] L _
  walk_at "ev"
  refine ⟨hp.nd hq (by decide), hq.nd hp (by decide), hp.dd hq (by decide), _, _, rfl, mul_den_ne p q, ?_, ?_⟩
  · exact hp.okd hq (by decide)
  · rw [← sub_eq] at h
    exact h
theorem ok_times : ∀ args L R, args.length = 2 → s_times args L R → d_times_0 (initE 2 args) L { nx := fun _ L' => R .non L', rt := R } := by
  rintro _ L R _ ⟨p, q, rfl, hp, hq, h⟩
  unfold d_times_0
  show sRet _ [some (fr p), some (fr q)] L _
  walk_at "ev"
  refine ⟨hp.nn hq (by decide), hp.dd hq (by decide), _, _, rfl, mul_den_ne p q, ?_, ?_⟩
  · exact hp.okd hq (by decide)
  · rw [← mul_eq] at h
    exact h
theorem ok_over : ∀ args L R, args.length = 2 → s_over args L R → d_over_0 (initE 2 args) L { nx := fun _ L' => R .non L', rt := R } := by
  rintro _ L R _ ⟨p, q, rfl, h0, hp, hq, h⟩
  unfold d_over_0
  show sRet _ [some (fr p), some (fr q)] L _
  walk_at "ev"
  refine ⟨hp.nd hq (by decide), hp.dn hq (by decide), _, _, rfl, Int.mul_ne_zero (Int.ne_of_gt (den_pos p)) (num_ne h0), ?_, ?_⟩
  · exact hp.okn hq (by decide)
  · rw [← div_eq p q h0] at h
    exact h
theorem lt_num (p q : Rat) : p.num * (q.den : Int) < q.num * (p.den : Int) ↔ p < q := (Rat.lt_iff p q).symm
theorem ok_compared : ∀ args L R, args.length = 2 → s_compared args L R → d_compared_0 (initE 4 args) L { nx := fun _ L' => R .non L', rt := R } := by
  rintro _ L R _ ⟨p, q, rfl, hp, hq, h⟩
  unfold d_compared_0
  show sSeq _ _ [some (fr p), some (fr q), none, none] L _
  walk_at "ev"
  refine ⟨hp.nd hq (by decide), hq.nd hp (by decide), ?_⟩
  unfold d_compared_1
  walk_at "ev"
  simp only [lt_num, decide_eq_true_eq]
  have e : (if q < p then (1 : Int) else 0) - (if p < q then (1 : Int) else 0) = cmpI p q := by
    unfold cmpI
    by_cases h1 : q < p
    · rw [if_pos h1, if_pos h1, if_neg (fun h2 => by grind)]; rfl
    · rw [if_neg h1, if_neg h1]
      split <;> rfl
  rw [e]
  exact h
end
section
open PySem PySem.Spec PyProof.Rows L2
section
variable {L : Sto} {R : PK} {p : Addr} {x y z u : PV} {xs : List PV} {env : Env}
theorem ixl0 (e : L p = some (.l (x :: xs))) : oIx (.ref p) (.int 0) L R = R x L := by
  unfold oIx
  simp only [e, show atI (x :: xs) 0 = some x from atI_nat (j := 0) rfl]
theorem ixl1 (e : L p = some (.l (x :: y :: xs))) : oIx (.ref p) (.int 1) L R = R y L := by
  unfold oIx
  simp only [e, show atI (x :: y :: xs) 1 = some y from atI_nat (j := 1) rfl]
theorem ixl2 (e : L p = some (.l (x :: y :: z :: xs))) : oIx (.ref p) (.int 2) L R = R z L := by
  unfold oIx
  simp only [e, show atI (x :: y :: z :: xs) 2 = some z from atI_nat (j := 2) rfl]
def gSt (y z x : PV) (env : Env) (Lb : Sto) (R : Env → Sto → Prop) : Prop := match y, z with
  | .ref a, .int k => ∃ xs j, Lb a = some (.l xs) ∧ ixN xs.length k = some j ∧ R env (put Lb a (.l (xs.set j x)))
  | _, _ => False
theorem e_gS {o i : WE} {R : Env → Sto → Prop} : gS o i x env L R = o env L fun y La => i env La fun z Lb => gSt y z x env Lb R := propext Iff.rfl
theorem e_gSt {k : Int} {j : Nat} {R : Env → Sto → Prop} (e : L p = some (.l xs)) (hj : ixN xs.length k = some j) : gSt (.ref p) (.int k) x env L R = R env (put L p (.l (xs.set j x))) := by
  refine propext ⟨?_, fun h => ⟨xs, j, e, hj, h⟩⟩
  rintro ⟨xs', j', e', hj', h⟩
  rw [e] at e'
  cases e'
  rw [hj] at hj'
  cases hj'
  exact h
theorem e_gT {n : Nat} {gs : WGs} {R : Env → Sto → Prop} : gT n gs (.tup xs) env L R = (xs.length = n ∧ gs xs env L R) := propext Iff.rfl
theorem e_gsL0 {R : Env → Sto → Prop} : gsL [] [] env L R = R env L := propext Iff.rfl
theorem e_gsL1 {g : WG} {gs : List WG} {R : Env → Sto → Prop} : gsL (g :: gs) (x :: xs) env L R = g x env L fun env' L' => gsL gs xs env' L' R := propext Iff.rfl
theorem e_gsN0 {R : Env → Sto → Prop} : gsN [] [] env L R = R env L := propext Iff.rfl
theorem e_gsN1 {i : Nat} {gs : List Nat} {R : Env → Sto → Prop} : gsN (i :: gs) (x :: xs) env L R = gsN gs xs (env.set i (some x)) L R := propext Iff.rfl
end
theorem mulL {i j : Int} (h : -18446744073709551616 < i ∧ i < 18446744073709551616) : MulOk i j := ⟨(CMul.ok (.inl h))⟩
theorem mulR {i j : Int} (h : -18446744073709551616 < j ∧ j < 18446744073709551616) : MulOk i j := ⟨(CMul.ok (.inr h))⟩
theorem bits_le {i : Int} {a : Nat} (h : i.natAbs < 2 ^ a) : Builtin.Int.intBits i ≤ a := by
  unfold Builtin.Int.intBits
  split
  · exact Nat.zero_le _
  · rename_i hx
    have hx' : i.natAbs ≠ 0 := fun z => hx (by simpa using z)
    have := (Nat.log2_lt hx').mpr h
    omega
theorem powOk {i j : Int} (a : Nat) (h : i.natAbs < 2 ^ a) (h0 : 0 ≤ j) (h1 : (a : Int) * j ≤ 134217728) : PowOk i j := by
  refine ⟨h0, ?_⟩
  have : (Builtin.Int.intBits i : Int) ≤ a := by exact_mod_cast bits_le h
  refine Int.le_trans (Int.mul_le_mul_of_nonneg_right this h0) ?_
  exact h1
theorem loop_i {keep : Sto → Prop} {g : WG} {b : WS} {N : Nd} (I : Nat → Env → Sto → Prop) {xs : List PV} {env : Env} {L : Sto} (h0 : I 0 env L) (hk : ∀ i e l, I i e l → keep l)
    (hs : ∀ i x e l (K : Env → Sto → Prop), xs[i]? = some x → I i e l → (∀ e l, I (i + 1) e l → K e l) → g x e l fun e' l' => b e' l' { nx := K, rt := N.rt, bk := N.nx, ct := K })
    (he : ∀ e l, I xs.length e l → N.nx e l) : loopW keep g b xs env L N := by
  have key : ∀ ys i e l, xs.drop i = ys → i ≤ xs.length → I i e l → loopW keep g b ys e l N := by
    intro ys
    induction ys with
    | nil =>
      intro i e l hd hi hI
      have : i = xs.length := by
        have := congrArg List.length hd
        rw [List.length_drop, List.length_nil] at this
        omega
      exact ⟨hk i e l hI, he e l (this ▸ hI)⟩
    | cons y ys ih =>
      intro i e l hd hi hI
      have hl := congrArg List.length hd
      rw [List.length_drop, List.length_cons] at hl
      have hx : xs[i]? = some y := by
        have := congrArg (fun z => z[0]?) hd
        simpa using this
      have hd' : xs.drop (i + 1) = ys := by
        have := congrArg List.tail hd
        simpa using this
      exact ⟨hk i e l hI, hs i y e l (fun e l => loopW keep g b ys e l N) hx hI fun e l h => ih (i + 1) e l hd' (by omega) h⟩
  exact key xs 0 env L rfl (Nat.zero_le _) h0
theorem comp_i {keep : Sto → Prop} {g : WG} {t e : WE} {env : Env} {R : List PV → Sto → Prop} (I : Nat → List PV → Sto → Prop) {xs : List PV} {L : Sto} (h0 : I 0 [] L) (hk : ∀ i a l, I i a l → keep l) (hn : xs.length < sizeLine)
    (hs : ∀ i x acc l (K : List PV → Sto → Prop), xs[i]? = some x → I i acc l → acc.length ≤ i → (∀ acc l, acc.length ≤ i + 1 → I (i + 1) acc l → K acc l) → g x env l fun env' La => t env' La fun b Lb => bIf b (e env' Lb fun y Lc => acc.length < sizeLine ∧ K (acc ++ [y]) Lc) (K acc Lb))
    (he : ∀ acc l, I xs.length acc l → R acc l) : compW keep g t e env xs [] L R := by
  have key : ∀ ys i acc l, xs.drop i = ys → i ≤ xs.length → acc.length ≤ i → I i acc l → compW keep g t e env ys acc l R := by
    intro ys
    induction ys with
    | nil =>
      intro i acc l hd hi _ hI
      have : i = xs.length := by
        have := congrArg List.length hd
        rw [List.length_drop, List.length_nil] at this
        omega
      exact ⟨hk i acc l hI, he acc l (this ▸ hI)⟩
    | cons y ys ih =>
      intro i acc l hd hi ha hI
      have hl := congrArg List.length hd
      rw [List.length_drop, List.length_cons] at hl
      have hx : xs[i]? = some y := by
        have := congrArg (fun z => z[0]?) hd
        simpa using this
      have hd' : xs.drop (i + 1) = ys := by
        have := congrArg List.tail hd
        simpa using this
      exact ⟨hk i acc l hI, hs i y acc l (fun acc l => compW keep g t e env ys acc l R) hx hI ha fun acc l ha' h => ih (i + 1) acc l hd' (by omega) ha' h⟩
  exact key xs 0 [] L rfl (Nat.zero_le _) (Nat.le_refl _) h0
section
variable {L : Sto} {R : Src → Sto → Prop} {p q : Addr} {xs ys : List PV} {env : Env} {a b : WE}
def r1K (y : PV) (La : Sto) (R : Src → Sto → Prop) : Prop := match y with
  | .int j => RgB j ∧ R ⟨rgL 0 j.toNat, fun _ => True⟩ La
  | _ => False
theorem e_r1 : iR1 a env L R = a env L fun y La => r1K y La R := propext Iff.rfl
theorem e_r1K {j : Int} : r1K (.int j) L R = (RgB j ∧ R ⟨rgL 0 j.toNat, fun _ => True⟩ L) := propext Iff.rfl
def r2K (x y : PV) (La : Sto) (R : Src → Sto → Prop) : Prop := match x, y with
  | .int i, .int j => RgB i ∧ RgB j ∧ R ⟨rgL i (j - i).toNat, fun _ => True⟩ La
  | _, _ => False
theorem e_r2 : iR2 a b env L R = a env L fun x La => b env La fun y Lb => r2K x y Lb R := propext Iff.rfl
theorem e_r2K {i j : Int} : r2K (.int i) (.int j) L R = (RgB i ∧ RgB j ∧ R ⟨rgL i (j - i).toNat, fun _ => True⟩ L) := propext Iff.rfl
def lsK (x : PV) (La : Sto) (R : Src → Sto → Prop) : Prop := match x with
  | .ref a => match La a with
    | some (.l xs) => R ⟨xs, fun Lx => Lx a = some (.l xs)⟩ La
    | _ => False
  | .tup xs => R ⟨xs, fun _ => True⟩ La
  | .str z => R ⟨z.cps.toList.map fun c => .str ⟨#[c]⟩, fun _ => True⟩ La
  | _ => False
theorem e_any : iAny a env L R = a env L fun x La => lsK x La R := propext Iff.rfl
theorem e_lsK (e : L p = some (.l xs)) : lsK (.ref p) L R = R ⟨xs, fun Lx => Lx p = some (.l xs)⟩ L := by
  unfold lsK
  simp only [e]
theorem e_lsT : lsK (.tup xs) L R = R ⟨xs, fun _ => True⟩ L := propext Iff.rfl
def enK (x : PV) (La : Sto) (R : Src → Sto → Prop) : Prop := srcK x La fun xs kp => R ⟨enL xs, kp⟩ La
theorem e_en : iEn a env L R = a env L fun x La => enK x La R := propext Iff.rfl
theorem e_enK (e : L p = some (.l xs)) : enK (.ref p) L R = R ⟨enL xs, fun Lx => Lx p = some (.l xs)⟩ L := by
  unfold enK srcK
  simp only [e]
theorem e_enT : enK (.tup xs) L R = R ⟨enL xs, fun _ => True⟩ L := propext Iff.rfl
def zpK (x y : PV) (Lb : Sto) (R : Src → Sto → Prop) : Prop := srcK x Lb fun xs kx => srcK y Lb fun ys ky => R ⟨zipL xs ys, fun Lx => kx Lx ∧ ky Lx⟩ Lb
theorem e_zpT : zpK (.tup xs) (.tup ys) L R = R ⟨zipL xs ys, fun _ => True⟩ L := by
  show R ⟨zipL xs ys, fun _ => True ∧ True⟩ L = _
  rw [show (fun _ : Sto => True ∧ True) = fun _ => True from funext fun _ => propext ⟨fun _ => trivial, fun _ => ⟨trivial, trivial⟩⟩]
theorem e_zp : iZp a b env L R = a env L fun x La => b env La fun y Lb => zpK x y Lb R := propext Iff.rfl
theorem e_zpK (e : L p = some (.l xs)) (f : L q = some (.l ys)) : zpK (.ref p) (.ref q) L R = R ⟨zipL xs ys, fun Lx => Lx p = some (.l xs) ∧ Lx q = some (.l ys)⟩ L := by
  unfold zpK srcK
  simp only [e, f]
theorem e_lzip {R' : PK} : wLzip a b env L R' = a env L fun x La => b env La fun y Lb => lzK x y Lb R' := propext Iff.rfl
def z3K (x y z : PV) (Lb : Sto) (R : Src → Sto → Prop) : Prop := srcK x Lb fun xs kx => srcK y Lb fun ys ky => srcK z Lb fun zs kz => R ⟨zip3L xs ys zs, fun Lx => kx Lx ∧ ky Lx ∧ kz Lx⟩ Lb
theorem e_z3 {c : WE} : iZ3 a b c env L R = a env L fun x La => b env La fun y Lb => c env Lb fun z Lc => z3K x y z Lc R := propext Iff.rfl
def rvK (x : PV) (La : Sto) (R : Src → Sto → Prop) : Prop := match x with
  | .ref a => match La a with
    | some (.l xs) => R ⟨xs.reverse, fun Lx => Lx a = some (.l xs)⟩ La
    | _ => False
  | _ => False
theorem e_rv : iRv a env L R = a env L fun x La => rvK x La R := propext Iff.rfl
theorem e_rvK (e : L p = some (.l xs)) : rvK (.ref p) L R = R ⟨xs.reverse, fun Lx => Lx p = some (.l xs)⟩ L := by
  unfold rvK
  simp only [e]
theorem e_for {it : WI} {g : WG} {s : WS} {N : Nd} : sFor it g s env L N = it env L fun c La => loopW c.keep g s c.items env La N := propext Iff.rfl
theorem e_comp {own : List Nat} {it : WI} {g : WG} {t e : WE} {R : PK} : wComp own it g t e env L R = it env L fun c La => compW c.keep g t e (wipeE env own) c.items [] La fun acc Lb => newL Lb acc R := propext Iff.rfl
theorem e_mt {T : String} {g : MtF} {o : WE} {ws : List WE} {R : PK} : wMt T g o ws env L R = o env L fun x La => tyOk T x La ∧ wAr ws env La fun xs Lb => g x xs Lb R := propext Iff.rfl
theorem e_wipe0 : wipeE env [] = env := rfl
theorem e_wipe1 {i : Nat} {is : List Nat} : wipeE env (i :: is) = (wipeE env is).set i none := rfl
theorem e_revt {R : PK} : oRev (.tup xs) L R = R (.tup xs.reverse) L := propext Iff.rfl
theorem e_tru {w : WE} {R : PK} : wTru w env L R = w env L fun x La => truP x La R := propext Iff.rfl
theorem tru_bl {R : PK} {b : Bool} : truP (.bl b) L R = R (.bl b) L := propext Iff.rfl
theorem tru_int {R : PK} {i : Int} : truP (.int i) L R = R (.bl (i != 0)) L := propext Iff.rfl
theorem tru_non {R : PK} : truP .non L R = R (.bl false) L := propext Iff.rfl
theorem tru_tup {R : PK} : truP (.tup xs) L R = R (.bl (!xs.isEmpty)) L := propext Iff.rfl
theorem e_disp {ps : List (Key × WE)} {R : PK} : wDisp ps env L R = ∀ p, L p = none → wPairs ps env (put L p (.d [])) fun kvs L2 => L2 p = some (.d []) ∧ R (.ref p) (put L2 p (.d kvs)) := propext Iff.rfl
theorem e_prs0 {R : List (Key × PV) → Sto → Prop} : wPairs [] env L R = R [] L := propext Iff.rfl
theorem e_prs1 {k : Key} {w : WE} {ps : List (Key × WE)} {R : List (Key × PV) → Sto → Prop} : wPairs ((k, w) :: ps) env L R = w env L fun x La => wPairs ps env La fun ps Lb => R ((k, x) :: ps) Lb := propext Iff.rfl
end
local macro_rules | `(tactic| walk_at "ev") => `(tactic| try simp only [if_true, if_false, decide_true, decide_false, Bool.not_true, Bool.not_false, Bool.false_eq_true, reduceCtorEq, e_gS, e_gT, e_gsL0, e_gsL1, e_gsN0, e_gsN1, e_r1, e_r1K, e_r2, e_r2K, e_any, e_lsT, e_zpT, e_enT, e_en, e_zp, e_lzip, e_z3, e_revt, e_tru, tru_bl, tru_int, tru_non, tru_tup, e_disp, e_prs0, e_prs1, List.zip_nil_left, e_rv, e_for, e_comp, e_mt, e_wipe0, e_wipe1, fr0, fr1, ix0, ix1, ix2, ix3, bIf_t, bIf_f, bIf_d, bIf_n, oEq_ii, oNe_ii, oEq_bb, oNe_bb, List.set_cons_zero, List.set_cons_succ, List.zip_cons_cons, List.zip_nil_right, List.foldl_cons, List.foldl_nil, e_add, e_addI, e_addt, e_addl, e_sub, e_mul, e_div, e_mod, e_pow, e_oI, e_neg, e_not, e_isn, e_isnn, e_isb, e_isnb, e_isN_non, e_isN_bl, e_isN_int, e_isN_tup, e_isN_ref, e_isN_fz, e_isN_fr, e_isN_str, e_lent, e_lenz, e_abs, e_int, e_intb, e_dvm, e_min, e_max, e_listt, e_listz, e_tupt, e_str, gv_0, gv_s, e_slt, e_slz, e_v0, e_v1, e_v2, e_v3, e_v4, e_v5, e_v6, e_v7, e_v8, e_v9, e_v10, e_v11, e_v12, e_v13, e_v14, e_v15, e_v16, e_v17, e_v18, e_v19, e_v20, e_v21, e_v22, e_v23, e_v24, e_v25, e_v26, e_v27, e_v28, e_v29, e_v30, e_v31, e_v32, e_v33, e_v34, e_v35, e_v36, e_v37, e_v38, e_v39, e_ar0, e_ar1, e_gN, e_par, e_c, e_bin, e_un, e_and, e_or, e_ife, e_chain, e_tup, e_lst, e_bi, e_call, e_sl, e_no, e_so, e_nil, e_seq, e_expr, e_ret, e_retn, e_asg, e_if, e_brk, e_cnt, sz_0, sz_1, sz_2, sz_3, sz_4, sz_5, sz_6, sz_7, sz_8, sz_9, sz_10, sz_11, sz_12, sz_13, sz_14, sz_15, sz_16, sz_17, sz_18, sz_19, true_and, isi_non_int, isi_non_bool, isi_non_str, isi_non_tuple, isi_non_list, isi_non_dict, isi_bl_int, isi_bl_bool, isi_bl_str, isi_bl_tuple, isi_bl_list, isi_bl_dict, isi_int_int, isi_int_bool, isi_int_str, isi_int_tuple, isi_int_list, isi_int_dict, isi_str_int, isi_str_bool, isi_str_str, isi_str_tuple, isi_str_list, isi_str_dict, isi_tup_int, isi_tup_bool, isi_tup_str, isi_tup_tuple, isi_tup_list, isi_tup_dict, isi_fz_int, isi_fz_bool, isi_fz_str, isi_fz_tuple, isi_fz_list, isi_fz_dict])
def Bx (b : Addr) (n : Int) (L : Sto) : Prop := ∃ c0 c1 c2 : Int, L b = some (.l [.int c0, .int c1, .int c2]) ∧ 0 ≤ c0 ∧ 0 ≤ c1 ∧ c1 < 2147483647 ∧ 0 ≤ c2 ∧ c2 ≤ n
theorem Bx.mono {b : Addr} {n m : Int} {L : Sto} (h : Bx b n L) (k : n ≤ m) : Bx b m L := by
  obtain ⟨c0, c1, c2, h1, h2, h3, h4, h5, h6⟩ := h
  exact ⟨c0, c1, c2, h1, h2, h3, h4, h5, Int.le_trans h6 k⟩
theorem Bx.le {b : Addr} {n : Int} {L L' : Sto} (h : Bx b n L) (k : Le L L') : Bx b n L' := by
  obtain ⟨c0, c1, c2, h1, h2⟩ := h
  exact ⟨c0, c1, c2, k _ _ h1, h2⟩
def sl_take : Spec := fun args L R => ∃ (b : Addr) (m n : Int), args = [.ref b, .int m] ∧ Bx b n L ∧ n < 1152921504606846976 ∧ 0 < m ∧ DenOk m ∧ ∀ r L', 0 ≤ r → r < m → Bx b (n + 1) L' → LeB b L L' → R (.int r) L'
def l_take_3 : WS := sRet (wBin oMod (wBin oDiv (wBin oMod (wBin oAdd (wBin oMul (wVar 3) (wC (.int 48271))) (wBin oMul (wBin oMul (wBin oIx (wVar 0) (wC (.int 2))) (wBin oIx (wVar 0) (wC (.int 2)))) (wC (.int 7919)))) (wC (.int 2147483629))) (wC (.int 64))) (wVar 1))
def l_take_2 : WS := sSeq (sAsg (gN 3) (wBin oMod (wBin oPow (wBin oAdd (wBin oIx (wVar 0) (wC (.int 1))) (wBin oMul (wC (.int 39373)) (wBin oIx (wVar 0) (wC (.int 2))))) (wC (.int 5))) (wC (.int 2147483647)))) l_take_3
def l_take_1 : WS := sSeq (sAsg (gS (wVar 0) (wC (.int 2))) (wBin oAdd (wBin oIx (wVar 0) (wC (.int 2))) (wC (.int 1)))) l_take_2
def l_take_0a_1 : WS := sRet (wVar 2)
def l_take_0a_0 : WS := sSeq (sAsg (gT 2 (gsL [gS (wVar 0) (wC (.int 0)), gN 2])) (wBi gDivmod [wBin oIx (wVar 0) (wC (.int 0)), wVar 1])) l_take_0a_1
def l_take_0 : WS := sSeq (sIf (wBin oGt (wBin oIx (wVar 0) (wC (.int 0))) (wC (.int 0))) l_take_0a_0 sNil) l_take_1
theorem fm_pos {i j : Int} (h : 0 < j) : i.fmod j = i % j := Int.fmod_eq_emod_of_nonneg _ (by omega)
theorem fd_pos {i j : Int} (h : 0 < j) : i.fdiv j = i / j := Int.fdiv_eq_ediv_of_nonneg _ (by omega)
theorem noPlS {i j : Int} (h : j.natAbs < 2 ^ 64) : NoPl i j := noPl (Nat.lt_trans h (Nat.pow_lt_pow_right (by decide) (by decide)))
theorem ok_l_take : ∀ args L R, args.length = 2 → sl_take args L R → l_take_0 (initE 4 args) L { nx := fun _ L' => R .non L', rt := R } := by
  rintro _ L R _ ⟨b, m, n, rfl, ⟨c0, c1, c2, e, h0, h1, h2, h3, h4⟩, hn, hm, hd, h⟩
  unfold l_take_0
  show sSeq _ _ [some (.ref b), some (.int m), none, none] L _
  walk_at "ev"
  rw [ixl0 e]
  walk_at "ev"
  split
  · rename_i hc
    unfold l_take_0a_0
    walk_at "ev"
    rw [ixl0 e]
    walk_at "ev"
    refine ⟨hm, noPl hd, rfl, ?_⟩
    rw [e_gSt (j := 0) e rfl]
    unfold l_take_0a_1
    walk_at "ev"
    refine h _ _ (Int.emod_nonneg _ (by omega)) (Int.emod_lt_of_pos _ hm) ⟨c0 / m, c1, c2, put_same, Int.ediv_nonneg h0 (by omega), h1, h2, h3, by omega⟩ LeB.put
  · rename_i hc
    unfold l_take_1
    walk_at "ev"
    rw [ixl2 e]
    walk_at "ev"
    rw [e_gSt (j := 2) e rfl]
    unfold l_take_2
    walk_at "ev"
    rw [ixl1 put_same]
    walk_at "ev"
    rw [ixl2 put_same]
    walk_at "ev"
    refine ⟨mulL (by decide), powOk 80 ?_ (by decide) (by decide), by decide, ?_⟩
    · have : (2 : Nat) ^ 80 = 1208925819614629174706176 := by decide
      rw [this]
      omega
    unfold l_take_3
    walk_at "ev"
    refine ⟨mulR (by decide), ?_⟩
    rw [ixl2 put_same]
    rw [ixl2 put_same]
    walk_at "ev"
    refine ⟨mulL (by omega), mulR (by decide), by decide, by decide, noPlS (by decide), by omega, ?_⟩
    rw [fm_pos hm]
    exact h _ _ (Int.emod_nonneg _ (by omega)) (Int.emod_lt_of_pos _ hm) ⟨c0, c1, c2 + 1, put_same, h0, h1, h2, by omega, by omega⟩ LeB.put
def sl_box_of : Spec := fun args L R => ∃ (c : Addr) (ns : List Int) (k : Int), args = [.ref c, .int k] ∧ L c = some (.l (ns.map PV.int)) ∧ 0 ≤ k ∧ k < 1000000 ∧ ∀ b L', L b = none → Le L L' → Bx b 0 L' → R (.ref b) L'
theorem mod_rng {i j : Int} (h : 0 < j) : 0 ≤ i.fmod j ∧ i.fmod j < j := by
  rw [fm_pos h]
  exact ⟨Int.emod_nonneg _ (by omega), Int.emod_lt_of_pos _ h⟩
end
local macro_rules | `(tactic| walk_at "ev102") => `(tactic| try simp only [if_true, if_false, decide_true, decide_false, Bool.not_true, Bool.not_false, Bool.false_eq_true, reduceCtorEq, e_gS, e_gT, e_gsL0, e_gsL1, e_gsN0, e_gsN1, e_r1, e_r1K, e_r2, e_r2K, e_any, e_lsT, e_zpT, e_enT, e_en, e_zp, e_lzip, e_z3, e_revt, e_tru, tru_bl, tru_int, tru_non, tru_tup, e_disp, e_prs0, e_prs1, List.zip_nil_left, e_rv, e_for, e_comp, e_mt, e_wipe0, e_wipe1, fr0, fr1, ix0, ix1, ix2, ix3, bIf_t, bIf_f, bIf_d, bIf_n, oEq_ii, oNe_ii, oEq_bb, oNe_bb, List.set_cons_zero, List.set_cons_succ, List.zip_cons_cons, List.zip_nil_right, List.foldl_cons, List.foldl_nil, e_add, e_addI, e_addt, e_addl, e_sub, e_mul, e_div, e_mod, e_pow, e_oI, e_neg, e_not, e_isn, e_isnn, e_isb, e_isnb, e_isN_non, e_isN_bl, e_isN_int, e_isN_tup, e_isN_ref, e_isN_fz, e_isN_fr, e_isN_str, e_lent, e_lenz, e_abs, e_int, e_intb, e_dvm, e_min, e_max, e_listt, e_listz, e_tupt, e_str, gv_0, gv_s, e_slt, e_slz, e_v0, e_v1, e_v2, e_v3, e_v4, e_v5, e_v6, e_v7, e_v8, e_v9, e_v10, e_v11, e_v12, e_v13, e_v14, e_v15, e_v16, e_v17, e_v18, e_v19, e_v20, e_v21, e_v22, e_v23, e_v24, e_v25, e_v26, e_v27, e_v28, e_v29, e_v30, e_v31, e_v32, e_v33, e_v34, e_v35, e_v36, e_v37, e_v38, e_v39, e_ar0, e_ar1, e_gN, e_par, e_c, e_bin, e_un, e_and, e_or, e_ife, e_chain, e_tup, e_lst, e_bi, e_call, e_sl, e_no, e_so, e_nil, e_seq, e_expr, e_ret, e_retn, e_asg, e_if, e_brk, e_cnt, sz_0, sz_1, sz_2, sz_3, sz_4, sz_5, sz_6, sz_7, sz_8, sz_9, sz_10, sz_11, sz_12, sz_13, sz_14, sz_15, sz_16, sz_17, sz_18, sz_19, true_and, isi_non_int, isi_non_bool, isi_non_str, isi_non_tuple, isi_non_list, isi_non_dict, isi_bl_int, isi_bl_bool, isi_bl_str, isi_bl_tuple, isi_bl_list, isi_bl_dict, isi_int_int, isi_int_bool, isi_int_str, isi_int_tuple, isi_int_list, isi_int_dict, isi_str_int, isi_str_bool, isi_str_str, isi_str_tuple, isi_str_list, isi_str_dict, isi_tup_int, isi_tup_bool, isi_tup_str, isi_tup_tuple, isi_tup_list, isi_tup_dict, isi_fz_int, isi_fz_bool, isi_fz_str, isi_fz_tuple, isi_fz_list, isi_fz_dict])
section
open PySem PySem.Spec PyProof.Rows L2
theorem enL_get {xs : List PV} {i : Nat} {x : PV} (h : (enL xs)[i]? = some x) : ∃ y, xs[i]? = some y ∧ x = .tup [.int i, y] := by
  unfold enL at h
  rw [List.getElem?_map] at h
  have hi : i < xs.length := by
    by_cases q : i < xs.length
    · exact q
    · rw [List.getElem?_eq_none (by rw [List.length_range]; omega)] at h
      cases h
  rw [List.getElem?_range hi] at h
  cases h
  exact ⟨xs[i], List.getElem?_eq_getElem hi, by show PV.tup [.int i, xs.getD i .non] = _; rw [List.getD_eq_getElem?_getD, List.getElem?_eq_getElem hi]; rfl⟩
theorem cut_to {α : Type} (xs : List α) (m : Nat) : cutP xs none (some (m : Int)) = xs.take m := by
  unfold cutP
  have h0 : HT.sIx xs.length 0 none = 0 := rfl
  have h1 : HT.sIx xs.length xs.length (some (m : Int)) = min m xs.length := HT.sIx_nat _ _ _
  rw [h0, h1, List.drop_zero, Nat.sub_zero]
  by_cases h : m ≤ xs.length
  · rw [Nat.min_eq_left h]
  · rw [Nat.min_eq_right (by omega), List.take_length, List.take_of_length_le (by omega)]
theorem cut_len {α : Type} (xs : List α) (lo hi : Nat) : cutP xs (some (lo : Int)) (some (hi : Int)) = (xs.drop lo).take (hi - lo) := by
  unfold cutP
  have h0 : HT.sIx xs.length 0 (some (lo : Int)) = min lo xs.length := HT.sIx_nat _ _ _
  have h1 : HT.sIx xs.length xs.length (some (hi : Int)) = min hi xs.length := HT.sIx_nat _ _ _
  rw [h0, h1]
  by_cases h : lo ≤ xs.length
  · rw [Nat.min_eq_left h]
    by_cases h' : hi ≤ xs.length
    · rw [Nat.min_eq_left h']
    · rw [Nat.min_eq_right (by omega), List.take_of_length_le (by rw [List.length_drop]; omega), List.take_of_length_le (by rw [List.length_drop]; omega)]
  · rw [List.drop_eq_nil_of_le (by omega), List.drop_eq_nil_of_le (by omega), List.take_nil, List.take_nil]
theorem map_take {ns : List Int} {m : Nat} : (ns.map PV.int).take m = (ns.take m).map PV.int := (List.map_take).symm
theorem set_int {ms : List Int} {j : Nat} {i : Int} : (ms.map PV.int).set j (.int i) = (ms.set j i).map PV.int := (List.map_set).symm
theorem e_cat {L : Sto} {R : PK} {p q : Addr} {xs ys : List PV} (e : L p = some (.l xs)) (f : L q = some (.l ys)) (h : xs.length + ys.length ≤ sizeLine ∧ newL L (xs ++ ys) R) : oAdd (.ref p) (.ref q) L R := ⟨xs, ys, e, f, h⟩
theorem ne_adr {L : Sto} {p q : Addr} {o : SO} (h : L p = none) (h' : L q = some o) : q ≠ p := fun e => by rw [e, h] at h'; cases h'
theorem Le.put {L La : Sto} (h : Le L La) {p : Addr} {o : SO} (hp : L p = none) : Le L (put La p o) := fun a u e => by
  rw [put_ne (ne_adr hp e)]
  exact h a u e
def All2 (r : PV → PV → Prop) : List PV → List PV → Prop
  | [], [] => True
  | x :: xs, y :: ys => r x y ∧ All2 r xs ys
  | _, _ => False
def Sm (L : Sto) : Nat → PV → PV → Prop
  | 0, _, _ => False
  | n + 1, x, y => match x, y with
    | .non, .non => True
    | .bl a, .bl b => a = b
    | .int a, .int b => a = b
    | .str a, .str b => a = b ∧ SeqAt.shaped (.str a) = true
    | .tup xs, .tup ys => xs.length ≤ 1000000 ∧ All2 (Sm L n) xs ys
    | .ref a, .ref b => ∃ xs ys, L a = some (.l xs) ∧ L b = some (.l ys) ∧ xs.length ≤ 1000000 ∧ All2 (Sm L n) xs ys
    | _, _ => False
theorem All2.mono {r s : PV → PV → Prop} (h : ∀ x y, r x y → s x y) : ∀ {xs ys : List PV}, All2 r xs ys → All2 s xs ys
  | [], [], _ => trivial
  | _ :: _, _ :: _, ⟨a, b⟩ => ⟨h _ _ a, b.mono h⟩
  | [], _ :: _, h => h.elim
  | _ :: _, [], h => h.elim
theorem All2.get {r : PV → PV → Prop} : ∀ {xs ys : List PV} {i : Nat} {x y : PV}, All2 r xs ys → xs[i]? = some x → ys[i]? = some y → r x y
  | _ :: _, _ :: _, 0, _, _, h, e, f => by cases e; cases f; exact h.1
  | _ :: _, _ :: _, i + 1, _, _, h, e, f => h.2.get (i := i) (by simpa using e) (by simpa using f)
  | [], _, _, _, _, _, e, _ => by simp at e
  | _ :: _, [], _, _, _, h, _, _ => h.elim
theorem All2.map {α : Type} {r : PV → PV → Prop} {f g : α → PV} (h : ∀ a, r (f a) (g a)) : ∀ xs : List α, All2 r (xs.map f) (xs.map g)
  | [] => trivial
  | a :: xs => ⟨h a, All2.map h xs⟩
theorem Sm.le {L L' : Sto} (hl : Le L L') : ∀ {n : Nat} {x y : PV}, Sm L n x y → Sm L' n x y
  | 0, _, _, h => h.elim
  | n + 1, x, y, h => by
    have ih := fun x y => Sm.le hl (n := n) (x := x) (y := y)
    cases x <;> cases y <;> first | exact h | skip
    · obtain ⟨xs, ys, h1, h2, h3, h4⟩ := h
      exact ⟨xs, ys, hl _ _ h1, hl _ _ h2, h3, h4.mono ih⟩
    · exact ⟨h.1, All2.mono ih h.2⟩
theorem Sm.fr {L : Sto} {n : Nat} {p q : Rat} (h : p = q) : Sm L (n + 2) (fr p) (fr q) := by
  subst h
  exact ⟨by show 2 ≤ 1000000; decide, rfl, rfl, trivial⟩
theorem zipL_get : ∀ {xs ys : List PV} {i : Nat} {z : PV}, (zipL xs ys)[i]? = some z → ∃ x y, xs[i]? = some x ∧ ys[i]? = some y ∧ z = .tup [x, y] := by
  intro xs ys i z h
  unfold zipL at h
  rw [List.getElem?_zipWith] at h
  cases hx : xs[i]? with
  | none => rw [hx] at h; cases h
  | some x =>
    cases hy : ys[i]? with
    | none => rw [hx, hy] at h; cases h
    | some y =>
      rw [hx, hy] at h
      cases h
      exact ⟨x, y, rfl, rfl, rfl⟩
theorem denS {d : Int} (h : d.natAbs < 2 ^ 64) : DenOk d := DenOk.of h (by decide)
theorem LeB.le {b : Addr} {L La : Sto} (h : LeB b L La) {p : Addr} {o : SO} (hp : La p = none) : LeB b L (Mp.put La p o) := fun a u n e => by
  rw [put_ne (ne_adr hp (h a u n e))]
  exact h a u n e
theorem Bx.new {b p : Addr} {n : Int} {L : Sto} {o : SO} (h : Bx b n L) (hp : L p = none) : Bx b n (put L p o) := h.le (Le.new hp)
end
section
open PySem PySem.Spec PyProof.Rows L2
def s_whole_root : Spec := fun args L R => ∃ n b : Nat, args = [.int n] ∧ n < 2 ^ b ∧ b ≤ 60000000 ∧ ∀ r : Nat, r * r ≤ n → n < (r + 1) * (r + 1) → R (.int r) L
def d_whole_root_2 : WS := sRet (wVar 1)
def d_whole_root_1w_1a_0 : WS := sAsg (gN 1) (wVar 3)
def d_whole_root_1w_1b_0 : WS := sAsg (gN 2) (wVar 3)
def d_whole_root_1w_1 : WS := sIf (wBin oLe (wBin oMul (wVar 3) (wVar 3)) (wVar 0)) d_whole_root_1w_1a_0 d_whole_root_1w_1b_0
def d_whole_root_1w_0 : WS := sSeq (sAsg (gN 3) (wBin oDiv (wBin oAdd (wVar 1) (wVar 2)) (wC (.int 2)))) d_whole_root_1w_1
def d_whole_root_1 : WS := sSeq (sWhile (wBin oGt (wBin oSub (wVar 2) (wVar 1)) (wC (.int 1))) d_whole_root_1w_0) d_whole_root_2
def d_whole_root_0 : WS := sSeq (sPar [1, 2] [wC (.int 0), wBin oAdd (wVar 0) (wC (.int 1))]) d_whole_root_1
def d_root_of_3 : WS := sRet (wTup [wVar 1, wVar 2])
def d_root_of_2a_0 : WS := sRet (wC .non)
def d_root_of_2 : WS := sSeq (sIf (wOr (wBin oNe (wBin oMul (wVar 1) (wVar 1)) (wBin oIx (wVar 0) (wC (.int 0)))) (wBin oNe (wBin oMul (wVar 2) (wVar 2)) (wBin oIx (wVar 0) (wC (.int 1))))) d_root_of_2a_0 sNil) d_root_of_3
def d_root_of_1 : WS := sSeq (sPar [1, 2] [wCall s_whole_root [wBin oIx (wVar 0) (wC (.int 0))], wCall s_whole_root [wBin oIx (wVar 0) (wC (.int 1))]]) d_root_of_2
def d_root_of_0a_0 : WS := sRet (wC .non)
def d_root_of_0 : WS := sSeq (sIf (wBin oLt (wBin oIx (wVar 0) (wC (.int 0))) (wC (.int 0))) d_root_of_0a_0 sNil) d_root_of_1
theorem noPl2 {i : Int} : NoPl i 2 := noPlS (by decide)
theorem half_nat (a : Nat) : ((a : Int)).fdiv 2 = ((a / 2 : Nat) : Int) := by rw [fd_pos (by decide)]; rfl
theorem mulN {a b c : Nat} (ha : a < 2 ^ c) (hb : b < 2 ^ c) (h : c ≤ 60000000) : MulOk a b := mulOk c c (by rw [Int.natAbs_natCast]; exact ha) (by rw [Int.natAbs_natCast]; exact hb) (by omega)
theorem ok_whole_root : ∀ args L R, args.length = 1 → s_whole_root args L R → d_whole_root_0 (initE 4 args) L { nx := fun _ L' => R .non L', rt := R } := by
  rintro _ L R _ ⟨n, b, rfl, hb, hb', h⟩
  unfold d_whole_root_0
  show sSeq _ _ [some (.int n), none, none, none] L _
  walk_at "ev102"
  unfold d_whole_root_1
  walk_at "ev102"
  refine ⟨fun m env L' => L' = L ∧ ∃ (lo hi : Nat) (z : Option PV), env = [some (.int n), some (.int lo), some (.int hi), z] ∧ lo * lo ≤ n ∧ n < hi * hi ∧ hi ≤ n + 1 ∧ lo < hi ∧ m = hi - lo, ⟨n + 1, rfl, 0, n + 1, none, rfl, Nat.zero_le _, ?_, Nat.le_refl _, by omega, by omega⟩, ?_⟩
  · exact Nat.lt_of_lt_of_le (Nat.lt_succ_self n) (Nat.le_mul_of_pos_left _ (by omega))
  rintro m env _ ⟨rfl, lo, hi, z, rfl, h1, h2, h3, h4, rfl⟩
  walk_at "ev102"
  split
  · rename_i hc
    unfold d_whole_root_1w_0
    walk_at "ev102"
    refine ⟨by decide, noPl2, ?_⟩
    rw [← Int.natCast_add, half_nat]
    unfold d_whole_root_1w_1 d_whole_root_1w_1a_0 d_whole_root_1w_1b_0
    walk_at "ev102"
    have hm : (lo + hi) / 2 < 2 ^ b := by omega
    refine ⟨mulN hm hm hb', ?_⟩
    have ec : ((((lo + hi) / 2 : Nat) : Int) * (((lo + hi) / 2 : Nat) : Int) ≤ (n : Int)) ↔ (lo + hi) / 2 * ((lo + hi) / 2) ≤ n := by
      rw [← Int.natCast_mul]; omega
    split
    · rename_i hq
      exact ⟨hi - (lo + hi) / 2, by omega, (lo + hi) / 2, hi, _, rfl, ec.mp hq, h2, h3, by omega, rfl⟩
    · rename_i hq
      exact ⟨(lo + hi) / 2 - lo, by omega, lo, (lo + hi) / 2, _, rfl, h1, Nat.lt_of_not_le fun z => hq (ec.mpr z), by omega, by omega, rfl⟩
  · rename_i hc
    unfold d_whole_root_2
    walk_at "ev102"
    have e : hi = lo + 1 := by omega
    subst e
    exact h lo h1 h2
theorem sq_num (r : Rat) : (r * r).num = r.num * r.num ∧ (r * r).den = r.den * r.den := by
  have hc : Nat.Coprime (r.num * r.num).natAbs (r.den * r.den) := by
    rw [Int.natAbs_mul]
    exact Nat.Coprime.mul_left (Nat.Coprime.mul_right r.reduced r.reduced) (Nat.Coprime.mul_right r.reduced r.reduced)
  have e : (⟨r.num * r.num, r.den * r.den, Nat.mul_ne_zero r.den_nz r.den_nz, hc⟩ : Rat) = r * r := by
    have := num_den ⟨r.num * r.num, r.den * r.den, Nat.mul_ne_zero r.den_nz r.den_nz, hc⟩
    rw [this]
    show ((r.num * r.num : Int) : Rat) / (((r.den * r.den : Nat) : Int) : Rat) = _
    rw [Int.natCast_mul]
    exact mul_eq r r
  rw [← e]
  exact ⟨rfl, rfl⟩
/-- what root_of tells of q -/
def RootIs (q : Rat) (x : PV) : Prop := (x = .non ∧ ∀ r : Rat, r * r ≠ q) ∨ ∃ r : Rat, x = fr r ∧ 0 ≤ r ∧ r * r = q
theorem root_mk {q : Rat} {a b : Nat} (ha : (a : Int) * a = q.num) (hb : b * b = q.den) : ∃ r : Rat, .tup [.int a, .int b] = fr r ∧ 0 ≤ r ∧ r * r = q := by
  have hb0 : b ≠ 0 := fun e => q.den_nz (by rw [← hb, e])
  have hc : Nat.Coprime a b := by
    have := q.reduced
    rw [← ha, ← hb, Int.natAbs_mul, Int.natAbs_natCast] at this
    have h1 : Nat.gcd a b ∣ Nat.gcd (a * a) (b * b) := Nat.dvd_gcd (Nat.dvd_trans (Nat.gcd_dvd_left _ _) (Nat.dvd_mul_left _ _)) (Nat.dvd_trans (Nat.gcd_dvd_right _ _) (Nat.dvd_mul_left _ _))
    rw [show Nat.gcd (a * a) (b * b) = 1 from this] at h1
    exact Nat.dvd_one.mp h1
  refine ⟨⟨a, b, hb0, hc⟩, rfl, ?_, ?_⟩
  · rw [← Rat.num_nonneg]
    exact Int.natCast_nonneg a
  · have h := sq_num ⟨a, b, hb0, hc⟩
    exact Rat.ext (h.1.trans ha) (h.2.trans hb)
theorem root_no {q r : Rat} (h : r * r = q) : q.num = r.num * r.num ∧ q.den = r.den * r.den := by rw [← h]; exact sq_num r
theorem sqrt_uniq {a n r : Nat} (h1 : a * a ≤ n) (h2 : n < (a + 1) * (a + 1)) (h : r * r = n) : r = a := by
  subst h
  have h3 : a ≤ r := Nat.mul_self_le_mul_self_iff.mp h1
  have h4 : r < a + 1 := Nat.mul_self_lt_mul_self_iff.mp h2
  omega
theorem natAbs_sq (i : Int) : ((i.natAbs * i.natAbs : Nat) : Int) = i * i := by rw [Int.natCast_mul]; exact Int.natAbs_mul_self' i
def s_root_of : Spec := fun args L R => ∃ q : Rat, args = [fr q] ∧ SzB q ∧ ∀ x, RootIs q x → R x L
theorem ok_root_of : ∀ args L R, args.length = 1 → s_root_of args L R → d_root_of_0 (initE 3 args) L { nx := fun _ L' => R .non L', rt := R } := by
  rintro _ L R _ ⟨q, rfl, hq, h⟩
  unfold d_root_of_0 d_root_of_0a_0
  show sSeq _ _ [some (fr q), none, none] L _
  walk_at "ev102"
  split
  · rename_i hn
    refine h _ (.inl ⟨rfl, fun r hr => ?_⟩)
    have := (root_no hr).1
    have := natAbs_sq r.num
    omega
  · rename_i hn
    obtain ⟨n, hnn⟩ := Int.eq_ofNat_of_zero_le (show 0 ≤ q.num by omega)
    unfold d_root_of_1
    walk_at "ev102"
    refine ⟨n, 4000, by rw [hnn], by have := hq.1; rw [hnn] at this; exact this, by decide, fun a a1 a2 => ?_⟩
    walk_at "ev102"
    refine ⟨q.den, 4000, rfl, hq.2, by decide, fun b b1 b2 => ?_⟩
    walk_at "ev102"
    unfold d_root_of_2 d_root_of_2a_0 d_root_of_3
    walk_at "ev102"
    have ha : a < 2 ^ 4000 := Nat.lt_of_le_of_lt (Nat.le_trans (Nat.le_mul_self a) a1) (by have := hq.1; rw [hnn] at this; exact this)
    have hb : b < 2 ^ 4000 := Nat.lt_of_le_of_lt (Nat.le_trans (Nat.le_mul_self b) b1) hq.2
    refine ⟨mulN ha ha (by decide), ?_⟩
    by_cases e1 : (a : Int) * a = q.num
    · rw [if_pos e1]
      refine ⟨mulN hb hb (by decide), ?_⟩
      by_cases e2 : (b : Int) * b = q.den
      · rw [if_pos e2]
        obtain ⟨r, hr, h0, h1⟩ := root_mk e1 (by exact_mod_cast e2)
        rw [hr]
        exact h _ (.inr ⟨r, rfl, h0, h1⟩)
      · rw [if_neg e2]
        refine h _ (.inl ⟨rfl, fun r hr => e2 ?_⟩)
        have h3 := (root_no hr).2
        have := sqrt_uniq b1 b2 h3.symm
        rw [← this, h3, Int.natCast_mul]
    · rw [if_neg e1]
      refine h _ (.inl ⟨rfl, fun r hr => e1 ?_⟩)
      have h3 := (root_no hr).1
      have h4 : r.num.natAbs * r.num.natAbs = n := by
        have := natAbs_sq r.num
        rw [← h3, hnn] at this
        exact_mod_cast this
      have := sqrt_uniq a1 a2 h4
      rw [← this, h3]
      exact Int.natAbs_mul_self' _
theorem RootIs.uniq {q : Rat} {x y : PV} (hx : RootIs q x) (hy : RootIs q y) : x = y := by
  rcases hx with ⟨rfl, h1⟩ | ⟨r, rfl, h0, h1⟩ <;> rcases hy with ⟨rfl, h2⟩ | ⟨s, rfl, h3, h2⟩
  · rfl
  · exact absurd h2 (h1 s)
  · exact absurd h1 (h2 r)
  · have : r = s := by
      have h : (r - s) * (r + s) = 0 := by grind
      rcases Rat.mul_eq_zero.mp h with h | h
      · grind
      · have h5 : r = 0 := by grind
        have h6 : s = 0 := by grind
        rw [h5, h6]
    rw [this]
theorem rgL_get {lo : Int} {n i : Nat} {t : PV} (h : (rgL lo n)[i]? = some t) : t = .int (lo + (i : Nat)) ∧ i < n := by
  have hi := (List.getElem?_eq_some_iff.mp h).1
  unfold rgL at h hi
  rw [List.length_map, List.length_range] at hi
  rw [List.getElem?_map, List.getElem?_range hi] at h
  cases h
  exact ⟨rfl, hi⟩
theorem Sz.B {a : Nat} {q : Rat} (h : Sz a q) (ha : a ≤ 4000) : SzB q := h.mono ha
end
section
open PySem PySem.Spec PyProof.Rows L2
abbrev Vc := Rat × Rat
def vc (p : Vc) : PV := .tup [fr p.1, fr p.2]
theorem vx0 {p : Vc} {L : Sto} {R : PK} : oIx (vc p) (.int 0) L R = R (fr p.1) L := ix0
theorem vx1 {p : Vc} {L : Sto} {R : PK} : oIx (vc p) (.int 1) L R = R (fr p.2) L := ix1
theorem vc_mk {x y : Rat} : PV.tup [fr x, fr y] = vc (x, y) := rfl
theorem frz (n : Int) : .tup [.int n, .int 1] = fr (n : Rat) := rfl
def SzV (b : Nat) (p : Vc) : Prop := Sz b p.1 ∧ Sz b p.2
theorem SzV.mono {a b : Nat} {p : Vc} (h : SzV a p) (hb : a ≤ b) : SzV b p := ⟨h.1.mono hb, h.2.mono hb⟩
theorem szz {n : Int} {b : Nat} (h : n.natAbs < 4) (hb : 2 ≤ b) : Sz b (n : Rat) := (Sz.int (a := 2) h (by decide)).mono hb
def vadd (p q : Vc) : Vc := (p.1 + q.1, p.2 + q.2)
def vsub (p q : Vc) : Vc := (p.1 - q.1, p.2 - q.2)
def vscl (p : Vc) (k : Rat) : Vc := (p.1 * k, p.2 * k)
def vdot (p q : Vc) : Rat := p.1 * q.1 + p.2 * q.2
def vcrs (p q : Vc) : Rat := p.1 * q.2 - p.2 * q.1
def vlft (p : Vc) : Vc := (0 - p.2, p.1)
theorem SzV.add {a b : Nat} {p q : Vc} (h : SzV a p) (k : SzV b q) : SzV (a + b + 1) (vadd p q) := ⟨h.1.add k.1, h.2.add k.2⟩
theorem SzV.sub {a b : Nat} {p q : Vc} (h : SzV a p) (k : SzV b q) : SzV (a + b + 1) (vsub p q) := ⟨h.1.sub k.1, h.2.sub k.2⟩
theorem SzV.scl {a b : Nat} {p : Vc} {q : Rat} (h : SzV a p) (k : Sz b q) : SzV (a + b) (vscl p q) := ⟨h.1.mul k, h.2.mul k⟩
theorem SzV.dot {a b : Nat} {p q : Vc} (h : SzV a p) (k : SzV b q) : Sz (a + b + (a + b) + 1) (vdot p q) := (h.1.mul k.1).add (h.2.mul k.2)
theorem SzV.crs {a b : Nat} {p q : Vc} (h : SzV a p) (k : SzV b q) : Sz (a + b + (a + b) + 1) (vcrs p q) := (h.1.mul k.2).sub (h.2.mul k.1)
theorem Sz.zsub {a : Nat} {q : Rat} (h : Sz a q) : Sz a (0 - q) := by rw [show (0 : Rat) - q = -q by grind]; exact h.neg
theorem SzV.lft {a : Nat} {p : Vc} (h : SzV a p) : SzV a (vlft p) := ⟨h.2.zsub, h.1⟩
def s_plus : Spec := fun args L R => ∃ p q, args = [vc p, vc q] ∧ SzV 4000 p ∧ SzV 4000 q ∧ R (vc (vadd p q)) L
def s_minus : Spec := fun args L R => ∃ p q, args = [vc p, vc q] ∧ SzV 4000 p ∧ SzV 4000 q ∧ R (vc (vsub p q)) L
def s_scaled : Spec := fun args L R => ∃ p k, args = [vc p, fr k] ∧ SzV 4000 p ∧ Sz 4000 k ∧ R (vc (vscl p k)) L
def s_dot : Spec := fun args L R => ∃ p q, args = [vc p, vc q] ∧ SzV 1900 p ∧ SzV 1900 q ∧ R (fr (vdot p q)) L
def s_cross : Spec := fun args L R => ∃ p q, args = [vc p, vc q] ∧ SzV 1900 p ∧ SzV 1900 q ∧ R (fr (vcrs p q)) L
def s_left_of : Spec := fun args L R => ∃ p, args = [vc p] ∧ SzV 4000 p ∧ R (vc (vlft p)) L
def d_plus_0 : WS := sRet (wTup [wCall s_added [wBin oIx (wVar 0) (wC (.int 0)), wBin oIx (wVar 1) (wC (.int 0))], wCall s_added [wBin oIx (wVar 0) (wC (.int 1)), wBin oIx (wVar 1) (wC (.int 1))]])
def d_minus_0 : WS := sRet (wTup [wCall s_taken [wBin oIx (wVar 0) (wC (.int 0)), wBin oIx (wVar 1) (wC (.int 0))], wCall s_taken [wBin oIx (wVar 0) (wC (.int 1)), wBin oIx (wVar 1) (wC (.int 1))]])
def d_scaled_0 : WS := sRet (wTup [wCall s_times [wBin oIx (wVar 0) (wC (.int 0)), wVar 1], wCall s_times [wBin oIx (wVar 0) (wC (.int 1)), wVar 1]])
def d_dot_0 : WS := sRet (wCall s_added [wCall s_times [wBin oIx (wVar 0) (wC (.int 0)), wBin oIx (wVar 1) (wC (.int 0))], wCall s_times [wBin oIx (wVar 0) (wC (.int 1)), wBin oIx (wVar 1) (wC (.int 1))]])
def d_cross_0 : WS := sRet (wCall s_taken [wCall s_times [wBin oIx (wVar 0) (wC (.int 0)), wBin oIx (wVar 1) (wC (.int 1))], wCall s_times [wBin oIx (wVar 0) (wC (.int 1)), wBin oIx (wVar 1) (wC (.int 0))]])
def d_left_of_0 : WS := sRet (wTup [wCall s_taken [wC (.tup [.int 0, .int 1]), wBin oIx (wVar 0) (wC (.int 1))], wBin oIx (wVar 0) (wC (.int 0))])
local macro_rules | `(tactic| walk_at "ev") => `(tactic| try simp only [vx0, vx1, if_true, if_false, decide_true, decide_false, Bool.not_true, Bool.not_false, Bool.false_eq_true, reduceCtorEq, e_gS, e_gT, e_gsL0, e_gsL1, e_gsN0, e_gsN1, e_r1, e_r1K, e_r2, e_r2K, e_any, e_lsT, e_zpT, e_enT, e_en, e_zp, e_lzip, e_z3, e_revt, e_tru, tru_bl, tru_int, tru_non, tru_tup, e_disp, e_prs0, e_prs1, List.zip_nil_left, e_rv, e_for, e_comp, e_mt, e_wipe0, e_wipe1, fr0, fr1, ix0, ix1, ix2, ix3, bIf_t, bIf_f, bIf_d, bIf_n, oEq_ii, oNe_ii, oEq_bb, oNe_bb, List.set_cons_zero, List.set_cons_succ, List.zip_cons_cons, List.zip_nil_right, List.foldl_cons, List.foldl_nil, e_add, e_addI, e_addt, e_addl, e_sub, e_mul, e_div, e_mod, e_pow, e_oI, e_neg, e_not, e_isn, e_isnn, e_isb, e_isnb, e_isN_non, e_isN_bl, e_isN_int, e_isN_tup, e_isN_ref, e_isN_fz, e_isN_fr, e_isN_str, e_lent, e_lenz, e_abs, e_int, e_intb, e_dvm, e_min, e_max, e_listt, e_listz, e_tupt, e_str, gv_0, gv_s, e_slt, e_slz, e_v0, e_v1, e_v2, e_v3, e_v4, e_v5, e_v6, e_v7, e_v8, e_v9, e_v10, e_v11, e_v12, e_v13, e_v14, e_v15, e_v16, e_v17, e_v18, e_v19, e_v20, e_v21, e_v22, e_v23, e_v24, e_v25, e_v26, e_v27, e_v28, e_v29, e_v30, e_v31, e_v32, e_v33, e_v34, e_v35, e_v36, e_v37, e_v38, e_v39, e_ar0, e_ar1, e_gN, e_par, e_c, e_bin, e_un, e_and, e_or, e_ife, e_chain, e_tup, e_lst, e_bi, e_call, e_sl, e_no, e_so, e_nil, e_seq, e_expr, e_ret, e_retn, e_asg, e_if, e_brk, e_cnt, sz_0, sz_1, sz_2, sz_3, sz_4, sz_5, sz_6, sz_7, sz_8, sz_9, sz_10, sz_11, sz_12, sz_13, sz_14, sz_15, sz_16, sz_17, sz_18, sz_19, true_and, isi_non_int, isi_non_bool, isi_non_str, isi_non_tuple, isi_non_list, isi_non_dict, isi_bl_int, isi_bl_bool, isi_bl_str, isi_bl_tuple, isi_bl_list, isi_bl_dict, isi_int_int, isi_int_bool, isi_int_str, isi_int_tuple, isi_int_list, isi_int_dict, isi_str_int, isi_str_bool, isi_str_str, isi_str_tuple, isi_str_list, isi_str_dict, isi_tup_int, isi_tup_bool, isi_tup_str, isi_tup_tuple, isi_tup_list, isi_tup_dict, isi_fz_int, isi_fz_bool, isi_fz_str, isi_fz_tuple, isi_fz_list, isi_fz_dict])
theorem ok_plus : ∀ args L R, args.length = 2 → s_plus args L R → d_plus_0 (initE 2 args) L { nx := fun _ L' => R .non L', rt := R } := by
  rintro _ L R _ ⟨p, q, rfl, hp, hq, h⟩
  unfold d_plus_0
  show sRet _ [some (vc p), some (vc q)] L _
  walk_at "ev"
  refine ⟨_, _, rfl, hp.1, hq.1, _, _, rfl, hp.2, hq.2, ?_⟩
  walk_at "ev"
  exact h
theorem ok_minus : ∀ args L R, args.length = 2 → s_minus args L R → d_minus_0 (initE 2 args) L { nx := fun _ L' => R .non L', rt := R } := by
  rintro _ L R _ ⟨p, q, rfl, hp, hq, h⟩
  unfold d_minus_0
  show sRet _ [some (vc p), some (vc q)] L _
  walk_at "ev"
  refine ⟨_, _, rfl, hp.1, hq.1, _, _, rfl, hp.2, hq.2, ?_⟩
  walk_at "ev"
  exact h
theorem ok_scaled : ∀ args L R, args.length = 2 → s_scaled args L R → d_scaled_0 (initE 2 args) L { nx := fun _ L' => R .non L', rt := R } := by
  rintro _ L R _ ⟨p, q, rfl, hp, hq, h⟩
  unfold d_scaled_0
  show sRet _ [some (vc p), some (fr q)] L _
  walk_at "ev"
  refine ⟨_, _, rfl, hp.1, hq, _, _, rfl, hp.2, hq, ?_⟩
  walk_at "ev"
  exact h
theorem ok_dot : ∀ args L R, args.length = 2 → s_dot args L R → d_dot_0 (initE 2 args) L { nx := fun _ L' => R .non L', rt := R } := by
  rintro _ L R _ ⟨p, q, rfl, hp, hq, h⟩
  unfold d_dot_0
  show sRet _ [some (vc p), some (vc q)] L _
  walk_at "ev"
  exact ⟨_, _, rfl, hp.1.B (by decide), hq.1.B (by decide), _, _, rfl, hp.2.B (by decide), hq.2.B (by decide), _, _, rfl, (hp.1.mul hq.1).B (by decide), (hp.2.mul hq.2).B (by decide), h⟩
theorem ok_cross : ∀ args L R, args.length = 2 → s_cross args L R → d_cross_0 (initE 2 args) L { nx := fun _ L' => R .non L', rt := R } := by
  rintro _ L R _ ⟨p, q, rfl, hp, hq, h⟩
  unfold d_cross_0
  show sRet _ [some (vc p), some (vc q)] L _
  walk_at "ev"
  exact ⟨_, _, rfl, hp.1.B (by decide), hq.2.B (by decide), _, _, rfl, hp.2.B (by decide), hq.1.B (by decide), _, _, rfl, (hp.1.mul hq.2).B (by decide), (hp.2.mul hq.1).B (by decide), h⟩
theorem ok_left_of : ∀ args L R, args.length = 1 → s_left_of args L R → d_left_of_0 (initE 1 args) L { nx := fun _ L' => R .non L', rt := R } := by
  rintro _ L R _ ⟨p, rfl, hp, h⟩
  unfold d_left_of_0
  show sRet _ [some (vc p)] L _
  walk_at "ev"
  rw [frz]
  refine ⟨_, _, rfl, szz (by decide) (by decide), hp.2, ?_⟩
  walk_at "ev"
  exact h
theorem Sm.vc {L : Sto} {n : Nat} {p q : Vc} (h : p = q) : Sm L (n + 3) (vc p) (vc q) := by
  subst h
  exact ⟨by show 2 ≤ 1000000; decide, .fr rfl, .fr rfl, trivial⟩
end
section
open PySem PySem.Spec PyProof.Rows L2
theorem fr_inj {p q : Rat} : (p = q) ↔ (p.num = q.num ∧ (p.den : Int) = q.den) := ⟨fun h => by rw [h]; exact ⟨rfl, rfl⟩, fun h => Rat.ext h.1 (by omega)⟩
def dfr (q : Rat) : PyData := .tuple [.int q.num, .int q.den]
def dvc (p : Vc) : PyData := .tuple [dfr p.1, dfr p.2]
theorem PD.fr {L : Sto} {q : Rat} : PD L (Mp.fr q) (dfr q) := .tup (.cons (.int _) (.cons (.int _) .nil))
theorem PD.vc {L : Sto} {p : Vc} : PD L (Mp.vc p) (dvc p) := .tup (.cons .fr (.cons .fr .nil))
theorem eqv_fr {p q : Rat} : PyData.eqv (dfr p) (dfr q) = decide (p = q) := by
  have h : PyData.eqv (dfr p) (dfr q) = (decide (p.num = q.num) && (decide ((p.den : Int) = q.den) && true)) := rfl
  rw [h, Bool.and_true, ← Bool.decide_and]
  exact decide_eq_decide.mpr fr_inj.symm
theorem eqv_vc {p q : Vc} : PyData.eqv (dvc p) (dvc q) = decide (p = q) := by
  have h : PyData.eqv (dvc p) (dvc q) = (PyData.eqv (dfr p.1) (dfr q.1) && (PyData.eqv (dfr p.2) (dfr q.2) && true)) := rfl
  rw [h, eqv_fr, eqv_fr, Bool.and_true, ← Bool.decide_and]
  exact decide_eq_decide.mpr (Prod.ext_iff.symm)
section
variable {L : Sto} {R : PK} {p q : Rat} {u v : Vc}
theorem PD_fr_uniq {d : PyData} (h : PD L (Mp.fr p) d) : d = dfr p := by
  match h with
  | .tup (.cons (.int _) (.cons (.int _) .nil)) => rfl
theorem PD_vc_uniq {d : PyData} (h : PD L (Mp.vc u) d) : d = dvc u := by
  match h with
  | .tup (.cons a (.cons b .nil)) => rw [PD_fr_uniq a, PD_fr_uniq b]; rfl
theorem oEq_ff : oEq (fr p) (fr q) L R = R (.bl (decide (p = q))) L := by
  refine propext ⟨?_, fun h => ⟨_, _, .fr, .fr, rfl, rfl, by rw [eqv_fr]; exact h⟩⟩
  rintro ⟨d, e, h1, h2, _, _, h⟩
  rw [PD_fr_uniq h1, PD_fr_uniq h2, eqv_fr] at h
  exact h
theorem oNe_ff : oNe (fr p) (fr q) L R = R (.bl (!decide (p = q))) L := by
  refine propext ⟨?_, fun h => ⟨_, _, .fr, .fr, rfl, rfl, by rw [eqv_fr]; exact h⟩⟩
  rintro ⟨d, e, h1, h2, _, _, h⟩
  rw [PD_fr_uniq h1, PD_fr_uniq h2, eqv_fr] at h
  exact h
theorem oEq_vv : oEq (vc u) (vc v) L R = R (.bl (decide (u = v))) L := by
  refine propext ⟨?_, fun h => ⟨_, _, .vc, .vc, rfl, rfl, by rw [eqv_vc]; exact h⟩⟩
  rintro ⟨d, e, h1, h2, _, _, h⟩
  rw [PD_vc_uniq h1, PD_vc_uniq h2, eqv_vc] at h
  exact h
theorem oNe_vv : oNe (vc u) (vc v) L R = R (.bl (!decide (u = v))) L := by
  refine propext ⟨?_, fun h => ⟨_, _, .vc, .vc, rfl, rfl, by rw [eqv_vc]; exact h⟩⟩
  rintro ⟨d, e, h1, h2, _, _, h⟩
  rw [PD_vc_uniq h1, PD_vc_uniq h2, eqv_vc] at h
  exact h
end
theorem e_gTv {p : Vc} {env : Env} {L : Sto} {gs : WGs} {R : Env → Sto → Prop} : gT 2 gs (vc p) env L R = gs [fr p.1, fr p.2] env L R := propext ⟨fun h => h.2, fun h => ⟨rfl, h⟩⟩
theorem fr_zero : PV.tup [.int 0, .int 1] = fr 0 := rfl
theorem fr_one : PV.tup [.int 1, .int 1] = fr 1 := rfl
theorem sz0 {b : Nat} (hb : 1 ≤ b) : Sz b (0 : Rat) := Sz.mono (a := 1) ⟨by decide, by decide⟩ hb
theorem sz1 {b : Nat} (hb : 1 ≤ b) : Sz b (1 : Rat) := Sz.mono (a := 1) ⟨by decide, by decide⟩ hb
local macro_rules | `(tactic| walk_at "ev") => `(tactic| try simp only [oEq_ff, oNe_ff, oEq_vv, oNe_vv, e_gTv, vc_mk, vx0, vx1, if_true, if_false, decide_true, decide_false, Bool.not_true, Bool.not_false, Bool.false_eq_true, reduceCtorEq, e_gS, e_gT, e_gsL0, e_gsL1, e_gsN0, e_gsN1, e_r1, e_r1K, e_r2, e_r2K, e_any, e_lsT, e_zpT, e_enT, e_en, e_zp, e_lzip, e_z3, e_revt, e_tru, tru_bl, tru_int, tru_non, tru_tup, e_disp, e_prs0, e_prs1, List.zip_nil_left, e_rv, e_for, e_comp, e_mt, e_wipe0, e_wipe1, fr0, fr1, ix0, ix1, ix2, ix3, bIf_t, bIf_f, bIf_d, bIf_n, oEq_ii, oNe_ii, oEq_bb, oNe_bb, List.set_cons_zero, List.set_cons_succ, List.zip_cons_cons, List.zip_nil_right, List.foldl_cons, List.foldl_nil, e_add, e_addI, e_addt, e_addl, e_sub, e_mul, e_div, e_mod, e_pow, e_oI, e_neg, e_not, e_isn, e_isnn, e_isb, e_isnb, e_isN_non, e_isN_bl, e_isN_int, e_isN_tup, e_isN_ref, e_isN_fz, e_isN_fr, e_isN_str, e_lent, e_lenz, e_abs, e_int, e_intb, e_dvm, e_min, e_max, e_listt, e_listz, e_tupt, e_str, gv_0, gv_s, e_slt, e_slz, e_v0, e_v1, e_v2, e_v3, e_v4, e_v5, e_v6, e_v7, e_v8, e_v9, e_v10, e_v11, e_v12, e_v13, e_v14, e_v15, e_v16, e_v17, e_v18, e_v19, e_v20, e_v21, e_v22, e_v23, e_v24, e_v25, e_v26, e_v27, e_v28, e_v29, e_v30, e_v31, e_v32, e_v33, e_v34, e_v35, e_v36, e_v37, e_v38, e_v39, e_ar0, e_ar1, e_gN, e_par, e_c, e_bin, e_un, e_and, e_or, e_ife, e_chain, e_tup, e_lst, e_bi, e_call, e_sl, e_no, e_so, e_nil, e_seq, e_expr, e_ret, e_retn, e_asg, e_if, e_brk, e_cnt, sz_0, sz_1, sz_2, sz_3, sz_4, sz_5, sz_6, sz_7, sz_8, sz_9, sz_10, sz_11, sz_12, sz_13, sz_14, sz_15, sz_16, sz_17, sz_18, sz_19, true_and, isi_non_int, isi_non_bool, isi_non_str, isi_non_tuple, isi_non_list, isi_non_dict, isi_bl_int, isi_bl_bool, isi_bl_str, isi_bl_tuple, isi_bl_list, isi_bl_dict, isi_int_int, isi_int_bool, isi_int_str, isi_int_tuple, isi_int_list, isi_int_dict, isi_str_int, isi_str_bool, isi_str_str, isi_str_tuple, isi_str_list, isi_str_dict, isi_tup_int, isi_tup_bool, isi_tup_str, isi_tup_tuple, isi_tup_list, isi_tup_dict, isi_fz_int, isi_fz_bool, isi_fz_str, isi_fz_tuple, isi_fz_list, isi_fz_dict])
def rot (u b : Vc) : Vc := (u.1 * b.1 - u.2 * b.2, u.1 * b.2 + u.2 * b.1)
def tb (h : Rat) : Vc := ((1 - h * h) / (1 + h * h), (h + h) / (1 + h * h))
def Un (u : Vc) : Prop := u.1 * u.1 + u.2 * u.2 = 1
theorem sq_nn (h : Rat) : 0 ≤ h * h := by
  rcases Rat.le_total (a := 0) (b := h) with q | q
  · exact Rat.mul_nonneg q q
  · have : 0 ≤ -h := by grind
    have := Rat.mul_nonneg this this
    grind
theorem one_sq (h : Rat) : 1 + h * h ≠ 0 := by
  have := sq_nn h
  grind
theorem SzV.tb {a : Nat} {h : Rat} (k : Sz a h) : SzV (a + a + a + a + 4) (tb h) := by
  have s := k.mul k
  have u := (sz1 (Nat.le_refl 1)).add s
  refine ⟨(((sz1 (Nat.le_refl 1)).sub s).div u (one_sq h)).mono (by omega), ((k.add k).div u (one_sq h)).mono (by omega)⟩
def s_turned : Spec := fun args L R => ∃ u c a b, args = [vc u, vc c] ∧ SzV a u ∧ SzV b c ∧ a + b ≤ 4000 ∧ R (vc (rot u c)) L
def s_turn_by : Spec := fun args L R => ∃ h, args = [fr h] ∧ Sz 1900 h ∧ R (vc (tb h)) L
def d_turned_2 : WS := sRet (wTup [wCall s_taken [wCall s_times [wVar 2, wVar 4], wCall s_times [wVar 3, wVar 5]], wCall s_added [wCall s_times [wVar 2, wVar 5], wCall s_times [wVar 3, wVar 4]]])
def d_turned_1 : WS := sSeq (sAsg (gT 2 (gsL [gN 4, gN 5])) (wVar 1)) d_turned_2
def d_turned_0 : WS := sSeq (sAsg (gT 2 (gsL [gN 2, gN 3])) (wVar 0)) d_turned_1
def d_turn_by_2 : WS := sRet (wTup [wCall s_over [wCall s_taken [wC (.tup [.int 1, .int 1]), wVar 1], wVar 2], wCall s_over [wCall s_added [wVar 0, wVar 0], wVar 2]])
def d_turn_by_1 : WS := sSeq (sAsg (gN 2) (wCall s_added [wC (.tup [.int 1, .int 1]), wVar 1])) d_turn_by_2
def d_turn_by_0 : WS := sSeq (sAsg (gN 1) (wCall s_times [wVar 0, wVar 0])) d_turn_by_1
theorem ok_turned : ∀ args L R, args.length = 2 → s_turned args L R → d_turned_0 (initE 6 args) L { nx := fun _ L' => R .non L', rt := R } := by
  rintro _ L R _ ⟨u, c, a, b, rfl, hu, hc, hab, h⟩
  unfold d_turned_0
  show sSeq _ _ [some (vc u), some (vc c), none, none, none, none] L _
  walk_at "ev"
  unfold d_turned_1
  walk_at "ev"
  unfold d_turned_2
  walk_at "ev"
  have u1 := hu.1.B (by omega)
  have u2 := hu.2.B (by omega)
  have c1 := hc.1.B (by omega)
  have c2 := hc.2.B (by omega)
  refine ⟨_, _, rfl, u1, c1, _, _, rfl, u2, c2, _, _, rfl, (hu.1.mul hc.1).B hab, (hu.2.mul hc.2).B hab, ?_⟩
  walk_at "ev"
  refine ⟨_, _, rfl, u1, c2, _, _, rfl, u2, c1, _, _, rfl, (hu.1.mul hc.2).B hab, (hu.2.mul hc.1).B hab, ?_⟩
  walk_at "ev"
  exact h
theorem ok_turn_by : ∀ args L R, args.length = 1 → s_turn_by args L R → d_turn_by_0 (initE 3 args) L { nx := fun _ L' => R .non L', rt := R } := by
  rintro _ L R _ ⟨h, rfl, hh, k⟩
  unfold d_turn_by_0
  show sSeq _ _ [some (fr h), none, none] L _
  walk_at "ev"
  refine ⟨_, _, rfl, hh.B (by decide), hh.B (by decide), ?_⟩
  unfold d_turn_by_1
  walk_at "ev"
  rw [fr_one]
  have s := hh.mul hh
  have s1 := sz1 (Nat.le_refl 1)
  refine ⟨_, _, rfl, s1.B (by decide), s.B (by decide), ?_⟩
  unfold d_turn_by_2
  walk_at "ev"
  rw [fr_one]
  refine ⟨_, _, rfl, s1.B (by decide), s.B (by decide), _, _, rfl, one_sq h, (s1.sub s).B (by decide), (s1.add s).B (by decide), ?_⟩
  walk_at "ev"
  refine ⟨_, _, rfl, hh.B (by decide), hh.B (by decide), _, _, rfl, one_sq h, (hh.add hh).B (by decide), (s1.add s).B (by decide), ?_⟩
  walk_at "ev"
  exact k
def prt (h : Rat) (n k : Nat) : Rat := h * (((k : Int) : Rat) / ((n : Int) : Rat))
def stepsL (u : Vc) (h : Rat) (n : Nat) : List Vc := (List.range n).map fun k => rot u (tb (prt h n (k + 1)))
/-- all of a list made afresh -/
def Fresh (L : Sto) (R : PK) (xs : List PV) : Prop := ∀ p L', L p = none → Le L L' → L' p = some (.l xs) → R (.ref p) L'
def s_steps_on : Spec := fun args L R => ∃ (u : Vc) (h : Rat) (n a b : Nat), args = [vc u, fr h, .int n] ∧ SzV a u ∧ Sz b h ∧ 0 < n ∧ n < 1024 ∧ b ≤ 900 ∧ a + 4 * b ≤ 3900 ∧ Fresh L R ((stepsL u h n).map vc)
def d_steps_on_0 : WS := sRet (wComp [3] (iR2 (wC (.int 1)) (wBin oAdd (wVar 2) (wC (.int 1)))) (gN 3) (wC (.bl true)) (wCall s_turned [wVar 0, wCall s_turn_by [wCall s_times [wVar 1, wCall s_fraction [wVar 3, wVar 2]]]]))
theorem sz_kn {k n : Nat} (h0 : 0 < n) (hk : k ≤ n) (hn : n < 1024) : Sz 10 (((k : Int) : Rat) / ((n : Int) : Rat)) := Sz.of (by omega) (by show _ < 1024; omega) (by show _ < 1024; omega)
theorem ok_steps_on : ∀ args L R, args.length = 3 → s_steps_on args L R → d_steps_on_0 (initE 4 args) L { nx := fun _ L' => R .non L', rt := R } := by
  rintro _ L R _ ⟨u, h, n, a, b, rfl, hu, hh, hn0, hn, hb, hab, k⟩
  unfold d_steps_on_0
  show sRet _ [some (vc u), some (fr h), some (.int n), none] L _
  walk_at "ev"
  refine ⟨⟨by decide, by decide⟩, ⟨by omega, by omega⟩, ?_⟩
  rw [show ((n : Int) + 1 - 1).toNat = n by omega]
  have hrl : (rgL 1 n).length = n := by unfold rgL; rw [List.length_map, List.length_range]
  refine comp_i (fun i acc l => l = L ∧ acc = ((List.range i).map fun k => vc (rot u (tb (prt h n (k + 1)))))) ⟨rfl, rfl⟩ (fun _ _ _ _ => trivial) (by show (rgL 1 n).length < 16777216; omega) ?_ ?_
  · rintro i t acc l K hx ⟨rfl, rfl⟩ hi hK
    obtain ⟨rfl, hin⟩ := rgL_get hx
    walk_at "ev"
    have e1 : (1 : Int) + (i : Nat) = ((i + 1 : Nat) : Int) := by omega
    rw [e1]
    have skn := sz_kn (k := i + 1) hn0 (by omega) hn
    refine ⟨_, _, rfl, by omega, DenOk.of (a := 10) (by show _ < 1024; omega) (by decide), _, _, rfl, hh.B (by omega), skn.B (by decide), ?_⟩
    have sp := hh.mul skn
    refine ⟨_, rfl, sp.mono (by omega), ?_⟩
    refine ⟨_, _, _, _, rfl, hu, SzV.tb sp, by omega, ?_⟩
    walk_at "ev"
    refine ⟨?_, ?_⟩
    · rw [List.length_map, List.length_range]; show i < 16777216; omega
    · refine hK _ _ ?_ ⟨rfl, ?_⟩
      · rw [List.length_append, List.length_map, List.length_range]; exact Nat.le_refl _
      · rw [List.range_succ, List.map_append]; rfl
  · rintro acc l ⟨rfl, rfl⟩ p hp
    refine k p _ hp (Le.new hp) ?_
    rw [put_same, hrl]
    unfold stepsL
    rw [List.map_map]
    rfl
end
local macro_rules | `(tactic| walk_at "ev104") => `(tactic| try simp only [oEq_ff, oNe_ff, oEq_vv, oNe_vv, e_gTv, vc_mk, vx0, vx1, if_true, if_false, decide_true, decide_false, Bool.not_true, Bool.not_false, Bool.false_eq_true, reduceCtorEq, e_gS, e_gT, e_gsL0, e_gsL1, e_gsN0, e_gsN1, e_r1, e_r1K, e_r2, e_r2K, e_any, e_lsT, e_zpT, e_enT, e_en, e_zp, e_lzip, e_z3, e_revt, e_tru, tru_bl, tru_int, tru_non, tru_tup, e_disp, e_prs0, e_prs1, List.zip_nil_left, e_rv, e_for, e_comp, e_mt, e_wipe0, e_wipe1, fr0, fr1, ix0, ix1, ix2, ix3, bIf_t, bIf_f, bIf_d, bIf_n, oEq_ii, oNe_ii, oEq_bb, oNe_bb, List.set_cons_zero, List.set_cons_succ, List.zip_cons_cons, List.zip_nil_right, List.foldl_cons, List.foldl_nil, e_add, e_addI, e_addt, e_addl, e_sub, e_mul, e_div, e_mod, e_pow, e_oI, e_neg, e_not, e_isn, e_isnn, e_isb, e_isnb, e_isN_non, e_isN_bl, e_isN_int, e_isN_tup, e_isN_ref, e_isN_fz, e_isN_fr, e_isN_str, e_lent, e_lenz, e_abs, e_int, e_intb, e_dvm, e_min, e_max, e_listt, e_listz, e_tupt, e_str, gv_0, gv_s, e_slt, e_slz, e_v0, e_v1, e_v2, e_v3, e_v4, e_v5, e_v6, e_v7, e_v8, e_v9, e_v10, e_v11, e_v12, e_v13, e_v14, e_v15, e_v16, e_v17, e_v18, e_v19, e_v20, e_v21, e_v22, e_v23, e_v24, e_v25, e_v26, e_v27, e_v28, e_v29, e_v30, e_v31, e_v32, e_v33, e_v34, e_v35, e_v36, e_v37, e_v38, e_v39, e_ar0, e_ar1, e_gN, e_par, e_c, e_bin, e_un, e_and, e_or, e_ife, e_chain, e_tup, e_lst, e_bi, e_call, e_sl, e_no, e_so, e_nil, e_seq, e_expr, e_ret, e_retn, e_asg, e_if, e_brk, e_cnt, sz_0, sz_1, sz_2, sz_3, sz_4, sz_5, sz_6, sz_7, sz_8, sz_9, sz_10, sz_11, sz_12, sz_13, sz_14, sz_15, sz_16, sz_17, sz_18, sz_19, true_and, isi_non_int, isi_non_bool, isi_non_str, isi_non_tuple, isi_non_list, isi_non_dict, isi_bl_int, isi_bl_bool, isi_bl_str, isi_bl_tuple, isi_bl_list, isi_bl_dict, isi_int_int, isi_int_bool, isi_int_str, isi_int_tuple, isi_int_list, isi_int_dict, isi_str_int, isi_str_bool, isi_str_str, isi_str_tuple, isi_str_list, isi_str_dict, isi_tup_int, isi_tup_bool, isi_tup_str, isi_tup_tuple, isi_tup_list, isi_tup_dict, isi_fz_int, isi_fz_bool, isi_fz_str, isi_fz_tuple, isi_fz_list, isi_fz_dict])
section
open PySem PySem.Spec PyProof.Rows L2
theorem cmp_pos {p q : Rat} : (0 < cmpI p q) ↔ q < p := by
  unfold cmpI
  by_cases h : q < p
  · rw [if_pos h]; exact ⟨fun _ => h, fun _ => by decide⟩
  · rw [if_neg h]
    refine ⟨fun z => ?_, fun z => absurd z h⟩
    split at z
    · exact absurd z (by decide)
    · exact absurd z (by decide)
def InQ (u v : Vc) : Prop := 0 < vcrs u v ∧ 0 < vdot u v
instance {u v : Vc} : Decidable (InQ u v) := inferInstanceAs (Decidable (_ ∧ _))
def s_is_in_quarter : Spec := fun args L R => ∃ u v, args = [vc u, vc v] ∧ SzV 900 u ∧ SzV 900 v ∧ R (.bl (decide (InQ u v))) L
def d_is_in_quarter_0 : WS := sRet (wAnd (wBin oGt (wCall s_compared [wCall s_cross [wVar 0, wVar 1], wC (.tup [.int 0, .int 1])]) (wC (.int 0))) (wBin oGt (wCall s_compared [wCall s_dot [wVar 0, wVar 1], wC (.tup [.int 0, .int 1])]) (wC (.int 0))))
theorem ok_is_in_quarter : ∀ args L R, args.length = 2 → s_is_in_quarter args L R → d_is_in_quarter_0 (initE 2 args) L { nx := fun _ L' => R .non L', rt := R } := by
  rintro _ L R _ ⟨u, v, rfl, hu, hv, h⟩
  unfold d_is_in_quarter_0
  show sRet _ [some (vc u), some (vc v)] L _
  walk_at "ev104"
  rw [fr_zero]
  refine ⟨_, _, rfl, hu.mono (by decide), hv.mono (by decide), _, _, rfl, (hu.crs hv).B (by decide), sz0 (by decide), ?_⟩
  walk_at "ev104"
  simp only [cmp_pos]
  by_cases h1 : 0 < vcrs u v
  · rw [if_pos h1]
    refine ⟨_, _, rfl, hu.mono (by decide), hv.mono (by decide), _, _, rfl, (hu.dot hv).B (by decide), sz0 (by decide), ?_⟩
    walk_at "ev104"
    simp only [cmp_pos]
    rw [show decide (0 < vdot u v) = decide (InQ u v) from decide_eq_decide.mpr ⟨fun z => ⟨h1, z⟩, fun z => z.2⟩]
    exact h
  · rw [if_neg h1]
    rw [show decide (InQ u v) = false from decide_eq_false (fun z => h1 z.1)] at h
    exact h
def Stp (v u : Vc) : Prop := u = v ∨ InQ u v
instance {u v : Vc} : Decidable (Stp v u) := inferInstanceAs (Decidable (_ ∨ _))
def qv (one other : Vc) : Nat → Vc
  | 0 => one
  | j + 1 => if Stp other (qv one other j) then qv one other j else vlft (qv one other j)
def qf (one other : Vc) (n : Nat) : Nat → List Vc
  | 0 => [one]
  | j + 1 => if Stp other (qv one other j) then qf one other n j else qf one other n j ++ stepsL (qv one other j) 1 n
def prtQ (u v : Vc) : Rat := vcrs u v / (1 + vdot u v)
def qres (one other : Vc) (n : Nat) : List Vc := if qv one other 4 = other then qf one other n 4 else qf one other n 4 ++ stepsL (qv one other 4) (prtQ (qv one other 4) other) n
theorem Un.lft {u : Vc} (h : Un u) : Un (vlft u) := by
  unfold Un vlft at *
  show (0 - u.2) * (0 - u.2) + u.1 * u.1 = 1
  grind
theorem un_id {u v : Vc} (hu : Un u) (hv : Un v) : vdot u v * vdot u v + vcrs u v * vcrs u v = 1 := by
  unfold Un vdot vcrs at *
  have : (u.1 * v.1 + u.2 * v.2) * (u.1 * v.1 + u.2 * v.2) + (u.1 * v.2 - u.2 * v.1) * (u.1 * v.2 - u.2 * v.1) = (u.1 * u.1 + u.2 * u.2) * (v.1 * v.1 + v.2 * v.2) := by grind
  rw [this, hu, hv]
  grind
theorem dot_lft {u v : Vc} : vdot (vlft u) v = vcrs u v := by
  unfold vdot vcrs vlft
  show (0 - u.2) * v.1 + u.1 * v.2 = _
  grind
theorem crs_lft {u v : Vc} : vcrs (vlft u) v = - vdot u v := by
  unfold vdot vcrs vlft
  show (0 - u.2) * v.2 - u.1 * v.1 = _
  grind
theorem un_eq {u v : Vc} (hu : Un u) (hv : Un v) (hc : vcrs u v = 0) (hd : 0 < vdot u v) : u = v := by
  have h1 := un_id hu hv
  rw [hc] at h1
  have h2 : (vdot u v - 1) * (vdot u v + 1) = 0 := by grind
  have h3 : vdot u v = 1 := by
    rcases Rat.mul_eq_zero.mp h2 with h | h
    · grind
    · grind
  unfold Un vdot vcrs at *
  have e1 : u.1 = v.1 := by
    have : u.1 = (u.1 * v.1 + u.2 * v.2) * v.1 - (u.2 * v.1 - u.1 * v.2) * v.2 - (v.1 * v.1 + v.2 * v.2 - 1) * u.1 := by grind
    rw [this, h3]
    grind
  have e2 : u.2 = v.2 := by
    have : u.2 = (u.1 * v.1 + u.2 * v.2) * v.2 - (u.1 * v.2 - u.2 * v.1) * v.1 - (v.1 * v.1 + v.2 * v.2 - 1) * u.2 := by grind
    rw [this, h3]
    grind
  exact Prod.ext e1 e2
theorem stp_of {u v : Vc} (hu : Un u) (hv : Un v) (h1 : 0 < vdot u v) (h2 : 0 ≤ vcrs u v) : Stp v u := by
  by_cases h : vcrs u v = 0
  · exact .inl (un_eq hu hv h h1)
  · exact .inr ⟨by grind, h1⟩
theorem qv_un {one other : Vc} (h : Un one) : ∀ j, Un (qv one other j)
  | 0 => h
  | j + 1 => by
    unfold qv
    split
    · exact qv_un h j
    · exact (qv_un h j).lft
theorem qv_sz {one other : Vc} {a : Nat} (h : SzV a one) : ∀ j, SzV a (qv one other j)
  | 0 => h
  | j + 1 => by
    unfold qv
    split
    · exact qv_sz h j
    · exact (qv_sz h j).lft
theorem qv_stay {one other : Vc} {n : Nat} {j : Nat} (h : Stp other (qv one other j)) : ∀ k, Stp other (qv one other (j + k)) ∧ qv one other (j + k) = qv one other j ∧ qf one other n (j + k) = qf one other n j
  | 0 => ⟨h, rfl, rfl⟩
  | k + 1 => by
    obtain ⟨h1, h2, h3⟩ := qv_stay (n := n) h k
    have e1 : qv one other (j + (k + 1)) = qv one other (j + k) := by
      show (if Stp other (qv one other (j + k)) then _ else _) = _
      rw [if_pos h1]; rfl
    have e2 : qf one other n (j + (k + 1)) = qf one other n (j + k) := by
      show (if Stp other (qv one other (j + k)) then _ else _) = _
      rw [if_pos h1]; rfl
    exact ⟨by rw [e1]; exact h1, by rw [e1, h2], by rw [e2, h3]⟩
theorem qv_stop {one other : Vc} (h1 : Un one) (h2 : Un other) : Stp other (qv one other 4) := by
  have key : ∀ u, Un u → Stp other u ∨ Stp other (vlft u) ∨ Stp other (vlft (vlft u)) ∨ Stp other (vlft (vlft (vlft u))) := by
    intro u hu
    have id := un_id hu h2
    have a1 := hu.lft
    have a2 := a1.lft
    have a3 := a2.lft
    have d1 := dot_lft (u := u) (v := other)
    have c1 := crs_lft (u := u) (v := other)
    have d2 : vdot (vlft (vlft u)) other = - vdot u other := by rw [dot_lft, crs_lft]
    have c2 : vcrs (vlft (vlft u)) other = - vcrs u other := by rw [crs_lft, dot_lft]
    have d3 : vdot (vlft (vlft (vlft u))) other = - vcrs u other := by rw [dot_lft, c2]
    have c3 : vcrs (vlft (vlft (vlft u))) other = vdot u other := by rw [crs_lft, d2]; grind
    by_cases p1 : 0 < vdot u other ∧ 0 ≤ vcrs u other
    · exact .inl (stp_of hu h2 p1.1 p1.2)
    · by_cases p2 : 0 < vcrs u other
      · refine .inr (.inl (stp_of a1 h2 (by rw [d1]; exact p2) ?_))
        rw [c1]
        have : ¬ 0 < vdot u other := fun z => p1 ⟨z, by grind⟩
        grind
      · by_cases p3 : vdot u other < 0
        · refine .inr (.inr (.inl (stp_of a2 h2 (by rw [d2]; grind) (by rw [c2]; grind))))
        · have hc : vcrs u other < 0 := by
            by_cases z : vcrs u other = 0
            · rw [z] at id
              have hd : vdot u other = 0 ∨ 0 < vdot u other := by grind
              rcases hd with hd | hd
              · rw [hd] at id; grind
              · exact absurd ⟨hd, by grind⟩ p1
            · grind
          exact .inr (.inr (.inr (stp_of a3 h2 (by rw [d3]; grind) (by rw [c3]; grind))))
  by_cases s0 : Stp other (qv one other 0)
  · exact (qv_stay (n := 1) s0 4).1
  by_cases s1 : Stp other (qv one other 1)
  · exact (qv_stay (n := 1) s1 3).1
  by_cases s2 : Stp other (qv one other 2)
  · exact (qv_stay (n := 1) s2 2).1
  by_cases s3 : Stp other (qv one other 3)
  · exact (qv_stay (n := 1) s3 1).1
  have e1 : qv one other 1 = vlft one := by
    show (if Stp other (qv one other 0) then _ else _) = _
    rw [if_neg s0]; rfl
  have e2 : qv one other 2 = vlft (vlft one) := by
    show (if Stp other (qv one other 1) then _ else _) = _
    rw [if_neg s1, e1]
  have e3 : qv one other 3 = vlft (vlft (vlft one)) := by
    show (if Stp other (qv one other 2) then _ else _) = _
    rw [if_neg s2, e2]
  rw [e3] at s3
  rw [e2] at s2
  rw [e1] at s1
  rcases key one h1 with h | h | h | h
  · exact absurd h s0
  · exact absurd h s1
  · exact absurd h s2
  · exact absurd h s3
theorem tb_one : tb 1 = (0, 1) := by
  unfold tb
  exact Prod.ext (by show ((1 : Rat) - 1 * 1) / (1 + 1 * 1) = 0; grind) (by show ((1 : Rat) + 1) / (1 + 1 * 1) = 1; grind)
theorem prt_n {h : Rat} {n : Nat} (hn : 0 < n) : prt h n n = h := by
  have : ((n : Int) : Rat) ≠ 0 := fun e => by
    have := Rat.intCast_inj.mp (show ((n : Int) : Rat) = ((0 : Int) : Rat) from e)
    omega
  unfold prt
  grind
theorem rot_q {u : Vc} : rot u (0, 1) = vlft u := Prod.ext (by show u.1 * 0 - u.2 * 1 = 0 - u.2; grind) (by show u.1 * 1 + u.2 * 0 = u.1; grind)
theorem steps_last {u : Vc} {h : Rat} {n : Nat} (hn : 0 < n) (xs : List Vc) : (xs ++ stepsL u h n).getLast? = some (rot u (tb h)) := by
  unfold stepsL
  obtain ⟨m, rfl⟩ : ∃ m, n = m + 1 := ⟨n - 1, by omega⟩
  rw [List.range_succ, List.map_append, ← List.append_assoc]
  rw [List.map_singleton, List.getLast?_concat, prt_n hn]
theorem qf_last {one other : Vc} {n : Nat} (hn : 0 < n) : ∀ j, (qf one other n j).getLast? = some (qv one other j)
  | 0 => rfl
  | j + 1 => by
    show (if Stp other (qv one other j) then qf one other n j else qf one other n j ++ stepsL (qv one other j) 1 n).getLast? = some (if Stp other (qv one other j) then qv one other j else vlft (qv one other j))
    split
    · exact qf_last hn j
    · rw [steps_last hn, tb_one, rot_q]
theorem vlast {L : Sto} {R : PK} {p : Addr} {xs : List Vc} {v : Vc} (e : L p = some (.l (xs.map vc))) (h : xs.getLast? = some v) : oIx (.ref p) (.int (-1)) L R = R (vc v) L := by
  unfold oIx
  have hx : xs ≠ [] := fun z => by rw [z] at h; cases h
  have h1 : xs.map vc = (xs.map vc).dropLast ++ [vc v] := by
    have h2 : xs = xs.dropLast ++ [v] := by
      have := List.dropLast_concat_getLast hx
      rw [List.getLast?_eq_some_getLast hx] at h
      cases h
      exact this.symm
    conv => lhs; rw [h2]
    rw [List.map_append, ← List.map_dropLast]; rfl
  have h3 : atI (xs.map vc) (-1) = some (vc v) := by rw [h1]; exact atI_last _ _
  simp only [e, h3]
theorem qf_len {one other : Vc} {n : Nat} : ∀ j, (qf one other n j).length ≤ 1 + j * n
  | 0 => by show 1 ≤ _; omega
  | j + 1 => by
    have ih := qf_len (one := one) (other := other) (n := n) j
    rw [Nat.succ_mul]
    unfold qf
    split
    · omega
    · rw [List.length_append]
      unfold stepsL
      rw [List.length_map, List.length_range]
      omega
theorem SzV.prtQ {a b : Nat} {u v : Vc} (hu : SzV a u) (hv : SzV b v) (h : 1 + vdot u v ≠ 0) : Sz (a + b + (a + b) + 1 + (1 + (a + b + (a + b) + 1) + 1)) (prtQ u v) := (hu.crs hv).div ((sz1 (Nat.le_refl 1)).add (hu.dot hv)) h
theorem dot_ne {u v : Vc} (hs : Stp v u) (hn : u ≠ v) : 1 + vdot u v ≠ 0 := by
  rcases hs with h | h
  · exact absurd h hn
  · have := h.2
    grind
def s_quarters_between : Spec := fun args L R => ∃ (u v : Vc) (n a b : Nat), args = [vc u, vc v, .int n] ∧ Un u ∧ Un v ∧ SzV a u ∧ SzV b v ∧ a + b ≤ 200 ∧ 0 < n ∧ n < 1024 ∧ Fresh L R ((qres u v n).map vc)
def d_quarters_between_3 : WS := sRet (wVar 3)
def d_quarters_between_2a_2 : WS := sExpr (wMt "list" mExtend (wVar 3) [wCall s_steps_on [wVar 4, wVar 5, wVar 2]])
def d_quarters_between_2a_1 : WS := sSeq (sAsg (gN 5) (wCall s_over [wCall s_cross [wVar 4, wVar 1], wCall s_added [wC (.tup [.int 1, .int 1]), wCall s_dot [wVar 4, wVar 1]]])) d_quarters_between_2a_2
def d_quarters_between_2a_0 : WS := sSeq (sAsg (gN 4) (wBin oIx (wVar 3) (wC (.int (-1))))) d_quarters_between_2a_1
def d_quarters_between_2 : WS := sSeq (sIf (wBin oNe (wBin oIx (wVar 3) (wC (.int (-1)))) (wVar 1)) d_quarters_between_2a_0 sNil) d_quarters_between_3
def d_quarters_between_1w_0 : WS := sExpr (wMt "list" mExtend (wVar 3) [wCall s_steps_on [wBin oIx (wVar 3) (wC (.int (-1))), wC (.tup [.int 1, .int 1]), wVar 2]])
def d_quarters_between_1 : WS := sSeq (sWhile (wAnd (wBin oNe (wBin oIx (wVar 3) (wC (.int (-1)))) (wVar 1)) (wUn oNot (wCall s_is_in_quarter [wBin oIx (wVar 3) (wC (.int (-1))), wVar 1]))) d_quarters_between_1w_0) d_quarters_between_2
def d_quarters_between_0 : WS := sSeq (sAsg (gN 3) (wLst [wVar 0])) d_quarters_between_1
theorem mext {L : Sto} {R : PK} {p q : Addr} {xs ys : List PV} (e : L p = some (.l xs)) (f : L q = some (.l ys)) (h : xs.length + ys.length ≤ sizeLine ∧ R .non (put L p (.l (xs ++ ys)))) : mExtend (.ref p) [.ref q] L R := ⟨xs, ys, e, f, h⟩
theorem ok_quarters_between : ∀ args L R, args.length = 3 → s_quarters_between args L R → d_quarters_between_0 (initE 6 args) L { nx := fun _ L' => R .non L', rt := R } := by
  rintro _ L R _ ⟨u, v, n, a, b, rfl, hu, hv, su, sv, hab, hn0, hn, k⟩
  unfold d_quarters_between_0
  show sSeq _ _ [some (vc u), some (vc v), some (.int n), none, none, none] L _
  walk_at "ev104"
  intro p hp
  unfold d_quarters_between_1
  walk_at "ev104"
  refine ⟨fun m env l => ∃ j, env = [some (vc u), some (vc v), some (.int n), some (.ref p), none, none] ∧ j ≤ 4 ∧ m = 4 - j ∧ Le L l ∧ l p = some (.l ((qf u v n j).map vc)), ⟨4, 0, rfl, by omega, rfl, Le.new hp, put_same⟩, ?_⟩
  rintro m env l ⟨j, rfl, hj, rfl, hl, e⟩
  have sq := qv_sz (other := v) su j
  have szq := sq.mono (b := 900) (by omega)
  have szv := sv.mono (b := 900) (by omega)
  walk_at "ev104"
  rw [vlast e (qf_last hn0 j)]
  walk_at "ev104"
  -- the end of the walk
  have fin : Stp v (qv u v j) → d_quarters_between_2 [some (vc u), some (vc v), some (.int n), some (.ref p), none, none] l { nx := fun _ L' => R .non L', rt := R } := by
    intro hs
    have st := qv_stay (n := n) hs (4 - j)
    rw [show j + (4 - j) = 4 by omega] at st
    unfold d_quarters_between_2
    walk_at "ev104"
    rw [vlast e (qf_last hn0 j)]
    walk_at "ev104"
    by_cases hq : qv u v j = v
    · rw [if_pos hq]
      unfold d_quarters_between_3
      walk_at "ev104"
      refine k p l hp hl ?_
      rw [e]
      unfold qres
      rw [if_pos (by rw [st.2.1]; exact hq), st.2.2]
    · rw [if_neg hq]
      unfold d_quarters_between_2a_0
      walk_at "ev104"
      rw [vlast e (qf_last hn0 j)]
      walk_at "ev104"
      unfold d_quarters_between_2a_1
      walk_at "ev104"
      rw [fr_one]
      have hne := dot_ne hs hq
      refine ⟨_, _, rfl, szq.mono (by decide), szv.mono (by decide), _, _, rfl, szq.mono (by decide), szv.mono (by decide), ?_⟩
      have sc := (sq.crs sv)
      have sd := (sq.dot sv)
      have s1 := sz1 (Nat.le_refl 1)
      refine ⟨_, _, rfl, s1.B (by decide), sd.B (by omega), _, _, rfl, hne, sc.B (by omega), (s1.add sd).B (by omega), ?_⟩
      unfold d_quarters_between_2a_2
      walk_at "ev104"
      refine ⟨.inl ⟨rfl, _, e⟩, ?_⟩
      refine ⟨_, _, _, _, _, rfl, sq, SzV.prtQ sq sv hne, hn0, hn, by omega, by omega, ?_⟩
      intro q l2 hq2 hl2 e2
      refine mext (hl2 _ _ e) e2 ⟨?_, ?_⟩
      · rw [List.length_map, List.length_map]
        have := qf_len (one := u) (other := v) (n := n) j
        unfold stepsL
        rw [List.length_map, List.length_range]
        have : j * n ≤ 4 * n := Nat.mul_le_mul_right n hj
        show _ ≤ 16777216
        omega
      · unfold d_quarters_between_3
        walk_at "ev104"
        refine k p _ hp ((hl.trans hl2).put hp) ?_
        rw [put_same, ← List.map_append]
        unfold qres
        rw [if_neg (by rw [st.2.1]; exact hq), st.2.2, st.2.1]
        rfl
  by_cases hq : qv u v j = v
  · rw [if_pos hq]
    exact fin (.inl hq)
  · rw [if_neg hq, vlast e (qf_last hn0 j)]
    refine ⟨_, _, rfl, szq, szv, ?_⟩
    walk_at "ev104"
    by_cases hi : InQ (qv u v j) v
    · rw [if_pos hi]
      exact fin (.inr hi)
    · rw [if_neg hi]
      have hns : ¬ Stp v (qv u v j) := fun z => z.elim hq hi
      have hj4 : j < 4 := by
        rcases Nat.lt_or_ge j 4 with h | h
        · exact h
        · have : j = 4 := by omega
          subst this
          exact absurd (qv_stop hu hv) hns
      unfold d_quarters_between_1w_0
      walk_at "ev104"
      refine ⟨.inl ⟨rfl, _, e⟩, ?_⟩
      rw [vlast e (qf_last hn0 j)]
      rw [fr_one]
      refine ⟨_, _, _, _, _, rfl, sq, sz1 (Nat.le_refl 1), hn0, hn, by omega, by omega, ?_⟩
      intro q l2 hq2 hl2 e2
      refine mext (hl2 _ _ e) e2 ⟨?_, ?_⟩
      · rw [List.length_map, List.length_map]
        have := qf_len (one := u) (other := v) (n := n) j
        unfold stepsL
        rw [List.length_map, List.length_range]
        have : j * n ≤ 4 * n := Nat.mul_le_mul_right n hj
        show _ ≤ 16777216
        omega
      · refine ⟨4 - (j + 1), by omega, j + 1, by omega, rfl, (hl.trans hl2).put hp, ?_⟩
        rw [put_same, ← List.map_append]
        conv => rhs; unfold qf
        rw [if_neg hns]
end
section
open PySem PySem.Spec PyProof.Rows L2
def Nxt (u v : Vc) : Prop := Un v ∧ 0 < vcrs u v ∧ 0 ≤ vdot u v
def Chn (r : Vc → Vc → Prop) : Vc → List Vc → Prop
  | _, [] => True
  | u, v :: t => r u v ∧ Chn r v t
theorem Chn.app {r : Vc → Vc → Prop} : ∀ {xs : List Vc} {u w : Vc} {ys : List Vc}, Chn r u xs → (u :: xs).getLast? = some w → Chn r w ys → Chn r u (xs ++ ys)
  | [], u, w, ys, _, e, k => by cases e; exact k
  | x :: xs, u, w, ys, h, e, k => ⟨h.1, Chn.app (xs := xs) h.2 (by rw [List.getLast?_cons_cons] at e; exact e) k⟩
theorem Chn.get {r : Vc → Vc → Prop} : ∀ {t : List Vc} {u x y : Vc} {i : Nat}, Chn r u t → (u :: t)[i]? = some x → t[i]? = some y → r x y
  | v :: t, u, x, y, 0, h, e, f => by cases e; cases f; exact h.1
  | v :: t, u, x, y, i + 1, h, e, f => Chn.get (t := t) h.2 (by simpa using e) (by simpa using f)
  | [], _, _, _, _, _, _, f => by simp at f
theorem rot_un {u b : Vc} (hu : Un u) (hb : Un b) : Un (rot u b) := by
  unfold Un rot at *
  have : (u.1 * b.1 - u.2 * b.2) * (u.1 * b.1 - u.2 * b.2) + (u.1 * b.2 + u.2 * b.1) * (u.1 * b.2 + u.2 * b.1) = (u.1 * u.1 + u.2 * u.2) * (b.1 * b.1 + b.2 * b.2) := by grind
  show (u.1 * b.1 - u.2 * b.2) * (u.1 * b.1 - u.2 * b.2) + (u.1 * b.2 + u.2 * b.1) * (u.1 * b.2 + u.2 * b.1) = 1
  rw [this, hu, hb]
  grind
theorem tb_un (h : Rat) : Un (tb h) := by
  have k := one_sq h
  unfold Un tb
  show (1 - h * h) / (1 + h * h) * ((1 - h * h) / (1 + h * h)) + (h + h) / (1 + h * h) * ((h + h) / (1 + h * h)) = 1
  grind
theorem rot_crs {u a b : Vc} (hu : Un u) : vcrs (rot u a) (rot u b) = vcrs a b := by
  unfold Un rot vcrs at *
  show (u.1 * a.1 - u.2 * a.2) * (u.1 * b.2 + u.2 * b.1) - (u.1 * a.2 + u.2 * a.1) * (u.1 * b.1 - u.2 * b.2) = a.1 * b.2 - a.2 * b.1
  have : (u.1 * a.1 - u.2 * a.2) * (u.1 * b.2 + u.2 * b.1) - (u.1 * a.2 + u.2 * a.1) * (u.1 * b.1 - u.2 * b.2) = (u.1 * u.1 + u.2 * u.2) * (a.1 * b.2 - a.2 * b.1) := by grind
  rw [this, hu]
  grind
theorem rot_dot {u a b : Vc} (hu : Un u) : vdot (rot u a) (rot u b) = vdot a b := by
  unfold Un rot vdot at *
  show (u.1 * a.1 - u.2 * a.2) * (u.1 * b.1 - u.2 * b.2) + (u.1 * a.2 + u.2 * a.1) * (u.1 * b.2 + u.2 * b.1) = a.1 * b.1 + a.2 * b.2
  have : (u.1 * a.1 - u.2 * a.2) * (u.1 * b.1 - u.2 * b.2) + (u.1 * a.2 + u.2 * a.1) * (u.1 * b.2 + u.2 * b.1) = (u.1 * u.1 + u.2 * u.2) * (a.1 * b.1 + a.2 * b.2) := by grind
  rw [this, hu]
  grind
theorem div_pos {x y : Rat} (h : 0 < x) (k : 0 < y) : 0 < x / y := by
  rw [Rat.div_def]
  exact Rat.mul_pos h (Rat.inv_pos.mpr k)
theorem div_nn {x y : Rat} (h : 0 ≤ x) (k : 0 < y) : 0 ≤ x / y := by
  rw [Rat.div_def]
  exact Rat.mul_nonneg h (Rat.le_of_lt (Rat.inv_pos.mpr k))
theorem pos_sq (h : Rat) : 0 < 1 + h * h := by
  have := sq_nn h
  grind
theorem div2 {x y A B : Rat} (hA : A ≠ 0) (hB : B ≠ 0) : x / A * (y / B) = x * y / (A * B) := by
  rw [Rat.div_def, Rat.div_def, Rat.div_def, Rat.inv_mul_rev]
  grind
theorem div_s {x y C : Rat} : x / C - y / C = (x - y) / C := by
  rw [Rat.div_def, Rat.div_def, Rat.div_def]; grind
theorem div_a {x y C : Rat} : x / C + y / C = (x + y) / C := by
  rw [Rat.div_def, Rat.div_def, Rat.div_def]; grind
theorem tb_crs {a b : Rat} (h0 : 0 ≤ a) (h1 : a < b) : 0 < vcrs (tb a) (tb b) := by
  have ka := one_sq a
  have kb := one_sq b
  have : vcrs (tb a) (tb b) = 2 * ((b - a) * (1 + a * b)) / ((1 + a * a) * (1 + b * b)) := by
    unfold vcrs tb
    show (1 - a * a) / (1 + a * a) * ((b + b) / (1 + b * b)) - (a + a) / (1 + a * a) * ((1 - b * b) / (1 + b * b)) = _
    rw [div2 ka kb, div2 ka kb, div_s]
    congr 1
    grind
  rw [this]
  refine div_pos ?_ (Rat.mul_pos (pos_sq a) (pos_sq b))
  have hb : 0 ≤ b := by grind
  have := Rat.mul_nonneg h0 hb
  have h2 : 0 < (b - a) * (1 + a * b) := Rat.mul_pos (by grind) (by grind)
  grind
theorem tb_dot {a b : Rat} (h0 : 0 ≤ a) (h1 : a ≤ b) (h2 : b ≤ 1) : 0 ≤ vdot (tb a) (tb b) := by
  have ka := one_sq a
  have kb := one_sq b
  have : vdot (tb a) (tb b) = ((1 - a * a) * (1 - b * b) + 4 * (a * b)) / ((1 + a * a) * (1 + b * b)) := by
    unfold vdot tb
    show (1 - a * a) / (1 + a * a) * ((1 - b * b) / (1 + b * b)) + (a + a) / (1 + a * a) * ((b + b) / (1 + b * b)) = _
    rw [div2 ka kb, div2 ka kb, div_a]
    congr 1
    grind
  rw [this]
  refine div_nn ?_ (Rat.mul_pos (pos_sq a) (pos_sq b))
  have hb : 0 ≤ b := by grind
  have q1 := Rat.mul_nonneg h0 hb
  have q2 : 0 ≤ (1 - a) * (1 + a) := Rat.mul_nonneg (by grind) (by grind)
  have q3 : 0 ≤ (1 - b) * (1 + b) := Rat.mul_nonneg (by grind) (by grind)
  have q4 := Rat.mul_nonneg q2 q3
  have e : (1 - a * a) * (1 - b * b) = (1 - a) * (1 + a) * ((1 - b) * (1 + b)) := by grind
  rw [e]
  grind
theorem natRat_pos {n : Nat} (h : 0 < n) : (0 : Rat) < ((n : Int) : Rat) := by
  have := Rat.intCast_lt_intCast.mpr (show (0 : Int) < (n : Int) by omega)
  exact this
theorem prt_lt {h : Rat} {n k : Nat} (hh : 0 < h) (hn : 0 < n) : prt h n k < prt h n (k + 1) := by
  have hp := natRat_pos hn
  have e : prt h n (k + 1) - prt h n k = h / ((n : Int) : Rat) := by
    unfold prt
    have : (((k + 1 : Nat) : Int) : Rat) = ((k : Int) : Rat) + 1 := by
      rw [show ((k + 1 : Nat) : Int) = (k : Int) + 1 by omega, Rat.intCast_add]; rfl
    rw [this]
    grind
  have := div_pos hh hp
  grind
theorem prt_zero {h : Rat} {n : Nat} : prt h n 0 = 0 := by
  unfold prt
  rw [show (((0 : Nat) : Int) : Rat) = 0 from rfl, Rat.div_def]
  grind
theorem prt_nn {h : Rat} {n : Nat} (hh : 0 < h) (hn : 0 < n) : ∀ k, 0 ≤ prt h n k
  | 0 => by rw [prt_zero]; exact Rat.le_refl
  | k + 1 => by
    have := prt_nn hh hn k
    have := prt_lt (k := k) hh hn
    grind
theorem prt_le {h : Rat} {n : Nat} (hh : 0 < h) (hn : 0 < n) : ∀ d k, k + d = n → prt h n k ≤ h
  | 0, k, e => by
    rw [show k = n by omega, prt_n hn]; exact Rat.le_refl
  | d + 1, k, e => by
    have := prt_le hh hn d (k + 1) (by omega)
    have := prt_lt (k := k) hh hn
    grind
theorem tb_zero : tb 0 = (1, 0) := by
  unfold tb
  exact Prod.ext (by show ((1 : Rat) - 0 * 0) / (1 + 0 * 0) = 1; grind) (by show ((0 : Rat) + 0) / (1 + 0 * 0) = 0; grind)
theorem rot_id {u : Vc} : rot u (1, 0) = u := Prod.ext (by show u.1 * 1 - u.2 * 0 = u.1; grind) (by show u.1 * 0 + u.2 * 1 = u.2; grind)
theorem chn_range {r : Vc → Vc → Prop} {f : Nat → Vc} (n : Nat) (h : ∀ k, k < n → r (f k) (f (k + 1))) : ∀ m, m ≤ n → Chn r (f 0) ((List.range m).map fun k => f (k + 1)) ∧ (f 0 :: (List.range m).map fun k => f (k + 1)).getLast? = some (f m)
  | 0, _ => ⟨trivial, rfl⟩
  | m + 1, hm => by
    obtain ⟨h1, h2⟩ := chn_range n h m (by omega)
    rw [List.range_succ, List.map_append]
    refine ⟨h1.app h2 ⟨h m (by omega), trivial⟩, ?_⟩
    rw [List.map_singleton, ← List.cons_append, List.getLast?_concat]
theorem steps_chn {u : Vc} {h : Rat} {n : Nat} (hu : Un u) (hh : 0 < h) (h1 : h ≤ 1) (hn : 0 < n) : Chn Nxt u (stepsL u h n) := by
  have e0 : rot u (tb (prt h n 0)) = u := by rw [prt_zero, tb_zero, rot_id]
  have := (chn_range (r := Nxt) (f := fun k => rot u (tb (prt h n k))) n (fun k hk => ⟨rot_un hu (tb_un _), by
    show 0 < vcrs (rot u (tb (prt h n k))) (rot u (tb (prt h n (k + 1))))
    rw [rot_crs hu]
    exact tb_crs (prt_nn hh hn k) (prt_lt hh hn), by
    show 0 ≤ vdot (rot u (tb (prt h n k))) (rot u (tb (prt h n (k + 1))))
    rw [rot_dot hu]
    exact tb_dot (prt_nn hh hn k) (Rat.le_of_lt (prt_lt hh hn)) (Rat.le_trans (prt_le hh hn (n - (k + 1)) (k + 1) (by omega)) h1)⟩) n (Nat.le_refl n)).1
  rw [e0] at this
  exact this
theorem q_part {u v : Vc} (hu : Un u) (hv : Un v) (hi : InQ u v) : 0 < prtQ u v ∧ prtQ u v ≤ 1 ∧ rot u (tb (prtQ u v)) = v := by
  obtain ⟨hc, hd⟩ := hi
  have id := un_id hu hv
  unfold prtQ
  have e1 : u.1 * vdot u v - u.2 * vcrs u v = v.1 := by
    unfold vdot vcrs
    have : u.1 * (u.1 * v.1 + u.2 * v.2) - u.2 * (u.1 * v.2 - u.2 * v.1) = (u.1 * u.1 + u.2 * u.2) * v.1 := by grind
    rw [this, hu]
    grind
  have e2 : u.1 * vcrs u v + u.2 * vdot u v = v.2 := by
    unfold vdot vcrs
    have : u.1 * (u.1 * v.2 - u.2 * v.1) + u.2 * (u.1 * v.1 + u.2 * v.2) = (u.1 * u.1 + u.2 * u.2) * v.2 := by grind
    rw [this, hu]
    grind
  generalize vdot u v = c at *
  generalize vcrs u v = s at *
  have hc1 : 0 < 1 + c := by grind
  have hle : s ≤ 1 + c := by
    rcases Rat.le_total (a := s) (b := 1 + c) with h | h
    · exact h
    · have h1 : 0 ≤ (s - (1 + c)) * (s + (1 + c)) := Rat.mul_nonneg (by grind) (by grind)
      have h2 : 0 < c * (1 + c) := Rat.mul_pos hd hc1
      have h3 : (s - (1 + c)) * (s + (1 + c)) = (c * c + s * s - 1) - 2 * (c * (1 + c)) := by grind
      rw [h3, id] at h1
      grind
  refine ⟨div_pos hc hc1, ?_, ?_⟩
  · have h3 : 0 ≤ ((1 + c) - s) / (1 + c) := div_nn (by grind) hc1
    have h4 : ((1 + c) - s) / (1 + c) = 1 - s / (1 + c) := by grind
    rw [h4] at h3
    grind
  · have ne : 1 + c ≠ 0 := by grind
    have k := one_sq (s / (1 + c))
    have t1 : (1 - s / (1 + c) * (s / (1 + c))) / (1 + s / (1 + c) * (s / (1 + c))) = c := by
      have m : 1 - s / (1 + c) * (s / (1 + c)) = c * (1 + s / (1 + c) * (s / (1 + c))) := by
        have : s * s = (1 - c) * (1 + c) := by grind
        grind
      rw [m]
      grind
    have t2 : (s / (1 + c) + s / (1 + c)) / (1 + s / (1 + c) * (s / (1 + c))) = s := by
      have m : s / (1 + c) + s / (1 + c) = s * (1 + s / (1 + c) * (s / (1 + c))) := by
        have : s * s = (1 - c) * (1 + c) := by grind
        grind
      rw [m]
      grind
    unfold rot tb
    rw [t1, t2]
    exact Prod.ext e1 e2
theorem qf_cons {one other : Vc} {n : Nat} (h1 : Un one) (hn : 0 < n) : ∀ j, ∃ t, qf one other n j = one :: t ∧ Chn Nxt one t
  | 0 => ⟨[], rfl, trivial⟩
  | j + 1 => by
    obtain ⟨t, e, h⟩ := qf_cons (other := other) h1 hn j
    show ∃ t, (if Stp other (qv one other j) then qf one other n j else qf one other n j ++ stepsL (qv one other j) 1 n) = one :: t ∧ _
    split
    · exact ⟨t, e, h⟩
    · refine ⟨t ++ stepsL (qv one other j) 1 n, by rw [e]; rfl, ?_⟩
      have hl := qf_last (one := one) (other := other) hn j
      rw [e] at hl
      exact h.app hl (steps_chn (qv_un h1 j) (by decide) Rat.le_refl hn)
theorem qres_ok {one other : Vc} {n : Nat} (h1 : Un one) (h2 : Un other) (hn : 0 < n) : ∃ t, qres one other n = one :: t ∧ Chn Nxt one t ∧ (qres one other n).getLast? = some other := by
  obtain ⟨t, e, h⟩ := qf_cons (other := other) h1 hn 4
  have hl := qf_last (one := one) (other := other) hn 4
  unfold qres
  by_cases hq : qv one other 4 = other
  · rw [if_pos hq]
    exact ⟨t, e, h, by rw [hl, hq]⟩
  · rw [if_neg hq]
    have hi : InQ (qv one other 4) other := (qv_stop h1 h2).elim (fun z => absurd z hq) id
    obtain ⟨p1, p2, p3⟩ := q_part (qv_un h1 4) h2 hi
    refine ⟨t ++ stepsL (qv one other 4) (prtQ (qv one other 4) other) n, by rw [e]; rfl, ?_, ?_⟩
    · rw [e] at hl
      exact h.app hl (steps_chn (qv_un h1 4) p1 p2 hn)
    · rw [steps_last hn, p3]
end
section
open PySem PySem.Spec PyProof.Rows L2
/-- the turn of three units -/
def D3 (a u v : Vc) : Rat := vcrs a u + vcrs u v + vcrs v a
def A1 (a u : Vc) : Rat := 1 - vdot a u
theorem d3_as {a u v : Vc} (ha : Un a) : D3 a u v = A1 a v * vcrs a u - A1 a u * vcrs a v := by
  unfold D3 A1 vcrs vdot Un at *
  grind
theorem d3_trans {a u v w : Vc} (ha : Un a) : D3 a u v * A1 a w + D3 a v w * A1 a u = D3 a u w * A1 a v := by
  rw [d3_as ha, d3_as ha, d3_as ha]
  grind
theorem d3_vdm {a u v w : Vc} (ha : Un a) (hu : Un u) (hv : Un v) (hw : Un w) : D3 a u v * D3 a v w * D3 a u w = 2 * (A1 a u * A1 a v * A1 a w) * D3 u v w := by
  unfold D3 A1 vcrs vdot Un at *
  grind
theorem rat_tri (a b : Rat) : a < b ∨ a = b ∨ b < a := by
  rcases Rat.le_total (a := a) (b := b) with q | q
  · by_cases h : a = b
    · exact .inr (.inl h)
    · exact .inl (by grind)
  · by_cases h : a = b
    · exact .inr (.inl h)
    · exact .inr (.inr (by grind))
theorem pos_of_mul {x y : Rat} (h : 0 < x * y) (k : 0 < y) : 0 < x := by
  rcases rat_tri x 0 with q | q | q
  · have := Rat.mul_pos (show 0 < -x by grind) k
    grind
  · rw [q] at h; grind
  · exact q
theorem a1_nn {u v : Vc} (hu : Un u) (hv : Un v) : 0 ≤ A1 u v := by
  have h := un_id hu hv
  unfold A1
  have := sq_nn (vcrs u v)
  rcases Rat.le_total (a := vdot u v) (b := 1) with q | q
  · grind
  · have : 0 ≤ (vdot u v - 1) * (vdot u v + 1) := Rat.mul_nonneg (by grind) (by grind)
    have : vdot u v * vdot u v = 1 := by grind
    have : 0 ≤ (vdot u v - 1) * vdot u v := Rat.mul_nonneg (by grind) (by grind)
    grind
theorem un_inj {a u v : Vc} (ha : Un a) (hd : vdot a u = vdot a v) (hc : vcrs a u = vcrs a v) : u = v := by
  unfold Un vdot vcrs at *
  exact Prod.ext (by grind) (by grind)
theorem a1_zero {u v : Vc} (hu : Un u) (hv : Un v) : A1 u v = 0 ↔ v = u := by
  refine ⟨fun h => ?_, fun h => ?_⟩
  · have hd : vdot u v = 1 := by unfold A1 at h; grind
    have h2 := un_id hu hv
    have hc : vcrs u v = 0 := by
      rw [hd] at h2
      have : vcrs u v * vcrs u v = 0 := by grind
      rcases Rat.mul_eq_zero.mp this with q | q <;> exact q
    refine un_inj hu (by rw [hd]; exact hu.symm) (by rw [hc]; unfold vcrs; grind)
  · subst h
    unfold A1
    have : vdot v v = 1 := hu
    grind
theorem a1_pos {u v : Vc} (hu : Un u) (hv : Un v) (h : v ≠ u) : 0 < A1 u v := by
  have h1 := a1_nn hu hv
  have h2 : A1 u v ≠ 0 := fun z => h ((a1_zero hu hv).mp z)
  grind
/-- met ahead, going to the left from a -/
def Bf (a u v : Vc) : Prop := (u = a ∧ v ≠ a) ∨ 0 < D3 a u v
theorem d3_r {a u : Vc} : D3 a u a = 0 := by unfold D3 vcrs; grind
theorem d3_m {a u : Vc} : D3 a u u = 0 := by unfold D3 vcrs; grind
theorem d3_cyc {a u v : Vc} : D3 a u v = D3 u v a := by unfold D3; grind
theorem d3_neg {a u v : Vc} : D3 a v u = - D3 a u v := by unfold D3 vcrs; grind
theorem Bf.ne_r {a u v : Vc} (h : Bf a u v) : v ≠ a := by
  rcases h with h | h
  · exact h.2
  · intro e; subst e; rw [d3_r] at h; grind
theorem Bf.irr {a u : Vc} (h : Bf a u u) : False := by
  rcases h with h | h
  · exact h.2 h.1
  · rw [d3_m] at h; grind
theorem Bf.trans {a u v w : Vc} (ha : Un a) (hu : Un u) (hv : Un v) (hw : Un w) (h : Bf a u v) (k : Bf a v w) : Bf a u w := by
  have hva := h.ne_r
  have hwa := k.ne_r
  rcases h with h | h
  · exact .inl ⟨h.1, hwa⟩
  · rcases k with k | k
    · exact absurd k.1 hva
    · by_cases hua : u = a
      · exact .inl ⟨hua, hwa⟩
      · refine .inr ?_
        have e := d3_trans (u := u) (v := v) (w := w) ha
        have p1 := Rat.mul_pos h (a1_pos ha hw hwa)
        have p2 := Rat.mul_pos k (a1_pos ha hu hua)
        exact pos_of_mul (y := A1 a v) (by grind) (a1_pos ha hv hva)
theorem Bf.asym {a u v : Vc} (ha : Un a) (hu : Un u) (hv : Un v) (h : Bf a u v) (k : Bf a v u) : False := (h.trans ha hu hv hu k).irr
theorem Bf.tri {a u v : Vc} (ha : Un a) (hu : Un u) (hv : Un v) (h : u ≠ v) : Bf a u v ∨ Bf a v u := by
  by_cases h1 : u = a
  · exact .inl (.inl ⟨h1, fun z => h (h1.trans z.symm)⟩)
  by_cases h2 : v = a
  · exact .inr (.inl ⟨h2, h1⟩)
  have hz : D3 a u v ≠ 0 := by
    intro z
    have p1 := a1_pos ha hu h1
    have p2 := a1_pos ha hv h2
    have i1 := un_id ha hu
    have i2 := un_id ha hv
    rw [d3_as ha] at z
    -- the same share
    have e1 : A1 a u = A1 a v := by
      unfold A1 at *
      generalize vdot a u = c at *
      generalize vdot a v = d at *
      generalize vcrs a u = s at *
      generalize vcrs a v = t at *
      have q1 : s * s = (1 - c) * (1 + c) := by grind
      have q2 : t * t = (1 - d) * (1 + d) := by grind
      have q3 : (1 - d) * (1 - d) * (s * s) = (1 - c) * (1 - c) * (t * t) := by grind
      rw [q1, q2] at q3
      have q4 : (1 - c) * (1 - d) * ((1 - d) * (1 + c) - (1 - c) * (1 + d)) = 0 := by grind
      have q5 := Rat.mul_pos p1 p2
      rcases Rat.mul_eq_zero.mp q4 with q | q
      · grind
      · grind
    refine h (un_inj ha (by unfold A1 at e1; grind) ?_)
    rw [e1] at z
    have : A1 a v * (vcrs a u - vcrs a v) = 0 := by grind
    rcases Rat.mul_eq_zero.mp this with q | q
    · grind
    · grind
  rcases rat_tri (D3 a u v) 0 with q | q | q
  · exact .inr (.inr (by rw [d3_neg]; grind))
  · exact absurd q hz
  · exact .inl (.inr q)
/-- in which half, from a first one -/
def hf (a u : Vc) : Nat := if 0 < vcrs a u then 1 else if vcrs a u < 0 then 3 else if u = a then 0 else 2
def Ahd (a u v : Vc) : Prop := if hf a u = hf a v then 0 < vcrs u v else hf a u < hf a v
theorem crs_rel {a u v : Vc} (ha : Un a) : vcrs u v = vdot a u * vcrs a v - vcrs a u * vdot a v := by
  unfold Un vdot vcrs at *
  grind
theorem dot_rel {a u v : Vc} (ha : Un a) : vdot u v = vdot a u * vdot a v + vcrs a u * vcrs a v := by
  unfold Un vdot vcrs at *
  grind
theorem crs_zero {a u : Vc} (ha : Un a) (hu : Un u) (h : vcrs a u = 0) (n : u ≠ a) : vdot a u = -1 := by
  have i := un_id ha hu
  rw [h] at i
  have p := a1_pos ha hu n
  unfold A1 at p
  have : (vdot a u - 1) * (vdot a u + 1) = 0 := by grind
  rcases Rat.mul_eq_zero.mp this with q | q <;> grind
theorem d3_dot {a u v : Vc} (ha : Un a) (hu : Un u) (hv : Un v) : D3 a u v * (1 + vdot u v) = vcrs u v * (1 + vdot u v - vdot a u - vdot a v) := by
  unfold D3 vcrs vdot Un at *
  grind
theorem same_side {a u v : Vc} (ha : Un a) (hu : Un u) (hv : Un v) (h : 0 < vcrs a u * vcrs a v) : (0 < vcrs u v ↔ 0 < D3 a u v) := by
  have e := d3_dot ha hu hv
  have d := dot_rel (u := u) (v := v) ha
  have n1 : u ≠ a := by intro z; subst z; have : vcrs u u = 0 := by unfold vcrs; grind
                        rw [this] at h; grind
  have n2 : v ≠ a := by intro z; subst z; have : vcrs v v = 0 := by unfold vcrs; grind
                        rw [this] at h; grind
  have p1 := a1_pos ha hu n1
  have p2 := a1_pos ha hv n2
  have p3 := Rat.mul_pos p1 p2
  have q1 : 0 < 1 + vdot u v - vdot a u - vdot a v := by
    unfold A1 at p3
    grind
  have q2 : 0 < 1 + vdot u v := by
    have i := un_id hu hv
    have nn : 0 ≤ 1 + vdot u v := by
      rcases Rat.le_total (a := -1) (b := vdot u v) with q | q
      · grind
      · have : 0 ≤ (-1 - vdot u v) * (1 - vdot u v) := Rat.mul_nonneg (by grind) (by grind)
        have := sq_nn (vcrs u v)
        have : (vdot u v - 1) * (vdot u v + 1) = 0 := by grind
        rcases Rat.mul_eq_zero.mp this with q | q <;> grind
    rcases rat_tri 0 (1 + vdot u v) with q | q | q
    · exact q
    · exfalso
      have hd : vdot u v = -1 := by grind
      have hc : vcrs u v = 0 := by
        rw [hd] at i
        have : vcrs u v * vcrs u v = 0 := by grind
        rcases Rat.mul_eq_zero.mp this with q | q <;> exact q
      have : vcrs a v = - vcrs a u := by
        unfold Un vdot vcrs at *
        grind
      rw [this] at h
      have := sq_nn (vcrs a u)
      grind
    · grind
  constructor
  · intro k
    exact pos_of_mul (y := 1 + vdot u v) (by rw [e]; exact Rat.mul_pos k q1) q2
  · intro k
    exact pos_of_mul (y := 1 + vdot u v - vdot a u - vdot a v) (by rw [← e]; exact Rat.mul_pos k q2) q1
theorem neg_mul_pos {x y : Rat} (h : x < 0) (k : y < 0) : 0 < x * y := by
  have := Rat.mul_pos (show 0 < -x by grind) (show 0 < -y by grind)
  grind
theorem ahd_bf {a u v : Vc} (ha : Un a) (hu : Un u) (hv : Un v) : Ahd a u v ↔ Bf a u v := by
  have cs : ∀ w : Vc, Un w → (0 < vcrs a w ∧ hf a w = 1 ∧ w ≠ a ∧ 0 < A1 a w) ∨ (vcrs a w < 0 ∧ hf a w = 3 ∧ w ≠ a ∧ 0 < A1 a w) ∨ (w = a ∧ hf a w = 0) ∨ (vcrs a w = 0 ∧ hf a w = 2 ∧ w ≠ a ∧ A1 a w = 2) := by
    intro w hw
    have self : w = a → vcrs a w = 0 := by intro z; subst z; unfold vcrs; grind
    by_cases e : w = a
    · have := self e
      refine .inr (.inr (.inl ⟨e, ?_⟩))
      unfold hf
      rw [this, if_neg (by grind), if_neg (by grind), if_pos e]
    have p := a1_pos ha hw e
    rcases rat_tri (vcrs a w) 0 with q | q | q
    · refine .inr (.inl ⟨q, ?_, e, p⟩)
      unfold hf
      rw [if_neg (by grind), if_pos q]
    · refine .inr (.inr (.inr ⟨q, ?_, e, ?_⟩))
      · unfold hf
        rw [if_neg (by grind), if_neg (by grind), if_neg e]
      · unfold A1
        rw [crs_zero ha hw q e]
        grind
    · refine .inl ⟨q, ?_, e, p⟩
      unfold hf
      rw [if_pos q]
  have hd := d3_as (u := u) (v := v) ha
  have hc := crs_rel (u := u) (v := v) ha
  unfold Ahd Bf
  rcases cs u hu with ⟨q1, q2, q3, q4⟩ | ⟨q1, q2, q3, q4⟩ | ⟨q1, q2⟩ | ⟨q1, q2, q3, q4⟩ <;> rcases cs v hv with ⟨k1, k2, k3, k4⟩ | ⟨k1, k2, k3, k4⟩ | ⟨k1, k2⟩ | ⟨k1, k2, k3, k4⟩ <;> rw [q2, k2]
  · have := same_side ha hu hv (Rat.mul_pos q1 k1)
    simp [q3]; exact this
  · have := Rat.mul_pos k4 q1
    have := Rat.mul_pos q4 (show 0 < -vcrs a v by grind)
    simp [q3]; grind
  · subst k1; simp [q3, d3_r, Rat.lt_irrefl]
  · simp [q3]; rw [hd, k1, k4]; grind
  · have := Rat.mul_pos q4 k1
    have := Rat.mul_pos k4 (show 0 < -vcrs a u by grind)
    simp [q3]; grind
  · have := same_side ha hu hv (neg_mul_pos q1 k1)
    simp [q3]; exact this
  · subst k1; simp [q3, d3_r, Rat.lt_irrefl]
  · simp [q3]; rw [hd, k1, k4]; grind
  · simp [q1, k3]
  · simp [q1, k3]
  · subst q1 k1; simp [d3_r, Rat.lt_irrefl]; unfold vcrs; grind
  · simp [q1, k3]
  · simp [q3]; rw [hd, q1, q4]; grind
  · simp [q3]; rw [hd, q1, q4]; grind
  · subst k1; simp [q3, d3_r, Rat.lt_irrefl]
  · simp [q3]; rw [hd, hc, q1, k1]; grind
theorem un_vdm {a u v w : Vc} (ha : Un a) (hu : Un u) (hv : Un v) (hw : Un w) (h : Bf a u v) (k : Bf a v w) : 0 < D3 u v w := by
  have hva := h.ne_r
  have hwa := k.ne_r
  have k' : 0 < D3 a v w := k.elim (fun z => absurd z.1 hva) id
  by_cases hua : u = a
  · rw [hua]; exact k'
  have h' : 0 < D3 a u v := h.elim (fun z => absurd z.1 hua) id
  have t := h.trans ha hu hv hw k
  have t' : 0 < D3 a u w := t.elim (fun z => absurd z.1 hua) id
  have e := d3_vdm ha hu hv hw
  have p := Rat.mul_pos (Rat.mul_pos h' k') t'
  rw [e] at p
  have q := Rat.mul_pos (Rat.mul_pos (a1_pos ha hu hua) (a1_pos ha hv hva)) (a1_pos ha hw hwa)
  exact pos_of_mul (y := 2 * (A1 a u * A1 a v * A1 a w)) (by grind) (by grind)
/-- a unit with its x turned about -/
def mir (u : Vc) : Vc := (-u.1, u.2)
theorem mir_mir {u : Vc} : mir (mir u) = u := Prod.ext (by show - -u.1 = u.1; grind) rfl
theorem mir_un {u : Vc} (h : Un u) : Un (mir u) := by
  unfold Un mir at *
  show -u.1 * -u.1 + u.2 * u.2 = 1
  grind
theorem mir_crs {u v : Vc} : vcrs (mir u) (mir v) = - vcrs u v := by unfold vcrs mir; grind
theorem mir_inj {u v : Vc} (h : mir u = mir v) : u = v := by rw [← mir_mir (u := u), h, mir_mir]
theorem mir_d3 {a u v : Vc} : D3 (mir a) (mir u) (mir v) = - D3 a u v := by
  unfold D3
  rw [mir_crs, mir_crs, mir_crs]
  grind
/-- from the other end -/
theorem mir_bf {f e u v : Vc} (hf : Un f) (he : Un e) (hu : Un u) (hv : Un v) (h : Bf f u v) (k : v = e ∨ Bf f v e) : Bf (mir e) (mir v) (mir u) := by
  rcases k with k | k
  · subst k
    exact .inl ⟨rfl, fun z => by have e := mir_inj z; rw [e] at h; exact h.irr⟩
  · refine .inr ?_
    rw [mir_d3, ← d3_neg, d3_cyc]
    exact un_vdm hf hu hv he h k
/-- rising lists of units -/
def Asc (a : Vc) (xs : List Vc) : Prop := xs.Pairwise (Bf a) ∧ ∀ x ∈ xs, Un x
theorem Asc.uniq {a : Vc} (ha : Un a) : ∀ {xs ys : List Vc}, Asc a xs → Asc a ys → (∀ z, z ∈ xs ↔ z ∈ ys) → xs = ys
  | [], [], _, _, _ => rfl
  | [], y :: ys, _, _, h => absurd ((h y).mpr List.mem_cons_self) List.not_mem_nil
  | x :: xs, [], _, _, h => absurd ((h x).mp List.mem_cons_self) List.not_mem_nil
  | x :: xs, y :: ys, ⟨h1, u1⟩, ⟨h2, u2⟩, h => by
    rw [List.pairwise_cons] at h1 h2
    have e : x = y := by
      by_cases e : x = y
      · exact e
      exfalso
      have m1 : x ∈ ys := (List.mem_cons.mp ((h x).mp List.mem_cons_self)).resolve_left e
      have m2 : y ∈ xs := (List.mem_cons.mp ((h y).mpr List.mem_cons_self)).resolve_left fun z => e z.symm
      exact (h1.1 y m2).asym ha (u1 x List.mem_cons_self) (u1 y (List.mem_cons_of_mem _ m2)) (h2.1 x m1)
    subst e
    congr 1
    refine Asc.uniq ha ⟨h1.2, fun z hz => u1 z (List.mem_cons_of_mem _ hz)⟩ ⟨h2.2, fun z hz => u2 z (List.mem_cons_of_mem _ hz)⟩ fun z => ⟨fun hz => ?_, fun hz => ?_⟩
    · refine (List.mem_cons.mp ((h z).mp (List.mem_cons_of_mem _ hz))).resolve_left fun q => ?_
      subst q
      exact (h1.1 z hz).irr
    · refine (List.mem_cons.mp ((h z).mpr (List.mem_cons_of_mem _ hz))).resolve_left fun q => ?_
      subst q
      exact (h2.1 z hz).irr
instance {a u v : Vc} : Decidable (Ahd a u v) := by unfold Ahd; infer_instance
/-- two rising lists as one -/
def mrg (a : Vc) : List Vc → List Vc → List Vc
  | [], ys => ys
  | x :: xs, [] => x :: xs
  | x :: xs, y :: ys => if x = y then x :: mrg a xs ys else if Ahd a x y then x :: mrg a xs (y :: ys) else y :: mrg a (x :: xs) ys
termination_by xs ys => xs.length + ys.length
theorem mrg_mem {a z : Vc} : ∀ {xs ys : List Vc}, z ∈ mrg a xs ys ↔ (z ∈ xs ∨ z ∈ ys)
  | [], ys => by rw [mrg]; simp
  | x :: xs, [] => by rw [mrg]; simp
  | x :: xs, y :: ys => by
    rw [mrg]
    have i1 := mrg_mem (a := a) (z := z) (xs := xs) (ys := ys)
    have i2 := mrg_mem (a := a) (z := z) (xs := xs) (ys := y :: ys)
    have i3 := mrg_mem (a := a) (z := z) (xs := x :: xs) (ys := ys)
    split
    · rename_i e
      subst e
      simp only [List.mem_cons, i1]
      grind
    · split
      · simp only [List.mem_cons, i2]; grind
      · simp only [List.mem_cons, i3]; grind
termination_by xs ys => xs.length + ys.length
theorem Asc.tail {a x : Vc} {xs : List Vc} (h : Asc a (x :: xs)) : Asc a xs := ⟨(List.pairwise_cons.mp h.1).2, fun z hz => h.2 z (List.mem_cons_of_mem _ hz)⟩
theorem Asc.head {a x z : Vc} {xs : List Vc} (h : Asc a (x :: xs)) (hz : z ∈ xs) : Bf a x z := (List.pairwise_cons.mp h.1).1 z hz
theorem Asc.mrg {a : Vc} (ha : Un a) : ∀ {xs ys : List Vc}, Asc a xs → Asc a ys → Asc a (mrg a xs ys)
  | [], ys, _, h => by rw [Mp.mrg]; exact h
  | x :: xs, [], h, _ => by rw [Mp.mrg]; exact h
  | x :: xs, y :: ys, hx, hy => by
    rw [Mp.mrg]
    have ux := hx.2 x List.mem_cons_self
    have uy := hy.2 y List.mem_cons_self
    split
    · rename_i e
      subst e
      have i := Asc.mrg ha hx.tail hy.tail
      refine ⟨List.pairwise_cons.mpr ⟨fun z hz => ?_, i.1⟩, fun z hz => ?_⟩
      · rcases mrg_mem.mp hz with q | q
        · exact hx.head q
        · exact hy.head q
      · rcases List.mem_cons.mp hz with q | q
        · rw [q]; exact ux
        · exact i.2 z q
    · rename_i hne
      split
      · rename_i h
        have h := (ahd_bf ha ux uy).mp h
        have i := Asc.mrg ha hx.tail hy
        refine ⟨List.pairwise_cons.mpr ⟨fun z hz => ?_, i.1⟩, fun z hz => ?_⟩
        · rcases mrg_mem.mp hz with q | q
          · exact hx.head q
          · rcases List.mem_cons.mp q with q | q
            · rw [q]; exact h
            · exact h.trans ha ux uy (hy.2 z (List.mem_cons_of_mem _ q)) (hy.head q)
        · rcases List.mem_cons.mp hz with q | q
          · rw [q]; exact ux
          · exact i.2 z q
      · rename_i h
        have h : Bf a y x := (Bf.tri ha ux uy hne).elim (fun z => absurd ((ahd_bf ha ux uy).mpr z) h) id
        have i := Asc.mrg ha hx hy.tail
        refine ⟨List.pairwise_cons.mpr ⟨fun z hz => ?_, i.1⟩, fun z hz => ?_⟩
        · rcases mrg_mem.mp hz with q | q
          · rcases List.mem_cons.mp q with q | q
            · rw [q]; exact h
            · exact h.trans ha uy ux (hx.2 z (List.mem_cons_of_mem _ q)) (hx.head q)
          · exact hy.head q
        · rcases List.mem_cons.mp hz with q | q
          · rw [q]; exact uy
          · exact i.2 z q
termination_by xs ys => xs.length + ys.length
/-- quarter turns from a -/
def Qd (a b : Vc) (i : Nat) : Prop := vdot a b = (match i with | 0 => 1 | 1 => 0 | 2 => -1 | _ => 0) ∧ vcrs a b = (match i with | 0 => 0 | 1 => 1 | 2 => 0 | _ => -1)
theorem Qd.zero {a : Vc} (h : Un a) : Qd a a 0 := ⟨h, by unfold vcrs; grind⟩
theorem Qd.lft {a b : Vc} {i : Nat} (h : Qd a b i) (hi : i < 3) : Qd a (vlft b) (i + 1) := by
  have e1 : vdot a (vlft b) = - vcrs a b := by unfold vdot vcrs vlft; grind
  have e2 : vcrs a (vlft b) = vdot a b := by unfold vdot vcrs vlft; grind
  unfold Qd
  rw [e1, e2, h.1, h.2]
  match i, hi with
  | 0, _ => exact ⟨by decide, rfl⟩
  | 1, _ => exact ⟨by decide, rfl⟩
  | 2, _ => exact ⟨by decide, rfl⟩
theorem d3_tb {a b : Vc} {g h : Rat} (hb : Un b) : D3 a (rot b (tb g)) (rot b (tb h)) * ((1 + g * g) * (1 + h * h)) = 2 * (h - g) * ((1 - vdot a b) + (g + h) * vcrs a b + g * h * (1 + vdot a b)) := by
  have kg := one_sq g
  have kh := one_sq h
  have e1 : ∀ t : Vc, vcrs a (rot b t) = vcrs a b * t.1 + vdot a b * t.2 := fun t => by unfold vcrs vdot rot; grind
  have e2 : ∀ t : Vc, vcrs (rot b t) a = - (vcrs a b * t.1 + vdot a b * t.2) := fun t => by unfold vcrs vdot rot; grind
  unfold D3
  rw [e1, e2, rot_crs hb]
  generalize vcrs a b = s
  generalize vdot a b = c
  unfold vcrs tb
  show ((s * ((1 - g * g) / (1 + g * g)) + c * ((g + g) / (1 + g * g))) + ((1 - g * g) / (1 + g * g) * ((h + h) / (1 + h * h)) - (g + g) / (1 + g * g) * ((1 - h * h) / (1 + h * h))) + -(s * ((1 - h * h) / (1 + h * h)) + c * ((h + h) / (1 + h * h)))) * ((1 + g * g) * (1 + h * h)) = _
  have x1 : (1 - g * g) / (1 + g * g) * (1 + g * g) = 1 - g * g := by grind
  have x2 : (g + g) / (1 + g * g) * (1 + g * g) = g + g := by grind
  have x3 : (1 - h * h) / (1 + h * h) * (1 + h * h) = 1 - h * h := by grind
  have x4 : (h + h) / (1 + h * h) * (1 + h * h) = h + h := by grind
  generalize (1 - g * g) / (1 + g * g) = A at *
  generalize (g + g) / (1 + g * g) = B at *
  generalize (1 - h * h) / (1 + h * h) = C at *
  generalize (h + h) / (1 + h * h) = D at *
  grind
theorem tb_ne {a : Vc} {h : Rat} (ha : Un a) (hh : 0 < h) : rot a (tb h) ≠ a := by
  intro e
  have : vcrs a (rot a (tb h)) = (tb h).2 := by
    have : vcrs a (rot a (tb h)) = vcrs (rot a (1, 0)) (rot a (tb h)) := by rw [rot_id]
    rw [this, rot_crs ha]
    unfold vcrs
    grind
  rw [e] at this
  have z : vcrs a a = 0 := by unfold vcrs; grind
  rw [z] at this
  have p : 0 < (tb h).2 := div_pos (by grind) (pos_sq h)
  grind
theorem step_bf {a b : Vc} {i : Nat} {g h : Rat} (ha : Un a) (hb : Un b) (hq : Qd a b i) (hi : i ≤ 3) (h0 : 0 ≤ g) (h1 : g < h) (h2 : h ≤ 1) (h3 : i = 3 → h < 1) : Bf a (rot b (tb g)) (rot b (tb h)) := by
  have e := d3_tb (a := a) (g := g) (h := h) hb
  have pp := Rat.mul_pos (pos_sq g) (pos_sq h)
  have fin : 0 < (1 - vdot a b) + (g + h) * vcrs a b + g * h * (1 + vdot a b) → Bf a (rot b (tb g)) (rot b (tb h)) := fun k => by
    refine .inr (pos_of_mul (y := (1 + g * g) * (1 + h * h)) ?_ pp)
    rw [e]
    exact Rat.mul_pos (by grind) k
  rw [hq.1, hq.2] at fin
  match i, hi with
  | 0, _ =>
    by_cases hg : g = 0
    · -- from a itself
      have eb : b = a := un_inj ha (by rw [hq.1]; exact ha.symm) (by rw [hq.2]; unfold vcrs; grind)
      rw [hg, tb_zero, rot_id, eb]
      exact .inl ⟨rfl, tb_ne ha (by grind)⟩
    · have := Rat.mul_pos (show 0 < g by grind) (show 0 < h by grind)
      exact fin (by show (0 : Rat) < (1 - 1) + (g + h) * 0 + g * h * (1 + 1); grind)
  | 1, _ =>
    have := Rat.mul_nonneg h0 (show 0 ≤ h by grind)
    exact fin (by show (0 : Rat) < (1 - 0) + (g + h) * 1 + g * h * (1 + 0); grind)
  | 2, _ =>
    exact fin (by show (0 : Rat) < (1 - -1) + (g + h) * 0 + g * h * (1 + -1); grind)
  | 3, _ =>
    have := Rat.mul_pos (show 0 < 1 - g by have := h3 rfl; grind) (show 0 < 1 - h by have := h3 rfl; grind)
    exact fin (by show (0 : Rat) < (1 - 0) + (g + h) * -1 + g * h * (1 + 0); grind)
theorem steps_bf {a u : Vc} {h : Rat} {n i : Nat} (ha : Un a) (hu : Un u) (hq : Qd a u i) (hi : i ≤ 3) (hh : 0 < h) (h1 : h ≤ 1) (h3 : i = 3 → h < 1) (hn : 0 < n) : Chn (Bf a) u (stepsL u h n) := by
  have e0 : rot u (tb (prt h n 0)) = u := by rw [prt_zero, tb_zero, rot_id]
  have := (chn_range (r := Bf a) (f := fun k => rot u (tb (prt h n k))) n (fun k hk => by
    have l := prt_le hh hn (n - (k + 1)) (k + 1) (by omega)
    exact step_bf ha hu hq hi (prt_nn hh hn k) (prt_lt hh hn) (Rat.le_trans l h1) fun z => by have := h3 z; grind) n (Nat.le_refl n)).1
  rw [e0] at this
  exact this
theorem qf_bf {one other : Vc} {n : Nat} (h1 : Un one) (hn : 0 < n) : ∀ j, j ≤ 3 → (∀ k, k < j → ¬ Stp other (qv one other k)) → Qd one (qv one other j) j ∧ ∃ t, qf one other n j = one :: t ∧ Chn (Bf one) one t
  | 0, _, _ => ⟨Qd.zero h1, [], rfl, trivial⟩
  | j + 1, hj, hs => by
    obtain ⟨hq, t, e, hc⟩ := qf_bf (other := other) h1 hn j (by omega) fun k hk => hs k (by omega)
    have ef : qf one other n (j + 1) = if Stp other (qv one other j) then qf one other n j else qf one other n j ++ stepsL (qv one other j) 1 n := rfl
    have ev : qv one other (j + 1) = if Stp other (qv one other j) then qv one other j else vlft (qv one other j) := rfl
    have ns := hs j (by omega)
    rw [if_neg ns] at ef ev
    rw [ev, ef]
    refine ⟨hq.lft (by omega), t ++ stepsL (qv one other j) 1 n, by rw [e]; rfl, ?_⟩
    have hl := qf_last (one := one) (other := other) hn j
    rw [e] at hl
    exact hc.app hl (steps_bf h1 (qv_un h1 j) hq (by omega) (by decide) Rat.le_refl (fun z => by omega) hn)
theorem qf_end {one other : Vc} {n : Nat} (h1 : Un one) (h2 : Un other) (hn : 0 < n) : ∃ i, i ≤ 3 ∧ Qd one (qv one other 4) i ∧ ∃ t, qf one other n 4 = one :: t ∧ Chn (Bf one) one t := by
  have st : ∃ m, m ≤ 3 ∧ Stp other (qv one other m) ∧ ∀ k, k < m → ¬ Stp other (qv one other k) := by
    by_cases s0 : Stp other (qv one other 0)
    · exact ⟨0, by omega, s0, fun k h => by omega⟩
    by_cases s1 : Stp other (qv one other 1)
    · exact ⟨1, by omega, s1, fun k h => by rw [show k = 0 by omega]; exact s0⟩
    by_cases s2 : Stp other (qv one other 2)
    · exact ⟨2, by omega, s2, fun k h => by
        match k, h with
        | 0, _ => exact s0
        | 1, _ => exact s1⟩
    refine ⟨3, by omega, ?_, fun k h => by
        match k, h with
        | 0, _ => exact s0
        | 1, _ => exact s1
        | 2, _ => exact s2⟩
    have s4 := qv_stop h1 h2
    have e1 : qv one other 1 = vlft one := by
      show (if Stp other (qv one other 0) then _ else _) = _
      rw [if_neg s0]; rfl
    have e2 : qv one other 2 = vlft (vlft one) := by
      show (if Stp other (qv one other 1) then _ else _) = _
      rw [if_neg s1, e1]
    have e3 : qv one other 3 = vlft (vlft (vlft one)) := by
      show (if Stp other (qv one other 2) then _ else _) = _
      rw [if_neg s2, e2]
    by_cases s3 : Stp other (qv one other 3)
    · exact s3
    exfalso
    have e4 : qv one other 4 = vlft (vlft (vlft (vlft one))) := by
      show (if Stp other (qv one other 3) then _ else _) = _
      rw [if_neg s3, e3]
    have e5 : vlft (vlft (vlft (vlft one))) = one := Prod.ext (by show 0 - (0 - one.1) = one.1; grind) (by show 0 - (0 - one.2) = one.2; grind)
    rw [e4, e5] at s4
    exact s0 s4
  obtain ⟨m, hm, hs, hf⟩ := st
  obtain ⟨hq, t, e, hc⟩ := qf_bf (n := n) h1 hn m hm hf
  have y := qv_stay (n := n) hs (4 - m)
  rw [show m + (4 - m) = 4 by omega] at y
  rw [y.2.1, y.2.2]
  exact ⟨m, hm, hq, t, e, hc⟩
theorem chn_pw {a : Vc} (ha : Un a) : ∀ {t : List Vc} {u : Vc}, Un u → (∀ x ∈ t, Un x) → Chn (Bf a) u t → (u :: t).Pairwise (Bf a)
  | [], u, _, _, _ => List.pairwise_cons.mpr ⟨fun _ h => absurd h List.not_mem_nil, List.Pairwise.nil⟩
  | v :: t, u, hu, hx, hc => by
    have hv := hx v List.mem_cons_self
    have ht : ∀ x ∈ t, Un x := fun x h => hx x (List.mem_cons_of_mem _ h)
    have i := chn_pw ha hv ht hc.2
    refine List.pairwise_cons.mpr ⟨fun z hz => ?_, i⟩
    rcases List.mem_cons.mp hz with q | q
    · rw [q]; exact hc.1
    · exact hc.1.trans ha hu hv (ht z q) ((List.pairwise_cons.mp i).1 z q)
theorem chn_un : ∀ {t : List Vc} {u : Vc}, Chn Nxt u t → ∀ x ∈ t, Un x
  | [], _, _, x, h => absurd h List.not_mem_nil
  | v :: t, u, hc, x, h => by
    rcases List.mem_cons.mp h with q | q
    · rw [q]; exact hc.1.1
    · exact chn_un hc.2 x q
/-- what quarters_between tells rises -/
theorem qres_asc {one other : Vc} {n : Nat} (h1 : Un one) (h2 : Un other) (hn : 0 < n) : Asc one (qres one other n) := by
  obtain ⟨t0, e0, hc0, _⟩ := qres_ok (n := n) h1 h2 hn
  have hun : ∀ x ∈ t0, Un x := chn_un hc0
  have main : ∃ t, qres one other n = one :: t ∧ Chn (Bf one) one t := by
    obtain ⟨i, hi, hq, t, e, hc⟩ := qf_end (n := n) h1 h2 hn
    unfold qres
    by_cases hz : qv one other 4 = other
    · rw [if_pos hz]
      exact ⟨t, e, hc⟩
    · rw [if_neg hz]
      have hin : InQ (qv one other 4) other := (qv_stop h1 h2).elim (fun z => absurd z hz) id
      obtain ⟨p1, p2, p3⟩ := q_part (qv_un h1 4) h2 hin
      have p4 : prtQ (qv one other 4) other ≠ 1 := by
        intro z
        rw [z, tb_one, rot_q] at p3
        have y := hin.2
        generalize qv one other 4 = w at *
        rw [← p3] at y
        have z : vdot w (vlft w) = 0 := by unfold vdot vlft; grind
        rw [z] at y
        grind
      refine ⟨t ++ stepsL (qv one other 4) (prtQ (qv one other 4) other) n, by rw [e]; rfl, ?_⟩
      have hl := qf_last (one := one) (other := other) hn 4
      rw [e] at hl
      exact hc.app hl (steps_bf h1 (qv_un h1 4) hq hi p1 p2 (fun _ => by grind) hn)
  obtain ⟨t, e, hc⟩ := main
  have et : t = t0 := by rw [e] at e0; injection e0
  subst et
  rw [e]
  exact ⟨chn_pw h1 h1 hun hc, fun x hx => by
    rcases List.mem_cons.mp hx with q | q
    · rw [q]; exact h1
    · exact hun x q⟩
theorem last_bf {a e : Vc} : ∀ {xs : List Vc}, xs.Pairwise (Bf a) → xs.getLast? = some e → ∀ x ∈ xs, x = e ∨ Bf a x e
  | [], _, h, _, _ => by cases h
  | [x], _, h, z, hz => by
    cases h
    exact .inl (List.mem_singleton.mp hz)
  | x :: y :: r, hp, h, z, hz => by
    rw [List.getLast?_cons_cons] at h
    rw [List.pairwise_cons] at hp
    rcases List.mem_cons.mp hz with q | q
    · subst q
      exact .inr (hp.1 e (List.mem_of_getLast? h))
    · exact last_bf hp.2 h z q
/-- from the other end, mirrored -/
theorem asc_mir {f e : Vc} {xs : List Vc} (hf : Un f) (he : Un e) (h : Asc f xs) (hl : xs.getLast? = some e) : Asc (mir e) (xs.map mir).reverse := by
  refine ⟨?_, fun z hz => ?_⟩
  · rw [List.pairwise_reverse, List.pairwise_map]
    have hb := last_bf h.1 hl
    have : ∀ {ys : List Vc}, ys.Pairwise (Bf f) → (∀ y ∈ ys, Un y) → (∀ y ∈ ys, y = e ∨ Bf f y e) → ys.Pairwise fun u v => Bf (mir e) (mir v) (mir u) := by
      intro ys hy hu hx
      induction hy with
      | nil => exact .nil
      | @cons y ys p1 p2 ih =>
        refine List.pairwise_cons.mpr ⟨fun z hz => ?_, ih (fun z hz => hu z (List.mem_cons_of_mem _ hz)) fun z hz => hx z (List.mem_cons_of_mem _ hz)⟩
        exact mir_bf hf he (hu y List.mem_cons_self) (hu z (List.mem_cons_of_mem _ hz)) (p1 z hz) (hx z (List.mem_cons_of_mem _ hz))
    exact this h.1 h.2 hb
  · rw [List.mem_reverse, List.mem_map] at hz
    obtain ⟨w, hw, rfl⟩ := hz
    exact mir_un (h.2 w hw)
def bck (one other : Vc) (n : Nat) : List Vc := ((qres (mir other) (mir one) n).map mir).reverse
def uni (one other : Vc) (n : Nat) : List Vc := mrg one (qres one other n) (bck one other n)
theorem bck_asc {one other : Vc} {n : Nat} (h1 : Un one) (h2 : Un other) (hn : 0 < n) : Asc one (bck one other n) := by
  obtain ⟨t, e, hc, hl⟩ := qres_ok (n := n) (mir_un h2) (mir_un h1) hn
  have := asc_mir (mir_un h2) (mir_un h1) (qres_asc (n := n) (mir_un h2) (mir_un h1) hn) hl
  rw [mir_mir] at this
  exact this
theorem uni_asc {one other : Vc} {n : Nat} (h1 : Un one) (h2 : Un other) (hn : 0 < n) : Asc one (uni one other n) := Asc.mrg h1 (qres_asc h1 h2 hn) (bck_asc h1 h2 hn)
theorem mem_bck {one other z : Vc} {n : Nat} : z ∈ bck one other n ↔ mir z ∈ qres (mir other) (mir one) n := by
  unfold bck
  rw [List.mem_reverse, List.mem_map]
  exact ⟨fun ⟨w, h, e⟩ => by rw [← e, mir_mir]; exact h, fun h => ⟨_, h, mir_mir⟩⟩
theorem mem_uni {one other z : Vc} {n : Nat} : z ∈ uni one other n ↔ (z ∈ qres one other n ∨ mir z ∈ qres (mir other) (mir one) n) := by
  unfold uni
  rw [mrg_mem, mem_bck]
theorem one_mem {one other : Vc} {n : Nat} (h1 : Un one) (h2 : Un other) (hn : 0 < n) : one ∈ qres one other n := by
  obtain ⟨t, e, hc, hl⟩ := qres_ok (n := n) h1 h2 hn
  rw [e]
  exact List.mem_cons_self
theorem oth_mem {one other : Vc} {n : Nat} (h1 : Un one) (h2 : Un other) (hn : 0 < n) : other ∈ qres one other n := by
  obtain ⟨t, e, hc, hl⟩ := qres_ok (n := n) h1 h2 hn
  exact List.mem_of_getLast? hl
theorem uni_last {one other : Vc} {n : Nat} (h1 : Un one) (h2 : Un other) (hn : 0 < n) : ∀ x ∈ uni one other n, x = other ∨ Bf one x other := by
  intro x hx
  unfold uni at hx
  obtain ⟨t, e, hc, hl⟩ := qres_ok (n := n) h1 h2 hn
  rcases mrg_mem.mp hx with q | q
  · exact last_bf (qres_asc h1 h2 hn).1 hl x q
  · refine last_bf (bck_asc h1 h2 hn).1 ?_ x q
    obtain ⟨t, e, hc, hl⟩ := qres_ok (n := n) (mir_un h2) (mir_un h1) hn
    unfold bck
    rw [e, List.map_cons, List.reverse_cons, List.getLast?_concat, mir_mir]
theorem asc_last {a e : Vc} (ha : Un a) (he : Un e) : ∀ {xs : List Vc}, Asc a xs → e ∈ xs → (∀ x ∈ xs, x = e ∨ Bf a x e) → xs.getLast? = some e
  | [], _, h, _ => absurd h List.not_mem_nil
  | [x], _, h, _ => by rw [List.mem_singleton.mp h]; rfl
  | x :: y :: r, hx, h, hl => by
    rw [List.getLast?_cons_cons]
    refine asc_last ha he hx.tail ?_ fun z hz => hl z (List.mem_cons_of_mem _ hz)
    refine (List.mem_cons.mp h).resolve_left fun z => ?_
    have h1 := hx.head (z := y) List.mem_cons_self
    rw [← z] at h1
    rcases hl y (List.mem_cons_of_mem _ List.mem_cons_self) with q | q
    · rw [q] at h1; exact h1.irr
    · exact h1.asym ha he (hx.2 y (List.mem_cons_of_mem _ List.mem_cons_self)) q
theorem uni_end {one other : Vc} {n : Nat} (h1 : Un one) (h2 : Un other) (hn : 0 < n) : (uni one other n).getLast? = some other :=
  asc_last h1 h2 (uni_asc h1 h2 hn) (mem_uni.mpr (.inl (oth_mem h1 h2 hn))) (uni_last h1 h2 hn)
theorem asc_first {a : Vc} (ha : Un a) {xs : List Vc} (h : Asc a xs) (hm : a ∈ xs) : ∃ t, xs = a :: t := by
  match xs, hm, h with
  | x :: r, hm, h =>
    rcases List.mem_cons.mp hm with q | q
    · exact ⟨r, by rw [q]⟩
    · exact absurd rfl (h.head q).ne_r
theorem uni_head {one other : Vc} {n : Nat} (h1 : Un one) (h2 : Un other) (hn : 0 < n) : ∃ t, uni one other n = one :: t :=
  asc_first h1 (uni_asc h1 h2 hn) (mem_uni.mpr (.inl (one_mem h1 h2 hn)))
theorem cj_un {u : Vc} (h : Un u) : Un (u.1, -u.2) := by
  unfold Un at *
  show u.1 * u.1 + -u.2 * -u.2 = 1
  grind
theorem arc_in {p q v : Vc} (hp : Un p) (hq : Un q) (hv : Un v) (hn : Nxt p q) (hvp : v ≠ p) (h : v = q ∨ 0 < D3 p v q) : 0 < vcrs p v ∧ 0 ≤ vdot p v := by
  rcases h with h | h
  · rw [h]; exact hn.2
  obtain ⟨_, h1, h2⟩ := hn
  have hqp : q ≠ p := by intro z; rw [z] at h1; have : vcrs p p = 0 := by unfold vcrs; grind
                         rw [this] at h1; grind
  have av := a1_pos hp hv hvp
  have aq := a1_pos hp hq hqp
  rw [d3_as hp] at h
  have i1 := un_id hp hv
  have i2 := un_id hp hq
  unfold A1 at *
  generalize vdot p v = c at *
  generalize vcrs p v = s at *
  generalize vdot p q = d at *
  generalize vcrs p q = t at *
  have m1 := Rat.mul_pos av h1
  have sp : 0 < s := pos_of_mul (y := 1 - d) (by grind) aq
  refine ⟨sp, ?_⟩
  -- both sides squared
  have x0 : 0 < (1 - d) * s - (1 - c) * t := by grind
  have x1 : 0 < (1 - d) * s + (1 - c) * t := by have := Rat.mul_pos aq sp; grind
  have x2 := Rat.mul_pos x0 x1
  have q1 : s * s = (1 - c) * (1 + c) := by grind
  have q2 : t * t = (1 - d) * (1 + d) := by grind
  have x3 : ((1 - d) * s - (1 - c) * t) * ((1 - d) * s + (1 - c) * t) = (1 - d) * (1 - d) * (s * s) - (1 - c) * (1 - c) * (t * t) := by grind
  rw [x3, q1, q2] at x2
  have x4 : (1 - d) * (1 - d) * ((1 - c) * (1 + c)) - (1 - c) * (1 - c) * ((1 - d) * (1 + d)) = (2 * (c - d)) * ((1 - d) * (1 - c)) := by grind
  rw [x4] at x2
  have x5 := pos_of_mul x2 (Rat.mul_pos aq av)
  grind
theorem nb_step {a p q u v : Vc} (ha : Un a) (hp : Un p) (hu : Un u) (hv : Un v) (hn : Nxt p q) (h1 : p = u ∨ Bf a p u) (h2 : Bf a u v) (h3 : v = q ∨ Bf a v q) : Nxt u v := by
  have hq := hn.1
  have hpv : Bf a p v := h1.elim (fun z => z ▸ h2) fun z => z.trans ha hp hu hv h2
  have hvp : v ≠ p := fun z => by rw [z] at hpv; exact hpv.irr
  have d1 : v = q ∨ 0 < D3 p v q := h3.imp id fun z => un_vdm ha hp hv hq hpv z
  obtain ⟨s1, c1⟩ := arc_in hp hq hv hn hvp d1
  refine ⟨hv, ?_⟩
  rcases h1 with h1 | h1
  · rw [← h1]; exact ⟨s1, c1⟩
  · have hup : u ≠ p := fun z => by rw [z] at h1; exact h1.irr
    have huq : Bf a u q := h3.elim (fun z => z ▸ h2) fun z => h2.trans ha hu hv hq z
    obtain ⟨s2, c2⟩ := arc_in hp hq hu hn hup (.inr (un_vdm ha hp hu hq h1 huq))
    refine ⟨(same_side hp hu hv (Rat.mul_pos s2 s1)).mpr (un_vdm ha hp hu hv h1 h2), ?_⟩
    rw [dot_rel hp]
    have := Rat.mul_nonneg c2 c1
    have := Rat.mul_pos s2 s1
    grind
theorem cover {a u : Vc} (ha : Un a) (hu : Un u) : ∀ {t : List Vc} {p : Vc}, Un p → Chn Nxt p t → (p = u ∨ Bf a p u) → (∃ z ∈ p :: t, Un z ∧ Bf a u z) → ∃ x y, Un x ∧ y ∈ t ∧ Nxt x y ∧ (x = u ∨ Bf a x u) ∧ Bf a u y
  | [], p, hp, _, h, ⟨z, hz, uz, k⟩ => by
    rw [List.mem_singleton.mp hz] at k
    rcases h with h | h
    · rw [h] at k; exact k.irr.elim
    · exact (h.asym ha hp hu k).elim
  | y :: t, p, hp, hc, h, ⟨z, hz, uz, k⟩ => by
    by_cases hy : y = u ∨ Bf a y u
    · obtain ⟨x', y', h1, h2, h3⟩ := cover ha hu hc.1.1 hc.2 hy ⟨z, (List.mem_cons.mp hz).resolve_left fun q => by
        rw [q] at k
        rcases h with h | h
        · rw [h] at k; exact k.irr.elim
        · exact (h.asym ha hp hu k).elim, uz, k⟩
      exact ⟨x', y', h1, List.mem_cons_of_mem _ h2, h3⟩
    · refine ⟨p, y, hp, List.mem_cons_self, hc.1, h, ?_⟩
      exact (Bf.tri ha hu hc.1.1 fun z => hy (.inl z.symm)).elim id fun z => absurd (.inr z) hy
theorem uni_chn {one other : Vc} {n : Nat} (h1 : Un one) (h2 : Un other) (hn : 0 < n) : ∃ t, uni one other n = one :: t ∧ Chn Nxt one t := by
  obtain ⟨t, e⟩ := uni_head (n := n) h1 h2 hn
  refine ⟨t, e, ?_⟩
  obtain ⟨tT, eT, hT, _⟩ := qres_ok (n := n) h1 h2 hn
  have asc := uni_asc (n := n) h1 h2 hn
  have hlast := uni_last (n := n) h1 h2 hn
  have hsub : ∀ z ∈ one :: tT, z ∈ one :: t := fun z hz => by rw [← e]; rw [← eT] at hz; exact mem_uni.mpr (.inl hz)
  have hom : other ∈ one :: tT := by rw [← eT]; exact oth_mem h1 h2 hn
  rw [e] at asc hlast
  have key : ∀ (t : List Vc) (u : Vc), Asc one (u :: t) → (one = u ∨ Bf one one u) → (∀ z ∈ u :: t, z = other ∨ Bf one z other) → (∀ z ∈ one :: tT, z ∈ u :: t ∨ Bf one z u) → Chn Nxt u t := by
    intro t
    induction t with
    | nil => intro u _ _ _ _; trivial
    | cons v t ih =>
      intro u ha h0 hl hs
      have hu := ha.2 u List.mem_cons_self
      have hv := ha.2 v (List.mem_cons_of_mem _ List.mem_cons_self)
      have huv := ha.head (z := v) List.mem_cons_self
      have huo : Bf one u other := (hl v (List.mem_cons_of_mem _ List.mem_cons_self)).elim (fun z => z ▸ huv) fun z => huv.trans h1 hu hv h2 z
      obtain ⟨x, y, hx, hy, hN, hxu, huy⟩ := cover h1 hu h1 hT h0 ⟨other, hom, h2, huo⟩
      refine ⟨?_, ih v ha.tail (.inr ?_) (fun z hz => hl z (List.mem_cons_of_mem _ hz)) fun z hz => ?_⟩
      · refine nb_step h1 hx hu hv hN hxu huv ?_
        rcases hs y (List.mem_cons_of_mem _ hy) with q | q
        · rcases List.mem_cons.mp q with q | q
          · rw [q] at huy; exact huy.irr.elim
          · rcases List.mem_cons.mp q with q | q
            · exact .inl q.symm
            · exact .inr (ha.tail.head q)
        · exact (q.asym h1 hN.1 hu huy).elim
      · rcases h0 with h0 | h0
        · rw [← h0] at huv; exact huv
        · exact h0.trans h1 h1 hu hv huv
      · rcases hs z hz with q | q
        · rcases List.mem_cons.mp q with q | q
          · rw [q]; exact .inr huv
          · exact .inl q
        · refine .inr (q.trans h1 ?_ hu hv huv)
          rcases List.mem_cons.mp hz with k | k
          · rw [k]; exact h1
          · exact chn_un hT z k
  exact key t one asc (.inl rfl) hlast fun z hz => .inl (hsub z hz)
end
section
open PySem PySem.Spec PyProof.Rows L2
theorem num_eq' (q : Rat) : ((q.num : Int) : Rat) = q * ((q.den : Int) : Rat) := num_eq q
theorem un_den {u : Vc} (h : Un u) : u.1.den = u.2.den := by
  obtain ⟨x, y⟩ := u
  unfold Un at h
  have h : x * x + y * y = 1 := h
  have h1 := num_eq' x
  have h2 := num_eq' y
  have key : x.num * x.num * ((y.den : Int) * y.den) + y.num * y.num * ((x.den : Int) * x.den) = ((x.den : Int) * x.den) * ((y.den : Int) * y.den) := by
    apply Rat.intCast_inj.mp
    simp only [Rat.intCast_add, Rat.intCast_mul, h1, h2]
    generalize ((x.den : Int) : Rat) = p at *
    generalize ((y.den : Int) : Rat) = q at *
    have : (x * p) * (x * p) * (q * q) + (y * q) * (y * q) * (p * p) = (x * x + y * y) * ((p * p) * (q * q)) := by grind
    rw [this, h]
    grind
  have dv : ∀ (p q r s : Int) (a b : Nat), p.natAbs.Coprime a → p * p * ((b : Int) * b) + q * q * ((a : Int) * a) = ((a : Int) * a) * ((b : Int) * b) → a ∣ b := by
    intro p q r s a b hc e
    have d : (a : Int) * a ∣ p * p * ((b : Int) * b) := ⟨(b : Int) * b - q * q, by grind⟩
    have d2 : a ^ 2 ∣ p.natAbs ^ 2 * b ^ 2 := by
      have := Int.natAbs_dvd_natAbs.mpr d
      rw [Int.natAbs_mul, Int.natAbs_mul, Int.natAbs_mul, Int.natAbs_mul, Int.natAbs_natCast, Int.natAbs_natCast] at this
      rw [Nat.pow_two, Nat.pow_two, Nat.pow_two]
      exact this
    have d3 : a ^ 2 ∣ b ^ 2 := (Nat.Coprime.pow 2 2 hc.symm).dvd_of_dvd_mul_left d2
    exact (Nat.pow_dvd_pow_iff (by decide)).mp d3
  exact Nat.dvd_antisymm (dv x.num y.num 0 0 x.den y.den x.reduced key) (dv y.num x.num 0 0 y.den x.den y.reduced (by grind))
theorem un_int {u : Vc} (h : Un u) : ∃ (X Y : Int) (D : Nat), 0 < D ∧ u = ((X : Rat) / ((D : Int) : Rat), (Y : Rat) / ((D : Int) : Rat)) ∧ X * X + Y * Y = (D : Int) * D ∧ D = u.1.den := by
  refine ⟨u.1.num, u.2.num, u.1.den, Nat.pos_of_ne_zero u.1.den_nz, ?_, ?_, rfl⟩
  · refine Prod.ext (num_den u.1) ?_
    show u.2 = (u.2.num : Rat) / ((u.1.den : Int) : Rat)
    rw [un_den h]
    exact num_den u.2
  · have e := un_den h
    have h1 := num_eq' u.1
    have h2 := num_eq' u.2
    rw [← e] at h2
    apply Rat.intCast_inj.mp
    simp only [Rat.intCast_add, Rat.intCast_mul, h1, h2]
    unfold Un at h
    generalize ((u.1.den : Int) : Rat) = p at *
    have : u.1 * p * (u.1 * p) + u.2 * p * (u.2 * p) = (u.1 * u.1 + u.2 * u.2) * (p * p) := by grind
    rw [this, h]
    grind
theorem sq_le {x d : Int} {y : Int} (hd : 0 ≤ d) (h : x * x + y * y = d * d) : x.natAbs ≤ d.natAbs := by
  rcases Nat.lt_or_ge d.natAbs x.natAbs with q | q
  · exfalso
    have h1 : x * x = (x.natAbs * x.natAbs : Nat) := (Int.natAbs_mul_self).symm
    have h2 : y * y = (y.natAbs * y.natAbs : Nat) := (Int.natAbs_mul_self).symm
    have h3 : d * d = (d.natAbs * d.natAbs : Nat) := (Int.natAbs_mul_self).symm
    have h4 : d.natAbs * d.natAbs < x.natAbs * x.natAbs := Nat.mul_lt_mul'' q q
    omega
  · exact q
theorem sq_le2 {x d : Int} {y : Int} (hd : 0 ≤ d) (h : x * x + y * y = d * d) : y.natAbs ≤ d.natAbs := sq_le (y := x) hd (by rw [Int.add_comm]; exact h)
/-- a unit over a known number -/
theorem un_of {X Y D : Int} {N : Nat} (hD : D ≠ 0) (h : X * X + Y * Y = D * D) (hN : D.natAbs < 2 ^ N) : SzV N ((X : Rat) / (D : Rat), (Y : Rat) / (D : Rat)) := by
  have hn : ((D.natAbs : Nat) : Int) * (D.natAbs : Nat) = D * D := Int.natAbs_mul_self
  have h1 : X.natAbs ≤ D.natAbs := sq_le (d := (D.natAbs : Nat)) (y := Y) (by omega) (by rw [hn]; exact h)
  have h2 : Y.natAbs ≤ D.natAbs := sq_le2 (d := (D.natAbs : Nat)) (x := X) (by omega) (by rw [hn]; exact h)
  exact ⟨Sz.of hD (by omega) hN, Sz.of hD (by omega) hN⟩
theorem ofInt_ne {D : Nat} (h : 0 < D) : ((D : Int) : Rat) ≠ 0 := by
  have := natRat_pos h
  grind
theorem rot_szU {u v : Vc} {a b : Nat} (hu : Un u) (hv : Un v) (su : SzV a u) (sv : SzV b v) : SzV (a + b) (rot u v) := by
  obtain ⟨X, Y, D, hD, e, hXY, eD⟩ := un_int hu
  obtain ⟨Z, W, E, hE, f, hZW, eE⟩ := un_int hv
  have d1 : D < 2 ^ a := by rw [eD]; exact su.1.2
  have d2 : E < 2 ^ b := by rw [eE]; exact sv.1.2
  have k1 := ofInt_ne hD
  have k2 := ofInt_ne hE
  have r : rot u v = (((X * Z - Y * W : Int) : Rat) / (((D : Int) * (E : Int) : Int) : Rat), ((X * W + Y * Z : Int) : Rat) / (((D : Int) * (E : Int) : Int) : Rat)) := by
    rw [e, f]
    unfold rot
    simp only [Rat.intCast_sub, Rat.intCast_add, Rat.intCast_mul]
    refine Prod.ext ?_ ?_
    · show (X : Rat) / ((D : Int) : Rat) * ((Z : Rat) / ((E : Int) : Rat)) - (Y : Rat) / ((D : Int) : Rat) * ((W : Rat) / ((E : Int) : Rat)) = ((X : Rat) * Z - Y * W) / (((D : Int) : Rat) * ((E : Int) : Rat))
      rw [div2 k1 k2, div2 k1 k2, div_s]
    · show (X : Rat) / ((D : Int) : Rat) * ((W : Rat) / ((E : Int) : Rat)) + (Y : Rat) / ((D : Int) : Rat) * ((Z : Rat) / ((E : Int) : Rat)) = ((X : Rat) * W + Y * Z) / (((D : Int) : Rat) * ((E : Int) : Rat))
      rw [div2 k1 k2, div2 k1 k2, div_a]
  rw [r]
  refine un_of (Int.mul_ne_zero (by omega) (by omega)) ?_ ?_
  · have : (X * Z - Y * W) * (X * Z - Y * W) + (X * W + Y * Z) * (X * W + Y * Z) = (X * X + Y * Y) * (Z * Z + W * W) := by grind
    rw [this, hXY, hZW]
    grind
  · rw [Int.natAbs_mul, Int.natAbs_natCast, Int.natAbs_natCast, Nat.pow_add]
    exact Nat.mul_lt_mul'' d1 d2
theorem dot_rot {u v : Vc} : rot (u.1, -u.2) v = (vdot u v, vcrs u v) := Prod.ext (by show u.1 * v.1 - -u.2 * v.2 = u.1 * v.1 + u.2 * v.2; grind) (by show u.1 * v.2 + -u.2 * v.1 = u.1 * v.2 - u.2 * v.1; grind)
theorem SzV.cj {a : Nat} {u : Vc} (h : SzV a u) : SzV a (u.1, -u.2) := ⟨h.1, h.2.neg⟩
theorem SzV.mir {a : Nat} {u : Vc} (h : SzV a u) : SzV a (mir u) := ⟨h.1.neg, h.2⟩
theorem dc_szU {u v : Vc} {a b : Nat} (hu : Un u) (hv : Un v) (su : SzV a u) (sv : SzV b v) : SzV (a + b) (vdot u v, vcrs u v) := by
  have := rot_szU (cj_un hu) hv su.cj sv
  rw [dot_rot] at this
  exact this
theorem dot_szU {u v : Vc} {a b : Nat} (hu : Un u) (hv : Un v) (su : SzV a u) (sv : SzV b v) : Sz (a + b) (vdot u v) := (dc_szU hu hv su sv).1
/-- 1 and the dot, the share over it -/
theorem opp_un {u v : Vc} (hu : Un u) (hv : Un v) : Un (vdot u v, vcrs u v) := un_id hu hv
theorem one_add_sz {u : Vc} {a : Nat} (hu : Un u) (su : SzV a u) : Sz (a + 1) (1 + u.1) ∧ (1 + u.1 ≠ 0 → Sz (a + 1) (u.2 / (1 + u.1))) := by
  obtain ⟨X, Y, D, hD, e, hXY, eD⟩ := un_int hu
  have d1 : D < 2 ^ a := by rw [eD]; exact su.1.2
  have k1 := ofInt_ne hD
  have ha : X.natAbs ≤ D := by have := sq_le (d := (D : Int)) (by omega) hXY; omega
  have hb : Y.natAbs ≤ D := by have := sq_le2 (d := (D : Int)) (by omega) hXY; omega
  have e1 : 1 + u.1 = (((D : Int) + X : Int) : Rat) / ((D : Int) : Rat) := by
    rw [e, Rat.intCast_add]
    show 1 + (X : Rat) / ((D : Int) : Rat) = _
    grind
  have p2 : (2 : Nat) ^ (a + 1) = 2 * 2 ^ a := by rw [Nat.pow_succ]; omega
  refine ⟨?_, fun hne => ?_⟩
  · rw [e1]
    refine Sz.of (by omega) (by omega) ?_
    show D < _
    omega
  · have hz : (D : Int) + X ≠ 0 := fun z => hne (by rw [e1, z, Rat.div_def]; show (0 : Rat) * _ = 0; grind)
    have hz' : (((D : Int) + X : Int) : Rat) ≠ 0 := fun z => hz (Rat.intCast_inj.mp (show _ = ((0 : Int) : Rat) from z))
    have e2 : u.2 / (1 + u.1) = (Y : Rat) / (((D : Int) + X : Int) : Rat) := by
      rw [e1]
      have : u.2 = (Y : Rat) / ((D : Int) : Rat) := by rw [e]
      rw [this]
      grind
    rw [e2]
    exact Sz.of hz (by omega) (by omega)
theorem tb_szU {h : Rat} {b : Nat} (hh : Sz b h) : SzV (2 * b + 1) (tb h) := by
  have hd := den_ne h
  have ne := one_sq h
  have hn := num_eq' h
  have p0 : (0 : Int) < h.den := den_pos h
  have s0 : 0 ≤ h.num * h.num := by rw [← Int.natAbs_mul_self]; omega
  have D0 : (h.den : Int) * h.den + h.num * h.num ≠ 0 := by
    have := Int.mul_pos p0 p0
    omega
  have D1 : (((h.den : Int) * h.den + h.num * h.num : Int) : Rat) ≠ 0 := fun z => D0 (Rat.intCast_inj.mp (show _ = ((0 : Int) : Rat) from z))
  have e : tb h = ((((h.den : Int) * h.den - h.num * h.num : Int) : Rat) / (((h.den : Int) * h.den + h.num * h.num : Int) : Rat), ((2 * (h.num * h.den) : Int) : Rat) / (((h.den : Int) * h.den + h.num * h.num : Int) : Rat)) := by
    unfold tb
    simp only [Rat.intCast_add, Rat.intCast_sub, Rat.intCast_mul, hn] at *
    have h2 : ((2 : Int) : Rat) = 2 := rfl
    rw [h2]
    generalize ((h.den : Int) : Rat) = d at *
    refine Prod.ext ?_ ?_
    · show (1 - h * h) / (1 + h * h) = (d * d - h * d * (h * d)) / (d * d + h * d * (h * d))
      grind
    · show (h + h) / (1 + h * h) = (2 * (h * d * d)) / (d * d + h * d * (h * d))
      grind
  rw [e]
  refine un_of D0 ?_ ?_
  · grind
  · have h1 : h.num.natAbs < 2 ^ b := hh.1
    have h2 : h.den < 2 ^ b := hh.2
    have m1 := Nat.mul_lt_mul'' h1 h1
    have m2 := Nat.mul_lt_mul'' h2 h2
    have e3 : (2 : Nat) ^ (2 * b + 1) = 2 * (2 ^ b * 2 ^ b) := by rw [Nat.pow_succ, Nat.two_mul, Nat.pow_add]; omega
    have e4 : ((h.den : Int) * h.den + h.num * h.num).natAbs ≤ h.den * h.den + h.num.natAbs * h.num.natAbs := by
      refine Nat.le_trans (Int.natAbs_add_le _ _) ?_
      rw [Int.natAbs_mul, Int.natAbs_mul, Int.natAbs_natCast]
      exact Nat.le_refl _
    omega
theorem sz_kn3 {k n : Nat} (h0 : 0 < n) (hk : k ≤ n) (hn : n < 4) : Sz 2 (((k : Int) : Rat) / ((n : Int) : Rat)) := Sz.of (by omega) (by show k < 4; omega) (by show n < 4; omega)
theorem steps_szU {u : Vc} {h : Rat} {n a b : Nat} (hu : Un u) (su : SzV a u) (hh : Sz b h) (hn : 0 < n) (hn' : n < 4) : ∀ x ∈ stepsL u h n, SzV (a + (2 * (b + 2) + 1)) x := by
  intro x hx
  unfold stepsL at hx
  obtain ⟨k, hk, rfl⟩ := List.mem_map.mp hx
  have hk := List.mem_range.mp hk
  exact rot_szU hu (tb_un _) su (tb_szU (hh.mul (sz_kn3 (k := k + 1) hn (by omega) hn')))
theorem qres_szU {u v : Vc} {n a b : Nat} (hu : SzV a u) (hv : SzV b v) (h1 : Un u) (h2 : Un v) (hn : 0 < n) (hn' : n < 4) : ∀ x ∈ qres u v n, SzV (3 * a + 2 * b + 7) x := by
  have key : ∀ j, ∀ x ∈ qf u v n j, SzV (a + 7) x := by
    intro j
    induction j with
    | zero =>
      intro x hx
      rw [List.mem_singleton.mp hx]
      exact hu.mono (by omega)
    | succ j ih =>
      intro x hx
      have hx : x ∈ (if Stp v (qv u v j) then qf u v n j else qf u v n j ++ stepsL (qv u v j) 1 n) := hx
      split at hx
      · exact ih x hx
      · rcases List.mem_append.mp hx with h | h
        · exact ih x h
        · exact (steps_szU (qv_un h1 j) (qv_sz hu j) (sz1 (Nat.le_refl 1)) hn hn' x h).mono (by omega)
  intro x hx
  unfold qres at hx
  split at hx
  · exact (key 4 x hx).mono (by omega)
  · rename_i hq
    rcases List.mem_append.mp hx with h | h
    · exact (key 4 x h).mono (by omega)
    · have q4 := qv_un (other := v) h1 4
      have s4 := qv_sz (other := v) hu 4
      have sp : Sz (a + b + 1) (prtQ (qv u v 4) v) := (one_add_sz (opp_un q4 h2) (dc_szU q4 h2 s4 hv)).2 (dot_ne (qv_stop h1 h2) hq)
      exact (steps_szU q4 s4 sp hn hn' x h).mono (by omega)
theorem uni_szU {u v : Vc} {n a b : Nat} (hu : SzV a u) (hv : SzV b v) (h1 : Un u) (h2 : Un v) (hn : 0 < n) (hn' : n < 4) : ∀ x ∈ uni u v n, SzV (3 * a + 3 * b + 7) x := by
  intro x hx
  rcases mem_uni.mp hx with q | q
  · exact (qres_szU hu hv h1 h2 hn hn' x q).mono (by omega)
  · have := (qres_szU hv.mir hu.mir (mir_un h2) (mir_un h1) hn hn' _ q).mir
    rw [mir_mir] at this
    exact this.mono (by omega)
theorem qres_len4 {u v : Vc} {n : Nat} (hn : n < 4) : (qres u v n).length ≤ 16 := by
  have := qf_len (one := u) (other := v) (n := n) 4
  unfold qres
  split
  · omega
  · rw [List.length_append]
    unfold stepsL
    rw [List.length_map, List.length_range]
    omega
theorem mrg_len {a : Vc} : ∀ {xs ys : List Vc}, (mrg a xs ys).length ≤ xs.length + ys.length
  | [], ys => by rw [mrg]; simp
  | x :: xs, [] => by rw [mrg]; simp
  | x :: xs, y :: ys => by
    rw [mrg]
    have i1 := mrg_len (a := a) (xs := xs) (ys := ys)
    have i2 := mrg_len (a := a) (xs := xs) (ys := y :: ys)
    have i3 := mrg_len (a := a) (xs := x :: xs) (ys := ys)
    simp only [List.length_cons] at *
    split
    · simp only [List.length_cons]; omega
    · split
      · simp only [List.length_cons]; omega
      · simp only [List.length_cons]; omega
termination_by xs ys => xs.length + ys.length
theorem uni_len {u v : Vc} {n : Nat} (hn : n < 4) : (uni u v n).length ≤ 32 := by
  have h1 := mrg_len (a := u) (xs := qres u v n) (ys := bck u v n)
  have h2 := qres_len4 (u := u) (v := v) hn
  have h3 := qres_len4 (u := mir v) (v := mir u) hn
  have h4 : (bck u v n).length = (qres (mir v) (mir u) n).length := by unfold bck; rw [List.length_reverse, List.length_map]
  unfold uni
  omega
end
section
open PySem PySem.Spec PyProof.Rows L2
section
variable {L : Sto} {R : PK} {p : Addr} {x : PV} {xs : List PV}
theorem e_pop0 (e : L p = some (.l (x :: xs))) (h : R x (put L p (.l xs))) : mPop (.ref p) [.int 0] L R := ⟨x :: xs, 0, x, e, by decide, by decide, by
  unfold seqIndex?
  simp, rfl, h⟩
end
theorem put_put {L : Sto} {p : Addr} {o o' : SO} : put (put L p o) p o' = put L p o' := by
  funext a
  unfold put
  split <;> rfl
theorem un_neg {u : Vc} (h : Un u) : Un (-u.1, -u.2) := by
  unfold Un at *
  show -u.1 * -u.1 + -u.2 * -u.2 = 1
  grind
theorem e_app {L : Sto} {R : PK} {p : Addr} {xs : List PV} {x : PV} (e : L p = some (.l xs)) (h : xs.length < sizeLine ∧ R .non (put L p (.l (xs ++ [x])))) : mAppend (.ref p) [x] L R := ⟨xs, e, h⟩
theorem ty_list {L : Sto} {p : Addr} {xs : List PV} (e : L p = some (.l xs)) : tyOk "list" (.ref p) L := .inl ⟨rfl, xs, e⟩
end
section
open PySem PySem.Spec PyProof.Rows L2
def s_mirrored_unit : Spec := fun args L R => ∃ u, args = [vc u] ∧ SzV 3999 u ∧ R (vc (mir u)) L
def s_half_of : Spec := fun args L R => ∃ a u, args = [vc a, vc u] ∧ SzV 900 a ∧ SzV 900 u ∧ R (.int (hf a u)) L
def s_is_ahead : Spec := fun args L R => ∃ a u v, args = [vc a, vc u, vc v] ∧ SzV 900 a ∧ SzV 900 u ∧ SzV 900 v ∧ ∀ L', Le L L' → R (.bl (decide (Ahd a u v))) L'
def d_mirrored_unit_0 : WS := sRet (wTup [wCall s_taken [wC (.tup [.int 0, .int 1]), wBin oIx (wVar 0) (wC (.int 0))], wBin oIx (wVar 0) (wC (.int 1))])
def d_half_of_3 : WS := sRet (wIfE (wBin oEq (wVar 1) (wVar 0)) (wC (.int 0)) (wC (.int 2)))
def d_half_of_2a_0 : WS := sRet (wC (.int 3))
def d_half_of_2 : WS := sSeq (sIf (wBin oLt (wVar 2) (wC (.int 0))) d_half_of_2a_0 sNil) d_half_of_3
def d_half_of_1a_0 : WS := sRet (wC (.int 1))
def d_half_of_1 : WS := sSeq (sIf (wBin oGt (wVar 2) (wC (.int 0))) d_half_of_1a_0 sNil) d_half_of_2
def d_half_of_0 : WS := sSeq (sAsg (gN 2) (wCall s_compared [wCall s_cross [wVar 0, wVar 1], wC (.tup [.int 0, .int 1])])) d_half_of_1
def d_is_ahead_2 : WS := sRet (wBin oGt (wCall s_compared [wCall s_cross [wVar 1, wVar 2], wC (.tup [.int 0, .int 1])]) (wC (.int 0)))
def d_is_ahead_1a_0 : WS := sRet (wBin oLt (wBin oIx (wVar 3) (wC (.int 0))) (wBin oIx (wVar 3) (wC (.int 1))))
def d_is_ahead_1 : WS := sSeq (sIf (wBin oNe (wBin oIx (wVar 3) (wC (.int 0))) (wBin oIx (wVar 3) (wC (.int 1)))) d_is_ahead_1a_0 sNil) d_is_ahead_2
def d_is_ahead_0 : WS := sSeq (sAsg (gN 3) (wComp [4] (iAny (wTup [wVar 1, wVar 2])) (gN 4) (wC (.bl true)) (wCall s_half_of [wVar 0, wVar 4]))) d_is_ahead_1
theorem zsub_eq {q : Rat} : (0 : Rat) - q = -q := by grind
theorem ok_mirrored_unit : ∀ args L R, args.length = 1 → s_mirrored_unit args L R → d_mirrored_unit_0 (initE 1 args) L { nx := fun _ L' => R .non L', rt := R } := by
  rintro _ L R _ ⟨u, rfl, hu, h⟩
  unfold d_mirrored_unit_0
  show sRet _ [some (vc u)] L _
  walk_at "ev104"
  rw [fr_zero]
  refine ⟨_, _, rfl, sz0 (by decide), hu.1.mono (by decide), ?_⟩
  walk_at "ev104"
  rw [zsub_eq]
  exact h
theorem hf_cases {a u : Vc} : (if 0 < vcrs a u then (1 : Int) else if vcrs a u < 0 then 3 else if u = a then 0 else 2) = (hf a u : Int) := by
  unfold hf
  split
  · rfl
  · split
    · rfl
    · split <;> rfl
theorem cmp_neg {p q : Rat} : (cmpI p q < 0) ↔ p < q := by
  unfold cmpI
  by_cases h : q < p
  · rw [if_pos h]; exact ⟨fun z => absurd z (by decide), fun z => by grind⟩
  · rw [if_neg h]
    by_cases k : p < q
    · rw [if_pos k]; exact ⟨fun _ => k, fun _ => by decide⟩
    · rw [if_neg k]; exact ⟨fun z => absurd z (by decide), fun z => absurd z k⟩
theorem ok_half_of : ∀ args L R, args.length = 2 → s_half_of args L R → d_half_of_0 (initE 3 args) L { nx := fun _ L' => R .non L', rt := R } := by
  rintro _ L R _ ⟨a, u, rfl, ha, hu, h⟩
  unfold d_half_of_0
  show sSeq _ _ [some (vc a), some (vc u), none] L _
  walk_at "ev104"
  rw [fr_zero]
  refine ⟨_, _, rfl, ha.mono (by decide), hu.mono (by decide), _, _, rfl, (ha.crs hu).B (by decide), sz0 (by decide), ?_⟩
  unfold d_half_of_1 d_half_of_1a_0
  walk_at "ev104"
  simp only [cmp_pos]
  rw [← hf_cases] at h
  by_cases h1 : 0 < vcrs a u
  · rw [if_pos h1] at h ⊢; exact h
  rw [if_neg h1] at h ⊢
  unfold d_half_of_2 d_half_of_2a_0
  walk_at "ev104"
  simp only [cmp_neg]
  by_cases h2 : vcrs a u < 0
  · rw [if_pos h2] at h ⊢; exact h
  rw [if_neg h2] at h ⊢
  unfold d_half_of_3
  walk_at "ev104"
  by_cases h3 : u = a
  · rw [if_pos h3] at h ⊢; exact h
  rw [if_neg h3] at h ⊢; exact h
theorem ahd_if {a u v : Vc} : decide (Ahd a u v) = (if hf a u = hf a v then decide (0 < vcrs u v) else decide (hf a u < hf a v)) := by
  unfold Ahd
  split <;> rfl
theorem ok_is_ahead : ∀ args L R, args.length = 3 → s_is_ahead args L R → d_is_ahead_0 (initE 5 args) L { nx := fun _ L' => R .non L', rt := R } := by
  rintro _ L R _ ⟨a, u, v, rfl, ha, hu, hv, h⟩
  rw [ahd_if] at h
  unfold d_is_ahead_0
  show sSeq _ _ [some (vc a), some (vc u), some (vc v), none, none] L _
  walk_at "ev104"
  refine ⟨trivial, ?_⟩
  walk_at "ev104"
  refine ⟨_, _, rfl, ha, hu, by show 0 < 16777216; decide, trivial, ?_⟩
  walk_at "ev104"
  refine ⟨_, _, rfl, ha, hv, by show 1 < 16777216; decide, trivial, ?_⟩
  intro p hp
  have e := put_same (L := L) (a := p) (o := .l ([] ++ [PV.int (hf a u)] ++ [PV.int (hf a v)]))
  have hl := Le.new (o := .l ([] ++ [PV.int (hf a u)] ++ [PV.int (hf a v)])) hp
  generalize put L p _ = L1 at *
  have h := h L1 hl
  unfold d_is_ahead_1
  walk_at "ev104"
  rw [ixl0 e, ixl1 e]
  walk_at "ev104"
  by_cases hq : hf a u = hf a v
  · rw [if_pos hq] at h
    rw [hq]
    walk_at "ev104"
    unfold d_is_ahead_2
    walk_at "ev104"
    rw [fr_zero]
    refine ⟨_, _, rfl, hu.mono (by decide), hv.mono (by decide), _, _, rfl, (hu.crs hv).B (by decide), sz0 (by decide), ?_⟩
    walk_at "ev104"
    simp only [cmp_pos]
    exact h
  · rw [if_neg hq] at h
    rw [if_neg (fun z => hq (by omega))]
    unfold d_is_ahead_1a_0
    walk_at "ev104"
    rw [ixl0 e, ixl1 e]
    walk_at "ev104"
    rw [show decide ((hf a u : Int) < (hf a v : Int)) = decide (hf a u < hf a v) from decide_eq_decide.mpr (by omega)]
    exact h
def s_units_between : Spec := fun args L R => ∃ (u v : Vc) (n a b : Nat), args = [vc u, vc v, .int n] ∧ Un u ∧ Un v ∧ SzV a u ∧ SzV b v ∧ a + b ≤ 200 ∧ 0 < n ∧ n < 4 ∧ Fresh L R ((uni u v n).map vc)
def d_units_between_5 : WS := sRet (wBin oAdd (wBin oAdd (wVar 5) (wVar 3)) (wVar 4))
def d_units_between_4w_0a_1 : WS := sExpr (wMt "list" mPop (wVar 4) [wC (.int 0)])
def d_units_between_4w_0a_0 : WS := sSeq (sExpr (wMt "list" mAppend (wVar 5) [wMt "list" mPop (wVar 3) [wC (.int 0)]])) d_units_between_4w_0a_1
def d_units_between_4w_0b_0a_0 : WS := sExpr (wMt "list" mAppend (wVar 5) [wMt "list" mPop (wVar 3) [wC (.int 0)]])
def d_units_between_4w_0b_0b_0 : WS := sExpr (wMt "list" mAppend (wVar 5) [wMt "list" mPop (wVar 4) [wC (.int 0)]])
def d_units_between_4w_0b_0 : WS := sIf (wCall s_is_ahead [wVar 0, wBin oIx (wVar 3) (wC (.int 0)), wBin oIx (wVar 4) (wC (.int 0))]) d_units_between_4w_0b_0a_0 d_units_between_4w_0b_0b_0
def d_units_between_4w_0 : WS := sIf (wBin oEq (wBin oIx (wVar 3) (wC (.int 0))) (wBin oIx (wVar 4) (wC (.int 0)))) d_units_between_4w_0a_0 d_units_between_4w_0b_0
def d_units_between_4 : WS := sSeq (sWhile (wAnd (wBin oGt (wBi gLen [wVar 3]) (wC (.int 0))) (wBin oGt (wBi gLen [wVar 4]) (wC (.int 0)))) d_units_between_4w_0) d_units_between_5
def d_units_between_3 : WS := sSeq (sAsg (gN 5) (wLst [])) d_units_between_4
def d_units_between_2 : WS := sSeq (sAsg (gN 4) (wComp [6] (iRv (wVar 4)) (gN 6) (wC (.bl true)) (wCall s_mirrored_unit [wVar 6]))) d_units_between_3
def d_units_between_1 : WS := sSeq (sAsg (gN 4) (wCall s_quarters_between [wCall s_mirrored_unit [wVar 1], wCall s_mirrored_unit [wVar 0], wVar 2])) d_units_between_2
def d_units_between_0 : WS := sSeq (sAsg (gN 3) (wCall s_quarters_between [wVar 0, wVar 1, wVar 2])) d_units_between_1
theorem comp_map {α : Type} {f g : α → PV} {keep : Sto → Prop} {we : WE} {env : Env} {k : Nat} {L : Sto} {R : List PV → Sto → Prop} {xs : List α} (hk : ∀ l, Le L l → keep l) (hn : xs.length < 16000000)
    (hw : ∀ x ∈ xs, ∀ l R', Le L l → (∀ l', Le L l' → R' (g x) l') → we (env.set k (some (f x))) l R') (hR : ∀ l, Le L l → R (xs.map g) l) : compW keep (gN k) (wC (.bl true)) we env (xs.map f) [] L R := by
  refine comp_i (fun i acc l => Le L l ∧ acc = (xs.take i).map g) ⟨.refl, rfl⟩ (fun i a l q => hk l q.1) (by rw [List.length_map]; show _ < 16777216; omega) ?_ ?_
  · rintro i t acc l K hx ⟨hl, rfl⟩ hi hK
    rw [List.getElem?_map] at hx
    cases q : xs[i]? with
    | none => rw [q] at hx; cases hx
    | some x =>
      rw [q] at hx
      cases hx
      walk_at "ev104"
      refine hw x (List.mem_of_getElem? q) l _ hl fun l' hl' => ?_
      refine ⟨?_, ?_⟩
      · rw [List.length_map, List.length_take]; show _ < 16777216; omega
      · refine hK _ _ ?_ ⟨hl', ?_⟩
        · rw [List.length_append, List.length_map, List.length_take]
          show _ + 1 ≤ i + 1
          omega
        · rw [List.take_add_one, q, List.map_append]; rfl
  · rintro acc l ⟨hl, rfl⟩
    rw [List.length_map, List.take_length]
    exact hR l hl
theorem ok_units_between : ∀ args L R, args.length = 3 → s_units_between args L R → d_units_between_0 (initE 7 args) L { nx := fun _ L' => R .non L', rt := R } := by
  rintro _ L R _ ⟨u, v, n, a, b, rfl, hu, hv, su, sv, hab, hn0, hn, k⟩
  have hsz : ∀ x ∈ uni u v n, SzV 900 x := fun x hx => (uni_szU su sv hu hv hn0 hn x hx).mono (by omega)
  have hul := uni_len (u := u) (v := v) hn
  have l1 := qres_len4 (u := u) (v := v) hn
  have l2 := qres_len4 (u := mir v) (v := mir u) hn
  have lB : (bck u v n).length = (qres (mir v) (mir u) n).length := by unfold bck; rw [List.length_reverse, List.length_map]
  unfold d_units_between_0
  show sSeq _ _ [some (vc u), some (vc v), some (.int n), none, none, none, none] L _
  walk_at "ev104"
  refine ⟨u, v, n, a, b, rfl, hu, hv, su, sv, hab, hn0, by omega, ?_⟩
  intro p3 L1 hp3 hl1 e3
  unfold d_units_between_1
  walk_at "ev104"
  refine ⟨_, rfl, sv.mono (by omega), _, rfl, su.mono (by omega), ?_⟩
  refine ⟨mir v, mir u, n, b, a, rfl, mir_un hv, mir_un hu, sv.mir, su.mir, by omega, hn0, by omega, ?_⟩
  intro p4 L2 hp4 hl2 e4
  unfold d_units_between_2
  walk_at "ev104"
  rw [e_rvK e4, ← List.map_reverse]
  refine comp_map (g := fun x => vc (mir x)) (fun l hl => hl _ _ e4) (by rw [List.length_reverse]; omega) ?_ ?_
  · intro x hx l R' hl hR'
    walk_at "ev104"
    have hx' : x ∈ qres (mir v) (mir u) n := by simpa using hx
    exact ⟨x, rfl, (qres_szU sv.mir su.mir (mir_un hv) (mir_un hu) hn0 hn x hx').mono (by omega), hR' l hl⟩
  intro L3 hl3 p4' hp4'
  unfold d_units_between_3
  walk_at "ev104"
  intro p5 hp5
  have eB : ((qres (mir v) (mir u) n).reverse.map fun x => vc (mir x)) = (bck u v n).map vc := by
    unfold bck
    rw [← List.map_reverse, List.map_map]
    rfl
  rw [eB] at hp5 ⊢
  have e3' : L3 p3 = some (.l ((qres u v n).map vc)) := hl3 _ _ (hl2 _ _ e3)
  have n34 : p3 ≠ p4' := ne_adr hp4' e3'
  have n35 : p3 ≠ p5 := ne_adr hp5 (by rw [put_ne n34]; exact e3')
  have n45 : p4' ≠ p5 := ne_adr hp5 put_same
  have f4 : L p4' = none := ((hl1.trans hl2).trans hl3).free hp4'
  have f5 : L p5 = none := by
    have : L3 p5 = none := by rw [put_ne (fun z => n45 z.symm)] at hp5; exact hp5
    exact ((hl1.trans hl2).trans hl3).free this
  have f3 : L p3 = none := hp3
  have hle : Le L (put (put L3 p4' (.l ((bck u v n).map vc))) p5 (.l [])) := (((hl1.trans hl2).trans hl3).put f4).put f5
  have d3 : (put (put L3 p4' (.l ((bck u v n).map vc))) p5 (.l [])) p3 = some (.l ((qres u v n).map vc)) := by rw [put_ne n35, put_ne n34]; exact e3'
  have d4 : (put (put L3 p4' (.l ((bck u v n).map vc))) p5 (.l [])) p4' = some (.l ((bck u v n).map vc)) := by rw [put_ne n45, put_same]
  have d5 : (put (put L3 p4' (.l ((bck u v n).map vc))) p5 (.l [])) p5 = some (.l (([] : List Vc).map vc)) := put_same
  generalize put (put L3 p4' (.l ((bck u v n).map vc))) p5 (.l []) = L4 at *
  unfold d_units_between_4
  walk_at "ev104"
  refine ⟨fun m env l => ∃ T B F : List Vc, env = [some (vc u), some (vc v), some (.int n), some (.ref p3), some (.ref p4'), some (.ref p5), none] ∧ m = T.length + B.length ∧ F ++ mrg u T B = uni u v n ∧ T.length ≤ 16 ∧ B.length ≤ 16 ∧
    Le L l ∧ l p3 = some (.l (T.map vc)) ∧ l p4' = some (.l (B.map vc)) ∧ l p5 = some (.l (F.map vc)), ⟨_, qres u v n, bck u v n, [], rfl, rfl, rfl, l1, by omega, hle, d3, d4, d5⟩, ?_⟩
  rintro m env l ⟨T, B, F, rfl, rfl, hm, hT, hB, hl, c3, c4, c5⟩
  have hF : F.length ≤ 32 := by have := congrArg List.length hm; rw [List.length_append] at this; omega
  have fin : mrg u T B = T ++ B → d_units_between_5 [some (vc u), some (vc v), some (.int n), some (.ref p3), some (.ref p4'), some (.ref p5), none] l { nx := fun _ L' => R .non L', rt := R } := by
    intro hq
    unfold d_units_between_5
    walk_at "ev104"
    refine e_cat c5 c3 ⟨by rw [List.length_map, List.length_map]; show _ ≤ 16777216; omega, fun p6 h6 => ?_⟩
    refine e_cat (xs := F.map vc ++ T.map vc) put_same (by rw [put_ne (ne_adr h6 c4)]; exact c4) ⟨by rw [List.length_append, List.length_map, List.length_map, List.length_map]; show _ ≤ 16777216; omega, fun p7 h7 => ?_⟩
    have f6 := hl.free h6
    have f7 : L p7 = none := (hl.put f6).free h7
    refine k p7 _ f7 ((hl.put f6).put f7) ?_
    rw [put_same, ← List.map_append, ← List.map_append, List.append_assoc, ← hq, hm]
  walk_at "ev104"
  rw [e_lenl c3]
  walk_at "ev104"
  cases T with
  | nil =>
    rw [if_neg (by decide)]
    exact fin (by rw [mrg]; rfl)
  | cons x T =>
    rw [if_pos (by rw [List.length_map, List.length_cons]; omega), e_lenl c4]
    walk_at "ev104"
    cases B with
    | nil =>
      rw [if_neg (by decide)]
      exact fin (by rw [mrg, List.append_nil])
    | cons y B =>
      rw [if_pos (by rw [List.length_map, List.length_cons]; omega)]
      have hmem : ∀ z, z ∈ mrg u (x :: T) (y :: B) → SzV 900 z := fun z hz => hsz z (by rw [← hm]; exact List.mem_append_right _ hz)
      have sx := hmem x (mrg_mem.mpr (.inl List.mem_cons_self))
      have sy := hmem y (mrg_mem.mpr (.inr List.mem_cons_self))
      rw [mrg] at hm
      rw [List.length_cons] at hT hB
      have pushF : ∀ (z : Vc) {l' : Sto} {K : Prop}, Le L l' → l' p5 = some (.l (F.map vc)) → (Le L (put l' p5 (.l ((F ++ [z]).map vc))) → K) → K := fun z l' K h1 h2 h3 => h3 (h1.put f5)
      unfold d_units_between_4w_0
      walk_at "ev104"
      rw [ixl0 c3, ixl0 c4]
      walk_at "ev104"
      by_cases hxy : x = y
      · rw [if_pos hxy] at hm
        rw [if_pos hxy]
        unfold d_units_between_4w_0a_0
        walk_at "ev104"
        refine ⟨ty_list c5, ty_list c3, e_pop0 c3 ?_⟩
        refine e_app (by rw [put_ne (fun z => n35 z.symm)]; exact c5) ⟨by rw [List.length_map]; show _ < 16777216; omega, ?_⟩
        unfold d_units_between_4w_0a_1
        walk_at "ev104"
        have c4' : (put (put l p3 (.l (T.map vc))) p5 (.l (F.map vc ++ [vc x]))) p4' = some (.l (vc y :: B.map vc)) := by rw [put_ne n45, put_ne (fun z => n34 z.symm)]; exact c4
        refine ⟨ty_list c4', e_pop0 c4' ?_⟩
        refine ⟨_, ?_, T, B, F ++ [x], rfl, ?_, by omega, by omega, (((hl.put f3).put f5).put f4), ?_, put_same, ?_⟩
        · rw [List.length_cons, List.length_cons]; omega
        · rw [List.append_assoc]; exact hm
        · rw [put_ne n34, put_ne n35, put_same]
        · rw [put_ne (fun z => n45 z.symm), put_same, List.map_append]; rfl
      · rw [if_neg hxy] at hm
        rw [if_neg hxy]
        unfold d_units_between_4w_0b_0
        walk_at "ev104"
        rw [ixl0 c3, ixl0 c4]
        refine ⟨_, _, _, rfl, su.mono (by omega), sx, sy, fun l' hl' => ?_⟩
        have c3 := hl' _ _ c3
        have c4 := hl' _ _ c4
        have c5 := hl' _ _ c5
        have hl := hl.trans hl'
        walk_at "ev104"
        by_cases hA : Ahd u x y
        · rw [if_pos hA] at hm
          rw [if_pos hA]
          unfold d_units_between_4w_0b_0a_0
          walk_at "ev104"
          refine ⟨ty_list c5, ty_list c3, e_pop0 c3 ?_⟩
          refine e_app (by rw [put_ne (fun z => n35 z.symm)]; exact c5) ⟨by rw [List.length_map]; show _ < 16777216; omega, ?_⟩
          refine ⟨_, ?_, T, y :: B, F ++ [x], rfl, ?_, by omega, by rw [List.length_cons]; omega, ((hl.put f3).put f5), ?_, ?_, ?_⟩
          · rw [List.length_cons, List.length_cons]; omega
          · rw [List.append_assoc]; exact hm
          · rw [put_ne n35, put_same]
          · rw [put_ne n45, put_ne (fun z => n34 z.symm)]; exact c4
          · rw [put_same, List.map_append]; rfl
        · rw [if_neg hA] at hm
          rw [if_neg hA]
          unfold d_units_between_4w_0b_0b_0
          walk_at "ev104"
          refine ⟨ty_list c5, ty_list c4, e_pop0 c4 ?_⟩
          refine e_app (by rw [put_ne (fun z => n45 z.symm)]; exact c5) ⟨by rw [List.length_map]; show _ < 16777216; omega, ?_⟩
          refine ⟨_, ?_, x :: T, B, F ++ [y], rfl, ?_, by rw [List.length_cons]; omega, by omega, ((hl.put f4).put f5), ?_, ?_, ?_⟩
          · rw [List.length_cons, List.length_cons]; omega
          · rw [List.append_assoc]; exact hm
          · rw [put_ne n35, put_ne n34]; exact c3
          · rw [put_ne n45, put_same]
          · rw [put_same, List.map_append]; rfl
end
section
open PySem PySem.Spec PyProof.Rows L2
theorem map_get {α : Type} {f : α → PV} {xs : List α} {i : Nat} {t : PV} (h : (xs.map f)[i]? = some t) : ∃ x, xs[i]? = some x ∧ t = f x := by
  rw [List.getElem?_map] at h
  cases q : xs[i]? with
  | none => rw [q] at h; cases h
  | some x => rw [q] at h; cases h; exact ⟨x, rfl, rfl⟩
theorem zip_get {α β : Type} {f : α → PV} {g : β → PV} {xs : List α} {ys : List β} {i : Nat} {t : PV} (h : (zipL (xs.map f) (ys.map g))[i]? = some t) : ∃ x y, xs[i]? = some x ∧ ys[i]? = some y ∧ t = .tup [f x, g y] := by
  obtain ⟨a, b, h1, h2, rfl⟩ := zipL_get h
  obtain ⟨x, hx, rfl⟩ := map_get h1
  obtain ⟨y, hy, rfl⟩ := map_get h2
  exact ⟨x, y, hx, hy, rfl⟩
theorem zip_len {xs ys : List PV} : (zipL xs ys).length = min xs.length ys.length := by unfold zipL; rw [List.length_zipWith]
theorem cut_d {α : Type} {xs : List α} {k : Nat} : cutP xs (some (k : Int)) none = xs.drop k := by
  unfold cutP
  rw [HT.sIx_nat]
  show List.take (xs.length - min k xs.length) (List.drop (min k xs.length) xs) = xs.drop k
  by_cases h : k ≤ xs.length
  · rw [Nat.min_eq_left h]
    exact List.take_of_length_le (by rw [List.length_drop]; exact Nat.le_refl _)
  · rw [Nat.min_eq_right (by omega), Nat.sub_self, List.take_zero, List.drop_of_length_le (by omega)]
theorem cut_1d {α : Type} {xs : List α} : cutP xs (some 1) none = xs.drop 1 := cut_d (k := 1)
theorem cut_2d {α : Type} {xs : List α} : cutP xs (some 2) none = xs.drop 2 := cut_d (k := 2)
/-- the least dot of two neighbours -/
def lsD (us : List Vc) : Rat := match us with
  | u :: v :: _ => ((us.drop 1).zip (us.drop 2)).foldl (fun f p => if vdot p.1 p.2 < f then vdot p.1 p.2 else f) (vdot u v)
  | _ => 0
def USm (us : List Vc) : Prop := (∀ x ∈ us, Un x ∧ SzV 800 x) ∧ 2 ≤ us.length ∧ us.length ≤ 1000
def s_least_dot : Spec := fun args L R => ∃ p us, args = [.ref p] ∧ L p = some (.l (us.map vc)) ∧ USm us ∧ ∀ L', Le L L' → R (fr (lsD us)) L'
def s_tip_of : Spec := fun args L R => ∃ u v, args = [vc u, vc v] ∧ SzV 450 u ∧ SzV 450 v ∧ 1 + vdot u v ≠ 0 ∧ R (vc ((u.1 + v.1) / (1 + vdot u v), (u.2 + v.2) / (1 + vdot u v))) L
def d_least_dot_2 : WS := sRet (wVar 1)
def d_least_dot_1f_1a_0 : WS := sAsg (gN 1) (wVar 4)
def d_least_dot_1f_1 : WS := sIf (wBin oLt (wCall s_compared [wVar 4, wVar 1]) (wC (.int 0))) d_least_dot_1f_1a_0 sNil
def d_least_dot_1f_0 : WS := sSeq (sAsg (gN 4) (wCall s_dot [wVar 2, wVar 3])) d_least_dot_1f_1
def d_least_dot_1 : WS := sSeq (sFor (iZp (wSl (wVar 0) (wSo (wC (.int 1))) wNo) (wSl (wVar 0) (wSo (wC (.int 2))) wNo)) (gT 2 (gsL [gN 2, gN 3])) d_least_dot_1f_0) d_least_dot_2
def d_least_dot_0 : WS := sSeq (sAsg (gN 1) (wCall s_dot [wBin oIx (wVar 0) (wC (.int 0)), wBin oIx (wVar 0) (wC (.int 1))])) d_least_dot_1
def d_tip_of_2 : WS := sRet (wTup [wCall s_over [wBin oIx (wVar 2) (wC (.int 0)), wVar 3], wCall s_over [wBin oIx (wVar 2) (wC (.int 1)), wVar 3]])
def d_tip_of_1 : WS := sSeq (sAsg (gN 3) (wCall s_added [wC (.tup [.int 1, .int 1]), wCall s_dot [wVar 0, wVar 1]])) d_tip_of_2
def d_tip_of_0 : WS := sSeq (sAsg (gN 2) (wCall s_plus [wVar 0, wVar 1])) d_tip_of_1
theorem least_inv {us : List Vc} (h : USm us) : ∀ i, ∀ f, ((((us.drop 1).zip (us.drop 2)).take i).foldl (fun f (p : Vc × Vc) => if vdot p.1 p.2 < f then vdot p.1 p.2 else f) f = f) ∨ ∃ x ∈ us, ∃ y ∈ us, (((us.drop 1).zip (us.drop 2)).take i).foldl (fun f (p : Vc × Vc) => if vdot p.1 p.2 < f then vdot p.1 p.2 else f) f = vdot x y := by
  intro i f
  have key : ∀ (zs : List (Vc × Vc)), (∀ z ∈ zs, z.1 ∈ us ∧ z.2 ∈ us) → ∀ f, (zs.foldl (fun f (p : Vc × Vc) => if vdot p.1 p.2 < f then vdot p.1 p.2 else f) f = f) ∨ ∃ x ∈ us, ∃ y ∈ us, zs.foldl (fun f (p : Vc × Vc) => if vdot p.1 p.2 < f then vdot p.1 p.2 else f) f = vdot x y := by
    intro zs
    induction zs with
    | nil => intro _ f; exact .inl rfl
    | cons z zs ih =>
      intro hz f
      rw [List.foldl_cons]
      have hh := hz z List.mem_cons_self
      have ih := ih fun w hw => hz w (List.mem_cons_of_mem _ hw)
      split
      · rcases ih (vdot z.1 z.2) with q | q
        · exact .inr ⟨z.1, hh.1, z.2, hh.2, q⟩
        · exact .inr q
      · exact ih f
  refine key _ (fun z hz => ?_) f
  have hz := List.mem_of_mem_take hz
  obtain ⟨a, b⟩ := z
  exact ⟨List.mem_of_mem_drop (List.of_mem_zip hz).1, List.mem_of_mem_drop (List.of_mem_zip hz).2⟩
theorem dot_szS {us : List Vc} (h : USm us) {x y : Vc} (hx : x ∈ us) (hy : y ∈ us) : Sz 1600 (vdot x y) := dot_szU (h.1 x hx).1 (h.1 y hy).1 (h.1 x hx).2 (h.1 y hy).2
theorem ok_least_dot : ∀ args L R, args.length = 1 → s_least_dot args L R → d_least_dot_0 (initE 5 args) L { nx := fun _ L' => R .non L', rt := R } := by
  rintro _ L R _ ⟨p, us, rfl, e, hu, h⟩
  obtain ⟨u, v, r, rfl⟩ : ∃ u v r, us = u :: v :: r := by
    match us, hu.2.1 with
    | u :: v :: r, _ => exact ⟨u, v, r, rfl⟩
  have mu : u ∈ u :: v :: r := List.mem_cons_self
  have mv : v ∈ u :: v :: r := List.mem_cons_of_mem _ List.mem_cons_self
  unfold d_least_dot_0
  show sSeq _ _ [some (.ref p), none, none, none, none] L _
  walk_at "ev104"
  rw [ixl0 (x := vc u) (xs := (v :: r).map vc) e, ixl1 (x := vc u) (y := vc v) (xs := r.map vc) e]
  refine ⟨_, _, rfl, (hu.1 u mu).2.mono (by decide), (hu.1 v mv).2.mono (by decide), ?_⟩
  unfold d_least_dot_1
  walk_at "ev104"
  rw [e_sll e]
  intro p1 hp1
  have e1 := Le.new (o := .l (cutP ((u :: v :: r).map vc) (some 1) none)) hp1 _ _ e
  rw [e_sll e1]
  intro p2 hp2
  have d1 := Le.new (o := .l (cutP ((u :: v :: r).map vc) (some 2) none)) hp2 p1 _ put_same
  have hle := (Le.new (o := .l (cutP ((u :: v :: r).map vc) (some 1) none)) hp1).trans (Le.new (o := .l (cutP ((u :: v :: r).map vc) (some 2) none)) hp2)
  have d2 := put_same (L := put L p1 (.l (cutP ((u :: v :: r).map vc) (some 1) none))) (a := p2) (o := .l (cutP ((u :: v :: r).map vc) (some 2) none))
  generalize put (put L p1 _) p2 _ = L2 at *
  rw [cut_1d, ← List.map_drop] at d1
  rw [cut_2d, ← List.map_drop] at d2
  walk_at "ev104"
  rw [e_zpK d1 d2]
  have hD := h L2 hle
  unfold lsD at hD
  simp only at hD
  refine loop_i (fun i e l => l = L2 ∧ ∃ z2 z3 z4, e = [some (.ref p), some (fr ((((((u :: v :: r).drop 1).zip ((u :: v :: r).drop 2)).take i).foldl (fun f p => if vdot p.1 p.2 < f then vdot p.1 p.2 else f) (vdot u v)))), z2, z3, z4]) ⟨rfl, _, _, _, rfl⟩ (fun i e l q => by rw [q.1]; exact ⟨d1, d2⟩) ?_ ?_
  · rintro i t e l K hx ⟨rfl, z2, z3, z4, rfl⟩ hK
    obtain ⟨x, y, hx1, hy1, rfl⟩ := zip_get hx
    have mx := List.mem_of_mem_drop (List.mem_of_getElem? hx1)
    have my := List.mem_of_mem_drop (List.mem_of_getElem? hy1)
    have hz : (((u :: v :: r).drop 1).zip ((u :: v :: r).drop 2))[i]? = some (x, y) := by
      rw [List.zip, List.getElem?_zipWith, hx1, hy1]
    have hs : (((u :: v :: r).drop 1).zip ((u :: v :: r).drop 2)).take (i + 1) = (((u :: v :: r).drop 1).zip ((u :: v :: r).drop 2)).take i ++ [(x, y)] := by rw [List.take_add_one, hz]; rfl
    have sf : Sz 1600 (((((u :: v :: r).drop 1).zip ((u :: v :: r).drop 2)).take i).foldl (fun f p => if vdot p.1 p.2 < f then vdot p.1 p.2 else f) (vdot u v)) := by
      rcases least_inv hu i (vdot u v) with q | ⟨a, ha, b, hb, q⟩
      · rw [q]; exact dot_szS hu mu mv
      · rw [q]; exact dot_szS hu ha hb
    simp only [hs, List.foldl_append, List.foldl_cons, List.foldl_nil] at hK
    generalize ((((u :: v :: r).drop 1).zip ((u :: v :: r).drop 2)).take i).foldl (fun f p => if vdot p.1 p.2 < f then vdot p.1 p.2 else f) (vdot u v) = f at *
    walk_at "ev104"
    refine ⟨rfl, ?_⟩
    unfold d_least_dot_1f_0
    walk_at "ev104"
    refine ⟨_, _, rfl, (hu.1 x mx).2.mono (by decide), (hu.1 y my).2.mono (by decide), ?_⟩
    unfold d_least_dot_1f_1
    walk_at "ev104"
    refine ⟨_, _, rfl, (dot_szS hu mx my).mono (by decide), sf.mono (by decide), ?_⟩
    walk_at "ev104"
    simp only [cmp_neg]
    by_cases hq : vdot x y < f
    · rw [if_pos hq] at hK ⊢
      unfold d_least_dot_1f_1a_0
      walk_at "ev104"
      exact hK _ _ ⟨rfl, _, _, _, rfl⟩
    · rw [if_neg hq] at hK ⊢
      exact hK _ _ ⟨rfl, _, _, _, rfl⟩
  · rintro e l ⟨rfl, z2, z3, z4, rfl⟩
    have hl : (zipL (((u :: v :: r).drop 1).map vc) (((u :: v :: r).drop 2).map vc)).length = (((u :: v :: r).drop 1).zip ((u :: v :: r).drop 2)).length := by
      rw [zip_len, List.length_zip, List.length_map, List.length_map]
    rw [hl, List.take_length]
    unfold d_least_dot_2
    walk_at "ev104"
    exact hD
theorem ok_tip_of : ∀ args L R, args.length = 2 → s_tip_of args L R → d_tip_of_0 (initE 4 args) L { nx := fun _ L' => R .non L', rt := R } := by
  rintro _ L R _ ⟨u, v, rfl, hu, hv, hn, h⟩
  unfold d_tip_of_0
  show sSeq _ _ [some (vc u), some (vc v), none, none] L _
  walk_at "ev104"
  refine ⟨_, _, rfl, hu.mono (by decide), hv.mono (by decide), ?_⟩
  unfold d_tip_of_1
  walk_at "ev104"
  rw [fr_one]
  have sd := hu.dot hv
  refine ⟨_, _, rfl, hu.mono (by decide), hv.mono (by decide), _, _, rfl, sz1 (by decide), sd.mono (by decide), ?_⟩
  unfold d_tip_of_2
  walk_at "ev104"
  have s1 := (hu.add hv).1.mono (b := 4000) (by decide)
  have s2 := (hu.add hv).2.mono (b := 4000) (by decide)
  have su := ((sz1 (Nat.le_refl 1)).add sd).mono (b := 4000) (by decide)
  refine ⟨_, _, rfl, hn, s1, su, ?_⟩
  walk_at "ev104"
  refine ⟨_, _, rfl, hn, s2, su, ?_⟩
  walk_at "ev104"
  exact h
end
section
open PySem PySem.Spec PyProof.Rows L2
def HasLen (v : Vc) : Prop := ∃ r : Rat, 0 < r ∧ r * r = vdot v v
noncomputable def len (v : Vc) : Rat := @dite _ (HasLen v) (Classical.propDecidable _) (fun h => h.choose) fun _ => 0
noncomputable def uv (v : Vc) : Vc := (v.1 / len v, v.2 / len v)
theorem sq_inj {a b : Rat} (ha : 0 ≤ a) (hb : 0 ≤ b) (h : a * a = b * b) : a = b := by
  have e : (a - b) * (a + b) = 0 := by grind
  rcases Rat.mul_eq_zero.mp e with q | q
  · grind
  · grind
theorem len_spec {v : Vc} (h : HasLen v) : 0 < len v ∧ len v * len v = vdot v v := by
  unfold len
  rw [dif_pos h]
  exact h.choose_spec
theorem len_of {v : Vc} {r : Rat} (h : 0 < r) (e : r * r = vdot v v) : HasLen v ∧ len v = r := by
  have hl : HasLen v := ⟨r, h, e⟩
  obtain ⟨h1, h2⟩ := len_spec hl
  exact ⟨hl, sq_inj (Rat.le_of_lt h1) (Rat.le_of_lt h) (by rw [h2, e])⟩
theorem len_root {v : Vc} (h : HasLen v) : RootIs (vdot v v) (fr (len v)) := by
  obtain ⟨h1, h2⟩ := len_spec h
  exact .inr ⟨_, rfl, Rat.le_of_lt h1, h2⟩
theorem uv_un {v : Vc} (h : HasLen v) : Un (uv v) := by
  obtain ⟨h1, h2⟩ := len_spec h
  have k : len v ≠ 0 := by grind
  unfold Un uv
  show v.1 / len v * (v.1 / len v) + v.2 / len v * (v.2 / len v) = 1
  rw [div2 k k, div2 k k, div_a]
  have e : v.1 * v.1 + v.2 * v.2 = len v * len v := h2.symm
  rw [e]
  generalize len v = l at *
  grind
theorem int_of_sq {q : Rat} {n : Int} (h : q * q = (n : Rat)) : q = (q.num : Rat) := by
  obtain ⟨h1, h2⟩ := sq_num q
  have hd : q.den * q.den = 1 := by rw [← h2, h]; rfl
  have hd1 : q.den = 1 := Nat.eq_one_of_mul_eq_one_left hd
  have e := num_den q
  rw [hd1] at e
  have : ((1 : Nat) : Int) = 1 := rfl
  rw [this] at e
  have o : ((1 : Int) : Rat) = 1 := rfl
  rw [o] at e
  grind
/-- how long the figures of a length and of a unit are -/
theorem len_int {v : Vc} (h : HasLen v) : ∃ (X Y Z : Int) (D : Nat), 0 < Z ∧ 0 < D ∧ v = ((X : Rat) / ((D : Int) : Rat), (Y : Rat) / ((D : Int) : Rat)) ∧ X * X + Y * Y = Z * Z ∧ len v = (Z : Rat) / ((D : Int) : Rat) ∧
    D = v.1.den * v.2.den ∧ X = v.1.num * v.2.den ∧ Y = v.2.num * v.1.den := by
  obtain ⟨h1, h2⟩ := len_spec h
  have d1 := den_ne v.1
  have d2 := den_ne v.2
  have n1 := num_eq' v.1
  have n2 := num_eq' v.2
  have hD : 0 < v.1.den * v.2.den := Nat.mul_pos (Nat.pos_of_ne_zero v.1.den_nz) (Nat.pos_of_ne_zero v.2.den_nz)
  have kD := ofInt_ne hD
  have pD := natRat_pos hD
  have hDD : (((v.1.den * v.2.den : Nat) : Int) : Rat) = ((v.1.den : Int) : Rat) * ((v.2.den : Int) : Rat) := by rw [Int.natCast_mul, Rat.intCast_mul]
  have hX : ((v.1.num * v.2.den : Int) : Rat) = v.1 * (((v.1.den * v.2.den : Nat) : Int) : Rat) := by rw [Rat.intCast_mul, hDD, n1]; grind
  have hY : ((v.2.num * v.1.den : Int) : Rat) = v.2 * (((v.1.den * v.2.den : Nat) : Int) : Rat) := by rw [Rat.intCast_mul, hDD, n2]; grind
  have hZ : (len v * (((v.1.den * v.2.den : Nat) : Int) : Rat)) * (len v * (((v.1.den * v.2.den : Nat) : Int) : Rat)) = (((v.1.num * v.2.den) * (v.1.num * v.2.den) + (v.2.num * v.1.den) * (v.2.num * v.1.den) : Int) : Rat) := by
    rw [Rat.intCast_add, Rat.intCast_mul (v.1.num * v.2.den), Rat.intCast_mul (v.2.num * v.1.den), hX, hY]
    generalize (((v.1.den * v.2.den : Nat) : Int) : Rat) = D at *
    have : len v * D * (len v * D) = (len v * len v) * (D * D) := by grind
    rw [this, h2]
    unfold vdot
    grind
  have e := int_of_sq hZ
  have zp : (0 : Rat) < ((len v * (((v.1.den * v.2.den : Nat) : Int) : Rat)).num : Rat) := by
    rw [← e]
    exact Rat.mul_pos h1 pD
  refine ⟨v.1.num * v.2.den, v.2.num * v.1.den, (len v * (((v.1.den * v.2.den : Nat) : Int) : Rat)).num, v.1.den * v.2.den, ?_, hD, ?_, ?_, ?_, rfl, rfl, rfl⟩
  · exact Rat.intCast_lt_intCast.mp zp
  · rw [hX, hY]
    generalize (((v.1.den * v.2.den : Nat) : Int) : Rat) = D at *
    exact Prod.ext (by show v.1 = v.1 * D / D; grind) (by show v.2 = v.2 * D / D; grind)
  · apply Rat.intCast_inj.mp
    rw [← hZ, Rat.intCast_mul, ← e]
  · rw [← e]
    generalize (((v.1.den * v.2.den : Nat) : Int) : Rat) = D at *
    grind
theorem sq_sum_le {X Y Z : Int} (h : X * X + Y * Y = Z * Z) : Z.natAbs ≤ X.natAbs + Y.natAbs := by
  have h1 : X * X = (X.natAbs * X.natAbs : Nat) := Int.natAbs_mul_self.symm
  have h2 : Y * Y = (Y.natAbs * Y.natAbs : Nat) := Int.natAbs_mul_self.symm
  have h3 : Z * Z = (Z.natAbs * Z.natAbs : Nat) := Int.natAbs_mul_self.symm
  rcases Nat.lt_or_ge (X.natAbs + Y.natAbs) Z.natAbs with q | q
  · exfalso
    have h4 := Nat.mul_lt_mul'' q q
    have h5 : (X.natAbs + Y.natAbs) * (X.natAbs + Y.natAbs) = X.natAbs * X.natAbs + Y.natAbs * Y.natAbs + 2 * (X.natAbs * Y.natAbs) := by grind
    omega
  · exact q
theorem len_sz {v : Vc} {b : Nat} (h : HasLen v) (s : SzV b v) : Sz (2 * b + 1) (len v) ∧ SzV (2 * b + 1) (uv v) := by
  obtain ⟨X, Y, Z, D, hZ, hD, ev, hs, hl, eD, eX, eY⟩ := len_int h
  have x1 : X.natAbs < 2 ^ (b + b) := by rw [eX]; exact abs_mul_lt s.1.1 (by rw [den_abs]; exact s.2.2)
  have y1 : Y.natAbs < 2 ^ (b + b) := by rw [eY]; exact abs_mul_lt s.2.1 (by rw [den_abs]; exact s.1.2)
  have d1 : D < 2 ^ (b + b) := by rw [eD, Nat.pow_add]; exact Nat.mul_lt_mul'' s.1.2 s.2.2
  have z1 := sq_sum_le hs
  have p2 : (2 : Nat) ^ (2 * b + 1) = 2 * 2 ^ (b + b) := by rw [Nat.pow_succ, Nat.two_mul]; omega
  have kD := ofInt_ne hD
  have kZ : (Z : Rat) ≠ 0 := fun z => by
    have : Z = 0 := Rat.intCast_inj.mp (show (Z : Rat) = ((0 : Int) : Rat) from z)
    omega
  refine ⟨by rw [hl]; exact Sz.of (by omega) (by omega) (by show D < _; omega), ?_⟩
  have e : uv v = ((X : Rat) / (Z : Rat), (Y : Rat) / (Z : Rat)) := by
    unfold uv
    rw [hl]
    have e1 : v.1 = (X : Rat) / ((D : Int) : Rat) := congrArg Prod.fst ev
    have e2 : v.2 = (Y : Rat) / ((D : Int) : Rat) := congrArg Prod.snd ev
    rw [e1, e2]
    generalize ((D : Int) : Rat) = D at *
    generalize (Z : Rat) = Z at *
    exact Prod.ext (by show (X : Rat) / D / (Z / D) = (X : Rat) / Z; grind) (by show (Y : Rat) / D / (Z / D) = (Y : Rat) / Z; grind)
  rw [e]
  exact un_of (by omega) hs (by omega)
def s_length_of : Spec := fun args L R => ∃ v, args = [vc v] ∧ SzV 1900 v ∧ SzB (vdot v v) ∧ ∀ x, RootIs (vdot v v) x → R x L
def s_unit_of : Spec := fun args L R => ∃ v, args = [vc v] ∧ SzV 900 v ∧ (HasLen v → R (vc (uv v)) L) ∧ (¬ HasLen v → R .non L)
def d_length_of_0 : WS := sRet (wCall s_root_of [wCall s_dot [wVar 0, wVar 0]])
def d_unit_of_2 : WS := sRet (wTup [wCall s_over [wBin oIx (wVar 0) (wC (.int 0)), wVar 1], wCall s_over [wBin oIx (wVar 0) (wC (.int 1)), wVar 1]])
def d_unit_of_1a_0 : WS := sRet (wC .non)
def d_unit_of_1 : WS := sSeq (sIf (wOr (wBin oIs (wVar 1) (wC .non)) (wBin oEq (wVar 1) (wC (.tup [.int 0, .int 1])))) d_unit_of_1a_0 sNil) d_unit_of_2
def d_unit_of_0 : WS := sSeq (sAsg (gN 1) (wCall s_length_of [wVar 0])) d_unit_of_1
theorem ok_length_of : ∀ args L R, args.length = 1 → s_length_of args L R → d_length_of_0 (initE 1 args) L { nx := fun _ L' => R .non L', rt := R } := by
  rintro _ L R _ ⟨v, rfl, hv, hd, h⟩
  unfold d_length_of_0
  show sRet _ [some (vc v)] L _
  walk_at "ev104"
  exact ⟨_, _, rfl, hv.mono (by decide), hv.mono (by decide), _, rfl, hd, fun x hx => h x hx⟩
theorem root_cases {v : Vc} {x : PV} (h : RootIs (vdot v v) x) : (x = .non ∧ ¬ HasLen v) ∨ (x = fr 0 ∧ ¬ HasLen v) ∨ (x = fr (len v) ∧ HasLen v) := by
  rcases h with ⟨rfl, h⟩ | ⟨r, rfl, h1, h2⟩
  · exact .inl ⟨rfl, fun ⟨r, _, e⟩ => h r e⟩
  · by_cases hr : r = 0
    · subst hr
      refine .inr (.inl ⟨rfl, fun ⟨s, hs, e⟩ => ?_⟩)
      rw [← e] at h2
      have := Rat.mul_pos hs hs
      grind
    · obtain ⟨hl, e⟩ := len_of (v := v) (r := r) (by grind) h2
      exact .inr (.inr ⟨by rw [e], hl⟩)
theorem ok_unit_of : ∀ args L R, args.length = 1 → s_unit_of args L R → d_unit_of_0 (initE 2 args) L { nx := fun _ L' => R .non L', rt := R } := by
  rintro _ L R _ ⟨v, rfl, hv, h1, h2⟩
  unfold d_unit_of_0
  show sSeq _ _ [some (vc v), none] L _
  walk_at "ev104"
  refine ⟨_, rfl, hv.mono (by decide), (hv.dot hv).B (by decide), fun x hx => ?_⟩
  unfold d_unit_of_1 d_unit_of_1a_0
  walk_at "ev104"
  rcases root_cases hx with ⟨rfl, hn⟩ | ⟨rfl, hn⟩ | ⟨rfl, hl⟩
  · walk_at "ev104"
    exact h2 hn
  · rw [fr_zero]
    walk_at "ev104"
    exact h2 hn
  · obtain ⟨l1, l2⟩ := len_spec hl
    have sl := (len_sz hl hv).1
    rw [fr_zero]
    walk_at "ev104"
    rw [if_neg (by grind)]
    unfold d_unit_of_2
    walk_at "ev104"
    refine ⟨_, _, rfl, by grind, hv.1.mono (by decide), sl.mono (by decide), ?_⟩
    walk_at "ev104"
    refine ⟨_, _, rfl, by grind, hv.2.mono (by decide), sl.mono (by decide), ?_⟩
    walk_at "ev104"
    exact h1 hl
end
section
open PySem PySem.Spec PyProof.Rows L2
section
variable {L : Sto} {R : PK} {a b : Str}
theorem PD_str_uniq {d : PyData} (h : PD L (.str a) d) : d = .str a := by
  match h with
  | .str _ => rfl
theorem oEq_sS (ha : SeqAt.shaped (.str a) = true) (hb : SeqAt.shaped (.str b) = true) : oEq (.str a) (.str b) L R = R (.bl (a == b)) L := by
  refine propext ⟨?_, fun h => ⟨_, _, .str _, .str _, ha, hb, h⟩⟩
  rintro ⟨d, e, h1, h2, _, _, h⟩
  rw [PD_str_uniq h1, PD_str_uniq h2] at h
  exact h
theorem oNe_sS (ha : SeqAt.shaped (.str a) = true) (hb : SeqAt.shaped (.str b) = true) : oNe (.str a) (.str b) L R = R (.bl (!(a == b))) L := by
  refine propext ⟨?_, fun h => ⟨_, _, .str _, .str _, ha, hb, h⟩⟩
  rintro ⟨d, e, h1, h2, _, _, h⟩
  rw [PD_str_uniq h1, PD_str_uniq h2] at h
  exact h
theorem sh_side : SeqAt.shaped (.str "side") = true := by decide +kernel
theorem sh_arc : SeqAt.shaped (.str "arc") = true := by decide +kernel
theorem sh_left : SeqAt.shaped (.str "left") = true := by decide +kernel
theorem sh_right : SeqAt.shaped (.str "right") = true := by decide +kernel
def trn (lf : Bool) : Str := if lf then "left" else "right"
theorem sh_trn (b : Bool) : SeqAt.shaped (.str (trn b)) = true := by cases b; exact sh_right; exact sh_left
theorem eq_side_side : oEq (.str "side") (.str "side") L R = R (.bl true) L := (oEq_sS sh_side sh_side).trans (by rw [show (("side" : Str) == "side") = true by decide +kernel])
theorem eq_arc_side : oEq (.str "arc") (.str "side") L R = R (.bl false) L := (oEq_sS sh_arc sh_side).trans (by rw [show (("arc" : Str) == "side") = false by decide +kernel])
theorem ne_side_side : oNe (.str "side") (.str "side") L R = R (.bl false) L := (oNe_sS sh_side sh_side).trans (by rw [show (("side" : Str) == "side") = true by decide +kernel]; rfl)
theorem ne_arc_side : oNe (.str "arc") (.str "side") L R = R (.bl true) L := (oNe_sS sh_arc sh_side).trans (by rw [show (("arc" : Str) == "side") = false by decide +kernel]; rfl)
theorem eq_arc_arc : oEq (.str "arc") (.str "arc") L R = R (.bl true) L := (oEq_sS sh_arc sh_arc).trans (by rw [show (("arc" : Str) == "arc") = true by decide +kernel])
theorem eq_side_arc : oEq (.str "side") (.str "arc") L R = R (.bl false) L := (oEq_sS sh_side sh_arc).trans (by rw [show (("side" : Str) == "arc") = false by decide +kernel])
theorem trn_left (b : Bool) : (trn b == "left") = b := by cases b <;> decide +kernel
theorem trn_right (b : Bool) : (trn b == "right") = !b := by cases b <;> decide +kernel
theorem eq_trn_left {b : Bool} : oEq (.str (trn b)) (.str "left") L R = R (.bl b) L := (oEq_sS (sh_trn b) sh_left).trans (by rw [trn_left])
theorem eq_trn_right {b : Bool} : oEq (.str (trn b)) (.str "right") L R = R (.bl (!b)) L := (oEq_sS (sh_trn b) sh_right).trans (by rw [trn_right])
end
inductive Pc where
  | side (to : Vc) | arc (m to : Vc) (lf : Bool)
deriving DecidableEq
def Pc.to : Pc → Vc
  | .side t => t
  | .arc _ t _ => t
def pcV : Pc → PV
  | .side t => .tup [.str "side", vc t]
  | .arc m t lf => .tup [.str "arc", vc m, vc t, .str (trn lf)]
abbrev Pth := Vc × List Pc
def pth (p : Pth) : PV := .tup [vc p.1, .tup (p.2.map pcV)]
section
variable {L : Sto} {R : PK} {m t : Vc} {lf : Bool} {p : Pth}
theorem pc0s : oIx (pcV (.side t)) (.int 0) L R = R (.str "side") L := ix0
theorem pc1s : oIx (pcV (.side t)) (.int 1) L R = R (vc t) L := ix1
theorem pc0a : oIx (pcV (.arc m t lf)) (.int 0) L R = R (.str "arc") L := ix0
theorem pc1a : oIx (pcV (.arc m t lf)) (.int 1) L R = R (vc m) L := ix1
theorem pc2a : oIx (pcV (.arc m t lf)) (.int 2) L R = R (vc t) L := ix2
theorem pc3a : oIx (pcV (.arc m t lf)) (.int 3) L R = R (.str (trn lf)) L := ix3
theorem pt0 : oIx (pth p) (.int 0) L R = R (vc p.1) L := ix0
theorem pt1 : oIx (pth p) (.int 1) L R = R (.tup (p.2.map pcV)) L := ix1
theorem ixt {xs : List PV} {j : Nat} {x : PV} (h : xs[j]? = some x) : oIx (.tup xs) (.int j) L R = R x L := by
  show (match atI xs j with | some v => R v L | none => False) = _
  rw [atI_nat h]
theorem ixt_last {xs : List PV} {x : PV} (h : xs.getLast? = some x) : oIx (.tup xs) (.int (-1)) L R = R x L := by
  show (match atI xs (-1) with | some v => R v L | none => False) = _
  have hx : xs ≠ [] := fun z => by rw [z] at h; cases h
  have : xs = xs.dropLast ++ [x] := by
    have := List.dropLast_concat_getLast hx
    rw [List.getLast?_eq_some_getLast hx] at h
    cases h
    exact this.symm
  rw [this, atI_last]
theorem ixpc {ps : List Pc} {j : Nat} {q : Pc} (h : ps[j]? = some q) : oIx (.tup (ps.map pcV)) (.int j) L R = R (pcV q) L := ixt (by rw [List.getElem?_map, h]; rfl)
theorem pc_mks : PV.tup [.str "side", vc t] = pcV (.side t) := rfl
theorem pc_mka : PV.tup [.str "arc", vc m, vc t, .str (trn lf)] = pcV (.arc m t lf) := rfl
end
def ends (p : Pth) : List Vc := p.1 :: p.2.map Pc.to
theorem ends_len {p : Pth} : (ends p).length = p.2.length + 1 := by unfold ends; rw [List.length_cons, List.length_map]
def PcOk (b : Vc) : Pc → Prop
  | .side t => t ≠ b ∧ HasLen (vsub t b)
  | .arc m t _ => t ≠ b ∧ HasLen (vsub b m) ∧ HasLen (vsub t m) ∧ len (vsub t m) = len (vsub b m)
def PcsOk : Vc → List Pc → Prop
  | _, [] => True
  | b, q :: r => PcOk b q ∧ PcsOk q.to r
structure PathOk (p : Pth) : Prop where
  ne : p.2 ≠ []
  ok : PcsOk p.1 p.2
  ln : p.2.length ≤ 12
def PcSz (b : Nat) : Pc → Prop
  | .side t => SzV b t
  | .arc m t _ => SzV b m ∧ SzV b t
def PSz (b : Nat) (p : Pth) : Prop := SzV b p.1 ∧ ∀ q ∈ p.2, PcSz b q
theorem PcSz.to {b : Nat} {q : Pc} (h : PcSz b q) : SzV b q.to := by cases q <;> first | exact h | exact h.2
theorem PcSz.mono {a b : Nat} {q : Pc} (h : PcSz a q) (k : a ≤ b) : PcSz b q := by cases q <;> first | exact SzV.mono h k | exact ⟨h.1.mono k, h.2.mono k⟩
theorem PSz.mono {a b : Nat} {p : Pth} (h : PSz a p) (k : a ≤ b) : PSz b p := ⟨h.1.mono k, fun q hq => (h.2 q hq).mono k⟩
theorem PSz.ends {b : Nat} {p : Pth} (h : PSz b p) : ∀ x ∈ ends p, SzV b x := by
  intro x hx
  rcases List.mem_cons.mp hx with q | q
  · rw [q]; exact h.1
  · obtain ⟨w, hw, rfl⟩ := List.mem_map.mp q
    exact (h.2 w hw).to
theorem ends_succ {p : Pth} {i : Nat} {q : Pc} (h : p.2[i]? = some q) : (ends p)[i + 1]? = some q.to := by
  unfold ends
  rw [List.getElem?_cons_succ, List.getElem?_map, h]; rfl
theorem PcsOk.get : ∀ {ps : List Pc} {b x : Vc} {i : Nat} {q : Pc}, PcsOk b ps → ps[i]? = some q → (b :: ps.map Pc.to)[i]? = some x → PcOk x q
  | q :: r, b, x, 0, q', h, e, f => by cases e; cases f; exact h.1
  | q :: r, b, x, i + 1, q', h, e, f => PcsOk.get (ps := r) h.2 (by simpa using e) (by simpa using f)
  | [], _, _, _, _, _, e, _ => by simp at e
theorem PathOk.get {p : Pth} {x : Vc} {i : Nat} {q : Pc} (h : PathOk p) (e : p.2[i]? = some q) (f : (ends p)[i]? = some x) : PcOk x q := h.ok.get e f
theorem beg_get {p : Pth} {i : Nat} {q : Pc} (e : p.2[i]? = some q) : ∃ x, (ends p)[i]? = some x := by
  have h1 := (List.getElem?_eq_some_iff.mp e).1
  exact ⟨_, List.getElem?_eq_getElem (by rw [ends_len]; omega)⟩
def vneg (v : Vc) : Vc := (-v.1, -v.2)
noncomputable def hAt (m : Vc) (lf : Bool) (x : Vc) : Vc := if lf = true then vlft (uv (vsub x m)) else vneg (vlft (uv (vsub x m)))
noncomputable def hdQ (b : Vc) : Pc → Vc × Vc
  | .side t => (uv (vsub t b), uv (vsub t b))
  | .arc m t lf => (hAt m lf b, hAt m lf t)
theorem SzV.neg {b : Nat} {v : Vc} (h : SzV b v) : SzV b (vneg v) := ⟨h.1.neg, h.2.neg⟩
theorem un_vneg {u : Vc} (h : Un u) : Un (vneg u) := by
  unfold Un vneg at *
  show -u.1 * -u.1 + -u.2 * -u.2 = 1
  grind
theorem hAt_ok {m x : Vc} {lf : Bool} {b : Nat} (h : HasLen (vsub x m)) (sx : SzV b x) (sm : SzV b m) : Un (hAt m lf x) ∧ SzV (4 * b + 3) (hAt m lf x) := by
  have s := (len_sz h (sx.sub sm)).2.lft.mono (b := 4 * b + 3) (by omega)
  have u := (uv_un h).lft
  unfold hAt
  split
  · exact ⟨u, s⟩
  · exact ⟨un_vneg u, s.neg⟩
theorem hdQ_ok {b : Vc} {q : Pc} {n : Nat} (h : PcOk b q) (sb : SzV n b) (sq : PcSz n q) : (Un (hdQ b q).1 ∧ SzV (4 * n + 3) (hdQ b q).1) ∧ (Un (hdQ b q).2 ∧ SzV (4 * n + 3) (hdQ b q).2) := by
  cases q with
  | side t =>
    have s := (len_sz h.2 (SzV.sub (show SzV n t from sq) sb)).2.mono (b := 4 * n + 3) (by omega)
    exact ⟨⟨uv_un h.2, s⟩, uv_un h.2, s⟩
  | arc m t lf => exact ⟨hAt_ok h.2.1 sb sq.1, hAt_ok h.2.2.1 sq.2 sq.1⟩
def s_to_of : Spec := fun args L R => ∃ q, args = [pcV q] ∧ R (vc q.to) L
def s_ends_of : Spec := fun args L R => ∃ p : Pth, args = [pth p] ∧ p.2.length ≤ 15000000 ∧ Fresh L R ((ends p).map vc)
def s_is_closed : Spec := fun args L R => ∃ p : Pth, args = [pth p] ∧ p.2 ≠ [] ∧ ∀ t, (ends p).getLast? = some t → R (.bl (decide (t = p.1))) L
def s_begin_of : Spec := fun args L R => ∃ (p : Pth) (i : Nat) (b : Vc), args = [pth p, .int i] ∧ (ends p)[i]? = some b ∧ R (vc b) L
def s_radius_of : Spec := fun args L R => ∃ (p : Pth) (i : Nat) (q : Pc), args = [pth p, .int i] ∧ p.2[i]? = some q ∧ (match q with
  | .side _ => R .non L
  | .arc m t _ => SzV 400 m ∧ SzV 400 t ∧ HasLen (vsub t m) ∧ R (fr (len (vsub t m))) L)
def s_opposite : Spec := fun args L R => ∃ v, args = [vc v] ∧ SzV 3999 v ∧ R (vc (vneg v)) L
def s_heading_at : Spec := fun args L R => ∃ (m t x : Vc) (lf : Bool), args = [pcV (.arc m t lf), vc x] ∧ SzV 400 x ∧ SzV 400 m ∧ HasLen (vsub x m) ∧ R (vc (hAt m lf x)) L
def s_headings : Spec := fun args L R => ∃ (p : Pth) (i : Nat) (q : Pc) (b : Vc), args = [pth p, .int i] ∧ p.2[i]? = some q ∧ (ends p)[i]? = some b ∧ PcOk b q ∧ SzV 400 b ∧ PcSz 400 q ∧ R (.tup [vc (hdQ b q).1, vc (hdQ b q).2]) L
def d_to_of_0 : WS := sRet (wIfE (wBin oEq (wBin oIx (wVar 0) (wC (.int 0))) (wC (.str "side"))) (wBin oIx (wVar 0) (wC (.int 1))) (wBin oIx (wVar 0) (wC (.int 2))))
def d_ends_of_0 : WS := sRet (wBin oAdd (wLst [wBin oIx (wVar 0) (wC (.int 0))]) (wComp [1] (iAny (wBin oIx (wVar 0) (wC (.int 1)))) (gN 1) (wC (.bl true)) (wCall s_to_of [wVar 1])))
def d_is_closed_0 : WS := sRet (wBin oEq (wCall s_to_of [wBin oIx (wBin oIx (wVar 0) (wC (.int 1))) (wC (.int (-1)))]) (wBin oIx (wVar 0) (wC (.int 0))))
def d_begin_of_0 : WS := sRet (wIfE (wBin oEq (wVar 1) (wC (.int 0))) (wBin oIx (wVar 0) (wC (.int 0))) (wCall s_to_of [wBin oIx (wBin oIx (wVar 0) (wC (.int 1))) (wBin oSub (wVar 1) (wC (.int 1)))]))
def d_radius_of_2 : WS := sRet (wCall s_length_of [wCall s_minus [wBin oIx (wVar 2) (wC (.int 2)), wBin oIx (wVar 2) (wC (.int 1))]])
def d_radius_of_1a_0 : WS := sRet (wC .non)
def d_radius_of_1 : WS := sSeq (sIf (wBin oEq (wBin oIx (wVar 2) (wC (.int 0))) (wC (.str "side"))) d_radius_of_1a_0 sNil) d_radius_of_2
def d_radius_of_0 : WS := sSeq (sAsg (gN 2) (wBin oIx (wBin oIx (wVar 0) (wC (.int 1))) (wVar 1))) d_radius_of_1
def d_opposite_0 : WS := sRet (wCall s_minus [wTup [wC (.tup [.int 0, .int 1]), wC (.tup [.int 0, .int 1])], wVar 0])
def d_heading_at_1 : WS := sRet (wIfE (wBin oEq (wBin oIx (wVar 0) (wC (.int 3))) (wBin oIx (wC (.tup [.str "left", .str "right"])) (wC (.int 0)))) (wVar 2) (wCall s_opposite [wVar 2]))
def d_heading_at_0 : WS := sSeq (sAsg (gN 2) (wCall s_left_of [wCall s_unit_of [wCall s_minus [wVar 1, wBin oIx (wVar 0) (wC (.int 1))]]])) d_heading_at_1
def d_headings_3 : WS := sRet (wTup [wCall s_heading_at [wVar 2, wVar 3], wCall s_heading_at [wVar 2, wBin oIx (wVar 2) (wC (.int 2))]])
def d_headings_2a_1 : WS := sRet (wTup [wVar 4, wVar 4])
def d_headings_2a_0 : WS := sSeq (sAsg (gN 4) (wCall s_unit_of [wCall s_minus [wBin oIx (wVar 2) (wC (.int 1)), wVar 3]])) d_headings_2a_1
def d_headings_2 : WS := sSeq (sIf (wBin oEq (wBin oIx (wVar 2) (wC (.int 0))) (wC (.str "side"))) d_headings_2a_0 sNil) d_headings_3
def d_headings_1 : WS := sSeq (sAsg (gN 3) (wCall s_begin_of [wVar 0, wVar 1])) d_headings_2
def d_headings_0 : WS := sSeq (sAsg (gN 2) (wBin oIx (wBin oIx (wVar 0) (wC (.int 1))) (wVar 1))) d_headings_1
local macro_rules | `(tactic| walk_at "ev") => `(tactic| try simp only [eq_side_side, eq_arc_side, ne_side_side, ne_arc_side, eq_arc_arc, eq_side_arc, eq_trn_left, eq_trn_right, pc0s, pc1s, pc0a, pc1a, pc2a, pc3a, pt0, pt1, pc_mks, pc_mka, oEq_ff, oNe_ff, oEq_vv, oNe_vv, e_gTv, vc_mk, vx0, vx1, if_true, if_false, decide_true, decide_false, Bool.not_true, Bool.not_false, Bool.false_eq_true, reduceCtorEq, e_gS, e_gT, e_gsL0, e_gsL1, e_gsN0, e_gsN1, e_r1, e_r1K, e_r2, e_r2K, e_any, e_lsT, e_zpT, e_enT, e_en, e_zp, e_lzip, e_z3, e_revt, e_tru, tru_bl, tru_int, tru_non, tru_tup, e_disp, e_prs0, e_prs1, List.zip_nil_left, e_rv, e_for, e_comp, e_mt, e_wipe0, e_wipe1, fr0, fr1, ix0, ix1, ix2, ix3, bIf_t, bIf_f, bIf_d, bIf_n, oEq_ii, oNe_ii, oEq_bb, oNe_bb, List.set_cons_zero, List.set_cons_succ, List.zip_cons_cons, List.zip_nil_right, List.foldl_cons, List.foldl_nil, e_add, e_addI, e_addt, e_addl, e_sub, e_mul, e_div, e_mod, e_pow, e_oI, e_neg, e_not, e_isn, e_isnn, e_isb, e_isnb, e_isN_non, e_isN_bl, e_isN_int, e_isN_tup, e_isN_ref, e_isN_fz, e_isN_fr, e_isN_str, e_lent, e_lenz, e_abs, e_int, e_intb, e_dvm, e_min, e_max, e_listt, e_listz, e_tupt, e_str, gv_0, gv_s, e_slt, e_slz, e_v0, e_v1, e_v2, e_v3, e_v4, e_v5, e_v6, e_v7, e_v8, e_v9, e_v10, e_v11, e_v12, e_v13, e_v14, e_v15, e_v16, e_v17, e_v18, e_v19, e_v20, e_v21, e_v22, e_v23, e_v24, e_v25, e_v26, e_v27, e_v28, e_v29, e_v30, e_v31, e_v32, e_v33, e_v34, e_v35, e_v36, e_v37, e_v38, e_v39, e_ar0, e_ar1, e_gN, e_par, e_c, e_bin, e_un, e_and, e_or, e_ife, e_chain, e_tup, e_lst, e_bi, e_call, e_sl, e_no, e_so, e_nil, e_seq, e_expr, e_ret, e_retn, e_asg, e_if, e_brk, e_cnt, sz_0, sz_1, sz_2, sz_3, sz_4, sz_5, sz_6, sz_7, sz_8, sz_9, sz_10, sz_11, sz_12, sz_13, sz_14, sz_15, sz_16, sz_17, sz_18, sz_19, true_and, isi_non_int, isi_non_bool, isi_non_str, isi_non_tuple, isi_non_list, isi_non_dict, isi_bl_int, isi_bl_bool, isi_bl_str, isi_bl_tuple, isi_bl_list, isi_bl_dict, isi_int_int, isi_int_bool, isi_int_str, isi_int_tuple, isi_int_list, isi_int_dict, isi_str_int, isi_str_bool, isi_str_str, isi_str_tuple, isi_str_list, isi_str_dict, isi_tup_int, isi_tup_bool, isi_tup_str, isi_tup_tuple, isi_tup_list, isi_tup_dict, isi_fz_int, isi_fz_bool, isi_fz_str, isi_fz_tuple, isi_fz_list, isi_fz_dict])
theorem ok_to_of : ∀ args L R, args.length = 1 → s_to_of args L R → d_to_of_0 (initE 1 args) L { nx := fun _ L' => R .non L', rt := R } := by
  rintro _ L R _ ⟨q, rfl, h⟩
  unfold d_to_of_0
  show sRet _ [some (pcV q)] L _
  cases q with
  | side t => walk_at "ev"; exact h
  | arc m t lf => walk_at "ev"; exact h
theorem ok_ends_of : ∀ args L R, args.length = 1 → s_ends_of args L R → d_ends_of_0 (initE 2 args) L { nx := fun _ L' => R .non L', rt := R } := by
  rintro _ L R _ ⟨p, rfl, hn, h⟩
  unfold d_ends_of_0
  show sRet _ [some (pth p), none] L _
  walk_at "ev"
  intro p1 hp1
  have e1 := put_same (L := L) (a := p1) (o := .l [vc p.1])
  have hl1 := Le.new (o := .l [vc p.1]) hp1
  generalize put L p1 _ = L1 at *
  walk_at "ev"
  refine comp_map (g := fun q => vc q.to) (fun _ _ => trivial) (by omega) ?_ ?_
  · intro q hq l R' hl hR'
    walk_at "ev"
    exact ⟨q, rfl, hR' l hl⟩
  intro L2 hl2 p2 hp2
  refine e_cat (Le.new hp2 _ _ (hl2 _ _ e1)) put_same ⟨by rw [List.length_map]; show 1 + _ ≤ 16777216; omega, fun p3 hp3 => ?_⟩
  refine h p3 _ ((hl1.trans (hl2.trans (Le.new hp2))).free hp3) ((hl1.trans (hl2.trans (Le.new hp2))).trans (Le.new hp3)) ?_
  rw [put_same]
  unfold ends
  rw [List.map_cons, List.map_map]
  rfl
theorem ends_last {p : Pth} {q : Pc} (h : p.2.getLast? = some q) : (ends p).getLast? = some q.to := by
  unfold ends
  rw [List.getLast?_cons, List.getLast?_map, h]
  rfl
theorem last_some {p : Pth} (h : p.2 ≠ []) : ∃ q, p.2.getLast? = some q := ⟨_, List.getLast?_eq_some_getLast h⟩
theorem ok_is_closed : ∀ args L R, args.length = 1 → s_is_closed args L R → d_is_closed_0 (initE 1 args) L { nx := fun _ L' => R .non L', rt := R } := by
  rintro _ L R _ ⟨p, rfl, hn, h⟩
  obtain ⟨q, hq⟩ := last_some hn
  unfold d_is_closed_0
  show sRet _ [some (pth p)] L _
  walk_at "ev"
  rw [ixt_last (x := pcV q) (by rw [List.getLast?_map, hq]; rfl)]
  refine ⟨q, rfl, ?_⟩
  walk_at "ev"
  exact h _ (ends_last hq)
theorem ok_begin_of : ∀ args L R, args.length = 2 → s_begin_of args L R → d_begin_of_0 (initE 2 args) L { nx := fun _ L' => R .non L', rt := R } := by
  rintro _ L R _ ⟨p, i, b, rfl, hb, h⟩
  unfold d_begin_of_0
  show sRet _ [some (pth p), some (.int i)] L _
  walk_at "ev"
  cases i with
  | zero =>
    rw [if_pos (show ((0 : Nat) : Int) = 0 from rfl)]
    cases hb
    exact h
  | succ i =>
    rw [if_neg (by omega)]
    unfold ends at hb
    rw [List.getElem?_cons_succ, List.getElem?_map] at hb
    cases hq : p.2[i]? with
    | none => rw [hq] at hb; cases hb
    | some q =>
      rw [hq] at hb
      cases hb
      rw [show ((i + 1 : Nat) : Int) - 1 = (i : Nat) by omega, ixpc hq]
      exact ⟨q, rfl, h⟩
theorem ok_radius_of : ∀ args L R, args.length = 2 → s_radius_of args L R → d_radius_of_0 (initE 3 args) L { nx := fun _ L' => R .non L', rt := R } := by
  rintro _ L R _ ⟨p, i, q, rfl, hq, h⟩
  unfold d_radius_of_0
  show sSeq _ _ [some (pth p), some (.int i), none] L _
  walk_at "ev"
  rw [ixpc hq]
  unfold d_radius_of_1 d_radius_of_1a_0
  cases q with
  | side t => walk_at "ev"; exact h
  | arc m t lf =>
    obtain ⟨h1, h2, h3, h4⟩ := h
    walk_at "ev"
    unfold d_radius_of_2
    walk_at "ev"
    refine ⟨_, _, rfl, h2.mono (by decide), h1.mono (by decide), _, rfl, (h2.sub h1).mono (by decide), ((h2.sub h1).dot (h2.sub h1)).B (by decide), fun x hx => ?_⟩
    rw [hx.uniq (len_root h3)]
    exact h4
theorem ok_opposite : ∀ args L R, args.length = 1 → s_opposite args L R → d_opposite_0 (initE 1 args) L { nx := fun _ L' => R .non L', rt := R } := by
  rintro _ L R _ ⟨v, rfl, hv, h⟩
  unfold d_opposite_0
  show sRet _ [some (vc v)] L _
  walk_at "ev"
  rw [fr_zero, vc_mk]
  refine ⟨_, _, rfl, ⟨sz0 (by decide), sz0 (by decide)⟩, hv.mono (by decide), ?_⟩
  have e : vsub ((0 : Rat), (0 : Rat)) v = vneg v := Prod.ext (by show (0 : Rat) - v.1 = -v.1; grind) (by show (0 : Rat) - v.2 = -v.2; grind)
  rw [e]
  exact h
theorem ok_heading_at : ∀ args L R, args.length = 2 → s_heading_at args L R → d_heading_at_0 (initE 3 args) L { nx := fun _ L' => R .non L', rt := R } := by
  rintro _ L R _ ⟨m, t, x, lf, rfl, hx, hm, hl, h⟩
  have s1 := hx.sub hm
  have s2 := (len_sz hl s1).2
  unfold d_heading_at_0
  show sSeq _ _ [some (pcV (.arc m t lf)), some (vc x), none] L _
  walk_at "ev"
  refine ⟨_, _, rfl, hx.mono (by decide), hm.mono (by decide), _, rfl, s1.mono (by decide), fun _ => ⟨_, rfl, s2.mono (by decide), ?_⟩, fun z => absurd hl z⟩
  unfold d_heading_at_1
  walk_at "ev"
  unfold hAt at h
  cases lf with
  | true =>
    walk_at "ev"
    exact h
  | false =>
    walk_at "ev"
    exact ⟨_, rfl, s2.lft.mono (by decide), h⟩
theorem ok_headings : ∀ args L R, args.length = 2 → s_headings args L R → d_headings_0 (initE 5 args) L { nx := fun _ L' => R .non L', rt := R } := by
  rintro _ L R _ ⟨p, i, q, b, rfl, hq, hb, ok, sb, sq, h⟩
  unfold d_headings_0
  show sSeq _ _ [some (pth p), some (.int i), none, none, none] L _
  walk_at "ev"
  rw [ixpc hq]
  unfold d_headings_1
  walk_at "ev"
  refine ⟨p, i, b, rfl, hb, ?_⟩
  unfold d_headings_2 d_headings_2a_0
  cases q with
  | side t =>
    have s1 : SzV 801 (vsub t b) := SzV.sub (show SzV 400 t from sq) sb
    walk_at "ev"
    refine ⟨_, _, rfl, SzV.mono (show SzV 400 t from sq) (by decide), sb.mono (by decide), _, rfl, s1.mono (by decide), fun _ => ?_, fun z => absurd ok.2 z⟩
    unfold d_headings_2a_1
    walk_at "ev"
    exact h
  | arc m t lf =>
    walk_at "ev"
    unfold d_headings_3
    walk_at "ev"
    refine ⟨m, t, b, lf, rfl, sb, sq.1, ok.2.1, m, t, t, lf, rfl, sq.2, sq.1, ok.2.2.1, ?_⟩
    walk_at "ev"
    exact h
def cwS (u w : Vc) : Str := if u = w then "straight" else if 0 < vcrs u w then "left" else if vcrs u w < 0 then "right" else "back"
def s_corner_word : Spec := fun args L R => ∃ u w, args = [vc u, vc w] ∧ SzV 900 u ∧ SzV 900 w ∧ ∀ L', Le L L' → R (.str (cwS u w)) L'
def d_corner_word_2 : WS := sRet (wBin oIx (wLst [wC (.str "back"), wC (.str "left"), wC (.str "right")]) (wVar 2))
def d_corner_word_1 : WS := sSeq (sAsg (gN 2) (wCall s_compared [wCall s_cross [wVar 0, wVar 1], wC (.tup [.int 0, .int 1])])) d_corner_word_2
def d_corner_word_0a_0 : WS := sRet (wC (.str "straight"))
def d_corner_word_0 : WS := sSeq (sIf (wBin oEq (wVar 0) (wVar 1)) d_corner_word_0a_0 sNil) d_corner_word_1
theorem sh_strs : SeqAt.shaped (.str "straight") = true := by decide +kernel
theorem ok_corner_word : ∀ args L R, args.length = 2 → s_corner_word args L R → d_corner_word_0 (initE 3 args) L { nx := fun _ L' => R .non L', rt := R } := by
  intro args L R _ hh
  obtain ⟨u, w, rfl, su, sw, h⟩ : ∃ u w, args = [vc u, vc w] ∧ SzV 1900 u ∧ SzV 1900 w ∧ Sz 4000 (vcrs u w) ∧ ∀ L', Le L L' → R (.str (cwS u w)) L' := by
    obtain ⟨u, w, e, su, sw, h⟩ := hh
    exact ⟨u, w, e, su.mono (by decide), sw.mono (by decide), (su.crs sw).mono (by decide), h⟩
  obtain ⟨sc, h⟩ := h
  unfold d_corner_word_0 d_corner_word_0a_0
  show sSeq _ _ [some (vc u), some (vc w), none] L _
  walk_at "ev"
  by_cases e : u = w
  · rw [if_pos e]
    have : cwS u w = "straight" := by unfold cwS; rw [if_pos e]
    rw [this] at h
    exact h _ .refl
  · rw [if_neg e]
    unfold d_corner_word_1
    walk_at "ev"
    rw [fr_zero]
    refine ⟨_, _, rfl, su, sw, _, _, rfl, sc, sz0 (by decide), ?_⟩
    unfold d_corner_word_2
    walk_at "ev"
    intro p hp
    have c := put_same (L := L) (a := p) (o := .l [.str "back", .str "left", .str "right"])
    have h := h _ (Le.new (o := .l [.str "back", .str "left", .str "right"]) hp)
    generalize put L p _ = L1 at *
    unfold cwS at h
    rw [if_neg e] at h
    unfold cmpI
    by_cases h1 : 0 < vcrs u w
    · rw [if_pos h1] at h ⊢
      rw [ixl1 c]
      exact h
    · rw [if_neg h1] at h ⊢
      by_cases h2 : vcrs u w < 0
      · rw [if_pos h2] at h ⊢
        unfold oIx
        simp only [c, show atI [PV.str "back", PV.str "left", PV.str "right"] (-1) = some (.str "right") from atI_last [PV.str "back", PV.str "left"] (PV.str "right")]
        exact h
      · rw [if_neg h2] at h ⊢
        rw [ixl0 c]
        exact h
theorem ixv {L : Sto} {R : PK} {a : Addr} {xs : List Vc} {j : Nat} {x : Vc} (e : L a = some (.l (xs.map vc))) (h : xs[j]? = some x) : oIx (.ref a) (.int j) L R = R (vc x) L := by
  unfold oIx
  have : atI (xs.map vc) (j : Int) = some (vc x) := atI_nat (by rw [List.getElem?_map, h]; rfl)
  simp only [e, this]
/-- the number of the piece ahead -/
def prv (n i : Nat) : Nat := if 0 < i then i - 1 else n - 1
/-- headings by number -/
noncomputable def hdN (p : Pth) (i : Nat) : Vc × Vc := match p.2[i]?, (ends p)[i]? with
  | some q, some b => hdQ b q
  | _, _ => ((0, 0), (0, 0))
theorem hdN_eq {p : Pth} {i : Nat} {q : Pc} {b : Vc} (hq : p.2[i]? = some q) (hb : (ends p)[i]? = some b) : hdN p i = hdQ b q := by
  unfold hdN
  rw [hq, hb]
def closed (p : Pth) : Prop := (ends p).getLast? = some p.1
instance {p : Pth} : Decidable (closed p) := by unfold closed; infer_instance
noncomputable def cwN (p : Pth) (i : Nat) : Str := cwS (hdN p (prv p.2.length i)).2 (hdN p i).1
def crns (p : Pth) : List Nat := (List.range p.2.length).filter fun i => decide (0 < i ∨ closed p)
noncomputable def crV (p : Pth) (i : Nat) : PV := .tup [.int i, .str (cwN p i)]
def s_corners : Spec := fun args L R => ∃ p : Pth, args = [pth p] ∧ PathOk p ∧ PSz 200 p ∧ Fresh L R ((crns p).map (crV p))
def d_corners_2 : WS := sRet (wVar 1)
def d_corners_1f_0a_1 : WS := sExpr (wMt "list" mAppend (wVar 1) [wTup [wVar 2, wCall s_corner_word [wVar 3, wBin oIx (wCall s_headings [wVar 0, wVar 2]) (wC (.int 0))]]])
def d_corners_1f_0a_0 : WS := sSeq (sAsg (gN 3) (wBin oIx (wCall s_headings [wVar 0, wIfE (wBin oGt (wVar 2) (wC (.int 0))) (wBin oSub (wVar 2) (wC (.int 1))) (wBin oSub (wBi gLen [wBin oIx (wVar 0) (wC (.int 1))]) (wC (.int 1)))]) (wC (.int 1)))) d_corners_1f_0a_1
def d_corners_1f_0 : WS := sIf (wOr (wBin oGt (wVar 2) (wC (.int 0))) (wCall s_is_closed [wVar 0])) d_corners_1f_0a_0 sNil
def d_corners_1 : WS := sSeq (sFor (iR1 (wBi gLen [wBin oIx (wVar 0) (wC (.int 1))])) (gN 2) d_corners_1f_0) d_corners_2
def d_corners_0 : WS := sSeq (sAsg (gN 1) (wLst [])) d_corners_1
theorem hdN_ok {p : Pth} (ok : PathOk p) (sz : PSz 200 p) {i : Nat} {q : Pc} {b : Vc} (hq : p.2[i]? = some q) (hb : (ends p)[i]? = some b) : SzV 803 (hdN p i).1 ∧ SzV 803 (hdN p i).2 ∧ Un (hdN p i).1 ∧ Un (hdN p i).2 := by
  rw [hdN_eq hq hb]
  have := hdQ_ok (ok.get hq hb) (sz.ends b (List.mem_of_getElem? hb)) (sz.2 q (List.mem_of_getElem? hq))
  exact ⟨this.1.2, this.2.2, this.1.1, this.2.1⟩
theorem ok_corners : ∀ args L R, args.length = 1 → s_corners args L R → d_corners_0 (initE 4 args) L { nx := fun _ L' => R .non L', rt := R } := by
  rintro _ L R _ ⟨p, rfl, ok, sz, h⟩
  obtain ⟨ql, hql⟩ := last_some ok.ne
  have hel := ends_last hql
  have hn := ok.ln
  have hpos : 0 < p.2.length := List.length_pos_iff.mpr ok.ne
  have hcl : closed p ↔ ql.to = p.1 := by unfold closed; rw [hel]; exact ⟨fun z => Option.some.inj z, fun z => by rw [z]⟩
  unfold d_corners_0
  show sSeq _ _ [some (pth p), none, none, none] L _
  walk_at "ev"
  intro p1 hp1
  have e1 := put_same (L := L) (a := p1) (o := .l ([] : List PV))
  have hl1 := Le.new (o := .l ([] : List PV)) hp1
  generalize put L p1 _ = L1 at *
  unfold d_corners_1
  walk_at "ev"
  rw [List.length_map]
  refine ⟨⟨by omega, by omega⟩, ?_⟩
  have hlen : (rgL 0 ((p.2.length : Nat) : Int).toNat).length = p.2.length := by unfold rgL; rw [List.length_map, List.length_range]; omega
  refine loop_i (fun i e l => ∃ z2 z3, e = [some (pth p), some (.ref p1), z2, z3] ∧ Le L l ∧ l p1 = some (.l (((List.range i).filter fun i => decide (0 < i ∨ closed p)).map (crV p))))
    ⟨_, _, rfl, hl1, e1⟩ (fun _ _ _ _ => trivial) ?_ ?_
  · rintro i t e l K hx ⟨z2, z3, rfl, hl, c1⟩ hK
    obtain ⟨rfl, hi⟩ := rgL_get hx
    have hi : i < p.2.length := by omega
    rw [show (0 : Int) + (i : Nat) = (i : Nat) by omega]
    rw [List.range_succ, List.filter_append, List.filter_cons] at hK
    walk_at "ev"
    unfold d_corners_1f_0
    walk_at "ev"
    have body : (0 < i ∨ closed p) → d_corners_1f_0a_0 [some (pth p), some (.ref p1), some (.int (i : Nat)), z3] l { nx := K, rt := R, bk := fun e l => d_corners_2 e l { nx := fun _ L' => R .non L', rt := R }, ct := K } := by
      intro hc
      rw [decide_eq_true hc] at hK
      have hpv : prv p.2.length i < p.2.length := by unfold prv; split <;> omega
      have hqa : p.2[prv p.2.length i]? = some p.2[prv p.2.length i] := List.getElem?_eq_getElem hpv
      obtain ⟨ba, hba⟩ := beg_get hqa
      have hqb : p.2[i]? = some p.2[i] := List.getElem?_eq_getElem hi
      obtain ⟨bb, hbb⟩ := beg_get hqb
      obtain ⟨a1, a2, a3, a4⟩ := hdN_ok ok sz hqa hba
      obtain ⟨b1, b2, b3, b4⟩ := hdN_ok ok sz hqb hbb
      have kb : s_headings [pth p, .int (i : Nat)] l = fun R => s_headings [pth p, .int (i : Nat)] l R := rfl
      have sa : ∀ R : PK, R (.tup [vc (hdN p (prv p.2.length i)).1, vc (hdN p (prv p.2.length i)).2]) l → s_headings [pth p, .int (prv p.2.length i : Nat)] l R := fun R hR => by
        rw [hdN_eq hqa hba] at hR
        exact ⟨p, _, _, ba, rfl, hqa, hba, ok.get hqa hba, (sz.ends ba (List.mem_of_getElem? hba)).mono (by decide), (sz.2 _ (List.mem_of_getElem? hqa)).mono (by decide), hR⟩
      have sb : ∀ R : PK, R (.tup [vc (hdN p i).1, vc (hdN p i).2]) l → s_headings [pth p, .int (i : Nat)] l R := fun R hR => by
        rw [hdN_eq hqb hbb] at hR
        exact ⟨p, _, _, bb, rfl, hqb, hbb, ok.get hqb hbb, (sz.ends bb (List.mem_of_getElem? hbb)).mono (by decide), (sz.2 _ (List.mem_of_getElem? hqb)).mono (by decide), hR⟩
      have rest : s_headings [pth p, .int (prv p.2.length i : Nat)] l fun x La => oIx x (.int 1) La fun x La => d_corners_1f_0a_1 [some (pth p), some (.ref p1), some (.int (i : Nat)), some x] La { nx := K, rt := R, bk := fun e l => d_corners_2 e l { nx := fun _ L' => R .non L', rt := R }, ct := K } := by
        refine sa _ ?_
        rw [ix1]
        unfold d_corners_1f_0a_1
        walk_at "ev"
        refine ⟨ty_list c1, ?_⟩
        refine sb _ ?_
        rw [ix0]
        refine ⟨_, _, rfl, a2.mono (by decide), b1.mono (by decide), fun l' hl' => ?_⟩
        have c1 := hl' _ _ c1
        walk_at "ev"
        refine e_app c1 ⟨?_, ?_⟩
        · rw [List.length_map]
          have := List.length_filter_le (fun i => decide (0 < i ∨ closed p)) (List.range i)
          rw [List.length_range] at this
          show _ < 16777216
          omega
        · refine hK _ _ ⟨_, _, rfl, (hl.trans hl').put hp1, ?_⟩
          rw [put_same, List.map_append]
          rfl
      unfold d_corners_1f_0a_0
      walk_at "ev"
      by_cases h0 : 0 < i
      · rw [if_pos (by omega)]
        have : prv p.2.length i = i - 1 := by unfold prv; rw [if_pos h0]
        rw [this] at rest
        rw [show ((i : Nat) : Int) - 1 = ((i - 1 : Nat) : Int) by omega]
        exact rest
      · rw [if_neg (by omega)]
        have : prv p.2.length i = p.2.length - 1 := by unfold prv; rw [if_neg h0]
        rw [this] at rest
        rw [List.length_map, show ((p.2.length : Nat) : Int) - 1 = ((p.2.length - 1 : Nat) : Int) by omega]
        exact rest
    by_cases h0 : 0 < i
    · rw [if_pos (by omega)]
      exact body (.inl h0)
    · rw [if_neg (by omega)]
      refine ⟨p, rfl, ok.ne, fun t ht => ?_⟩
      rw [hel] at ht
      cases ht
      walk_at "ev"
      by_cases h1 : ql.to = p.1
      · rw [if_pos h1]
        exact body (.inr (hcl.mpr h1))
      · rw [if_neg h1]
        rw [show decide (0 < i ∨ closed p) = false from decide_eq_false fun z => z.elim h0 fun y => h1 (hcl.mp y)] at hK
        refine hK _ _ ⟨_, _, rfl, hl, ?_⟩
        rw [c1, if_neg Bool.false_ne_true]
        simp
  · rintro e l ⟨z2, z3, rfl, hl, c1⟩
    rw [hlen] at c1
    unfold d_corners_2
    walk_at "ev"
    exact h p1 l hp1 hl c1
end
local macro_rules | `(tactic| walk_at "ev105") => `(tactic| try simp only [eq_side_side, eq_arc_side, ne_side_side, ne_arc_side, eq_arc_arc, eq_side_arc, eq_trn_left, eq_trn_right, pc0s, pc1s, pc0a, pc1a, pc2a, pc3a, pt0, pt1, pc_mks, pc_mka, oEq_ff, oNe_ff, oEq_vv, oNe_vv, e_gTv, vc_mk, vx0, vx1, if_true, if_false, decide_true, decide_false, Bool.not_true, Bool.not_false, Bool.false_eq_true, reduceCtorEq, e_gS, e_gT, e_gsL0, e_gsL1, e_gsN0, e_gsN1, e_r1, e_r1K, e_r2, e_r2K, e_any, e_lsT, e_zpT, e_enT, e_en, e_zp, e_lzip, e_z3, e_revt, e_tru, tru_bl, tru_int, tru_non, tru_tup, e_disp, e_prs0, e_prs1, List.zip_nil_left, e_rv, e_for, e_comp, e_mt, e_wipe0, e_wipe1, fr0, fr1, ix0, ix1, ix2, ix3, bIf_t, bIf_f, bIf_d, bIf_n, oEq_ii, oNe_ii, oEq_bb, oNe_bb, List.set_cons_zero, List.set_cons_succ, List.zip_cons_cons, List.zip_nil_right, List.foldl_cons, List.foldl_nil, e_add, e_addI, e_addt, e_addl, e_sub, e_mul, e_div, e_mod, e_pow, e_oI, e_neg, e_not, e_isn, e_isnn, e_isb, e_isnb, e_isN_non, e_isN_bl, e_isN_int, e_isN_tup, e_isN_ref, e_isN_fz, e_isN_fr, e_isN_str, e_lent, e_lenz, e_abs, e_int, e_intb, e_dvm, e_min, e_max, e_listt, e_listz, e_tupt, e_str, gv_0, gv_s, e_slt, e_slz, e_v0, e_v1, e_v2, e_v3, e_v4, e_v5, e_v6, e_v7, e_v8, e_v9, e_v10, e_v11, e_v12, e_v13, e_v14, e_v15, e_v16, e_v17, e_v18, e_v19, e_v20, e_v21, e_v22, e_v23, e_v24, e_v25, e_v26, e_v27, e_v28, e_v29, e_v30, e_v31, e_v32, e_v33, e_v34, e_v35, e_v36, e_v37, e_v38, e_v39, e_ar0, e_ar1, e_gN, e_par, e_c, e_bin, e_un, e_and, e_or, e_ife, e_chain, e_tup, e_lst, e_bi, e_call, e_sl, e_no, e_so, e_nil, e_seq, e_expr, e_ret, e_retn, e_asg, e_if, e_brk, e_cnt, sz_0, sz_1, sz_2, sz_3, sz_4, sz_5, sz_6, sz_7, sz_8, sz_9, sz_10, sz_11, sz_12, sz_13, sz_14, sz_15, sz_16, sz_17, sz_18, sz_19, true_and, isi_non_int, isi_non_bool, isi_non_str, isi_non_tuple, isi_non_list, isi_non_dict, isi_bl_int, isi_bl_bool, isi_bl_str, isi_bl_tuple, isi_bl_list, isi_bl_dict, isi_int_int, isi_int_bool, isi_int_str, isi_int_tuple, isi_int_list, isi_int_dict, isi_str_int, isi_str_bool, isi_str_str, isi_str_tuple, isi_str_list, isi_str_dict, isi_tup_int, isi_tup_bool, isi_tup_str, isi_tup_tuple, isi_tup_list, isi_tup_dict, isi_fz_int, isi_fz_bool, isi_fz_str, isi_fz_tuple, isi_fz_list, isi_fz_dict])
section
open PySem PySem.Spec PyProof.Rows L2
def HH (h : Int) : Prop := h = 5 ∨ h = 13 ∨ h = 17 ∨ h = 25
def IsI (D B : Int) (q : Rat) : Prop := ∃ z : Int, q * (D : Rat) = (z : Rat) ∧ -B ≤ z ∧ z ≤ B
def UH (h : Int) (u : Vc) : Prop := Un u ∧ IsI h h u.1 ∧ IsI h h u.2
theorem sq_bdI {x y D : Int} (h : x * x + y * y = D * D) (hD : 0 ≤ D) : -D ≤ x ∧ x ≤ D := by
  have hy : 0 ≤ y * y := by
    rcases Int.le_total 0 y with q | q
    · exact Int.mul_nonneg q q
    · have := Int.mul_nonneg (show 0 ≤ -y by omega) (show 0 ≤ -y by omega)
      grind
  constructor
  · rcases Int.lt_or_le x (-D) with q | q
    · exfalso
      have h1 : D < -x := by omega
      have h2 := Int.mul_lt_mul h1 (show D ≤ -x by omega) 
      by_cases hz : 0 < D
      · have := h2 hz (by omega)
        grind
      · have hD0 : D = 0 := by omega
        subst hD0
        have := Int.mul_pos (show 0 < -x by omega) (show 0 < -x by omega)
        grind
    · exact q
  · rcases Int.lt_or_le D x with q | q
    · exfalso
      have h2 := Int.mul_lt_mul q (show D ≤ x by omega) 
      by_cases hz : 0 < D
      · have := h2 hz (by omega)
        grind
      · have hD0 : D = 0 := by omega
        subst hD0
        have := Int.mul_pos (show 0 < x by omega) (show 0 < x by omega)
        grind
    · exact q
theorem ratI_ne {D : Int} (h : D ≠ 0) : ((D : Int) : Rat) ≠ 0 := fun z => h (Rat.intCast_inj.mp (show (D : Rat) = ((0 : Int) : Rat) from z))
theorem IsI.frac {x D h : Int} (hh : 0 < h) (hD : D = 1 ∨ D = h) (hx1 : -D ≤ x) (hx2 : x ≤ D) : IsI h h ((x : Rat) / (D : Rat)) := by
  rcases hD with rfl | rfl
  · refine ⟨x * h, ?_, ?_, ?_⟩
    · rw [Rat.intCast_mul, show ((1 : Int) : Rat) = 1 from rfl]
      grind
    · have := Int.mul_le_mul_of_nonneg_right hx1 (show 0 ≤ h by omega)
      omega
    · have := Int.mul_le_mul_of_nonneg_right hx2 (show 0 ≤ h by omega)
      omega
  · refine ⟨x, ?_, hx1, hx2⟩
    have := ratI_ne (D := D) (by omega)
    generalize ((D : Int) : Rat) = d at *
    grind
theorem UH.mk {x y D h : Int} (hh : 0 < h) (hD : D = 1 ∨ D = h) (e : x * x + y * y = D * D) : UH h ((x : Rat) / (D : Rat), (y : Rat) / (D : Rat)) := by
  have hD0 : 0 < D := by rcases hD with q | q <;> omega
  have hx := sq_bdI e (by omega)
  have hy := sq_bdI (x := y) (y := x) (D := D) (by omega) (by omega)
  refine ⟨?_, IsI.frac hh hD hx.1 hx.2, IsI.frac hh hD hy.1 hy.2⟩
  have hd := ratI_ne (D := D) (by omega)
  have e' : (x : Rat) * (x : Rat) + (y : Rat) * (y : Rat) = (D : Rat) * (D : Rat) := by
    rw [← Rat.intCast_mul, ← Rat.intCast_mul, ← Rat.intCast_mul, ← Rat.intCast_add, e]
  unfold Un
  show (x : Rat) / (D : Rat) * ((x : Rat) / (D : Rat)) + (y : Rat) / (D : Rat) * ((y : Rat) / (D : Rat)) = 1
  rw [div2 hd hd, div2 hd hd, div_a, e']
  generalize ((D : Int) : Rat) = d at *
  grind
theorem IsI.neg {D B : Int} {q : Rat} (h : IsI D B q) : IsI D B (-q) := by
  obtain ⟨z, e, h1, h2⟩ := h
  refine ⟨-z, ?_, by omega, by omega⟩
  rw [Rat.intCast_neg, ← e]
  grind
theorem UH.lft {h : Int} {u : Vc} (k : UH h u) : UH h (vlft u) := ⟨k.1.lft, by
  show IsI h h (0 - u.2)
  rw [show (0 : Rat) - u.2 = -u.2 by grind]
  exact k.2.2.neg, k.2.1⟩
theorem UH.neg {h : Int} {u : Vc} (k : UH h u) : UH h (vneg u) := ⟨un_vneg k.1, k.2.1.neg, k.2.2.neg⟩
theorem IsI.sz {D B : Int} {q : Rat} {b : Nat} (h : IsI D B q) (hD : 0 < D) (h1 : D.natAbs < 2 ^ b) (h2 : B.natAbs < 2 ^ b) : Sz b q := by
  obtain ⟨z, e, z1, z2⟩ := h
  have hd := ratI_ne (D := D) (by omega)
  have : q = (z : Rat) / (D : Rat) := by
    rw [← e]
    generalize ((D : Int) : Rat) = d at *
    grind
  rw [this]
  exact Sz.of (by omega) (by omega) h1
theorem HH.bd {h : Int} (k : HH h) : 5 ≤ h ∧ h ≤ 25 := by rcases k with rfl | rfl | rfl | rfl <;> omega
theorem UH.sz {h : Int} {u : Vc} (k : UH h u) (hh : HH h) : SzV 14 u := by
  have := hh.bd
  exact ⟨k.2.1.sz (by omega) (by show _ < 16384; omega) (by show _ < 16384; omega), k.2.2.sz (by omega) (by show _ < 16384; omega) (by show _ < 16384; omega)⟩
end
section
open PySem PySem.Spec PyProof.Rows L2
theorem IsI.add {D A B : Int} {p q : Rat} (h : IsI D A p) (k : IsI D B q) : IsI D (A + B) (p + q) := by
  obtain ⟨z, e, z1, z2⟩ := h
  obtain ⟨w, f, w1, w2⟩ := k
  refine ⟨z + w, ?_, by omega, by omega⟩
  rw [Rat.intCast_add, ← e, ← f]
  grind
theorem IsI.mono {D A B : Int} {q : Rat} (h : IsI D A q) (k : A ≤ B) : IsI D B q := by
  obtain ⟨z, e, z1, z2⟩ := h
  exact ⟨z, e, by omega, by omega⟩
theorem mul_bd {z w A B : Int} (z1 : -A ≤ z) (z2 : z ≤ A) (w1 : -B ≤ w) (w2 : w ≤ B) : -(A * B) ≤ z * w ∧ z * w ≤ A * B := by
  have hz : z.natAbs ≤ A.natAbs := by omega
  have hw : w.natAbs ≤ B.natAbs := by omega
  have h := Nat.mul_le_mul hz hw
  rw [← Int.natAbs_mul, ← Int.natAbs_mul] at h
  have : 0 ≤ A * B := Int.mul_nonneg (by omega) (by omega)
  omega
theorem IsI.mul {D E A B : Int} {p q : Rat} (h : IsI D A p) (k : IsI E B q) : IsI (D * E) (A * B) (p * q) := by
  obtain ⟨z, e, z1, z2⟩ := h
  obtain ⟨w, f, w1, w2⟩ := k
  obtain ⟨m1, m2⟩ := mul_bd z1 z2 w1 w2
  refine ⟨z * w, ?_, m1, m2⟩
  rw [Rat.intCast_mul, Rat.intCast_mul, ← e, ← f]
  grind
theorem IsI.two {n w B : Int} (hw : w = 1 ∨ w = 2) (h1 : -B ≤ n) (h2 : n ≤ B) : IsI 2 (2 * B) ((n : Rat) / (w : Rat)) := by
  rcases hw with rfl | rfl
  · refine ⟨2 * n, ?_, by omega, by omega⟩
    rw [Rat.intCast_mul, show ((1 : Int) : Rat) = 1 from rfl]
    grind
  · refine ⟨n, ?_, by omega, by omega⟩
    rw [show ((2 : Int) : Rat) = 2 from rfl]
    grind
/-- points of the law: parts with the bottom 2h -/
def Pt (h B : Int) (p : Vc) : Prop := IsI (h * 2) (h * B) p.1 ∧ IsI (h * 2) (h * B) p.2
theorem IsI.up {h B : Int} {q : Rat} (hh : 0 < h) (k : IsI 2 B q) : IsI (h * 2) (h * B) q := by
  obtain ⟨z, e, z1, z2⟩ := k
  refine ⟨h * z, ?_, ?_, Int.mul_le_mul_of_nonneg_left z2 (by omega)⟩
  · rw [Rat.intCast_mul, Rat.intCast_mul, ← e]
    grind
  · have := Int.mul_le_mul_of_nonneg_left z1 (show 0 ≤ h by omega)
    rw [Int.mul_neg] at this
    exact this
theorem Pt.on {h B C : Int} {p u : Vc} {t : Rat} (hp : Pt h B p) (hu : UH h u) (ht : IsI 2 C t) : Pt h (B + C) (vadd p (vscl u t)) := by
  unfold Pt
  rw [Int.mul_add]
  exact ⟨hp.1.add (hu.2.1.mul ht), hp.2.add (hu.2.2.mul ht)⟩
theorem Pt.mono {h B C : Int} {p : Vc} (hh : HH h) (hp : Pt h B p) (k : B ≤ C) : Pt h C p := by
  have := hh.bd
  have := Int.mul_le_mul_of_nonneg_left k (show 0 ≤ h by omega)
  exact ⟨hp.1.mono this, hp.2.mono this⟩
theorem Pt.sz {h B : Int} {p : Vc} (hh : HH h) (hp : Pt h B p) (k0 : 0 ≤ B) (k : B ≤ 300) : SzV 14 p := by
  have hb := hh.bd
  have h1 := Int.mul_le_mul (show h ≤ 25 by omega) k k0 (by omega)
  have h0 : 0 ≤ h * B := Int.mul_nonneg (by omega) k0
  exact ⟨hp.1.sz (by omega) (by show _ < 16384; omega) (by show _ < 16384; omega), hp.2.sz (by omega) (by show _ < 16384; omega) (by show _ < 16384; omega)⟩
theorem vsub_on {p v : Vc} : vsub (vadd p v) p = v := Prod.ext (by show p.1 + v.1 - p.1 = v.1; grind) (by show p.2 + v.2 - p.2 = v.2; grind)
theorem vsub_off {p v : Vc} {r : Rat} : vsub p (vadd p (vscl v (-r))) = vscl v r := Prod.ext (by show p.1 - (p.1 + v.1 * -r) = v.1 * r; grind) (by show p.2 - (p.2 + v.2 * -r) = v.2 * r; grind)
theorem len_scl {u : Vc} {r : Rat} (hu : Un u) (hr : 0 < r) : HasLen (vscl u r) ∧ len (vscl u r) = r := by
  refine len_of hr ?_
  unfold Un at hu
  show r * r = u.1 * r * (u.1 * r) + u.2 * r * (u.2 * r)
  have : u.1 * r * (u.1 * r) + u.2 * r * (u.2 * r) = (u.1 * u.1 + u.2 * u.2) * (r * r) := by grind
  rw [this, hu]
  grind
theorem HasLen.ne {v : Vc} (h : HasLen v) : v ≠ (0, 0) := fun z => by
  obtain ⟨r, hr, e⟩ := h
  have := Rat.mul_pos hr hr
  rw [z] at e
  have e2 : r * r = 0 := by rw [e]; show (0 : Rat) * 0 + 0 * 0 = 0; grind
  grind
theorem vsub_self {p : Vc} : vsub p p = (0, 0) := Prod.ext (by show p.1 - p.1 = 0; grind) (by show p.2 - p.2 = 0; grind)
theorem HasLen.ne2 {a b : Vc} (h : HasLen (vsub a b)) : a ≠ b := fun z => h.ne (by rw [z, vsub_self])
theorem side_ok {p u : Vc} {t : Rat} (hu : Un u) (ht : 0 < t) : PcOk p (.side (vadd p (vscl u t))) := by
  have h : HasLen (vsub (vadd p (vscl u t)) p) := by rw [vsub_on]; exact (len_scl hu ht).1
  exact ⟨h.ne2, h⟩
theorem arc_ok {p o u : Vc} {r : Rat} {lf : Bool} (ho : Un o) (hu : Un u) (hr : 0 < r) (n : o ≠ u) : PcOk p (.arc (vadd p (vscl u (-r))) (vadd (vadd p (vscl u (-r))) (vscl o r)) lf) := by
  obtain ⟨a1, a2⟩ := len_scl hu hr
  obtain ⟨b1, b2⟩ := len_scl ho hr
  refine ⟨?_, by rw [vsub_off]; exact a1, by rw [vsub_on]; exact b1, by rw [vsub_off, vsub_on, a2, b2]⟩
  intro z
  apply n
  have e1 := congrArg Prod.fst z
  have e2 := congrArg Prod.snd z
  have e1 : p.1 + u.1 * -r + o.1 * r = p.1 := e1
  have e2 : p.2 + u.2 * -r + o.2 * r = p.2 := e2
  have k : r ≠ 0 := by grind
  have f1 : (o.1 - u.1) * r = 0 := by grind
  have f2 : (o.2 - u.2) * r = 0 := by grind
  refine Prod.ext ?_ ?_
  · rcases Rat.mul_eq_zero.mp f1 with q | q
    · grind
    · exact absurd q k
  · rcases Rat.mul_eq_zero.mp f2 with q | q
    · grind
    · exact absurd q k
def endP : Vc → List Pc → Vc
  | b, [] => b
  | _, q :: r => endP q.to r
theorem endP_app : ∀ {ps : List Pc} {b : Vc} {q : Pc}, endP b (ps ++ [q]) = q.to
  | [], _, _ => rfl
  | _ :: r, _, _ => endP_app (ps := r)
theorem PcsOk.app : ∀ {ps : List Pc} {b : Vc} {q : Pc}, PcsOk b ps → PcOk (endP b ps) q → PcsOk b (ps ++ [q])
  | [], _, _, _, h => ⟨h, trivial⟩
  | _ :: r, _, _, h, k => ⟨h.1, PcsOk.app (ps := r) h.2 k⟩
end
section
open PySem PySem.Spec PyProof.Rows L2
structure PS (b q : Addr) (L l : Sto) (h : Int) (s here : Vc) (ps : List Pc) (B nn : Int) : Prop where
  st : l q = some (.l (ps.map pcV))
  fr : L q = none
  le : LeB b L l
  bx : Bx b nn l
  nq : q ≠ b
  ok : PcsOk s ps
  ed : endP s ps = here
  pt : Pt h B here
  sz : ∀ x ∈ ps, PcSz 14 x
theorem LeB.putF {b p : Addr} {L La : Sto} {o : SO} (h : LeB b L La) (hp : L p = none) : LeB b L (Mp.put La p o) := fun a u n e => by
  rw [put_ne (fun z => by rw [z, hp] at e; cases e)]
  exact h a u n e
theorem Bx.putN {b p : Addr} {n : Int} {L : Sto} {o : SO} (h : Bx b n L) (hp : p ≠ b) : Bx b n (Mp.put L p o) := by
  obtain ⟨c0, c1, c2, e, r⟩ := h
  exact ⟨c0, c1, c2, by rw [put_ne hp.symm]; exact e, r⟩
theorem PS.app {b q : Addr} {L l : Sto} {h B C nn : Int} {s here : Vc} {ps : List Pc} {x : Pc} (k : PS b q L l h s here ps B nn) (ok : PcOk here x) (pt : Pt h C x.to) (sx : PcSz 14 x) :
    PS b q L (put l q (.l (ps.map pcV ++ [pcV x]))) h s x.to (ps ++ [x]) C nn := by
  refine ⟨by rw [put_same, List.map_append]; rfl, k.fr, k.le.putF k.fr, k.bx.putN k.nq, k.nq, k.ok.app (by rw [k.ed]; exact ok), endP_app, pt, ?_⟩
  intro y hy
  rcases List.mem_append.mp hy with z | z
  · exact k.sz y z
  · cases List.mem_singleton.mp z
    exact sx
theorem PS.go {b q : Addr} {L l l' : Sto} {h B nn mm : Int} {s here : Vc} {ps : List Pc} (k : PS b q L l h s here ps B nn) (le : LeB b l l') (bx : Bx b mm l') : PS b q L l' h s here ps B mm :=
  ⟨le _ _ k.nq k.st, k.fr, k.le.trans le, bx, k.nq, k.ok, k.ed, k.pt, k.sz⟩
end
section
open PySem PySem.Spec PyProof.Rows L2
theorem sok_app {a b : Str} (ha : PyData.strOk a = true) (hb : PyData.strOk b = true) : PyData.strOk (a ++ b) = true := by
  unfold PyData.strOk at *
  show (a.cps ++ b.cps).all _ = true
  rw [Array.all_append, ha, hb]
  rfl
theorem sok_join : ∀ {ts : List Str}, (∀ t ∈ ts, PyData.strOk t = true) → PyData.strOk (Str.join ", " ts) = true
  | [], _ => by decide +kernel
  | [x], h => h x (List.mem_singleton.mpr rfl)
  | x :: y :: r, h => by
    show PyData.strOk (x ++ ", " ++ Str.join ", " (y :: r)) = true
    exact sok_app (sok_app (h x List.mem_cons_self) (by decide +kernel)) (sok_join fun t ht => h t (List.mem_cons_of_mem _ ht))
theorem sok_tup {ts : List Str} (h : ∀ t ∈ ts, PyData.strOk t = true) : PyData.strOk (tupleText ts) = true := by
  unfold tupleText
  refine sok_app (sok_app (by decide +kernel) (sok_join h)) ?_
  split <;> decide +kernel
structure ShW (k m : Nat) (d : PyData) : Prop where
  sh : d.showable = true
  nd : d.hasDict = false
  dp : d.depth ≤ k
  ln : d.shown.length ≤ m
  ok : PyData.strOk d.shown = true
theorem ShW.mono {k k' m m' : Nat} {d : PyData} (h : ShW k m d) (hk : k ≤ k') (hm : m ≤ m') : ShW k' m' d := ⟨h.sh, h.nd, Nat.le_trans h.dp hk, Nat.le_trans h.ln hm, h.ok⟩
theorem shw_all {k m : Nat} : ∀ {ds : List PyData}, (∀ d ∈ ds, ShW k m d) → PyData.showableAll ds = true ∧ PyData.hasDictAll ds = false ∧ PyData.depthAll ds ≤ k ∧ piled (PyData.shownAll ds) ≤ ds.length * (m + 2) ∧ ∀ t ∈ PyData.shownAll ds, PyData.strOk t = true
  | [], _ => ⟨rfl, rfl, Nat.zero_le _, Nat.zero_le _, fun t ht => by cases ht⟩
  | d :: r, h => by
    obtain ⟨h1, h2, h3, h4, h5⟩ := shw_all (ds := r) fun x hx => h x (List.mem_cons_of_mem _ hx)
    have q := h d List.mem_cons_self
    refine ⟨?_, ?_, ?_, ?_, ?_⟩
    · show (d.showable && PyData.showableAll r) = true
      rw [q.sh, h1]; rfl
    · show (d.hasDict || PyData.hasDictAll r) = false
      rw [q.nd, h2]; rfl
    · show max d.depth (PyData.depthAll r) ≤ k
      exact Nat.max_le.mpr ⟨q.dp, h3⟩
    · show piled (d.shown :: PyData.shownAll r) ≤ _
      rw [piled_cons, List.length_cons, Nat.succ_mul]
      have := q.ln
      omega
    · intro t ht
      rcases List.mem_cons.mp ht with e | e
      · rw [e]; exact q.ok
      · exact h5 t e
theorem ShW.tup {k m n : Nat} {ds : List PyData} (h : ∀ d ∈ ds, ShW k m d) (hn : ds.length ≤ n) : ShW (k + 1) (n * (m + 2) + 2) (.tuple ds) := by
  obtain ⟨h1, h2, h3, h4, h5⟩ := shw_all h
  refine ⟨h1, h2, Nat.succ_le_succ h3, ?_, sok_tup h5⟩
  have := fmt_text (PyData.shownAll ds)
  have := Nat.mul_le_mul_right (m + 2) hn
  show (tupleText (PyData.shownAll ds)).length ≤ _
  omega
end
section
open PySem PySem.Spec PyProof.Rows L2
structure U65 (u : Vc) : Prop where
  un : Un u
  ii : IsI 65 65 u.1 ∧ IsI 65 65 u.2
  z4 : SzV 4 u
def unB : List Vc := [(⟨1, 1, by decide, by decide⟩, ⟨0, 1, by decide, by decide⟩), (⟨4, 5, by decide, by decide⟩, ⟨3, 5, by decide, by decide⟩), (⟨3, 5, by decide, by decide⟩, ⟨4, 5, by decide, by decide⟩), (⟨12, 13, by decide, by decide⟩, ⟨5, 13, by decide, by decide⟩), (⟨5, 13, by decide, by decide⟩, ⟨12, 13, by decide, by decide⟩)]
def lftN : Nat → Vc → Vc
  | 0, v => v
  | n + 1, v => vlft (lftN n v)
def unI (k : Nat) : Vc := lftN (k / 5 % 4) (unB.getD (k % 5) (0, 0))
def u65B (u : Vc) : Bool := decide (u.1 * u.1 + u.2 * u.2 = 1) && (decide ((u.1 * 65).den = 1) && decide ((u.1 * 65).num.natAbs ≤ 65)) && (decide ((u.2 * 65).den = 1) && decide ((u.2 * 65).num.natAbs ≤ 65)) && ((decide (u.1.num.natAbs < 16) && decide (u.1.den < 16)) && (decide (u.2.num.natAbs < 16) && decide (u.2.den < 16)))
theorem isI_of {q : Rat} (h1 : (q * 65).den = 1) (h2 : (q * 65).num.natAbs ≤ 65) : IsI 65 65 q := by
  refine ⟨(q * 65).num, ?_, by omega, by omega⟩
  have := num_eq (q * 65)
  rw [h1] at this
  rw [this]
  show q * 65 = q * 65 * 1
  grind
theorem u65_of {u : Vc} (h : u65B u = true) : U65 u := by
  unfold u65B at h
  simp only [Bool.and_eq_true, decide_eq_true_iff] at h
  obtain ⟨⟨⟨h1, h2⟩, h3⟩, h4⟩ := h
  exact ⟨h1, ⟨isI_of h2.1 h2.2, isI_of h3.1 h3.2⟩, ⟨h4.1.1, h4.1.2⟩, ⟨h4.2.1, h4.2.2⟩⟩
theorem unI_all : ((List.range 20).all fun k => u65B (unI k)) = true := by decide +kernel
theorem unI_ok {k : Nat} (h : k < 20) : U65 (unI k) := u65_of (List.all_eq_true.mp unI_all k (List.mem_range.mpr h))
theorem unI_two : ((List.range 20).all fun i => (List.range 20).all fun j => decide (i = j) || !decide (unI i = unI j)) = true := by decide +kernel
theorem unI_ne {i j : Nat} (hi : i < 20) (hj : j < 20) (n : i ≠ j) : unI i ≠ unI j := by
  have h := List.all_eq_true.mp (List.all_eq_true.mp unI_two i (List.mem_range.mpr hi)) j (List.mem_range.mpr hj)
  intro z
  rw [z, decide_eq_false n] at h
  simp at h
theorem un_lit : [PV.tup [.tup [.int 1, .int 1], .tup [.int 0, .int 1]], .tup [.tup [.int 4, .int 5], .tup [.int 3, .int 5]], .tup [.tup [.int 3, .int 5], .tup [.int 4, .int 5]], .tup [.tup [.int 12, .int 13], .tup [.int 5, .int 13]], .tup [.tup [.int 5, .int 13], .tup [.int 12, .int 13]]] = unB.map vc := rfl
end
section
open PySem PySem.Spec PyProof.Rows L2
inductive Mv where
  | side (u : Vc) (t : Int) | arc (u o : Vc) (r : Int) (lf : Bool)
def mvV : Mv → PV
  | .side u t => .tup [.str "side", vc u, fr (t : Rat)]
  | .arc u o r lf => .tup [.str "arc", vc u, vc o, fr (r : Rat), .str (trn lf)]
def MvOk : Mv → Prop
  | .side u t => U65 u ∧ 0 < t ∧ t ≤ 11
  | .arc u o r _ => U65 u ∧ U65 o ∧ o ≠ u ∧ 0 < r ∧ r ≤ 6
def mvP (b : Vc) : Mv → Pc
  | .side u t => .side (vadd b (vscl u (t : Rat)))
  | .arc u o r lf => .arc (vsub b (vscl u (r : Rat))) (vadd (vsub b (vscl u (r : Rat))) (vscl o (r : Rat))) lf
def mvPs : Vc → List Mv → List Pc
  | _, [] => []
  | b, m :: r => mvP b m :: mvPs (mvP b m).to r
def bkM : Mv → Mv
  | .side u t => .side (vneg u) t
  | .arc u o r lf => .arc (vneg u) (vneg o) r lf
def P65 (B : Int) (p : Vc) : Prop := IsI 65 (65 * B) p.1 ∧ IsI 65 (65 * B) p.2
theorem mvPs_app : ∀ {ms : List Mv} {b : Vc} {m : Mv}, mvPs b (ms ++ [m]) = mvPs b ms ++ [mvP (endP b (mvPs b ms)) m]
  | [], _, _ => rfl
  | x :: r, b, m => by
    show mvP b x :: mvPs (mvP b x).to (r ++ [m]) = _
    rw [mvPs_app]; rfl
theorem mvPs_len : ∀ {ms : List Mv} {b : Vc}, (mvPs b ms).length = ms.length
  | [], _ => rfl
  | x :: r, b => by
    show (mvPs (mvP b x).to r).length + 1 = r.length + 1
    rw [mvPs_len]
theorem U65.neg {u : Vc} (h : U65 u) : U65 (vneg u) := ⟨by
  have := h.1
  unfold Un at *
  show -u.1 * -u.1 + -u.2 * -u.2 = 1
  grind, ⟨h.2.1.neg, h.2.2.neg⟩, h.3.neg⟩
theorem U65.sz {u : Vc} (h : U65 u) : SzV 14 u := ⟨h.2.1.sz (by decide) (by decide) (by decide), h.2.2.sz (by decide) (by decide) (by decide)⟩
theorem isI1 {t C : Int} (h0 : 0 ≤ t) (h : t ≤ C) : IsI 1 C (t : Rat) := ⟨t, by rw [show ((1 : Int) : Rat) = 1 from rfl]; grind, by omega, h⟩
theorem P65.on {B C t : Int} {p u : Vc} (hp : P65 B p) (hu : U65 u) (h0 : 0 ≤ t) (h : t ≤ C) : P65 (B + C) (vadd p (vscl u (t : Rat))) := by
  unfold P65
  rw [Int.mul_add]
  exact ⟨hp.1.add (hu.2.1.mul (isI1 h0 h)), hp.2.add (hu.2.2.mul (isI1 h0 h))⟩
theorem off_on {p u : Vc} {r : Rat} : vsub p (vscl u r) = vadd p (vscl (vneg u) r) := Prod.ext (by show p.1 - u.1 * r = p.1 + -u.1 * r; grind) (by show p.2 - u.2 * r = p.2 + -u.2 * r; grind)
theorem off_on' {p u : Vc} {r : Rat} : vsub p (vscl u r) = vadd p (vscl u (-r)) := Prod.ext (by show p.1 - u.1 * r = p.1 + u.1 * -r; grind) (by show p.2 - u.2 * r = p.2 + u.2 * -r; grind)
theorem P65.mono {B C : Int} {p : Vc} (hp : P65 B p) (k : B ≤ C) : P65 C p := ⟨hp.1.mono (by omega), hp.2.mono (by omega)⟩
theorem P65.sz {B : Int} {p : Vc} (hp : P65 B p) (k0 : 0 ≤ B) (k : B ≤ 250) : SzV 14 p := ⟨hp.1.sz (by omega) (by decide) (by show _ < 16384; omega), hp.2.sz (by omega) (by decide) (by show _ < 16384; omega)⟩
theorem ratPos {t : Int} (h : 0 < t) : (0 : Rat) < (t : Rat) := by exact_mod_cast h
theorem mv_ok {m : Mv} {b : Vc} {B : Int} (h : MvOk m) (hb : P65 B b) (h0 : 0 ≤ B) (h1 : B ≤ 230) : PcOk b (mvP b m) ∧ P65 (B + 12) (mvP b m).to ∧ PcSz 14 (mvP b m) := by
  cases m with
  | side u t =>
    have q := hb.on h.1 (show 0 ≤ t by have := h.2.1; omega) h.2.2
    exact ⟨side_ok h.1.1 (ratPos h.2.1), q.mono (by omega), q.sz (by omega) (by omega)⟩
  | arc u o r lf =>
    obtain ⟨hu, ho, hne, r0, r6⟩ := h
    have q1 : P65 (B + 6) (vsub b (vscl u (r : Rat))) := by rw [off_on]; exact hb.on hu.neg (by omega) r6
    have q2 := q1.on ho (show 0 ≤ r by omega) r6
    refine ⟨?_, q2.mono (by omega), q1.sz (by omega) (by omega), q2.sz (by omega) (by omega)⟩
    show PcOk b (.arc (vsub b (vscl u (r : Rat))) (vadd (vsub b (vscl u (r : Rat))) (vscl o (r : Rat))) lf)
    rw [off_on']
    exact arc_ok ho.1 hu.1 (ratPos r0) hne
theorem mvs_ok : ∀ {ms : List Mv} {b : Vc} {B : Int}, (∀ m ∈ ms, MvOk m) → P65 B b → 0 ≤ B → B + 12 * (ms.length : Int) ≤ 230 → PcsOk b (mvPs b ms) ∧ (∀ q ∈ mvPs b ms, PcSz 14 q) ∧ P65 (B + 12 * (ms.length : Int)) (endP b (mvPs b ms))
  | [], b, B, _, hb, _, _ => ⟨trivial, fun q hq => (by cases hq), hb.mono (show B ≤ B + 12 * (0 : Int) by omega)⟩
  | m :: r, b, B, h, hb, h0, h1 => by
    have h1' : B + 12 * ((r.length : Int) + 1) ≤ 230 := h1
    obtain ⟨k1, k2, k3⟩ := mv_ok (h m List.mem_cons_self) hb h0 (by omega)
    obtain ⟨q1, q2, q3⟩ := mvs_ok (ms := r) (fun x hx => h x (List.mem_cons_of_mem _ hx)) k2 (by omega) (by omega)
    refine ⟨⟨k1, q1⟩, fun q hq => ?_, q3.mono ?_⟩
    · rcases List.mem_cons.mp hq with rfl | hq
      · exact k3
      · exact q2 q hq
    · show B + 12 + 12 * (r.length : Int) ≤ B + 12 * ((r.length : Int) + 1)
      omega
theorem mvs_path {ms : List Mv} {s : Vc} (h : ∀ m ∈ ms, MvOk m) (hs : P65 4 s) (hn : ms ≠ []) (hl : ms.length ≤ 12) : PathOk (s, mvPs s ms) ∧ PSz 14 (s, mvPs s ms) := by
  obtain ⟨h1, h2, _⟩ := mvs_ok h hs (by decide) (by omega)
  refine ⟨⟨fun z => hn ?_, h1, by show (mvPs s ms).length ≤ 12; rw [mvPs_len]; exact hl⟩, hs.sz (by decide) (by decide), h2⟩
  have := mvPs_len (ms := ms) (b := s)
  rw [show mvPs s ms = [] from z] at this
  exact List.length_eq_zero_iff.mp this.symm
theorem bkM_ok {m : Mv} (h : MvOk m) : MvOk (bkM m) := by
  cases m with
  | side u t => exact ⟨h.1.neg, h.2⟩
  | arc u o r lf =>
    refine ⟨h.1.neg, h.2.1.neg, fun z => h.2.2.1 ?_, h.2.2.2⟩
    have e1 : -o.1 = -u.1 := congrArg Prod.fst z
    have e2 : -o.2 = -u.2 := congrArg Prod.snd z
    exact Prod.ext (by grind) (by grind)
end
section
open PySem PySem.Spec PyProof.Rows L2
theorem seqIx_nat {w n : Nat} (h : w < n) : PySem.seqIndex? (w : Int) n = some w := by
  unfold PySem.seqIndex?
  show (if (decide (0 ≤ (if (w : Int) < 0 then (w : Int) + (n : Int) else (w : Int))) && decide ((if (w : Int) < 0 then (w : Int) + (n : Int) else (w : Int)) < (n : Int))) = true then some ((if (w : Int) < 0 then (w : Int) + (n : Int) else (w : Int))).toNat else none) = some w
  have e : (if (w : Int) < 0 then (w : Int) + (n : Int) else (w : Int)) = w := if_neg (by omega)
  rw [e, decide_eq_true (show (0 : Int) ≤ w by omega), decide_eq_true (show (w : Int) < n by omega)]
  rfl
theorem erase_map {α β : Type} (f : α → β) : ∀ (l : List α) (i : Nat), (l.map f).eraseIdx i = (l.eraseIdx i).map f
  | [], _ => rfl
  | _ :: _, 0 => rfl
  | x :: r, i + 1 => by
    show f x :: (r.map f).eraseIdx i = _
    rw [erase_map f r i]; rfl
end
section
open PySem PySem.Spec PyProof.Rows L2
def sb_frac : Spec := s_fraction
def sb_sum : Spec := s_added
def sb_product : Spec := s_times
def sb_less : Spec := s_taken
def sb_add : Spec := s_plus
def sb_sub : Spec := s_minus
def sb_scaled_by : Spec := s_scaled
def sb_quarter : Spec := fun args L R => ∃ p, args = [vc p] ∧ R (vc (vlft p)) L
def sb_cross : Spec := fun args L R => ∃ p q, args = [vc p, vc q] ∧ SzV 1990 p ∧ SzV 1990 q ∧ R (fr (vcrs p q)) L
def b_frac_3 : WS := sRet (wTup [wBin oDiv (wVar 0) (wVar 2), wBin oDiv (wVar 1) (wVar 2)])
def b_frac_2 : WS := sSeq (sAsg (gN 2) (wBin oMul (wVar 2) (wIfE (wBin oGt (wVar 1) (wC (.int 0))) (wC (.int 1)) (wC (.int (-1)))))) b_frac_3
def b_frac_1w_0 : WS := sPar [2, 3] [wVar 3, wBin oMod (wVar 2) (wVar 3)]
def b_frac_1 : WS := sSeq (sWhile (wBin oGt (wVar 3) (wC (.int 0))) b_frac_1w_0) b_frac_2
def b_frac_0 : WS := sSeq (sPar [2, 3] [wBi gAbs [wVar 0], wBi gAbs [wVar 1]]) b_frac_1
def b_sum_0 : WS := sRet (wCall sb_frac [wBin oAdd (wBin oMul (wBin oIx (wVar 0) (wC (.int 0))) (wBin oIx (wVar 1) (wC (.int 1)))) (wBin oMul (wBin oIx (wVar 1) (wC (.int 0))) (wBin oIx (wVar 0) (wC (.int 1)))), wBin oMul (wBin oIx (wVar 0) (wC (.int 1))) (wBin oIx (wVar 1) (wC (.int 1)))])
def b_product_0 : WS := sRet (wCall sb_frac [wBin oMul (wBin oIx (wVar 0) (wC (.int 0))) (wBin oIx (wVar 1) (wC (.int 0))), wBin oMul (wBin oIx (wVar 0) (wC (.int 1))) (wBin oIx (wVar 1) (wC (.int 1)))])
def b_less_0 : WS := sRet (wCall sb_frac [wBin oSub (wBin oMul (wBin oIx (wVar 0) (wC (.int 0))) (wBin oIx (wVar 1) (wC (.int 1)))) (wBin oMul (wBin oIx (wVar 1) (wC (.int 0))) (wBin oIx (wVar 0) (wC (.int 1)))), wBin oMul (wBin oIx (wVar 0) (wC (.int 1))) (wBin oIx (wVar 1) (wC (.int 1)))])
def b_add_0 : WS := sRet (wTup [wCall sb_sum [wBin oIx (wVar 0) (wC (.int 0)), wBin oIx (wVar 1) (wC (.int 0))], wCall sb_sum [wBin oIx (wVar 0) (wC (.int 1)), wBin oIx (wVar 1) (wC (.int 1))]])
def b_sub_0 : WS := sRet (wTup [wCall sb_less [wBin oIx (wVar 0) (wC (.int 0)), wBin oIx (wVar 1) (wC (.int 0))], wCall sb_less [wBin oIx (wVar 0) (wC (.int 1)), wBin oIx (wVar 1) (wC (.int 1))]])
def b_scaled_by_0 : WS := sRet (wTup [wCall sb_product [wBin oIx (wVar 0) (wC (.int 0)), wVar 1], wCall sb_product [wBin oIx (wVar 0) (wC (.int 1)), wVar 1]])
def b_cross_0 : WS := sRet (wCall sb_less [wCall sb_product [wBin oIx (wVar 0) (wC (.int 0)), wBin oIx (wVar 1) (wC (.int 1))], wCall sb_product [wBin oIx (wVar 0) (wC (.int 1)), wBin oIx (wVar 1) (wC (.int 0))]])
def b_quarter_0 : WS := sRet (wTup [wTup [wUn oNeg (wBin oIx (wBin oIx (wVar 0) (wC (.int 1))) (wC (.int 0))), wBin oIx (wBin oIx (wVar 0) (wC (.int 1))) (wC (.int 1))], wBin oIx (wVar 0) (wC (.int 0))])
theorem ok_b_frac : ∀ args L R, args.length = 2 → sb_frac args L R → b_frac_0 (initE 4 args) L { nx := fun _ L' => R .non L', rt := R } := by
  rintro _ L R _ ⟨n, d, rfl, hd, hz, h⟩
  unfold b_frac_0
  show sSeq _ _ [some (.int n), some (.int d), none, none] L _
  walk_at "ev105"
  unfold b_frac_1
  walk_at "ev105"
  refine ⟨fun m env L' => L' = L ∧ ∃ x y : Nat, env = [some (.int n), some (.int d), some (.int x), some (.int y)] ∧ Nat.gcd x y = Nat.gcd n.natAbs d.natAbs ∧ m = y, ⟨d.natAbs, rfl, n.natAbs, d.natAbs, rfl, rfl, rfl⟩, ?_⟩
  rintro m env _ ⟨rfl, x, y, rfl, hg, rfl⟩
  walk_at "ev105"
  split
  · rename_i hy
    unfold b_frac_1w_0
    walk_at "ev105"
    have hy' : 0 < m := by omega
    refine ⟨by omega, x % m, Nat.mod_lt _ hy', m, x % m, ?_, ?_, rfl⟩
    · rw [Int.fmod_eq_emod_of_nonneg _ (by omega)]; rfl
    · rw [← hg, Nat.gcd_comm m, ← Nat.gcd_rec, Nat.gcd_comm]
  · rename_i hy
    have hm : m = 0 := by omega
    subst hm
    rw [Nat.gcd_zero_right] at hg
    rw [← fdiv_num hd] at h
    have g0 : 0 < Nat.gcd n.natAbs d.natAbs := Nat.gcd_pos_of_pos_right _ (by omega)
    unfold b_frac_2
    walk_at "ev105"
    rw [hg]
    by_cases hn : d < 0
    · rw [if_pos hn] at h
      rw [if_neg (by omega)]
      walk_at "ev105"
      refine ⟨mulR (by decide), ?_⟩
      unfold b_frac_3
      walk_at "ev105"
      rw [show ((Nat.gcd n.natAbs d.natAbs : Nat) : Int) * -1 = -((Nat.gcd n.natAbs d.natAbs : Nat) : Int) by omega]
      exact ⟨by omega, noPl (hz.gcdN hd), by omega, noPl (hz.gcdN hd), h⟩
    · rw [if_neg hn] at h
      rw [if_pos (by omega)]
      walk_at "ev105"
      refine ⟨mulR (by decide), ?_⟩
      unfold b_frac_3
      walk_at "ev105"
      rw [Int.mul_one]
      exact ⟨by omega, noPl (hz.gcd hd), by omega, noPl (hz.gcd hd), h⟩
theorem ok_b_sum : ∀ args L R, args.length = 2 → sb_sum args L R → b_sum_0 (initE 2 args) L { nx := fun _ L' => R .non L', rt := R } := by
  rintro _ L R _ ⟨p, q, rfl, hp, hq, h⟩
  unfold b_sum_0
  show sRet _ [some (fr p), some (fr q)] L _
  walk_at "ev105"
  refine ⟨hp.nd hq (by decide), hq.nd hp (by decide), hp.dd hq (by decide), _, _, rfl, mul_den_ne p q, hp.okd hq (by decide), ?_⟩
  rw [← add_eq] at h
  exact h
theorem ok_b_less : ∀ args L R, args.length = 2 → sb_less args L R → b_less_0 (initE 2 args) L { nx := fun _ L' => R .non L', rt := R } := by
  rintro _ L R _ ⟨p, q, rfl, hp, hq, h⟩
  unfold b_less_0
  show sRet _ [some (fr p), some (fr q)] L _
  walk_at "ev105"
  refine ⟨hp.nd hq (by decide), hq.nd hp (by decide), hp.dd hq (by decide), _, _, rfl, mul_den_ne p q, hp.okd hq (by decide), ?_⟩
  rw [← sub_eq] at h
  exact h
theorem ok_b_product : ∀ args L R, args.length = 2 → sb_product args L R → b_product_0 (initE 2 args) L { nx := fun _ L' => R .non L', rt := R } := by
  rintro _ L R _ ⟨p, q, rfl, hp, hq, h⟩
  unfold b_product_0
  show sRet _ [some (fr p), some (fr q)] L _
  walk_at "ev105"
  refine ⟨hp.nn hq (by decide), hp.dd hq (by decide), _, _, rfl, mul_den_ne p q, hp.okd hq (by decide), ?_⟩
  rw [← mul_eq] at h
  exact h
theorem ok_b_add : ∀ args L R, args.length = 2 → sb_add args L R → b_add_0 (initE 2 args) L { nx := fun _ L' => R .non L', rt := R } := by
  rintro _ L R _ ⟨p, q, rfl, hp, hq, h⟩
  unfold b_add_0
  show sRet _ [some (vc p), some (vc q)] L _
  walk_at "ev105"
  exact ⟨p.1, q.1, rfl, hp.1, hq.1, p.2, q.2, rfl, hp.2, hq.2, h⟩
theorem ok_b_sub : ∀ args L R, args.length = 2 → sb_sub args L R → b_sub_0 (initE 2 args) L { nx := fun _ L' => R .non L', rt := R } := by
  rintro _ L R _ ⟨p, q, rfl, hp, hq, h⟩
  unfold b_sub_0
  show sRet _ [some (vc p), some (vc q)] L _
  walk_at "ev105"
  exact ⟨p.1, q.1, rfl, hp.1, hq.1, p.2, q.2, rfl, hp.2, hq.2, h⟩
theorem ok_b_scaled_by : ∀ args L R, args.length = 2 → sb_scaled_by args L R → b_scaled_by_0 (initE 2 args) L { nx := fun _ L' => R .non L', rt := R } := by
  rintro _ L R _ ⟨p, k, rfl, hp, hk, h⟩
  unfold b_scaled_by_0
  show sRet _ [some (vc p), some (fr k)] L _
  walk_at "ev105"
  exact ⟨p.1, k, rfl, hp.1, hk, p.2, k, rfl, hp.2, hk, h⟩
theorem ok_b_quarter : ∀ args L R, args.length = 1 → sb_quarter args L R → b_quarter_0 (initE 1 args) L { nx := fun _ L' => R .non L', rt := R } := by
  rintro _ L R _ ⟨p, rfl, h⟩
  unfold b_quarter_0
  show sRet _ [some (vc p)] L _
  walk_at "ev105"
  have e : vlft p = (-p.2, p.1) := Prod.ext (by show 0 - p.2 = -p.2; grind) rfl
  rw [e] at h
  exact h
theorem ok_b_cross : ∀ args L R, args.length = 2 → sb_cross args L R → b_cross_0 (initE 2 args) L { nx := fun _ L' => R .non L', rt := R } := by
  rintro _ L R _ ⟨p, q, rfl, hp, hq, h⟩
  unfold b_cross_0
  show sRet _ [some (vc p), some (vc q)] L _
  walk_at "ev105"
  exact ⟨p.1, q.2, rfl, hp.1.B (by decide), hq.2.B (by decide), p.2, q.1, rfl, hp.2.B (by decide), hq.1.B (by decide), _, _, rfl, (hp.1.mul hq.2).B (by decide), (hp.2.mul hq.1).B (by decide), h⟩
def sb_unit_at : Spec := fun args L R => ∃ k : Nat, args = [.int k] ∧ k < 20 ∧ ∀ L', Le L L' → R (vc (unI k)) L'
def b_unit_at_3 : WS := sRet (wVar 2)
def b_unit_at_2f_0 : WS := sAsg (gN 2) (wCall sb_quarter [wVar 2])
def b_unit_at_2 : WS := sSeq (sFor (iR1 (wBin oMod (wBin oDiv (wVar 0) (wC (.int 5))) (wC (.int 4)))) (gN 3) b_unit_at_2f_0) b_unit_at_3
def b_unit_at_1 : WS := sSeq (sAsg (gN 2) (wBin oIx (wVar 1) (wBin oMod (wVar 0) (wC (.int 5))))) b_unit_at_2
def b_unit_at_0 : WS := sSeq (sAsg (gN 1) (wLst [wTup [wTup [wC (.int 1), wC (.int 1)], wTup [wC (.int 0), wC (.int 1)]], wTup [wTup [wC (.int 4), wC (.int 5)], wTup [wC (.int 3), wC (.int 5)]], wTup [wTup [wC (.int 3), wC (.int 5)], wTup [wC (.int 4), wC (.int 5)]], wTup [wTup [wC (.int 12), wC (.int 13)], wTup [wC (.int 5), wC (.int 13)]], wTup [wTup [wC (.int 5), wC (.int 13)], wTup [wC (.int 12), wC (.int 13)]]])) b_unit_at_1
theorem ok_b_unit_at : ∀ args L R, args.length = 1 → sb_unit_at args L R → b_unit_at_0 (initE 4 args) L { nx := fun _ L' => R .non L', rt := R } := by
  rintro _ L R _ ⟨k, rfl, hk, h⟩
  unfold b_unit_at_0
  show sSeq _ _ [some (.int k), none, none, none] L _
  walk_at "ev105"
  intro p hp
  have e0 : put L p (.l (unB.map vc)) p = some (.l (unB.map vc)) := put_same
  have l0 : Le L (put L p (.l (unB.map vc))) := Le.new hp
  rw [show SO.l _ = SO.l (unB.map vc) from congrArg SO.l un_lit]
  generalize put L p (.l (unB.map vc)) = L0 at *
  unfold b_unit_at_1
  walk_at "ev105"
  have h5 : (k : Int).fmod 5 = ((k % 5 : Nat) : Int) := by rw [Int.fmod_eq_emod_of_nonneg _ (by decide)]; rfl
  have hd5 : (k : Int).fdiv 5 = ((k / 5 : Nat) : Int) := by rw [Int.fdiv_eq_ediv_of_nonneg _ (by decide)]; rfl
  refine ⟨by decide, ?_⟩
  rw [h5]
  have hb : unB[k % 5]? = some (unB.getD (k % 5) (0, 0)) := by
    have : k % 5 < unB.length := Nat.mod_lt _ (by decide)
    rw [List.getD_eq_getElem?_getD, List.getElem?_eq_getElem this]; rfl
  refine ixl_nat e0 (x := vc (unB.getD (k % 5) (0, 0))) (by rw [List.getElem?_map, hb]; rfl) ?_
  unfold b_unit_at_2
  walk_at "ev105"
  refine ⟨by decide, noPl (denS (by decide)), by decide, ?_⟩
  rw [hd5, show ((k / 5 : Nat) : Int).fmod 4 = ((k / 5 % 4 : Nat) : Int) by rw [Int.fmod_eq_emod_of_nonneg _ (by decide)]; rfl]
  have h4 : k / 5 % 4 < 4 := Nat.mod_lt _ (by decide)
  refine ⟨⟨by omega, by omega⟩, ?_⟩
  rw [Int.toNat_natCast]
  refine loop_i (fun i e l => l = L0 ∧ ∃ z, e = [some (.int k), some (.ref p), some (vc (lftN i (unB.getD (k % 5) (0, 0)))), z]) ⟨rfl, _, rfl⟩ (fun _ _ _ _ => trivial) ?_ ?_
  · rintro i t e l K hx ⟨rfl, z, rfl⟩ hK
    walk_at "ev105"
    unfold b_unit_at_2f_0
    walk_at "ev105"
    exact ⟨_, rfl, hK _ _ ⟨rfl, _, rfl⟩⟩
  · rintro e l ⟨rfl, z, rfl⟩
    unfold b_unit_at_3
    walk_at "ev105"
    have hl : (rgL 0 (k / 5 % 4)).length = k / 5 % 4 := by unfold rgL; rw [List.length_map, List.length_range]
    rw [hl]
    exact h _ l0
def sb_path_of : Spec := fun args L R => ∃ (s : Vc) (c : Addr) (ms : List Mv), args = [vc s, .ref c] ∧ L c = some (.l (ms.map mvV)) ∧ (∀ m ∈ ms, MvOk m) ∧ ms.length ≤ 12 ∧ P65 4 s ∧ ∀ L', Le L L' → R (pth (s, mvPs s ms)) L'
def sb_one_move : Spec := fun args L R => ∃ (b : Addr) (n : Int) (fl : Bool), args = [.ref b, .bl fl] ∧ Bx b n L ∧ n < 1152921504606840000 ∧ ∀ m L', MvOk m → Bx b (n + 6) L' → LeB b L L' → R (mvV m) L'
def sb_back : Spec := fun args L R => ∃ m, args = [mvV m] ∧ MvOk m ∧ R (mvV (bkM m)) L
def b_path_of_2 : WS := sRet (wTup [wVar 0, wBi gTuple [wVar 3]])
def b_path_of_1f_0a_1 : WS := sExpr (wMt "list" mAppend (wVar 3) [wTup [wC (.str "side"), wVar 2]])
def b_path_of_1f_0a_0 : WS := sSeq (sAsg (gN 2) (wCall sb_add [wVar 2, wCall sb_scaled_by [wBin oIx (wVar 4) (wC (.int 1)), wBin oIx (wVar 4) (wC (.int 2))]])) b_path_of_1f_0a_1
def b_path_of_1f_0b_2 : WS := sExpr (wMt "list" mAppend (wVar 3) [wTup [wC (.str "arc"), wVar 5, wVar 2, wBin oIx (wVar 4) (wC (.int 4))]])
def b_path_of_1f_0b_1 : WS := sSeq (sAsg (gN 2) (wCall sb_add [wVar 5, wCall sb_scaled_by [wBin oIx (wVar 4) (wC (.int 2)), wBin oIx (wVar 4) (wC (.int 3))]])) b_path_of_1f_0b_2
def b_path_of_1f_0b_0 : WS := sSeq (sAsg (gN 5) (wCall sb_sub [wVar 2, wCall sb_scaled_by [wBin oIx (wVar 4) (wC (.int 1)), wBin oIx (wVar 4) (wC (.int 3))]])) b_path_of_1f_0b_1
def b_path_of_1f_0 : WS := sIf (wBin oEq (wBin oIx (wVar 4) (wC (.int 0))) (wC (.str "side"))) b_path_of_1f_0a_0 b_path_of_1f_0b_0
def b_path_of_1 : WS := sSeq (sFor (iAny (wVar 1)) (gN 4) b_path_of_1f_0) b_path_of_2
def b_path_of_0 : WS := sSeq (sPar [2, 3] [wVar 0, wLst []]) b_path_of_1
def b_one_move_4 : WS := sRet (wTup [wC (.str "arc"), wCall sb_unit_at [wVar 4], wCall sb_unit_at [wBin oMod (wBin oAdd (wVar 4) (wVar 5)) (wC (.int 20))], wTup [wBin oAdd (wC (.int 1)) (wBin oDiv (wVar 3) (wC (.int 2))), wC (.int 1)], wVar 6])
def b_one_move_3 : WS := sSeq (sAsg (gN 6) (wBin oIx (wLst [wC (.str "left"), wC (.str "right")]) (wCall sl_take [wVar 0, wC (.int 2)]))) b_one_move_4
def b_one_move_2a_0 : WS := sRet (wTup [wC (.str "side"), wCall sb_unit_at [wVar 4], wTup [wVar 3, wC (.int 1)]])
def b_one_move_2 : WS := sSeq (sIf (wOr (wUn oNot (wTru (wVar 1))) (wBin oGt (wVar 2) (wC (.int 0)))) b_one_move_2a_0 sNil) b_one_move_3
def b_one_move_1 : WS := sSeq (sPar [4, 5] [wCall sl_take [wVar 0, wC (.int 20)], wBin oAdd (wC (.int 1)) (wCall sl_take [wVar 0, wC (.int 19)])]) b_one_move_2
def b_one_move_0 : WS := sSeq (sPar [2, 3] [wCall sl_take [wVar 0, wC (.int 3)], wBin oAdd (wC (.int 1)) (wCall sl_take [wVar 0, wC (.int 11)])]) b_one_move_1
def b_back_1 : WS := sRet (wTup [wC (.str "arc"), wCall sb_scaled_by [wBin oIx (wVar 0) (wC (.int 1)), wTup [wC (.int (-1)), wC (.int 1)]], wCall sb_scaled_by [wBin oIx (wVar 0) (wC (.int 2)), wTup [wC (.int (-1)), wC (.int 1)]], wBin oIx (wVar 0) (wC (.int 3)), wBin oIx (wVar 0) (wC (.int 4))])
def b_back_0a_0 : WS := sRet (wTup [wC (.str "side"), wCall sb_scaled_by [wBin oIx (wVar 0) (wC (.int 1)), wTup [wC (.int (-1)), wC (.int 1)]], wBin oIx (wVar 0) (wC (.int 2))])
def b_back_0 : WS := sSeq (sIf (wBin oEq (wBin oIx (wVar 0) (wC (.int 0))) (wC (.str "side"))) b_back_0a_0 sNil) b_back_1
theorem ok_b_back : ∀ args L R, args.length = 1 → sb_back args L R → b_back_0 (initE 1 args) L { nx := fun _ L' => R .non L', rt := R } := by
  rintro _ L R _ ⟨m, rfl, hm, h⟩
  have ng : ∀ u : Vc, vscl u (((-1 : Int) : Rat)) = vneg u := fun u => Prod.ext (by show u.1 * ((-1 : Int) : Rat) = -u.1; rw [show ((-1 : Int) : Rat) = -1 from rfl]; grind) (by show u.2 * ((-1 : Int) : Rat) = -u.2; rw [show ((-1 : Int) : Rat) = -1 from rfl]; grind)
  have s1 : Sz 4000 ((-1 : Int) : Rat) := Sz.int (show 1 < 2 ^ 4000 from Nat.one_lt_two_pow (by decide)) (by decide)
  unfold b_back_0
  cases m with
  | side u t =>
    show sSeq _ _ [some (.tup [.str "side", vc u, fr (t : Rat)])] L _
    walk_at "ev105"
    unfold b_back_0a_0
    walk_at "ev105"
    refine ⟨u, ((-1 : Int) : Rat), rfl, hm.1.sz.mono (by decide), s1, ?_⟩
    rw [ng]
    walk_at "ev105"
    exact h
  | arc u o r lf =>
    show sSeq _ _ [some (.tup [.str "arc", vc u, vc o, fr (r : Rat), .str (trn lf)])] L _
    walk_at "ev105"
    unfold b_back_1
    walk_at "ev105"
    refine ⟨u, ((-1 : Int) : Rat), rfl, hm.1.sz.mono (by decide), s1, ?_⟩
    rw [ng]
    walk_at "ev105"
    refine ⟨o, ((-1 : Int) : Rat), rfl, hm.2.1.sz.mono (by decide), s1, ?_⟩
    rw [ng]
    walk_at "ev105"
    exact h
theorem ok_b_one_move : ∀ args L R, args.length = 2 → sb_one_move args L R → b_one_move_0 (initE 7 args) L { nx := fun _ L' => R .non L', rt := R } := by
  rintro _ L R _ ⟨b, n, fl, rfl, hb, hn, h⟩
  unfold b_one_move_0
  show sSeq _ _ [some (.ref b), some (.bl fl), none, none, none, none, none] L _
  walk_at "ev105"
  refine ⟨b, 3, n, rfl, hb, by omega, by decide, denS (by decide), fun kind L1 k0 k1 b1 l1 => ?_⟩
  walk_at "ev105"
  refine ⟨b, 11, _, rfl, b1, by omega, by decide, denS (by decide), fun many L2 m0 m1 b2 l2 => ?_⟩
  have l2 := l1.trans l2
  walk_at "ev105"
  unfold b_one_move_1
  walk_at "ev105"
  refine ⟨b, 20, _, rfl, b2, by omega, by decide, denS (by decide), fun f L3 f0 f1 b3 l3 => ?_⟩
  have l3 := l2.trans l3
  walk_at "ev105"
  refine ⟨b, 19, _, rfl, b3, by omega, by decide, denS (by decide), fun g L4 g0 g1 b4 l4 => ?_⟩
  have l4 := l3.trans l4
  obtain ⟨f, rfl⟩ := Int.eq_ofNat_of_zero_le f0
  obtain ⟨g, rfl⟩ := Int.eq_ofNat_of_zero_le g0
  walk_at "ev105"
  unfold b_one_move_2 b_one_move_2a_0
  have side : sb_unit_at [.int (f : Nat)] L4 fun x La => R (.tup [.str "side", x, .tup [.int (1 + many), .int 1]]) La := by
    refine ⟨f, rfl, by omega, fun L5 l5 => ?_⟩
    exact h (.side (unI f) (1 + many)) L5 ⟨unI_ok (by omega), by omega, by omega⟩ ((b4.le l5).mono (by omega)) (l4.trans (l5.b b))
  have arc : ∀ z6, b_one_move_3 [some (.ref b), some (.bl fl), some (.int kind), some (.int (1 + many)), some (.int (f : Nat)), some (.int (1 + (g : Nat))), z6] L4 { nx := fun _ L' => R .non L', rt := R } := by
    intro z6
    unfold b_one_move_3
    walk_at "ev105"
    intro p hp
    have e5 := put_same (L := L4) (a := p) (o := .l [.str "left", .str "right"])
    have b5 := b4.new (o := .l [.str "left", .str "right"]) hp
    have l5 := l4.trans ((Le.new (o := .l [.str "left", .str "right"]) hp).b b)
    have np : p ≠ b := fun z => by
      obtain ⟨_, _, _, hc, _⟩ := b4
      rw [← z, hp] at hc
      cases hc
    generalize put L4 p _ = L5 at *
    refine ⟨b, 2, _, rfl, b5, by omega, by decide, denS (by decide), fun w L6 w0 w1 b6 l6 => ?_⟩
    have e6 := l6 _ _ np e5
    have l6 := l5.trans l6
    have fin : ∀ lf, b_one_move_4 [some (.ref b), some (.bl fl), some (.int kind), some (.int (1 + many)), some (.int (f : Nat)), some (.int (1 + (g : Nat))), some (.str (trn lf))] L6 { nx := fun _ L' => R .non L', rt := R } := by
      intro lf
      unfold b_one_move_4
      walk_at "ev105"
      refine ⟨f, rfl, by omega, fun L7 l7 => ?_⟩
      walk_at "ev105"
      refine ⟨by decide, ?_⟩
      rw [show ((f : Int) + (1 + (g : Int))).fmod 20 = (((f + (1 + g)) % 20 : Nat) : Int) by rw [Int.fmod_eq_emod_of_nonneg _ (by decide)]; omega]
      refine ⟨(f + (1 + g)) % 20, rfl, Nat.mod_lt _ (by decide), fun L8 l8 => ?_⟩
      walk_at "ev105"
      refine ⟨by decide, noPl2, ?_⟩
      have hr : (1 + many).fdiv 2 = (1 + many) / 2 := Int.fdiv_eq_ediv_of_nonneg _ (by decide)
      exact h (.arc (unI f) (unI ((f + (1 + g)) % 20)) (1 + (1 + many).fdiv 2) lf) L8 ⟨unI_ok (by omega), unI_ok (Nat.mod_lt _ (by decide)), unI_ne (Nat.mod_lt _ (by decide)) (by omega) (by omega), by omega, by omega⟩ ((b6.le (l7.trans l8)).mono (by omega)) (l6.trans ((l7.trans l8).b b))
    obtain ⟨w', rfl⟩ := Int.eq_ofNat_of_zero_le w0
    have hw : w' = 0 ∨ w' = 1 := by omega
    rcases hw with rfl | rfl
    · refine ixl_nat (j := 0) e6 rfl ?_
      walk_at "ev105"
      exact fin true
    · refine ixl_nat (j := 1) e6 rfl ?_
      walk_at "ev105"
      exact fin false
  cases fl with
  | false => walk_at "ev105"; exact side
  | true =>
    walk_at "ev105"
    by_cases hk : 0 < kind
    · rw [if_pos hk]; exact side
    · rw [if_neg hk]; exact arc _
end
section
open PySem PySem.Spec PyProof.Rows L2
theorem ok_b_path_of : ∀ args L R, args.length = 2 → sb_path_of args L R → b_path_of_0 (initE 6 args) L { nx := fun _ L' => R .non L', rt := R } := by
  rintro _ L R _ ⟨s, c, ms, rfl, e, hm, hl, hs, h⟩
  unfold b_path_of_0
  show sSeq _ _ [some (vc s), some (.ref c), none, none, none, none] L _
  walk_at "ev105"
  intro p hp
  have e0 := put_same (L := L) (a := p) (o := .l [])
  have l0 := Le.new (o := .l []) hp
  have npc : c ≠ p := fun z => by rw [z, hp] at e; cases e
  generalize put L p _ = L0 at *
  unfold b_path_of_1
  walk_at "ev105"
  rw [e_lsK (l0 _ _ e)]
  refine loop_i (fun i en l => ∃ z4 z5, en = [some (vc s), some (.ref c), some (vc (endP s (mvPs s (ms.take i)))), some (.ref p), z4, z5] ∧ l p = some (.l ((mvPs s (ms.take i)).map pcV)) ∧ Le L l) ⟨_, _, rfl, e0, l0⟩ (fun i en l ⟨_, _, _, _, q⟩ => q _ _ e) ?_ ?_
  · rintro i t en l K hx ⟨z4, z5, rfl, ep, hle⟩ hK
    rw [List.getElem?_map] at hx
    cases hq : ms[i]? with
    | none => rw [hq] at hx; cases hx
    | some m =>
      rw [hq] at hx
      cases hx
      have hmm := hm m (List.mem_of_getElem? hq)
      have ht : ms.take (i + 1) = ms.take i ++ [m] := by rw [List.take_add_one, hq]; rfl
      have hi := (List.getElem?_eq_some_iff.mp hq).1
      obtain ⟨_, _, pe⟩ := mvs_ok (ms := ms.take i) (fun x hx => hm x (List.mem_of_mem_take hx)) hs (by decide) (by rw [List.length_take]; omega)
      have pe : P65 148 (endP s (mvPs s (ms.take i))) := pe.mono (by rw [List.length_take]; omega)
      have hpl : (mvPs s (ms.take i)).length ≤ 12 := by rw [mvPs_len, List.length_take]; omega
      have hK' : ∀ z5 l', l' p = some (.l ((mvPs s (ms.take i)).map pcV ++ [pcV (mvP (endP s (mvPs s (ms.take i))) m)])) → Le L l' → K [some (vc s), some (.ref c), some (vc (mvP (endP s (mvPs s (ms.take i))) m).to), some (.ref p), some (mvV m), z5] l' := by
        intro z5 l' h1 h2
        refine hK _ _ ⟨some (mvV m), z5, ?_, ?_, h2⟩
        · rw [ht, mvPs_app, endP_app]
        · rw [ht, mvPs_app, List.map_append]; exact h1
      clear hK
      generalize mvPs s (ms.take i) = ps at *
      generalize endP s ps = w at *
      have sw := pe.sz (by decide) (by decide)
      walk_at "ev105"
      unfold b_path_of_1f_0
      cases m with
      | side u t =>
        simp only [mvV] at hK' ⊢
        walk_at "ev105"
        unfold b_path_of_1f_0a_0
        walk_at "ev105"
        have st : Sz 4 (t : Rat) := Sz.int (by have := hmm.2; show t.natAbs < 16; omega) (by decide)
        refine ⟨u, (t : Rat), rfl, hmm.1.sz.mono (by decide), st.mono (by decide), ?_⟩
        refine ⟨w, vscl u (t : Rat), rfl, sw.mono (by decide), (hmm.1.sz.scl st).mono (by decide), ?_⟩
        unfold b_path_of_1f_0a_1
        walk_at "ev105"
        exact ⟨ty_list ep, e_app ep ⟨by rw [List.length_map]; show _ < 16777216; omega, hK' _ _ put_same (hle.put hp)⟩⟩
      | arc u o r lf =>
        simp only [mvV] at hK' ⊢
        walk_at "ev105"
        unfold b_path_of_1f_0b_0
        walk_at "ev105"
        have st : Sz 4 (r : Rat) := Sz.int (by have := hmm.2.2.2; show r.natAbs < 16; omega) (by decide)
        refine ⟨u, (r : Rat), rfl, hmm.1.sz.mono (by decide), st.mono (by decide), ?_⟩
        refine ⟨w, vscl u (r : Rat), rfl, sw.mono (by decide), (hmm.1.sz.scl st).mono (by decide), ?_⟩
        unfold b_path_of_1f_0b_1
        walk_at "ev105"
        have sm := sw.sub (hmm.1.sz.scl st)
        refine ⟨o, (r : Rat), rfl, hmm.2.1.sz.mono (by decide), st.mono (by decide), ?_⟩
        refine ⟨vsub w (vscl u (r : Rat)), vscl o (r : Rat), rfl, sm.mono (by decide), (hmm.2.1.sz.scl st).mono (by decide), ?_⟩
        unfold b_path_of_1f_0b_2
        walk_at "ev105"
        refine ⟨ty_list ep, ?_⟩
        rw [show oIx (PV.tup [.str "arc", vc u, vc o, fr (r : Rat), .str (trn lf)]) (.int 4) = fun l K => K (.str (trn lf)) l from rfl]
        exact e_app ep ⟨by rw [List.length_map]; show _ < 16777216; omega, hK' _ _ put_same (hle.put hp)⟩
  · rintro en l ⟨z4, z5, rfl, ep, hle⟩
    rw [List.length_map, List.take_length] at ep
    unfold b_path_of_2
    walk_at "ev105"
    rw [e_tupl ep]
    exact h l hle
def sb_all_moves : Spec := fun args L R => ∃ (b : Addr) (n m : Int), args = [.ref b, .int m] ∧ 0 < m ∧ m ≤ 9 ∧ Bx b n L ∧ n < 1152921504606830000 ∧ ∀ q ms L', L q = none → q ≠ b → L' q = some (.l (ms.map mvV)) → ms ≠ [] → (ms.length ≤ 12 ∧ (ms.length : Int) ≤ m + 2) → (∀ m ∈ ms, MvOk m) → Bx b (n + 98) L' → LeB b L L' → R (.ref q) L'
def b_all_moves_5 : WS := sRet (wComp [6] (iR1 (wBi gLen [wVar 5])) (gN 6) (wC (.bl true)) (wMt "list" mPop (wVar 5) [wCall sl_take [wVar 0, wBi gLen [wVar 5]]]))
def b_all_moves_4a_0 : WS := sRet (wVar 5)
def b_all_moves_4 : WS := sSeq (sIf (wBin oEq (wVar 2) (wC (.int 3))) b_all_moves_4a_0 sNil) b_all_moves_5
def b_all_moves_3 : WS := sSeq (sAsg (gN 5) (wBin oAdd (wVar 4) (wComp [7] (iAny (wVar 4)) (gN 7) (wC (.bl true)) (wCall sb_back [wVar 7])))) b_all_moves_4
def b_all_moves_2a_0 : WS := sRet (wVar 4)
def b_all_moves_2 : WS := sSeq (sIf (wBin oLt (wVar 2) (wC (.int 2))) b_all_moves_2a_0 sNil) b_all_moves_3
def b_all_moves_1 : WS := sSeq (sAsg (gN 4) (wComp [6] (iR1 (wIfE (wBin oLt (wVar 2) (wC (.int 2))) (wVar 3) (wBin oAdd (wC (.int 1)) (wBin oDiv (wVar 3) (wC (.int 2)))))) (gN 6) (wC (.bl true)) (wCall sb_one_move [wVar 0, wBin oEq (wVar 6) (wC (.int 0))]))) b_all_moves_2
def b_all_moves_0 : WS := sSeq (sPar [2, 3] [wCall sl_take [wVar 0, wC (.int 4)], wBin oAdd (wC (.int 1)) (wCall sl_take [wVar 0, wVar 1])]) b_all_moves_1
theorem freeB {b : Addr} {n m : Int} {L L' : Sto} {p : Addr} (hb : Bx b n L) (hl : LeB b L L') (hb' : Bx b m L') (hp : L' p = none) : L p = none := by
  cases hz : L p with
  | none => rfl
  | some o =>
    by_cases hqb : p = b
    · obtain ⟨_, _, _, hc, _⟩ := hb'
      rw [← hqb, hp] at hc; cases hc
    · have := hl p o hqb hz
      rw [hp] at this; cases this
theorem ok_b_all_moves : ∀ args L R, args.length = 2 → sb_all_moves args L R → b_all_moves_0 (initE 8 args) L { nx := fun _ L' => R .non L', rt := R } := by
  rintro _ L R _ ⟨b, n, mo, rfl, mo0, mo9, hb, hn, h⟩
  unfold b_all_moves_0
  show sSeq _ _ [some (.ref b), some (.int mo), none, none, none, none, none, none] L _
  walk_at "ev105"
  refine ⟨b, 4, n, rfl, hb, by omega, by decide, denS (by decide), fun way L1 w0 w1 b1 l1 => ?_⟩
  walk_at "ev105"
  refine ⟨b, mo, _, rfl, b1, by omega, by omega, denS (by omega), fun many L4 m0 m1 b4 l4 => ?_⟩
  have l4 := l1.trans l4
  walk_at "ev105"
  unfold b_all_moves_1
  -- the count
  obtain ⟨N, hN, hN9, hN1⟩ : ∃ N : Nat, (if way < 2 then (1 + many) else 1 + (1 + many).fdiv 2) = (N : Int) ∧ (way < 2 → N ≤ 9 ∧ (N : Int) ≤ mo) ∧ 1 ≤ N ∧ (¬ way < 2 → N ≤ 5 ∧ 2 * (N : Int) ≤ mo + 2) := by
    have hr : (1 + many).fdiv 2 = (1 + many) / 2 := Int.fdiv_eq_ediv_of_nonneg _ (by decide)
    by_cases hw : way < 2
    · rw [if_pos hw]; exact ⟨(1 + many).toNat, by omega, fun _ => ⟨by omega, by omega⟩, by omega, fun z => absurd hw z⟩
    · rw [if_neg hw, hr]; exact ⟨(1 + (1 + many) / 2).toNat, by omega, fun z => absurd z hw, by omega, fun _ => ⟨by omega, by omega⟩⟩
  obtain ⟨hN1, hN5⟩ := hN1
  have cnt : ∀ (R' : PK), R' (.int N) L4 → wIfE (wBin oLt (wVar 2) (wC (.int 2))) (wVar 3) (wBin oAdd (wC (.int 1)) (wBin oDiv (wVar 3) (wC (.int 2)))) [some (.ref b), some (.int mo), some (.int way), some (.int (1 + many)), none, none, none, none] L4 R' := by
    intro R' hR
    walk_at "ev105"
    by_cases hw : way < 2
    · rw [if_pos hw] at hN ⊢
      rw [hN]; exact hR
    · rw [if_neg hw] at hN ⊢
      refine ⟨by decide, noPl2, ?_⟩
      rw [hN]; exact hR
  have hrl : (rgL 0 N).length = N := by unfold rgL; rw [List.length_map, List.length_range]
  have main : ∀ K : PK, (∀ (ms : List Mv) (q : Addr) L', L q = none → L' q = some (.l (ms.map mvV)) → ms.length = N → (∀ m ∈ ms, MvOk m) → LeB b L L' → Bx b (n + 2 + 6 * (N : Int)) L' → K (.ref q) L') →
      wComp [6] (iR1 (wIfE (wBin oLt (wVar 2) (wC (.int 2))) (wVar 3) (wBin oAdd (wC (.int 1)) (wBin oDiv (wVar 3) (wC (.int 2)))))) (gN 6) (wC (.bl true)) (wCall sb_one_move [wVar 0, wBin oEq (wVar 6) (wC (.int 0))]) [some (.ref b), some (.int mo), some (.int way), some (.int (1 + many)), none, none, none, none] L4 K := by
    intro K hK
    rw [e_comp, e_r1]
    refine cnt _ ?_
    rw [e_r1K]
    refine ⟨⟨by omega, by omega⟩, ?_⟩
    rw [Int.toNat_natCast]
    refine comp_i (fun i acc l' => ∃ ms : List Mv, acc = ms.map mvV ∧ ms.length = i ∧ (∀ m ∈ ms, MvOk m) ∧ LeB b L l' ∧ Bx b (n + 2 + 6 * (i : Int)) l') ⟨[], rfl, rfl, fun d hd => by (cases hd), l4, b4.mono (by omega)⟩ (fun _ _ _ _ => trivial) (by rw [hrl]; show _ < 16777216; omega) ?_ ?_
    · rintro i t acc l' K' hx ⟨ms, rfl, hl, hms, le, bx⟩ hi hK'
      obtain ⟨rfl, hin⟩ := rgL_get hx
      walk_at "ev105"
      refine ⟨b, _, _, rfl, bx, by omega, fun m l2 hm b' le' => ⟨by rw [List.length_map]; show _ < 16777216; omega, hK' _ _ ?_ ⟨ms ++ [m], ?_, ?_, ?_, le.trans le', b'.mono (by omega)⟩⟩⟩
      · rw [List.length_append, List.length_map]; show ms.length + 1 ≤ i + 1; omega
      · rw [List.map_append]; rfl
      · rw [List.length_append, hl]; rfl
      · intro q hq
        rcases List.mem_append.mp hq with z | z
        · exact hms q z
        · cases List.mem_singleton.mp z
          exact hm
    · rintro acc l' ⟨ms, rfl, hl, hms, le, bx⟩
      rw [hrl] at hl bx
      intro q hq
      have nL : L q = none := by
        cases hz : L q with
        | none => rfl
        | some o =>
          by_cases hqb : q = b
          · obtain ⟨_, _, _, hc, _⟩ := bx
            rw [← hqb, hq] at hc; cases hc
          · have := le q o hqb hz
            rw [hq] at this; cases this
      exact hK ms q _ nL put_same hl hms (le.trans ((Le.new hq).b b)) (bx.new hq)
  rw [e_seq, e_asg]
  refine main _ fun ms q L5 nq e5 hl hms le bx => ?_
  have hne : ms ≠ [] := fun z => by rw [z] at hl; have : N = 0 := hl.symm; omega
  have nqb : q ≠ b := fun z => by
    obtain ⟨_, _, _, hc, _⟩ := hb
    rw [← z, nq] at hc
    cases hc
  walk_at "ev105"
  unfold b_all_moves_2 b_all_moves_2a_0
  walk_at "ev105"
  by_cases hw : 1 < way
  · rw [if_neg (by omega)]
    unfold b_all_moves_3
    walk_at "ev105"
    rw [e_lsK e5]
    refine comp_map (α := Mv) (xs := ms) (f := mvV) (g := fun m => mvV (bkM m)) (fun l hl => hl _ _ e5) (by omega) ?_ ?_
    · intro m hm l R' hl hR'
      walk_at "ev105"
      exact ⟨m, rfl, hms m hm, hR' l hl⟩
    · intro l hl6 p6 hp6
      have e6 := put_same (L := l) (a := p6) (o := .l (ms.map fun m => mvV (bkM m)))
      have l6 := hl6.trans (Le.new (o := .l (ms.map fun m => mvV (bkM m))) hp6)
      generalize put l p6 _ = L6 at *
      have e56 := l6 _ _ e5
      have e6' : L6 p6 = some (.l ((ms.map bkM).map mvV)) := by rw [e6, List.map_map]; rfl
      refine e_cat e56 e6' ⟨by rw [List.length_map, List.length_map, List.length_map]; show _ ≤ 16777216; omega, ?_⟩
      intro p7 hp7
      rw [← List.map_append]
      have e7 := put_same (L := L6) (a := p7) (o := .l ((ms ++ ms.map bkM).map mvV))
      have l7 := l6.trans (Le.new (o := .l ((ms ++ ms.map bkM).map mvV)) hp7)
      have b7 := bx.le l7
      have le7 := le.trans (l7.b b)
      have n7 : L p7 = none := by
        cases hz : L p7 with
        | none => rfl
        | some o =>
          by_cases hqb : p7 = b
          · obtain ⟨_, _, _, hc, _⟩ := bx.le l6
            rw [← hqb, hp7] at hc; cases hc
          · have := (le.trans (l6.b b)) p7 o hqb hz
            rw [hp7] at this; cases this
      have n7b : p7 ≠ b := fun z => by
        obtain ⟨_, _, _, hc, _⟩ := hb
        rw [← z, n7] at hc
        cases hc
      generalize put L6 p7 _ = L7 at *
      have hall : ∀ m ∈ ms ++ ms.map bkM, MvOk m := fun m hm => by
        rcases List.mem_append.mp hm with z | z
        · exact hms m z
        · obtain ⟨m', h1, rfl⟩ := List.mem_map.mp z
          exact bkM_ok (hms m' h1)
      have hl7 : (ms ++ ms.map bkM).length = 2 * N := by rw [List.length_append, List.length_map, hl]; omega
      have hN5 := hN5 (by omega)
      unfold b_all_moves_4 b_all_moves_4a_0
      walk_at "ev105"
      by_cases hw2 : way = 2
      · rw [if_neg (by omega)]
        unfold b_all_moves_5
        walk_at "ev105"
        rw [e_lenl e7]
        walk_at "ev105"
        rw [List.length_map, hl7]
        refine ⟨⟨by omega, by omega⟩, ?_⟩
        rw [Int.toNat_natCast]
        have hr2 : (rgL 0 (2 * N)).length = 2 * N := by unfold rgL; rw [List.length_map, List.length_range]
        refine comp_i (fun i acc l' => ∃ ds rs : List Mv, acc = ds.map mvV ∧ ds.length = i ∧ l' p7 = some (.l (rs.map mvV)) ∧ rs.length + i = 2 * N ∧ (∀ m ∈ ds, MvOk m) ∧ (∀ m ∈ rs, MvOk m) ∧ LeB b L l' ∧ Bx b (n + 2 + 6 * (N : Int) + (i : Int)) l') ⟨[], _, rfl, rfl, e7, by omega, fun d hd => (by cases hd), hall, le7, b7.mono (by omega)⟩ (fun _ _ _ _ => trivial) (by rw [hr2]; show _ < 16777216; omega) ?_ ?_
        · rintro i t acc l' K' hx ⟨ds, rs, rfl, hdl, er, hrs, hd, hr, lel, bxl⟩ hi hK'
          have hin := (rgL_get hx).2
          walk_at "ev105"
          refine ⟨ty_list er, ?_⟩
          rw [e_lenl er]
          walk_at "ev105"
          rw [List.length_map]
          refine ⟨b, (rs.length : Nat), _, rfl, bxl, by omega, by omega, denS (by omega), fun w L8 w0 w1 b8 l8 => ?_⟩
          obtain ⟨w, rfl⟩ := Int.eq_ofNat_of_zero_le w0
          have hwl : w < rs.length := by omega
          have e8 := l8 _ _ n7b er
          refine ⟨rs.map mvV, w, mvV rs[w], e8, by omega, by omega, ?_, ?_, ?_⟩
          · rw [List.length_map]
            exact seqIx_nat hwl
          · rw [List.getElem?_map, List.getElem?_eq_getElem hwl]; rfl
          refine ⟨by rw [List.length_map]; show _ < 16777216; omega, hK' _ _ ?_ ⟨ds ++ [rs[w]], rs.eraseIdx w, ?_, ?_, ?_, ?_, ?_, ?_, ?_, ?_⟩⟩
          · rw [List.length_append, List.length_map]; show ds.length + 1 ≤ i + 1; omega
          · rw [List.map_append]; rfl
          · rw [List.length_append, hdl]; rfl
          · rw [put_same, erase_map]
          · rw [List.length_eraseIdx_of_lt hwl]; omega
          · intro q hq
            rcases List.mem_append.mp hq with z | z
            · exact hd q z
            · cases List.mem_singleton.mp z
              exact hr _ (List.getElem_mem hwl)
          · exact fun q hq => hr q (List.mem_of_mem_eraseIdx hq)
          · exact (lel.trans l8).putF n7
          · exact (b8.putN n7b).mono (by omega)
        · rintro acc l' ⟨ds, rs, rfl, hdl, er, hrs, hd, hr, lel, bxl⟩
          rw [hr2] at hdl bxl
          intro p8 hp8
          walk_at "ev105"
          have n8 : L p8 = none := freeB hb lel bxl hp8
          have n8b : p8 ≠ b := fun z => by
            obtain ⟨_, _, _, hc, _⟩ := hb
            rw [← z, n8] at hc
            cases hc
          exact h p8 ds _ n8 n8b put_same (fun z => by rw [z] at hdl; have : 2 * N = 0 := hdl.symm; omega) (by omega) hd ((bxl.new hp8).mono (by omega)) (lel.trans ((Le.new hp8).b b))
      · rw [if_pos (by omega)]
        exact h p7 _ L7 n7 n7b e7 (fun z => hne (List.append_eq_nil_iff.mp z).1) ⟨by omega, by omega⟩ hall (b7.mono (by omega)) le7
  · rw [if_pos (by omega)]
    have := hN9 (by omega)
    exact h q ms L5 nq nqb e5 hne ⟨by omega, by omega⟩ hms (bx.mono (by omega)) le
def sb_drawn : Spec := fun args L R => ∃ (b : Addr) (n m : Int), args = [.ref b, .int m] ∧ 0 < m ∧ m ≤ 9 ∧ Bx b n L ∧ n < 1152921504606829000 ∧ ∀ s q ms L', L q = none → q ≠ b → L' q = some (.l (ms.map mvV)) → ms ≠ [] → (ms.length ≤ 12 ∧ (ms.length : Int) ≤ m + 2) → (∀ m ∈ ms, MvOk m) → P65 4 s → Bx b (n + 100) L' → LeB b L L' → R (.tup [pth (s, mvPs s ms), .ref q]) L'
def sb_width : Spec := fun args L R => ∃ (b : Addr) (n : Int), args = [.ref b] ∧ Bx b n L ∧ n < 1152921504606830000 ∧ ∀ w L', 0 < w → Sz 14 w → Bx b (n + 4) L' → LeB b L L' → R (fr w) L'
def b_drawn_2 : WS := sRet (wTup [wCall sb_path_of [wVar 2, wVar 3], wVar 3])
def b_drawn_1 : WS := sSeq (sAsg (gN 3) (wCall sb_all_moves [wVar 0, wVar 1])) b_drawn_2
def b_drawn_0 : WS := sSeq (sAsg (gN 2) (wTup [wTup [wBin oSub (wCall sl_take [wVar 0, wC (.int 9)]) (wC (.int 4)), wC (.int 1)], wTup [wBin oSub (wCall sl_take [wVar 0, wC (.int 9)]) (wC (.int 4)), wC (.int 1)]])) b_drawn_1
def b_width_3 : WS := sRet (wCall sb_frac [wBin oAdd (wC (.int 1)) (wCall sl_take [wVar 0, wBin oIx (wLst [wC (.int 4), wC (.int 24)]) (wCall sl_take [wVar 0, wC (.int 2)])]), wBin oIx (wLst [wC (.int 1), wC (.int 2), wC (.int 3), wC (.int 4)]) (wCall sl_take [wVar 0, wC (.int 4)])])
def b_width_2a_0 : WS := sRet (wTup [wBin oAdd (wC (.int 25)) (wCall sl_take [wVar 0, wC (.int 26)]), wC (.int 1)])
def b_width_2 : WS := sSeq (sIf (wBin oEq (wVar 1) (wC (.int 1))) b_width_2a_0 sNil) b_width_3
def b_width_1a_1 : WS := sRet (wCall sb_frac [wBin oAdd (wC (.int 1)) (wCall sl_take [wVar 0, wBi gMin [wBin oMul (wC (.int 20)) (wVar 2), wC (.int 9999)]]), wVar 2])
def b_width_1a_0 : WS := sSeq (sAsg (gN 2) (wBin oAdd (wC (.int 5)) (wCall sl_take [wVar 0, wC (.int 995)]))) b_width_1a_1
def b_width_1 : WS := sSeq (sIf (wBin oEq (wVar 1) (wC (.int 0))) b_width_1a_0 sNil) b_width_2
def b_width_0 : WS := sSeq (sAsg (gN 1) (wCall sl_take [wVar 0, wC (.int 8)])) b_width_1
theorem ok_b_drawn : ∀ args L R, args.length = 2 → sb_drawn args L R → b_drawn_0 (initE 4 args) L { nx := fun _ L' => R .non L', rt := R } := by
  rintro _ L R _ ⟨b, n, mo, rfl, mo0, mo9, hb, hn, h⟩
  unfold b_drawn_0
  show sSeq _ _ [some (.ref b), some (.int mo), none, none] L _
  walk_at "ev105"
  refine ⟨b, 9, _, rfl, hb, by omega, by decide, denS (by decide), fun x L3 x0 x1 b3 l3 => ?_⟩
  walk_at "ev105"
  refine ⟨b, 9, _, rfl, b3, by omega, by decide, denS (by decide), fun y L4 y0 y1 b4 l4 => ?_⟩
  have l4 := l3.trans l4
  walk_at "ev105"
  have i4 : ∀ z : Int, 0 ≤ z → z < 9 → IsI 65 (65 * 4) ((z - 4 : Int) : Rat) := fun z h0 h1 => ⟨(z - 4) * 65, by rw [Rat.intCast_mul], by omega, by omega⟩
  have hs : P65 4 (((x - 4 : Int) : Rat), ((y - 4 : Int) : Rat)) := ⟨i4 x x0 x1, i4 y y0 y1⟩
  have hvs : PV.tup [.tup [.int (x - 4), .int 1], .tup [.int (y - 4), .int 1]] = vc (((x - 4 : Int) : Rat), ((y - 4 : Int) : Rat)) := rfl
  rw [hvs]
  generalize (((x - 4 : Int) : Rat), ((y - 4 : Int) : Rat)) = s at *
  unfold b_drawn_1
  walk_at "ev105"
  refine ⟨b, _, mo, rfl, mo0, mo9, b4, by omega, fun q ms L5 nq nqb e5 hne hl hok b5 l5 => ?_⟩
  unfold b_drawn_2
  walk_at "ev105"
  refine ⟨s, q, ms, rfl, e5, hok, hl.1, hs, fun L6 l6 => ?_⟩
  walk_at "ev105"
  exact h s q ms L6 (freeB hb l4 b4 nq) nqb (l6 _ _ e5) hne hl hok hs ((b5.le l6).mono (by omega)) ((l4.trans l5).trans (l6.b b))
end
section
open PySem PySem.Spec PyProof.Rows L2
theorem frac_pos {n d : Int} (hn : 0 < n) (hd : 0 < d) : (0 : Rat) < (n : Rat) / (d : Rat) := div_pos (by exact_mod_cast hn) (by exact_mod_cast hd)
theorem ok_b_width : ∀ args L R, args.length = 1 → sb_width args L R → b_width_0 (initE 3 args) L { nx := fun _ L' => R .non L', rt := R } := by
  rintro _ L R _ ⟨b, n, rfl, hb, hn, h⟩
  unfold b_width_0
  show sSeq _ _ [some (.ref b), none, none] L _
  walk_at "ev105"
  refine ⟨b, 8, _, rfl, hb, by omega, by decide, denS (by decide), fun way L1 w0 w1 b1 l1 => ?_⟩
  unfold b_width_1
  walk_at "ev105"
  split
  · unfold b_width_1a_0
    walk_at "ev105"
    refine ⟨b, 995, _, rfl, b1, by omega, by decide, denS (by decide), fun r L2 r0 r1 b2 l2 => ?_⟩
    unfold b_width_1a_1
    walk_at "ev105"
    refine ⟨mulL (by decide), b, min (20 * (5 + r)) 9999, _, rfl, b2, by omega, by omega, denS (by omega), fun t L3 t0 t1 b3 l3 => ?_⟩
    walk_at "ev105"
    refine ⟨_, _, rfl, by omega, denS (by omega), ?_⟩
    exact h _ L3 (frac_pos (by omega) (by omega)) (Sz.of (by omega) (by show _ < 16384; omega) (by show _ < 16384; omega)) (b3.mono (by omega)) ((l1.trans l2).trans l3)
  · unfold b_width_2 b_width_2a_0
    walk_at "ev105"
    split
    · refine ⟨b, 26, _, rfl, b1, by omega, by decide, denS (by decide), fun r L2 r0 r1 b2 l2 => ?_⟩
      walk_at "ev105"
      exact h ((25 + r : Int) : Rat) L2 (ratPos (by omega)) (Sz.int (by show (25 + r).natAbs < 16384; omega) (by decide)) (b2.mono (by omega)) (l1.trans l2)
    · unfold b_width_3
      walk_at "ev105"
      intro p hp
      have npb : p ≠ b := fun z => by
        obtain ⟨_, _, _, hc, _⟩ := b1
        rw [← z, hp] at hc
        cases hc
      have e2 := put_same (L := L1) (a := p) (o := .l [.int 4, .int 24])
      have b2 := b1.new (o := .l [.int 4, .int 24]) hp
      have l2 := l1.trans ((Le.new (o := .l [.int 4, .int 24]) hp).b b)
      generalize put L1 p _ = L2 at *
      refine ⟨b, 2, _, rfl, b2, by omega, by decide, denS (by decide), fun r L3 r0 r1 b3 l3 => ?_⟩
      have e3 := l3 _ _ npb e2
      have l3 := l2.trans l3
      have main : ∀ m : Int, 0 < m → m ≤ 24 → sl_take [.ref b, .int m] L3 fun y Lb => oAdd (.int 1) y Lb fun x La => newL La [.int 1, .int 2, .int 3, .int 4] fun z La => sl_take [.ref b, .int 4] La fun y Lb => oIx z y Lb fun y La => sb_frac [x, y] La R := by
        intro m m0 m1
        refine ⟨b, m, _, rfl, b3, by omega, m0, denS (by omega), fun t L4 t0 t1 b4 l4 => ?_⟩
        walk_at "ev105"
        intro p5 hp5
        have np5 : p5 ≠ b := fun z => by
          obtain ⟨_, _, _, hc, _⟩ := b4
          rw [← z, hp5] at hc
          cases hc
        have e5 := put_same (L := L4) (a := p5) (o := .l [.int 1, .int 2, .int 3, .int 4])
        have b5 := b4.new (o := .l [.int 1, .int 2, .int 3, .int 4]) hp5
        have l5 := l4.trans ((Le.new (o := .l [.int 1, .int 2, .int 3, .int 4]) hp5).b b)
        generalize put L4 p5 _ = L5 at *
        refine ⟨b, 4, _, rfl, b5, by omega, by decide, denS (by decide), fun q L6 q0 q1 b6 l6 => ?_⟩
        have e6 := l6 _ _ np5 e5
        obtain ⟨q, rfl⟩ := Int.eq_ofNat_of_zero_le q0
        refine ixl_nat e6 (x := .int (1 + (q : Int))) ?_ ?_
        · have : q < 4 := by omega
          match q, this with
          | 0, _ => rfl
          | 1, _ => rfl
          | 2, _ => rfl
          | 3, _ => rfl
        walk_at "ev105"
        refine ⟨_, _, rfl, by omega, denS (by omega), ?_⟩
        exact h _ L6 (frac_pos (by omega) (by omega)) (Sz.of (by omega) (by show _ < 16384; omega) (by show _ < 16384; omega)) (b6.mono (by omega)) ((l3.trans l5).trans l6)
      obtain ⟨r, rfl⟩ := Int.eq_ofNat_of_zero_le r0
      have hr : r = 0 ∨ r = 1 := by omega
      rcases hr with rfl | rfl
      · refine ixl_nat (j := 0) e3 rfl ?_
        exact main 4 (by decide) (by decide)
      · refine ixl_nat (j := 1) e3 rfl ?_
        exact main 24 (by decide) (by decide)
def sb_folded : Spec := fun args L R => ∃ (ns : List Int) (m : Int), args = [.fz ns, .int m] ∧ 0 < m ∧ m < 1000 ∧ ∀ p L' (ms : List Int), L p = none → Le L L' → L' p = some (.l (ms.map PV.int)) → ms.length ≤ 1000 → R (.ref p) L'
def sb_box : Spec := sl_box_of
def b_folded_2 : WS := sRet (wVar 2)
def b_folded_1f_0 : WS := sAsg (gS (wVar 2) (wBin oMod (wVar 3) (wVar 1))) (wBin oAdd (wBin oIx (wVar 2) (wBin oMod (wVar 3) (wVar 1))) (wBin oMul (wVar 4) (wBin oAdd (wVar 3) (wC (.int 2)))))
def b_folded_1 : WS := sSeq (sFor (iEn (wSl (wVar 0) (wSo (wVar 1)) (wSo (wC (.int 63))))) (gT 2 (gsL [gN 3, gN 4])) b_folded_1f_0) b_folded_2
def b_folded_0 : WS := sSeq (sAsg (gN 2) (wBi gList [wSl (wVar 0) wNo (wSo (wVar 1))])) b_folded_1
def b_box_2 : WS := sRet (wLst [wBin oMul (wBi gAbs [wVar 2]) (wBi gInt [wBin oGe (wBi gAbs [wVar 2]) (wBin oPow (wC (.int 10)) (wC (.int 18)))]), wBin oMod (wBin oAdd (wVar 2) (wBin oMul (wBin oMul (wC (.int 7919)) (wVar 1)) (wVar 1))) (wC (.int 2147483647)), wC (.int 0)])
def b_box_1a_0 : WS := sAsg (gN 2) (wBin oIx (wVar 0) (wVar 1))
def b_box_1 : WS := sSeq (sIf (wBin oLt (wVar 1) (wBi gLen [wVar 0])) b_box_1a_0 sNil) b_box_2
def b_box_0 : WS := sSeq (sAsg (gN 2) (wC (.int 0))) b_box_1
theorem ok_b_folded : ∀ args L R, args.length = 2 → sb_folded args L R → b_folded_0 (initE 5 args) L { nx := fun _ L' => R .non L', rt := R } := by
  rintro _ L R _ ⟨ns, m, rfl, hm, hm', h⟩
  obtain ⟨m, rfl⟩ := Int.eq_ofNat_of_zero_le (show 0 ≤ m by omega)
  unfold b_folded_0
  show sSeq _ _ [some (.fz ns), some (.int m), none, none, none] L _
  walk_at "ev105"
  intro p0 h0
  rw [e_listl put_same]
  intro p1 h1
  rw [cut_to] at *
  unfold b_folded_1
  walk_at "ev105"
  intro p2 h2
  rw [e_enK put_same, show ((63 : Int)) = ((63 : Nat) : Int) from rfl, cut_len]
  generalize hL2 : put (put (put L p0 _) p1 _) p2 _ = L2 at *
  have hp1 : L p1 = none := (Le.new h0).free h1
  have hp2 : L p2 = none := ((Le.new h0).trans (Le.new h1)).free h2
  have n12 : p2 ≠ p1 := fun e => by rw [e, put_same] at h2; cases h2
  have hle : Le L L2 := by rw [← hL2]; exact ((Le.new h0).trans (Le.new h1)).trans (Le.new h2)
  have e1 : L2 p1 = some (.l ((ns.take m).map PV.int)) := by rw [← hL2, put_ne n12.symm, put_same]
  have e2 : L2 p2 = some (.l (((ns.drop m).take (63 - m)).map PV.int)) := by rw [← hL2, put_same]
  refine loop_i (fun i e l => (∃ z3 z4, e = [some (.fz ns), some (.int m), some (.ref p1), z3, z4]) ∧ Le L l ∧ l p2 = L2 p2 ∧ ∃ ms : List Int, l p1 = some (.l (ms.map PV.int)) ∧ ms.length = (ns.take m).length)
    ⟨⟨_, _, rfl⟩, hle, rfl, _, e1, rfl⟩ ?_ ?_ ?_
  · rintro i e l ⟨_, _, h3, _⟩
    show l p2 = _
    rw [h3, e2]
  · rintro i x e l K hx ⟨⟨z3, z4, rfl⟩, hl, hp, ms, hms, hlen⟩ hK
    obtain ⟨y, hy, rfl⟩ := enL_get hx
    rw [List.getElem?_map] at hy
    cases hyy : ((ns.drop m).take (63 - m))[i]? with
    | none => rw [hyy] at hy; cases hy
    | some c =>
    rw [hyy] at hy
    cases hy
    have hi := (List.getElem?_eq_some_iff.mp hyy).1
    rw [List.length_take, List.length_drop] at hi
    rw [List.length_take, Nat.min_eq_left (by omega)] at hlen
    walk_at "ev105"
    refine ⟨rfl, ?_⟩
    unfold b_folded_1f_0
    walk_at "ev105"
    have hmm : ((i : Int)).fmod m = ((i % m : Nat) : Int) := by rw [fm_pos hm]; rfl
    have hlt : i % m < m := Nat.mod_lt _ (by omega)
    rw [hmm]
    refine ⟨by omega, ixl_nat hms (x := .int (ms[i % m]'(by omega))) (by rw [List.getElem?_map, List.getElem?_eq_getElem (by omega)]; rfl) ?_⟩
    walk_at "ev105"
    refine ⟨mulR (by omega), by omega, ?_⟩
    rw [e_gSt (j := i % m) hms (by unfold ixN; rw [List.length_map, if_pos (by omega), if_pos (by omega), Int.toNat_natCast])]
    refine hK _ _ ⟨⟨_, _, rfl⟩, hl.put hp1, ?_, ms.set (i % m) (ms[i % m]'(by omega) + c * ((i : Int) + 2)), ?_, ?_⟩
    · rw [put_ne n12, hp]
    · rw [put_same, set_int]
    · rw [List.length_set, hlen, List.length_take, Nat.min_eq_left (by omega)]
  · rintro e l ⟨⟨z3, z4, rfl⟩, hl, hp, ms, hms, hlen⟩
    unfold b_folded_2
    walk_at "ev105"
    exact h p1 l ms hp1 hl hms (by rw [hlen, List.length_take]; omega)
theorem box_endb {x k : Int} {c : Addr} {L : Sto} {N : Nd} (hk : 0 ≤ k) (hk' : k < 1000000) (h : ∀ b L', L b = none → Le L L' → Bx b 0 L' → N.rt (.ref b) L') : b_box_2 [some (.ref c), some (.int k), some (.int x)] L N := by
  unfold b_box_2
  walk_at "ev105"
  refine ⟨powOk 4 (by decide) (by decide) (by decide), mulR ?_, mulL (by decide), mulR (by omega), by decide, ?_⟩
  · split <;> decide
  intro p hp
  obtain ⟨r1, r2⟩ := mod_rng (i := x + 7919 * k * k) (j := 2147483647) (by decide)
  refine h p _ hp (Le.new hp) ⟨_, _, _, put_same, Int.mul_nonneg (by omega) (by split <;> decide), r1, r2, by decide, by decide⟩
theorem ok_b_box : ∀ args L R, args.length = 2 → sb_box args L R → b_box_0 (initE 3 args) L { nx := fun _ L' => R .non L', rt := R } := by
  rintro _ L R _ ⟨c, ns, k, rfl, e, hk, hk', h⟩
  unfold b_box_0
  show sSeq _ _ [some (.ref c), some (.int k), none] L _
  walk_at "ev105"
  unfold b_box_1
  walk_at "ev105"
  rw [e_lenl e]
  walk_at "ev105"
  split
  · rename_i hl
    rw [List.length_map] at hl
    unfold b_box_1a_0
    walk_at "ev105"
    obtain ⟨j, rfl⟩ := Int.eq_ofNat_of_zero_le hk
    have hj : j < ns.length := by omega
    refine ixl_nat e (x := .int ns[j]) ?_ ?_
    · rw [List.getElem?_map, List.getElem?_eq_getElem hj]; rfl
    · show b_box_2 [some (.ref c), some (.int j), some (.int ns[j])] L _
      exact box_endb hk hk' h
  · exact box_endb hk hk' h
def sb_case : Spec := fun args L R => ∃ (b : Addr) (n : Int), args = [.ref b] ∧ Bx b n L ∧ n < 1152921504606828000 ∧ ∀ s q ms w (st : Int) L', L q = none → q ≠ b → L' q = some (.l (ms.map mvV)) → ms ≠ [] → ms.length ≤ 12 → (∀ m ∈ ms, MvOk m) → P65 4 s → 0 < w → Sz 14 w → 1 ≤ st → st ≤ 3 → Bx b (n + 200) L' → LeB b L L' → R (.tup [pth (s, mvPs s ms), .ref q, fr w, .int st]) L'
def b_case_4 : WS := sRet (wTup [wVar 7, wVar 6, wVar 4, wIfE (wOr (wBin oLt (wBi gLen [wVar 6]) (wC (.int 3))) (wTru (wVar 3))) (wVar 5) (wC (.int 1))])
def b_case_3 : WS := sSeq (sAsg (gT 2 (gsL [gN 7, gN 6])) (wCall sb_drawn [wVar 0, wC (.int 4)])) b_case_4
def b_case_2a_1 : WS := sRet (wTup [wCall sb_path_of [wTup [wTup [wC (.int 0), wC (.int 1)], wTup [wC (.int 0), wC (.int 1)]], wVar 6], wVar 6, wVar 4, wC (.int 1)])
def b_case_2a_0 : WS := sSeq (sAsg (gN 6) (wComp [8] (iR1 (wBin oAdd (wC (.int 7)) (wCall sl_take [wVar 0, wC (.int 6)]))) (gN 8) (wC (.bl true)) (wCall sb_one_move [wVar 0, wVar 2]))) b_case_2a_1
def b_case_2 : WS := sSeq (sIf (wTru (wVar 1)) b_case_2a_0 sNil) b_case_3
def b_case_1 : WS := sSeq (sPar [4, 5] [wCall sb_width [wVar 0], wBin oAdd (wC (.int 1)) (wCall sl_take [wVar 0, wC (.int 3)])]) b_case_2
def b_case_0 : WS := sSeq (sAsg (gT 3 (gsL [gN 1, gN 2, gN 3])) (wTup [wBin oEq (wCall sl_take [wVar 0, wC (.int 8)]) (wC (.int 0)), wBin oEq (wCall sl_take [wVar 0, wC (.int 2)]) (wC (.int 0)), wBin oEq (wCall sl_take [wVar 0, wC (.int 8)]) (wC (.int 0))])) b_case_1
theorem ok_b_case : ∀ args L R, args.length = 1 → sb_case args L R → b_case_0 (initE 9 args) L { nx := fun _ L' => R .non L', rt := R } := by
  rintro _ L R _ ⟨b, n, rfl, hb, hn, h⟩
  unfold b_case_0
  show sSeq _ _ [some (.ref b), none, none, none, none, none, none, none, none] L _
  walk_at "ev105"
  refine ⟨b, 8, _, rfl, hb, by omega, by decide, denS (by decide), fun g L1 g0 g1 b1 l1 => ?_⟩
  walk_at "ev105"
  refine ⟨b, 2, _, rfl, b1, by omega, by decide, denS (by decide), fun a L2 a0 a1 b2 l2 => ?_⟩
  have l2 := l1.trans l2
  walk_at "ev105"
  refine ⟨b, 8, _, rfl, b2, by omega, by decide, denS (by decide), fun c L3 c0 c1 b3 l3 => ?_⟩
  have l3 := l2.trans l3
  walk_at "ev105"
  refine ⟨rfl, ?_⟩
  unfold b_case_1
  walk_at "ev105"
  refine ⟨b, _, rfl, b3, by omega, fun w L4 w0 ws b4 l4 => ?_⟩
  have l4 := l3.trans l4
  refine ⟨b, 3, _, rfl, b4, by omega, by decide, denS (by decide), fun st L5 st0 st1 b5 l5 => ?_⟩
  have l5 := l4.trans l5
  walk_at "ev105"
  unfold b_case_2
  walk_at "ev105"
  split
  · unfold b_case_2a_0
    walk_at "ev105"
    refine ⟨b, 6, _, rfl, b5, by omega, by decide, denS (by decide), fun t L6 t0 t1 b6 l6 => ?_⟩
    have l6 := l5.trans l6
    walk_at "ev105"
    obtain ⟨N, hN⟩ := Int.eq_ofNat_of_zero_le (show 0 ≤ 7 + t by omega)
    rw [hN]
    refine ⟨⟨by omega, by omega⟩, ?_⟩
    rw [Int.toNat_natCast]
    have hrl : (rgL 0 N).length = N := by unfold rgL; rw [List.length_map, List.length_range]
    refine comp_i (fun i acc l' => ∃ ms : List Mv, acc = ms.map mvV ∧ ms.length = i ∧ (∀ m ∈ ms, MvOk m) ∧ LeB b L l' ∧ Bx b (n + 9 + 6 * (i : Int)) l') ⟨[], rfl, rfl, fun d hd => by (cases hd), l6, b6.mono (by omega)⟩ (fun _ _ _ _ => trivial) (by rw [hrl]; show _ < 16777216; omega) ?_ ?_
    · rintro i t' acc l' K' hx ⟨ms, rfl, hl, hms, le, bx⟩ hi hK'
      obtain ⟨rfl, hin⟩ := rgL_get hx
      walk_at "ev105"
      refine ⟨b, _, _, rfl, bx, by omega, fun m l2 hm b' le' => ⟨by rw [List.length_map]; show _ < 16777216; omega, hK' _ _ ?_ ⟨ms ++ [m], ?_, ?_, ?_, le.trans le', b'.mono (by omega)⟩⟩⟩
      · rw [List.length_append, List.length_map]; show ms.length + 1 ≤ i + 1; omega
      · rw [List.map_append]; rfl
      · rw [List.length_append, hl]; rfl
      · intro q hq
        rcases List.mem_append.mp hq with z | z
        · exact hms q z
        · cases List.mem_singleton.mp z
          exact hm
    · rintro acc l' ⟨ms, rfl, hl, hms, le, bx⟩
      rw [hrl] at hl bx
      intro q hq
      have nq := freeB hb le bx hq
      have nqb : q ≠ b := fun z => by
        obtain ⟨_, _, _, hc, _⟩ := hb
        rw [← z, nq] at hc
        cases hc
      have eq := put_same (L := l') (a := q) (o := .l (ms.map mvV))
      have l7 := le.trans ((Le.new (o := .l (ms.map mvV)) hq).b b)
      have b7 := bx.new (o := .l (ms.map mvV)) hq
      generalize put l' q _ = L7 at *
      unfold b_case_2a_1
      walk_at "ev105"
      have i0 : IsI 65 (65 * 4) (0 : Rat) := ⟨0, by grind, by decide, by decide⟩
      rw [fr_zero, vc_mk]
      refine ⟨(0, 0), q, ms, rfl, eq, hms, by omega, ⟨i0, i0⟩, fun L8 l8 => ?_⟩
      walk_at "ev105"
      exact h (0, 0) q ms w 1 L8 nq nqb (l8 _ _ eq) (fun z => by rw [z] at hl; have : N = 0 := hl.symm; omega) (by omega) hms ⟨i0, i0⟩ w0 ws (by decide) (by decide) ((b7.le l8).mono (by omega)) (l7.trans (l8.b b))
  · unfold b_case_3
    walk_at "ev105"
    refine ⟨b, _, 4, rfl, by decide, by decide, b5, by omega, fun s q ms L6 nq nqb e6 hne hl hok hs b6 l6 => ?_⟩
    walk_at "ev105"
    refine ⟨rfl, ?_⟩
    unfold b_case_4
    walk_at "ev105"
    rw [e_lenl e6]
    have fin : ∀ st' : Int, 1 ≤ st' → st' ≤ 3 → R (.tup [pth (s, mvPs s ms), .ref q, fr w, .int st']) L6 := fun st' h1 h3 =>
      h s q ms w st' L6 (freeB hb l5 b5 nq) nqb e6 hne hl.1 hok hs w0 ws h1 h3 (b6.mono (by omega)) (l5.trans l6)
    walk_at "ev105"
    split
    · exact fin _ (by omega) (by omega)
    · split
      · exact fin _ (by omega) (by omega)
      · exact fin _ (by decide) (by decide)
end
section
open PySem PySem.Spec PyProof.Rows L2
inductive Mk where
  | l | r | b | e | n
deriving DecidableEq
def Mk.cp : Mk → Nat
  | .l => 108 | .r => 114 | .b => 98 | .e => 101 | .n => 45
def mkS (ms : List Mk) : Str := ⟨(ms.map Mk.cp).toArray⟩
theorem mkS_cat (a b : List Mk) : mkS a ++ mkS b = mkS (a ++ b) := by
  unfold mkS
  rw [List.map_append]
  show Str.mk _ = _
  simp
theorem mkS_len (a : List Mk) : (mkS a).length = a.length := by
  unfold mkS
  show Array.size _ = _
  simp
theorem fold_rep (c : Nat) : ∀ (n : Nat) (acc : Array Nat), (List.replicate n #[c]).foldl (· ++ ·) acc = acc ++ (List.replicate n c).toArray
  | 0, acc => by simp
  | n + 1, acc => by
    rw [List.replicate_succ, List.foldl_cons, fold_rep c n, List.replicate_succ]
    apply Array.ext'
    simp
theorem mkS_mul (m : Mk) (n : Nat) : Txt.mul (mkS [m]) (n : Int) = mkS (List.replicate n m) := by
  unfold Txt.mul
  by_cases h0 : (n : Int) < 1
  · rw [if_pos h0]
    have : n = 0 := by omega
    subst this
    rfl
  · rw [if_neg h0]
    by_cases h1 : n = 1
    · subst h1
      rfl
    · have e1 : ((n : Int) == 1 || (mkS [m]).length == 0) = false := by
        rw [mkS_len]
        have : ((n : Int) == 1) = false := by
          rw [beq_eq_false_iff_ne]
          omega
        rw [this]; rfl
      rw [e1, if_neg Bool.false_ne_true, Int.toNat_natCast]
      unfold mkS
      show Str.mk (List.foldl _ _ (List.replicate n #[m.cp])) = _
      rw [fold_rep, List.map_replicate]
      simp
theorem mkS_ok {m : Mk} {n : Nat} (h : n ≤ 1000) : PySem.MulOk (mkS [m]) (n : Int) := by
  refine ⟨?_, fun h0 h1 => ?_, fun h0 h1 => ?_⟩
  · rw [Bool.or_eq_false_iff, decide_eq_false_iff_not, decide_eq_false_iff_not]
    constructor <;> omega
  · rw [mkS_len]
    intro h2
    have h3 : (2 ^ 63 - 1 : Int) / n ≥ 2 := by
      rw [ge_iff_le, Int.le_ediv_iff_mul_le (by omega)]
      omega
    have : (([m].length : Nat) : Int) = 1 := rfl
    omega
  · rw [mkS_len, Int.toNat_natCast]
    show decide ([m].length * n > sizeLine) = false
    rw [decide_eq_false_iff_not]
    show ¬ (1 * n > 16777216)
    omega
theorem sg_n : (Str.ofString "-") = mkS [.n] := by decide +kernel
theorem sg_l : (Str.ofString "l") = mkS [.l] := by decide +kernel
theorem sg_r : (Str.ofString "r") = mkS [.r] := by decide +kernel
theorem sg_b : (Str.ofString "b") = mkS [.b] := by decide +kernel
theorem sg_e : (Str.ofString "e") = mkS [.e] := by decide +kernel
structure Blk where
  w : Str
  i : Nat
  s : List Vc
  m : List Mk
def bkV (x : Blk) : PV := .tup [.str x.w, .int x.i, .tup (x.s.map vc), .str (mkS x.m)]
def tipV (u v : Vc) : Vc := ((u.1 + v.1) / (1 + vdot u v), (u.2 + v.2) / (1 + vdot u v))
def tips (us : List Vc) : List Vc := (us.zip (us.drop 1)).map fun z => tipV z.1 z.2
def spt (p : Vc) (far : Rat) (u : Vc) : Vc := vadd p (vscl u far)
def fanS (p : Vc) (us : List Vc) (far : Rat) : List Vc := p :: spt p far (us.headD (0, 0)) :: ((tips us).map (spt p far) ++ [spt p far (us.getLastD (0, 0))])
def fanB (w : Str) (i : Nat) (p : Vc) (us : List Vc) (far : Rat) (m : Mk) : Blk := ⟨w, i, fanS p us far, .n :: (List.replicate ((fanS p us far).length - 2) m ++ [.n])⟩
def vrgt (u : Vc) : Vc := vneg (vlft u)
structure BPath (p : Pth) (k rr : Nat) : Prop where
  ok : PathOk p
  sz : PSz 14 p
  hu : ∀ (i : Nat) (q : Pc) (b : Vc), p.2[i]? = some q → (ends p)[i]? = some b → SzV k (hdQ b q).1 ∧ SzV k (hdQ b q).2
  ry : ∀ (i : Nat) (m t : Vc) (lf : Bool) (b : Vc), p.2[i]? = some (.arc m t lf) → (ends p)[i]? = some b → SzV k (uv (vsub b m)) ∧ SzV k (uv (vsub t m)) ∧ Sz rr (len (vsub t m))
  kb : k ≤ 60
  rb : rr ≤ 60
noncomputable def stripB (i : Nat) (b t : Vc) (far : Rat) : Blk :=
  ⟨"strip", i, [vsub b (vscl (vlft (uv (vsub t b))) far), vsub t (vscl (vlft (uv (vsub t b))) far), vadd t (vscl (vlft (uv (vsub t b))) far), vadd b (vscl (vlft (uv (vsub t b))) far)], [.r, .n, .l, .n]⟩
/-- units whose neighbours have a tip -/
structure UOk (K : Nat) (us : List Vc) : Prop where
  ne : us ≠ []
  ln : us.length ≤ 32
  sz : ∀ u ∈ us, Un u ∧ SzV K u
  tp : ∀ z ∈ us.zip (us.drop 1), 1 + vdot z.1 z.2 ≠ 0
theorem UOk.k1 {K : Nat} {us : List Vc} (h : UOk K us) : 1 ≤ K := by
  obtain ⟨u, r, rfl⟩ := List.exists_cons_of_ne_nil h.ne
  have := (h.sz u List.mem_cons_self).2.1.2
  have := u.1.den_nz
  cases K with
  | zero => simp at *; omega
  | succ k => omega
def s_right_of : Spec := fun args L R => ∃ u, args = [vc u] ∧ SzV 3999 u ∧ R (vc (vrgt u)) L
def s_stripB : Spec := fun args L R => ∃ (p : Pth) (i k rr : Nat) (b t : Vc) (far : Rat), args = [pth p, .int i, fr far] ∧ BPath p k rr ∧ p.2[i]? = some (.side t) ∧ (ends p)[i]? = some b ∧ Sz 14 far ∧ ∀ L', Le L L' → R (bkV (stripB i b t far)) L'
def s_fan : Spec := fun args L R => ∃ (w : Str) (i : Nat) (p : Vc) (q : Addr) (us : List Vc) (far : Rat) (m : Mk) (K : Nat), args = [.str w, .int i, vc p, .ref q, fr far, .str (mkS [m])] ∧ L q = some (.l (us.map vc)) ∧ UOk K us ∧ K ≤ 450 ∧ SzV 14 p ∧ Sz 14 far ∧
  ∀ L', Le L L' → R (bkV (fanB w i p us far m)) L'
def d_right_of_0 : WS := sRet (wCall s_scaled [wCall s_left_of [wVar 0], wC (.tup [.int (-1), .int 1])])
def d_strip_3 : WS := sRet (wTup [wC (.str "strip"), wVar 1, wTup [wCall s_minus [wVar 4, wVar 6], wCall s_minus [wVar 5, wVar 6], wCall s_plus [wVar 5, wVar 6], wCall s_plus [wVar 4, wVar 6]], wC (.str "r-l-")])
def d_strip_2 : WS := sSeq (sAsg (gN 6) (wCall s_scaled [wCall s_left_of [wBin oIx (wCall s_headings [wVar 0, wVar 1]) (wC (.int 0))], wVar 2])) d_strip_3
def d_strip_1 : WS := sSeq (sPar [4, 5] [wBin oIx (wVar 3) (wVar 1), wBin oIx (wVar 3) (wBin oAdd (wVar 1) (wC (.int 1)))]) d_strip_2
def d_strip_0 : WS := sSeq (sAsg (gN 3) (wCall s_ends_of [wVar 0])) d_strip_1
def d_fan_3 : WS := sRet (wTup [wVar 0, wVar 1, wBi gTuple [wVar 6], wBin oAdd (wBin oAdd (wC (.str "-")) (wBin oMul (wVar 5) (wBin oSub (wBi gLen [wVar 6]) (wC (.int 2))))) (wC (.str "-"))])
def d_fan_2 : WS := sSeq (sExpr (wMt "list" mAppend (wVar 6) [wCall s_plus [wVar 2, wCall s_scaled [wBin oIx (wVar 3) (wC (.int (-1))), wVar 4]]])) d_fan_3
def d_fan_1f_0 : WS := sExpr (wMt "list" mAppend (wVar 6) [wCall s_plus [wVar 2, wCall s_scaled [wCall s_tip_of [wVar 7, wVar 8], wVar 4]]])
def d_fan_1 : WS := sSeq (sFor (iZp (wVar 3) (wSl (wVar 3) (wSo (wC (.int 1))) wNo)) (gT 2 (gsL [gN 7, gN 8])) d_fan_1f_0) d_fan_2
def d_fan_0 : WS := sSeq (sAsg (gN 6) (wLst [wVar 2, wCall s_plus [wVar 2, wCall s_scaled [wBin oIx (wVar 3) (wC (.int 0)), wVar 4]]])) d_fan_1
theorem vneg_scl {u : Vc} : vscl u (((-1 : Int) : Rat)) = vneg u := Prod.ext (by show u.1 * ((-1 : Int) : Rat) = -u.1; rw [show ((-1 : Int) : Rat) = -1 from rfl]; grind) (by show u.2 * ((-1 : Int) : Rat) = -u.2; rw [show ((-1 : Int) : Rat) = -1 from rfl]; grind)
theorem fr_m1 : PV.tup [.int (-1), .int 1] = fr ((-1 : Int) : Rat) := rfl
theorem ok_right_of : ∀ args L R, args.length = 1 → s_right_of args L R → d_right_of_0 (initE 1 args) L { nx := fun _ L' => R .non L', rt := R } := by
  rintro _ L R _ ⟨u, rfl, hu, h⟩
  unfold d_right_of_0
  show sRet _ [some (vc u)] L _
  walk_at "ev105"
  have s1 : Sz 4000 ((-1 : Int) : Rat) := Sz.int (show 1 < 2 ^ 4000 from Nat.one_lt_two_pow (by decide)) (by decide)
  refine ⟨u, rfl, hu.mono (by decide), ?_⟩
  rw [fr_m1]
  refine ⟨vlft u, _, rfl, hu.lft.mono (by decide), s1, ?_⟩
  rw [vneg_scl]
  exact h
theorem ok_strip : ∀ args L R, args.length = 3 → s_stripB args L R → d_strip_0 (initE 7 args) L { nx := fun _ L' => R .non L', rt := R } := by
  rintro _ L R _ ⟨p, i, k, rr, b, t, far, rfl, bp, hq, hb, hf, h⟩
  have sb := bp.sz.ends b (List.mem_of_getElem? hb)
  have st : SzV 14 t := bp.sz.2 _ (List.mem_of_getElem? hq)
  have su := bp.hu _ _ _ hq hb
  unfold d_strip_0
  show sSeq _ _ [some (pth p), some (.int i), some (fr far), none, none, none, none] L _
  walk_at "ev105"
  refine ⟨p, rfl, by have := bp.ok.ln; omega, fun c L1 hc l1 e1 => ?_⟩
  unfold d_strip_1
  walk_at "ev105"
  rw [ixv e1 hb]
  have h1 := ends_succ hq
  rw [show ((i : Int) + 1) = ((i + 1 : Nat) : Int) from rfl, ixv e1 h1]
  unfold d_strip_2
  walk_at "ev105"
  refine ⟨p, i, _, b, rfl, hq, hb, bp.ok.get hq hb, sb.mono (by decide), PcSz.mono (q := .side t) st (by decide), ?_⟩
  walk_at "ev105"
  have su1 : SzV 60 (uv (vsub t b)) := su.1.mono bp.kb
  refine ⟨_, rfl, su1.mono (by decide), ?_⟩
  have sr : SzV 76 (vscl (vlft (uv (vsub t b))) far) := (su1.lft.scl hf).mono (by decide)
  refine ⟨_, far, rfl, su1.lft.mono (by decide), hf.mono (by decide), ?_⟩
  unfold d_strip_3
  have hh : R (bkV (stripB i b t far)) L1 := h L1 l1
  unfold bkV stripB at hh
  change R (.tup [.str "strip", .int i, .tup [vc _, vc _, vc _, vc _], .str (mkS [.r, .n, .l, .n])]) L1 at hh
  show sRet _ [some (pth p), some (.int i), some (fr far), some (.ref c), some (vc b), some (vc t), some (vc (vscl (vlft (uv (vsub t b))) far))] L1 _
  generalize vscl (vlft (uv (vsub t b))) far = rc at *
  walk_at "ev105"
  refine ⟨b, rc, rfl, sb.mono (by decide), sr.mono (by decide), ?_⟩
  refine ⟨t, rc, rfl, st.mono (by decide), sr.mono (by decide), ?_⟩
  refine ⟨t, rc, rfl, st.mono (by decide), sr.mono (by decide), ?_⟩
  refine ⟨b, rc, rfl, sb.mono (by decide), sr.mono (by decide), ?_⟩
  exact hh
theorem tip_sz {K : Nat} {u v : Vc} (hu : SzV K u) (hv : SzV K v) (hk : 1 ≤ K) : SzV (6 * K + 5) (tipV u v) := by
  by_cases hd : 1 + vdot u v = 0
  · unfold tipV
    rw [hd]
    have e : ∀ x : Rat, x / 0 = 0 := fun x => by rw [Rat.div_def, Rat.inv_zero, Rat.mul_zero]
    exact ⟨by show Sz _ ((u.1 + v.1) / 0); rw [e]; exact sz0 (by omega), by show Sz _ ((u.2 + v.2) / 0); rw [e]; exact sz0 (by omega)⟩
  · have h1 := (sz1 (Nat.le_refl 1)).add (hu.dot hv)
    exact ⟨((hu.1.add hv.1).div h1 hd).mono (by omega), ((hu.2.add hv.2).div h1 hd).mono (by omega)⟩
theorem ok_fan : ∀ args L R, args.length = 6 → s_fan args L R → d_fan_0 (initE 9 args) L { nx := fun _ L' => R .non L', rt := R } := by
  rintro _ L R _ ⟨w, i, p, q, us, far, m, K, rfl, e, hu, hK, sp, sf, h⟩
  obtain ⟨u, r, rfl⟩ := List.exists_cons_of_ne_nil hu.ne
  have ln := hu.ln
  have su := hu.sz u List.mem_cons_self
  unfold d_fan_0
  show sSeq _ _ [some (.str w), some (.int i), some (vc p), some (.ref q), some (fr far), some (.str (mkS [m])), none, none, none] L _
  walk_at "ev105"
  rw [ixl0 (x := vc u) (xs := r.map vc) e]
  refine ⟨u, far, rfl, su.2.mono (by omega), sf.mono (by decide), ?_⟩
  refine ⟨p, vscl u far, rfl, sp.mono (by decide), (su.2.scl sf).mono (by omega), ?_⟩
  walk_at "ev105"
  intro pf hpf
  have ef := put_same (L := L) (a := pf) (o := .l [vc p, vc (spt p far u)])
  have l1 := Le.new (o := .l [vc p, vc (spt p far u)]) hpf
  have e1 := l1 _ _ e
  show d_fan_1 _ (put L pf (.l [vc p, vc (spt p far u)])) _
  generalize put L pf _ = L1 at *
  unfold d_fan_1
  walk_at "ev105"
  rw [e_sll e1]
  intro p1 hp1
  rw [cut_1d, ← List.map_drop]
  have d1 := Le.new (o := .l (((u :: r).drop 1).map vc)) hp1 _ _ e1
  have d2 := put_same (L := L1) (a := p1) (o := .l (((u :: r).drop 1).map vc))
  have df := Le.new (o := .l (((u :: r).drop 1).map vc)) hp1 _ _ ef
  have l2 := l1.trans (Le.new (o := .l (((u :: r).drop 1).map vc)) hp1)
  have n1f : p1 ≠ pf := fun z => by rw [z, ef] at hp1; cases hp1
  have nqf : q ≠ pf := fun z => by rw [z, hpf] at e; cases e
  generalize put L1 p1 _ = L2 at *
  rw [e_zpK d1 d2]
  have hK1 : 1 ≤ K := hu.k1
  refine loop_i (fun j en l => Le L l ∧ l q = some (.l ((u :: r).map vc)) ∧ l p1 = some (.l (((u :: r).drop 1).map vc)) ∧ l pf = some (.l ((p :: spt p far u :: ((((u :: r).zip ((u :: r).drop 1)).take j).map fun z => spt p far (tipV z.1 z.2))).map vc)) ∧ ∃ z7 z8, en = [some (.str w), some (.int i), some (vc p), some (.ref q), some (fr far), some (.str (mkS [m])), some (.ref pf), z7, z8]) ⟨l2, d1, d2, df, _, _, rfl⟩ (fun _ _ _ q => ⟨q.2.1, q.2.2.1⟩) ?_ ?_
  · rintro j t en l N hx ⟨hl, eq, e1', ef', z7, z8, rfl⟩ hN
    obtain ⟨x, y, hx1, hy1, rfl⟩ := zip_get hx
    have hz : ((u :: r).zip ((u :: r).drop 1))[j]? = some (x, y) := by rw [List.zip, List.getElem?_zipWith, hx1, hy1]
    have hs : ((u :: r).zip ((u :: r).drop 1)).take (j + 1) = ((u :: r).zip ((u :: r).drop 1)).take j ++ [(x, y)] := by rw [List.take_add_one, hz]; rfl
    have hjl : j < 32 := by have := (List.getElem?_eq_some_iff.mp hx1).1; omega
    have sx := hu.sz x (List.mem_of_getElem? hx1)
    have sy := hu.sz y (List.mem_of_mem_drop (List.mem_of_getElem? hy1))
    have st := tip_sz sx.2 sy.2 hK1
    walk_at "ev105"
    refine ⟨rfl, ?_⟩
    unfold d_fan_1f_0
    walk_at "ev105"
    refine ⟨ty_list ef', x, y, rfl, sx.2.mono hK, sy.2.mono hK, hu.tp _ (List.mem_of_getElem? hz), ?_⟩
    refine ⟨tipV x y, far, rfl, st.mono (by omega), sf.mono (by decide), ?_⟩
    refine ⟨p, vscl (tipV x y) far, rfl, sp.mono (by decide), (st.scl sf).mono (by omega), ?_⟩
    refine e_app ef' ⟨by rw [List.length_map, List.length_cons, List.length_cons, List.length_map, List.length_take]; show _ < 16777216; omega, ?_⟩
    refine hN _ _ ⟨hl.put hpf, by rw [put_ne nqf]; exact eq, by rw [put_ne n1f]; exact e1', ?_, _, _, rfl⟩
    rw [put_same, hs, List.map_append, List.map_cons, List.map_cons, List.map_cons, List.map_cons, List.map_append]
    rfl
  · rintro en l ⟨hl, eq, e1', ef', z7, z8, rfl⟩
    have hz : (zipL (List.map vc (u :: r)) (List.map vc ((u :: r).drop 1))).length = ((u :: r).zip ((u :: r).drop 1)).length := by
      rw [zip_len, List.length_map, List.length_map, List.length_zip]
    rw [hz, List.take_length] at ef'
    have et : (((u :: r).zip ((u :: r).drop 1)).map fun z => spt p far (tipV z.1 z.2)) = (tips (u :: r)).map (spt p far) := by
      unfold tips
      rw [List.map_map]
      rfl
    rw [et] at ef'
    have hl2 : ((u :: r).zip ((u :: r).drop 1)).length ≤ 32 := by rw [List.length_zip]; omega
    have htl : (tips (u :: r)).length ≤ 32 := by unfold tips; rw [List.length_map]; exact hl2
    obtain ⟨x, hx⟩ : ∃ x, (u :: r).getLast? = some x := ⟨_, List.getLast?_eq_some_getLast (List.cons_ne_nil _ _)⟩
    have sx := hu.sz x (List.mem_of_getLast? hx)
    unfold d_fan_2
    walk_at "ev105"
    rw [vlast eq hx]
    refine ⟨ty_list ef', x, far, rfl, sx.2.mono (by omega), sf.mono (by decide), ?_⟩
    refine ⟨p, vscl x far, rfl, sp.mono (by decide), (sx.2.scl sf).mono (by omega), ?_⟩
    refine e_app ef' ⟨by rw [List.length_map, List.length_cons, List.length_cons, List.length_map]; show _ < 16777216; omega, ?_⟩
    have hS : fanS p (u :: r) far = p :: spt p far u :: ((tips (u :: r)).map (spt p far) ++ [spt p far x]) := by
      unfold fanS
      rw [show (u :: r).getLastD (0, 0) = x from by rw [List.getLastD_eq_getLast?, hx]; rfl]
      rfl
    have e3 : put l pf (.l ((p :: spt p far u :: (tips (u :: r)).map (spt p far)).map vc ++ [vc (vadd p (vscl x far))])) pf = some (.l ((fanS p (u :: r) far).map vc)) := by
      rw [put_same, hS, List.map_cons, List.map_cons, List.map_cons, List.map_cons, List.map_append]
      rfl
    have l3 := hl.put (o := .l ((p :: spt p far u :: (tips (u :: r)).map (spt p far)).map vc ++ [vc (vadd p (vscl x far))])) hpf
    generalize put l pf _ = L3 at *
    have hn : 2 ≤ (fanS p (u :: r) far).length ∧ (fanS p (u :: r) far).length ≤ 40 := by
      rw [hS, List.length_cons, List.length_cons, List.length_append, List.length_map]
      constructor
      · omega
      · show _ + 1 + 1 + 1 ≤ 40
        omega
    have hR := h L3 l3
    unfold fanB bkV at hR
    simp only at hR
    generalize fanS p (u :: r) far = S at *
    unfold d_fan_3
    walk_at "ev105"
    rw [e_tupl e3]
    walk_at "ev105"
    rw [e_lenl e3]
    walk_at "ev105"
    rw [show ((List.map vc S).length : Int) - 2 = ((S.length - 2 : Nat) : Int) by rw [List.length_map]; omega]
    refine ⟨mkS_ok (by omega), ?_⟩
    rw [mkS_mul, sg_n]
    refine ⟨by rw [mkS_len, mkS_len, List.length_replicate]; show 1 + _ ≤ 16777216; omega, ?_⟩
    rw [mkS_cat]
    refine ⟨by rw [mkS_len, mkS_len, List.length_append, List.length_replicate]; show 1 + _ + 1 ≤ 16777216; omega, ?_⟩
    rw [mkS_cat]
    exact hR
end
section
open PySem PySem.Spec PyProof.Rows L2
theorem chn_unB {u : Vc} : ∀ {t : List Vc}, Chn Nxt u t → ∀ x ∈ t, Un x := by
  intro t h x hx
  obtain ⟨i, hi⟩ := List.getElem?_of_mem hx
  have hlt := (List.getElem?_eq_some_iff.mp hi).1
  exact (h.get (x := (u :: t)[i]'(by rw [List.length_cons]; omega)) (List.getElem?_eq_getElem _) hi).1
theorem uni_ok {u v : Vc} {n a b : Nat} (hu : Un u) (hv : Un v) (su : SzV a u) (sv : SzV b v) (hn : 0 < n) (hn' : n < 4) : UOk (3 * a + 3 * b + 7) (uni u v n) := by
  obtain ⟨t, e, h⟩ := uni_chn hu hv hn
  refine ⟨by rw [e]; exact List.cons_ne_nil _ _, uni_len hn', fun x hx => ⟨?_, uni_szU su sv hu hv hn hn' x hx⟩, fun z hz => ?_⟩
  · rw [e] at hx
    rcases List.mem_cons.mp hx with rfl | hx
    · exact hu
    · exact chn_unB h x hx
  · rw [e] at hz
    obtain ⟨i, hi⟩ := List.getElem?_of_mem hz
    rw [List.zip, List.getElem?_zipWith] at hi
    cases q1 : (u :: t)[i]? with
    | none => rw [q1] at hi; cases hi
    | some x =>
      cases q2 : ((u :: t).drop 1)[i]? with
      | none => rw [q1, q2] at hi; cases hi
      | some y =>
        rw [q1, q2] at hi
        cases hi
        have hN := h.get q1 (by rw [List.drop_one, List.tail_cons] at q2; exact q2)
        have := hN.2.2
        show 1 + vdot x y ≠ 0
        grind
theorem UOk.mono {a b : Nat} {us : List Vc} (h : UOk a us) (k : a ≤ b) : UOk b us := ⟨h.ne, h.ln, fun u hu => ⟨(h.sz u hu).1, (h.sz u hu).2.mono k⟩, h.tp⟩
theorem un_rgt {u : Vc} (h : Un u) : Un (vrgt u) := un_vneg h.lft
theorem sz_rgt {k : Nat} {u : Vc} (h : SzV k u) : SzV k (vrgt u) := h.lft.neg
noncomputable def cnU (p : Pth) (i : Nat) : Vc := (hdN p (prv p.2.length i)).2
noncomputable def cnW (p : Pth) (i : Nat) : Vc := (hdN p i).1
noncomputable def cUnits (p : Pth) (i st : Nat) : List Vc :=
  if cnU p i = cnW p i then [] else if 0 < vcrs (cnU p i) (cnW p i) then uni (vrgt (cnU p i)) (vrgt (cnW p i)) st else if vcrs (cnU p i) (cnW p i) < 0 then uni (vlft (cnW p i)) (vlft (cnU p i)) st else uni (vrgt (cnU p i)) (vlft (cnU p i)) st
noncomputable def cMk (p : Pth) (i : Nat) : Mk := if 0 < vcrs (cnU p i) (cnW p i) then .r else if vcrs (cnU p i) (cnW p i) < 0 then .l else .b
noncomputable def cFans (p : Pth) (i : Nat) (b : Vc) (far : Rat) (st : Nat) : List Blk := if cnU p i = cnW p i then [] else [fanB "fan" i b (cUnits p i st) far (cMk p i)]
theorem hdn_sz {p : Pth} {k rr : Nat} (bp : BPath p k rr) {i : Nat} (hi : i < p.2.length) : ∃ q b, p.2[i]? = some q ∧ (ends p)[i]? = some b ∧ hdN p i = hdQ b q ∧ PcOk b q ∧ SzV 14 b ∧ PcSz 14 q ∧ Un (hdN p i).1 ∧ Un (hdN p i).2 ∧ SzV k (hdN p i).1 ∧ SzV k (hdN p i).2 := by
  have hq : p.2[i]? = some p.2[i] := List.getElem?_eq_getElem hi
  obtain ⟨b, hb⟩ := beg_get hq
  have e := hdN_eq hq hb
  have ok := bp.ok.get hq hb
  have sb := bp.sz.ends b (List.mem_of_getElem? hb)
  have sq := bp.sz.2 _ (List.mem_of_getElem? hq)
  have h1 := hdQ_ok ok sb sq
  have h2 := bp.hu _ _ _ hq hb
  rw [e]
  exact ⟨_, b, hq, hb, rfl, ok, sb, sq, h1.1.1, h1.2.1, h2.1, h2.2⟩
theorem prv_lt {n i : Nat} (h : i < n) : prv n i < n := by
  unfold prv
  split <;> omega
theorem cUnits_ok {p : Pth} {k rr : Nat} (bp : BPath p k rr) {i st : Nat} (hi : i < p.2.length) (s0 : 0 < st) (s3 : st < 4) (hne : cnU p i ≠ cnW p i) : UOk (6 * k + 7) (cUnits p i st) := by
  obtain ⟨_, _, _, _, _, _, _, _, _, u1, _, z1⟩ := hdn_sz bp (prv_lt hi)
  obtain ⟨_, _, _, _, _, _, _, _, u2, _, z2, _⟩ := hdn_sz bp hi
  unfold cUnits
  rw [if_neg hne]
  have k3 : 3 * k + 3 * k + 7 ≤ 6 * k + 7 := by omega
  split
  · exact (uni_ok (un_rgt u1) (un_rgt u2) (sz_rgt z1) (sz_rgt z2) s0 s3).mono k3
  · split
    · exact (uni_ok u2.lft u1.lft z2.lft z1.lft s0 s3).mono k3
    · exact (uni_ok (un_rgt u1) u1.lft (sz_rgt z1) z1.lft s0 s3).mono k3
def s_corner_units : Spec := fun args L R => ∃ (p : Pth) (i st k rr : Nat), args = [pth p, .int i, .str (cwN p i), .int st] ∧ BPath p k rr ∧ i < p.2.length ∧ 0 < st ∧ st < 4 ∧ Fresh L R ((cUnits p i st).map vc)
def s_corner_fans : Spec := fun args L R => ∃ (p : Pth) (i st k rr : Nat) (b : Vc) (far : Rat), args = [pth p, .int i, .str (cwN p i), fr far, .int st] ∧ BPath p k rr ∧ i < p.2.length ∧ (ends p)[i]? = some b ∧ Sz 14 far ∧ 0 < st ∧ st < 4 ∧ Fresh L R ((cFans p i b far st).map bkV)
def d_corner_units_6 : WS := sRet (wLst [])
def d_corner_units_5a_0 : WS := sRet (wCall s_units_between [wCall s_right_of [wVar 5], wCall s_left_of [wVar 5], wVar 3])
def d_corner_units_5 : WS := sSeq (sIf (wBin oEq (wVar 2) (wC (.str "back"))) d_corner_units_5a_0 sNil) d_corner_units_6
def d_corner_units_4a_0 : WS := sRet (wCall s_units_between [wCall s_left_of [wVar 6], wCall s_left_of [wVar 5], wVar 3])
def d_corner_units_4 : WS := sSeq (sIf (wBin oEq (wVar 2) (wC (.str "right"))) d_corner_units_4a_0 sNil) d_corner_units_5
def d_corner_units_3a_0 : WS := sRet (wCall s_units_between [wCall s_right_of [wVar 5], wCall s_right_of [wVar 6], wVar 3])
def d_corner_units_3 : WS := sSeq (sIf (wBin oEq (wVar 2) (wC (.str "left"))) d_corner_units_3a_0 sNil) d_corner_units_4
def d_corner_units_2 : WS := sSeq (sAsg (gN 6) (wBin oIx (wCall s_headings [wVar 0, wVar 1]) (wC (.int 0)))) d_corner_units_3
def d_corner_units_1 : WS := sSeq (sAsg (gN 5) (wBin oIx (wCall s_headings [wVar 0, wVar 4]) (wC (.int 1)))) d_corner_units_2
def d_corner_units_0 : WS := sSeq (sAsg (gN 4) (wIfE (wBin oEq (wVar 1) (wC (.int 0))) (wBin oSub (wBi gLen [wBin oIx (wVar 0) (wC (.int 1))]) (wC (.int 1))) (wBin oSub (wVar 1) (wC (.int 1))))) d_corner_units_1
def d_corner_fans_3 : WS := sRet (wLst [wCall s_fan [wC (.str "fan"), wVar 1, wBin oIx (wCall s_ends_of [wVar 0]) (wVar 1), wVar 5, wVar 3, wVar 6]])
def d_corner_fans_2 : WS := sSeq (sAsg (gN 6) (wBin oIx (wDisp [(.inr "left", wC (.str "r")), (.inr "right", wC (.str "l")), (.inr "back", wC (.str "b"))]) (wVar 2))) d_corner_fans_3
def d_corner_fans_1a_0 : WS := sRet (wLst [])
def d_corner_fans_1 : WS := sSeq (sIf (wBin oEq (wBi gLen [wVar 5]) (wC (.int 0))) d_corner_fans_1a_0 sNil) d_corner_fans_2
def d_corner_fans_0 : WS := sSeq (sAsg (gN 5) (wCall s_corner_units [wVar 0, wVar 1, wVar 2, wVar 4])) d_corner_fans_1
theorem wd_ss : ∀ {a b : Str} {L : Sto} {R : PK} (ha : SeqAt.shaped (.str a) = true) (hb : SeqAt.shaped (.str b) = true) (c : Bool) (hc : (a == b) = c) (h : R (.bl c) L), oEq (.str a) (.str b) L R := fun ha hb c hc h => by
  rw [oEq_sS ha hb, hc]; exact h
theorem sh_back : SeqAt.shaped (.str "back") = true := by decide +kernel
theorem ok_corner_units : ∀ args L R, args.length = 4 → s_corner_units args L R → d_corner_units_0 (initE 7 args) L { nx := fun _ L' => R .non L', rt := R } := by
  rintro _ L R _ ⟨p, i, st, k, rr, rfl, bp, hi, s0, s3, h⟩
  obtain ⟨q1, b1, hq1, hb1, e1, ok1, sb1, sq1, _, u1, _, z1⟩ := hdn_sz bp (prv_lt hi)
  obtain ⟨q2, b2, hq2, hb2, e2, ok2, sb2, sq2, u2, _, z2, _⟩ := hdn_sz bp hi
  have kb := bp.kb
  unfold d_corner_units_0
  show sSeq _ _ [some (pth p), some (.int i), some (.str (cwN p i)), some (.int st), none, none, none] L _
  have step : d_corner_units_1 [some (pth p), some (.int i), some (.str (cwN p i)), some (.int st), some (.int (prv p.2.length i : Nat)), none, none] L { nx := fun _ L' => R .non L', rt := R } := by
    unfold d_corner_units_1
    walk_at "ev105"
    refine ⟨p, prv p.2.length i, q1, b1, rfl, hq1, hb1, ok1, sb1.mono (by decide), sq1.mono (by decide), ?_⟩
    walk_at "ev105"
    unfold d_corner_units_2
    walk_at "ev105"
    refine ⟨p, i, q2, b2, rfl, hq2, hb2, ok2, sb2.mono (by decide), sq2.mono (by decide), ?_⟩
    walk_at "ev105"
    have eu : (hdQ b1 q1).2 = cnU p i := by unfold cnU; rw [e1]
    have ew : (hdQ b2 q2).1 = cnW p i := by unfold cnW; rw [e2]
    rw [eu, ew]
    have u1 : Un (cnU p i) := u1
    have u2 : Un (cnW p i) := u2
    have z1 : SzV 60 (cnU p i) := z1.mono kb
    have z2 : SzV 60 (cnW p i) := z2.mono kb
    have hw : cwN p i = cwS (cnU p i) (cnW p i) := rfl
    have hc : Fresh L R ((cUnits p i st).map vc) := h
    unfold cUnits at hc
    rw [hw]
    generalize cnU p i = u at *
    generalize cnW p i = w at *
    unfold d_corner_units_3 d_corner_units_3a_0
    walk_at "ev105"
    unfold cwS
    by_cases huw : u = w
    · rw [if_pos huw] at hc ⊢
      refine wd_ss sh_strs sh_left false (by decide +kernel) ?_
      walk_at "ev105"
      unfold d_corner_units_4 d_corner_units_4a_0
      walk_at "ev105"
      refine wd_ss sh_strs sh_right false (by decide +kernel) ?_
      walk_at "ev105"
      unfold d_corner_units_5 d_corner_units_5a_0
      walk_at "ev105"
      refine wd_ss sh_strs sh_back false (by decide +kernel) ?_
      walk_at "ev105"
      unfold d_corner_units_6
      walk_at "ev105"
      intro q hq
      exact hc q _ hq (Le.new hq) put_same
    · rw [if_neg huw] at hc ⊢
      by_cases h1 : 0 < vcrs u w
      · rw [if_pos h1] at hc ⊢
        refine wd_ss sh_left sh_left true (by decide +kernel) ?_
        walk_at "ev105"
        refine ⟨u, rfl, z1.mono (by decide), w, rfl, z2.mono (by decide), ?_⟩
        exact ⟨vrgt u, vrgt w, st, 60, 60, rfl, un_rgt u1, un_rgt u2, sz_rgt z1, sz_rgt z2, by decide, s0, s3, hc⟩
      · rw [if_neg h1] at hc ⊢
        by_cases h2 : vcrs u w < 0
        · rw [if_pos h2] at hc ⊢
          refine wd_ss sh_right sh_left false (by decide +kernel) ?_
          walk_at "ev105"
          unfold d_corner_units_4 d_corner_units_4a_0
          walk_at "ev105"
          refine wd_ss sh_right sh_right true (by decide +kernel) ?_
          walk_at "ev105"
          refine ⟨w, rfl, z2.mono (by decide), u, rfl, z1.mono (by decide), ?_⟩
          exact ⟨vlft w, vlft u, st, 60, 60, rfl, u2.lft, u1.lft, z2.lft, z1.lft, by decide, s0, s3, hc⟩
        · rw [if_neg h2] at hc ⊢
          refine wd_ss sh_back sh_left false (by decide +kernel) ?_
          walk_at "ev105"
          unfold d_corner_units_4 d_corner_units_4a_0
          walk_at "ev105"
          refine wd_ss sh_back sh_right false (by decide +kernel) ?_
          walk_at "ev105"
          unfold d_corner_units_5 d_corner_units_5a_0
          walk_at "ev105"
          refine wd_ss sh_back sh_back true (by decide +kernel) ?_
          walk_at "ev105"
          refine ⟨u, rfl, z1.mono (by decide), u, rfl, z1.mono (by decide), ?_⟩
          exact ⟨vrgt u, vlft u, st, 60, 60, rfl, un_rgt u1, u1.lft, sz_rgt z1, z1.lft, by decide, s0, s3, hc⟩
  walk_at "ev105"
  unfold prv at step
  by_cases h0 : i = 0
  · subst h0
    rw [if_neg (Nat.lt_irrefl 0)] at step
    rw [if_pos (show ((0 : Nat) : Int) = 0 from rfl)]
    rw [show ((p.2.map pcV).length : Int) - 1 = ((p.2.length - 1 : Nat) : Int) by rw [List.length_map]; omega]
    exact step
  · rw [if_pos (Nat.pos_of_ne_zero h0)] at step
    rw [if_neg (show ¬ ((i : Int) = 0) by omega)]
    rw [show (i : Int) - 1 = ((i - 1 : Nat) : Int) by omega]
    exact step
end
section
open PySem PySem.Spec PyProof.Rows L2
theorem cw_ne {p : Pth} {i : Nat} (h : cnU p i ≠ cnW p i) : cwN p i = (if 0 < vcrs (cnU p i) (cnW p i) then ("left" : Str) else if vcrs (cnU p i) (cnW p i) < 0 then ("right" : Str) else ("back" : Str)) := by
  show cwS (cnU p i) (cnW p i) = _
  unfold cwS
  rw [if_neg h]
theorem ixd {L : Sto} {R : PK} {p : Addr} {kvs : List (Key × PV)} {z : Str} {x : Key × PV} (e : L p = some (.d kvs)) (h : kvs.find? (fun kv => decide (kv.1 = .inr z)) = some x) (k : R x.2 L) : oIx (.ref p) (.str z) L R := by
  unfold oIx
  simp only [e, h]
  exact k
def lrb : List (Key × PV) := [(.inr "left", .str "r"), (.inr "right", .str "l"), (.inr "back", .str "b")]
theorem lrb_l : lrb.find? (fun kv => decide (kv.1 = .inr ("left" : Str))) = some (.inr "left", .str "r") := by
  unfold lrb
  rw [List.find?_cons_of_pos (by decide +kernel)]
theorem lrb_r : lrb.find? (fun kv => decide (kv.1 = .inr ("right" : Str))) = some (.inr "right", .str "l") := by
  unfold lrb
  rw [List.find?_cons_of_neg (by decide +kernel), List.find?_cons_of_pos (by decide +kernel)]
theorem lrb_b : lrb.find? (fun kv => decide (kv.1 = .inr ("back" : Str))) = some (.inr "back", .str "b") := by
  unfold lrb
  rw [List.find?_cons_of_neg (by decide +kernel), List.find?_cons_of_neg (by decide +kernel), List.find?_cons_of_pos (by decide +kernel)]
theorem ok_corner_fans : ∀ args L R, args.length = 5 → s_corner_fans args L R → d_corner_fans_0 (initE 7 args) L { nx := fun _ L' => R .non L', rt := R } := by
  rintro _ L R _ ⟨p, i, st, k, rr, b, far, rfl, bp, hi, hb, hf, s0, s3, h⟩
  have kb := bp.kb
  unfold d_corner_fans_0
  show sSeq _ _ [some (pth p), some (.int i), some (.str (cwN p i)), some (fr far), some (.int st), none, none] L _
  walk_at "ev105"
  refine ⟨p, i, st, k, rr, rfl, bp, hi, s0, s3, fun q L1 hq l1 e1 => ?_⟩
  unfold d_corner_fans_1 d_corner_fans_1a_0
  walk_at "ev105"
  rw [e_lenl e1]
  walk_at "ev105"
  rw [List.length_map]
  unfold cFans at h
  by_cases huw : cnU p i = cnW p i
  · rw [if_pos huw] at h
    have : (cUnits p i st).length = 0 := by unfold cUnits; rw [if_pos huw]; rfl
    rw [this, if_pos (by rfl)]
    intro p2 hp2
    exact h p2 _ (l1.free hp2) (l1.trans (Le.new hp2)) put_same
  · rw [if_neg huw] at h
    have uo := cUnits_ok bp hi s0 s3 huw
    have hne : (cUnits p i st).length ≠ 0 := fun z => uo.ne (List.length_eq_zero_iff.mp z)
    rw [if_neg (by omega)]
    unfold d_corner_fans_2
    rw [cw_ne huw]
    have sb := bp.sz.ends b (List.mem_of_getElem? hb)
    have fin : ∀ L2 p2, Le L1 L2 → L2 p2 = some (.d [(.inr "left", .str "r"), (.inr "right", .str "l"), (.inr "back", .str "b")]) → d_corner_fans_3 [some (pth p), some (.int i), some (.str (if 0 < vcrs (cnU p i) (cnW p i) then ("left" : Str) else if vcrs (cnU p i) (cnW p i) < 0 then ("right" : Str) else ("back" : Str))), some (fr far), some (.int st), some (.ref q), some (.str (mkS [cMk p i]))] L2 { nx := fun _ L' => R .non L', rt := R } := by
      intro L2 p2 l2 e2
      unfold d_corner_fans_3
      walk_at "ev105"
      refine ⟨p, rfl, by have := bp.ok.ln; omega, fun c L3 hc l3 e3 => ?_⟩
      walk_at "ev105"
      rw [ixv e3 hb]
      refine ⟨"fan", i, b, q, cUnits p i st, far, cMk p i, 6 * k + 7, rfl, l3 _ _ (l2 _ _ e1), uo, by omega, sb, hf, fun L4 l4 => ?_⟩
      walk_at "ev105"
      intro p5 hp5
      have ll := ((l1.trans l2).trans l3).trans l4
      exact h p5 _ (ll.free hp5) (ll.trans (Le.new hp5)) put_same
    have fin2 : ∀ (w : Str) (x : Str), x = mkS [cMk p i] → w = (if 0 < vcrs (cnU p i) (cnW p i) then ("left" : Str) else if vcrs (cnU p i) (cnW p i) < 0 then ("right" : Str) else ("back" : Str)) → (∀ (L2 : Sto) p2 K, L2 p2 = some (.d [(.inr "left", .str "r"), (.inr "right", .str "l"), (.inr "back", .str "b")]) → K (.str x) L2 → oIx (.ref p2) (.str w) L2 K) →
        sSeq (sAsg (gN 6) (wBin oIx (wDisp [(.inr "left", wC (.str "r")), (.inr "right", wC (.str "l")), (.inr "back", wC (.str "b"))]) (wVar 2))) d_corner_fans_3 [some (pth p), some (.int i), some (.str w), some (fr far), some (.int st), some (.ref q), none] L1 { nx := fun _ L' => R .non L', rt := R } := by
      intro w x ex ew hx
      rw [← ew] at fin
      walk_at "ev105"
      intro p2 hp2
      refine ⟨put_same, ?_⟩
      refine hx _ p2 _ put_same ?_
      rw [ex]
      exact fin _ p2 (by rw [put_put]; exact Le.new hp2) put_same
    by_cases h1 : 0 < vcrs (cnU p i) (cnW p i)
    · have em : mkS [cMk p i] = Str.ofString "r" := by unfold cMk; rw [if_pos h1]; exact sg_r.symm
      have := fin2 "left" "r" em.symm (by rw [if_pos h1]) (fun L2 p2 K e hK => ixd e lrb_l hK)
      rw [if_pos h1]
      exact this
    · rw [if_neg h1]
      by_cases h2 : vcrs (cnU p i) (cnW p i) < 0
      · have em : mkS [cMk p i] = Str.ofString "l" := by unfold cMk; rw [if_neg h1, if_pos h2]; exact sg_l.symm
        have := fin2 "right" "l" em.symm (by rw [if_neg h1, if_pos h2]) (fun L2 p2 K e hK => ixd e lrb_r hK)
        rw [if_pos h2]
        exact this
      · have em : mkS [cMk p i] = Str.ofString "b" := by unfold cMk; rw [if_neg h1, if_neg h2]; exact sg_b.symm
        have := fin2 "back" "b" em.symm (by rw [if_neg h1, if_neg h2]) (fun L2 p2 K e hK => ixd e lrb_b hK)
        rw [if_neg h2]
        exact this
end
section
open PySem PySem.Spec PyProof.Rows L2
noncomputable def aUnits (b m t : Vc) (lf : Bool) (st : Nat) : List Vc := if lf = true then uni (uv (vsub b m)) (uv (vsub t m)) st else uni (uv (vsub t m)) (uv (vsub b m)) st
def innerV (r : Rat) (us : List Vc) (far : Rat) : Rat := if r ≤ far then 0 else (r - far) * (1 + lsD us) / 2
def secP (i : Nat) (m one other : Vc) (inn out : Rat) : List Blk :=
  if inn = 0 then [⟨"sector", i, [m, spt m out one, spt m out (tipV one other)], [.n, .r, .n]⟩, ⟨"sector", i, [m, spt m out (tipV one other), spt m out other], [.n, .r, .n]⟩]
  else [⟨"sector", i, [spt m inn one, spt m out one, spt m out (tipV one other), spt m inn (tipV one other)], [.n, .r, .n, .l]⟩, ⟨"sector", i, [spt m inn (tipV one other), spt m out (tipV one other), spt m out other, spt m inn other], [.n, .r, .n, .l]⟩]
def s_arc_units : Spec := fun args L R => ∃ (p : Pth) (i st k rr : Nat) (m t : Vc) (lf : Bool) (b : Vc), args = [pth p, .int i, .int st] ∧ BPath p k rr ∧ p.2[i]? = some (.arc m t lf) ∧ (ends p)[i]? = some b ∧ 0 < st ∧ st < 4 ∧ Fresh L R ((aUnits b m t lf st).map vc)
def s_inner_of : Spec := fun args L R => ∃ (r far : Rat) (q : Addr) (us : List Vc) (K : Nat), args = [fr r, .ref q, fr far] ∧ L q = some (.l (us.map vc)) ∧ UOk K us ∧ 2 ≤ us.length ∧ K ≤ 400 ∧ Sz 60 r ∧ Sz 14 far ∧ ∀ L', Le L L' → R (fr (innerV r us far)) L'
def s_sector_pair : Spec := fun args L R => ∃ (i : Nat) (m one other : Vc) (inn out : Rat) (K : Nat), args = [.int i, vc m, vc one, vc other, fr inn, fr out] ∧ SzV 14 m ∧ SzV K one ∧ SzV K other ∧ 1 ≤ K ∧ K ≤ 367 ∧ 1 + vdot one other ≠ 0 ∧ Sz 1700 inn ∧ Sz 80 out ∧ Fresh L R ((secP i m one other inn out).map bkV)
def d_arc_units_7 : WS := sRet (wCall s_units_between [wVar 8, wVar 7, wVar 2])
def d_arc_units_6a_0 : WS := sRet (wCall s_units_between [wVar 7, wVar 8, wVar 2])
def d_arc_units_6 : WS := sSeq (sIf (wBin oEq (wBin oIx (wBin oIx (wBin oIx (wVar 0) (wC (.int 1))) (wVar 1)) (wC (.int 3))) (wC (.str "left"))) d_arc_units_6a_0 sNil) d_arc_units_7
def d_arc_units_5 : WS := sSeq (sAsg (gN 8) (wCall s_scaled [wCall s_minus [wBin oIx (wVar 3) (wBin oAdd (wVar 1) (wC (.int 1))), wVar 4], wVar 6])) d_arc_units_6
def d_arc_units_4 : WS := sSeq (sAsg (gN 7) (wCall s_scaled [wCall s_minus [wBin oIx (wVar 3) (wVar 1), wVar 4], wVar 6])) d_arc_units_5
def d_arc_units_3 : WS := sSeq (sAsg (gN 6) (wCall s_over [wC (.tup [.int 1, .int 1]), wVar 5])) d_arc_units_4
def d_arc_units_2 : WS := sSeq (sAsg (gN 5) (wCall s_radius_of [wVar 0, wVar 1])) d_arc_units_3
def d_arc_units_1 : WS := sSeq (sAsg (gN 4) (wBin oIx (wBin oIx (wBin oIx (wVar 0) (wC (.int 1))) (wVar 1)) (wC (.int 1)))) d_arc_units_2
def d_arc_units_0 : WS := sSeq (sAsg (gN 3) (wCall s_ends_of [wVar 0])) d_arc_units_1
def d_inner_of_1 : WS := sRet (wCall s_over [wCall s_times [wCall s_taken [wVar 0, wVar 2], wCall s_added [wC (.tup [.int 1, .int 1]), wCall s_least_dot [wVar 1]]], wC (.tup [.int 2, .int 1])])
def d_inner_of_0a_0 : WS := sRet (wC (.tup [.int 0, .int 1]))
def d_inner_of_0 : WS := sSeq (sIf (wBin oGe (wCall s_compared [wVar 2, wVar 0]) (wC (.int 0))) d_inner_of_0a_0 sNil) d_inner_of_1
def d_sector_pair_5 : WS := sRet (wLst [wVar 8, wTup [wC (.str "sector"), wVar 0, wTup [wBin oIx (wVar 9) (wC (.int 1)), wBin oIx (wVar 7) (wC (.int 1)), wBin oIx (wVar 7) (wC (.int 2)), wBin oIx (wVar 9) (wC (.int 2))], wC (.str "-r-l")]])
def d_sector_pair_4 : WS := sSeq (sAsg (gN 8) (wTup [wC (.str "sector"), wVar 0, wTup [wBin oIx (wVar 9) (wC (.int 0)), wBin oIx (wVar 7) (wC (.int 0)), wBin oIx (wVar 7) (wC (.int 1)), wBin oIx (wVar 9) (wC (.int 1))], wC (.str "-r-l")])) d_sector_pair_5
def d_sector_pair_3 : WS := sSeq (sAsg (gN 9) (wComp [10] (iAny (wTup [wVar 2, wVar 6, wVar 3])) (gN 10) (wC (.bl true)) (wCall s_plus [wVar 1, wCall s_scaled [wVar 10, wVar 4]]))) d_sector_pair_4
def d_sector_pair_2a_1 : WS := sRet (wLst [wVar 8, wTup [wC (.str "sector"), wVar 0, wTup [wVar 1, wBin oIx (wVar 7) (wC (.int 1)), wBin oIx (wVar 7) (wC (.int 2))], wC (.str "-r-")]])
def d_sector_pair_2a_0 : WS := sSeq (sAsg (gN 8) (wTup [wC (.str "sector"), wVar 0, wTup [wVar 1, wBin oIx (wVar 7) (wC (.int 0)), wBin oIx (wVar 7) (wC (.int 1))], wC (.str "-r-")])) d_sector_pair_2a_1
def d_sector_pair_2 : WS := sSeq (sIf (wBin oEq (wVar 4) (wC (.tup [.int 0, .int 1]))) d_sector_pair_2a_0 sNil) d_sector_pair_3
def d_sector_pair_1 : WS := sSeq (sAsg (gN 7) (wComp [10] (iAny (wTup [wVar 2, wVar 6, wVar 3])) (gN 10) (wC (.bl true)) (wCall s_plus [wVar 1, wCall s_scaled [wVar 10, wVar 5]]))) d_sector_pair_2
def d_sector_pair_0 : WS := sSeq (sAsg (gN 6) (wCall s_tip_of [wVar 2, wVar 3])) d_sector_pair_1
theorem uv_scl {v : Vc} {l : Rat} (h : len v = l) : vscl v (1 / l) = uv v := by
  unfold vscl uv
  rw [h]
  exact Prod.ext (by show v.1 * (1 / l) = v.1 / l; grind) (by show v.2 * (1 / l) = v.2 / l; grind)
theorem ok_arc_units : ∀ args L R, args.length = 3 → s_arc_units args L R → d_arc_units_0 (initE 9 args) L { nx := fun _ L' => R .non L', rt := R } := by
  rintro _ L R _ ⟨p, i, st, k, rr, m, t, lf, b, rfl, bp, hq, hb, s0, s3, h⟩
  have kb := bp.kb
  have sb := bp.sz.ends b (List.mem_of_getElem? hb)
  have sq := bp.sz.2 _ (List.mem_of_getElem? hq)
  have ok := bp.ok.get hq hb
  obtain ⟨z1, z2, zr⟩ := bp.ry _ _ _ _ _ hq hb
  have lp := (len_spec ok.2.2.1).1
  unfold d_arc_units_0
  show sSeq _ _ [some (pth p), some (.int i), some (.int st), none, none, none, none, none, none] L _
  walk_at "ev105"
  refine ⟨p, rfl, by have := bp.ok.ln; omega, fun c L1 hc l1 e1 => ?_⟩
  unfold d_arc_units_1
  walk_at "ev105"
  rw [ixpc hq]
  walk_at "ev105"
  unfold d_arc_units_2
  walk_at "ev105"
  refine ⟨p, i, _, rfl, hq, SzV.mono sq.1 (by decide), SzV.mono sq.2 (by decide), ok.2.2.1, ?_⟩
  unfold d_arc_units_3
  walk_at "ev105"
  rw [fr_one]
  refine ⟨_, _, rfl, by grind, sz1 (by decide), zr.mono (by have := bp.rb; omega), ?_⟩
  unfold d_arc_units_4
  walk_at "ev105"
  rw [ixv e1 hb]
  have s1 : Sz 61 (1 / len (vsub t m)) := ((sz1 (Nat.le_refl 1)).div zr (by grind)).mono (by have := bp.rb; omega)
  refine ⟨b, m, rfl, sb.mono (by decide), SzV.mono sq.1 (by decide), ?_⟩
  refine ⟨vsub b m, 1 / len (vsub t m), rfl, (sb.sub sq.1).mono (by decide), s1.mono (by decide), ?_⟩
  rw [uv_scl ok.2.2.2.symm]
  unfold d_arc_units_5
  walk_at "ev105"
  have h1 := ends_succ hq
  rw [show ((i : Int) + 1) = ((i + 1 : Nat) : Int) from rfl, ixv e1 h1]
  refine ⟨t, m, rfl, SzV.mono sq.2 (by decide), SzV.mono sq.1 (by decide), ?_⟩
  refine ⟨vsub t m, 1 / len (vsub t m), rfl, (SzV.sub sq.2 sq.1).mono (by decide), s1.mono (by decide), ?_⟩
  rw [uv_scl rfl]
  unfold d_arc_units_6 d_arc_units_6a_0
  walk_at "ev105"
  rw [ixpc hq]
  walk_at "ev105"
  have fr' : ∀ {xs : List Vc}, Fresh L R (xs.map vc) → Fresh L1 R (xs.map vc) := fun hF q L' hq' hl' e' => hF q L' (l1.free hq') (l1.trans hl') e'
  unfold aUnits at h
  have k2 : k + k ≤ 200 := by omega
  cases lf with
  | true =>
    rw [if_pos rfl] at h
    walk_at "ev105"
    exact ⟨_, _, st, k, k, rfl, uv_un ok.2.1, uv_un ok.2.2.1, z1, z2, k2, s0, s3, fr' h⟩
  | false =>
    rw [if_neg Bool.false_ne_true] at h
    walk_at "ev105"
    unfold d_arc_units_7
    walk_at "ev105"
    exact ⟨_, _, st, k, k, rfl, uv_un ok.2.2.1, uv_un ok.2.1, z2, z1, k2, s0, s3, fr' h⟩
theorem lsD_sz {us : List Vc} {K : Nat} (h : ∀ u ∈ us, Un u ∧ SzV K u) : Sz (4 * K + 1) (lsD us) := by
  have key : ∀ (zs : List (Vc × Vc)), (∀ z ∈ zs, z.1 ∈ us ∧ z.2 ∈ us) → ∀ f, Sz (4 * K + 1) f → Sz (4 * K + 1) (zs.foldl (fun f p => if vdot p.1 p.2 < f then vdot p.1 p.2 else f) f) := by
    intro zs
    induction zs with
    | nil => intro _ f hf; exact hf
    | cons z zs ih =>
      intro hz f hf
      rw [List.foldl_cons]
      refine ih (fun w hw => hz w (List.mem_cons_of_mem _ hw)) _ ?_
      split
      · have := hz z List.mem_cons_self
        exact ((h _ this.1).2.dot (h _ this.2).2).mono (by omega)
      · exact hf
  unfold lsD
  split
  · rename_i u v r
    refine key _ (fun z hz => ?_) _ (((h u List.mem_cons_self).2.dot (h v (List.mem_cons_of_mem _ List.mem_cons_self)).2).mono (by omega))
    obtain ⟨q1, q2⟩ := List.of_mem_zip hz
    exact ⟨List.mem_of_mem_drop q1, List.mem_of_mem_drop q2⟩
  · exact sz0 (by omega)
theorem ok_inner_of : ∀ args L R, args.length = 3 → s_inner_of args L R → d_inner_of_0 (initE 3 args) L { nx := fun _ L' => R .non L', rt := R } := by
  rintro _ L R _ ⟨r, far, q, us, K, rfl, e, hu, h2, hK, sr, sf, h⟩
  unfold d_inner_of_0 d_inner_of_0a_0
  show sSeq _ _ [some (fr r), some (.ref q), some (fr far)] L _
  walk_at "ev105"
  refine ⟨far, r, rfl, sf.mono (by decide), sr.mono (by decide), ?_⟩
  walk_at "ev105"
  unfold innerV at h
  unfold cmpI
  have sl := lsD_sz hu.sz
  by_cases hc : r ≤ far
  · rw [if_pos hc] at h
    have : (0 : Int) ≤ (if r < far then 1 else if far < r then -1 else 0) := by
      split
      · decide
      · rw [if_neg (by grind)]; decide
    rw [if_pos this, fr_zero]
    exact h _ .refl
  · rw [if_neg hc] at h
    have : ¬ (0 : Int) ≤ (if r < far then 1 else if far < r then -1 else 0) := by
      rw [if_neg (by grind), if_pos (by grind)]; decide
    rw [if_neg this]
    unfold d_inner_of_1
    walk_at "ev105"
    refine ⟨r, far, rfl, sr.mono (by decide), sf.mono (by decide), ?_⟩
    rw [fr_one]
    refine ⟨q, us, rfl, e, ⟨fun x hx => ⟨(hu.sz x hx).1, (hu.sz x hx).2.mono (by omega)⟩, h2, by have := hu.ln; omega⟩, fun L1 l1 => ?_⟩
    refine ⟨1, lsD us, rfl, sz1 (by decide), sl.mono (by omega), ?_⟩
    have s1 := (sr.sub sf)
    have s2 := (sz1 (Nat.le_refl 1)).add sl
    refine ⟨r - far, 1 + lsD us, rfl, s1.mono (by decide), s2.mono (by omega), ?_⟩
    rw [show PV.tup [.int 2, .int 1] = fr ((2 : Int) : Rat) from rfl]
    refine ⟨(r - far) * (1 + lsD us), ((2 : Int) : Rat), rfl, by rw [show ((2 : Int) : Rat) = 2 from rfl]; grind, (s1.mul s2).mono (by omega), Sz.mono (Sz.int (a := 2) (by decide) (by decide)) (by decide), ?_⟩
    exact h _ l1
end
section
open PySem PySem.Spec PyProof.Rows L2
theorem ok_sector_pair : ∀ args L R, args.length = 6 → s_sector_pair args L R → d_sector_pair_0 (initE 11 args) L { nx := fun _ L' => R .non L', rt := R } := by
  rintro _ L R _ ⟨i, m, one, other, inn, out, K, rfl, sm, s1, s2, k1, kK, hd, si, so, h⟩
  have st := tip_sz s1 s2 k1
  unfold d_sector_pair_0
  show sSeq _ _ [some (.int i), some (vc m), some (vc one), some (vc other), some (fr inn), some (fr out), none, none, none, none, none] L _
  walk_at "ev105"
  refine ⟨one, other, rfl, s1.mono (by omega), s2.mono (by omega), hd, ?_⟩
  have ht : ((one.1 + other.1) / (1 + vdot one other), (one.2 + other.2) / (1 + vdot one other)) = tipV one other := rfl
  rw [ht]
  unfold secP at h
  generalize tipV one other = tip at *
  unfold d_sector_pair_1
  walk_at "ev105"
  have hs : ∀ x ∈ [one, tip, other], SzV (6 * K + 5) x := fun x hx => by
    simp only [List.mem_cons, List.not_mem_nil, or_false] at hx
    rcases hx with rfl | rfl | rfl
    · exact s1.mono (by omega)
    · exact st
    · exact s2.mono (by omega)
  refine comp_map (xs := [one, tip, other]) (f := vc) (g := fun u => vc (spt m out u)) (fun _ _ => trivial) (show 3 < 16000000 by decide) ?_ ?_
  · intro x hx l R' hl hR'
    walk_at "ev105"
    refine ⟨x, out, rfl, (hs x hx).mono (by omega), so.mono (by decide), ?_⟩
    exact ⟨m, vscl x out, rfl, sm.mono (by decide), ((hs x hx).scl so).mono (by omega), hR' l hl⟩
  intro L1 l1 p1 hp1
  have e1 := put_same (L := L1) (a := p1) (o := .l ([one, tip, other].map fun u => vc (spt m out u)))
  have l1 := l1.trans (Le.new (o := .l ([one, tip, other].map fun u => vc (spt m out u))) hp1)
  generalize put L1 p1 _ = L2 at *
  have e1 : L2 p1 = some (.l [vc (spt m out one), vc (spt m out tip), vc (spt m out other)]) := e1
  walk_at "ev105"
  unfold d_sector_pair_2
  walk_at "ev105"
  rw [fr_zero]
  walk_at "ev105"
  by_cases hi : inn = 0
  · rw [if_pos hi] at h ⊢
    unfold d_sector_pair_2a_0
    walk_at "ev105"
    rw [ixl0 e1]
    walk_at "ev105"
    rw [ixl1 e1]
    walk_at "ev105"
    unfold d_sector_pair_2a_1
    walk_at "ev105"
    rw [ixl1 e1]
    walk_at "ev105"
    rw [ixl2 e1]
    walk_at "ev105"
    intro p2 hp2
    have hh := h p2 _ (l1.free hp2) (l1.trans (Le.new hp2)) put_same
    exact hh
  · rw [if_neg hi] at h ⊢
    unfold d_sector_pair_3
    walk_at "ev105"
    refine comp_map (xs := [one, tip, other]) (f := vc) (g := fun u => vc (spt m inn u)) (fun _ _ => trivial) (show 3 < 16000000 by decide) ?_ ?_
    · intro x hx l R' hl hR'
      walk_at "ev105"
      refine ⟨x, inn, rfl, (hs x hx).mono (by omega), si.mono (by decide), ?_⟩
      exact ⟨m, vscl x inn, rfl, sm.mono (by decide), ((hs x hx).scl si).mono (by omega), hR' l hl⟩
    intro L3 l3 p3 hp3
    have e3 := put_same (L := L3) (a := p3) (o := .l ([one, tip, other].map fun u => vc (spt m inn u)))
    have l3 := l3.trans (Le.new (o := .l ([one, tip, other].map fun u => vc (spt m inn u))) hp3)
    generalize put L3 p3 _ = L4 at *
    have e3 : L4 p3 = some (.l [vc (spt m inn one), vc (spt m inn tip), vc (spt m inn other)]) := e3
    have e1 := l3 _ _ e1
    have l4 := l1.trans l3
    unfold d_sector_pair_4
    walk_at "ev105"
    rw [ixl0 e3]
    walk_at "ev105"
    rw [ixl0 e1]
    walk_at "ev105"
    rw [ixl1 e1]
    walk_at "ev105"
    rw [ixl1 e3]
    walk_at "ev105"
    unfold d_sector_pair_5
    walk_at "ev105"
    rw [ixl1 e3]
    walk_at "ev105"
    rw [ixl1 e1]
    walk_at "ev105"
    rw [ixl2 e1]
    walk_at "ev105"
    rw [ixl2 e3]
    walk_at "ev105"
    intro p5 hp5
    exact h p5 _ (l4.free hp5) (l4.trans (Le.new hp5)) put_same
end
section
open PySem PySem.Spec PyProof.Rows L2
open TL (tl len_tl ext_tl tl_append tl_mk mk_tl join_eq)
theorem tl_mkS (ms : List Mk) : tl (mkS ms) = ms.map Mk.cp := by
  unfold mkS
  exact tl_mk _
theorem join_mk : ∀ ms : List Mk, Txt.join "" (ms.map fun m => mkS [m]) = mkS ms
  | [] => by
    apply ext_tl
    rw [join_eq, TL.tl_join, tl_mkS]
    rfl
  | [m] => by
    apply ext_tl
    rw [join_eq, TL.tl_join, tl_mkS]
    rfl
  | m :: m' :: r => by
    have ih := join_mk (m' :: r)
    apply ext_tl
    have ih := congrArg tl ih
    rw [join_eq, TL.tl_join, tl_mkS] at ih
    rw [join_eq, TL.tl_join, tl_mkS]
    have e : ∀ (s p q : List Nat) (r : List (List Nat)), TL.joinL s (p :: q :: r) = p ++ (s ++ TL.joinL s (q :: r)) := fun _ _ _ _ => by first | rfl | simp [TL.joinL]
    rw [List.map_cons, List.map_cons] at ih ⊢
    rw [List.map_cons, List.map_cons, e, ih]
    rfl
def exM : Mk → Mk
  | .l => .r | .r => .l | m => m
def s_exchanged : Spec := fun args L R => ∃ ms : List Mk, args = [.str (mkS ms)] ∧ ms.length ≤ 100 ∧ ∀ L', Le L L' → R (.str (mkS (ms.map exM))) L'
def d_exchanged_0 : WS := sRet (wMt "str" mJoin (wC (.str "")) [wComp [1] (iAny (wVar 0)) (gN 1) (wC (.bl true)) (wMt "dict" mGet (wDisp [(.inr "l", wC (.str "r")), (.inr "r", wC (.str "l"))]) [wVar 1, wVar 1])])
theorem ok_exchanged : ∀ args L R, args.length = 1 → s_exchanged args L R → d_exchanged_0 (initE 2 args) L { nx := fun _ L' => R .non L', rt := R } := by
  rintro _ L R _ ⟨ms, rfl, hl, h⟩
  unfold d_exchanged_0
  show sRet _ [some (.str (mkS ms)), none] L _
  walk_at "ev105"
  refine ⟨rfl, ?_⟩
  have ei : (mkS ms).cps.toList.map (fun c => PV.str ⟨#[c]⟩) = ms.map fun m => .str (mkS [m]) := by
    unfold mkS
    simp only [List.map_map]
    rfl
  unfold lsK
  simp only [ei]
  refine comp_map (xs := ms) (f := fun m => .str (mkS [m])) (g := fun m => .str (mkS [exM m])) (fun _ _ => trivial) (by omega) ?_ ?_
  · intro m hm l R' hl hR'
    walk_at "ev105"
    intro p hp
    refine ⟨put_same, .inr ⟨rfl, _, put_same⟩, ?_⟩
    unfold mGet
    simp only [put_same, keyP]
    have e : dGet [(.inr "l", .str "r"), (.inr "r", .str "l")] (.inr (mkS [m])) (.str (mkS [m])) = .str (mkS [exM m]) := by
      cases m <;> rfl
    rw [e]
    exact hR' _ (hl.trans (by rw [put_put]; exact Le.new hp))
  intro L1 l1 p1 hp1
  refine ⟨ms.map fun m => mkS [exM m], by rw [put_same, List.map_map]; rfl, ?_, ?_⟩
  · have e0 : ((ms.map fun m => mkS [exM m]).map (·.length)) = ms.map fun _ => 1 := by
      rw [List.map_map]
      rfl
    have e1 : (ms.map fun _ => 1).sum = ms.length := by
      rw [List.map_const', List.sum_replicate_nat, Nat.mul_one]
    rw [e0, e1, List.length_map]
    show ms.length + ms.length * 0 ≤ 16777216
    omega
  · have e2 : Txt.join (Str.ofString "") (ms.map fun m => mkS [exM m]) = mkS (ms.map exM) := by
      rw [← join_mk, List.map_map]
      rfl
    rw [e2]
    exact h _ (l1.trans (Le.new hp1))
end
section
open PySem PySem.Spec PyProof.Rows L2
def headF (x : Blk) : Blk := ⟨x.w, x.i, x.s, .l :: x.m.drop 1⟩
def lastF (x : Blk) : Blk := ⟨x.w, x.i, x.s, x.m.take 2 ++ (.l :: x.m.drop 3)⟩
def exB (x : Blk) : Blk := ⟨x.w, x.i, x.s, x.m.map exM⟩
def secs0 (i : Nat) (m : Vc) (us : List Vc) (inn out : Rat) : List Blk := (us.zip (us.drop 1)).flatMap fun z => secP i m z.1 z.2 inn out
def fixS : List Blk → List Blk
  | [] => []
  | x :: t => headF x :: (t.dropLast ++ (t.getLast?.map lastF).toList)
theorem fixS_eq {x y : Blk} {t : List Blk} : fixS (x :: (t ++ [y])) = headF x :: (t ++ [lastF y]) := by
  show headF x :: ((t ++ [y]).dropLast ++ (Option.map lastF (t ++ [y]).getLast?).toList) = _
  rw [List.dropLast_concat, List.getLast?_concat]
  rfl
def secs (i : Nat) (m : Vc) (us : List Vc) (inn out : Rat) (lf : Bool) : List Blk :=
  let b := if inn = 0 then secs0 i m us inn out else fixS (secs0 i m us inn out)
  if lf = true then b else b.map exB
noncomputable def arcB (i : Nat) (b m t : Vc) (lf : Bool) (far : Rat) (st : Nat) : List Blk := secs i m (aUnits b m t lf st) (innerV (len (vsub t m)) (aUnits b m t lf st) far) (len (vsub t m) + far) lf
def s_sectors : Spec := fun args L R => ∃ (p : Pth) (i st k rr : Nat) (m t : Vc) (lf : Bool) (b : Vc) (far : Rat), args = [pth p, .int i, fr far, .int st] ∧ BPath p k rr ∧ p.2[i]? = some (.arc m t lf) ∧ (ends p)[i]? = some b ∧ Sz 14 far ∧ 0 < st ∧ st < 4 ∧ Fresh L R ((arcB i b m t lf far st).map bkV)
def d_sectors_8 : WS := sRet (wVar 8)
def d_sectors_7a_0 : WS := sAsg (gN 8) (wComp [11] (iAny (wVar 8)) (gN 11) (wC (.bl true)) (wBin oAdd (wSl (wVar 11) wNo (wSo (wC (.int 3)))) (wTup [wCall s_exchanged [wBin oIx (wVar 11) (wC (.int 3))]])))
def d_sectors_7 : WS := sSeq (sIf (wBin oEq (wBin oIx (wBin oIx (wBin oIx (wVar 0) (wC (.int 1))) (wVar 1)) (wC (.int 3))) (wC (.str "right"))) d_sectors_7a_0 sNil) d_sectors_8
def d_sectors_6a_1 : WS := sAsg (gS (wVar 8) (wC (.int (-1)))) (wBin oAdd (wSl (wBin oIx (wVar 8) (wC (.int (-1)))) wNo (wSo (wC (.int 3)))) (wTup [wBin oAdd (wBin oAdd (wSl (wBin oIx (wBin oIx (wVar 8) (wC (.int (-1)))) (wC (.int 3))) wNo (wSo (wC (.int 2)))) (wC (.str "l"))) (wSl (wBin oIx (wBin oIx (wVar 8) (wC (.int (-1)))) (wC (.int 3))) (wSo (wC (.int 3))) wNo)]))
def d_sectors_6a_0 : WS := sSeq (sAsg (gS (wVar 8) (wC (.int 0))) (wBin oAdd (wSl (wBin oIx (wVar 8) (wC (.int 0))) wNo (wSo (wC (.int 3)))) (wTup [wBin oAdd (wC (.str "l")) (wSl (wBin oIx (wBin oIx (wVar 8) (wC (.int 0))) (wC (.int 3))) (wSo (wC (.int 1))) wNo)]))) d_sectors_6a_1
def d_sectors_6 : WS := sSeq (sIf (wBin oNe (wVar 6) (wC (.tup [.int 0, .int 1]))) d_sectors_6a_0 sNil) d_sectors_7
def d_sectors_5f_0 : WS := sExpr (wMt "list" mExtend (wVar 8) [wCall s_sector_pair [wVar 1, wBin oIx (wBin oIx (wBin oIx (wVar 0) (wC (.int 1))) (wVar 1)) (wC (.int 1)), wVar 9, wVar 10, wVar 6, wVar 7]])
def d_sectors_5 : WS := sSeq (sFor (iZp (wVar 4) (wSl (wVar 4) (wSo (wC (.int 1))) wNo)) (gT 2 (gsL [gN 9, gN 10])) d_sectors_5f_0) d_sectors_6
def d_sectors_4 : WS := sSeq (sAsg (gN 8) (wLst [])) d_sectors_5
def d_sectors_3 : WS := sSeq (sAsg (gN 7) (wCall s_added [wVar 5, wVar 2])) d_sectors_4
def d_sectors_2 : WS := sSeq (sAsg (gN 6) (wCall s_inner_of [wVar 5, wVar 4, wVar 2])) d_sectors_3
def d_sectors_1 : WS := sSeq (sAsg (gN 5) (wCall s_radius_of [wVar 0, wVar 1])) d_sectors_2
def d_sectors_0 : WS := sSeq (sAsg (gN 4) (wCall s_arc_units [wVar 0, wVar 1, wVar 3])) d_sectors_1
theorem mkS_cut (ms : List Mk) (lo hi : Option Int) : cutS (mkS ms) lo hi = mkS (cutP ms lo hi) := by
  refine TL.ext_tl ?_
  unfold cutS
  rw [TL.tl_mk, tl_mkS]
  unfold cutP
  rw [mkS_len, List.map_take, List.map_drop]
  rw [show (mkS ms).cps.toList = ms.map Mk.cp from tl_mkS ms]
section
variable {L : Sto} {R : PK} {x : Blk}
theorem bk2 : oIx (bkV x) (.int 2) L R = R (.tup (x.s.map vc)) L := ix2
theorem bk3 : oIx (bkV x) (.int 3) L R = R (.str (mkS x.m)) L := ix3
theorem bk_sl : oSl (bkV x) none (some 3) L R = R (.tup [.str x.w, .int x.i, .tup (x.s.map vc)]) L := propext Iff.rfl
end
theorem aUnits_ok {p : Pth} {k rr : Nat} (bp : BPath p k rr) {i : Nat} {m t b : Vc} {lf : Bool} {st : Nat} (hq : p.2[i]? = some (.arc m t lf)) (hb : (ends p)[i]? = some b) (s0 : 0 < st) (s3 : st < 4) : UOk (6 * k + 7) (aUnits b m t lf st) ∧ 2 ≤ (aUnits b m t lf st).length := by
  have ok := bp.ok.get hq hb
  obtain ⟨z1, z2, zr⟩ := bp.ry _ _ _ _ _ hq hb
  have u1 := uv_un ok.2.1
  have u2 := uv_un ok.2.2.1
  have hne : uv (vsub b m) ≠ uv (vsub t m) := fun z => by
    apply ok.1
    have l0 := (len_spec ok.2.1).1
    have e := ok.2.2.2
    unfold uv at z
    rw [e] at z
    have h1 : (vsub b m).1 / len (vsub b m) = (vsub t m).1 / len (vsub b m) := congrArg Prod.fst z
    have h2 : (vsub b m).2 / len (vsub b m) = (vsub t m).2 / len (vsub b m) := congrArg Prod.snd z
    have h1' : b.1 - m.1 = t.1 - m.1 := by
      show (vsub b m).1 = (vsub t m).1
      grind
    have h2' : b.2 - m.2 = t.2 - m.2 := by
      show (vsub b m).2 = (vsub t m).2
      grind
    exact Prod.ext (by grind) (by grind)
  have two : ∀ {u v : Vc}, Un u → Un v → u ≠ v → 2 ≤ (uni u v st).length := by
    intro u v hu hv hn
    obtain ⟨t', e⟩ := uni_head (n := st) hu hv s0
    have hl := uni_end (n := st) hu hv s0
    rw [e] at hl ⊢
    match t', hl with
    | [], hl => exact absurd (Option.some.inj hl) hn
    | _ :: _, _ => simp
  unfold aUnits
  have k3 : 3 * k + 3 * k + 7 ≤ 6 * k + 7 := by omega
  split
  · exact ⟨(uni_ok u1 u2 z1 z2 s0 s3).mono k3, two u1 u2 hne⟩
  · exact ⟨(uni_ok u2 u1 z2 z1 s0 s3).mono k3, two u2 u1 hne.symm⟩
theorem inner_sz {K : Nat} {us : List Vc} {r far : Rat} (h : UOk K us) (sr : Sz 60 r) (sf : Sz 14 far) (hK : K ≤ 367) : Sz 1700 (innerV r us far) := by
  unfold innerV
  split
  · exact sz0 (by decide)
  · have s1 := sr.sub sf
    have s2 := (sz1 (Nat.le_refl 1)).add (lsD_sz h.sz)
    have two : Sz 2 ((2 : Int) : Rat) := Sz.int (by decide) (by decide)
    exact ((s1.mul s2).div two (by rw [show ((2 : Int) : Rat) = 2 from rfl]; decide)).mono (by omega)
theorem secP_len {i : Nat} {m u v : Vc} {inn out : Rat} : (secP i m u v inn out).length = 2 := by
  unfold secP
  split <;> rfl
theorem secs_len {i : Nat} {m : Vc} {inn out : Rat} : ∀ zs : List (Vc × Vc), (zs.flatMap fun z => secP i m z.1 z.2 inn out).length = 2 * zs.length
  | [] => rfl
  | z :: zs => by
    rw [List.flatMap_cons, List.length_append, secP_len, secs_len zs, List.length_cons]
    omega
theorem ixl_last {L : Sto} {R : PK} {p : Addr} {xs : List PV} {x : PV} (e : L p = some (.l (xs ++ [x]))) : oIx (.ref p) (.int (-1)) L R = R x L := by
  unfold oIx
  simp only [e, atI_last]
theorem ixN0 {n : Nat} : ixN (n + 1) 0 = some 0 := by
  unfold ixN
  rw [if_pos (by decide), if_pos (by omega)]; rfl
theorem ixNl {n : Nat} : ixN (n + 1) (-1) = some n := by
  unfold ixN
  rw [if_neg (by decide), if_pos (by omega)]
  congr 1
  omega
theorem set_last {α : Type} {xs : List α} {x y : α} : (xs ++ [x]).set xs.length y = xs ++ [y] := by simp
theorem ok_sectors : ∀ args L R, args.length = 4 → s_sectors args L R → d_sectors_0 (initE 12 args) L { nx := fun _ L' => R .non L', rt := R } := by
  rintro _ L R _ ⟨p, i, st, k, rr, m, t, lf, b, far, rfl, bp, hq, hb, sf, s0, s3, h⟩
  obtain ⟨uo, u2⟩ := aUnits_ok bp hq hb s0 s3
  have sq := bp.sz.2 _ (List.mem_of_getElem? hq)
  have ok := bp.ok.get hq hb
  obtain ⟨z1, z2, zr⟩ := bp.ry _ _ _ _ _ hq hb
  have zr : Sz 60 (len (vsub t m)) := zr.mono bp.rb
  have K367 : 6 * k + 7 ≤ 367 := by have := bp.kb; omega
  have si := inner_sz uo zr sf K367
  have so : Sz 80 (len (vsub t m) + far) := (zr.add sf).mono (by decide)
  unfold arcB at h
  unfold d_sectors_0
  show sSeq _ _ [some (pth p), some (.int i), some (fr far), some (.int st), none, none, none, none, none, none, none, none] L _
  walk_at "ev105"
  refine ⟨p, i, st, k, rr, m, t, lf, b, rfl, bp, hq, hb, s0, s3, fun q L1 hq1 l1 e1 => ?_⟩
  unfold d_sectors_1
  walk_at "ev105"
  refine ⟨p, i, _, rfl, hq, SzV.mono sq.1 (by decide), SzV.mono sq.2 (by decide), ok.2.2.1, ?_⟩
  generalize len (vsub t m) = r at *
  generalize aUnits b m t lf st = us at *
  unfold d_sectors_2
  walk_at "ev105"
  refine ⟨r, far, q, us, _, rfl, e1, uo, u2, by omega, zr, sf, fun L2 l2 => ?_⟩
  generalize innerV r us far = inn at *
  unfold d_sectors_3
  walk_at "ev105"
  refine ⟨r, far, rfl, zr.mono (by decide), sf.mono (by decide), ?_⟩
  generalize r + far = out at *
  unfold d_sectors_4
  walk_at "ev105"
  intro pf hpf
  have e2 := (Le.new (o := .l []) hpf) _ _ (l2 _ _ e1)
  have l2 := (l1.trans l2).trans (Le.new (o := .l []) hpf)
  have ef := put_same (L := L2) (a := pf) (o := .l ([] : List PV))
  have npf : L pf = none := by
    cases hz : L pf with
    | none => rfl
    | some o => have := l1.trans ‹Le L1 L2› _ _ hz; rw [hpf] at this; cases this
  have nqf : q ≠ pf := fun z => by rw [z] at e1; have := ‹Le L1 L2› _ _ e1; rw [hpf] at this; cases this
  generalize put L2 pf _ = L3 at *
  unfold d_sectors_5
  walk_at "ev105"
  rw [e_sll e2]
  intro p1 hp1
  rw [cut_1d, ← List.map_drop]
  have d1 := Le.new (o := .l ((us.drop 1).map vc)) hp1 _ _ e2
  have d2 := put_same (L := L3) (a := p1) (o := .l ((us.drop 1).map vc))
  have df := Le.new (o := .l ((us.drop 1).map vc)) hp1 _ _ ef
  have l4 := l2.trans (Le.new (o := .l ((us.drop 1).map vc)) hp1)
  have n1f : p1 ≠ pf := fun z => by rw [z, ef] at hp1; cases hp1
  generalize put L3 p1 _ = L4 at *
  rw [e_zpK d1 d2]
  have hzl : (us.zip (us.drop 1)).length ≤ 32 := by rw [List.length_zip]; have := uo.ln; omega
  refine loop_i (fun j en l => Le L l ∧ l q = some (.l (us.map vc)) ∧ l p1 = some (.l ((us.drop 1).map vc)) ∧ l pf = some (.l ((((us.zip (us.drop 1)).take j).flatMap fun z => secP i m z.1 z.2 inn out).map bkV)) ∧ ∃ z9 z10, en = [some (pth p), some (.int i), some (fr far), some (.int st), some (.ref q), some (fr r), some (fr inn), some (fr out), some (.ref pf), z9, z10, none]) ⟨l4, d1, d2, df, _, _, rfl⟩ (fun _ _ _ q => ⟨q.2.1, q.2.2.1⟩) ?_ ?_
  · rintro j tt en l N hx ⟨hl, eq, e1', ef', z9, z10, rfl⟩ hN
    obtain ⟨x, y, hx1, hy1, rfl⟩ := zip_get hx
    have hz : (us.zip (us.drop 1))[j]? = some (x, y) := by rw [List.zip, List.getElem?_zipWith, hx1, hy1]
    have hs : (us.zip (us.drop 1)).take (j + 1) = (us.zip (us.drop 1)).take j ++ [(x, y)] := by rw [List.take_add_one, hz]; rfl
    have sx := uo.sz x (List.mem_of_getElem? hx1)
    have sy := uo.sz y (List.mem_of_mem_drop (List.mem_of_getElem? hy1))
    have hlen := secs_len (i := i) (m := m) (inn := inn) (out := out) ((us.zip (us.drop 1)).take j)
    have hj : ((us.zip (us.drop 1)).take j).length ≤ 32 := by rw [List.length_take]; omega
    walk_at "ev105"
    refine ⟨rfl, ?_⟩
    unfold d_sectors_5f_0
    walk_at "ev105"
    refine ⟨ty_list ef', ?_⟩
    rw [ixpc hq]
    walk_at "ev105"
    refine ⟨i, m, x, y, inn, out, 6 * k + 7, rfl, sq.1, sx.2, sy.2, by omega, K367, uo.tp _ (List.mem_of_getElem? hz), si, so, fun p6 L6 hp6 l6 e6 => ?_⟩
    refine ⟨_, _, l6 _ _ ef', e6, ?_, ?_⟩
    · rw [List.length_map, List.length_map, hlen, secP_len]
      show _ ≤ 16777216
      omega
    refine hN _ _ ⟨(hl.trans l6).put npf, by rw [put_ne nqf]; exact l6 _ _ eq, by rw [put_ne n1f]; exact l6 _ _ e1', ?_, _, _, rfl⟩
    rw [put_same, hs, List.flatMap_append, List.map_append, List.flatMap_cons, List.flatMap_nil, List.append_nil]
  · rintro en l ⟨hl, eq, e1', ef', z9, z10, rfl⟩
    have hz : (zipL (us.map vc) ((us.drop 1).map vc)).length = (us.zip (us.drop 1)).length := by
      rw [zip_len, List.length_map, List.length_map, List.length_zip]
    rw [hz, List.take_length] at ef'
    unfold secs at h
    have hn : (secs0 i m us inn out).length = 2 * (us.zip (us.drop 1)).length := secs_len _
    have hz2 : 1 ≤ (us.zip (us.drop 1)).length := by rw [List.length_zip, List.length_drop]; omega
    have hmk : ∀ x ∈ secs0 i m us inn out, x.m.length ≤ 4 := fun x hx => by
      unfold secs0 at hx
      obtain ⟨z, _, hx⟩ := List.mem_flatMap.mp hx
      unfold secP at hx
      split at hx <;> simp only [List.mem_cons, List.not_mem_nil, or_false] at hx <;> rcases hx with rfl | rfl <;> simp
    change l pf = some (.l ((secs0 i m us inn out).map bkV)) at ef'
    generalize secs0 i m us inn out = bs at *
    -- the last step
    have fin : ∀ (bs' : List Blk) l', bs'.length ≤ 64 → (∀ x ∈ bs', x.m.length ≤ 5) → l' pf = some (.l (bs'.map bkV)) → Le L l' → (Fresh L R ((if lf = true then bs' else bs'.map exB).map bkV)) → d_sectors_7 [some (pth p), some (.int i), some (fr far), some (.int st), some (.ref q), some (fr r), some (fr inn), some (fr out), some (.ref pf), z9, z10, none] l' { nx := fun _ L' => R .non L', rt := R } := by
      intro bs' l' hb64 hm5 e' hl' hF
      unfold d_sectors_7
      walk_at "ev105"
      rw [ixpc hq]
      walk_at "ev105"
      cases lf with
      | true =>
        rw [if_pos rfl] at hF
        walk_at "ev105"
        unfold d_sectors_8
        walk_at "ev105"
        exact hF pf l' npf hl' e'
      | false =>
        rw [if_neg Bool.false_ne_true] at hF
        walk_at "ev105"
        unfold d_sectors_7a_0
        walk_at "ev105"
        rw [e_lsK e']
        refine comp_map (xs := bs') (f := bkV) (g := fun x => bkV (exB x)) (fun l2 h2 => h2 _ _ e') (by omega) ?_ ?_
        · intro x hx l2 R' h2 hR'
          walk_at "ev105"
          rw [bk_sl, bk3]
          refine ⟨x.m, rfl, by have := hm5 x hx; omega, fun l3 h3 => ?_⟩
          walk_at "ev105"
          exact ⟨by show 4 ≤ 16777216; decide, hR' _ (h2.trans h3)⟩
        · intro l5 h5 p5 hp5
          walk_at "ev105"
          unfold d_sectors_8
          walk_at "ev105"
          refine hF p5 _ ((hl'.trans h5).free hp5) ((hl'.trans h5).trans (Le.new hp5)) ?_
          rw [put_same, List.map_map]
          rfl
    unfold d_sectors_6
    walk_at "ev105"
    rw [fr_zero]
    walk_at "ev105"
    by_cases hi : inn = 0
    · rw [if_pos hi] at h ⊢
      exact fin bs l (by rw [hn]; omega) (fun x hx => by have := hmk x hx; omega) ef' hl h
    · rw [if_neg hi] at h ⊢
      obtain ⟨x, y, mid, rfl⟩ : ∃ x y mid, bs = x :: (mid ++ [y]) := by
        match bs, hn with
        | [], hn => exact absurd hn (by simp only [List.length_nil]; omega)
        | x :: t, hn =>
          rw [List.length_cons] at hn
          have ht : t ≠ [] := fun z => by rw [z] at hn; simp at hn; omega
          exact ⟨x, t.getLast ht, t.dropLast, by rw [List.dropLast_concat_getLast]⟩
      rw [fixS_eq] at h
      have hx4 := hmk x List.mem_cons_self
      have hy4 := hmk y (List.mem_cons_of_mem _ (List.mem_append_right _ List.mem_cons_self))
      unfold d_sectors_6a_0
      walk_at "ev105"
      have ef0 : l pf = some (.l (bkV x :: (mid.map bkV ++ [bkV y]))) := by rw [ef', List.map_cons, List.map_append]; rfl
      rw [ixl0 ef0]
      rw [bk_sl, ixl0 ef0, bk3]
      refine ⟨by rw [mkS_len]; show _ ≤ 16777216; omega, ?_⟩
      rw [mkS_cut, cut_1d, sg_l]
      refine ⟨by rw [mkS_len, mkS_len, List.length_drop]; show 1 + _ ≤ 16777216; omega, ?_⟩
      rw [mkS_cat]
      refine ⟨by show 4 ≤ 16777216; decide, ?_⟩
      walk_at "ev105"
      rw [e_gSt (k := 0) (j := 0) ef0 (by rw [List.length_cons]; exact ixN0)]
      have e5 : put l pf (.l ((bkV x :: (mid.map bkV ++ [bkV y])).set 0 (.tup ([.str x.w, .int x.i, .tup (x.s.map vc)] ++ [.str (mkS ([.l] ++ x.m.drop 1))])))) pf = some (.l ((bkV (headF x) :: mid.map bkV) ++ [bkV y])) := by
        rw [put_same]; rfl
      have l5 := hl.put (o := .l ((bkV x :: (mid.map bkV ++ [bkV y])).set 0 (.tup ([.str x.w, .int x.i, .tup (x.s.map vc)] ++ [.str (mkS ([.l] ++ x.m.drop 1))])))) npf
      generalize put l pf _ = L5 at *
      unfold d_sectors_6a_1
      walk_at "ev105"
      rw [ixl_last e5, bk_sl, ixl_last e5, bk3]
      refine ⟨by rw [mkS_len]; show _ ≤ 16777216; omega, ?_⟩
      rw [mkS_cut, show cutP y.m none (some 2) = y.m.take 2 from cut_to (m := 2) y.m, sg_l]
      refine ⟨by rw [mkS_len, mkS_len, List.length_take]; show _ + 1 ≤ 16777216; omega, ?_⟩
      rw [mkS_cat]
      walk_at "ev105"
      rw [ixl_last e5, bk3]
      refine ⟨by rw [mkS_len]; show _ ≤ 16777216; omega, ?_⟩
      rw [mkS_cut, show cutP y.m (some 3) none = y.m.drop 3 from cut_d (k := 3)]
      refine ⟨by rw [mkS_len, mkS_len, List.length_append, List.length_take, List.length_drop]; show _ + 1 + _ ≤ 16777216; omega, ?_⟩
      rw [mkS_cat]
      refine ⟨by show 4 ≤ 16777216; decide, ?_⟩
      walk_at "ev105"
      rw [e_gSt (k := -1) (j := (bkV (headF x) :: mid.map bkV).length) e5 (by rw [List.length_append]; exact ixNl), set_last]
      refine fin (headF x :: (mid ++ [lastF y])) _ ?_ ?_ ?_ (l5.put npf) h
      · rw [List.length_cons, List.length_append, List.length_cons, List.length_nil]
        rw [List.length_cons, List.length_append, List.length_cons, List.length_nil] at hn
        omega
      · intro z hz
        rcases List.mem_cons.mp hz with rfl | hz
        · show (x.m.drop 1).length + 1 ≤ 5
          rw [List.length_drop]; omega
        · rcases List.mem_append.mp hz with hz | hz
          · have := hmk z (List.mem_cons_of_mem _ (List.mem_append_left _ hz))
            omega
          · rw [List.mem_singleton.mp hz]
            show (y.m.take 2 ++ (.l :: y.m.drop 3)).length ≤ 5
            rw [List.length_append, List.length_take, List.length_cons, List.length_drop]
            omega
      · rw [put_same, List.map_cons, List.map_append]
        show some (SO.l _) = some (SO.l _)
        congr 2
        rw [List.cons_append]
        congr 1
        congr 1
        unfold bkV lastF
        simp
end
section
open PySem PySem.Spec PyProof.Rows L2
def begN (p : Pth) (i : Nat) : Vc := ((ends p)[i]?).getD (0, 0)
noncomputable def ownB (p : Pth) (i : Nat) (far : Rat) (st : Nat) : List Blk := match p.2[i]? with
  | some (.side t) => [stripB i (begN p i) t far]
  | some (.arc m t lf) => arcB i (begN p i) m t lf far st
  | none => []
noncomputable def capS (p : Pth) (far : Rat) (st : Nat) : Blk := fanB "cap" 0 p.1 (uni (vlft (hdN p 0).1) (vrgt (hdN p 0).1) st) far .e
noncomputable def capE (p : Pth) (far : Rat) (st : Nat) : Blk := fanB "cap" (p.2.length - 1) (begN p p.2.length) (uni (vrgt (hdN p (p.2.length - 1)).2) (vlft (hdN p (p.2.length - 1)).2) st) far .e
noncomputable def blkAt (p : Pth) (far : Rat) (st : Nat) (i : Nat) : List Blk :=
  ownB p i far st ++ (if (i + 1) % p.2.length ∈ crns p then cFans p ((i + 1) % p.2.length) (begN p ((i + 1) % p.2.length)) far st else [])
noncomputable def blkM (p : Pth) (far : Rat) (st : Nat) : List Blk :=
  (if closed p then [] else [capS p far st]) ++ (List.range p.2.length).flatMap (blkAt p far st) ++ (if closed p then [] else [capE p far st])
def s_own_blocks : Spec := fun args L R => ∃ (p : Pth) (i st k rr : Nat) (far : Rat), args = [pth p, .int i, fr far, .int st] ∧ BPath p k rr ∧ i < p.2.length ∧ Sz 14 far ∧ 0 < st ∧ st < 4 ∧ Fresh L R ((ownB p i far st).map bkV)
def s_start_cap : Spec := fun args L R => ∃ (p : Pth) (st k rr : Nat) (far : Rat), args = [pth p, fr far, .int st] ∧ BPath p k rr ∧ Sz 14 far ∧ 0 < st ∧ st < 4 ∧ ∀ L', Le L L' → R (bkV (capS p far st)) L'
def s_end_cap : Spec := fun args L R => ∃ (p : Pth) (st k rr : Nat) (far : Rat), args = [pth p, fr far, .int st] ∧ BPath p k rr ∧ Sz 14 far ∧ 0 < st ∧ st < 4 ∧ ∀ L', Le L L' → R (bkV (capE p far st)) L'
def s_blocks : Spec := fun args L R => ∃ (p : Pth) (st k rr : Nat) (far : Rat), args = [pth p, fr far, .int st] ∧ BPath p k rr ∧ Sz 14 far ∧ 0 < st ∧ st < 4 ∧ Fresh L R ((blkM p far st).map bkV)
def d_own_blocks_1 : WS := sRet (wCall s_sectors [wVar 0, wVar 1, wVar 2, wVar 3])
def d_own_blocks_0a_0 : WS := sRet (wLst [wCall s_stripB [wVar 0, wVar 1, wVar 2]])
def d_own_blocks_0 : WS := sSeq (sIf (wBin oEq (wBin oIx (wBin oIx (wBin oIx (wVar 0) (wC (.int 1))) (wVar 1)) (wC (.int 0))) (wC (.str "side"))) d_own_blocks_0a_0 sNil) d_own_blocks_1
def d_start_cap_2 : WS := sRet (wCall s_fan [wC (.str "cap"), wC (.int 0), wBin oIx (wVar 0) (wC (.int 0)), wVar 4, wVar 1, wC (.str "e")])
def d_start_cap_1 : WS := sSeq (sAsg (gN 4) (wCall s_units_between [wCall s_left_of [wVar 3], wCall s_right_of [wVar 3], wVar 2])) d_start_cap_2
def d_start_cap_0 : WS := sSeq (sAsg (gN 3) (wBin oIx (wCall s_headings [wVar 0, wC (.int 0)]) (wC (.int 0)))) d_start_cap_1
def d_end_cap_3 : WS := sRet (wCall s_fan [wC (.str "cap"), wVar 3, wBin oIx (wCall s_ends_of [wVar 0]) (wC (.int (-1))), wVar 5, wVar 1, wC (.str "e")])
def d_end_cap_2 : WS := sSeq (sAsg (gN 5) (wCall s_units_between [wCall s_right_of [wVar 4], wCall s_left_of [wVar 4], wVar 2])) d_end_cap_3
def d_end_cap_1 : WS := sSeq (sAsg (gN 4) (wBin oIx (wCall s_headings [wVar 0, wVar 3]) (wC (.int 1)))) d_end_cap_2
def d_end_cap_0 : WS := sSeq (sAsg (gN 3) (wBin oSub (wBi gLen [wBin oIx (wVar 0) (wC (.int 1))]) (wC (.int 1)))) d_end_cap_1
def d_blocks_5 : WS := sRet (wVar 5)
def d_blocks_4a_0 : WS := sExpr (wMt "list" mAppend (wVar 5) [wCall s_end_cap [wVar 0, wVar 1, wVar 2]])
def d_blocks_4 : WS := sSeq (sIf (wUn oNot (wCall s_is_closed [wVar 0])) d_blocks_4a_0 sNil) d_blocks_5
def d_blocks_3f_2a_0 : WS := sExpr (wMt "list" mExtend (wVar 5) [wCall s_corner_fans [wVar 0, wVar 7, wBin oIx (wVar 4) (wVar 7), wVar 1, wVar 2]])
def d_blocks_3f_2 : WS := sIf (wBin oIn (wVar 7) (wVar 4)) d_blocks_3f_2a_0 sNil
def d_blocks_3f_1 : WS := sSeq (sAsg (gN 7) (wBin oMod (wBin oAdd (wVar 6) (wC (.int 1))) (wVar 3))) d_blocks_3f_2
def d_blocks_3f_0 : WS := sSeq (sExpr (wMt "list" mExtend (wVar 5) [wCall s_own_blocks [wVar 0, wVar 6, wVar 1, wVar 2]])) d_blocks_3f_1
def d_blocks_3 : WS := sSeq (sFor (iR1 (wVar 3)) (gN 6) d_blocks_3f_0) d_blocks_4
def d_blocks_2 : WS := sSeq (sAsg (gN 5) (wIfE (wCall s_is_closed [wVar 0]) (wLst []) (wLst [wCall s_start_cap [wVar 0, wVar 1, wVar 2]]))) d_blocks_3
def d_blocks_1 : WS := sSeq (sAsg (gN 4) (wBi gDict [wCall s_corners [wVar 0]])) d_blocks_2
def d_blocks_0 : WS := sSeq (sAsg (gN 3) (wBi gLen [wBin oIx (wVar 0) (wC (.int 1))])) d_blocks_1
theorem begN_eq {p : Pth} {i : Nat} {b : Vc} (h : (ends p)[i]? = some b) : begN p i = b := by unfold begN; rw [h]; rfl
theorem ok_own_blocks : ∀ args L R, args.length = 4 → s_own_blocks args L R → d_own_blocks_0 (initE 4 args) L { nx := fun _ L' => R .non L', rt := R } := by
  rintro _ L R _ ⟨p, i, st, k, rr, far, rfl, bp, hi, sf, s0, s3, h⟩
  obtain ⟨q, b, hq, hb, _⟩ := hdn_sz bp hi
  unfold d_own_blocks_0 d_own_blocks_0a_0
  show sSeq _ _ [some (pth p), some (.int i), some (fr far), some (.int st)] L _
  unfold ownB at h
  rw [hq, begN_eq hb] at h
  walk_at "ev105"
  rw [ixpc hq]
  cases q with
  | side t =>
    walk_at "ev105"
    refine ⟨p, i, k, rr, b, t, far, rfl, bp, hq, hb, sf, fun L1 l1 => ?_⟩
    walk_at "ev105"
    intro p2 hp2
    exact h p2 _ (l1.free hp2) (l1.trans (Le.new hp2)) put_same
  | arc m t lf =>
    walk_at "ev105"
    unfold d_own_blocks_1
    walk_at "ev105"
    exact ⟨p, i, st, k, rr, m, t, lf, b, far, rfl, bp, hq, hb, sf, s0, s3, h⟩
theorem cap_ok {u v : Vc} {k st : Nat} (hu : Un u) (hv : Un v) (su : SzV k u) (sv : SzV k v) (hk : k ≤ 60) (s0 : 0 < st) (s3 : st < 4) : UOk 367 (uni u v st) := (uni_ok hu hv su sv s0 s3).mono (by omega)
theorem ok_start_cap : ∀ args L R, args.length = 3 → s_start_cap args L R → d_start_cap_0 (initE 5 args) L { nx := fun _ L' => R .non L', rt := R } := by
  rintro _ L R _ ⟨p, st, k, rr, far, rfl, bp, sf, s0, s3, h⟩
  have hpos : 0 < p.2.length := List.length_pos_iff.mpr bp.ok.ne
  obtain ⟨q, b, hq, hb, eh, ok, sb, sq, u1, _, z1, _⟩ := hdn_sz bp hpos
  have kb := bp.kb
  have z60 := z1.mono kb
  unfold d_start_cap_0
  show sSeq _ _ [some (pth p), some (fr far), some (.int st), none, none] L _
  walk_at "ev105"
  refine ⟨p, 0, q, b, rfl, hq, hb, ok, sb.mono (by decide), sq.mono (by decide), ?_⟩
  walk_at "ev105"
  rw [← eh]
  unfold capS at h
  generalize (hdN p 0).1 = u at *
  unfold d_start_cap_1
  walk_at "ev105"
  refine ⟨u, rfl, z60.mono (by decide), u, rfl, z60.mono (by decide), ?_⟩
  refine ⟨vlft u, vrgt u, st, 60, 60, rfl, u1.lft, un_rgt u1, z60.lft, sz_rgt z60, by decide, s0, s3, fun q1 L1 hq1 l1 e1 => ?_⟩
  unfold d_start_cap_2
  walk_at "ev105"
  exact ⟨"cap", 0, p.1, q1, _, far, .e, 367, by rw [← sg_e]; rfl, e1, cap_ok u1.lft (un_rgt u1) z60.lft (sz_rgt z60) (Nat.le_refl _) s0 s3, by decide, bp.sz.1, sf, fun L' h' => h L' (l1.trans h')⟩
theorem ok_end_cap : ∀ args L R, args.length = 3 → s_end_cap args L R → d_end_cap_0 (initE 6 args) L { nx := fun _ L' => R .non L', rt := R } := by
  rintro _ L R _ ⟨p, st, k, rr, far, rfl, bp, sf, s0, s3, h⟩
  have hpos : 0 < p.2.length := List.length_pos_iff.mpr bp.ok.ne
  obtain ⟨q, b, hq, hb, eh, ok, sb, sq, _, u1, _, z1⟩ := hdn_sz bp (show p.2.length - 1 < p.2.length by omega)
  have kb := bp.kb
  have z60 := z1.mono kb
  have he : (ends p)[p.2.length]? = some q.to := by
    have := ends_succ hq
    rw [show p.2.length - 1 + 1 = p.2.length by omega] at this
    exact this
  unfold d_end_cap_0
  show sSeq _ _ [some (pth p), some (fr far), some (.int st), none, none, none] L _
  walk_at "ev105"
  rw [show ((p.2.map pcV).length : Int) - 1 = ((p.2.length - 1 : Nat) : Int) by rw [List.length_map]; omega]
  unfold d_end_cap_1
  walk_at "ev105"
  refine ⟨p, p.2.length - 1, q, b, rfl, hq, hb, ok, sb.mono (by decide), sq.mono (by decide), ?_⟩
  walk_at "ev105"
  rw [← eh]
  unfold capE at h
  rw [begN_eq he] at h
  generalize (hdN p (p.2.length - 1)).2 = u at *
  unfold d_end_cap_2
  walk_at "ev105"
  refine ⟨u, rfl, z60.mono (by decide), u, rfl, z60.mono (by decide), ?_⟩
  refine ⟨vrgt u, vlft u, st, 60, 60, rfl, un_rgt u1, u1.lft, sz_rgt z60, z60.lft, by decide, s0, s3, fun q1 L1 hq1 l1 e1 => ?_⟩
  unfold d_end_cap_3
  walk_at "ev105"
  refine ⟨p, rfl, by have := bp.ok.ln; omega, fun c L2 hc l2 e2 => ?_⟩
  have hlast : (ends p).getLast? = some q.to := by
    rw [List.getLast?_eq_getElem?, ends_len, Nat.add_sub_cancel]
    exact he
  walk_at "ev105"
  rw [vlast e2 hlast]
  exact ⟨"cap", p.2.length - 1, q.to, q1, _, far, .e, 367, by rw [← sg_e], l2 _ _ e1, cap_ok (un_rgt u1) u1.lft (sz_rgt z60) z60.lft (Nat.le_refl _) s0 s3, by decide, sq.to, sf, fun L' h' => h L' ((l1.trans l2).trans h')⟩
def wrdK (p : Pth) (cw : Nat → Str) : List (Key × PV) := (crns p).map fun i : Nat => ((Sum.inl (i : Int), PV.str (cw i)) : Key × PV)
theorem wrd_nodup {p : Pth} {cw : Nat → Str} : ((wrdK p cw).map (·.1)).Nodup := by
  unfold wrdK
  rw [List.map_map]
  refine List.Pairwise.map _ (fun a b (h : a ≠ b) => ?_) (List.Pairwise.filter _ List.nodup_range)
  intro z
  have z : (Sum.inl (a : Int) : Key) = Sum.inl (b : Int) := z
  injection z with z
  exact h (by omega)
theorem find_wrd {cw : Nat → Str} {j : Nat} : ∀ {l : List Nat}, (j ∈ l → (l.map fun i : Nat => ((Sum.inl (i : Int), PV.str (cw i)) : Key × PV)).find? (fun kv => decide (kv.1 = .inl (j : Int))) = some (.inl (j : Int), .str (cw j))) ∧ (j ∉ l → (l.map fun i : Nat => ((Sum.inl (i : Int), PV.str (cw i)) : Key × PV)).find? (fun kv => decide (kv.1 = .inl (j : Int))) = none)
  | [] => ⟨fun h => absurd h List.not_mem_nil, fun _ => rfl⟩
  | i :: r => by
    have ih := find_wrd (cw := cw) (j := j) (l := r)
    by_cases e : i = j
    · subst e
      refine ⟨fun _ => ?_, fun h => absurd List.mem_cons_self h⟩
      rw [List.map_cons, List.find?_cons_of_pos (by exact decide_eq_true rfl)]
    · have ne : ¬ decide ((Sum.inl (i : Int) : Key) = .inl (j : Int)) = true := by
        rw [decide_eq_true_iff]
        intro z
        injection z with z
        exact e (by omega)
      refine ⟨fun h => ?_, fun h => ?_⟩
      · rw [List.map_cons, List.find?_cons_of_neg (by exact ne)]
        exact ih.1 ((List.mem_cons.mp h).resolve_left fun z => e z.symm)
      · rw [List.map_cons, List.find?_cons_of_neg (by exact ne)]
        exact ih.2 fun z => h (List.mem_cons_of_mem _ z)
theorem fixS_len : ∀ bs : List Blk, (fixS bs).length = bs.length
  | [] => rfl
  | x :: t => by
    by_cases ht : t = []
    · subst ht; rfl
    · have : t = t.dropLast ++ [t.getLast ht] := (List.dropLast_concat_getLast ht).symm
      rw [this, fixS_eq]
      simp
theorem secs_len2 {i : Nat} {m : Vc} {us : List Vc} {inn out : Rat} {lf : Bool} (h : us.length ≤ 32) : (secs i m us inn out lf).length ≤ 64 := by
  have h0 : (secs0 i m us inn out).length ≤ 64 := by
    unfold secs0
    rw [secs_len, List.length_zip, List.length_drop]
    omega
  unfold secs
  simp only
  split <;> split <;> (try rw [List.length_map]) <;> (try rw [fixS_len]) <;> exact h0
theorem ownB_len {p : Pth} {i st : Nat} {far : Rat} (s3 : st < 4) : (ownB p i far st).length ≤ 64 := by
  unfold ownB
  split
  · simp
  · unfold arcB
    refine secs_len2 ?_
    unfold aUnits
    split <;> exact uni_len s3
  · simp
theorem cFans_len {p : Pth} {i st : Nat} {b : Vc} {far : Rat} : (cFans p i b far st).length ≤ 1 := by
  unfold cFans
  split <;> simp
theorem blkAt_len {p : Pth} {i st : Nat} {far : Rat} (s3 : st < 4) : (blkAt p far st i).length ≤ 65 := by
  unfold blkAt
  rw [List.length_append]
  have h1 := ownB_len (p := p) (i := i) (far := far) s3
  split
  · have := cFans_len (p := p) (i := (i + 1) % p.2.length) (b := begN p ((i + 1) % p.2.length)) (far := far) (st := st)
    omega
  · simp only [List.length_nil]
    omega
theorem flat_len {p : Pth} {st : Nat} {far : Rat} (s3 : st < 4) : ∀ j : Nat, ((List.range j).flatMap (blkAt p far st)).length ≤ 65 * j
  | 0 => by simp
  | j + 1 => by
    rw [List.range_succ, List.flatMap_append, List.length_append, List.flatMap_cons, List.flatMap_nil, List.append_nil]
    have := flat_len (p := p) (far := far) s3 j
    have := blkAt_len (p := p) (i := j) (far := far) s3
    omega
theorem oIn_d {L : Sto} {R : PK} {p : Addr} {kvs : List (Key × PV)} {i : Int} (e : L p = some (.d kvs)) (h : R (.bl (kvs.find? (fun kv => decide (kv.1 = .inl i))).isSome) L) : oIn (.int i) (.ref p) L R := by
  unfold oIn oInG
  simp only [e]
  exact h
theorem ixdi {L : Sto} {R : PK} {p : Addr} {kvs : List (Key × PV)} {i : Int} {x : Key × PV} (e : L p = some (.d kvs)) (h : kvs.find? (fun kv => decide (kv.1 = .inl i)) = some x) (k : R x.2 L) : oIx (.ref p) (.int i) L R := by
  unfold oIx
  simp only [e, h]
  exact k
theorem crns_lt {p : Pth} {i : Nat} (h : i ∈ crns p) : i < p.2.length := List.mem_range.mp (List.mem_filter.mp h).1
theorem ok_blocks : ∀ args L R, args.length = 3 → s_blocks args L R → d_blocks_0 (initE 8 args) L { nx := fun _ L' => R .non L', rt := R } := by
  rintro _ L R _ ⟨p, st, k, rr, far, rfl, bp, sf, s0, s3, h⟩
  have hpos : 0 < p.2.length := List.length_pos_iff.mpr bp.ok.ne
  have hln := bp.ok.ln
  have hlast : ∃ t, (ends p).getLast? = some t := ⟨_, List.getLast?_eq_some_getLast (by unfold ends; exact List.cons_ne_nil _ _)⟩
  obtain ⟨t, ht⟩ := hlast
  have hc2 : (t = p.1) ↔ closed p := by
    unfold closed
    rw [ht]
    exact ⟨fun z => by rw [z], fun z => Option.some.inj z⟩
  have hcl : decide (t = p.1) = decide (closed p) := decide_eq_decide.mpr hc2
  unfold d_blocks_0
  show sSeq _ _ [some (pth p), some (fr far), some (.int st), none, none, none, none, none] L _
  walk_at "ev105"
  rw [List.length_map]
  unfold d_blocks_1
  walk_at "ev105"
  refine ⟨p, rfl, bp.ok, bp.sz.mono (by decide), fun c L1 hc l1 e1 => ?_⟩
  have ew : (crns p).map (crV p) = (wrdK p (cwN p)).map fun kv => .tup [kP kv.1, kv.2] := by
    unfold wrdK
    rw [List.map_map]
    rfl
  rw [ew] at e1
  refine ⟨_, e1, wrd_nodup, fun pw hpw => ?_⟩
  have e2 := put_same (L := L1) (a := pw) (o := .d (wrdK p (cwN p)))
  have l2 := l1.trans (Le.new (o := .d (wrdK p (cwN p))) hpw)
  generalize put L1 pw _ = L2 at *
  unfold d_blocks_2
  walk_at "ev105"
  refine ⟨p, rfl, bp.ok.ne, fun t' ht' => ?_⟩
  rw [ht] at ht'
  cases ht'
  rw [hcl]
  unfold blkM at h
  have rest : ∀ (acc : List Blk) L3 pf, acc.length ≤ 1 → acc = (if closed p then [] else [capS p far st]) → L pf = none → pw ≠ pf → Le L L3 → L3 pw = some (.d (wrdK p (cwN p))) → L3 pf = some (.l (acc.map bkV)) →
      d_blocks_3 [some (pth p), some (fr far), some (.int st), some (.int (p.2.length : Nat)), some (.ref pw), some (.ref pf), none, none] L3 { nx := fun _ L' => R .non L', rt := R } := by
    intro acc L3 pf ha eacc npf nwf l3 e3 ef
    rw [← eacc] at h
    clear e2 l2
    unfold d_blocks_3
    walk_at "ev105"
    refine ⟨⟨by omega, by omega⟩, ?_⟩
    rw [Int.toNat_natCast]
    have hrl : (rgL 0 p.2.length).length = p.2.length := by unfold rgL; rw [List.length_map, List.length_range]
    refine loop_i (fun j en l => Le L l ∧ l pw = some (.d (wrdK p (cwN p))) ∧ l pf = some (.l ((acc ++ (List.range j).flatMap (blkAt p far st)).map bkV)) ∧ ∃ z6 z7, en = [some (pth p), some (fr far), some (.int st), some (.int (p.2.length : Nat)), some (.ref pw), some (.ref pf), z6, z7]) ⟨l3, e3, by rw [ef]; simp, _, _, rfl⟩ (fun _ _ _ _ => trivial) ?_ ?_
    · rintro j tt en l N hx ⟨hl, ew', ef', z6, z7, rfl⟩ hN
      obtain ⟨rfl, hj⟩ := rgL_get hx
      have hfl := flat_len (p := p) (far := far) s3 j
      have hol := ownB_len (p := p) (i := j) (far := far) s3
      walk_at "ev105"
      unfold d_blocks_3f_0
      walk_at "ev105"
      refine ⟨ty_list ef', p, j, st, k, rr, far, by rw [Int.zero_add], bp, hj, sf, s0, s3, fun p6 L6 hp6 l6 e6 => ?_⟩
      refine ⟨_, _, l6 _ _ ef', e6, by rw [List.length_map, List.length_map, List.length_append]; show _ ≤ 16777216; omega, ?_⟩
      rw [← List.map_append]
      have l7 := (hl.trans l6).put (o := .l ((acc ++ (List.range j).flatMap (blkAt p far st) ++ ownB p j far st).map bkV)) npf
      have e7 := put_same (L := L6) (a := pf) (o := .l ((acc ++ (List.range j).flatMap (blkAt p far st) ++ ownB p j far st).map bkV))
      have w7 : put L6 pf (.l ((acc ++ (List.range j).flatMap (blkAt p far st) ++ ownB p j far st).map bkV)) pw = some (.d (wrdK p (cwN p))) := by rw [put_ne nwf]; exact l6 _ _ ew'
      generalize put L6 pf _ = L7 at *
      unfold d_blocks_3f_1
      walk_at "ev105"
      refine ⟨by omega, ?_⟩
      have hm : (0 + (j : Int) + 1).fmod (p.2.length : Nat) = (((j + 1) % p.2.length : Nat) : Int) := by
        rw [Int.fmod_eq_emod_of_nonneg _ (by omega), Int.zero_add]
        rfl
      rw [hm]
      have hlt : (j + 1) % p.2.length < p.2.length := Nat.mod_lt _ hpos
      have fin : ∀ (fs : List Blk) L8, fs = (if (j + 1) % p.2.length ∈ crns p then cFans p ((j + 1) % p.2.length) (begN p ((j + 1) % p.2.length)) far st else []) → Le L L8 → L8 pw = some (.d (wrdK p (cwN p))) → L8 pf = some (.l ((acc ++ (List.range j).flatMap (blkAt p far st) ++ ownB p j far st ++ fs).map bkV)) →
          N [some (pth p), some (fr far), some (.int st), some (.int (p.2.length : Nat)), some (.ref pw), some (.ref pf), some (.int (0 + (j : Int))), some (.int ((j + 1) % p.2.length : Nat))] L8 := by
        intro fs L8 hf hl8 hw8 hf8
        refine hN _ _ ⟨hl8, hw8, ?_, _, _, rfl⟩
        rw [hf8, hf, List.range_succ, List.flatMap_append, List.flatMap_cons, List.flatMap_nil, List.append_nil]
        show _ = some (SO.l (List.map bkV (acc ++ (_ ++ (ownB p j far st ++ _)))))
        simp only [List.append_assoc]
      have fw := find_wrd (cw := cwN p) (j := (j + 1) % p.2.length) (l := crns p)
      generalize (j + 1) % p.2.length = i at *
      unfold d_blocks_3f_2 d_blocks_3f_2a_0
      walk_at "ev105"
      refine oIn_d w7 ?_
      by_cases hin : i ∈ crns p
      · have fw := fw.1 hin
        rw [if_pos hin] at fin
        obtain ⟨_, b, _, hb, _⟩ := hdn_sz bp (crns_lt hin)
        rw [begN_eq hb] at fin
        rw [show (wrdK p (cwN p)).find? (fun kv => decide (kv.1 = .inl (i : Int))) = some (.inl (i : Int), .str (cwN p i)) from fw]
        walk_at "ev105"
        refine ⟨ty_list e7, ixdi w7 fw ?_⟩
        refine ⟨p, i, st, k, rr, b, far, rfl, bp, crns_lt hin, hb, sf, s0, s3, fun p8 L8 hp8 l8 e8 => ?_⟩
        have hcf := cFans_len (p := p) (i := i) (b := b) (far := far) (st := st)
        refine ⟨_, _, l8 _ _ e7, e8, by rw [List.length_map, List.length_map, List.length_append, List.length_append]; show _ ≤ 16777216; omega, ?_⟩
        rw [← List.map_append]
        exact fin _ _ rfl ((l7.trans l8).put npf) (by rw [put_ne nwf]; exact l8 _ _ w7) put_same
      · have fw := fw.2 hin
        rw [if_neg hin] at fin
        rw [show (wrdK p (cwN p)).find? (fun kv => decide (kv.1 = .inl (i : Int))) = none from fw]
        walk_at "ev105"
        exact fin _ _ rfl l7 w7 (by rw [List.append_nil]; exact e7)
    · rintro en l ⟨hl, ew', ef', z6, z7, rfl⟩
      rw [hrl] at ef'
      unfold d_blocks_4 d_blocks_4a_0
      walk_at "ev105"
      refine ⟨p, rfl, bp.ok.ne, fun t' ht' => ?_⟩
      rw [ht] at ht'
      cases ht'
      rw [hcl]
      have hfl := flat_len (p := p) (far := far) s3 p.2.length
      by_cases hcp : closed p
      · rw [if_pos hcp] at h
        rw [decide_eq_true hcp]
        walk_at "ev105"
        unfold d_blocks_5
        walk_at "ev105"
        rw [List.append_nil] at h
        exact h pf l npf hl ef'
      · rw [if_neg hcp] at h
        rw [decide_eq_false hcp]
        walk_at "ev105"
        refine ⟨ty_list ef', p, st, k, rr, far, rfl, bp, sf, s0, s3, fun L8 l8 => ?_⟩
        refine e_app (l8 _ _ ef') ⟨by rw [List.length_map, List.length_append]; show _ < 16777216; omega, ?_⟩
        unfold d_blocks_5
        walk_at "ev105"
        refine h pf _ npf ((hl.trans l8).put npf) ?_
        rw [put_same, List.map_append (l₂ := [capE p far st])]
        rfl
  by_cases hcp : closed p
  · rw [decide_eq_true hcp]
    walk_at "ev105"
    intro pf hpf
    exact rest [] _ pf (by simp) (by rw [if_pos hcp]) (l2.free hpf) (fun z => by rw [z, hpf] at e2; cases e2) (l2.trans (Le.new hpf)) (Le.new hpf _ _ e2) put_same
  · rw [decide_eq_false hcp]
    walk_at "ev105"
    refine ⟨p, st, k, rr, far, rfl, bp, sf, s0, s3, fun L3 l3 => ?_⟩
    walk_at "ev105"
    intro pf hpf
    exact rest [capS p far st] _ pf (by simp) (by rw [if_neg hcp]) ((l2.trans l3).free hpf) (fun z => by have := l3 _ _ e2; rw [z, hpf] at this; cases this) ((l2.trans l3).trans (Le.new hpf)) (Le.new hpf _ _ (l3 _ _ e2)) put_same
end
section
open PySem PySem.Spec PyProof.Rows L2
def crX (a b c : Vc) : Rat := vcrs (vsub b a) (vsub c b)
def chOk : List Vc → Prop
  | a :: b :: c :: r => (a ≠ b ∧ 0 ≤ crX a b c) ∧ chOk (b :: c :: r)
  | _ => True
noncomputable def chN : List Vc → Nat
  | a :: b :: c :: r => (if 0 < crX a b c then 1 else 0) + chN (b :: c :: r)
  | _ => 0
def cyc (S : List Vc) : List Vc := S.drop (S.length - 2) ++ S
def Rnd (S : List Vc) : Prop := 3 ≤ S.length ∧ chOk (cyc S) ∧ 3 ≤ chN (cyc S)
theorem pmul {x y : Rat} (h : 0 < x) (k : 0 < y) : 0 < x * y := Rat.mul_pos h k
/-- a turn by its two edges -/
theorem turn_pos {a b c e f : Vc} (h1 : vsub b a = e) (h2 : vsub c b = f) (h : 0 < vcrs e f) : (a ≠ b ∧ 0 ≤ crX a b c) ∧ (if 0 < crX a b c then 1 else 0) = 1 := by
  have hx : crX a b c = vcrs e f := by unfold crX; rw [h1, h2]
  refine ⟨⟨fun z => ?_, by rw [hx]; exact Rat.le_of_lt h⟩, by rw [hx, if_pos h]⟩
  have e0 : e = (0, 0) := by
    rw [← h1, z]
    exact Prod.ext (by show b.1 - b.1 = 0; grind) (by show b.2 - b.2 = 0; grind)
  rw [e0] at h
  have : vcrs ((0 : Rat), (0 : Rat)) f = 0 := by show (0 : Rat) * f.2 - 0 * f.1 = 0; grind
  rw [this] at h
  exact absurd h (by decide)
theorem rnd4 {a b c d : Vc} (h1 : 0 < crX c d a) (h2 : 0 < crX d a b) (h3 : 0 < crX a b c) (h4 : 0 < crX b c d) : Rnd [a, b, c, d] := by
  have t : ∀ {x y z : Vc}, 0 < crX x y z → (x ≠ y ∧ 0 ≤ crX x y z) ∧ (if 0 < crX x y z then 1 else 0) = 1 := fun {x y z} h => turn_pos rfl rfl h
  refine ⟨by simp, ⟨(t h1).1, (t h2).1, (t h3).1, (t h4).1, trivial⟩, ?_⟩
  show 3 ≤ chN [c, d, a, b, c, d]
  simp only [chN, if_pos h1, if_pos h2, if_pos h3, if_pos h4]
  decide
theorem rnd3 {a b c : Vc} (h1 : 0 < crX b c a) (h2 : 0 < crX c a b) (h3 : 0 < crX a b c) : Rnd [a, b, c] := by
  have t : ∀ {x y z : Vc}, 0 < crX x y z → (x ≠ y ∧ 0 ≤ crX x y z) ∧ (if 0 < crX x y z then 1 else 0) = 1 := fun {x y z} h => turn_pos rfl rfl h
  refine ⟨by simp, ⟨(t h1).1, (t h2).1, (t h3).1, trivial⟩, ?_⟩
  show 3 ≤ chN [b, c, a, b, c]
  simp only [chN, if_pos h1, if_pos h2, if_pos h3]
  decide
theorem strip_rnd {i : Nat} {b t : Vc} {far : Rat} (hl : HasLen (vsub t b)) (hf : 0 < far) : Rnd (stripB i b t far).s := by
  obtain ⟨l1, l2⟩ := len_spec hl
  have hu := uv_un hl
  have e1 : t.1 = b.1 + len (vsub t b) * (uv (vsub t b)).1 := by
    show t.1 = b.1 + len (vsub t b) * ((t.1 - b.1) / len (vsub t b))
    generalize len (vsub t b) = l at *
    grind
  have e2 : t.2 = b.2 + len (vsub t b) * (uv (vsub t b)).2 := by
    show t.2 = b.2 + len (vsub t b) * ((t.2 - b.2) / len (vsub t b))
    generalize len (vsub t b) = l at *
    grind
  show Rnd [vsub b (vscl (vlft (uv (vsub t b))) far), vsub t (vscl (vlft (uv (vsub t b))) far), vadd t (vscl (vlft (uv (vsub t b))) far), vadd b (vscl (vlft (uv (vsub t b))) far)]
  generalize uv (vsub t b) = w at *
  generalize len (vsub t b) = l at *
  have hw : w.1 * w.1 + w.2 * w.2 = 1 := hu
  have pos := pmul (pmul (show (0 : Rat) < 2 by decide) l1) hf
  refine rnd4 ?_ ?_ ?_ ?_ <;>
  · unfold crX vcrs vsub vadd vscl vlft
    simp only
    rw [e1, e2]
    have : 2 * l * far = 2 * l * far * (w.1 * w.1 + w.2 * w.2) := by rw [hw]; grind
    rw [this] at pos
    grind
structure TipI (u v : Vc) (a : Rat) : Prop where
  pos : 0 < a
  t1 : tipV u v = vadd u (vscl (vlft u) a)
  t2 : tipV u v = vsub v (vscl (vlft v) a)
theorem tip_is {u v : Vc} (hu : Un u) (h : Nxt u v) : ∃ a, TipI u v a := by
  obtain ⟨hv, hc, hd⟩ := h
  have h0 : (0 : Rat) < 1 + vdot u v := by grind
  have hne : 1 + vdot u v ≠ 0 := by grind
  refine ⟨vcrs u v / (1 + vdot u v), ⟨div_pos hc h0, ?_, ?_⟩⟩
  · have hu : u.1 * u.1 + u.2 * u.2 = 1 := hu
    unfold tipV vadd vscl vlft
    refine Prod.ext ?_ ?_
    · show (u.1 + v.1) / (1 + vdot u v) = u.1 + (0 - u.2) * (vcrs u v / (1 + vdot u v))
      have : u.1 + v.1 = u.1 * (1 + vdot u v) + (0 - u.2) * vcrs u v := by unfold vdot vcrs; grind
      rw [this]
      generalize vcrs u v = c at *
      generalize 1 + vdot u v = d at *
      grind
    · show (u.2 + v.2) / (1 + vdot u v) = u.2 + u.1 * (vcrs u v / (1 + vdot u v))
      have : u.2 + v.2 = u.2 * (1 + vdot u v) + u.1 * vcrs u v := by unfold vdot vcrs; grind
      rw [this]
      generalize vcrs u v = c at *
      generalize 1 + vdot u v = d at *
      grind
  · have hv : v.1 * v.1 + v.2 * v.2 = 1 := hv
    unfold tipV vsub vscl vlft
    refine Prod.ext ?_ ?_
    · show (u.1 + v.1) / (1 + vdot u v) = v.1 - (0 - v.2) * (vcrs u v / (1 + vdot u v))
      have : u.1 + v.1 = v.1 * (1 + vdot u v) - (0 - v.2) * vcrs u v := by unfold vdot vcrs; grind
      rw [this]
      generalize vcrs u v = c at *
      generalize 1 + vdot u v = d at *
      grind
    · show (u.2 + v.2) / (1 + vdot u v) = v.2 - v.1 * (vcrs u v / (1 + vdot u v))
      have : u.2 + v.2 = v.2 * (1 + vdot u v) - v.1 * vcrs u v := by unfold vdot vcrs; grind
      rw [this]
      generalize vcrs u v = c at *
      generalize 1 + vdot u v = d at *
      grind
theorem sec_rnd {i : Nat} {m u v : Vc} {inn out : Rat} (hu : Un u) (h : Nxt u v) (h0 : 0 ≤ inn) (h1 : inn < out) : ∀ x ∈ secP i m u v inn out, Rnd x.s := by
  obtain ⟨a, ha, t1, t2⟩ := tip_is hu h
  have hv : v.1 * v.1 + v.2 * v.2 = 1 := h.1
  have hu : u.1 * u.1 + u.2 * u.2 = 1 := hu
  have po : 0 < out := by grind
  intro x hx
  unfold secP at hx
  split at hx
  · simp only [List.mem_cons, List.not_mem_nil, or_false] at hx
    have p1 := pmul (pmul po po) ha
    rcases hx with rfl | rfl
    · show Rnd [m, spt m out u, spt m out (tipV u v)]
      rw [t1]
      refine rnd3 ?_ ?_ ?_ <;>
      · unfold crX vcrs vsub spt vadd vscl vlft
        simp only
        have : out * out * a = out * out * a * (u.1 * u.1 + u.2 * u.2) := by rw [hu]; grind
        rw [this] at p1
        grind
    · show Rnd [m, spt m out (tipV u v), spt m out v]
      rw [t2]
      refine rnd3 ?_ ?_ ?_ <;>
      · unfold crX vcrs vsub spt vadd vscl vlft
        simp only
        have : out * out * a = out * out * a * (v.1 * v.1 + v.2 * v.2) := by rw [hv]; grind
        rw [this] at p1
        grind
  · rename_i hi
    have pi : 0 < inn := by grind
    have pd : 0 < out - inn := by grind
    have q1 := pmul (pmul pd pi) ha
    have q2 := pmul (pmul pd po) ha
    simp only [List.mem_cons, List.not_mem_nil, or_false] at hx
    rcases hx with rfl | rfl
    · show Rnd [spt m inn u, spt m out u, spt m out (tipV u v), spt m inn (tipV u v)]
      rw [t1]
      have e1 : (out - inn) * inn * a = (out - inn) * inn * a * (u.1 * u.1 + u.2 * u.2) := by rw [hu]; grind
      have e2 : (out - inn) * out * a = (out - inn) * out * a * (u.1 * u.1 + u.2 * u.2) := by rw [hu]; grind
      rw [e1] at q1
      rw [e2] at q2
      refine rnd4 ?_ ?_ ?_ ?_ <;>
      · unfold crX vcrs vsub spt vadd vscl vlft
        simp only
        grind
    · show Rnd [spt m inn (tipV u v), spt m out (tipV u v), spt m out v, spt m inn v]
      rw [t2]
      have e1 : (out - inn) * inn * a = (out - inn) * inn * a * (v.1 * v.1 + v.2 * v.2) := by rw [hv]; grind
      have e2 : (out - inn) * out * a = (out - inn) * out * a * (v.1 * v.1 + v.2 * v.2) := by rw [hv]; grind
      rw [e1] at q1
      rw [e2] at q2
      refine rnd4 ?_ ?_ ?_ ?_ <;>
      · unfold crX vcrs vsub spt vadd vscl vlft
        simp only
        grind
end
section
open PySem PySem.Spec PyProof.Rows L2
def tailQ (p : Vc) (f : Rat) : Vc → List Vc → List Vc
  | u, [] => [spt p f u]
  | u, v :: r => spt p f (tipV u v) :: tailQ p f v r
theorem fan_tail {p : Vc} {f : Rat} : ∀ (r : List Vc) (u : Vc), (tips (u :: r)).map (spt p f) ++ [spt p f ((u :: r).getLastD (0, 0))] = tailQ p f u r
  | [], u => rfl
  | v :: r, u => by
    have ih := fan_tail (p := p) (f := f) r v
    show spt p f (tipV u v) :: ((tips (v :: r)).map (spt p f) ++ [spt p f ((u :: v :: r).getLastD (0, 0))]) = _
    rw [show (u :: v :: r).getLastD (0, 0) = (v :: r).getLastD (0, 0) from rfl, ih]
    rfl
theorem fanS_eq {p u : Vc} {r : List Vc} {f : Rat} : fanS p (u :: r) f = p :: spt p f u :: tailQ p f u r := by
  unfold fanS
  rw [← fan_tail]
  rfl
theorem crs_lfs {u v : Vc} {b c : Rat} : vcrs (vscl (vlft u) b) (vscl (vlft v) c) = b * c * vcrs u v := by
  unfold vcrs vscl vlft
  simp only
  grind
theorem chain_q {p : Vc} {f : Rat} (hf : 0 < f) : ∀ {r : List Vc} {u x : Vc} {a : Rat}, Un u → Chn Nxt u r → 0 ≤ a → (r = [] → 0 < a) → x = spt p f (vsub u (vscl (vlft u) a)) →
    chOk (x :: tailQ p f u r) ∧ chN (x :: tailQ p f u r) = r.length ∧ (∃ b y r', 0 < b ∧ tailQ p f u r = y :: r' ∧ vsub y x = vscl (vlft u) b) ∧
    ∃ w init y b, (u :: r).getLast? = some w ∧ x :: tailQ p f u r = init ++ [y, spt p f w] ∧ 0 < b ∧ vsub (spt p f w) y = vscl (vlft w) b
  | [], u, x, a, hu, _, ha, h0, hx => by
    have pa := pmul hf (h0 rfl)
    have e : vsub (spt p f u) x = vscl (vlft u) (f * a) := by
      rw [hx]
      unfold spt vsub vadd vscl vlft
      exact Prod.ext (by simp only; grind) (by simp only; grind)
    exact ⟨trivial, rfl, ⟨f * a, _, [], pa, rfl, e⟩, u, [], x, f * a, rfl, rfl, pa, e⟩
  | v :: r, u, x, a, hu, hc, ha, h0, hx => by
    obtain ⟨hN, hc'⟩ := hc
    obtain ⟨a', pa', t1, t2⟩ := tip_is hu hN
    have hv : Un v := hN.1
    obtain ⟨i1, i2, ⟨b, y, r', pb, et, ey⟩, w, init, z, b2, hw, hl, pb2, hb2⟩ := chain_q (p := p) (f := f) hf (r := r) (u := v) (x := spt p f (tipV u v)) (a := a') hv hc' (Rat.le_of_lt pa') (fun _ => pa') (by rw [t2])
    have pB : 0 < f * (a + a') := pmul hf (by grind)
    have e : vsub (spt p f (tipV u v)) x = vscl (vlft u) (f * (a + a')) := by
      rw [hx, t1]
      unfold spt vsub vadd vscl vlft
      exact Prod.ext (by simp only; grind) (by simp only; grind)
    have tp := turn_pos e ey (by rw [crs_lfs]; exact pmul (pmul pB pb) hN.2.1)
    have sh : x :: tailQ p f u (v :: r) = x :: spt p f (tipV u v) :: y :: r' := by
      show x :: spt p f (tipV u v) :: tailQ p f v r = _
      rw [et]
    refine ⟨?_, ?_, ⟨_, _, _, pB, rfl, e⟩, w, x :: init, z, b2, ?_, ?_, pb2, hb2⟩
    · rw [sh]
      rw [et] at i1
      exact ⟨tp.1, i1⟩
    · rw [sh]
      rw [et] at i2
      show (if 0 < crX x (spt p f (tipV u v)) y then 1 else 0) + chN (spt p f (tipV u v) :: y :: r') = r.length + 1
      rw [tp.2, i2]
      omega
    · rw [List.getLast?_cons_cons]
      exact hw
    · show x :: (spt p f (tipV u v) :: tailQ p f v r) = _
      rw [hl]
      rfl
theorem fan_rnd {p u w : Vc} {r : List Vc} {f : Rat} (hf : 0 < f) (hu : Un u) (hc : Chn Nxt u r) (hr : r ≠ []) (hw : (u :: r).getLast? = some w) (uw : Un w) (h0 : 0 ≤ vcrs u w) : Rnd (fanS p (u :: r) f) := by
  have hx : spt p f u = spt p f (vsub u (vscl (vlft u) 0)) := by
    congr 1
    unfold vsub vscl vlft
    exact Prod.ext (by simp only; grind) (by simp only; grind)
  obtain ⟨i1, i2, ⟨b, y, r', pb, et, ey⟩, w', init, z, b2, hw', hl, pb2, hb2⟩ := chain_q (p := p) hf hu hc Rat.le_refl (fun h => absurd h hr) hx
  rw [hw] at hw'
  cases hw'
  have uu : u.1 * u.1 + u.2 * u.2 = 1 := hu
  have ww : w.1 * w.1 + w.2 * w.2 = 1 := uw
  have hS : fanS p (u :: r) f = p :: (init ++ [z, spt p f w]) := by rw [fanS_eq, hl]
  have hlen : (fanS p (u :: r) f).length = init.length + 3 := by rw [hS]; simp
  have hcyc : cyc (fanS p (u :: r) f) = z :: spt p f w :: p :: spt p f u :: tailQ p f u r := by
    unfold cyc
    rw [hlen, hS]
    have : (p :: (init ++ [z, spt p f w])).drop (init.length + 3 - 2) = [z, spt p f w] := by
      rw [show init.length + 3 - 2 = init.length + 1 from rfl, List.drop_succ_cons, List.drop_left]
    rw [this, ← hl]
    rfl
  have t1 := turn_pos (a := z) (b := spt p f w) (c := p) (e := vscl (vlft w) b2) (f := vscl w (-f)) hb2 (by
    unfold vsub spt vadd vscl
    exact Prod.ext (by simp only; grind) (by simp only; grind)) (by
    have := pmul pb2 hf
    unfold vcrs vscl vlft
    simp only
    have e : b2 * f = b2 * f * (w.1 * w.1 + w.2 * w.2) := by rw [ww]; grind
    rw [e] at this
    grind)
  have t3 := turn_pos (a := p) (b := spt p f u) (c := y) (e := vscl u f) (f := vscl (vlft u) b) (by
    unfold vsub spt vadd vscl
    exact Prod.ext (by simp only; grind) (by simp only; grind)) ey (by
    have := pmul hf pb
    unfold vcrs vscl vlft
    simp only
    have e : f * b = f * b * (u.1 * u.1 + u.2 * u.2) := by rw [uu]; grind
    rw [e] at this
    grind)
  have t2a : spt p f w ≠ p := fun z => by
    have z1 : p.1 + w.1 * f = p.1 := congrArg Prod.fst z
    have z2 : p.2 + w.2 * f = p.2 := congrArg Prod.snd z
    have w1 : w.1 = 0 := by
      rcases Rat.mul_eq_zero.mp (show w.1 * f = 0 by grind) with q | q
      · exact q
      · rw [q] at hf; exact absurd hf (by decide)
    have w2 : w.2 = 0 := by
      rcases Rat.mul_eq_zero.mp (show w.2 * f = 0 by grind) with q | q
      · exact q
      · rw [q] at hf; exact absurd hf (by decide)
    rw [w1, w2] at ww
    exact absurd ww (by grind)
  have t2b : 0 ≤ crX (spt p f w) p (spt p f u) := by
    have e : crX (spt p f w) p (spt p f u) = f * f * vcrs u w := by
      unfold crX vcrs vsub spt vadd vscl
      simp only
      grind
    rw [e]
    exact Rat.mul_nonneg (Rat.mul_nonneg (Rat.le_of_lt hf) (Rat.le_of_lt hf)) h0
  refine ⟨by rw [hlen]; omega, ?_, ?_⟩
  · rw [hcyc]
    refine ⟨t1.1, ⟨t2a, t2b⟩, ?_⟩
    rw [et] at i1 ⊢
    exact ⟨t3.1, i1⟩
  · rw [hcyc]
    rw [et] at i2 ⊢
    show 3 ≤ (if 0 < crX z (spt p f w) p then 1 else 0) + ((if 0 < crX (spt p f w) p (spt p f u) then 1 else 0) + ((if 0 < crX p (spt p f u) y then 1 else 0) + chN (spt p f u :: y :: r')))
    rw [t1.2, t3.2, i2]
    have : 1 ≤ r.length := List.length_pos_iff.mpr hr
    omega
end
section
open PySem PySem.Spec PyProof.Rows L2
structure BlGood (n : Nat) (x : Blk) : Prop where
  i : x.i < n
  rnd : Rnd x.s
  mks : x.m.length = x.s.length
  ln : x.s.length ≤ 40
  sz : ∀ s ∈ x.s, SzV 970 s
theorem chn_zip {u : Vc} {t : List Vc} (h : Chn Nxt u t) : ∀ z ∈ (u :: t).zip ((u :: t).drop 1), Nxt z.1 z.2 ∧ z.1 ∈ u :: t ∧ z.2 ∈ u :: t := by
  intro z hz
  obtain ⟨i, hi⟩ := List.getElem?_of_mem hz
  rw [List.zip, List.getElem?_zipWith] at hi
  cases q1 : (u :: t)[i]? with
  | none => rw [q1] at hi; cases hi
  | some x =>
    cases q2 : ((u :: t).drop 1)[i]? with
    | none => rw [q1, q2] at hi; cases hi
    | some y =>
      rw [q1, q2] at hi
      cases hi
      refine ⟨h.get q1 (by rw [List.drop_one, List.tail_cons] at q2; exact q2), List.mem_of_getElem? q1, List.mem_of_mem_drop (List.mem_of_getElem? q2)⟩
theorem dot_le1 {u v : Vc} (hu : Un u) (hv : Un v) (h : 0 ≤ vdot u v) : vdot u v ≤ 1 := by
  have hu : u.1 * u.1 + u.2 * u.2 = 1 := hu
  have hv : v.1 * v.1 + v.2 * v.2 = 1 := hv
  have e : vdot u v * vdot u v + vcrs u v * vcrs u v = 1 := by
    have : vdot u v * vdot u v + vcrs u v * vcrs u v = (u.1 * u.1 + u.2 * u.2) * (v.1 * v.1 + v.2 * v.2) := by unfold vdot vcrs; grind
    rw [this, hu, hv]; grind
  have h2 : 0 ≤ vcrs u v * vcrs u v := sq_nn _
  by_cases hc : vdot u v ≤ 1
  · exact hc
  · exfalso
    have h3 : 1 < vdot u v := by grind
    have h4 : 0 < (vdot u v - 1) * (vdot u v + 1) := Rat.mul_pos (by grind) (by grind)
    grind
theorem lsD_rng {u : Vc} {t : List Vc} (hu : Un u) (h : Chn Nxt u t) (ht : t ≠ []) : 0 ≤ lsD (u :: t) ∧ lsD (u :: t) ≤ 1 := by
  obtain ⟨v, r, rfl⟩ := List.exists_cons_of_ne_nil ht
  have hz := chn_zip h
  have un : ∀ x ∈ u :: v :: r, Un x := fun x hx => by
    rcases List.mem_cons.mp hx with rfl | hx
    · exact hu
    · exact chn_unB h x hx
  have rng : ∀ z ∈ (u :: v :: r).zip ((u :: v :: r).drop 1), 0 ≤ vdot z.1 z.2 ∧ vdot z.1 z.2 ≤ 1 := fun z hm => by
    obtain ⟨n, m1, m2⟩ := hz z hm
    exact ⟨n.2.2, dot_le1 (un _ m1) (un _ m2) n.2.2⟩
  have key : ∀ (zs : List (Vc × Vc)), (∀ z ∈ zs, 0 ≤ vdot z.1 z.2 ∧ vdot z.1 z.2 ≤ 1) → ∀ f : Rat, 0 ≤ f ∧ f ≤ 1 → 0 ≤ zs.foldl (fun f p => if vdot p.1 p.2 < f then vdot p.1 p.2 else f) f ∧ zs.foldl (fun f p => if vdot p.1 p.2 < f then vdot p.1 p.2 else f) f ≤ 1 := by
    intro zs
    induction zs with
    | nil => intro _ f hf; exact hf
    | cons z zs ih =>
      intro hz f hf
      rw [List.foldl_cons]
      refine ih (fun w hw => hz w (List.mem_cons_of_mem _ hw)) _ ?_
      split
      · exact hz z List.mem_cons_self
      · exact hf
  have h0 := rng (u, v) (by show (u, v) ∈ (u, v) :: _; exact List.mem_cons_self)
  refine key _ (fun z hm => rng z ?_) _ h0
  show z ∈ (u, v) :: (v :: r).zip r
  exact List.mem_cons_of_mem _ hm
theorem inner_rng {u : Vc} {t : List Vc} {r far : Rat} (hu : Un u) (h : Chn Nxt u t) (ht : t ≠ []) (hr : 0 < r) (hf : 0 < far) : 0 ≤ innerV r (u :: t) far ∧ innerV r (u :: t) far < r + far := by
  obtain ⟨l0, l1⟩ := lsD_rng hu h ht
  unfold innerV
  split
  · exact ⟨Rat.le_refl, by grind⟩
  · rename_i hc
    have hp : 0 < r - far := by grind
    generalize lsD (u :: t) = l at *
    have e : (r - far) * (1 + l) / 2 = (r - far) * ((1 + l) / 2) := by grind
    have q0 : 0 ≤ (1 + l) / 2 := by grind
    have q1 : (1 + l) / 2 ≤ 1 := by grind
    rw [e]
    generalize (1 + l) / 2 = y at *
    have h1 := Rat.mul_nonneg (Rat.le_of_lt hp) q0
    have h2 : 0 ≤ (r - far) * (1 - y) := Rat.mul_nonneg (Rat.le_of_lt hp) (by grind)
    exact ⟨h1, by grind⟩
theorem fanB_ok {n i : Nat} {w : Str} {p u v : Vc} {a b st : Nat} {far : Rat} {m : Mk} (hi : i < n) (hu : Un u) (hv : Un v) (su : SzV 14 u) (sv : SzV 14 v) (sp : SzV 14 p) (sf : Sz 14 far) (hf : 0 < far) (s0 : 0 < st) (s3 : st < 4) (hne : u ≠ v) (hc : 0 ≤ vcrs u v) :
    BlGood n (fanB w i p (uni u v st) far m) := by
  obtain ⟨t, e, h⟩ := uni_chn hu hv s0
  have hl := uni_end (n := st) hu hv s0
  have uo := uni_ok hu hv su sv s0 s3
  rw [e] at hl uo
  have ht : t ≠ [] := fun z => by
    rw [z] at hl
    exact hne (Option.some.inj hl)
  rw [e]
  have rn := fan_rnd (p := p) hf hu h ht hl hv hc
  have hlen : (fanS p (u :: t) far).length ≤ 40 := by
    unfold fanS tips
    rw [List.length_cons, List.length_cons, List.length_append, List.length_map, List.length_map, List.length_zip]
    have := uo.ln
    simp only [List.length_cons, List.length_nil]
    rw [List.length_cons] at this
    omega
  refine ⟨hi, rn, ?_, hlen, ?_⟩
  · show (.n :: (List.replicate ((fanS p (u :: t) far).length - 2) m ++ [.n])).length = (fanS p (u :: t) far).length
    rw [List.length_cons, List.length_append, List.length_replicate]
    have := rn.1
    simp only [List.length_cons, List.length_nil]
    omega
  · intro s hs
    have sp0 : ∀ {x : Vc}, SzV 570 x → SzV 970 (spt p far x) := fun hx => (sp.add (hx.scl sf)).mono (by decide)
    show SzV 970 s
    change s ∈ p :: spt p far ((u :: t).headD (0, 0)) :: ((tips (u :: t)).map (spt p far) ++ [spt p far ((u :: t).getLastD (0, 0))]) at hs
    rcases List.mem_cons.mp hs with rfl | hs
    · exact sp.mono (by decide)
    · rcases List.mem_cons.mp hs with rfl | hs
      · exact sp0 (su.mono (by decide))
      · rcases List.mem_append.mp hs with hs | hs
        · obtain ⟨x, hx, rfl⟩ := List.mem_map.mp hs
          unfold tips at hx
          obtain ⟨z, hz, rfl⟩ := List.mem_map.mp hx
          obtain ⟨m1, m2⟩ := List.of_mem_zip hz
          exact sp0 ((tip_sz (uo.sz _ m1).2 (uo.sz _ (List.mem_of_mem_drop m2)).2 (by decide)).mono (by decide))
        · rw [List.mem_singleton.mp hs]
          rw [show (u :: t).getLastD (0, 0) = v from by rw [List.getLastD_eq_getLast?, hl]; rfl]
          exact sp0 (sv.mono (by decide))
end
section
open PySem PySem.Spec PyProof.Rows L2
theorem mvPs_at : ∀ {ms : List Mv} {b : Vc} {i : Nat} {q : Pc} {x : Vc}, (mvPs b ms)[i]? = some q → (b :: (mvPs b ms).map Pc.to)[i]? = some x → ∃ m, ms[i]? = some m ∧ q = mvP x m
  | [], _, _, _, _, h, _ => by cases h
  | m :: r, b, 0, q, x, h, e => by
    cases e
    cases h
    exact ⟨m, rfl, rfl⟩
  | m :: r, b, i + 1, q, x, h, e => by
    obtain ⟨m', h1, h2⟩ := mvPs_at (ms := r) (b := (mvP b m).to) (i := i) (q := q) (x := x) h e
    exact ⟨m', h1, h2⟩
theorem uv_of {u : Vc} {k : Rat} (hu : Un u) (hk : 0 < k) : uv (vscl u k) = u ∧ len (vscl u k) = k := by
  have hu : u.1 * u.1 + u.2 * u.2 = 1 := hu
  obtain ⟨_, e⟩ := len_of (v := vscl u k) hk (by
    show k * k = u.1 * k * (u.1 * k) + u.2 * k * (u.2 * k)
    have : u.1 * k * (u.1 * k) + u.2 * k * (u.2 * k) = (u.1 * u.1 + u.2 * u.2) * (k * k) := by grind
    rw [this, hu]; grind)
  refine ⟨?_, e⟩
  unfold uv
  rw [e]
  exact Prod.ext (by show u.1 * k / k = u.1; grind) (by show u.2 * k / k = u.2; grind)
theorem mv_side {b u : Vc} {t : Int} (h : MvOk (.side u t)) : vsub (vadd b (vscl u (t : Rat))) b = vscl u (t : Rat) ∧ uv (vsub (vadd b (vscl u (t : Rat))) b) = u := by
  have e : vsub (vadd b (vscl u (t : Rat))) b = vscl u (t : Rat) := by
    unfold vsub vadd vscl
    exact Prod.ext (by simp only; grind) (by simp only; grind)
  rw [e]
  exact ⟨rfl, (uv_of h.1.1 (ratPos h.2.1)).1⟩
theorem mv_arc {b u o : Vc} {r : Int} {lf : Bool} (h : MvOk (.arc u o r lf)) : uv (vsub b (vsub b (vscl u (r : Rat)))) = u ∧ uv (vsub (vadd (vsub b (vscl u (r : Rat))) (vscl o (r : Rat))) (vsub b (vscl u (r : Rat)))) = o ∧ len (vsub (vadd (vsub b (vscl u (r : Rat))) (vscl o (r : Rat))) (vsub b (vscl u (r : Rat)))) = (r : Rat) := by
  have e1 : vsub b (vsub b (vscl u (r : Rat))) = vscl u (r : Rat) := by
    unfold vsub vscl
    exact Prod.ext (by simp only; grind) (by simp only; grind)
  have e2 : vsub (vadd (vsub b (vscl u (r : Rat))) (vscl o (r : Rat))) (vsub b (vscl u (r : Rat))) = vscl o (r : Rat) := by
    unfold vsub vadd vscl
    exact Prod.ext (by simp only; grind) (by simp only; grind)
  rw [e1, e2]
  have r0 := ratPos h.2.2.2.1
  exact ⟨(uv_of h.1.1 r0).1, (uv_of h.2.1.1 r0).1, (uv_of h.2.1.1 r0).2⟩
theorem bpath {s : Vc} {ms : List Mv} (h : ∀ m ∈ ms, MvOk m) (hs : P65 4 s) (hn : ms ≠ []) (hl : ms.length ≤ 12) : BPath (s, mvPs s ms) 14 14 := by
  obtain ⟨ok, sz⟩ := mvs_path h hs hn hl
  refine ⟨ok, sz, fun i q b hq hb => ?_, fun i m t lf b hq hb => ?_, by decide, by decide⟩
  · obtain ⟨mv, hm, rfl⟩ := mvPs_at hq hb
    have hmv := h mv (List.mem_of_getElem? hm)
    cases mv with
    | side u t =>
      have e := (mv_side (b := b) hmv).2
      show SzV 14 (uv (vsub (vadd b (vscl u (t : Rat))) b)) ∧ SzV 14 (uv (vsub (vadd b (vscl u (t : Rat))) b))
      rw [e]
      exact ⟨hmv.1.sz, hmv.1.sz⟩
    | arc u o r lf =>
      obtain ⟨e1, e2, _⟩ := mv_arc (b := b) hmv
      show SzV 14 (hAt _ lf b) ∧ SzV 14 (hAt _ lf _)
      unfold hAt
      rw [e1, e2]
      split
      · exact ⟨hmv.1.sz.lft, hmv.2.1.sz.lft⟩
      · exact ⟨hmv.1.sz.lft.neg, hmv.2.1.sz.lft.neg⟩
  · obtain ⟨mv, hm, e⟩ := mvPs_at hq hb
    have hmv := h mv (List.mem_of_getElem? hm)
    cases mv with
    | side u t => cases e
    | arc u o r lf' =>
      cases e
      obtain ⟨e1, e2, e3⟩ := mv_arc (b := b) hmv
      rw [e1, e2, e3]
      exact ⟨hmv.1.sz, hmv.2.1.sz, Sz.mono (a := 4) (Sz.int (by have := hmv.2.2.2; show r.natAbs < 16; omega) (by decide)) (by decide)⟩
def isOwn (w : Str) : Prop := w = "strip" ∨ w = "sector"
theorem secP_mem {i : Nat} {m u v : Vc} {inn out : Rat} {x : Blk} (h : x ∈ secP i m u v inn out) : x.i = i ∧ x.w = "sector" ∧ x.m.length = x.s.length ∧ 3 ≤ x.s.length ∧ x.s.length ≤ 4 ∧ ∀ s ∈ x.s, s = m ∨ ∃ k w, (k = inn ∨ k = out) ∧ (w = u ∨ w = v ∨ w = tipV u v) ∧ s = spt m k w := by
  unfold secP at h
  split at h
  · simp only [List.mem_cons, List.not_mem_nil, or_false] at h
    rcases h with rfl | rfl
    · refine ⟨rfl, rfl, rfl, by simp, by simp, fun s hs => ?_⟩
      simp only [List.mem_cons, List.not_mem_nil, or_false] at hs
      rcases hs with rfl | rfl | rfl
      · exact .inl rfl
      · exact .inr ⟨out, u, .inr rfl, .inl rfl, rfl⟩
      · exact .inr ⟨out, _, .inr rfl, .inr (.inr rfl), rfl⟩
    · refine ⟨rfl, rfl, rfl, by simp, by simp, fun s hs => ?_⟩
      simp only [List.mem_cons, List.not_mem_nil, or_false] at hs
      rcases hs with rfl | rfl | rfl
      · exact .inl rfl
      · exact .inr ⟨out, _, .inr rfl, .inr (.inr rfl), rfl⟩
      · exact .inr ⟨out, v, .inr rfl, .inr (.inl rfl), rfl⟩
  · simp only [List.mem_cons, List.not_mem_nil, or_false] at h
    rcases h with rfl | rfl
    · refine ⟨rfl, rfl, rfl, by simp, by simp, fun s hs => ?_⟩
      simp only [List.mem_cons, List.not_mem_nil, or_false] at hs
      rcases hs with rfl | rfl | rfl | rfl
      · exact .inr ⟨inn, u, .inl rfl, .inl rfl, rfl⟩
      · exact .inr ⟨out, u, .inr rfl, .inl rfl, rfl⟩
      · exact .inr ⟨out, _, .inr rfl, .inr (.inr rfl), rfl⟩
      · exact .inr ⟨inn, _, .inl rfl, .inr (.inr rfl), rfl⟩
    · refine ⟨rfl, rfl, rfl, by simp, by simp, fun s hs => ?_⟩
      simp only [List.mem_cons, List.not_mem_nil, or_false] at hs
      rcases hs with rfl | rfl | rfl | rfl
      · exact .inr ⟨inn, _, .inl rfl, .inr (.inr rfl), rfl⟩
      · exact .inr ⟨out, _, .inr rfl, .inr (.inr rfl), rfl⟩
      · exact .inr ⟨out, v, .inr rfl, .inr (.inl rfl), rfl⟩
      · exact .inr ⟨inn, v, .inl rfl, .inr (.inl rfl), rfl⟩
/-- the same but for marks -/
def SameB (x y : Blk) : Prop := x.w = y.w ∧ x.i = y.i ∧ x.s = y.s ∧ x.m.length = y.m.length
theorem fixS_mem {bs : List Blk} (h : ∀ y ∈ bs, 3 ≤ y.m.length) {x : Blk} (hx : x ∈ fixS bs) : ∃ y ∈ bs, SameB x y := by
  cases bs with
  | nil => cases hx
  | cons a t =>
    have ha := h a List.mem_cons_self
    have sa : SameB (headF a) a := ⟨rfl, rfl, rfl, by show (a.m.drop 1).length + 1 = _; rw [List.length_drop]; omega⟩
    change x ∈ headF a :: (t.dropLast ++ (t.getLast?.map lastF).toList) at hx
    rcases List.mem_cons.mp hx with rfl | hx
    · exact ⟨a, List.mem_cons_self, sa⟩
    · rcases List.mem_append.mp hx with hx | hx
      · exact ⟨x, List.mem_cons_of_mem _ (List.dropLast_subset _ hx), rfl, rfl, rfl, rfl⟩
      · cases ht : t.getLast? with
        | none => rw [ht] at hx; cases hx
        | some y =>
          rw [ht] at hx
          have hx : x = lastF y := by simpa using hx
          have hy := List.mem_of_getLast? ht
          have h3 := h y (List.mem_cons_of_mem _ hy)
          refine ⟨y, List.mem_cons_of_mem _ hy, ?_⟩
          rw [hx]
          refine ⟨rfl, rfl, rfl, ?_⟩
          show (y.m.take 2 ++ (.l :: y.m.drop 3)).length = _
          rw [List.length_append, List.length_take, List.length_cons, List.length_drop]
          omega
theorem secs_mem {i : Nat} {m : Vc} {us : List Vc} {inn out : Rat} {lf : Bool} {x : Blk} (h : x ∈ secs i m us inn out lf) : ∃ z ∈ us.zip (us.drop 1), ∃ y ∈ secP i m z.1 z.2 inn out, SameB x y := by
  have h3 : ∀ y ∈ secs0 i m us inn out, 3 ≤ y.m.length := fun y hy => by
    unfold secs0 at hy
    obtain ⟨z, _, hy⟩ := List.mem_flatMap.mp hy
    have := secP_mem hy
    omega
  have base : ∀ y ∈ (if inn = 0 then secs0 i m us inn out else fixS (secs0 i m us inn out)), ∃ y' ∈ secs0 i m us inn out, SameB y y' := by
    intro y hy
    split at hy
    · exact ⟨y, hy, rfl, rfl, rfl, rfl⟩
    · exact fixS_mem h3 hy
  have fin : ∀ y ∈ (if inn = 0 then secs0 i m us inn out else fixS (secs0 i m us inn out)), ∃ z ∈ us.zip (us.drop 1), ∃ y' ∈ secP i m z.1 z.2 inn out, SameB y y' := by
    intro y hy
    obtain ⟨y', hy', s⟩ := base y hy
    unfold secs0 at hy'
    obtain ⟨z, hz, hy'⟩ := List.mem_flatMap.mp hy'
    exact ⟨z, hz, y', hy', s⟩
  unfold secs at h
  simp only at h
  split at h
  · exact fin x h
  · obtain ⟨y, hy, rfl⟩ := List.mem_map.mp h
    obtain ⟨z, hz, y', hy', s⟩ := fin y hy
    exact ⟨z, hz, y', hy', s.1, s.2.1, s.2.2.1, by show (y.m.map exM).length = _; rw [List.length_map]; exact s.2.2.2⟩
end
section
open PySem PySem.Spec PyProof.Rows L2
section
variable {s : Vc} {ms : List Mv} {far : Rat} {st : Nat}
theorem arc_blk {n i : Nat} {b u o : Vc} {r : Int} {lf : Bool} (hi : i < n) (h : MvOk (.arc u o r lf)) (sb : SzV 14 b) (sm : SzV 14 (vsub b (vscl u (r : Rat)))) (sf : Sz 14 far) (hf : 0 < far) (s0 : 0 < st) (s3 : st < 4) :
    ∀ x ∈ arcB i b (vsub b (vscl u (r : Rat))) (vadd (vsub b (vscl u (r : Rat))) (vscl o (r : Rat))) lf far st, BlGood n x ∧ x.i = i ∧ x.w = "sector" := by
  obtain ⟨e1, e2, e3⟩ := mv_arc (b := b) h
  intro x hx
  unfold arcB aUnits at hx
  rw [e1, e2, e3] at hx
  have r0 := ratPos h.2.2.2.1
  have sr : Sz 4 (r : Rat) := Sz.int (by have := h.2.2.2; show r.natAbs < 16; omega) (by decide)
  have key : ∀ (v w : Vc), Un v → Un w → SzV 14 v → SzV 14 w → v ≠ w → x ∈ secs i (vsub b (vscl u (r : Rat))) (uni v w st) (innerV (r : Rat) (uni v w st) far) ((r : Rat) + far) lf → BlGood n x ∧ x.i = i ∧ x.w = "sector" := by
    intro v w hv hw sv sw hne hx
    obtain ⟨t, e, hc⟩ := uni_chn hv hw s0
    have hl := uni_end (n := st) hv hw s0
    have uo := uni_ok hv hw sv sw s0 s3
    rw [e] at hx hl uo
    have ht : t ≠ [] := fun z => by rw [z] at hl; exact hne (Option.some.inj hl)
    obtain ⟨i0, i1⟩ := inner_rng hv hc ht r0 hf
    have si : Sz 400 (innerV (r : Rat) (v :: t) far) := by
      unfold innerV
      split
      · exact sz0 (by decide)
      · have q1 := sr.sub sf
        have q2 := (sz1 (Nat.le_refl 1)).add (lsD_sz uo.sz)
        have two : Sz 2 ((2 : Int) : Rat) := Sz.int (by decide) (by decide)
        exact ((q1.mul q2).div two (by rw [show ((2 : Int) : Rat) = 2 from rfl]; decide)).mono (by decide)
    have so : Sz 400 ((r : Rat) + far) := (sr.add sf).mono (by decide)
    obtain ⟨z, hz, y, hy, e4⟩ := secs_mem hx
    obtain ⟨hN, m1, m2⟩ := chn_zip hc z hz
    have rn := sec_rnd (uo.sz _ m1).1 hN i0 i1 y hy
    have hm := secP_mem hy
    refine ⟨⟨by rw [e4.2.1, hm.1]; exact hi, by rw [e4.2.2.1]; exact rn, by rw [e4.2.2.2, e4.2.2.1]; exact hm.2.2.1, by rw [e4.2.2.1]; omega, fun s hs => ?_⟩, by rw [e4.2.1]; exact hm.1, by rw [e4.1]; exact hm.2.1⟩
    rw [e4.2.2.1] at hs
    rcases hm.2.2.2.2.2 s hs with rfl | ⟨k, w', hk, hw', rfl⟩
    · exact sm.mono (by decide)
    · have sk : Sz 400 k := by rcases hk with rfl | rfl <;> assumption
      have sw' : SzV 551 w' := by
        rcases hw' with rfl | rfl | rfl
        · exact (uo.sz _ m1).2.mono (by decide)
        · exact (uo.sz _ m2).2.mono (by decide)
        · exact (tip_sz (uo.sz _ m1).2 (uo.sz _ m2).2 (by decide)).mono (by decide)
      exact (sm.add (sw'.scl sk)).mono (by decide)
  split at hx
  · exact key u o h.1.1 h.2.1.1 h.1.sz h.2.1.sz (fun z => h.2.2.1 z.symm) hx
  · exact key o u h.2.1.1 h.1.1 h.2.1.sz h.1.sz h.2.2.1 hx
theorem own_blk (h : ∀ m ∈ ms, MvOk m) (hs : P65 4 s) (hn : ms ≠ []) (hl : ms.length ≤ 12) (sf : Sz 14 far) (hf : 0 < far) (s0 : 0 < st) (s3 : st < 4) {i : Nat} :
    ∀ x ∈ ownB (s, mvPs s ms) i far st, BlGood ms.length x ∧ x.i = i ∧ isOwn x.w := by
  intro x hx
  have bp := bpath h hs hn hl
  unfold ownB at hx
  cases hq : (s, mvPs s ms).2[i]? with
  | none => rw [hq] at hx; cases hx
  | some q =>
    obtain ⟨b, hb⟩ := beg_get (p := (s, mvPs s ms)) hq
    have hi : i < ms.length := by
      have := (List.getElem?_eq_some_iff.mp hq).1
      rw [show (s, mvPs s ms).2.length = ms.length from mvPs_len] at this
      exact this
    obtain ⟨mv, hm, rfl⟩ := mvPs_at hq hb
    have hmv := h mv (List.mem_of_getElem? hm)
    have sb := bp.sz.ends b (List.mem_of_getElem? hb)
    have sq := bp.sz.2 _ (List.mem_of_getElem? hq)
    rw [hq, begN_eq hb] at hx
    cases mv with
    | side u t =>
      have hx : x = stripB i b (vadd b (vscl u (t : Rat))) far := by simpa [mvP] using hx
      have ok := bp.ok.get hq hb
      subst hx
      refine ⟨⟨hi, strip_rnd ok.2 hf, rfl, by show 4 ≤ 40; decide, fun z hz => ?_⟩, rfl, .inl rfl⟩
      have e := (mv_side (b := b) hmv).2
      have sr : SzV 28 (vscl (vlft (uv (vsub (vadd b (vscl u (t : Rat))) b))) far) := by rw [e]; exact hmv.1.sz.lft.scl sf
      have sq : SzV 14 (vadd b (vscl u (t : Rat))) := sq
      change z ∈ [vsub b _, vsub _ _, vadd _ _, vadd b _] at hz
      simp only [List.mem_cons, List.not_mem_nil, or_false] at hz
      rcases hz with rfl | rfl | rfl | rfl
      · exact (sb.sub sr).mono (by decide)
      · exact (sq.sub sr).mono (by decide)
      · exact (sq.add sr).mono (by decide)
      · exact (sb.add sr).mono (by decide)
    | arc u o r lf =>
      obtain ⟨k1, k2, k3⟩ := arc_blk hi hmv sb sq.1 sf hf s0 s3 x hx
      exact ⟨k1, k2, .inr k3⟩
theorem crs_rgt {u v : Vc} : vcrs (vrgt u) (vrgt v) = vcrs u v := by
  unfold vcrs vrgt vneg vlft
  simp only
  grind
theorem crs_lft2 {u v : Vc} : vcrs (vlft u) (vlft v) = vcrs u v := by
  unfold vcrs vlft
  simp only
  grind
theorem crs_rl {u : Vc} : vcrs (vrgt u) (vlft u) = 0 := by
  unfold vcrs vrgt vneg vlft
  simp only
  grind
theorem crs_lr {u : Vc} : vcrs (vlft u) (vrgt u) = 0 := by
  unfold vcrs vrgt vneg vlft
  simp only
  grind
theorem rl_ne {u : Vc} (hu : Un u) : vrgt u ≠ vlft u := fun z => by
  have hu : u.1 * u.1 + u.2 * u.2 = 1 := hu
  have z1 : -(0 - u.2) = 0 - u.2 := congrArg Prod.fst z
  have z2 : -u.1 = u.1 := congrArg Prod.snd z
  have a1 : u.1 = 0 := by grind
  have a2 : u.2 = 0 := by grind
  rw [a1, a2] at hu
  exact absurd hu (by grind)
theorem crs_self {u : Vc} : vcrs u u = 0 := by unfold vcrs; grind
theorem fan_blk (bp : BPath (s, mvPs s ms) 14 14) (sf : Sz 14 far) (hf : 0 < far) (s0 : 0 < st) (s3 : st < 4) {i : Nat} (hi : i < ms.length) :
    ∀ x ∈ cFans (s, mvPs s ms) i (begN (s, mvPs s ms) i) far st, BlGood ms.length x ∧ x.w = "fan" := by
  have hL : (s, mvPs s ms).2.length = ms.length := mvPs_len
  obtain ⟨_, _, _, _, _, _, _, _, _, u1, _, z1⟩ := hdn_sz bp (prv_lt (show i < (s, mvPs s ms).2.length by rw [hL]; exact hi))
  obtain ⟨_, b, _, hb, _, _, sb, _, u2, _, z2, _⟩ := hdn_sz bp (show i < (s, mvPs s ms).2.length by rw [hL]; exact hi)
  have u1 : Un (cnU (s, mvPs s ms) i) := u1
  have u2 : Un (cnW (s, mvPs s ms) i) := u2
  have z1 : SzV 14 (cnU (s, mvPs s ms) i) := z1
  have z2 : SzV 14 (cnW (s, mvPs s ms) i) := z2
  intro x hx
  rw [begN_eq hb] at hx
  unfold cFans at hx
  split at hx
  · cases hx
  · rename_i hne
    rw [List.mem_singleton.mp hx]
    refine ⟨?_, rfl⟩
    unfold cUnits
    rw [if_neg hne]
    generalize cnU (s, mvPs s ms) i = u at *
    generalize cnW (s, mvPs s ms) i = w at *
    split
    · rename_i h1
      exact fanB_ok (a := 0) (b := 0) hi (un_rgt u1) (un_rgt u2) (sz_rgt z1) (sz_rgt z2) sb sf hf s0 s3 (fun z => by
        have e := crs_rgt (u := u) (v := w)
        rw [z, crs_self] at e
        rw [← e] at h1
        exact absurd h1 (by decide)) (by rw [crs_rgt]; exact Rat.le_of_lt h1)
    · split
      · rename_i h1
        have h2 : vcrs w u = - vcrs u w := by unfold vcrs; grind
        exact fanB_ok (a := 0) (b := 0) hi u2.lft u1.lft z2.lft z1.lft sb sf hf s0 s3 (fun z => by
          have e := crs_lft2 (u := u) (v := w)
          rw [z, crs_self] at e
          rw [← e] at h1
          exact absurd h1 (by decide)) (by rw [crs_lft2, h2]; grind)
      · exact fanB_ok (a := 0) (b := 0) hi (un_rgt u1) u1.lft (sz_rgt z1) z1.lft sb sf hf s0 s3 (rl_ne u1) (by rw [crs_rl]; exact Rat.le_refl)
theorem capS_blk (bp : BPath (s, mvPs s ms) 14 14) (hn : 0 < ms.length) (sf : Sz 14 far) (hf : 0 < far) (s0 : 0 < st) (s3 : st < 4) : BlGood ms.length (capS (s, mvPs s ms) far st) := by
  have hL : (s, mvPs s ms).2.length = ms.length := mvPs_len
  obtain ⟨_, _, _, _, _, _, _, _, u1, _, z1, _⟩ := hdn_sz bp (show 0 < (s, mvPs s ms).2.length by rw [hL]; exact hn)
  exact fanB_ok (a := 0) (b := 0) hn u1.lft (un_rgt u1) z1.lft (sz_rgt z1) bp.sz.1 sf hf s0 s3 (fun z => rl_ne u1 z.symm) (by rw [crs_lr]; exact Rat.le_refl)
theorem capE_blk (bp : BPath (s, mvPs s ms) 14 14) (hn : 0 < ms.length) (sf : Sz 14 far) (hf : 0 < far) (s0 : 0 < st) (s3 : st < 4) : BlGood ms.length (capE (s, mvPs s ms) far st) := by
  have hL : (s, mvPs s ms).2.length = ms.length := mvPs_len
  obtain ⟨q, b, hq, _, _, _, _, sq, _, u1, _, z1⟩ := hdn_sz bp (show (s, mvPs s ms).2.length - 1 < (s, mvPs s ms).2.length by omega)
  have he : (ends (s, mvPs s ms))[(s, mvPs s ms).2.length]? = some q.to := by
    have := ends_succ hq
    rw [show (s, mvPs s ms).2.length - 1 + 1 = (s, mvPs s ms).2.length by omega] at this
    exact this
  unfold capE
  rw [begN_eq he]
  exact fanB_ok (a := 0) (b := 0) (by omega) (un_rgt u1) u1.lft (sz_rgt z1) z1.lft sq.to sf hf s0 s3 (rl_ne u1) (by rw [crs_rl]; exact Rat.le_refl)
end
end
section
open PySem PySem.Spec PyProof.Rows L2
section
variable {s : Vc} {ms : List Mv} {far : Rat} {st : Nat}
/-- each word once -/
def isWrd (w : Str) : Prop := w = "strip" ∨ w = "sector" ∨ w = "fan" ∨ w = "cap"
theorem blk_all (h : ∀ m ∈ ms, MvOk m) (hs : P65 4 s) (hn : ms ≠ []) (hl : ms.length ≤ 12) (sf : Sz 14 far) (hf : 0 < far) (s0 : 0 < st) (s3 : st < 4) :
    ∀ x ∈ blkM (s, mvPs s ms) far st, BlGood ms.length x ∧ isWrd x.w := by
  have bp := bpath h hs hn hl
  have hL : (s, mvPs s ms).2.length = ms.length := mvPs_len
  have hpos : 0 < ms.length := List.length_pos_iff.mpr hn
  intro x hx
  unfold blkM at hx
  rcases List.mem_append.mp hx with hx | hx
  · rcases List.mem_append.mp hx with hx | hx
    · split at hx
      · cases hx
      · rw [List.mem_singleton.mp hx]
        exact ⟨capS_blk bp hpos sf hf s0 s3, .inr (.inr (.inr rfl))⟩
    · obtain ⟨j, hj, hx⟩ := List.mem_flatMap.mp hx
      unfold blkAt at hx
      rcases List.mem_append.mp hx with hx | hx
      · obtain ⟨q1, _, q2⟩ := own_blk h hs hn hl sf hf s0 s3 x hx
        exact ⟨q1, q2.elim .inl fun z => .inr (.inl z)⟩
      · split at hx
        · rename_i hc
          have := crns_lt hc
          rw [hL] at this
          obtain ⟨q1, q2⟩ := fan_blk bp sf hf s0 s3 (by rw [hL]; exact this) x hx
          exact ⟨q1, .inr (.inr (.inl q2))⟩
        · cases hx
  · split at hx
    · cases hx
    · rw [List.mem_singleton.mp hx]
      exact ⟨capE_blk bp hpos sf hf s0 s3, .inr (.inr (.inr rfl))⟩
theorem blkM_len (hl : ms.length ≤ 12) (s3 : st < 4) : (blkM (s, mvPs s ms) far st).length ≤ 800 := by
  have hL : (s, mvPs s ms).2.length = ms.length := mvPs_len
  have := flat_len (p := (s, mvPs s ms)) (far := far) s3 (s, mvPs s ms).2.length
  unfold blkM
  rw [List.length_append, List.length_append]
  generalize ((List.range (s, mvPs s ms).2.length).flatMap (blkAt (s, mvPs s ms) far st)).length = z at *
  split <;> simp only [List.length_nil, List.length_cons] <;> omega
end
end
section
open PySem PySem.Spec PyProof.Rows L2
def inQ (q : Vc) : Vc → List Vc → Prop
  | _, [] => True
  | a, b :: r => 0 ≤ vcrs (vsub b a) (vsub q a) ∧ inQ q b r
def InS (S : List Vc) (q : Vc) : Prop := inQ q (S.getLastD (0, 0)) S
def InB (bs : List Blk) (q : Vc) : Prop := ∃ x ∈ bs, InS x.s q
theorem le_of_sq {a b : Rat} (hb : 0 ≤ b) (h : a * a ≤ b * b) : a ≤ b := by
  rcases rat_tri a b with z | z | z
  · exact Rat.le_of_lt z
  · rw [z]; exact Rat.le_refl
  · have h1 : 0 < a - b := by grind
    have h2 : 0 < a + b := by grind
    have := pmul h1 h2
    exfalso
    grind
theorem nn_of_mul {x y : Rat} (h : 0 ≤ x * y) (k : 0 < y) : 0 ≤ x := by
  rcases rat_tri x 0 with z | z | z
  · have := pmul (show 0 < -x by grind) k
    exfalso
    grind
  · rw [z]; exact Rat.le_refl
  · exact Rat.le_of_lt z
theorem sqle {a b : Rat} (h0 : 0 ≤ a) (h : a ≤ b) : a * a ≤ b * b := by
  have h1 := Rat.mul_nonneg (show 0 ≤ b - a by grind) (show 0 ≤ a + b by grind)
  grind
/-- a unit's dot is no greater than the length -/
theorem dot_le {u d : Vc} {f : Rat} (hu : Un u) (hf : 0 ≤ f) (h : vdot d d ≤ f * f) : vdot u d ≤ f := by
  have hu : u.1 * u.1 + u.2 * u.2 = 1 := hu
  have e : vdot u d * vdot u d + vcrs u d * vcrs u d = vdot d d * (u.1 * u.1 + u.2 * u.2) := by unfold vdot vcrs; grind
  rw [hu] at e
  have := sq_nn (vcrs u d)
  exact le_of_sq hf (by grind)
theorem dot_ge {u d : Vc} {f : Rat} (hu : Un u) (hf : 0 ≤ f) (h : vdot d d ≤ f * f) : -f ≤ vdot u d := by
  have := dot_le (un_vneg hu) hf h
  have e : vdot (vneg u) d = -vdot u d := by unfold vdot vneg; simp only; grind
  rw [e] at this
  grind
theorem crs_le {u d : Vc} {f : Rat} (hu : Un u) (hf : 0 ≤ f) (h : vdot d d ≤ f * f) : -f ≤ vcrs u d ∧ vcrs u d ≤ f := by
  have e : vdot (vlft u) d = vcrs u d := by unfold vdot vlft vcrs; simp only; grind
  have h1 := dot_le hu.lft hf h
  have h2 := dot_ge hu.lft hf h
  rw [e] at h1 h2
  exact ⟨h2, h1⟩
theorem dot_id {u v d : Vc} (hu : Un u) (hv : Un v) : (vdot v d - vdot u d) * (1 + vdot u v) = vcrs u v * (vcrs u d + vcrs v d) := by
  have hu : u.1 * u.1 + u.2 * u.2 = 1 := hu
  have hv : v.1 * v.1 + v.2 * v.2 = 1 := hv
  have e1 : vcrs u v * vcrs u d = vdot v d * (u.1 * u.1 + u.2 * u.2) - vdot u d * vdot u v := by unfold vdot vcrs; grind
  have e2 : vcrs u v * vcrs v d = vdot u v * vdot v d - vdot u d * (v.1 * v.1 + v.2 * v.2) := by unfold vdot vcrs; grind
  rw [hu] at e1
  rw [hv] at e2
  grind
theorem dot_step {u v d : Vc} (hu : Un u) (hN : Nxt u v) (h : 0 < vcrs u d + vcrs v d) : vdot u d < vdot v d := by
  have e := dot_id (d := d) hu hN.1
  have p := pmul hN.2.1 h
  rw [← e] at p
  have := pos_of_mul p (by have := hN.2.2; grind)
  grind
theorem dot_back {u v d : Vc} (hu : Un u) (hN : Nxt u v) (h : vcrs u d + vcrs v d < 0) : vdot v d < vdot u d := by
  have e := dot_id (d := d) hu hN.1
  have p := pmul hN.2.1 (show 0 < -(vcrs u d + vcrs v d) by grind)
  have e2 : vcrs u v * -(vcrs u d + vcrs v d) = (vdot u d - vdot v d) * (1 + vdot u v) := by grind
  rw [e2] at p
  have := pos_of_mul p (by have := hN.2.2; grind)
  grind
theorem crs_swap {u d : Vc} : vcrs d u = -vcrs u d := by unfold vcrs; grind
def Pair (us : List Vc) (d : Vc) : Prop := ∃ z ∈ us.zip (us.drop 1), Un z.1 ∧ Nxt z.1 z.2 ∧ 0 ≤ vcrs z.1 d ∧ 0 ≤ vcrs d z.2
theorem Pair.cons {u v d : Vc} {r : List Vc} (h : Pair (v :: r) d) : Pair (u :: v :: r) d := by
  obtain ⟨z, hz, h⟩ := h
  exact ⟨z, List.mem_cons_of_mem _ hz, h⟩
theorem pair_one {u v d : Vc} {r : List Vc} (hu : Un u) (hN : Nxt u v) (h1 : 0 ≤ vcrs u d) (h2 : 0 ≤ vcrs d v) : Pair (u :: v :: r) d := ⟨(u, v), List.mem_cons_self, hu, hN, h1, h2⟩
theorem chain_f {d : Vc} : ∀ {t : List Vc} {u w : Vc}, Un u → Chn Nxt u t → (u :: t).getLast? = some w → 0 ≤ vcrs u d → Pair (u :: t) d ∨ (t = [] ∧ w = u) ∨ (vdot u d < vdot w d ∧ 0 < vcrs w d)
  | [], u, w, _, _, hw, _ => by cases hw; exact .inr (.inl ⟨rfl, rfl⟩)
  | v :: r, u, w, hu, hc, hw, h0 => by
    obtain ⟨hN, hc⟩ := hc
    rw [List.getLast?_cons_cons] at hw
    by_cases hv : 0 < vcrs v d
    · have st := dot_step (d := d) hu hN (by grind)
      rcases chain_f hN.1 hc hw (Rat.le_of_lt hv) with h | ⟨_, h⟩ | ⟨h, h'⟩
      · exact .inl h.cons
      · rw [h]; exact .inr (.inr ⟨st, hv⟩)
      · exact .inr (.inr ⟨by grind, h'⟩)
    · exact .inl (pair_one hu hN h0 (by rw [crs_swap]; grind))
theorem chain_b {d : Vc} : ∀ {t : List Vc} {u w : Vc}, Un u → Chn Nxt u t → (u :: t).getLast? = some w → 0 ≤ vcrs d w → Pair (u :: t) d ∨ (t = [] ∧ w = u) ∨ (vdot w d < vdot u d ∧ 0 < vcrs d u)
  | [], u, w, _, _, hw, _ => by cases hw; exact .inr (.inl ⟨rfl, rfl⟩)
  | v :: r, u, w, hu, hc, hw, h0 => by
    obtain ⟨hN, hc⟩ := hc
    rw [List.getLast?_cons_cons] at hw
    have fin : 0 ≤ vcrs d v → vdot w d ≤ vdot v d → Pair (u :: v :: r) d ∨ (v :: r = [] ∧ w = u) ∨ (vdot w d < vdot u d ∧ 0 < vcrs d u) := fun h1 h2 => by
      by_cases hk : 0 ≤ vcrs u d
      · exact .inl (pair_one hu hN hk h1)
      · rw [crs_swap] at h1
        have := dot_back (d := d) hu hN (by grind)
        exact .inr (.inr ⟨by grind, by rw [crs_swap]; grind⟩)
    rcases chain_b hN.1 hc hw h0 with h | ⟨_, h⟩ | ⟨h, h'⟩
    · exact .inl h.cons
    · rw [h] at h0 hw ⊢
      rw [h] at fin
      exact fin h0 Rat.le_refl
    · exact fin (Rat.le_of_lt h') (Rat.le_of_lt h)
theorem strip_in {b u d : Vc} {l far : Rat} (hu : Un u) (h0 : 0 ≤ l) (hf : 0 ≤ far) (d0 : 0 ≤ vdot u d) (d1 : vdot u d ≤ l) (c0 : -far ≤ vcrs u d) (c1 : vcrs u d ≤ far) :
    InS [vsub b (vscl (vlft u) far), vsub (vadd b (vscl u l)) (vscl (vlft u) far), vadd (vadd b (vscl u l)) (vscl (vlft u) far), vadd b (vscl (vlft u) far)] (vadd b d) := by
  have hu : u.1 * u.1 + u.2 * u.2 = 1 := hu
  refine ⟨?_, ?_, ?_, ?_, trivial⟩
  · have := Rat.mul_nonneg hf d0
    have e : vcrs (vsub (vsub b (vscl (vlft u) far)) (vadd b (vscl (vlft u) far))) (vsub (vadd b d) (vadd b (vscl (vlft u) far))) = 2 * (far * vdot u d) := by
      unfold vcrs vsub vadd vscl vlft vdot; simp only; grind
    show 0 ≤ vcrs _ _
    rw [show ([vsub b (vscl (vlft u) far), vsub (vadd b (vscl u l)) (vscl (vlft u) far), vadd (vadd b (vscl u l)) (vscl (vlft u) far), vadd b (vscl (vlft u) far)] : List Vc).getLastD (0, 0) = vadd b (vscl (vlft u) far) from rfl, e]
    grind
  · have := Rat.mul_nonneg h0 (show 0 ≤ vcrs u d + far by grind)
    have e : vcrs (vsub (vsub (vadd b (vscl u l)) (vscl (vlft u) far)) (vsub b (vscl (vlft u) far))) (vsub (vadd b d) (vsub b (vscl (vlft u) far))) = l * (vcrs u d + far * (u.1 * u.1 + u.2 * u.2)) := by
      unfold vcrs vsub vadd vscl vlft; simp only; grind
    rw [e, hu]
    grind
  · have := Rat.mul_nonneg hf (show 0 ≤ l - vdot u d by grind)
    have e : vcrs (vsub (vadd (vadd b (vscl u l)) (vscl (vlft u) far)) (vsub (vadd b (vscl u l)) (vscl (vlft u) far))) (vsub (vadd b d) (vsub (vadd b (vscl u l)) (vscl (vlft u) far))) = 2 * (far * (l * (u.1 * u.1 + u.2 * u.2) - vdot u d)) := by
      unfold vcrs vsub vadd vscl vlft vdot; simp only; grind
    rw [e, hu]
    grind
  · have := Rat.mul_nonneg h0 (show 0 ≤ far - vcrs u d by grind)
    have e : vcrs (vsub (vadd b (vscl (vlft u) far)) (vadd (vadd b (vscl u l)) (vscl (vlft u) far))) (vsub (vadd b d) (vadd (vadd b (vscl u l)) (vscl (vlft u) far))) = l * (far * (u.1 * u.1 + u.2 * u.2) - vcrs u d) := by
      unfold vcrs vsub vadd vscl vlft; simp only; grind
    rw [e, hu]
    grind
theorem tail_in {p d : Vc} {f : Rat} (hf : 0 ≤ f) : ∀ {r : List Vc} {u x : Vc} {a : Rat}, Un u → Chn Nxt u r → 0 ≤ a → (∀ y ∈ u :: r, vdot y d ≤ f) → x = spt p f (vsub u (vscl (vlft u) a)) → inQ (vadd p d) x (tailQ p f u r)
  | [], u, x, a, hu, _, ha, hd, hx => by
    have hu : u.1 * u.1 + u.2 * u.2 = 1 := hu
    refine ⟨?_, trivial⟩
    have := Rat.mul_nonneg (Rat.mul_nonneg hf ha) (show 0 ≤ f - vdot u d by have := hd u List.mem_cons_self; grind)
    have e : vcrs (vsub (spt p f u) x) (vsub (vadd p d) x) = f * a * (f * (u.1 * u.1 + u.2 * u.2) - vdot u d) := by
      rw [hx]
      unfold vcrs spt vsub vadd vscl vlft vdot; simp only; grind
    rw [e, hu]
    grind
  | v :: r, u, x, a, hu, hc, ha, hd, hx => by
    obtain ⟨hN, hc⟩ := hc
    obtain ⟨a', pa', t1, t2⟩ := tip_is hu hN
    have hu : u.1 * u.1 + u.2 * u.2 = 1 := hu
    refine ⟨?_, tail_in hf hN.1 hc (Rat.le_of_lt pa') (fun y hy => hd y (List.mem_cons_of_mem _ hy)) (by rw [t2])⟩
    have := Rat.mul_nonneg (Rat.mul_nonneg hf (show 0 ≤ a + a' by grind)) (show 0 ≤ f - vdot u d by have := hd u List.mem_cons_self; grind)
    have e : vcrs (vsub (spt p f (tipV u v)) x) (vsub (vadd p d) x) = f * (a + a') * (f * (u.1 * u.1 + u.2 * u.2) - vdot u d) := by
      rw [hx, t1]
      unfold vcrs spt vsub vadd vscl vlft vdot; simp only; grind
    rw [e, hu]
    grind
theorem fan_in {p d u w : Vc} {r : List Vc} {f : Rat} (hf : 0 ≤ f) (hu : Un u) (hc : Chn Nxt u r) (hw : (u :: r).getLast? = some w) (h1 : 0 ≤ vcrs u d) (h2 : 0 ≤ vcrs d w) (hd : vdot d d ≤ f * f) : InS (fanS p (u :: r) f) (vadd p d) := by
  have hl : (fanS p (u :: r) f).getLastD (0, 0) = spt p f w := by
    unfold fanS
    rw [List.getLastD_eq_getLast?, show ((u :: r).getLastD (0, 0)) = w by rw [List.getLastD_eq_getLast?, hw]; rfl]
    rw [show (p :: spt p f ((u :: r).headD (0, 0)) :: (List.map (spt p f) (tips (u :: r)) ++ [spt p f w])) = (p :: spt p f ((u :: r).headD (0, 0)) :: List.map (spt p f) (tips (u :: r))) ++ [spt p f w] from rfl, List.getLast?_concat]
    rfl
  unfold InS
  rw [hl, fanS_eq]
  refine ⟨?_, ?_, tail_in (a := 0) hf hu hc Rat.le_refl ?_ ?_⟩
  · have := Rat.mul_nonneg hf h2
    have e : vcrs (vsub p (spt p f w)) (vsub (vadd p d) (spt p f w)) = f * vcrs d w := by
      unfold vcrs spt vsub vadd vscl; simp only; grind
    rw [e]; exact this
  · have := Rat.mul_nonneg hf h1
    have e : vcrs (vsub (spt p f u) p) (vsub (vadd p d) p) = f * vcrs u d := by
      unfold vcrs spt vsub vadd vscl; simp only; grind
    rw [e]; exact this
  · intro y hy
    have uy : Un y := by
      rcases List.mem_cons.mp hy with z | z
      · rw [z]; exact hu
      · exact chn_unB hc y z
    exact dot_le uy hf hd
  · congr 1
    unfold vsub vscl vlft
    exact Prod.ext (by simp only; grind) (by simp only; grind)
theorem tip_mul {u v : Vc} (h : 0 ≤ vdot u v) : (tipV u v).1 * (1 + vdot u v) = u.1 + v.1 ∧ (tipV u v).2 * (1 + vdot u v) = u.2 + v.2 := by
  have h0 : 1 + vdot u v ≠ 0 := by grind
  unfold tipV
  exact ⟨Rat.div_mul_cancel h0, Rat.div_mul_cancel h0⟩
theorem tip_side {u v d : Vc} (hu : Un u) (h : Nxt u v) : vcrs u v * vcrs d (tipV u v) = vdot u d - vdot v d := by
  obtain ⟨e1, e2⟩ := tip_mul h.2.2
  have e := dot_id (d := d) hu h.1
  have k : vcrs d (tipV u v) * (1 + vdot u v) = -(vcrs u d + vcrs v d) := by
    have : vcrs d (tipV u v) * (1 + vdot u v) = d.1 * ((tipV u v).2 * (1 + vdot u v)) - d.2 * ((tipV u v).1 * (1 + vdot u v)) := by unfold vcrs; grind
    rw [this, e1, e2]
    unfold vcrs; grind
  have h0 : 1 + vdot u v ≠ 0 := by have := h.2.2; grind
  have : (vcrs u v * vcrs d (tipV u v)) * (1 + vdot u v) = (vdot u d - vdot v d) * (1 + vdot u v) := by
    have : (vcrs u v * vcrs d (tipV u v)) * (1 + vdot u v) = vcrs u v * (vcrs d (tipV u v) * (1 + vdot u v)) := by grind
    rw [this, k]
    grind
  have h2 : (vcrs u v * vcrs d (tipV u v) - (vdot u d - vdot v d)) * (1 + vdot u v) = 0 := by grind
  rcases Rat.mul_eq_zero.mp h2 with z | z
  · grind
  · exact absurd z h0
theorem sec_in {i : Nat} {m u v d : Vc} {inn out : Rat} (hu : Un u) (h : Nxt u v) (h1 : 0 ≤ vcrs u d) (h2 : 0 ≤ vcrs d v) (o1 : vdot u d ≤ out) (o2 : vdot v d ≤ out)
    (i0 : 0 ≤ inn) (io : inn ≤ out) (i1 : vdot v d ≤ vdot u d → inn ≤ vdot u d) (i2 : vdot u d ≤ vdot v d → inn ≤ vdot v d) : InB (secP i m u v inn out) (vadd m d) := by
  obtain ⟨a, ha, t1, t2⟩ := tip_is hu h
  have ts := tip_side (d := d) hu h
  have hv : v.1 * v.1 + v.2 * v.2 = 1 := h.1
  have hu : u.1 * u.1 + u.2 * u.2 = 1 := hu
  have a0 := Rat.le_of_lt ha
  have o0 : 0 ≤ out := by grind
  have oi : 0 ≤ out - inn := by grind
  by_cases hh : vdot v d ≤ vdot u d
  · have k1 := i1 hh
    have c0 : 0 ≤ vcrs d (tipV u v) := nn_of_mul (y := vcrs u v) (by rw [Rat.mul_comm, ts]; grind) h.2.1
    have p0 := Rat.mul_nonneg (Rat.mul_nonneg i0 a0) (show 0 ≤ vdot u d - inn by grind)
    have p1 := Rat.mul_nonneg oi h1
    have p2 := Rat.mul_nonneg (Rat.mul_nonneg o0 a0) (show 0 ≤ out - vdot u d by grind)
    have p3 := Rat.mul_nonneg oi c0
    have q1 := Rat.mul_nonneg o0 h1
    have q3 := Rat.mul_nonneg o0 c0
    unfold secP
    split
    · refine ⟨_, List.mem_cons_self, ?_⟩
      refine ⟨?_, ?_, ?_, trivial⟩
      · have e : vcrs (vsub m (spt m out (tipV u v))) (vsub (vadd m d) (spt m out (tipV u v))) = out * vcrs d (tipV u v) := by
          unfold vcrs spt vsub vadd vscl; simp only; grind
        show 0 ≤ vcrs (vsub m (spt m out (tipV u v))) (vsub (vadd m d) (spt m out (tipV u v)))
        rw [e]; exact q3
      · have e : vcrs (vsub (spt m out u) m) (vsub (vadd m d) m) = out * vcrs u d := by
          unfold vcrs spt vsub vadd vscl; simp only; grind
        rw [e]; exact q1
      · have e : vcrs (vsub (spt m out (tipV u v)) (spt m out u)) (vsub (vadd m d) (spt m out u)) = out * a * (out * (u.1 * u.1 + u.2 * u.2) - vdot u d) := by
          rw [t1]
          unfold vcrs spt vsub vadd vscl vlft vdot; simp only; grind
        rw [e, hu]; grind
    · refine ⟨_, List.mem_cons_self, ?_⟩
      refine ⟨?_, ?_, ?_, ?_, trivial⟩
      · have e : vcrs (vsub (spt m inn u) (spt m inn (tipV u v))) (vsub (vadd m d) (spt m inn (tipV u v))) = inn * a * (vdot u d - inn * (u.1 * u.1 + u.2 * u.2)) := by
          rw [t1]
          unfold vcrs spt vsub vadd vscl vlft vdot; simp only; grind
        show 0 ≤ vcrs (vsub (spt m inn u) (spt m inn (tipV u v))) (vsub (vadd m d) (spt m inn (tipV u v)))
        rw [e, hu]; grind
      · have e : vcrs (vsub (spt m out u) (spt m inn u)) (vsub (vadd m d) (spt m inn u)) = (out - inn) * vcrs u d := by
          unfold vcrs spt vsub vadd vscl; simp only; grind
        rw [e]; exact p1
      · have e : vcrs (vsub (spt m out (tipV u v)) (spt m out u)) (vsub (vadd m d) (spt m out u)) = out * a * (out * (u.1 * u.1 + u.2 * u.2) - vdot u d) := by
          rw [t1]
          unfold vcrs spt vsub vadd vscl vlft vdot; simp only; grind
        rw [e, hu]; grind
      · have e : vcrs (vsub (spt m inn (tipV u v)) (spt m out (tipV u v))) (vsub (vadd m d) (spt m out (tipV u v))) = (out - inn) * vcrs d (tipV u v) := by
          unfold vcrs spt vsub vadd vscl; simp only; grind
        rw [e]; exact p3
  · have hh' : vdot u d ≤ vdot v d := by grind
    have k1 := i2 hh'
    have c0 : 0 ≤ vcrs (tipV u v) d := by
      have : 0 ≤ vcrs (tipV u v) d * vcrs u v := by
        rw [show vcrs (tipV u v) d = -vcrs d (tipV u v) from crs_swap]
        grind
      exact nn_of_mul this h.2.1
    have p0 := Rat.mul_nonneg (Rat.mul_nonneg i0 a0) (show 0 ≤ vdot v d - inn by grind)
    have p1 := Rat.mul_nonneg oi c0
    have p2 := Rat.mul_nonneg (Rat.mul_nonneg o0 a0) (show 0 ≤ out - vdot v d by grind)
    have p3 := Rat.mul_nonneg oi h2
    have q1 := Rat.mul_nonneg o0 c0
    have q3 := Rat.mul_nonneg o0 h2
    unfold secP
    split
    · refine ⟨_, List.mem_cons_of_mem _ List.mem_cons_self, ?_⟩
      refine ⟨?_, ?_, ?_, trivial⟩
      · have e : vcrs (vsub m (spt m out v)) (vsub (vadd m d) (spt m out v)) = out * vcrs d v := by
          unfold vcrs spt vsub vadd vscl; simp only; grind
        show 0 ≤ vcrs (vsub m (spt m out v)) (vsub (vadd m d) (spt m out v))
        rw [e]; exact q3
      · have e : vcrs (vsub (spt m out (tipV u v)) m) (vsub (vadd m d) m) = out * vcrs (tipV u v) d := by
          unfold vcrs spt vsub vadd vscl; simp only; grind
        rw [e]; exact q1
      · have e : vcrs (vsub (spt m out v) (spt m out (tipV u v))) (vsub (vadd m d) (spt m out (tipV u v))) = out * a * (out * (v.1 * v.1 + v.2 * v.2) - vdot v d) := by
          rw [t2]
          unfold vcrs spt vsub vadd vscl vlft vdot; simp only; grind
        rw [e, hv]; grind
    · refine ⟨_, List.mem_cons_of_mem _ List.mem_cons_self, ?_⟩
      refine ⟨?_, ?_, ?_, ?_, trivial⟩
      · have e : vcrs (vsub (spt m inn (tipV u v)) (spt m inn v)) (vsub (vadd m d) (spt m inn v)) = inn * a * (vdot v d - inn * (v.1 * v.1 + v.2 * v.2)) := by
          rw [t2]
          unfold vcrs spt vsub vadd vscl vlft vdot; simp only; grind
        show 0 ≤ vcrs (vsub (spt m inn (tipV u v)) (spt m inn v)) (vsub (vadd m d) (spt m inn v))
        rw [e, hv]; grind
      · have e : vcrs (vsub (spt m out (tipV u v)) (spt m inn (tipV u v))) (vsub (vadd m d) (spt m inn (tipV u v))) = (out - inn) * vcrs (tipV u v) d := by
          unfold vcrs spt vsub vadd vscl; simp only; grind
        rw [e]; exact p1
      · have e : vcrs (vsub (spt m out v) (spt m out (tipV u v))) (vsub (vadd m d) (spt m out (tipV u v))) = out * a * (out * (v.1 * v.1 + v.2 * v.2) - vdot v d) := by
          rw [t2]
          unfold vcrs spt vsub vadd vscl vlft vdot; simp only; grind
        rw [e, hv]; grind
      · have e : vcrs (vsub (spt m inn v) (spt m out v)) (vsub (vadd m d) (spt m out v)) = (out - inn) * vcrs d v := by
          unfold vcrs spt vsub vadd vscl; simp only; grind
        rw [e]; exact p3
end
section
open PySem PySem.Spec PyProof.Rows L2
def sqd (a b : Vc) : Rat := vdot (vsub a b) (vsub a b)
theorem InB.iff {bs : List Blk} {q : Vc} : InB bs q ↔ ∃ S ∈ bs.map Blk.s, InS S q := by
  unfold InB
  constructor
  · rintro ⟨x, hx, h⟩; exact ⟨_, List.mem_map_of_mem hx, h⟩
  · rintro ⟨S, hS, h⟩
    obtain ⟨x, hx, rfl⟩ := List.mem_map.mp hS
    exact ⟨x, hx, h⟩
theorem fixS_s : ∀ bs : List Blk, (fixS bs).map Blk.s = bs.map Blk.s
  | [] => rfl
  | x :: t => by
    rcases List.eq_nil_or_concat t with rfl | ⟨t', y, rfl⟩
    · rfl
    · rw [List.concat_eq_append, fixS_eq, List.map_cons, List.map_cons, List.map_append, List.map_append]
      rfl
theorem secs_s {i : Nat} {m : Vc} {us : List Vc} {inn out : Rat} {lf : Bool} : (secs i m us inn out lf).map Blk.s = (secs0 i m us inn out).map Blk.s := by
  have ex : ∀ bs : List Blk, (bs.map exB).map Blk.s = bs.map Blk.s := fun bs => by rw [List.map_map]; rfl
  unfold secs
  by_cases h : inn = 0 <;> cases lf <;> simp only [h, if_true, if_false, Bool.false_eq_true]
  · exact ex _
  · rw [ex, fixS_s]
  · rw [fixS_s]
theorem InB.app {as bs cs : List Blk} {q : Vc} (h : InB bs q) : InB (as ++ bs ++ cs) q := by
  obtain ⟨x, hx, h⟩ := h
  exact ⟨x, List.mem_append_left _ (List.mem_append_right _ hx), h⟩
theorem lsD_le : ∀ {us : List Vc}, ∀ z ∈ us.zip (us.drop 1), lsD us ≤ vdot z.1 z.2 := by
  intro us z hz
  rcases us with _ | ⟨u, _ | ⟨v, r⟩⟩
  · simp at hz
  · simp at hz
  · have key : ∀ (zs : List (Vc × Vc)) (f : Rat), zs.foldl (fun f p => if vdot p.1 p.2 < f then vdot p.1 p.2 else f) f ≤ f ∧ ∀ z ∈ zs, zs.foldl (fun f p => if vdot p.1 p.2 < f then vdot p.1 p.2 else f) f ≤ vdot z.1 z.2 := by
      intro zs
      induction zs with
      | nil => intro f; exact ⟨Rat.le_refl, fun z h => by simp at h⟩
      | cons w zs ih =>
        intro f
        rw [List.foldl_cons]
        obtain ⟨h1, h2⟩ := ih (if vdot w.1 w.2 < f then vdot w.1 w.2 else f)
        have h3 : (if vdot w.1 w.2 < f then vdot w.1 w.2 else f) ≤ f ∧ (if vdot w.1 w.2 < f then vdot w.1 w.2 else f) ≤ vdot w.1 w.2 := by
          split <;> constructor <;> grind
        refine ⟨Rat.le_trans h1 h3.1, fun z hz => ?_⟩
        rcases List.mem_cons.mp hz with rfl | hz
        · exact Rat.le_trans h1 h3.2
        · exact h2 z hz
    obtain ⟨h1, h2⟩ := key ((v :: r).zip r) (vdot u v)
    change z ∈ (u, v) :: (v :: r).zip r at hz
    show ((v :: r).zip r).foldl (fun f p => if vdot p.1 p.2 < f then vdot p.1 p.2 else f) (vdot u v) ≤ _
    rcases List.mem_cons.mp hz with rfl | hz
    · exact h1
    · exact h2 z hz
theorem half_num {x y c dd : Rat} (c0 : 0 ≤ c) (c1 : c < 1) (hx : 0 ≤ x) (hy : y ≤ x) (hk : 0 ≤ y - c * x) (e : dd * (1 - c * c) = x * x + y * y - 2 * c * x * y) : (1 + c) * dd ≤ 2 * (x * x) := by
  have h1 := Rat.mul_nonneg (show 0 ≤ 1 - c by grind) hx
  have h2 := Rat.mul_nonneg (show 0 ≤ x - y by grind) (show 0 ≤ (y - c * x) + (1 - c) * x by grind)
  have e2 : (2 * (x * x) - (1 + c) * dd) * (1 - c) = (x - y) * ((y - c * x) + (1 - c) * x) := by grind
  rw [← e2] at h2
  have := nn_of_mul h2 (by grind)
  grind
theorem cone_num {u v d : Vc} (hu : Un u) (hN : Nxt u v) (h1 : 0 ≤ vcrs u d) (h2 : 0 ≤ vcrs d v) : 0 ≤ vdot u d ∧ 0 ≤ vdot v d ∧ vdot u v < 1 ∧ 0 ≤ vdot v d - vdot u v * vdot u d ∧ 0 ≤ vdot u d - vdot u v * vdot v d ∧ vdot d d * (1 - vdot u v * vdot u v) = vdot u d * vdot u d + vdot v d * vdot v d - 2 * vdot u v * vdot u d * vdot v d := by
  have hv : v.1 * v.1 + v.2 * v.2 = 1 := hN.1
  have hu : u.1 * u.1 + u.2 * u.2 = 1 := hu
  obtain ⟨_, c0, c1⟩ := hN
  have e1 : vcrs u v * vdot u d = vcrs d v * (u.1 * u.1 + u.2 * u.2) + vcrs u d * vdot u v := by unfold vcrs vdot; grind
  have e2 : vcrs u v * vdot v d = vcrs d v * vdot u v + vcrs u d * (v.1 * v.1 + v.2 * v.2) := by unfold vcrs vdot; grind
  have e3 : vcrs u v * vcrs u d = (u.1 * u.1 + u.2 * u.2) * vdot v d - vdot u v * vdot u d := by unfold vcrs vdot; grind
  have e4 : vcrs u v * vcrs d v = (v.1 * v.1 + v.2 * v.2) * vdot u d - vdot u v * vdot v d := by unfold vcrs vdot; grind
  have e5 : vcrs u v * vcrs u v = (u.1 * u.1 + u.2 * u.2) * (v.1 * v.1 + v.2 * v.2) - vdot u v * vdot u v := by unfold vcrs vdot; grind
  rw [hu] at e1 e3
  rw [hv] at e2 e4
  rw [hu, hv] at e5
  have n1 := Rat.mul_nonneg h1 c1
  have n2 := Rat.mul_nonneg h2 c1
  have n3 := Rat.mul_nonneg (Rat.le_of_lt c0) h1
  have n4 := Rat.mul_nonneg (Rat.le_of_lt c0) h2
  have n5 := pmul c0 c0
  refine ⟨nn_of_mul (y := vcrs u v) (by rw [Rat.mul_comm, e1]; grind) c0, nn_of_mul (y := vcrs u v) (by rw [Rat.mul_comm, e2]; grind) c0, ?_, by grind, by grind, ?_⟩
  · rcases rat_tri (vdot u v) 1 with z | z | z
    · exact z
    · rw [z] at e5; exfalso; grind
    · have := pmul (show 0 < vdot u v - 1 by grind) (show 0 < vdot u v + 1 by grind)
      exfalso; grind
  · rw [show (1 - vdot u v * vdot u v) = vcrs u v * vcrs u v by grind]
    have : vdot d d * (vcrs u v * vcrs u v) = (v.1 * v.1 + v.2 * v.2) * (vdot u d * vdot u d) + (u.1 * u.1 + u.2 * u.2) * (vdot v d * vdot v d) - 2 * vdot u v * vdot u d * vdot v d := by unfold vcrs vdot; grind
    rw [this, hu, hv]
    grind
theorem inner_le {r far l c dd x : Rat} (hk : far < r) (l0 : 0 ≤ l) (lc : l ≤ c) (c1 : c < 1) (lo : (r - far) * (r - far) ≤ dd) (h : (1 + c) * dd ≤ 2 * (x * x)) (hx : 0 ≤ x) : (r - far) * (1 + l) / 2 ≤ x := by
  refine le_of_sq hx ?_
  have hp : 0 < r - far := by grind
  generalize r - far = k at *
  have k0 := Rat.le_of_lt hp
  have e : k * (1 + l) / 2 = k * ((1 + l) / 2) := by grind
  rw [e]
  have y0 : 0 ≤ (1 + l) / 2 := by grind
  have y1 : (1 + l) / 2 ≤ 1 := by grind
  have y2 : (1 + l) / 2 ≤ (1 + c) / 2 := by grind
  generalize (1 + l) / 2 = y at *
  have s1 := Rat.mul_nonneg (Rat.mul_nonneg k0 k0) (Rat.mul_nonneg y0 (show 0 ≤ 1 - y by grind))
  have s2 := Rat.mul_nonneg (Rat.mul_nonneg k0 k0) (show 0 ≤ (1 + c) / 2 - y by grind)
  have s3 := Rat.mul_nonneg (show 0 ≤ dd - k * k by grind) (show 0 ≤ (1 + c) / 2 by grind)
  grind
theorem arcs_in {i : Nat} {m u d : Vc} {t : List Vc} {r far : Rat} {lf : Bool} (hu : Un u) (hc : Chn Nxt u t) (ht : t ≠ []) (hr : 0 < r) (hf : 0 < far) (hp : Pair (u :: t) d) (hi : vdot d d ≤ (r + far) * (r + far)) (lo : far < r → (r - far) * (r - far) ≤ vdot d d) :
    InB (secs i m (u :: t) (innerV r (u :: t) far) (r + far) lf) (vadd m d) := by
  obtain ⟨z, hz, uz, hN, h1, h2⟩ := hp
  obtain ⟨i0, i1⟩ := inner_rng hu hc ht hr hf
  obtain ⟨l0, _⟩ := lsD_rng hu hc ht
  have ll := lsD_le z hz
  obtain ⟨n1, n2, n3, n4, n5, n6⟩ := cone_num uz hN h1 h2
  have rf : 0 ≤ r + far := by grind
  have key : InB (secP i m z.1 z.2 (innerV r (u :: t) far) (r + far)) (vadd m d) := by
    refine sec_in uz hN h1 h2 (dot_le uz rf hi) (dot_le hN.1 rf hi) i0 (Rat.le_of_lt i1) (fun hh => ?_) fun hh => ?_
    · unfold innerV
      split
      · exact n1
      · rename_i hc
        have hk : far < r := by grind
        exact inner_le hk l0 ll n3 (lo hk) (half_num hN.2.2 n3 n1 hh n4 n6) n1
    · unfold innerV
      split
      · exact n2
      · rename_i hc
        have hk : far < r := by grind
        exact inner_le hk l0 ll n3 (lo hk) (half_num hN.2.2 n3 n2 hh n5 (by grind)) n2
  rw [InB.iff, secs_s, ← InB.iff]
  obtain ⟨x, hx, h⟩ := key
  exact ⟨x, List.mem_flatMap.mpr ⟨z, hz, hx⟩, h⟩
theorem arc_bnd {x e : Vc} {r far : Rat} (hx : Un x) (hr : 0 < r) (hf : 0 < far) (he : vdot e e ≤ far * far) : vdot (vadd (vscl x r) e) (vadd (vscl x r) e) ≤ (r + far) * (r + far) ∧ (far < r → (r - far) * (r - far) ≤ vdot (vadd (vscl x r) e) (vadd (vscl x r) e)) := by
  have h1 := dot_le hx (Rat.le_of_lt hf) he
  have h2 := dot_ge hx (Rat.le_of_lt hf) he
  have hx : x.1 * x.1 + x.2 * x.2 = 1 := hx
  have e1 : vdot (vadd (vscl x r) e) (vadd (vscl x r) e) = r * r * (x.1 * x.1 + x.2 * x.2) + 2 * (r * vdot x e) + vdot e e := by unfold vdot vadd vscl; simp only; grind
  have m1 := Rat.mul_nonneg (Rat.le_of_lt hr) (show 0 ≤ far - vdot x e by grind)
  have m2 := Rat.mul_nonneg (Rat.le_of_lt hr) (show 0 ≤ vdot x e + far by grind)
  refine ⟨by rw [e1, hx]; grind, fun hk => ?_⟩
  have e2 : vdot e e * (x.1 * x.1 + x.2 * x.2) = vdot x e * vdot x e + vcrs x e * vcrs x e := by unfold vdot vcrs; grind
  rw [hx] at e2
  have := sq_nn (vcrs x e)
  have s := sqle (a := r - far) (b := r + vdot x e) (by grind) (by grind)
  rw [e1, hx]
  grind
/-- the distance to a point of the round -/
theorem sq_round {m d a : Vc} {r : Rat} (ha : Un a) : sqd (vadd m d) (vadd m (vscl a r)) = vdot d d - 2 * (r * vdot a d) + r * r := by
  have ha : a.1 * a.1 + a.2 * a.2 = 1 := ha
  have : sqd (vadd m d) (vadd m (vscl a r)) = vdot d d - 2 * (r * vdot a d) + r * r * (a.1 * a.1 + a.2 * a.2) := by unfold sqd vdot vsub vadd vscl; simp only; grind
  rw [this, ha]; grind
theorem lt_of_mul {k x y : Rat} (hk : 0 < k) (h : k * x ≤ k * y) : x ≤ y := by
  rcases rat_tri x y with z | z | z
  · exact Rat.le_of_lt z
  · rw [z]; exact Rat.le_refl
  · have := pmul hk (show 0 < x - y by grind)
    exfalso; grind
theorem chain_fx {d w x : Vc} : ∀ {t : List Vc} {u : Vc}, Un u → Chn Nxt u t → (u :: t).getLast? = some w → x ∈ u :: t → 0 ≤ vcrs x d → Pair (u :: t) d ∨ vdot x d ≤ vdot w d
  | t, u, hu, hc, hw, hx, h0 => by
    rcases List.mem_cons.mp hx with rfl | hx
    · rcases chain_f hu hc hw h0 with h | ⟨_, h⟩ | ⟨h, _⟩
      · exact .inl h
      · rw [h]; exact .inr Rat.le_refl
      · exact .inr (Rat.le_of_lt h)
    · match t, hc, hw, hx with
      | v :: r, hc, hw, hx =>
        rw [List.getLast?_cons_cons] at hw
        rcases chain_fx (t := r) hc.1.1 hc.2 hw hx h0 with h | h
        · exact .inl h.cons
        · exact .inr h
theorem chain_bx {d x : Vc} : ∀ {t : List Vc} {u : Vc}, Un u → Chn Nxt u t → x ∈ u :: t → 0 ≤ vcrs d x → Pair (u :: t) d ∨ x = u ∨ (vdot x d < vdot u d ∧ 0 < vcrs d u)
  | t, u, hu, hc, hx, h0 => by
    rcases List.mem_cons.mp hx with rfl | hx
    · exact .inr (.inl rfl)
    · match t, hc, hx with
      | v :: r, hc, hx =>
        obtain ⟨hN, hc⟩ := hc
        have fin : 0 ≤ vcrs d v → vdot x d ≤ vdot v d → Pair (u :: v :: r) d ∨ x = u ∨ (vdot x d < vdot u d ∧ 0 < vcrs d u) := fun h1 h2 => by
          by_cases hk : 0 ≤ vcrs u d
          · exact .inl (pair_one hu hN hk h1)
          · rw [crs_swap] at h1
            have := dot_back (d := d) hu hN (by grind)
            exact .inr (.inr ⟨by grind, by rw [crs_swap]; grind⟩)
        rcases chain_bx (t := r) hN.1 hc hx h0 with h | h | ⟨h, h'⟩
        · exact .inl h.cons
        · rw [h] at h0 fin ⊢
          exact fin h0 Rat.le_refl
        · exact fin (Rat.le_of_lt h') (Rat.le_of_lt h)
section
variable {i st : Nat} {m a c d e : Vc} {r far : Rat} {lf : Bool}
theorem arc_first (ha : Un a) (hc : Un c) (hne : a ≠ c) (s0 : 0 < st) (hr : 0 < r) (hf : 0 < far) (hd : d = vadd (vscl a r) e) (he : vdot e e ≤ far * far) (hn : vdot c d ≤ vdot a d) (hx : 0 ≤ vcrs a d) :
    InB (secs i m (uni a c st) (innerV r (uni a c st) far) (r + far) lf) (vadd m d) := by
  obtain ⟨t, eu, hC⟩ := uni_chn ha hc s0
  have hl := uni_end (n := st) ha hc s0
  rw [eu] at hl ⊢
  have ht : t ≠ [] := fun z => by rw [z] at hl; exact hne (Option.some.inj hl)
  obtain ⟨b1, b2⟩ := arc_bnd ha hr hf he
  rw [← hd] at b1 b2
  rcases chain_f ha hC hl hx with h | ⟨h, _⟩ | ⟨h, _⟩
  · exact arcs_in ha hC ht hr hf h b1 b2
  · exact absurd h ht
  · exfalso; grind
theorem arc_last (ha : Un a) (hc : Un c) (hne : a ≠ c) (s0 : 0 < st) (hr : 0 < r) (hf : 0 < far) (hd : d = vadd (vscl c r) e) (he : vdot e e ≤ far * far) (hn : vdot a d ≤ vdot c d) (hx : 0 ≤ vcrs d c) :
    InB (secs i m (uni a c st) (innerV r (uni a c st) far) (r + far) lf) (vadd m d) := by
  obtain ⟨t, eu, hC⟩ := uni_chn ha hc s0
  have hl := uni_end (n := st) ha hc s0
  rw [eu] at hl ⊢
  have ht : t ≠ [] := fun z => by rw [z] at hl; exact hne (Option.some.inj hl)
  obtain ⟨b1, b2⟩ := arc_bnd hc hr hf he
  rw [← hd] at b1 b2
  rcases chain_b ha hC hl hx with h | ⟨h, _⟩ | ⟨h, _⟩
  · exact arcs_in ha hC ht hr hf h b1 b2
  · exact absurd h ht
  · exfalso; grind
/-- near a unit of the arc: in a sector, or near an end -/
theorem arc_near {x : Vc} (ha : Un a) (hc : Un c) (hne : a ≠ c) (s0 : 0 < st) (hr : 0 < r) (hf : 0 < far) (hx : x ∈ uni a c st) (hd : d = vadd (vscl x r) e) (he : vdot e e ≤ far * far) :
    InB (secs i m (uni a c st) (innerV r (uni a c st) far) (r + far) lf) (vadd m d) ∨ vdot x d ≤ vdot a d ∨ vdot x d ≤ vdot c d := by
  obtain ⟨t, eu, hC⟩ := uni_chn ha hc s0
  have hl := uni_end (n := st) ha hc s0
  rw [eu] at hl hx ⊢
  have ht : t ≠ [] := fun z => by rw [z] at hl; exact hne (Option.some.inj hl)
  have ux : Un x := by
    rcases List.mem_cons.mp hx with rfl | hx
    · exact ha
    · exact chn_unB hC x hx
  obtain ⟨b1, b2⟩ := arc_bnd ux hr hf he
  rw [← hd] at b1 b2
  by_cases h0 : 0 ≤ vcrs x d
  · rcases chain_fx ha hC hl hx h0 with h | h
    · exact .inl (arcs_in ha hC ht hr hf h b1 b2)
    · exact .inr (.inr h)
  · rcases chain_bx ha hC hx (d := d) (by rw [crs_swap]; grind) with h | h | ⟨h, _⟩
    · exact .inl (arcs_in ha hC ht hr hf h b1 b2)
    · rw [h]; exact .inr (.inl Rat.le_refl)
    · exact .inr (.inl (Rat.le_of_lt h))
end
theorem uv_back {v : Vc} (h : HasLen v) : vscl (uv v) (len v) = v := by
  obtain ⟨l0, _⟩ := len_spec h
  have l1 : len v ≠ 0 := by grind
  unfold uv vscl
  exact Prod.ext (Rat.div_mul_cancel l1) (Rat.div_mul_cancel l1)
theorem add_back {a b : Vc} : vadd b (vsub a b) = a := Prod.ext (by show b.1 + (a.1 - b.1) = a.1; grind) (by show b.2 + (a.2 - b.2) = a.2; grind)
end
section
open PySem PySem.Spec PyProof.Rows L2
theorem InB.mono {as bs : List Blk} {q : Vc} (h : InB as q) (k : ∀ x ∈ as, x ∈ bs) : InB bs q := by
  obtain ⟨x, hx, h⟩ := h
  exact ⟨x, k x hx, h⟩
section
variable {p : Pth} {far : Rat} {st : Nat} {q : Vc}
theorem InB.own {i : Nat} (hi : i < p.2.length) (h : InB (ownB p i far st) q) : InB (blkM p far st) q :=
  h.mono fun x hx => List.mem_append_left _ (List.mem_append_right _ (List.mem_flatMap.mpr ⟨i, List.mem_range.mpr hi, List.mem_append_left _ hx⟩))
theorem InB.cap1 (hc : ¬ closed p) (h : InS (capS p far st).s q) : InB (blkM p far st) q := by
  refine ⟨_, List.mem_append_left _ (List.mem_append_left _ ?_), h⟩
  rw [if_neg hc]; exact List.mem_singleton.mpr rfl
theorem InB.cap2 (hc : ¬ closed p) (h : InS (capE p far st).s q) : InB (blkM p far st) q := by
  refine ⟨_, List.mem_append_right _ ?_, h⟩
  rw [if_neg hc]; exact List.mem_singleton.mpr rfl
theorem prv_next {n j : Nat} (hj : j < n) : prv n j < n ∧ (prv n j + 1) % n = j := by
  unfold prv
  split
  · exact ⟨by omega, by rw [Nat.sub_add_cancel (by omega)]; exact Nat.mod_eq_of_lt hj⟩
  · have : j = 0 := by omega
    subst this
    exact ⟨by omega, by rw [Nat.sub_add_cancel (by omega), Nat.mod_self]⟩
theorem InB.fan {j : Nat} (hj : j < p.2.length) (hc : 0 < j ∨ closed p) (h : InB (cFans p j (begN p j) far st) q) : InB (blkM p far st) q := by
  obtain ⟨h1, h2⟩ := prv_next hj
  have hm : j ∈ crns p := List.mem_filter.mpr ⟨List.mem_range.mpr hj, decide_eq_true hc⟩
  refine h.mono fun x hx => List.mem_append_left _ (List.mem_append_right _ (List.mem_flatMap.mpr ⟨prv p.2.length j, List.mem_range.mpr h1, List.mem_append_right _ ?_⟩))
  rw [h2, if_pos hm]
  exact hx
theorem side_in {i : Nat} {b t d : Vc} (hl : HasLen (vsub t b)) (hf : 0 < far) (d0 : 0 ≤ vdot (uv (vsub t b)) d) (d1 : vdot (uv (vsub t b)) d ≤ len (vsub t b)) (c : -far ≤ vcrs (uv (vsub t b)) d ∧ vcrs (uv (vsub t b)) d ≤ far) :
    InB [stripB i b t far] (vadd b d) := by
  obtain ⟨l0, _⟩ := len_spec hl
  have e : vadd b (vscl (uv (vsub t b)) (len (vsub t b))) = t := by rw [uv_back hl, add_back]
  refine ⟨_, List.mem_cons_self, ?_⟩
  have := strip_in (b := b) (l := len (vsub t b)) (uv_un hl) (Rat.le_of_lt l0) (Rat.le_of_lt hf) d0 d1 c.1 c.2
  rw [e] at this
  exact this
theorem sub_add {q b : Vc} : vadd b (vsub q b) = q := add_back
theorem own_side' {i : Nat} {t b : Vc} (h : p.2[i]? = some (.side t)) (hb : (ends p)[i]? = some b) : ownB p i far st = [stripB i b t far] := by
  unfold ownB; rw [h, begN_eq hb]
theorem own_arc' {i : Nat} {m t b : Vc} {lf : Bool} (h : p.2[i]? = some (.arc m t lf)) (hb : (ends p)[i]? = some b) : ownB p i far st = arcB i b m t lf far st := by
  unfold ownB; rw [h, begN_eq hb]
theorem hAt_dot {m x d : Vc} {lf : Bool} : vdot (hAt m lf x) d = (if lf = true then vcrs (uv (vsub x m)) d else -vcrs (uv (vsub x m)) d) := by
  unfold hAt
  split
  · unfold vdot vlft vcrs; simp only; grind
  · unfold vdot vlft vneg vcrs; simp only; grind
theorem uv_ne {b m t : Vc} (hb : HasLen (vsub b m)) (ht : HasLen (vsub t m)) (hl : len (vsub t m) = len (vsub b m)) (hne : t ≠ b) : uv (vsub b m) ≠ uv (vsub t m) := fun z => hne (by
  have e1 := uv_back hb
  have e2 := uv_back ht
  rw [← z, hl] at e2
  have : vsub t m = vsub b m := by rw [← e2, e1]
  have h1 := congrArg Prod.fst this
  have h2 := congrArg Prod.snd this
  have h1 : t.1 - m.1 = b.1 - m.1 := h1
  have h2 : t.2 - m.2 = b.2 - m.2 := h2
  exact Prod.ext (by grind) (by grind))
/-- near its begin, no further from it than from its end, ahead of it -/
theorem own_out {i : Nat} {pc : Pc} {b : Vc} (hq : p.2[i]? = some pc) (hb : (ends p)[i]? = some b) (ok : PcOk b pc) (s0 : 0 < st) (hf : 0 < far)
    (H : sqd q b ≤ far * far) (hn : sqd q b ≤ sqd q pc.to) (hh : 0 ≤ vdot (hdQ b pc).1 (vsub q b)) : InB (ownB p i far st) q := by
  cases pc with
  | side t =>
    rw [own_side' hq hb]
    obtain ⟨_, hl⟩ := ok
    obtain ⟨l0, _⟩ := len_spec hl
    have e := uv_back hl
    have hu := uv_un hl
    have c := crs_le hu (Rat.le_of_lt hf) H
    have hh : 0 ≤ vdot (uv (vsub t b)) (vsub q b) := hh
    have : sqd q t = sqd q b - 2 * (len (vsub t b) * vdot (uv (vsub t b)) (vsub q b)) + len (vsub t b) * len (vsub t b) := by
      have := sq_round (m := b) (d := vsub q b) (r := len (vsub t b)) hu
      rw [e, sub_add, add_back] at this
      exact this
    have hn : sqd q b ≤ sqd q t := hn
    rw [this] at hn
    have h2 : len (vsub t b) * (2 * vdot (uv (vsub t b)) (vsub q b)) ≤ len (vsub t b) * len (vsub t b) := by grind
    have := lt_of_mul l0 h2
    have := side_in (i := i) (far := far) (d := vsub q b) hl hf hh (by grind) c
    rw [sub_add] at this
    exact this
  | arc m t lf =>
    rw [own_arc' hq hb]
    obtain ⟨hne, hl1, hl2, hll⟩ := ok
    obtain ⟨l0, _⟩ := len_spec hl2
    have u1 := uv_un hl1
    have u2 := uv_un hl2
    have ne := uv_ne hl1 hl2 hll hne
    have e1 : vadd m (vscl (uv (vsub b m)) (len (vsub t m))) = b := by rw [hll, uv_back hl1, add_back]
    have e2 : vadd m (vscl (uv (vsub t m)) (len (vsub t m))) = t := by rw [uv_back hl2, add_back]
    have q1 := sq_round (m := m) (d := vsub q m) (r := len (vsub t m)) u1
    have q2 := sq_round (m := m) (d := vsub q m) (r := len (vsub t m)) u2
    rw [e1, sub_add] at q1
    rw [e2, sub_add] at q2
    have hn : sqd q b ≤ sqd q t := hn
    rw [q1, q2] at hn
    have hd : vdot (uv (vsub t m)) (vsub q m) ≤ vdot (uv (vsub b m)) (vsub q m) := lt_of_mul l0 (by grind)
    have ed : vsub q m = vadd (vscl (uv (vsub b m)) (len (vsub t m))) (vsub q b) := by
      rw [hll, uv_back hl1]
      exact Prod.ext (by show q.1 - m.1 = (b.1 - m.1) + (q.1 - b.1); grind) (by show q.2 - m.2 = (b.2 - m.2) + (q.2 - b.2); grind)
    have hx : vdot (hdQ b (.arc m t lf)).1 (vsub q b) = vdot (hAt m lf b) (vsub q b) := rfl
    rw [hx, hAt_dot] at hh
    have cx : vcrs (uv (vsub b m)) (vsub q b) = vcrs (uv (vsub b m)) (vsub q m) := by
      rw [ed]; unfold vcrs vadd vscl; simp only; grind
    rw [cx] at hh
    have fin : InB (arcB i b m t lf far st) (vadd m (vsub q m)) := by
      unfold arcB aUnits
      cases lf with
      | true =>
        simp only [if_true] at hh ⊢
        exact arc_first u1 u2 ne s0 l0 hf ed H hd hh
      | false =>
        simp only [Bool.false_eq_true, if_false] at hh ⊢
        exact arc_last u2 u1 (fun z => ne z.symm) s0 l0 hf ed H hd (by rw [crs_swap]; exact hh)
    rw [sub_add] at fin
    exact fin
/-- near its end, no further from it than from its begin, behind it -/
theorem own_in {i : Nat} {pc : Pc} {b : Vc} (hq : p.2[i]? = some pc) (hb : (ends p)[i]? = some b) (ok : PcOk b pc) (s0 : 0 < st) (hf : 0 < far)
    (H : sqd q pc.to ≤ far * far) (hn : sqd q pc.to ≤ sqd q b) (hh : vdot (hdQ b pc).2 (vsub q pc.to) ≤ 0) : InB (ownB p i far st) q := by
  cases pc with
  | side t =>
    rw [own_side' hq hb]
    obtain ⟨_, hl⟩ := ok
    obtain ⟨l0, _⟩ := len_spec hl
    have e := uv_back hl
    have hu := uv_un hl
    have H : sqd q t ≤ far * far := H
    have c := crs_le hu (Rat.le_of_lt hf) H
    have hh : vdot (uv (vsub t b)) (vsub q t) ≤ 0 := hh
    have et : vsub q b = vadd (vscl (uv (vsub t b)) (len (vsub t b))) (vsub q t) := by
      rw [e]
      exact Prod.ext (by show q.1 - b.1 = (t.1 - b.1) + (q.1 - t.1); grind) (by show q.2 - b.2 = (t.2 - b.2) + (q.2 - t.2); grind)
    have hu' : (uv (vsub t b)).1 * (uv (vsub t b)).1 + (uv (vsub t b)).2 * (uv (vsub t b)).2 = 1 := hu
    have ed : vdot (uv (vsub t b)) (vsub q b) = len (vsub t b) + vdot (uv (vsub t b)) (vsub q t) := by
      rw [et]
      have : vdot (uv (vsub t b)) (vadd (vscl (uv (vsub t b)) (len (vsub t b))) (vsub q t)) = len (vsub t b) * ((uv (vsub t b)).1 * (uv (vsub t b)).1 + (uv (vsub t b)).2 * (uv (vsub t b)).2) + vdot (uv (vsub t b)) (vsub q t) := by
        unfold vdot vadd vscl; simp only; grind
      rw [this, hu']; grind
    have ec : vcrs (uv (vsub t b)) (vsub q b) = vcrs (uv (vsub t b)) (vsub q t) := by
      rw [et]; unfold vcrs vadd vscl; simp only; grind
    have : sqd q t = sqd q b - 2 * (len (vsub t b) * vdot (uv (vsub t b)) (vsub q b)) + len (vsub t b) * len (vsub t b) := by
      have := sq_round (m := b) (d := vsub q b) (r := len (vsub t b)) hu
      rw [e, sub_add, add_back] at this
      exact this
    have hn : sqd q t ≤ sqd q b := hn
    rw [this] at hn
    have h2 : len (vsub t b) * len (vsub t b) ≤ len (vsub t b) * (2 * vdot (uv (vsub t b)) (vsub q b)) := by grind
    have := lt_of_mul l0 h2
    have := side_in (i := i) (far := far) (d := vsub q b) hl hf (by grind) (by rw [ed]; grind) (by rw [ec]; exact c)
    rw [sub_add] at this
    exact this
  | arc m t lf =>
    rw [own_arc' hq hb]
    obtain ⟨hne, hl1, hl2, hll⟩ := ok
    obtain ⟨l0, _⟩ := len_spec hl2
    have u1 := uv_un hl1
    have u2 := uv_un hl2
    have ne := uv_ne hl1 hl2 hll hne
    have e1 : vadd m (vscl (uv (vsub b m)) (len (vsub t m))) = b := by rw [hll, uv_back hl1, add_back]
    have e2 : vadd m (vscl (uv (vsub t m)) (len (vsub t m))) = t := by rw [uv_back hl2, add_back]
    have q1 := sq_round (m := m) (d := vsub q m) (r := len (vsub t m)) u1
    have q2 := sq_round (m := m) (d := vsub q m) (r := len (vsub t m)) u2
    rw [e1, sub_add] at q1
    rw [e2, sub_add] at q2
    have hn : sqd q t ≤ sqd q b := hn
    rw [q1, q2] at hn
    have hd : vdot (uv (vsub b m)) (vsub q m) ≤ vdot (uv (vsub t m)) (vsub q m) := lt_of_mul l0 (by grind)
    have ed : vsub q m = vadd (vscl (uv (vsub t m)) (len (vsub t m))) (vsub q t) := by
      rw [uv_back hl2]
      exact Prod.ext (by show q.1 - m.1 = (t.1 - m.1) + (q.1 - t.1); grind) (by show q.2 - m.2 = (t.2 - m.2) + (q.2 - t.2); grind)
    have hx : vdot (hdQ b (.arc m t lf)).2 (vsub q (Pc.arc m t lf).to) = vdot (hAt m lf t) (vsub q t) := rfl
    rw [hx, hAt_dot] at hh
    have cx : vcrs (uv (vsub t m)) (vsub q t) = vcrs (uv (vsub t m)) (vsub q m) := by
      rw [ed]; unfold vcrs vadd vscl; simp only; grind
    rw [cx] at hh
    have fin : InB (arcB i b m t lf far st) (vadd m (vsub q m)) := by
      unfold arcB aUnits
      cases lf with
      | true =>
        simp only [if_true] at hh ⊢
        exact arc_last u1 u2 ne s0 l0 hf ed H hd (by rw [crs_swap]; grind)
      | false =>
        simp only [Bool.false_eq_true, if_false] at hh ⊢
        exact arc_first u2 u1 (fun z => ne z.symm) s0 l0 hf ed H hd (by grind)
    rw [sub_add] at fin
    exact fin
theorem fanB_in {w : Str} {i : Nat} {b u v d : Vc} {m : Mk} (hu : Un u) (hv : Un v) (s0 : 0 < st) (hf : 0 < far) (h1 : 0 ≤ vcrs u d) (h2 : 0 ≤ vcrs d v) (hd : vdot d d ≤ far * far) : InS (fanB w i b (uni u v st) far m).s (vadd b d) := by
  obtain ⟨t, eu, hC⟩ := uni_chn hu hv s0
  have hl := uni_end (n := st) hu hv s0
  rw [eu] at hl ⊢
  exact fan_in (Rat.le_of_lt hf) hu hC hl h1 h2 hd
theorem rgt_crs {u d : Vc} : vcrs (vrgt u) d = vdot u d := by unfold vcrs vrgt vneg vlft vdot; simp only; grind
theorem crs_rgt' {u d : Vc} : vcrs d (vrgt u) = -vdot u d := by unfold vcrs vrgt vneg vlft vdot; simp only; grind
theorem lft_crs {u d : Vc} : vcrs (vlft u) d = -vdot u d := by unfold vcrs vlft vdot; simp only; grind
theorem crs_lft' {u d : Vc} : vcrs d (vlft u) = vdot u d := by unfold vcrs vlft vdot; simp only; grind
theorem corner_in {j : Nat} {d : Vc} (hu : Un (cnU p j)) (hw : Un (cnW p j)) (s0 : 0 < st) (hf : 0 < far) (h1 : 0 < vdot (cnU p j) d) (h2 : vdot (cnW p j) d < 0) (hd : vdot d d ≤ far * far) : InB (cFans p j (begN p j) far st) (vadd (begN p j) d) := by
  have ne : cnU p j ≠ cnW p j := fun z => by rw [z] at h1; grind
  have h1' := Rat.le_of_lt h1
  unfold cFans
  rw [if_neg ne]
  refine ⟨_, List.mem_cons_self, ?_⟩
  unfold cUnits
  rw [if_neg ne]
  split
  · exact fanB_in (un_rgt hu) (un_rgt hw) s0 hf (by rw [rgt_crs]; exact h1') (by rw [crs_rgt']; grind) hd
  · split
    · exact fanB_in hw.lft hu.lft s0 hf (by rw [lft_crs]; grind) (by rw [crs_lft']; exact h1') hd
    · exact fanB_in (un_rgt hu) hu.lft s0 hf (by rw [rgt_crs]; exact h1') (by rw [crs_lft']; exact h1') hd
theorem least_of (f : Nat → Rat) : ∀ n, ∃ j, j ≤ n ∧ ∀ i, i ≤ n → f j ≤ f i
  | 0 => ⟨0, Nat.le_refl _, fun i hi => by rw [Nat.le_zero.mp hi]; exact Rat.le_refl⟩
  | n + 1 => by
    obtain ⟨j, hj, h⟩ := least_of f n
    by_cases hk : f j ≤ f (n + 1)
    · refine ⟨j, by omega, fun i hi => ?_⟩
      rcases Nat.lt_or_ge i (n + 1) with z | z
      · exact h i (by omega)
      · rw [show i = n + 1 by omega]; exact hk
    · refine ⟨n + 1, Nat.le_refl _, fun i hi => ?_⟩
      rcases Nat.lt_or_ge i (n + 1) with z | z
      · have := h i (by omega)
        exact Rat.le_trans (by grind) this
      · rw [show i = n + 1 by omega]; exact Rat.le_refl
theorem piece_at (ok : PathOk p) {i : Nat} (hi : i < p.2.length) : ∃ pc, p.2[i]? = some pc ∧ (ends p)[i]? = some (begN p i) ∧ PcOk (begN p i) pc ∧ begN p (i + 1) = pc.to ∧ hdN p i = hdQ (begN p i) pc := by
  have hq : p.2[i]? = some p.2[i] := List.getElem?_eq_getElem hi
  obtain ⟨b, hb⟩ := beg_get hq
  have := begN_eq hb
  rw [this]
  exact ⟨_, hq, hb, ok.get hq hb, begN_eq (ends_succ hq), hdN_eq hq hb⟩
theorem closed_iff : closed p ↔ begN p p.2.length = p.1 := by
  have hne : ends p ≠ [] := by unfold ends; exact List.cons_ne_nil _ _
  unfold closed begN
  rw [List.getLast?_eq_getElem?, ends_len, Nat.add_sub_cancel, List.getElem?_eq_getElem (by rw [ends_len]; omega)]
  exact ⟨fun z => Option.some.inj z, fun z => congrArg some z⟩
theorem hdN_un (ok : PathOk p) {i : Nat} (hi : i < p.2.length) : Un (hdN p i).1 ∧ Un (hdN p i).2 := by
  obtain ⟨pc, hq, hb, hok, _, hh⟩ := piece_at ok hi
  rw [hh]
  have ha : ∀ {m x : Vc} {lf : Bool}, HasLen (vsub x m) → Un (hAt m lf x) := fun {m x lf} h => by
    unfold hAt
    split
    · exact (uv_un h).lft
    · exact un_vneg (uv_un h).lft
  cases pc with
  | side t => exact ⟨uv_un hok.2, uv_un hok.2⟩
  | arc m t lf => exact ⟨ha hok.2.1, ha hok.2.2.1⟩
theorem near_end (ok : PathOk p) (s0 : 0 < st) (hf : 0 < far) {k : Nat} (hk : k ≤ p.2.length) (H : sqd q (begN p k) ≤ far * far) : InB (blkM p far st) q := by
  have hn : 0 < p.2.length := List.length_pos_iff.mpr ok.ne
  have b0 : begN p 0 = p.1 := rfl
  -- the nearest end
  obtain ⟨j, hj, hm⟩ := least_of (fun i => sqd q (begN p i)) p.2.length
  have Hj : sqd q (begN p j) ≤ far * far := Rat.le_trans (hm k hk) H
  have outp : ∀ j, j < p.2.length → (∀ i, i ≤ p.2.length → sqd q (begN p j) ≤ sqd q (begN p i)) → sqd q (begN p j) ≤ far * far → 0 ≤ vdot (hdN p j).1 (vsub q (begN p j)) → InB (blkM p far st) q := fun j hj hm Hj hh => by
    obtain ⟨pc, hq, hb, hok, ht, hd⟩ := piece_at ok hj
    rw [hd] at hh
    exact (own_out hq hb hok s0 hf Hj (by rw [← ht]; exact hm _ hj) hh).own hj
  have inp : ∀ i, i < p.2.length → (∀ k, k ≤ p.2.length → sqd q (begN p (i + 1)) ≤ sqd q (begN p k)) → sqd q (begN p (i + 1)) ≤ far * far → vdot (hdN p i).2 (vsub q (begN p (i + 1))) ≤ 0 → InB (blkM p far st) q := fun i hi hm Hj hh => by
    obtain ⟨pc, hq, hb, hok, ht, hd⟩ := piece_at ok hi
    rw [hd, ht] at hh
    rw [ht] at Hj hm
    exact (own_in hq hb hok s0 hf Hj (hm _ (by omega)) hh).own hi
  have cor : ∀ j, j < p.2.length → (0 < j ∨ closed p) → begN p (prv p.2.length j + 1) = begN p j → (∀ i, i ≤ p.2.length → sqd q (begN p j) ≤ sqd q (begN p i)) → sqd q (begN p j) ≤ far * far → InB (blkM p far st) q := fun j hj hc hb hm Hj => by
    obtain ⟨p1, p2⟩ := prv_next hj
    by_cases h1 : 0 ≤ vdot (hdN p j).1 (vsub q (begN p j))
    · exact outp j hj hm Hj h1
    by_cases h2 : vdot (hdN p (prv p.2.length j)).2 (vsub q (begN p j)) ≤ 0
    · exact inp (prv p.2.length j) p1 (by rw [hb]; exact hm) (by rw [hb]; exact Hj) (by rw [hb]; exact h2)
    · have := corner_in (p := p) (j := j) (far := far) (st := st) (d := vsub q (begN p j)) (hdN_un ok p1).2 (hdN_un ok hj).1 s0 hf (by show 0 < vdot (hdN p (prv p.2.length j)).2 _; grind) (by show vdot (hdN p j).1 _ < 0; grind) Hj
      rw [sub_add] at this
      exact this.fan hj hc
  by_cases hc : closed p
  · have hcl := closed_iff.mp hc
    -- the end is the begin
    by_cases hjn : j = p.2.length
    · subst hjn
      refine cor 0 hn (.inr hc) (by rw [show prv p.2.length 0 + 1 = p.2.length by unfold prv; rw [if_neg (by omega)]; omega, hcl, b0]) ?_ ?_
      · rw [b0, ← hcl]; exact hm
      · rw [b0, ← hcl]; exact Hj
    · refine cor j (by omega) (.inr hc) ?_ hm Hj
      by_cases h0 : j = 0
      · subst h0
        rw [show prv p.2.length 0 + 1 = p.2.length by unfold prv; rw [if_neg (by omega)]; omega, hcl, b0]
      · rw [show prv p.2.length j + 1 = j by unfold prv; rw [if_pos (by omega)]; omega]
  · by_cases h0 : j = 0
    · subst h0
      by_cases h1 : 0 ≤ vdot (hdN p 0).1 (vsub q (begN p 0))
      · exact outp 0 hn hm Hj h1
      · refine InB.cap1 hc ?_
        have hu := (hdN_un ok hn).1
        have := fanB_in (w := "cap") (i := 0) (b := p.1) (far := far) (st := st) (d := vsub q p.1) (m := .e) hu.lft (un_rgt hu) s0 hf (by rw [lft_crs]; rw [b0] at h1; grind) (by rw [crs_rgt']; rw [b0] at h1; grind) Hj
        rw [sub_add] at this
        exact this
    · by_cases hjn : j = p.2.length
      · subst hjn
        have hl : p.2.length - 1 < p.2.length := by omega
        have hl' : p.2.length - 1 + 1 = p.2.length := by omega
        by_cases h1 : vdot (hdN p (p.2.length - 1)).2 (vsub q (begN p p.2.length)) ≤ 0
        · exact inp (p.2.length - 1) hl (by rw [hl']; exact hm) (by rw [hl']; exact Hj) (by rw [hl']; exact h1)
        · refine InB.cap2 hc ?_
          have hu := (hdN_un ok hl).2
          have := fanB_in (w := "cap") (i := p.2.length - 1) (b := begN p p.2.length) (far := far) (st := st) (d := vsub q (begN p p.2.length)) (m := .e) (un_rgt hu) hu.lft s0 hf (by rw [rgt_crs]; grind) (by rw [crs_lft']; grind) Hj
          rw [sub_add] at this
          exact this
      · exact cor j (by omega) (.inl (by omega)) (by rw [show prv p.2.length j + 1 = j by unfold prv; rw [if_pos (by omega)]; omega]) hm Hj
theorem near_side (ok : PathOk p) (s0 : 0 < st) (hf : 0 < far) {i : Nat} {t : Vc} (hi : p.2[i]? = some (.side t)) {g : Rat} {e : Vc} (g0 : 0 ≤ g) (g1 : g ≤ len (vsub t (begN p i))) (he : vdot e e ≤ far * far) (hx : q = vadd (vadd (begN p i) (vscl (uv (vsub t (begN p i))) g)) e) : InB (blkM p far st) q := by
  have hil := (List.getElem?_eq_some_iff.mp hi).1
  obtain ⟨pc, hq, hb, hok, ht, _⟩ := piece_at ok hil
  rw [hi] at hq
  cases hq
  have hl := hok.2
  have hu := uv_un hl
  have hu' : (uv (vsub t (begN p i))).1 * (uv (vsub t (begN p i))).1 + (uv (vsub t (begN p i))).2 * (uv (vsub t (begN p i))).2 = 1 := hu
  have eb := uv_back hl
  have c := crs_le hu (Rat.le_of_lt hf) he
  have ht : begN p (i + 1) = t := ht
  generalize hbb : begN p i = b at *
  generalize huu : uv (vsub t b) = u at *
  generalize hll : len (vsub t b) = l at *
  have ed : vsub q b = vadd (vscl u g) e := by rw [hx]; exact Prod.ext (by show b.1 + u.1 * g + e.1 - b.1 = u.1 * g + e.1; grind) (by show b.2 + u.2 * g + e.2 - b.2 = u.2 * g + e.2; grind)
  have e1 : vdot u (vsub q b) = g + vdot u e := by
    rw [ed]
    have : vdot u (vadd (vscl u g) e) = g * (u.1 * u.1 + u.2 * u.2) + vdot u e := by unfold vdot vadd vscl; simp only; grind
    rw [this, hu']; grind
  have e2 : vcrs u (vsub q b) = vcrs u e := by rw [ed]; unfold vcrs vadd vscl; simp only; grind
  have e3 : sqd q b = g * g + 2 * (g * vdot u e) + vdot e e := by
    show vdot (vsub q b) (vsub q b) = _
    rw [ed]
    have : vdot (vadd (vscl u g) e) (vadd (vscl u g) e) = g * g * (u.1 * u.1 + u.2 * u.2) + 2 * (g * vdot u e) + vdot e e := by unfold vdot vadd vscl; simp only; grind
    rw [this, hu']; grind
  by_cases h1 : vdot u (vsub q b) < 0
  · refine near_end ok s0 hf (k := i) (by omega) ?_
    rw [hbb, e3]
    have := Rat.mul_nonneg g0 (show 0 ≤ -(g + vdot u e) by grind)
    have := Rat.mul_nonneg g0 g0
    grind
  by_cases h2 : l < vdot u (vsub q b)
  · refine near_end ok s0 hf (k := i + 1) (by omega) ?_
    rw [ht]
    have : sqd q t = (l - g) * (l - g) - 2 * ((l - g) * vdot u e) + vdot e e := by
      have := sq_round (m := b) (d := vsub q b) (r := l) hu
      rw [eb, sub_add, add_back] at this
      rw [this, show vdot (vsub q b) (vsub q b) = sqd q b from rfl, e3, e1]
      grind
    rw [this]
    have n1 := Rat.mul_nonneg (show 0 ≤ l - g by grind) (show 0 ≤ vdot u e - (l - g) by grind)
    have n2 := Rat.mul_nonneg (show 0 ≤ l - g by grind) (show 0 ≤ l - g by grind)
    grind
  · refine InB.own hil ?_
    rw [own_side' hi hb]
    have := side_in (i := i) (far := far) (b := b) (t := t) (d := vsub q b) hl hf (by rw [huu]; grind) (by rw [huu, hll]; grind) (by rw [huu, e2]; exact c)
    rw [sub_add] at this
    exact this
theorem near_arc (ok : PathOk p) (s0 : 0 < st) (hf : 0 < far) {i : Nat} {m t : Vc} {lf : Bool} (hi : p.2[i]? = some (.arc m t lf)) {x e : Vc} (hxm : x ∈ aUnits (begN p i) m t lf st) (he : vdot e e ≤ far * far) (hx : q = vadd (vadd m (vscl x (len (vsub t m)))) e) : InB (blkM p far st) q := by
  have hil := (List.getElem?_eq_some_iff.mp hi).1
  obtain ⟨pc, hq, hb, hok, ht, _⟩ := piece_at ok hil
  rw [hi] at hq
  cases hq
  obtain ⟨hne, hl1, hl2, hll⟩ := hok
  have ht : begN p (i + 1) = t := ht
  have own := own_arc' (far := far) (st := st) hi hb
  generalize hbb : begN p i = b at *
  obtain ⟨l0, _⟩ := len_spec hl2
  have u1 := uv_un hl1
  have u2 := uv_un hl2
  have ne := uv_ne hl1 hl2 hll hne
  have e1 : vadd m (vscl (uv (vsub b m)) (len (vsub t m))) = b := by rw [hll, uv_back hl1, add_back]
  have e2 : vadd m (vscl (uv (vsub t m)) (len (vsub t m))) = t := by rw [uv_back hl2, add_back]
  have q1 := sq_round (m := m) (d := vsub q m) (r := len (vsub t m)) u1
  have q2 := sq_round (m := m) (d := vsub q m) (r := len (vsub t m)) u2
  rw [e1, sub_add] at q1
  rw [e2, sub_add] at q2
  have ux : Un x := by
    unfold aUnits at hxm
    split at hxm
    · exact (uni_chn (n := st) u1 u2 s0).elim fun t ⟨e, h⟩ => by
        rw [e] at hxm
        rcases List.mem_cons.mp hxm with z | z
        · rw [z]; exact u1
        · exact chn_unB h x z
    · exact (uni_chn (n := st) u2 u1 s0).elim fun t ⟨e, h⟩ => by
        rw [e] at hxm
        rcases List.mem_cons.mp hxm with z | z
        · rw [z]; exact u2
        · exact chn_unB h x z
  have ed : vsub q m = vadd (vscl x (len (vsub t m))) e := by rw [hx]; exact Prod.ext (by show m.1 + x.1 * _ + e.1 - m.1 = x.1 * _ + e.1; grind) (by show m.2 + x.2 * _ + e.2 - m.2 = x.2 * _ + e.2; grind)
  have q3 := sq_round (m := m) (d := vsub q m) (r := len (vsub t m)) ux
  rw [sub_add] at q3
  have q4 : sqd q (vadd m (vscl x (len (vsub t m)))) = vdot e e := by
    have : vsub q (vadd m (vscl x (len (vsub t m)))) = e := by rw [hx]; exact Prod.ext (by show m.1 + x.1 * _ + e.1 - (m.1 + x.1 * _) = e.1; grind) (by show m.2 + x.2 * _ + e.2 - (m.2 + x.2 * _) = e.2; grind)
    unfold sqd; rw [this]
  rw [q4] at q3
  have fb : vdot x (vsub q m) ≤ vdot (uv (vsub b m)) (vsub q m) → InB (blkM p far st) q := fun h => by
    refine near_end ok s0 hf (k := i) (by omega) ?_
    rw [hbb, q1]
    have := Rat.mul_nonneg (Rat.le_of_lt l0) (show 0 ≤ vdot (uv (vsub b m)) (vsub q m) - vdot x (vsub q m) by grind)
    grind
  have ft : vdot x (vsub q m) ≤ vdot (uv (vsub t m)) (vsub q m) → InB (blkM p far st) q := fun h => by
    refine near_end ok s0 hf (k := i + 1) (by omega) ?_
    rw [ht, q2]
    have := Rat.mul_nonneg (Rat.le_of_lt l0) (show 0 ≤ vdot (uv (vsub t m)) (vsub q m) - vdot x (vsub q m) by grind)
    grind
  have fin : InB (arcB i b m t lf far st) (vadd m (vsub q m)) → InB (blkM p far st) q := fun h => by
    rw [sub_add] at h
    exact InB.own hil (by rw [own]; exact h)
  unfold aUnits at hxm
  cases lf with
  | true =>
    simp only [if_true] at hxm
    rcases arc_near (i := i) (m := m) (lf := true) u1 u2 ne s0 l0 hf hxm ed he with h | h | h
    · refine fin ?_
      unfold arcB aUnits
      simp only [if_true]
      exact h
    · exact fb h
    · exact ft h
  | false =>
    simp only [Bool.false_eq_true, if_false] at hxm
    rcases arc_near (i := i) (m := m) (lf := false) u2 u1 (fun z => ne z.symm) s0 l0 hf hxm ed he with h | h | h
    · refine fin ?_
      unfold arcB aUnits
      simp only [Bool.false_eq_true, if_false]
      exact h
    · exact ft h
    · exact fb h
end
end
section
open PySem PySem.Spec PyProof.Rows L2
theorem bxneY {b p : Addr} {n : Int} {L : Sto} (hb : Bx b n L) (hp : L p = none) : p ≠ b := fun z => by
  obtain ⟨_, _, _, hc, _⟩ := hb
  rw [← z, hp] at hc
  cases hc
theorem ixmY {α : Type} {f : α → PV} {L : Sto} {R : PK} {a : Addr} {xs : List α} {j : Nat} {x : α} (e : L a = some (.l (xs.map f))) (h : xs[j]? = some x) : oIx (.ref a) (.int j) L R = R (f x) L := by
  unfold oIx
  have : atI (xs.map f) (j : Int) = some (f x) := atI_nat (by rw [List.getElem?_map, h]; rfl)
  simp only [e, this]
def OnP (p : Pth) (st : Nat) (x : Vc) : Prop := ∀ (far : Rat) (e : Vc), 0 < far → vdot e e ≤ far * far → InB (blkM p far st) (vadd x e)
def sb_on_path : Spec := fun args L R => ∃ (b q : Addr) (n : Int) (s : Vc) (ms : List Mv) (st : Nat), args = [.ref b, pth (s, mvPs s ms), .ref q, .int st] ∧ Bx b n L ∧ n < 1152921504606800000 ∧ q ≠ b ∧ L q = some (.l (ms.map mvV)) ∧ (∀ m ∈ ms, MvOk m) ∧ P65 4 s ∧ ms ≠ [] ∧ ms.length ≤ 12 ∧ 0 < st ∧ st < 4 ∧
  ∀ x L', OnP (s, mvPs s ms) st x → SzV 400 x → Bx b (n + 10) L' → LeB b L L' → R (vc x) L'
theorem begN_ends {p : Pth} {i : Nat} (h : i ≤ p.2.length) : (ends p)[i]? = some (begN p i) := by
  unfold begN
  rw [List.getElem?_eq_getElem (by rw [ends_len]; omega)]
  rfl
theorem on_side {s : Vc} {ms : List Mv} {i st : Nat} {u : Vc} {t : Int} {g : Rat} (ok : PathOk (s, mvPs s ms)) (s0 : 0 < st) (hm : ms[i]? = some (.side u t)) (hk : MvOk (.side u t)) (g0 : 0 ≤ g) (g1 : g ≤ 1) : OnP (s, mvPs s ms) st (vadd (begN (s, mvPs s ms) i) (vscl (vscl u (t : Rat)) g)) := by
  intro far e hf he
  have hi := (List.getElem?_eq_some_iff.mp hm).1
  obtain ⟨pc, hq, hb, _, _, _⟩ := piece_at ok (i := i) (by rw [show ((s, mvPs s ms) : Pth).2 = mvPs s ms from rfl, mvPs_len]; exact hi)
  obtain ⟨mv, hmv, hqe⟩ := mvPs_at hq hb
  rw [hm] at hmv
  cases hmv
  rw [hqe] at hq
  obtain ⟨hu, t0, t1⟩ := hk
  have tp : (0 : Rat) < (t : Rat) := ratPos t0
  obtain ⟨e1, e2⟩ := uv_of hu.un tp
  have ev : vsub (vadd (begN (s, mvPs s ms) i) (vscl u (t : Rat))) (begN (s, mvPs s ms) i) = vscl u (t : Rat) := (mv_side (b := begN (s, mvPs s ms) i) ⟨hu, t0, t1⟩).1
  refine near_side ok s0 hf hq (g := (t : Rat) * g) (e := e) (Rat.mul_nonneg (Rat.le_of_lt tp) g0) ?_ he ?_
  · rw [ev, e2]
    have := Rat.mul_nonneg (Rat.le_of_lt tp) (show 0 ≤ 1 - g by grind)
    grind
  · rw [ev, e1]
    have : vscl (vscl u (t : Rat)) g = vscl u ((t : Rat) * g) := by unfold vscl; exact Prod.ext (by simp only; grind) (by simp only; grind)
    rw [this]
theorem on_arc {s : Vc} {ms : List Mv} {i st : Nat} {u o x : Vc} {r : Int} {lf : Bool} (ok : PathOk (s, mvPs s ms)) (s0 : 0 < st) (hm : ms[i]? = some (.arc u o r lf)) (hk : MvOk (.arc u o r lf)) (hx : x ∈ (if lf = true then uni u o st else uni o u st)) : OnP (s, mvPs s ms) st (vadd (vsub (begN (s, mvPs s ms) i) (vscl u (r : Rat))) (vscl x (r : Rat))) := by
  intro far e hf he
  have hi := (List.getElem?_eq_some_iff.mp hm).1
  obtain ⟨pc, hq, hb, _, _, _⟩ := piece_at ok (i := i) (by rw [show ((s, mvPs s ms) : Pth).2 = mvPs s ms from rfl, mvPs_len]; exact hi)
  obtain ⟨mv, hmv, hqe⟩ := mvPs_at hq hb
  rw [hm] at hmv
  cases hmv
  rw [hqe] at hq
  obtain ⟨a1, a2, a3⟩ := mv_arc (b := begN (s, mvPs s ms) i) hk
  refine near_arc ok s0 hf hq (x := x) (e := e) ?_ he ?_
  · unfold aUnits
    rw [a1, a2]
    exact hx
  · rw [a3]
def b_on_path_6 : WS := sRet (wCall sb_add [wBin oIx (wBin oIx (wBin oIx (wVar 1) (wC (.int 1))) (wVar 4)) (wC (.int 1)), wCall sb_scaled_by [wBin oIx (wVar 10) (wCall sl_take [wVar 0, wBi gLen [wVar 10]]), wBin oIx (wVar 7) (wC (.int 3))]])
def b_on_path_5 : WS := sSeq (sAsg (gN 10) (wCall s_units_between [wVar 8, wVar 9, wVar 3])) b_on_path_6
def b_on_path_4 : WS := sSeq (sAsg (gT 2 (gsL [gN 8, gN 9])) (wIfE (wBin oEq (wBin oIx (wVar 7) (wC (.int 4))) (wC (.str "left"))) (wSl (wVar 7) (wSo (wC (.int 1))) (wSo (wC (.int 3)))) (wTup [wBin oIx (wVar 7) (wC (.int 2)), wBin oIx (wVar 7) (wC (.int 1))]))) b_on_path_5
def b_on_path_3a_0 : WS := sRet (wCall sb_add [wBin oIx (wVar 6) (wVar 4), wCall sb_scaled_by [wCall sb_scaled_by [wBin oIx (wVar 7) (wC (.int 1)), wBin oIx (wVar 7) (wC (.int 2))], wVar 5]])
def b_on_path_3 : WS := sSeq (sIf (wBin oEq (wBin oIx (wVar 7) (wC (.int 0))) (wC (.str "side"))) b_on_path_3a_0 sNil) b_on_path_4
def b_on_path_2 : WS := sSeq (sAsg (gN 7) (wBin oIx (wVar 2) (wVar 4))) b_on_path_3
def b_on_path_1 : WS := sSeq (sAsg (gN 6) (wBin oAdd (wLst [wBin oIx (wVar 1) (wC (.int 0))]) (wComp [11] (iAny (wBin oIx (wVar 1) (wC (.int 1)))) (gN 11) (wC (.bl true)) (wIfE (wBin oEq (wBin oIx (wVar 11) (wC (.int 0))) (wC (.str "side"))) (wBin oIx (wVar 11) (wC (.int 1))) (wBin oIx (wVar 11) (wC (.int 2))))))) b_on_path_2
def b_on_path_0 : WS := sSeq (sPar [4, 5] [wCall sl_take [wVar 0, wBi gLen [wVar 2]], wCall sb_frac [wCall sl_take [wVar 0, wC (.int 9)], wC (.int 8)]]) b_on_path_1
theorem ok_b_on_path : ∀ args L R, args.length = 4 → sb_on_path args L R → b_on_path_0 (initE 12 args) L { nx := fun _ L' => R .non L', rt := R } := by
  rintro _ L R _ ⟨b, q, n, s, ms, st, rfl, hb, hn, nqb, eq, hms, hs, hne, hl, s0, s3, h⟩
  have bp := bpath hms hs hne hl
  have hL : (s, mvPs s ms).2.length = ms.length := mvPs_len
  have hpos : 0 < ms.length := List.length_pos_iff.mpr hne
  unfold b_on_path_0
  show sSeq _ _ [some (.ref b), some (pth (s, mvPs s ms)), some (.ref q), some (.int st), none, none, none, none, none, none, none, none] L _
  walk_at "ev105"
  rw [e_lenl eq, List.length_map]
  refine ⟨b, (ms.length : Int), _, rfl, hb, by omega, by omega, denS (by omega), fun i L1 i0 i1 b1 l1 => ?_⟩
  obtain ⟨i, rfl⟩ := Int.eq_ofNat_of_zero_le i0
  have eq1 := l1 _ _ nqb eq
  refine ⟨b, 9, _, rfl, b1, by omega, by decide, denS (by decide), fun k L2 k0 k1 b2 l2 => ?_⟩
  have eq2 := l2 _ _ nqb eq1
  have l2 := l1.trans l2
  walk_at "ev105"
  refine ⟨_, _, rfl, by decide, denS (by decide), ?_⟩
  have g0 : (0 : Rat) ≤ (k : Rat) / ((8 : Int) : Rat) := by
    have : (0 : Rat) ≤ (k : Rat) := by exact_mod_cast k0
    rw [show ((8 : Int) : Rat) = 8 from rfl]
    grind
  have g1 : (k : Rat) / ((8 : Int) : Rat) ≤ 1 := by
    have : (k : Rat) ≤ ((8 : Int) : Rat) := by exact_mod_cast (show k ≤ 8 by omega)
    rw [show ((8 : Int) : Rat) = 8 from rfl] at *
    grind
  have gs : Sz 14 ((k : Rat) / ((8 : Int) : Rat)) := Sz.of (by decide) (by show _ < 16384; omega) (by show _ < 16384; omega)
  generalize (k : Rat) / ((8 : Int) : Rat) = g at *
  unfold b_on_path_1
  walk_at "ev105"
  intro p1 hp1
  have n1 := bxneY b2 hp1
  have e1 := put_same (L := L2) (a := p1) (o := .l [vc s])
  have k1 := Le.new (o := .l [vc s]) hp1
  have b3 := b2.le k1
  have l3 := l2.trans (k1.b b)
  have eq3 := k1 _ _ eq2
  generalize put L2 p1 _ = L3 at *
  walk_at "ev105"
  refine comp_map (g := fun q => vc q.to) (fun _ _ => trivial) (by rw [mvPs_len]; omega) ?_ ?_
  · intro q hq l R' hl hR'
    walk_at "ev105"
    cases q with
    | side t => walk_at "ev105"; exact hR' l hl
    | arc m t lf => walk_at "ev105"; exact hR' l hl
  intro L4 hl4 p2 hp2
  have e4 := hl4 _ _ e1
  have n2 := bxneY (b3.le hl4) hp2
  refine e_cat (Le.new hp2 _ _ e4) put_same ⟨by rw [List.length_map, mvPs_len]; show 1 + _ ≤ 16777216; omega, fun p3 hp3 => ?_⟩
  have e5 : put (put L4 p2 (.l (List.map (fun q => vc q.to) (mvPs s ms)))) p3 (.l ([vc s] ++ List.map (fun q => vc q.to) (mvPs s ms))) p3 = some (.l ((ends (s, mvPs s ms)).map vc)) := by
    rw [put_same]
    unfold ends
    rw [List.map_cons, List.map_map]
    rfl
  have hl5 : Le L3 (put (put L4 p2 (.l (List.map (fun q => vc q.to) (mvPs s ms)))) p3 (.l ([vc s] ++ List.map (fun q => vc q.to) (mvPs s ms)))) := (hl4.trans (Le.new hp2)).trans (Le.new hp3)
  generalize put (put L4 p2 (.l (List.map (fun q => vc q.to) (mvPs s ms)))) p3 (.l ([vc s] ++ List.map (fun q => vc q.to) (mvPs s ms))) = L5 at *
  have b5 := b3.le hl5
  have l5 := l3.trans (hl5.b b)
  have eq5 := hl5 _ _ eq3
  obtain ⟨mv, hmv⟩ : ∃ mv, ms[i]? = some mv := ⟨_, List.getElem?_eq_getElem (by omega)⟩
  have hok := hms mv (List.mem_of_getElem? hmv)
  have heb := begN_ends (p := (s, mvPs s ms)) (i := i) (by rw [hL]; omega)
  have sbz := bp.sz.ends _ (List.mem_of_getElem? heb)
  unfold b_on_path_2
  walk_at "ev105"
  rw [ixmY eq5 hmv]
  unfold b_on_path_3 b_on_path_3a_0
  cases mv with
  | side u t =>
    have os := on_side bp.ok s0 hmv hok g0 g1
    obtain ⟨hu, t0, t1⟩ := hok
    have st' : Sz 14 (t : Rat) := Sz.int (by show _ < 16384; omega) (by decide)
    simp only [mvV]
    walk_at "ev105"
    rw [ixv e5 heb]
    walk_at "ev105"
    refine ⟨u, (t : Rat), rfl, hu.sz.mono (by decide), st'.mono (by decide), ?_⟩
    refine ⟨vscl u (t : Rat), g, rfl, (hu.sz.scl st').mono (by decide), gs.mono (by decide), ?_⟩
    refine ⟨begN (s, mvPs s ms) i, vscl (vscl u (t : Rat)) g, rfl, sbz.mono (by decide), ((hu.sz.scl st').scl gs).mono (by decide), ?_⟩
    exact h _ _ os ((sbz.add ((hu.sz.scl st').scl gs)).mono (by decide)) (b5.mono (by omega)) l5
  | arc u o r lf =>
    have oa := fun x => on_arc (x := x) bp.ok s0 hmv hok
    obtain ⟨hu, ho, hne', r0, r1⟩ := hok
    have sr : Sz 14 (r : Rat) := Sz.int (by show _ < 16384; omega) (by decide)
    have hq : (s, mvPs s ms).2[i]? = some (.arc (vsub (begN (s, mvPs s ms) i) (vscl u (r : Rat))) (vadd (vsub (begN (s, mvPs s ms) i) (vscl u (r : Rat))) (vscl o (r : Rat))) lf) := by
      have hqq : (s, mvPs s ms).2[i]? = some (s, mvPs s ms).2[i] := List.getElem?_eq_getElem (by rw [hL]; omega)
      obtain ⟨mv', hmv', hqe⟩ := mvPs_at hqq heb
      rw [hmv] at hmv'
      cases hmv'
      rw [hqe] at hqq
      exact hqq
    have szm := (bp.sz.2 _ (List.mem_of_getElem? hq)).1
    have fin : ∀ (f g' : Vc), Un f → Un g' → SzV 14 f → SzV 14 g' → (∀ x, x ∈ uni f g' st → x ∈ (if lf = true then uni u o st else uni o u st)) → b_on_path_5 [some (.ref b), some (pth (s, mvPs s ms)), some (.ref q), some (.int st), some (.int i), some (fr g), some (.ref p3), some (mvV (.arc u o r lf)), some (vc f), some (vc g'), none, none] L5 { nx := fun _ L' => R .non L', rt := R } := by
      intro f g' uf ug sf sg hmem
      unfold b_on_path_5
      simp only [mvV]
      walk_at "ev105"
      refine ⟨f, g', st, 14, 14, rfl, uf, ug, sf, sg, by decide, s0, s3, fun p6 L6 hp6 l6 e6 => ?_⟩
      have uo := uni_ok uf ug sf sg s0 s3
      have b6 := b5.le l6
      have l7 := l5.trans (l6.b b)
      have n6 := bxneY b5 hp6
      unfold b_on_path_6
      walk_at "ev105"
      rw [show oIx (.tup (List.map pcV (mvPs s ms))) (.int i) = _ from rfl]
      rw [ixpc hq]
      simp only [pcV]
      walk_at "ev105"
      rw [e_lenl e6, List.length_map]
      have hlen := uo.ln
      have hne6 := List.length_pos_iff.mpr uo.ne
      refine ⟨b, ((uni f g' st).length : Int), _, rfl, b6, by omega, by omega, denS (by omega), fun j L7 j0 j1 b7 l8 => ?_⟩
      obtain ⟨j, rfl⟩ := Int.eq_ofNat_of_zero_le j0
      have e7 := l8 _ _ n6 e6
      obtain ⟨x, hx⟩ : ∃ x, (uni f g' st)[j]? = some x := ⟨_, List.getElem?_eq_getElem (by omega)⟩
      have hxm := List.mem_of_getElem? hx
      rw [ixv e7 hx]
      have sx := (uo.sz x hxm).2
      refine ⟨x, (r : Rat), rfl, sx.mono (by decide), sr.mono (by decide), ?_⟩
      refine ⟨vsub (begN (s, mvPs s ms) i) (vscl u (r : Rat)), vscl x (r : Rat), rfl, szm.mono (by decide), (sx.scl sr).mono (by decide), ?_⟩
      exact h _ _ (oa x (hmem x hxm)) ((szm.add (sx.scl sr)).mono (by decide)) (b7.mono (by omega)) (l7.trans l8)
    simp only [mvV] at fin ⊢
    walk_at "ev105"
    unfold b_on_path_4
    cases lf with
    | true =>
      walk_at "ev105"
      rw [show oIx (PV.tup [.str "arc", vc u, vc o, fr (r : Rat), .str (trn true)]) (.int 4) = fun l K => K (.str (trn true)) l from rfl]
      walk_at "ev105"
      refine ⟨rfl, ?_⟩
      exact fin u o hu.un ho.un hu.sz ho.sz (fun x hx => hx)
    | false =>
      walk_at "ev105"
      rw [show oIx (PV.tup [.str "arc", vc u, vc o, fr (r : Rat), .str (trn false)]) (.int 4) = fun l K => K (.str (trn false)) l from rfl]
      walk_at "ev105"
      refine ⟨rfl, ?_⟩
      exact fin o u ho.un hu.un ho.sz hu.sz (fun x hx => hx)
end
section
open PySem PySem.Spec PyProof.Rows L2
theorem inQ_iff {q : Vc} : ∀ {l : List Vc} {a : Vc}, inQ q a l ↔ ∀ (k : Nat) (b c : Vc), (a :: l)[k]? = some b → l[k]? = some c → 0 ≤ vcrs (vsub c b) (vsub q b)
  | [], a => ⟨fun _ k b c _ h => by simp at h, fun _ => trivial⟩
  | d :: l, a => by
    constructor
    · rintro ⟨h1, h2⟩ k b c hb hc
      cases k with
      | zero => cases hb; cases hc; exact h1
      | succ k => exact inQ_iff.mp h2 k b c hb hc
    · intro h
      exact ⟨h 0 a d rfl rfl, inQ_iff.mpr fun k b c hb hc => h (k + 1) b c hb hc⟩
theorem prev_at {S : List Vc} {k : Nat} (hk : k < S.length) : ∃ b c, atI (S.map vc) ((k : Int) - 1) = some (vc b) ∧ atI (S.map vc) (k : Int) = some (vc c) ∧ (S.getLastD (0, 0) :: S)[k]? = some b ∧ S[k]? = some c ∧ b ∈ S ∧ c ∈ S := by
  have nat_ : ∀ j (hj : j < S.length), atI (S.map vc) (j : Int) = some (vc S[j]) := fun j hj => atI_nat (by rw [List.getElem?_map, List.getElem?_eq_getElem hj]; rfl)
  cases k with
  | zero =>
    obtain ⟨S', x, rfl⟩ : ∃ S' x, S = S' ++ [x] := by
      rcases List.eq_nil_or_concat S with rfl | ⟨S', x, rfl⟩
      · simp at hk
      · exact ⟨S', x, List.concat_eq_append⟩
    refine ⟨x, _, ?_, nat_ 0 hk, ?_, List.getElem?_eq_getElem hk, List.mem_append_right _ (List.mem_singleton.mpr rfl), List.getElem_mem _⟩
    · rw [List.map_append]
      exact atI_last _ _
    · rw [List.getLastD_eq_getLast?, List.getLast?_concat]
      rfl
  | succ k =>
    refine ⟨S[k]'(by omega), S[k + 1], ?_, nat_ (k + 1) hk, ?_, List.getElem?_eq_getElem hk, List.getElem_mem _, List.getElem_mem _⟩
    · rw [show (((k + 1 : Nat) : Int) - 1) = (k : Int) by omega]
      exact nat_ k (by omega)
    · rw [List.getElem?_cons_succ]
      exact List.getElem?_eq_getElem (by omega)
noncomputable def inD (S : List Vc) (q : Vc) : Bool := @decide (InS S q) (Classical.propDecidable _)
theorem inD_t {S : List Vc} {q : Vc} (h : InS S q) : inD S q = true := by unfold inD; exact @decide_eq_true _ (Classical.propDecidable _) h
theorem inD_f {S : List Vc} {q : Vc} (h : ¬ InS S q) : inD S q = false := by unfold inD; exact @decide_eq_false _ (Classical.propDecidable _) h
theorem ix_atY {xs : List PV} {i : Int} {x : PV} {L : Sto} {R : PK} (h : atI xs i = some x) : oIx (.tup xs) (.int i) L R = R x L := by
  show (match atI xs i with | some v => R v L | none => False) = _
  rw [h]
theorem any_blY {L : Sto} {R : PK} {p : Addr} {α : Type} {xs : List α} {f : α → Bool} (h : R (.bl (xs.any f)) (put L p (.l (xs.map fun x => PV.bl (f x))))) : gAny [.ref p] (put L p (.l (xs.map fun x => PV.bl (f x)))) R := by
  refine ⟨xs.map f, by rw [put_same, List.map_map]; rfl, ?_⟩
  rw [List.any_map]
  exact h
def sb_in : Spec := fun args L R => ∃ (x : Blk) (q : Vc), args = [bkV x, vc q] ∧ x.s.length ≤ 40 ∧ (∀ s ∈ x.s, SzV 970 s) ∧ SzV 500 q ∧ ∀ L', Le L L' → R (.bl (inD x.s q)) L'
def b_in_2 : WS := sRet (wC (.bl true))
def b_in_1f_0a_0 : WS := sRet (wC (.bl false))
def b_in_1f_0 : WS := sIf (wBin oLt (wBin oIx (wCall sb_cross [wCall sb_sub [wBin oIx (wVar 2) (wVar 3), wBin oIx (wVar 2) (wBin oSub (wVar 3) (wC (.int 1)))], wCall sb_sub [wVar 1, wBin oIx (wVar 2) (wBin oSub (wVar 3) (wC (.int 1)))]]) (wC (.int 0))) (wC (.int 0))) b_in_1f_0a_0 sNil
def b_in_1 : WS := sSeq (sFor (iR1 (wBi gLen [wVar 2])) (gN 3) b_in_1f_0) b_in_2
def b_in_0 : WS := sSeq (sAsg (gN 2) (wBin oIx (wVar 0) (wC (.int 2)))) b_in_1
theorem ok_b_in : ∀ args L R, args.length = 2 → sb_in args L R → b_in_0 (initE 4 args) L { nx := fun _ L' => R .non L', rt := R } := by
  rintro _ L R _ ⟨x, q, rfl, hl, sz, sq, h⟩
  unfold b_in_0
  show sSeq _ _ [some (bkV x), some (vc q), none, none] L _
  walk_at "ev105"
  rw [bk2]
  unfold b_in_1
  walk_at "ev105"
  rw [List.length_map]
  refine ⟨⟨by omega, by omega⟩, ?_⟩
  rw [Int.toNat_natCast]
  have hrl : (rgL 0 x.s.length).length = x.s.length := by unfold rgL; rw [List.length_map, List.length_range]
  refine loop_i (fun k en l => l = L ∧ (∀ j, j < k → ∀ b c, (x.s.getLastD (0, 0) :: x.s)[j]? = some b → x.s[j]? = some c → 0 ≤ vcrs (vsub c b) (vsub q b)) ∧ ∃ z, en = [some (bkV x), some (vc q), some (.tup (x.s.map vc)), z]) ⟨rfl, fun j hj => absurd hj (Nat.not_lt_zero _), _, rfl⟩ (fun _ _ _ _ => trivial) ?_ ?_
  · rintro k t en l K hx ⟨rfl, hall, z, rfl⟩ hK
    obtain ⟨rfl, hk⟩ := rgL_get hx
    obtain ⟨b, c, q1, q2, g1, g2, mb, mc⟩ := prev_at hk
    have sb := sz b mb
    have sc := sz c mc
    walk_at "ev105"
    unfold b_in_1f_0 b_in_1f_0a_0
    walk_at "ev105"
    rw [Int.zero_add, ix_atY q2]
    walk_at "ev105"
    rw [ix_atY q1]
    refine ⟨c, b, rfl, sc.mono (by decide), sb.mono (by decide), ?_⟩
    walk_at "ev105"
    rw [ix_atY q1]
    refine ⟨q, b, rfl, sq.mono (by decide), sb.mono (by decide), ?_⟩
    refine ⟨vsub c b, vsub q b, rfl, (sc.sub sb).mono (by decide), (sq.sub sb).mono (by decide), ?_⟩
    walk_at "ev105"
    by_cases hp : 0 ≤ vcrs (vsub c b) (vsub q b)
    · rw [if_neg (by have := Rat.num_nonneg.mpr hp; omega)]
      refine hK _ _ ⟨rfl, fun j hj b' c' hb' hc' => ?_, _, rfl⟩
      by_cases e : j = k
      · subst e
        rw [g1] at hb'
        rw [g2] at hc'
        cases hb'; cases hc'
        exact hp
      · exact hall j (by omega) b' c' hb' hc'
    · rw [if_pos (by have := mt Rat.num_nonneg.mp hp; omega)]
      have : inD x.s q = false := inD_f fun hi => hp (inQ_iff.mp hi k b c g1 g2)
      rw [this] at h
      exact h _ .refl
  · rintro en l ⟨rfl, hall, z, rfl⟩
    rw [hrl] at hall
    unfold b_in_2
    walk_at "ev105"
    have : inD x.s q = true := inD_t (inQ_iff.mpr fun k b c hb hc => hall k (List.getElem?_eq_some_iff.mp hc).1 b c hb hc)
    rw [this] at h
    exact h _ .refl
def sl_law : Spec := fun args L R => ∃ ns : List Int, args = [.fz ns] ∧ ∀ L', R (.bl true) L'
def l_law_2 : WS := sRet (wC (.bl true))
def l_law_1f_1f_2f_3a_0 : WS := sRet (wC (.bl false))
def l_law_1f_1f_2f_3 : WS := sIf (wUn oNot (wBi gAny [wComp [14] (iAny (wVar 9)) (gN 14) (wC (.bl true)) (wCall sb_in [wVar 14, wVar 13])])) l_law_1f_1f_2f_3a_0 sNil
def l_law_1f_1f_2f_2 : WS := sSeq (sAsg (gN 13) (wCall sb_add [wCall sb_on_path [wVar 3, wVar 5, wVar 6, wVar 8], wVar 12])) l_law_1f_1f_2f_3
def l_law_1f_1f_2f_1 : WS := sSeq (sAsg (gN 12) (wCall sb_scaled_by [wCall sb_unit_at [wCall sl_take [wVar 3, wC (.int 20)]], wCall sb_product [wVar 7, wVar 11]])) l_law_1f_1f_2f_2
def l_law_1f_1f_2f_0 : WS := sSeq (sAsg (gN 11) (wBin oIx (wLst [wTup [wC (.int 1), wC (.int 1)], wTup [wC (.int 1), wC (.int 1)], wCall sb_frac [wCall sl_take [wVar 3, wC (.int 17)], wC (.int 16)]]) (wCall sl_take [wVar 3, wC (.int 3)]))) l_law_1f_1f_2f_1
def l_law_1f_1f_2 : WS := sFor (iR1 (wC (.int 20))) (gN 10) l_law_1f_1f_2f_0
def l_law_1f_1f_1 : WS := sSeq (sAsg (gN 9) (wCall s_blocks [wVar 5, wVar 7, wVar 8])) l_law_1f_1f_2
def l_law_1f_1f_0 : WS := sSeq (sAsg (gT 4 (gsL [gN 5, gN 6, gN 7, gN 8])) (wCall sb_case [wVar 3])) l_law_1f_1f_1
def l_law_1f_1 : WS := sFor (iR1 (wC (.int 2))) (gN 4) l_law_1f_1f_0
def l_law_1f_0 : WS := sSeq (sAsg (gN 3) (wCall sb_box [wVar 1, wVar 2])) l_law_1f_1
def l_law_1 : WS := sSeq (sFor (iR1 (wBi gMax [wC (.int 2), wBi gLen [wVar 1]])) (gN 2) l_law_1f_0) l_law_2
def l_law_0 : WS := sSeq (sAsg (gN 1) (wCall sb_folded [wVar 0, wC (.int 4)])) l_law_1
theorem ok_l_law : ∀ args L R, args.length = 1 → sl_law args L R → l_law_0 (initE 15 args) L { nx := fun _ L' => R .non L', rt := R } := by
  rintro _ L R _ ⟨ns, rfl, h⟩
  unfold l_law_0
  show sSeq _ _ [some (.fz ns), none, none, none, none, none, none, none, none, none, none, none, none, none, none] L _
  walk_at "ev105"
  refine ⟨ns, 4, rfl, by decide, by decide, fun c L1 cs hc l1 e1 mk => ?_⟩
  unfold l_law_1
  walk_at "ev105"
  rw [e_lenl e1]
  walk_at "ev105"
  rw [List.length_map]
  refine ⟨⟨by omega, by omega⟩, ?_⟩
  refine loop_i (fun i e l => l c = some (.l (cs.map PV.int)) ∧ ∃ z2 z3 z4 z5 z6 z7 z8 z9 z10 z11 z12 z13 z14, e = [some (.fz ns), some (.ref c), z2, z3, z4, z5, z6, z7, z8, z9, z10, z11, z12, z13, z14]) ⟨e1, _, _, _, _, _, _, _, _, _, _, _, _, _, rfl⟩ (fun _ _ _ _ => trivial) ?_ ?_
  · rintro i t e l K hx ⟨e1, z2, z3, z4, z5, z6, z7, z8, z9, z10, z11, z12, z13, z14, rfl⟩ hK
    obtain ⟨rfl, hi⟩ := rgL_get hx
    walk_at "ev105"
    unfold l_law_1f_0
    walk_at "ev105"
    refine ⟨c, cs, _, rfl, e1, by omega, by omega, fun b L2 hb l2 b2 => ?_⟩
    have e2 := l2 _ _ e1
    have hcb : c ≠ b := ne_adr hb e1
    unfold l_law_1f_1
    walk_at "ev105"
    refine ⟨⟨by decide, by decide⟩, ?_⟩
    refine loop_i (fun j e l => l c = some (.l (cs.map PV.int)) ∧ Bx b (0 + 1000 * (j : Int)) l ∧ ∃ z4 z5 z6 z7 z8 z9 z10 z11 z12 z13 z14, e = [some (.fz ns), some (.ref c), some (.int (0 + (i : Nat))), some (.ref b), z4, z5, z6, z7, z8, z9, z10, z11, z12, z13, z14]) ⟨e2, b2.mono (by omega), _, _, _, _, _, _, _, _, _, _, _, rfl⟩ (fun _ _ _ _ => trivial) ?_ ?_
    · rintro j t e l K2 hx2 ⟨e3, b3, z4, z5, z6, z7, z8, z9, z10, z11, z12, z13, z14, rfl⟩ hK2
      obtain ⟨rfl, hj⟩ := rgL_get hx2
      have hj : j < 2 := hj
      walk_at "ev105"
      unfold l_law_1f_1f_0
      walk_at "ev105"
      refine ⟨b, _, rfl, b3, by omega, fun s q ms w st L4 nq nqb e4 hne hl hok hs w0 ws s1 s3 b4 l4 => ?_⟩
      walk_at "ev105"
      refine ⟨rfl, ?_⟩
      obtain ⟨st, rfl⟩ := Int.eq_ofNat_of_zero_le (show 0 ≤ st by omega)
      have bp := bpath hok hs hne hl
      have hall := blk_all hok hs hne hl ws w0 (show 0 < st by omega) (show st < 4 by omega)
      have hbl := blkM_len (s := s) (ms := ms) (far := w) (st := st) hl (by omega)
      unfold l_law_1f_1f_1
      walk_at "ev105"
      refine ⟨(s, mvPs s ms), st, 14, 14, w, rfl, bp, ws, by omega, by omega, fun p5 L5 hp5 l5 e5 => ?_⟩
      have b5 := b4.le l5
      have n5 := bxneY b4 hp5
      have eq5 := l5 _ _ e4
      have ec5 := l5 _ _ (l4 _ _ hcb e3)
      unfold l_law_1f_1f_2
      walk_at "ev105"
      refine ⟨⟨by decide, by decide⟩, ?_⟩
      refine loop_i (fun k e l => l c = some (.l (cs.map PV.int)) ∧ l q = some (.l (ms.map mvV)) ∧ l p5 = some (.l ((blkM (s, mvPs s ms) w st).map bkV)) ∧ Bx b (0 + 1000 * (j : Int) + 200 + 20 * (k : Int)) l ∧ ∃ z10 z11 z12 z13 z14, e = [some (.fz ns), some (.ref c), some (.int (0 + (i : Nat))), some (.ref b), some (.int (0 + (j : Nat))), some (pth (s, mvPs s ms)), some (.ref q), some (fr w), some (.int (st : Nat)), some (.ref p5), z10, z11, z12, z13, z14]) ⟨ec5, eq5, e5, b5.mono (by omega), _, _, _, _, _, rfl⟩ (fun _ _ _ _ => trivial) ?_ ?_
      · rintro k t e l K3 hx3 ⟨ec6, eq6, e6, b6, z10, z11, z12, z13, z14, rfl⟩ hK3
        obtain ⟨rfl, hk⟩ := rgL_get hx3
        have hk : k < 20 := hk
        walk_at "ev105"
        unfold l_law_1f_1f_2f_0
        walk_at "ev105"
        refine ⟨b, 17, _, rfl, b6, by omega, by decide, denS (by decide), fun r L7 r0 r1 b7 l7 => ?_⟩
        have ec7 := l7 _ _ hcb ec6
        have eq7 := l7 _ _ nqb eq6
        have e7 := l7 _ _ n5 e6
        refine ⟨_, _, rfl, by decide, denS (by decide), ?_⟩
        have g0 : (0 : Rat) ≤ (r : Rat) / ((16 : Int) : Rat) := by
          have : (0 : Rat) ≤ (r : Rat) := by exact_mod_cast r0
          rw [show ((16 : Int) : Rat) = 16 from rfl]
          grind
        have g1 : (r : Rat) / ((16 : Int) : Rat) ≤ 1 := by
          have : (r : Rat) ≤ ((16 : Int) : Rat) := by exact_mod_cast (show r ≤ 16 by omega)
          rw [show ((16 : Int) : Rat) = 16 from rfl] at *
          grind
        have gs : Sz 14 ((r : Rat) / ((16 : Int) : Rat)) := Sz.of (by decide) (by show _ < 16384; omega) (by show _ < 16384; omega)
        generalize (r : Rat) / ((16 : Int) : Rat) = g at *
        intro p8 hp8
        have n8 := bxneY b7 hp8
        have e8 : put L7 p8 (.l [.tup [.int 1, .int 1], .tup [.int 1, .int 1], fr g]) p8 = some (.l ([1, 1, g].map fr)) := by
          rw [put_same]; rfl
        have k8 := Le.new (o := .l [.tup [.int 1, .int 1], .tup [.int 1, .int 1], fr g]) hp8
        have b8 := b7.le k8
        have ec8 := k8 _ _ ec7
        have eq8 := k8 _ _ eq7
        have e8' := k8 _ _ e7
        generalize put L7 p8 _ = L8 at *
        refine ⟨b, 3, _, rfl, b8, by omega, by decide, denS (by decide), fun r2 L9 r20 r21 b9 l9 => ?_⟩
        obtain ⟨r2, rfl⟩ := Int.eq_ofNat_of_zero_le r20
        have e9 := l9 _ _ n8 e8
        have ec9 := l9 _ _ hcb ec8
        have eq9 := l9 _ _ nqb eq8
        have e9' := l9 _ _ n5 e8'
        obtain ⟨f, hf, f0, f1, fs⟩ : ∃ f : Rat, ([1, 1, g] : List Rat)[r2]? = some f ∧ 0 ≤ f ∧ f ≤ 1 ∧ Sz 14 f := by
          match r2, r21 with
          | 0, _ => exact ⟨1, rfl, by decide, by decide, sz1 (by decide)⟩
          | 1, _ => exact ⟨1, rfl, by decide, by decide, sz1 (by decide)⟩
          | 2, _ => exact ⟨g, rfl, g0, g1, gs⟩
          | r2 + 3, h => omega
        rw [ixmY e9 hf]
        unfold l_law_1f_1f_2f_1
        walk_at "ev105"
        refine ⟨b, 20, _, rfl, b9, by omega, by decide, denS (by decide), fun v L10 v0 v1 b10 l10 => ?_⟩
        obtain ⟨v, rfl⟩ := Int.eq_ofNat_of_zero_le v0
        have ec10 := l10 _ _ hcb ec9
        have eq10 := l10 _ _ nqb eq9
        have e10 := l10 _ _ n5 e9'
        refine ⟨v, rfl, by omega, fun L11 l11 => ?_⟩
        have ec11 := l11 _ _ ec10
        have eq11 := l11 _ _ eq10
        have e11 := l11 _ _ e10
        have b11 := b10.le l11
        have hv := unI_ok (k := v) (by omega)
        walk_at "ev105"
        refine ⟨w, f, rfl, ws.mono (by decide), fs.mono (by decide), ?_⟩
        refine ⟨unI v, w * f, rfl, hv.sz.mono (by decide), (ws.mul fs).mono (by decide), ?_⟩
        unfold l_law_1f_1f_2f_2
        walk_at "ev105"
        refine ⟨b, q, _, s, ms, st, rfl, b11, by omega, nqb, eq11, hok, hs, hne, hl, by omega, by omega, fun y L12 hy sy b12 l12 => ?_⟩
        have ec12 := l12 _ _ hcb ec11
        have eq12 := l12 _ _ nqb eq11
        have e12 := l12 _ _ n5 e11
        have sr : SzV 42 (vscl (unI v) (w * f)) := hv.sz.scl (ws.mul fs)
        refine ⟨y, vscl (unI v) (w * f), rfl, sy.mono (by decide), sr.mono (by decide), ?_⟩
        have hin : InB (blkM (s, mvPs s ms) w st) (vadd y (vscl (unI v) (w * f))) := by
          refine hy w _ w0 ?_
          have hu : (unI v).1 * (unI v).1 + (unI v).2 * (unI v).2 = 1 := hv.un
          have : vdot (vscl (unI v) (w * f)) (vscl (unI v) (w * f)) = w * f * (w * f) * ((unI v).1 * (unI v).1 + (unI v).2 * (unI v).2) := by unfold vdot vscl; simp only; grind
          rw [this, hu]
          have := sqle (a := w * f) (b := w) (Rat.mul_nonneg (Rat.le_of_lt w0) f0) (by
            have := Rat.mul_nonneg (Rat.le_of_lt w0) (show 0 ≤ 1 - f by grind)
            grind)
          grind
        have sp : SzV 500 (vadd y (vscl (unI v) (w * f))) := (sy.add sr).mono (by decide)
        generalize vadd y (vscl (unI v) (w * f)) = x at *
        unfold l_law_1f_1f_2f_3 l_law_1f_1f_2f_3a_0
        walk_at "ev105"
        rw [e_lsK e12]
        refine comp_map (g := fun y => .bl (inD y.s x)) (f := bkV) (fun l hl => hl _ _ e12) (by omega) ?_ ?_
        · intro y hy l R' hl' hR'
          walk_at "ev105"
          have hg := (hall y hy).1
          exact ⟨y, x, rfl, hg.ln, hg.sz, sp, fun L' h' => hR' L' (hl'.trans h')⟩
        intro L13 l13 p13 hp13
        refine any_blY ?_
        have k13 := l13.trans (Le.new (o := .l ((blkM (s, mvPs s ms) w st).map fun y => PV.bl (inD y.s x))) hp13)
        generalize put L13 p13 _ = L14 at *
        have : (blkM (s, mvPs s ms) w st).any (fun y => inD y.s x) = true := by
          obtain ⟨y, hy, hi⟩ := hin
          exact List.any_eq_true.mpr ⟨y, hy, inD_t hi⟩
        rw [this]
        walk_at "ev105"
        refine hK3 _ _ ⟨k13 _ _ ec12, k13 _ _ eq12, k13 _ _ e12, (b12.le k13).mono (by omega), _, _, _, _, _, rfl⟩
      · rintro e l ⟨ec6, eq6, e6, b6, z10, z11, z12, z13, z14, rfl⟩
        exact hK2 _ _ ⟨ec6, b6.mono (by rw [show (rgL 0 (20 : Int).toNat).length = 20 by unfold rgL; rw [List.length_map, List.length_range]; rfl]; omega), _, _, _, _, _, _, _, _, _, _, _, rfl⟩
    · rintro e l ⟨e3, b3, z4, z5, z6, z7, z8, z9, z10, z11, z12, z13, z14, rfl⟩
      exact hK _ _ ⟨e3, _, _, _, _, _, _, _, _, _, _, _, _, _, rfl⟩
  · rintro e l ⟨e1, z2, z3, z4, z5, z6, z7, z8, z9, z10, z11, z12, z13, z14, rfl⟩
    unfold l_law_2
    walk_at "ev105"
    exact h _
end
section
open PySem PySem.Spec PyProof.Rows L2
def nn : List Str := ["abs", "int", "len", "range", "reversed", "zip", "tuple", "dict", "divmod", "enumerate", "list", "min", "any", "max"]
theorem zsc_divisor_of : FnScope ["one", "other"] ["one", "other"] (defScope zst_divisor_of) := ⟨rfl, rfl, rfl, by decide +kernel, rfl, by decide +kernel, by decide +kernel⟩
def ztb_divisor_of : Tab := ⟨[], [], nn⟩
theorem zcs_divisor_of : cSs ztb_divisor_of 60 ⟨["one", "other"], defScope zst_divisor_of, fun _ => true⟩ (defBody zst_divisor_of) = some d_divisor_of_0 := by rfl
theorem zsc_fraction : FnScope ["n", "d", "divisor"] ["n", "d"] (defScope zst_fraction) := ⟨rfl, rfl, rfl, by decide +kernel, rfl, by decide +kernel, by decide +kernel⟩
def ztb_fraction : Tab := ⟨[("divisor_of", 2, s_divisor_of)], [], nn⟩
theorem zcs_fraction : cSs ztb_fraction 60 ⟨["n", "d", "divisor"], defScope zst_fraction, fun _ => true⟩ (defBody zst_fraction) = some d_fraction_0 := by rfl
theorem zsc_added : FnScope ["one", "other"] ["one", "other"] (defScope zst_added) := ⟨rfl, rfl, rfl, by decide +kernel, rfl, by decide +kernel, by decide +kernel⟩
def ztb_added : Tab := ⟨[("fraction", 2, s_fraction)], [], nn⟩
theorem zcs_added : cSs ztb_added 60 ⟨["one", "other"], defScope zst_added, fun _ => true⟩ (defBody zst_added) = some d_added_0 := by rfl
theorem zsc_taken : FnScope ["one", "other"] ["one", "other"] (defScope zst_taken) := ⟨rfl, rfl, rfl, by decide +kernel, rfl, by decide +kernel, by decide +kernel⟩
def ztb_taken : Tab := ⟨[("fraction", 2, s_fraction)], [], nn⟩
theorem zcs_taken : cSs ztb_taken 60 ⟨["one", "other"], defScope zst_taken, fun _ => true⟩ (defBody zst_taken) = some d_taken_0 := by rfl
theorem zsc_times : FnScope ["one", "other"] ["one", "other"] (defScope zst_times) := ⟨rfl, rfl, rfl, by decide +kernel, rfl, by decide +kernel, by decide +kernel⟩
def ztb_times : Tab := ⟨[("fraction", 2, s_fraction)], [], nn⟩
theorem zcs_times : cSs ztb_times 60 ⟨["one", "other"], defScope zst_times, fun _ => true⟩ (defBody zst_times) = some d_times_0 := by rfl
theorem zsc_over : FnScope ["one", "other"] ["one", "other"] (defScope zst_over) := ⟨rfl, rfl, rfl, by decide +kernel, rfl, by decide +kernel, by decide +kernel⟩
def ztb_over : Tab := ⟨[("fraction", 2, s_fraction)], [], nn⟩
theorem zcs_over : cSs ztb_over 60 ⟨["one", "other"], defScope zst_over, fun _ => true⟩ (defBody zst_over) = some d_over_0 := by rfl
theorem zsc_compared : FnScope ["one", "other", "left", "right"] ["one", "other"] (defScope zst_compared) := ⟨rfl, rfl, rfl, by decide +kernel, rfl, by decide +kernel, by decide +kernel⟩
def ztb_compared : Tab := ⟨[], [], nn⟩
theorem zcs_compared : cSs ztb_compared 60 ⟨["one", "other", "left", "right"], defScope zst_compared, fun _ => true⟩ (defBody zst_compared) = some d_compared_0 := by rfl
theorem zsc_whole_root : FnScope ["number", "low", "high", "middle"] ["number"] (defScope zst_whole_root) := ⟨rfl, rfl, rfl, by decide +kernel, rfl, by decide +kernel, by decide +kernel⟩
def ztb_whole_root : Tab := ⟨[], [], nn⟩
theorem zcs_whole_root : cSs ztb_whole_root 60 ⟨["number", "low", "high", "middle"], defScope zst_whole_root, fun _ => true⟩ (defBody zst_whole_root) = some d_whole_root_0 := by rfl
theorem zsc_root_of : FnScope ["one", "top", "bottom"] ["one"] (defScope zst_root_of) := ⟨rfl, rfl, rfl, by decide +kernel, rfl, by decide +kernel, by decide +kernel⟩
def ztb_root_of : Tab := ⟨[("whole_root", 1, s_whole_root)], [], nn⟩
theorem zcs_root_of : cSs ztb_root_of 60 ⟨["one", "top", "bottom"], defScope zst_root_of, fun _ => true⟩ (defBody zst_root_of) = some d_root_of_0 := by rfl
theorem zsc_plus : FnScope ["one", "other"] ["one", "other"] (defScope zst_plus) := ⟨rfl, rfl, rfl, by decide +kernel, rfl, by decide +kernel, by decide +kernel⟩
def ztb_plus : Tab := ⟨[("added", 2, s_added)], [], nn⟩
theorem zcs_plus : cSs ztb_plus 60 ⟨["one", "other"], defScope zst_plus, fun _ => true⟩ (defBody zst_plus) = some d_plus_0 := by rfl
theorem zsc_minus : FnScope ["one", "other"] ["one", "other"] (defScope zst_minus) := ⟨rfl, rfl, rfl, by decide +kernel, rfl, by decide +kernel, by decide +kernel⟩
def ztb_minus : Tab := ⟨[("taken", 2, s_taken)], [], nn⟩
theorem zcs_minus : cSs ztb_minus 60 ⟨["one", "other"], defScope zst_minus, fun _ => true⟩ (defBody zst_minus) = some d_minus_0 := by rfl
theorem zsc_scaled : FnScope ["vector", "by"] ["vector", "by"] (defScope zst_scaled) := ⟨rfl, rfl, rfl, by decide +kernel, rfl, by decide +kernel, by decide +kernel⟩
def ztb_scaled : Tab := ⟨[("times", 2, s_times)], [], nn⟩
theorem zcs_scaled : cSs ztb_scaled 60 ⟨["vector", "by"], defScope zst_scaled, fun _ => true⟩ (defBody zst_scaled) = some d_scaled_0 := by rfl
theorem zsc_dot : FnScope ["one", "other"] ["one", "other"] (defScope zst_dot) := ⟨rfl, rfl, rfl, by decide +kernel, rfl, by decide +kernel, by decide +kernel⟩
def ztb_dot : Tab := ⟨[("added", 2, s_added), ("times", 2, s_times)], [], nn⟩
theorem zcs_dot : cSs ztb_dot 60 ⟨["one", "other"], defScope zst_dot, fun _ => true⟩ (defBody zst_dot) = some d_dot_0 := by rfl
theorem zsc_cross : FnScope ["one", "other"] ["one", "other"] (defScope zst_cross) := ⟨rfl, rfl, rfl, by decide +kernel, rfl, by decide +kernel, by decide +kernel⟩
def ztb_cross : Tab := ⟨[("taken", 2, s_taken), ("times", 2, s_times)], [], nn⟩
theorem zcs_cross : cSs ztb_cross 60 ⟨["one", "other"], defScope zst_cross, fun _ => true⟩ (defBody zst_cross) = some d_cross_0 := by rfl
theorem zsc_left_of : FnScope ["vector"] ["vector"] (defScope zst_left_of) := ⟨rfl, rfl, rfl, by decide +kernel, rfl, by decide +kernel, by decide +kernel⟩
def ztb_left_of : Tab := ⟨[("taken", 2, s_taken)], [("NOUGHT_fractions", .tup [.int 0, .int 1])], nn⟩
theorem zcs_left_of : cSs ztb_left_of 60 ⟨["vector"], defScope zst_left_of, fun _ => true⟩ (defBody zst_left_of) = some d_left_of_0 := by rfl
theorem zsc_length_of : FnScope ["vector"] ["vector"] (defScope zst_length_of) := ⟨rfl, rfl, rfl, by decide +kernel, rfl, by decide +kernel, by decide +kernel⟩
def ztb_length_of : Tab := ⟨[("root_of", 1, s_root_of), ("dot", 2, s_dot)], [], nn⟩
theorem zcs_length_of : cSs ztb_length_of 60 ⟨["vector"], defScope zst_length_of, fun _ => true⟩ (defBody zst_length_of) = some d_length_of_0 := by rfl
theorem zsc_unit_of : FnScope ["vector", "length"] ["vector"] (defScope zst_unit_of) := ⟨rfl, rfl, rfl, by decide +kernel, rfl, by decide +kernel, by decide +kernel⟩
def ztb_unit_of : Tab := ⟨[("over", 2, s_over), ("length_of", 1, s_length_of)], [("NOUGHT_fractions", .tup [.int 0, .int 1])], nn⟩
theorem zcs_unit_of : cSs ztb_unit_of 60 ⟨["vector", "length"], defScope zst_unit_of, fun _ => true⟩ (defBody zst_unit_of) = some d_unit_of_0 := by rfl
theorem zsc_opposite : FnScope ["vector"] ["vector"] (defScope zst_opposite) := ⟨rfl, rfl, rfl, by decide +kernel, rfl, by decide +kernel, by decide +kernel⟩
def ztb_opposite : Tab := ⟨[("minus", 2, s_minus)], [("NOUGHT_paths", .tup [.int 0, .int 1])], nn⟩
theorem zcs_opposite : cSs ztb_opposite 60 ⟨["vector"], defScope zst_opposite, fun _ => true⟩ (defBody zst_opposite) = some d_opposite_0 := by rfl
theorem zsc_to_of : FnScope ["piece"] ["piece"] (defScope zst_to_of) := ⟨rfl, rfl, rfl, by decide +kernel, rfl, by decide +kernel, by decide +kernel⟩
def ztb_to_of : Tab := ⟨[], [("SIDE", .str "side")], nn⟩
theorem zcs_to_of : cSs ztb_to_of 60 ⟨["piece"], defScope zst_to_of, fun _ => true⟩ (defBody zst_to_of) = some d_to_of_0 := by rfl
theorem zsc_ends_of : FnScope ["path", "piece"] ["path"] (defScope zst_ends_of) := ⟨rfl, rfl, rfl, by decide +kernel, rfl, by decide +kernel, by decide +kernel⟩
def ztb_ends_of : Tab := ⟨[("to_of", 1, s_to_of)], [], nn⟩
theorem zcs_ends_of : cSs ztb_ends_of 60 ⟨["path", "piece"], defScope zst_ends_of, fun _ => true⟩ (defBody zst_ends_of) = some d_ends_of_0 := by rfl
theorem zsc_is_closed : FnScope ["path"] ["path"] (defScope zst_is_closed) := ⟨rfl, rfl, rfl, by decide +kernel, rfl, by decide +kernel, by decide +kernel⟩
def ztb_is_closed : Tab := ⟨[("to_of", 1, s_to_of)], [], nn⟩
theorem zcs_is_closed : cSs ztb_is_closed 60 ⟨["path"], defScope zst_is_closed, fun _ => true⟩ (defBody zst_is_closed) = some d_is_closed_0 := by rfl
theorem zsc_begin_of : FnScope ["path", "number"] ["path", "number"] (defScope zst_begin_of) := ⟨rfl, rfl, rfl, by decide +kernel, rfl, by decide +kernel, by decide +kernel⟩
def ztb_begin_of : Tab := ⟨[("to_of", 1, s_to_of)], [], nn⟩
theorem zcs_begin_of : cSs ztb_begin_of 60 ⟨["path", "number"], defScope zst_begin_of, fun _ => true⟩ (defBody zst_begin_of) = some d_begin_of_0 := by rfl
theorem zsc_radius_of : FnScope ["path", "number", "piece"] ["path", "number"] (defScope zst_radius_of) := ⟨rfl, rfl, rfl, by decide +kernel, rfl, by decide +kernel, by decide +kernel⟩
def ztb_radius_of : Tab := ⟨[("minus", 2, s_minus), ("length_of", 1, s_length_of)], [("SIDE", .str "side")], nn⟩
theorem zcs_radius_of : cSs ztb_radius_of 60 ⟨["path", "number", "piece"], defScope zst_radius_of, fun _ => true⟩ (defBody zst_radius_of) = some d_radius_of_0 := by rfl
theorem zsc_heading_at : FnScope ["piece", "point", "out"] ["piece", "point"] (defScope zst_heading_at) := ⟨rfl, rfl, rfl, by decide +kernel, rfl, by decide +kernel, by decide +kernel⟩
def ztb_heading_at : Tab := ⟨[("minus", 2, s_minus), ("left_of", 1, s_left_of), ("unit_of", 1, s_unit_of), ("opposite", 1, s_opposite)], [("TURNS", .tup [.str "left", .str "right"])], nn⟩
theorem zcs_heading_at : cSs ztb_heading_at 60 ⟨["piece", "point", "out"], defScope zst_heading_at, fun _ => true⟩ (defBody zst_heading_at) = some d_heading_at_0 := by rfl
theorem zsc_headings : FnScope ["path", "number", "piece", "begin", "unit"] ["path", "number"] (defScope zst_headings) := ⟨rfl, rfl, rfl, by decide +kernel, rfl, by decide +kernel, by decide +kernel⟩
def ztb_headings : Tab := ⟨[("minus", 2, s_minus), ("unit_of", 1, s_unit_of), ("begin_of", 2, s_begin_of), ("heading_at", 2, s_heading_at)], [("SIDE", .str "side")], nn⟩
theorem zcs_headings : cSs ztb_headings 60 ⟨["path", "number", "piece", "begin", "unit"], defScope zst_headings, fun _ => true⟩ (defBody zst_headings) = some d_headings_0 := by rfl
theorem zsc_corner_word : FnScope ["ahead", "behind", "way"] ["ahead", "behind"] (defScope zst_corner_word) := ⟨rfl, rfl, rfl, by decide +kernel, rfl, by decide +kernel, by decide +kernel⟩
def ztb_corner_word : Tab := ⟨[("compared", 2, s_compared), ("cross", 2, s_cross)], [("NOUGHT_paths", .tup [.int 0, .int 1])], nn⟩
theorem zcs_corner_word : cSs ztb_corner_word 60 ⟨["ahead", "behind", "way"], defScope zst_corner_word, fun _ => true⟩ (defBody zst_corner_word) = some d_corner_word_0 := by rfl
theorem zsc_corners : FnScope ["path", "found", "number", "ahead"] ["path"] (defScope zst_corners) := ⟨rfl, rfl, rfl, by decide +kernel, rfl, by decide +kernel, by decide +kernel⟩
def ztb_corners : Tab := ⟨[("is_closed", 1, s_is_closed), ("headings", 2, s_headings), ("corner_word", 2, s_corner_word)], [], nn⟩
theorem zcs_corners : cSs ztb_corners 60 ⟨["path", "found", "number", "ahead"], defScope zst_corners, fun _ => true⟩ (defBody zst_corners) = some d_corners_0 := by rfl
theorem zsc_turned : FnScope ["unit", "by", "x", "y", "c", "s"] ["unit", "by"] (defScope zst_turned) := ⟨rfl, rfl, rfl, by decide +kernel, rfl, by decide +kernel, by decide +kernel⟩
def ztb_turned : Tab := ⟨[("added", 2, s_added), ("taken", 2, s_taken), ("times", 2, s_times)], [], nn⟩
theorem zcs_turned : cSs ztb_turned 60 ⟨["unit", "by", "x", "y", "c", "s"], defScope zst_turned, fun _ => true⟩ (defBody zst_turned) = some d_turned_0 := by rfl
theorem zsc_turn_by : FnScope ["part", "square", "under"] ["part"] (defScope zst_turn_by) := ⟨rfl, rfl, rfl, by decide +kernel, rfl, by decide +kernel, by decide +kernel⟩
def ztb_turn_by : Tab := ⟨[("added", 2, s_added), ("taken", 2, s_taken), ("times", 2, s_times), ("over", 2, s_over)], [("ONE_turns", .tup [.int 1, .int 1])], nn⟩
theorem zcs_turn_by : cSs ztb_turn_by 60 ⟨["part", "square", "under"], defScope zst_turn_by, fun _ => true⟩ (defBody zst_turn_by) = some d_turn_by_0 := by rfl
theorem zsc_steps_on : FnScope ["unit", "part", "steps", "k"] ["unit", "part", "steps"] (defScope zst_steps_on) := ⟨rfl, rfl, rfl, by decide +kernel, rfl, by decide +kernel, by decide +kernel⟩
def ztb_steps_on : Tab := ⟨[("fraction", 2, s_fraction), ("times", 2, s_times), ("turned", 2, s_turned), ("turn_by", 1, s_turn_by)], [], nn⟩
theorem zcs_steps_on : cSs ztb_steps_on 60 ⟨["unit", "part", "steps", "k"], defScope zst_steps_on, fun _ => true⟩ (defBody zst_steps_on) = some d_steps_on_0 := by rfl
theorem zsc_is_in_quarter : FnScope ["one", "other"] ["one", "other"] (defScope zst_is_in_quarter) := ⟨rfl, rfl, rfl, by decide +kernel, rfl, by decide +kernel, by decide +kernel⟩
def ztb_is_in_quarter : Tab := ⟨[("compared", 2, s_compared), ("dot", 2, s_dot), ("cross", 2, s_cross)], [("NOUGHT_turns", .tup [.int 0, .int 1])], nn⟩
theorem zcs_is_in_quarter : cSs ztb_is_in_quarter 60 ⟨["one", "other"], defScope zst_is_in_quarter, fun _ => true⟩ (defBody zst_is_in_quarter) = some d_is_in_quarter_0 := by rfl
theorem zsc_quarters_between : FnScope ["one", "other", "steps", "found", "last", "part"] ["one", "other", "steps"] (defScope zst_quarters_between) := ⟨rfl, rfl, rfl, by decide +kernel, rfl, by decide +kernel, by decide +kernel⟩
def ztb_quarters_between : Tab := ⟨[("added", 2, s_added), ("over", 2, s_over), ("dot", 2, s_dot), ("cross", 2, s_cross), ("steps_on", 3, s_steps_on), ("is_in_quarter", 2, s_is_in_quarter)], [("ONE_turns", .tup [.int 1, .int 1])], nn⟩
theorem zcs_quarters_between : cSs ztb_quarters_between 60 ⟨["one", "other", "steps", "found", "last", "part"], defScope zst_quarters_between, fun _ => true⟩ (defBody zst_quarters_between) = some d_quarters_between_0 := by rfl
theorem zsc_mirrored_unit : FnScope ["unit"] ["unit"] (defScope zst_mirrored_unit) := ⟨rfl, rfl, rfl, by decide +kernel, rfl, by decide +kernel, by decide +kernel⟩
def ztb_mirrored_unit : Tab := ⟨[("taken", 2, s_taken)], [("NOUGHT_turns", .tup [.int 0, .int 1])], nn⟩
theorem zcs_mirrored_unit : cSs ztb_mirrored_unit 60 ⟨["unit"], defScope zst_mirrored_unit, fun _ => true⟩ (defBody zst_mirrored_unit) = some d_mirrored_unit_0 := by rfl
theorem zsc_is_ahead : FnScope ["first", "one", "other", "halves", "unit"] ["first", "one", "other"] (defScope zst_is_ahead) := ⟨rfl, rfl, rfl, by decide +kernel, rfl, by decide +kernel, by decide +kernel⟩
def ztb_is_ahead : Tab := ⟨[("compared", 2, s_compared), ("cross", 2, s_cross), ("half_of", 2, s_half_of)], [("NOUGHT_turns", .tup [.int 0, .int 1])], nn⟩
theorem zcs_is_ahead : cSs ztb_is_ahead 60 ⟨["first", "one", "other", "halves", "unit"], defScope zst_is_ahead, fun _ => true⟩ (defBody zst_is_ahead) = some d_is_ahead_0 := by rfl
theorem zsc_half_of : FnScope ["first", "unit", "side"] ["first", "unit"] (defScope zst_half_of) := ⟨rfl, rfl, rfl, by decide +kernel, rfl, by decide +kernel, by decide +kernel⟩
def ztb_half_of : Tab := ⟨[("compared", 2, s_compared), ("cross", 2, s_cross)], [("NOUGHT_turns", .tup [.int 0, .int 1])], nn⟩
theorem zcs_half_of : cSs ztb_half_of 60 ⟨["first", "unit", "side"], defScope zst_half_of, fun _ => true⟩ (defBody zst_half_of) = some d_half_of_0 := by rfl
theorem zsc_units_between : FnScope ["one", "other", "steps", "there", "back", "found", "unit"] ["one", "other", "steps"] (defScope zst_units_between) := ⟨rfl, rfl, rfl, by decide +kernel, rfl, by decide +kernel, by decide +kernel⟩
def ztb_units_between : Tab := ⟨[("quarters_between", 3, s_quarters_between), ("mirrored_unit", 1, s_mirrored_unit), ("is_ahead", 3, s_is_ahead)], [], nn⟩
theorem zcs_units_between : cSs ztb_units_between 60 ⟨["one", "other", "steps", "there", "back", "found", "unit"], defScope zst_units_between, fun _ => true⟩ (defBody zst_units_between) = some d_units_between_0 := by rfl
theorem zsc_least_dot : FnScope ["units", "found", "one", "other", "here"] ["units"] (defScope zst_least_dot) := ⟨rfl, rfl, rfl, by decide +kernel, rfl, by decide +kernel, by decide +kernel⟩
def ztb_least_dot : Tab := ⟨[("compared", 2, s_compared), ("dot", 2, s_dot)], [], nn⟩
theorem zcs_least_dot : cSs ztb_least_dot 60 ⟨["units", "found", "one", "other", "here"], defScope zst_least_dot, fun _ => true⟩ (defBody zst_least_dot) = some d_least_dot_0 := by rfl
theorem zsc_tip_of : FnScope ["one", "other", "both", "under"] ["one", "other"] (defScope zst_tip_of) := ⟨rfl, rfl, rfl, by decide +kernel, rfl, by decide +kernel, by decide +kernel⟩
def ztb_tip_of : Tab := ⟨[("added", 2, s_added), ("over", 2, s_over), ("plus", 2, s_plus), ("dot", 2, s_dot)], [("ONE_turns", .tup [.int 1, .int 1])], nn⟩
theorem zcs_tip_of : cSs ztb_tip_of 60 ⟨["one", "other", "both", "under"], defScope zst_tip_of, fun _ => true⟩ (defBody zst_tip_of) = some d_tip_of_0 := by rfl
theorem zsc_right_of : FnScope ["unit"] ["unit"] (defScope zst_right_of) := ⟨rfl, rfl, rfl, by decide +kernel, rfl, by decide +kernel, by decide +kernel⟩
def ztb_right_of : Tab := ⟨[("scaled", 2, s_scaled), ("left_of", 1, s_left_of)], [("LESS", .tup [.int (-1), .int 1])], nn⟩
theorem zcs_right_of : cSs ztb_right_of 60 ⟨["unit"], defScope zst_right_of, fun _ => true⟩ (defBody zst_right_of) = some d_right_of_0 := by rfl
theorem zsc_strip : FnScope ["path", "number", "far", "ends", "begin", "end", "reach"] ["path", "number", "far"] (defScope zst_strip) := ⟨rfl, rfl, rfl, by decide +kernel, rfl, by decide +kernel, by decide +kernel⟩
def ztb_strip : Tab := ⟨[("plus", 2, s_plus), ("minus", 2, s_minus), ("scaled", 2, s_scaled), ("left_of", 1, s_left_of), ("ends_of", 1, s_ends_of), ("headings", 2, s_headings)], [], nn⟩
theorem zcs_strip : cSs ztb_strip 60 ⟨["path", "number", "far", "ends", "begin", "end", "reach"], defScope zst_strip, fun _ => true⟩ (defBody zst_strip) = some d_strip_0 := by rfl
theorem zsc_fan : FnScope ["word", "number", "point", "units", "far", "mark", "found", "one", "other"] ["word", "number", "point", "units", "far", "mark"] (defScope zst_fan) := ⟨rfl, rfl, rfl, by decide +kernel, rfl, by decide +kernel, by decide +kernel⟩
def ztb_fan : Tab := ⟨[("plus", 2, s_plus), ("scaled", 2, s_scaled), ("tip_of", 2, s_tip_of)], [], nn⟩
theorem zcs_fan : cSs ztb_fan 60 ⟨["word", "number", "point", "units", "far", "mark", "found", "one", "other"], defScope zst_fan, fun _ => true⟩ (defBody zst_fan) = some d_fan_0 := by rfl
theorem zsc_corner_units : FnScope ["path", "number", "word", "steps", "ahead", "first", "other"] ["path", "number", "word", "steps"] (defScope zst_corner_units) := ⟨rfl, rfl, rfl, by decide +kernel, rfl, by decide +kernel, by decide +kernel⟩
def ztb_corner_units : Tab := ⟨[("left_of", 1, s_left_of), ("headings", 2, s_headings), ("units_between", 3, s_units_between), ("right_of", 1, s_right_of)], [], nn⟩
theorem zcs_corner_units : cSs ztb_corner_units 60 ⟨["path", "number", "word", "steps", "ahead", "first", "other"], defScope zst_corner_units, fun _ => true⟩ (defBody zst_corner_units) = some d_corner_units_0 := by rfl
theorem zsc_corner_fans : FnScope ["path", "number", "word", "far", "steps", "units", "mark"] ["path", "number", "word", "far", "steps"] (defScope zst_corner_fans) := ⟨rfl, rfl, rfl, by decide +kernel, rfl, by decide +kernel, by decide +kernel⟩
def ztb_corner_fans : Tab := ⟨[("ends_of", 1, s_ends_of), ("fan", 6, s_fan), ("corner_units", 4, s_corner_units)], [], nn⟩
theorem zcs_corner_fans : cSs ztb_corner_fans 60 ⟨["path", "number", "word", "far", "steps", "units", "mark"], defScope zst_corner_fans, fun _ => true⟩ (defBody zst_corner_fans) = some d_corner_fans_0 := by rfl
theorem zsc_arc_units : FnScope ["path", "number", "steps", "ends", "middle", "radius", "share", "first", "other"] ["path", "number", "steps"] (defScope zst_arc_units) := ⟨rfl, rfl, rfl, by decide +kernel, rfl, by decide +kernel, by decide +kernel⟩
def ztb_arc_units : Tab := ⟨[("over", 2, s_over), ("minus", 2, s_minus), ("scaled", 2, s_scaled), ("ends_of", 1, s_ends_of), ("radius_of", 2, s_radius_of), ("units_between", 3, s_units_between)], [("ONE_blocks", .tup [.int 1, .int 1])], nn⟩
theorem zcs_arc_units : cSs ztb_arc_units 60 ⟨["path", "number", "steps", "ends", "middle", "radius", "share", "first", "other"], defScope zst_arc_units, fun _ => true⟩ (defBody zst_arc_units) = some d_arc_units_0 := by rfl
theorem zsc_inner_of : FnScope ["radius", "units", "far"] ["radius", "units", "far"] (defScope zst_inner_of) := ⟨rfl, rfl, rfl, by decide +kernel, rfl, by decide +kernel, by decide +kernel⟩
def ztb_inner_of : Tab := ⟨[("added", 2, s_added), ("taken", 2, s_taken), ("times", 2, s_times), ("over", 2, s_over), ("compared", 2, s_compared), ("least_dot", 1, s_least_dot)], [("NOUGHT_blocks", .tup [.int 0, .int 1]), ("ONE_blocks", .tup [.int 1, .int 1]), ("TWO", .tup [.int 2, .int 1])], nn⟩
theorem zcs_inner_of : cSs ztb_inner_of 60 ⟨["radius", "units", "far"], defScope zst_inner_of, fun _ => true⟩ (defBody zst_inner_of) = some d_inner_of_0 := by rfl
theorem zsc_sector_pair : FnScope ["number", "middle", "one", "other", "inner", "outer", "tip", "far_ones", "first", "near_ones", "unit"] ["number", "middle", "one", "other", "inner", "outer"] (defScope zst_sector_pair) := ⟨rfl, rfl, rfl, by decide +kernel, rfl, by decide +kernel, by decide +kernel⟩
def ztb_sector_pair : Tab := ⟨[("plus", 2, s_plus), ("scaled", 2, s_scaled), ("tip_of", 2, s_tip_of)], [("NOUGHT_blocks", .tup [.int 0, .int 1])], nn⟩
theorem zcs_sector_pair : cSs ztb_sector_pair 60 ⟨["number", "middle", "one", "other", "inner", "outer", "tip", "far_ones", "first", "near_ones", "unit"], defScope zst_sector_pair, fun _ => true⟩ (defBody zst_sector_pair) = some d_sector_pair_0 := by rfl
theorem zsc_exchanged : FnScope ["marks", "mark"] ["marks"] (defScope zst_exchanged) := ⟨rfl, rfl, rfl, by decide +kernel, rfl, by decide +kernel, by decide +kernel⟩
def ztb_exchanged : Tab := ⟨[], [], nn⟩
theorem zcs_exchanged : cSs ztb_exchanged 60 ⟨["marks", "mark"], defScope zst_exchanged, fun _ => true⟩ (defBody zst_exchanged) = some d_exchanged_0 := by rfl
theorem zsc_sectors : FnScope ["path", "number", "far", "steps", "units", "radius", "inner", "outer", "found", "one", "other", "block"] ["path", "number", "far", "steps"] (defScope zst_sectors) := ⟨rfl, rfl, rfl, by decide +kernel, rfl, by decide +kernel, by decide +kernel⟩
def ztb_sectors : Tab := ⟨[("added", 2, s_added), ("radius_of", 2, s_radius_of), ("arc_units", 3, s_arc_units), ("inner_of", 3, s_inner_of), ("sector_pair", 6, s_sector_pair), ("exchanged", 1, s_exchanged)], [("NOUGHT_blocks", .tup [.int 0, .int 1])], nn⟩
theorem zcs_sectors : cSs ztb_sectors 60 ⟨["path", "number", "far", "steps", "units", "radius", "inner", "outer", "found", "one", "other", "block"], defScope zst_sectors, fun _ => true⟩ (defBody zst_sectors) = some d_sectors_0 := by rfl
theorem zsc_own_blocks : FnScope ["path", "number", "far", "steps"] ["path", "number", "far", "steps"] (defScope zst_own_blocks) := ⟨rfl, rfl, rfl, by decide +kernel, rfl, by decide +kernel, by decide +kernel⟩
def ztb_own_blocks : Tab := ⟨[("strip", 3, s_stripB), ("sectors", 4, s_sectors)], [], nn⟩
theorem zcs_own_blocks : cSs ztb_own_blocks 60 ⟨["path", "number", "far", "steps"], defScope zst_own_blocks, fun _ => true⟩ (defBody zst_own_blocks) = some d_own_blocks_0 := by rfl
theorem zsc_start_cap : FnScope ["path", "far", "steps", "unit", "units"] ["path", "far", "steps"] (defScope zst_start_cap) := ⟨rfl, rfl, rfl, by decide +kernel, rfl, by decide +kernel, by decide +kernel⟩
def ztb_start_cap : Tab := ⟨[("left_of", 1, s_left_of), ("headings", 2, s_headings), ("units_between", 3, s_units_between), ("right_of", 1, s_right_of), ("fan", 6, s_fan)], [], nn⟩
theorem zcs_start_cap : cSs ztb_start_cap 60 ⟨["path", "far", "steps", "unit", "units"], defScope zst_start_cap, fun _ => true⟩ (defBody zst_start_cap) = some d_start_cap_0 := by rfl
theorem zsc_end_cap : FnScope ["path", "far", "steps", "last", "unit", "units"] ["path", "far", "steps"] (defScope zst_end_cap) := ⟨rfl, rfl, rfl, by decide +kernel, rfl, by decide +kernel, by decide +kernel⟩
def ztb_end_cap : Tab := ⟨[("left_of", 1, s_left_of), ("ends_of", 1, s_ends_of), ("headings", 2, s_headings), ("units_between", 3, s_units_between), ("right_of", 1, s_right_of), ("fan", 6, s_fan)], [], nn⟩
theorem zcs_end_cap : cSs ztb_end_cap 60 ⟨["path", "far", "steps", "last", "unit", "units"], defScope zst_end_cap, fun _ => true⟩ (defBody zst_end_cap) = some d_end_cap_0 := by rfl
theorem zsc_blocks : FnScope ["path", "far", "steps", "many", "words", "found", "number", "behind"] ["path", "far", "steps"] (defScope zst_blocks) := ⟨rfl, rfl, rfl, by decide +kernel, rfl, by decide +kernel, by decide +kernel⟩
def ztb_blocks : Tab := ⟨[("is_closed", 1, s_is_closed), ("corners", 1, s_corners), ("corner_fans", 5, s_corner_fans), ("own_blocks", 4, s_own_blocks), ("start_cap", 3, s_start_cap), ("end_cap", 3, s_end_cap)], [], nn⟩
theorem zcs_blocks : cSs ztb_blocks 60 ⟨["path", "far", "steps", "many", "words", "found", "number", "behind"], defScope zst_blocks, fun _ => true⟩ (defBody zst_blocks) = some d_blocks_0 := by rfl
theorem zsc_law_box : FnScope ["_law_script", "_law_k", "_law_cell"] ["_law_script", "_law_k"] (defScope zst_law_box) := ⟨rfl, rfl, rfl, by decide +kernel, rfl, by decide +kernel, by decide +kernel⟩
def ztb_law_box : Tab := ⟨[], [], nn⟩
theorem zcs_law_box : cSs ztb_law_box 60 ⟨["_law_script", "_law_k", "_law_cell"], defScope zst_law_box, fun _ => true⟩ (defBody zst_law_box) = some b_box_0 := by rfl
theorem zsc_law_take : FnScope ["_law_box_here", "_law_many", "_law_found", "_law_once"] ["_law_box_here", "_law_many"] (defScope zst_law_take) := ⟨rfl, rfl, rfl, by decide +kernel, rfl, by decide +kernel, by decide +kernel⟩
def ztb_law_take : Tab := ⟨[], [], nn⟩
theorem zcs_law_take : cSs ztb_law_take 60 ⟨["_law_box_here", "_law_many", "_law_found", "_law_once"], defScope zst_law_take, fun _ => true⟩ (defBody zst_law_take) = some l_take_0 := by rfl
theorem zsc_law_folded : FnScope ["_law_script", "_law_many", "_law_cells", "_law_k", "_law_cell"] ["_law_script", "_law_many"] (defScope zst_law_folded) := ⟨rfl, rfl, rfl, by decide +kernel, rfl, by decide +kernel, by decide +kernel⟩
def ztb_law_folded : Tab := ⟨[], [], nn⟩
theorem zcs_law_folded : cSs ztb_law_folded 60 ⟨["_law_script", "_law_many", "_law_cells", "_law_k", "_law_cell"], defScope zst_law_folded, fun _ => true⟩ (defBody zst_law_folded) = some b_folded_0 := by rfl
theorem zsc_law_frac : FnScope ["_law_n", "_law_d", "_law_one", "_law_other"] ["_law_n", "_law_d"] (defScope zst_law_frac) := ⟨rfl, rfl, rfl, by decide +kernel, rfl, by decide +kernel, by decide +kernel⟩
def ztb_law_frac : Tab := ⟨[], [], nn⟩
theorem zcs_law_frac : cSs ztb_law_frac 60 ⟨["_law_n", "_law_d", "_law_one", "_law_other"], defScope zst_law_frac, fun _ => true⟩ (defBody zst_law_frac) = some b_frac_0 := by rfl
theorem zsc_law_sum : FnScope ["_law_one", "_law_other"] ["_law_one", "_law_other"] (defScope zst_law_sum) := ⟨rfl, rfl, rfl, by decide +kernel, rfl, by decide +kernel, by decide +kernel⟩
def ztb_law_sum : Tab := ⟨[("_law_frac", 2, sb_frac)], [], nn⟩
theorem zcs_law_sum : cSs ztb_law_sum 60 ⟨["_law_one", "_law_other"], defScope zst_law_sum, fun _ => true⟩ (defBody zst_law_sum) = some b_sum_0 := by rfl
theorem zsc_law_product : FnScope ["_law_one", "_law_other"] ["_law_one", "_law_other"] (defScope zst_law_product) := ⟨rfl, rfl, rfl, by decide +kernel, rfl, by decide +kernel, by decide +kernel⟩
def ztb_law_product : Tab := ⟨[("_law_frac", 2, sb_frac)], [], nn⟩
theorem zcs_law_product : cSs ztb_law_product 60 ⟨["_law_one", "_law_other"], defScope zst_law_product, fun _ => true⟩ (defBody zst_law_product) = some b_product_0 := by rfl
theorem zsc_law_less : FnScope ["_law_one", "_law_other"] ["_law_one", "_law_other"] (defScope zst_law_less) := ⟨rfl, rfl, rfl, by decide +kernel, rfl, by decide +kernel, by decide +kernel⟩
def ztb_law_less : Tab := ⟨[("_law_frac", 2, sb_frac)], [], nn⟩
theorem zcs_law_less : cSs ztb_law_less 60 ⟨["_law_one", "_law_other"], defScope zst_law_less, fun _ => true⟩ (defBody zst_law_less) = some b_less_0 := by rfl
theorem zsc_law_add : FnScope ["_law_one", "_law_other"] ["_law_one", "_law_other"] (defScope zst_law_add) := ⟨rfl, rfl, rfl, by decide +kernel, rfl, by decide +kernel, by decide +kernel⟩
def ztb_law_add : Tab := ⟨[("_law_sum", 2, sb_sum)], [], nn⟩
theorem zcs_law_add : cSs ztb_law_add 60 ⟨["_law_one", "_law_other"], defScope zst_law_add, fun _ => true⟩ (defBody zst_law_add) = some b_add_0 := by rfl
theorem zsc_law_sub : FnScope ["_law_one", "_law_other"] ["_law_one", "_law_other"] (defScope zst_law_sub) := ⟨rfl, rfl, rfl, by decide +kernel, rfl, by decide +kernel, by decide +kernel⟩
def ztb_law_sub : Tab := ⟨[("_law_less", 2, sb_less)], [], nn⟩
theorem zcs_law_sub : cSs ztb_law_sub 60 ⟨["_law_one", "_law_other"], defScope zst_law_sub, fun _ => true⟩ (defBody zst_law_sub) = some b_sub_0 := by rfl
theorem zsc_law_scaled_by : FnScope ["_law_vector", "_law_share"] ["_law_vector", "_law_share"] (defScope zst_law_scaled_by) := ⟨rfl, rfl, rfl, by decide +kernel, rfl, by decide +kernel, by decide +kernel⟩
def ztb_law_scaled_by : Tab := ⟨[("_law_product", 2, sb_product)], [], nn⟩
theorem zcs_law_scaled_by : cSs ztb_law_scaled_by 60 ⟨["_law_vector", "_law_share"], defScope zst_law_scaled_by, fun _ => true⟩ (defBody zst_law_scaled_by) = some b_scaled_by_0 := by rfl
theorem zsc_law_cross : FnScope ["_law_one", "_law_other"] ["_law_one", "_law_other"] (defScope zst_law_cross) := ⟨rfl, rfl, rfl, by decide +kernel, rfl, by decide +kernel, by decide +kernel⟩
def ztb_law_cross : Tab := ⟨[("_law_product", 2, sb_product), ("_law_less", 2, sb_less)], [], nn⟩
theorem zcs_law_cross : cSs ztb_law_cross 60 ⟨["_law_one", "_law_other"], defScope zst_law_cross, fun _ => true⟩ (defBody zst_law_cross) = some b_cross_0 := by rfl
theorem zsc_law_quarter : FnScope ["_law_vector"] ["_law_vector"] (defScope zst_law_quarter) := ⟨rfl, rfl, rfl, by decide +kernel, rfl, by decide +kernel, by decide +kernel⟩
def ztb_law_quarter : Tab := ⟨[], [], nn⟩
theorem zcs_law_quarter : cSs ztb_law_quarter 60 ⟨["_law_vector"], defScope zst_law_quarter, fun _ => true⟩ (defBody zst_law_quarter) = some b_quarter_0 := by rfl
theorem zsc_law_unit_at : FnScope ["_law_k", "_law_some", "_law_found", "_law_turn"] ["_law_k"] (defScope zst_law_unit_at) := ⟨rfl, rfl, rfl, by decide +kernel, rfl, by decide +kernel, by decide +kernel⟩
def ztb_law_unit_at : Tab := ⟨[("_law_quarter", 1, sb_quarter)], [], nn⟩
theorem zcs_law_unit_at : cSs ztb_law_unit_at 60 ⟨["_law_k", "_law_some", "_law_found", "_law_turn"], defScope zst_law_unit_at, fun _ => true⟩ (defBody zst_law_unit_at) = some b_unit_at_0 := by rfl
theorem zsc_law_one_move : FnScope ["_law_box_here", "_law_arcs", "_law_kind", "_law_many", "_law_first", "_law_more", "_law_turn"] ["_law_box_here", "_law_arcs"] (defScope zst_law_one_move) := ⟨rfl, rfl, rfl, by decide +kernel, rfl, by decide +kernel, by decide +kernel⟩
def ztb_law_one_move : Tab := ⟨[("_law_take", 2, sl_take), ("_law_unit_at", 1, sb_unit_at)], [], nn⟩
theorem zcs_law_one_move : cSs ztb_law_one_move 60 ⟨["_law_box_here", "_law_arcs", "_law_kind", "_law_many", "_law_first", "_law_more", "_law_turn"], defScope zst_law_one_move, fun _ => true⟩ (defBody zst_law_one_move) = some b_one_move_0 := by rfl
theorem zsc_law_path_of : FnScope ["_law_start", "_law_moves", "_law_at", "_law_pieces", "_law_move", "_law_middle"] ["_law_start", "_law_moves"] (defScope zst_law_path_of) := ⟨rfl, rfl, rfl, by decide +kernel, rfl, by decide +kernel, by decide +kernel⟩
def ztb_law_path_of : Tab := ⟨[("_law_add", 2, sb_add), ("_law_sub", 2, sb_sub), ("_law_scaled_by", 2, sb_scaled_by)], [], nn⟩
theorem zcs_law_path_of : cSs ztb_law_path_of 60 ⟨["_law_start", "_law_moves", "_law_at", "_law_pieces", "_law_move", "_law_middle"], defScope zst_law_path_of, fun _ => true⟩ (defBody zst_law_path_of) = some b_path_of_0 := by rfl
theorem zsc_law_back : FnScope ["_law_move"] ["_law_move"] (defScope zst_law_back) := ⟨rfl, rfl, rfl, by decide +kernel, rfl, by decide +kernel, by decide +kernel⟩
def ztb_law_back : Tab := ⟨[("_law_scaled_by", 2, sb_scaled_by)], [], nn⟩
theorem zcs_law_back : cSs ztb_law_back 60 ⟨["_law_move"], defScope zst_law_back, fun _ => true⟩ (defBody zst_law_back) = some b_back_0 := by rfl
theorem zsc_law_all_moves : FnScope ["_law_box_here", "_law_most", "_law_way", "_law_many", "_law_found", "_law_rest", "_law_turn", "_law_move"] ["_law_box_here", "_law_most"] (defScope zst_law_all_moves) := ⟨rfl, rfl, rfl, by decide +kernel, rfl, by decide +kernel, by decide +kernel⟩
def ztb_law_all_moves : Tab := ⟨[("_law_take", 2, sl_take), ("_law_one_move", 2, sb_one_move), ("_law_back", 1, sb_back)], [], nn⟩
theorem zcs_law_all_moves : cSs ztb_law_all_moves 60 ⟨["_law_box_here", "_law_most", "_law_way", "_law_many", "_law_found", "_law_rest", "_law_turn", "_law_move"], defScope zst_law_all_moves, fun _ => true⟩ (defBody zst_law_all_moves) = some b_all_moves_0 := by rfl
theorem zsc_law_drawn : FnScope ["_law_box_here", "_law_most", "_law_start", "_law_found"] ["_law_box_here", "_law_most"] (defScope zst_law_drawn) := ⟨rfl, rfl, rfl, by decide +kernel, rfl, by decide +kernel, by decide +kernel⟩
def ztb_law_drawn : Tab := ⟨[("_law_take", 2, sl_take), ("_law_path_of", 2, sb_path_of), ("_law_all_moves", 2, sb_all_moves)], [], nn⟩
theorem zcs_law_drawn : cSs ztb_law_drawn 60 ⟨["_law_box_here", "_law_most", "_law_start", "_law_found"], defScope zst_law_drawn, fun _ => true⟩ (defBody zst_law_drawn) = some b_drawn_0 := by rfl
theorem zsc_law_width : FnScope ["_law_box_here", "_law_way", "_law_bottom"] ["_law_box_here"] (defScope zst_law_width) := ⟨rfl, rfl, rfl, by decide +kernel, rfl, by decide +kernel, by decide +kernel⟩
def ztb_law_width : Tab := ⟨[("_law_take", 2, sl_take), ("_law_frac", 2, sb_frac)], [], nn⟩
theorem zcs_law_width : cSs ztb_law_width 60 ⟨["_law_box_here", "_law_way", "_law_bottom"], defScope zst_law_width, fun _ => true⟩ (defBody zst_law_width) = some b_width_0 := by rfl
theorem zsc_law_case : FnScope ["_law_box_here", "_law_great", "_law_arcs", "_law_more", "_law_far", "_law_steps", "_law_found", "_law_path", "_law_turn"] ["_law_box_here"] (defScope zst_law_case) := ⟨rfl, rfl, rfl, by decide +kernel, rfl, by decide +kernel, by decide +kernel⟩
def ztb_law_case : Tab := ⟨[("_law_take", 2, sl_take), ("_law_one_move", 2, sb_one_move), ("_law_path_of", 2, sb_path_of), ("_law_drawn", 2, sb_drawn), ("_law_width", 1, sb_width)], [], nn⟩
theorem zcs_law_case : cSs ztb_law_case 60 ⟨["_law_box_here", "_law_great", "_law_arcs", "_law_more", "_law_far", "_law_steps", "_law_found", "_law_path", "_law_turn"], defScope zst_law_case, fun _ => true⟩ (defBody zst_law_case) = some b_case_0 := by rfl
theorem zsc_law_on_path : FnScope ["_law_box_here", "_law_path", "_law_found", "_law_steps", "_law_number", "_law_share", "_law_ends", "_law_move", "_law_one", "_law_other", "_law_units", "_law_piece"] ["_law_box_here", "_law_path", "_law_found", "_law_steps"] (defScope zst_law_on_path) := ⟨rfl, rfl, rfl, by decide +kernel, rfl, by decide +kernel, by decide +kernel⟩
def ztb_law_on_path : Tab := ⟨[("units_between", 3, s_units_between), ("_law_take", 2, sl_take), ("_law_frac", 2, sb_frac), ("_law_add", 2, sb_add), ("_law_scaled_by", 2, sb_scaled_by)], [], nn⟩
theorem zcs_law_on_path : cSs ztb_law_on_path 60 ⟨["_law_box_here", "_law_path", "_law_found", "_law_steps", "_law_number", "_law_share", "_law_ends", "_law_move", "_law_one", "_law_other", "_law_units", "_law_piece"], defScope zst_law_on_path, fun _ => true⟩ (defBody zst_law_on_path) = some b_on_path_0 := by rfl
theorem zsc_law_in : FnScope ["_law_block", "_law_point", "_law_spots", "_law_k"] ["_law_block", "_law_point"] (defScope zst_law_in) := ⟨rfl, rfl, rfl, by decide +kernel, rfl, by decide +kernel, by decide +kernel⟩
def ztb_law_in : Tab := ⟨[("_law_sub", 2, sb_sub), ("_law_cross", 2, sb_cross)], [], nn⟩
theorem zcs_law_in : cSs ztb_law_in 60 ⟨["_law_block", "_law_point", "_law_spots", "_law_k"], defScope zst_law_in, fun _ => true⟩ (defBody zst_law_in) = some b_in_0 := by rfl
theorem zsc_law : FnScope ["_law_script", "_law_cells", "_law_k", "_law_box_here", "_law_turn", "_law_path", "_law_found", "_law_far", "_law_steps", "_law_told", "_law_spot", "_law_share", "_law_reach", "_law_point", "_law_block"] ["_law_script"] (defScope zst_law) := ⟨rfl, rfl, rfl, by decide +kernel, rfl, by decide +kernel, by decide +kernel⟩
def ztb_law : Tab := ⟨[("blocks", 3, s_blocks), ("_law_box", 2, sb_box), ("_law_take", 2, sl_take), ("_law_folded", 2, sb_folded), ("_law_frac", 2, sb_frac), ("_law_product", 2, sb_product), ("_law_add", 2, sb_add), ("_law_scaled_by", 2, sb_scaled_by), ("_law_unit_at", 1, sb_unit_at), ("_law_case", 1, sb_case), ("_law_on_path", 4, sb_on_path), ("_law_in", 2, sb_in)], [], nn⟩
theorem zcs_law : cSs ztb_law 60 ⟨["_law_script", "_law_cells", "_law_k", "_law_box_here", "_law_turn", "_law_path", "_law_found", "_law_far", "_law_steps", "_law_told", "_law_spot", "_law_share", "_law_reach", "_law_point", "_law_block"], defScope zst_law, fun _ => true⟩ (defBody zst_law) = some l_law_0 := by rfl
theorem zall_mk {l : PySem.W.OpenLaw} {w : World} {K : PySem.W.Frag} {h : Heap} {mg : Str → Option Value} {fa : Addr} (X : K.In h) (G : h.Ns mainGlobals mg) (hfa : mg "law" = some (.ref fa)) (c : SaysM zfb zfn K) :
    ∃ fd : FuncData, (∀ (s : Shared) (v : Value), BindsTo s fd ⟨[v], []⟩ [("_law_script", v)]) ∧ ∀ base : Heap, K.In base → base.Ns mainGlobals mg → FnG l.prog w K mg base 12 fa fd ["_law_script"] (liftSp K 1 sl_law) := by
  obtain ⟨f0, a0, fd0, F0⟩ := c.fun_ (x := "divisor_of") (st := zst_divisor_of) 0 rfl
  obtain ⟨f1, a1, fd1, F1⟩ := c.fun_ (x := "fraction") (st := zst_fraction) 1 rfl
  obtain ⟨f2, a2, fd2, F2⟩ := c.fun_ (x := "added") (st := zst_added) 2 rfl
  obtain ⟨f3, a3, fd3, F3⟩ := c.fun_ (x := "taken") (st := zst_taken) 3 rfl
  obtain ⟨f4, a4, fd4, F4⟩ := c.fun_ (x := "times") (st := zst_times) 4 rfl
  obtain ⟨f5, a5, fd5, F5⟩ := c.fun_ (x := "over") (st := zst_over) 5 rfl
  obtain ⟨f6, a6, fd6, F6⟩ := c.fun_ (x := "compared") (st := zst_compared) 6 rfl
  obtain ⟨f7, a7, fd7, F7⟩ := c.fun_ (x := "whole_root") (st := zst_whole_root) 7 rfl
  obtain ⟨f8, a8, fd8, F8⟩ := c.fun_ (x := "root_of") (st := zst_root_of) 8 rfl
  obtain ⟨f9, a9, fd9, F9⟩ := c.fun_ (x := "plus") (st := zst_plus) 9 rfl
  obtain ⟨f10, a10, fd10, F10⟩ := c.fun_ (x := "minus") (st := zst_minus) 10 rfl
  obtain ⟨f11, a11, fd11, F11⟩ := c.fun_ (x := "scaled") (st := zst_scaled) 11 rfl
  obtain ⟨f12, a12, fd12, F12⟩ := c.fun_ (x := "dot") (st := zst_dot) 12 rfl
  obtain ⟨f13, a13, fd13, F13⟩ := c.fun_ (x := "cross") (st := zst_cross) 13 rfl
  obtain ⟨f14, a14, fd14, F14⟩ := c.fun_ (x := "left_of") (st := zst_left_of) 14 rfl
  obtain ⟨f15, a15, fd15, F15⟩ := c.fun_ (x := "length_of") (st := zst_length_of) 15 rfl
  obtain ⟨f16, a16, fd16, F16⟩ := c.fun_ (x := "unit_of") (st := zst_unit_of) 16 rfl
  obtain ⟨f17, a17, fd17, F17⟩ := c.fun_ (x := "opposite") (st := zst_opposite) 17 rfl
  obtain ⟨f18, a18, fd18, F18⟩ := c.fun_ (x := "to_of") (st := zst_to_of) 18 rfl
  obtain ⟨f19, a19, fd19, F19⟩ := c.fun_ (x := "ends_of") (st := zst_ends_of) 19 rfl
  obtain ⟨f20, a20, fd20, F20⟩ := c.fun_ (x := "is_closed") (st := zst_is_closed) 20 rfl
  obtain ⟨f21, a21, fd21, F21⟩ := c.fun_ (x := "begin_of") (st := zst_begin_of) 21 rfl
  obtain ⟨f22, a22, fd22, F22⟩ := c.fun_ (x := "radius_of") (st := zst_radius_of) 22 rfl
  obtain ⟨f23, a23, fd23, F23⟩ := c.fun_ (x := "heading_at") (st := zst_heading_at) 23 rfl
  obtain ⟨f24, a24, fd24, F24⟩ := c.fun_ (x := "headings") (st := zst_headings) 24 rfl
  obtain ⟨f25, a25, fd25, F25⟩ := c.fun_ (x := "corner_word") (st := zst_corner_word) 25 rfl
  obtain ⟨f26, a26, fd26, F26⟩ := c.fun_ (x := "corners") (st := zst_corners) 26 rfl
  obtain ⟨f27, a27, fd27, F27⟩ := c.fun_ (x := "turned") (st := zst_turned) 27 rfl
  obtain ⟨f28, a28, fd28, F28⟩ := c.fun_ (x := "turn_by") (st := zst_turn_by) 28 rfl
  obtain ⟨f29, a29, fd29, F29⟩ := c.fun_ (x := "steps_on") (st := zst_steps_on) 29 rfl
  obtain ⟨f30, a30, fd30, F30⟩ := c.fun_ (x := "is_in_quarter") (st := zst_is_in_quarter) 30 rfl
  obtain ⟨f31, a31, fd31, F31⟩ := c.fun_ (x := "quarters_between") (st := zst_quarters_between) 31 rfl
  obtain ⟨f32, a32, fd32, F32⟩ := c.fun_ (x := "mirrored_unit") (st := zst_mirrored_unit) 32 rfl
  obtain ⟨f33, a33, fd33, F33⟩ := c.fun_ (x := "is_ahead") (st := zst_is_ahead) 33 rfl
  obtain ⟨f34, a34, fd34, F34⟩ := c.fun_ (x := "half_of") (st := zst_half_of) 34 rfl
  obtain ⟨f35, a35, fd35, F35⟩ := c.fun_ (x := "units_between") (st := zst_units_between) 35 rfl
  obtain ⟨f36, a36, fd36, F36⟩ := c.fun_ (x := "least_dot") (st := zst_least_dot) 36 rfl
  obtain ⟨f37, a37, fd37, F37⟩ := c.fun_ (x := "tip_of") (st := zst_tip_of) 37 rfl
  obtain ⟨f38, a38, fd38, F38⟩ := c.fun_ (x := "right_of") (st := zst_right_of) 38 rfl
  obtain ⟨f39, a39, fd39, F39⟩ := c.fun_ (x := "strip") (st := zst_strip) 39 rfl
  obtain ⟨f40, a40, fd40, F40⟩ := c.fun_ (x := "fan") (st := zst_fan) 40 rfl
  obtain ⟨f41, a41, fd41, F41⟩ := c.fun_ (x := "corner_units") (st := zst_corner_units) 41 rfl
  obtain ⟨f42, a42, fd42, F42⟩ := c.fun_ (x := "corner_fans") (st := zst_corner_fans) 42 rfl
  obtain ⟨f43, a43, fd43, F43⟩ := c.fun_ (x := "arc_units") (st := zst_arc_units) 43 rfl
  obtain ⟨f44, a44, fd44, F44⟩ := c.fun_ (x := "inner_of") (st := zst_inner_of) 44 rfl
  obtain ⟨f45, a45, fd45, F45⟩ := c.fun_ (x := "sector_pair") (st := zst_sector_pair) 45 rfl
  obtain ⟨f46, a46, fd46, F46⟩ := c.fun_ (x := "exchanged") (st := zst_exchanged) 46 rfl
  obtain ⟨f47, a47, fd47, F47⟩ := c.fun_ (x := "sectors") (st := zst_sectors) 47 rfl
  obtain ⟨f48, a48, fd48, F48⟩ := c.fun_ (x := "own_blocks") (st := zst_own_blocks) 48 rfl
  obtain ⟨f49, a49, fd49, F49⟩ := c.fun_ (x := "start_cap") (st := zst_start_cap) 49 rfl
  obtain ⟨f50, a50, fd50, F50⟩ := c.fun_ (x := "end_cap") (st := zst_end_cap) 50 rfl
  obtain ⟨f51, a51, fd51, F51⟩ := c.fun_ (x := "blocks") (st := zst_blocks) 51 rfl
  obtain ⟨f52, a52, fd52, F52⟩ := c.fun_ (x := "_law_box") (st := zst_law_box) 52 rfl
  obtain ⟨f53, a53, fd53, F53⟩ := c.fun_ (x := "_law_take") (st := zst_law_take) 53 rfl
  obtain ⟨f54, a54, fd54, F54⟩ := c.fun_ (x := "_law_folded") (st := zst_law_folded) 54 rfl
  obtain ⟨f55, a55, fd55, F55⟩ := c.fun_ (x := "_law_frac") (st := zst_law_frac) 55 rfl
  obtain ⟨f56, a56, fd56, F56⟩ := c.fun_ (x := "_law_sum") (st := zst_law_sum) 56 rfl
  obtain ⟨f57, a57, fd57, F57⟩ := c.fun_ (x := "_law_product") (st := zst_law_product) 57 rfl
  obtain ⟨f58, a58, fd58, F58⟩ := c.fun_ (x := "_law_less") (st := zst_law_less) 58 rfl
  obtain ⟨f59, a59, fd59, F59⟩ := c.fun_ (x := "_law_add") (st := zst_law_add) 59 rfl
  obtain ⟨f60, a60, fd60, F60⟩ := c.fun_ (x := "_law_sub") (st := zst_law_sub) 60 rfl
  obtain ⟨f61, a61, fd61, F61⟩ := c.fun_ (x := "_law_scaled_by") (st := zst_law_scaled_by) 61 rfl
  obtain ⟨f62, a62, fd62, F62⟩ := c.fun_ (x := "_law_cross") (st := zst_law_cross) 62 rfl
  obtain ⟨f63, a63, fd63, F63⟩ := c.fun_ (x := "_law_quarter") (st := zst_law_quarter) 63 rfl
  obtain ⟨f64, a64, fd64, F64⟩ := c.fun_ (x := "_law_unit_at") (st := zst_law_unit_at) 64 rfl
  obtain ⟨f65, a65, fd65, F65⟩ := c.fun_ (x := "_law_one_move") (st := zst_law_one_move) 65 rfl
  obtain ⟨f66, a66, fd66, F66⟩ := c.fun_ (x := "_law_path_of") (st := zst_law_path_of) 66 rfl
  obtain ⟨f67, a67, fd67, F67⟩ := c.fun_ (x := "_law_back") (st := zst_law_back) 67 rfl
  obtain ⟨f68, a68, fd68, F68⟩ := c.fun_ (x := "_law_all_moves") (st := zst_law_all_moves) 68 rfl
  obtain ⟨f69, a69, fd69, F69⟩ := c.fun_ (x := "_law_drawn") (st := zst_law_drawn) 69 rfl
  obtain ⟨f70, a70, fd70, F70⟩ := c.fun_ (x := "_law_width") (st := zst_law_width) 70 rfl
  obtain ⟨f71, a71, fd71, F71⟩ := c.fun_ (x := "_law_case") (st := zst_law_case) 71 rfl
  obtain ⟨f72, a72, fd72, F72⟩ := c.fun_ (x := "_law_on_path") (st := zst_law_on_path) 72 rfl
  obtain ⟨f73, a73, fd73, F73⟩ := c.fun_ (x := "_law_in") (st := zst_law_in) 73 rfl
  obtain ⟨f74, a74, fd74, F74⟩ := c.fun_ (x := "law") (st := zst_law) 74 rfl
  have e := hfa.symm.trans (PySem.W.mg_of X G a74)
  cases e
  obtain ⟨u_NOUGHT_fractions, v_NOUGHT_fractions, gu_NOUGHT_fractions, gr_NOUGHT_fractions, gp_NOUGHT_fractions⟩ := c.cn X G (x := "NOUGHT_fractions") (p := .tup [.int 0, .int 1]) 0 rfl
  obtain ⟨u_NOUGHT_paths, v_NOUGHT_paths, gu_NOUGHT_paths, gr_NOUGHT_paths, gp_NOUGHT_paths⟩ := c.cn X G (x := "NOUGHT_paths") (p := .tup [.int 0, .int 1]) 1 rfl
  obtain ⟨u_SIDE, v_SIDE, gu_SIDE, gr_SIDE, gp_SIDE⟩ := c.cn X G (x := "SIDE") (p := .str "side") 2 rfl
  obtain ⟨u_TURNS, v_TURNS, gu_TURNS, gr_TURNS, gp_TURNS⟩ := c.cn X G (x := "TURNS") (p := .tup [.str "left", .str "right"]) 3 rfl
  obtain ⟨u_ONE_turns, v_ONE_turns, gu_ONE_turns, gr_ONE_turns, gp_ONE_turns⟩ := c.cn X G (x := "ONE_turns") (p := .tup [.int 1, .int 1]) 4 rfl
  obtain ⟨u_NOUGHT_turns, v_NOUGHT_turns, gu_NOUGHT_turns, gr_NOUGHT_turns, gp_NOUGHT_turns⟩ := c.cn X G (x := "NOUGHT_turns") (p := .tup [.int 0, .int 1]) 5 rfl
  obtain ⟨u_LESS, v_LESS, gu_LESS, gr_LESS, gp_LESS⟩ := c.cn X G (x := "LESS") (p := .tup [.int (-1), .int 1]) 6 rfl
  obtain ⟨u_ONE_blocks, v_ONE_blocks, gu_ONE_blocks, gr_ONE_blocks, gp_ONE_blocks⟩ := c.cn X G (x := "ONE_blocks") (p := .tup [.int 1, .int 1]) 7 rfl
  obtain ⟨u_NOUGHT_blocks, v_NOUGHT_blocks, gu_NOUGHT_blocks, gr_NOUGHT_blocks, gp_NOUGHT_blocks⟩ := c.cn X G (x := "NOUGHT_blocks") (p := .tup [.int 0, .int 1]) 8 rfl
  obtain ⟨u_TWO, v_TWO, gu_TWO, gr_TWO, gp_TWO⟩ := c.cn X G (x := "TWO") (p := .tup [.int 2, .int 1]) 9 rfl
  have nk : NonOk mg nn := .cons (c.free X G (x := "abs") 10 rfl) (.cons (c.free X G (x := "int") 11 rfl) (.cons (c.free X G (x := "len") 12 rfl) (.cons (c.free X G (x := "range") 13 rfl) (.cons (c.free X G (x := "reversed") 14 rfl) (.cons (c.free X G (x := "zip") 15 rfl) (.cons (c.free X G (x := "tuple") 16 rfl) (.cons (c.free X G (x := "dict") 17 rfl) (.cons (c.free X G (x := "divmod") 18 rfl) (.cons (c.free X G (x := "enumerate") 19 rfl) (.cons (c.free X G (x := "list") 20 rfl) (.cons (c.free X G (x := "min") 21 rfl) (.cons (c.free X G (x := "any") 22 rfl) (.cons (c.free X G (x := "max") 23 rfl) (.nil))))))))))))))
  have bL : ∀ (s : Shared) (v : Value), BindsTo s fd74 ⟨[v], []⟩ [("_law_script", v)] := by
    obtain ⟨_, _, kV, dc, pm, an, cd, ct, _, rfl, _, _⟩ := F74.ex
    exact fun s v => .of_eq rfl
  refine ⟨fd74, bL, fun base _ _ => ?_⟩
  have b0 := F0.binds (ps := ["one", "other"]) fun _ _ _ _ _ _ us hl => match us, hl with | [_, _], _ => rfl
  have g0 : FnIs l.prog w K mg base 1 "divisor_of" 2 s_divisor_of := def_ok (k := 0) (TabOk.start nk) F0 zsc_divisor_of zcs_divisor_of (PySem.W.mg_of X G a0) b0 ok_divisor_of
  have b6 := F6.binds (ps := ["one", "other"]) fun _ _ _ _ _ _ us hl => match us, hl with | [_, _], _ => rfl
  have g6 : FnIs l.prog w K mg base 1 "compared" 2 s_compared := def_ok (k := 0) (TabOk.start nk) F6 zsc_compared zcs_compared (PySem.W.mg_of X G a6) b6 ok_compared
  have b7 := F7.binds (ps := ["number"]) fun _ _ _ _ _ _ us hl => match us, hl with | [_], _ => rfl
  have g7 : FnIs l.prog w K mg base 1 "whole_root" 1 s_whole_root := def_ok (k := 0) (TabOk.start nk) F7 zsc_whole_root zcs_whole_root (PySem.W.mg_of X G a7) b7 ok_whole_root
  have b18 := F18.binds (ps := ["piece"]) fun _ _ _ _ _ _ us hl => match us, hl with | [_], _ => rfl
  have g18 : FnIs l.prog w K mg base 1 "to_of" 1 s_to_of := def_ok (k := 0) ((TabOk.start nk).cn (p := .str "side") gu_SIDE (v := v_SIDE) gr_SIDE gp_SIDE) F18 zsc_to_of zcs_to_of (PySem.W.mg_of X G a18) b18 ok_to_of
  have b46 := F46.binds (ps := ["marks"]) fun _ _ _ _ _ _ us hl => match us, hl with | [_], _ => rfl
  have g46 : FnIs l.prog w K mg base 1 "exchanged" 1 s_exchanged := def_ok (k := 0) (TabOk.start nk) F46 zsc_exchanged zcs_exchanged (PySem.W.mg_of X G a46) b46 ok_exchanged
  have b52 := F52.binds (ps := ["_law_script", "_law_k"]) fun _ _ _ _ _ _ us hl => match us, hl with | [_, _], _ => rfl
  have g52 : FnIs l.prog w K mg base 1 "_law_box" 2 sb_box := def_ok (k := 0) (TabOk.start nk) F52 zsc_law_box zcs_law_box (PySem.W.mg_of X G a52) b52 ok_b_box
  have b53 := F53.binds (ps := ["_law_box_here", "_law_many"]) fun _ _ _ _ _ _ us hl => match us, hl with | [_, _], _ => rfl
  have g53 : FnIs l.prog w K mg base 1 "_law_take" 2 sl_take := def_ok (k := 0) (TabOk.start nk) F53 zsc_law_take zcs_law_take (PySem.W.mg_of X G a53) b53 ok_l_take
  have b54 := F54.binds (ps := ["_law_script", "_law_many"]) fun _ _ _ _ _ _ us hl => match us, hl with | [_, _], _ => rfl
  have g54 : FnIs l.prog w K mg base 1 "_law_folded" 2 sb_folded := def_ok (k := 0) (TabOk.start nk) F54 zsc_law_folded zcs_law_folded (PySem.W.mg_of X G a54) b54 ok_b_folded
  have b55 := F55.binds (ps := ["_law_n", "_law_d"]) fun _ _ _ _ _ _ us hl => match us, hl with | [_, _], _ => rfl
  have g55 : FnIs l.prog w K mg base 1 "_law_frac" 2 sb_frac := def_ok (k := 0) (TabOk.start nk) F55 zsc_law_frac zcs_law_frac (PySem.W.mg_of X G a55) b55 ok_b_frac
  have b63 := F63.binds (ps := ["_law_vector"]) fun _ _ _ _ _ _ us hl => match us, hl with | [_], _ => rfl
  have g63 : FnIs l.prog w K mg base 1 "_law_quarter" 1 sb_quarter := def_ok (k := 0) (TabOk.start nk) F63 zsc_law_quarter zcs_law_quarter (PySem.W.mg_of X G a63) b63 ok_b_quarter
  have b1 := F1.binds (ps := ["n", "d"]) fun _ _ _ _ _ _ us hl => match us, hl with | [_, _], _ => rfl
  have g1 : FnIs l.prog w K mg base 2 "fraction" 2 s_fraction := def_ok (k := 1) ((TabOk.start nk).add (g0.mono (by decide))) F1 zsc_fraction zcs_fraction (PySem.W.mg_of X G a1) b1 ok_fraction
  have b8 := F8.binds (ps := ["one"]) fun _ _ _ _ _ _ us hl => match us, hl with | [_], _ => rfl
  have g8 : FnIs l.prog w K mg base 2 "root_of" 1 s_root_of := def_ok (k := 1) ((TabOk.start nk).add (g7.mono (by decide))) F8 zsc_root_of zcs_root_of (PySem.W.mg_of X G a8) b8 ok_root_of
  have b19 := F19.binds (ps := ["path"]) fun _ _ _ _ _ _ us hl => match us, hl with | [_], _ => rfl
  have g19 : FnIs l.prog w K mg base 2 "ends_of" 1 s_ends_of := def_ok (k := 1) ((TabOk.start nk).add (g18.mono (by decide))) F19 zsc_ends_of zcs_ends_of (PySem.W.mg_of X G a19) b19 ok_ends_of
  have b20 := F20.binds (ps := ["path"]) fun _ _ _ _ _ _ us hl => match us, hl with | [_], _ => rfl
  have g20 : FnIs l.prog w K mg base 2 "is_closed" 1 s_is_closed := def_ok (k := 1) ((TabOk.start nk).add (g18.mono (by decide))) F20 zsc_is_closed zcs_is_closed (PySem.W.mg_of X G a20) b20 ok_is_closed
  have b21 := F21.binds (ps := ["path", "number"]) fun _ _ _ _ _ _ us hl => match us, hl with | [_, _], _ => rfl
  have g21 : FnIs l.prog w K mg base 2 "begin_of" 2 s_begin_of := def_ok (k := 1) ((TabOk.start nk).add (g18.mono (by decide))) F21 zsc_begin_of zcs_begin_of (PySem.W.mg_of X G a21) b21 ok_begin_of
  have b56 := F56.binds (ps := ["_law_one", "_law_other"]) fun _ _ _ _ _ _ us hl => match us, hl with | [_, _], _ => rfl
  have g56 : FnIs l.prog w K mg base 2 "_law_sum" 2 sb_sum := def_ok (k := 1) ((TabOk.start nk).add (g55.mono (by decide))) F56 zsc_law_sum zcs_law_sum (PySem.W.mg_of X G a56) b56 ok_b_sum
  have b57 := F57.binds (ps := ["_law_one", "_law_other"]) fun _ _ _ _ _ _ us hl => match us, hl with | [_, _], _ => rfl
  have g57 : FnIs l.prog w K mg base 2 "_law_product" 2 sb_product := def_ok (k := 1) ((TabOk.start nk).add (g55.mono (by decide))) F57 zsc_law_product zcs_law_product (PySem.W.mg_of X G a57) b57 ok_b_product
  have b58 := F58.binds (ps := ["_law_one", "_law_other"]) fun _ _ _ _ _ _ us hl => match us, hl with | [_, _], _ => rfl
  have g58 : FnIs l.prog w K mg base 2 "_law_less" 2 sb_less := def_ok (k := 1) ((TabOk.start nk).add (g55.mono (by decide))) F58 zsc_law_less zcs_law_less (PySem.W.mg_of X G a58) b58 ok_b_less
  have b64 := F64.binds (ps := ["_law_k"]) fun _ _ _ _ _ _ us hl => match us, hl with | [_], _ => rfl
  have g64 : FnIs l.prog w K mg base 2 "_law_unit_at" 1 sb_unit_at := def_ok (k := 1) ((TabOk.start nk).add (g63.mono (by decide))) F64 zsc_law_unit_at zcs_law_unit_at (PySem.W.mg_of X G a64) b64 ok_b_unit_at
  have b70 := F70.binds (ps := ["_law_box_here"]) fun _ _ _ _ _ _ us hl => match us, hl with | [_], _ => rfl
  have g70 : FnIs l.prog w K mg base 2 "_law_width" 1 sb_width := def_ok (k := 1) (((TabOk.start nk).add (g55.mono (by decide))).add (g53.mono (by decide))) F70 zsc_law_width zcs_law_width (PySem.W.mg_of X G a70) b70 ok_b_width
  have b2 := F2.binds (ps := ["one", "other"]) fun _ _ _ _ _ _ us hl => match us, hl with | [_, _], _ => rfl
  have g2 : FnIs l.prog w K mg base 3 "added" 2 s_added := def_ok (k := 2) ((TabOk.start nk).add (g1.mono (by decide))) F2 zsc_added zcs_added (PySem.W.mg_of X G a2) b2 ok_added
  have b3 := F3.binds (ps := ["one", "other"]) fun _ _ _ _ _ _ us hl => match us, hl with | [_, _], _ => rfl
  have g3 : FnIs l.prog w K mg base 3 "taken" 2 s_taken := def_ok (k := 2) ((TabOk.start nk).add (g1.mono (by decide))) F3 zsc_taken zcs_taken (PySem.W.mg_of X G a3) b3 ok_taken
  have b4 := F4.binds (ps := ["one", "other"]) fun _ _ _ _ _ _ us hl => match us, hl with | [_, _], _ => rfl
  have g4 : FnIs l.prog w K mg base 3 "times" 2 s_times := def_ok (k := 2) ((TabOk.start nk).add (g1.mono (by decide))) F4 zsc_times zcs_times (PySem.W.mg_of X G a4) b4 ok_times
  have b5 := F5.binds (ps := ["one", "other"]) fun _ _ _ _ _ _ us hl => match us, hl with | [_, _], _ => rfl
  have g5 : FnIs l.prog w K mg base 3 "over" 2 s_over := def_ok (k := 2) ((TabOk.start nk).add (g1.mono (by decide))) F5 zsc_over zcs_over (PySem.W.mg_of X G a5) b5 ok_over
  have b59 := F59.binds (ps := ["_law_one", "_law_other"]) fun _ _ _ _ _ _ us hl => match us, hl with | [_, _], _ => rfl
  have g59 : FnIs l.prog w K mg base 3 "_law_add" 2 sb_add := def_ok (k := 2) ((TabOk.start nk).add (g56.mono (by decide))) F59 zsc_law_add zcs_law_add (PySem.W.mg_of X G a59) b59 ok_b_add
  have b60 := F60.binds (ps := ["_law_one", "_law_other"]) fun _ _ _ _ _ _ us hl => match us, hl with | [_, _], _ => rfl
  have g60 : FnIs l.prog w K mg base 3 "_law_sub" 2 sb_sub := def_ok (k := 2) ((TabOk.start nk).add (g58.mono (by decide))) F60 zsc_law_sub zcs_law_sub (PySem.W.mg_of X G a60) b60 ok_b_sub
  have b61 := F61.binds (ps := ["_law_vector", "_law_share"]) fun _ _ _ _ _ _ us hl => match us, hl with | [_, _], _ => rfl
  have g61 : FnIs l.prog w K mg base 3 "_law_scaled_by" 2 sb_scaled_by := def_ok (k := 2) ((TabOk.start nk).add (g57.mono (by decide))) F61 zsc_law_scaled_by zcs_law_scaled_by (PySem.W.mg_of X G a61) b61 ok_b_scaled_by
  have b62 := F62.binds (ps := ["_law_one", "_law_other"]) fun _ _ _ _ _ _ us hl => match us, hl with | [_, _], _ => rfl
  have g62 : FnIs l.prog w K mg base 3 "_law_cross" 2 sb_cross := def_ok (k := 2) (((TabOk.start nk).add (g58.mono (by decide))).add (g57.mono (by decide))) F62 zsc_law_cross zcs_law_cross (PySem.W.mg_of X G a62) b62 ok_b_cross
  have b65 := F65.binds (ps := ["_law_box_here", "_law_arcs"]) fun _ _ _ _ _ _ us hl => match us, hl with | [_, _], _ => rfl
  have g65 : FnIs l.prog w K mg base 3 "_law_one_move" 2 sb_one_move := def_ok (k := 2) (((TabOk.start nk).add (g64.mono (by decide))).add (g53.mono (by decide))) F65 zsc_law_one_move zcs_law_one_move (PySem.W.mg_of X G a65) b65 ok_b_one_move
  have b9 := F9.binds (ps := ["one", "other"]) fun _ _ _ _ _ _ us hl => match us, hl with | [_, _], _ => rfl
  have g9 : FnIs l.prog w K mg base 4 "plus" 2 s_plus := def_ok (k := 3) ((TabOk.start nk).add (g2.mono (by decide))) F9 zsc_plus zcs_plus (PySem.W.mg_of X G a9) b9 ok_plus
  have b10 := F10.binds (ps := ["one", "other"]) fun _ _ _ _ _ _ us hl => match us, hl with | [_, _], _ => rfl
  have g10 : FnIs l.prog w K mg base 4 "minus" 2 s_minus := def_ok (k := 3) ((TabOk.start nk).add (g3.mono (by decide))) F10 zsc_minus zcs_minus (PySem.W.mg_of X G a10) b10 ok_minus
  have b11 := F11.binds (ps := ["vector", "by"]) fun _ _ _ _ _ _ us hl => match us, hl with | [_, _], _ => rfl
  have g11 : FnIs l.prog w K mg base 4 "scaled" 2 s_scaled := def_ok (k := 3) ((TabOk.start nk).add (g4.mono (by decide))) F11 zsc_scaled zcs_scaled (PySem.W.mg_of X G a11) b11 ok_scaled
  have b12 := F12.binds (ps := ["one", "other"]) fun _ _ _ _ _ _ us hl => match us, hl with | [_, _], _ => rfl
  have g12 : FnIs l.prog w K mg base 4 "dot" 2 s_dot := def_ok (k := 3) (((TabOk.start nk).add (g4.mono (by decide))).add (g2.mono (by decide))) F12 zsc_dot zcs_dot (PySem.W.mg_of X G a12) b12 ok_dot
  have b13 := F13.binds (ps := ["one", "other"]) fun _ _ _ _ _ _ us hl => match us, hl with | [_, _], _ => rfl
  have g13 : FnIs l.prog w K mg base 4 "cross" 2 s_cross := def_ok (k := 3) (((TabOk.start nk).add (g4.mono (by decide))).add (g3.mono (by decide))) F13 zsc_cross zcs_cross (PySem.W.mg_of X G a13) b13 ok_cross
  have b14 := F14.binds (ps := ["vector"]) fun _ _ _ _ _ _ us hl => match us, hl with | [_], _ => rfl
  have g14 : FnIs l.prog w K mg base 4 "left_of" 1 s_left_of := def_ok (k := 3) (((TabOk.start nk).cn (p := .tup [.int 0, .int 1]) gu_NOUGHT_fractions (v := v_NOUGHT_fractions) gr_NOUGHT_fractions gp_NOUGHT_fractions).add (g3.mono (by decide))) F14 zsc_left_of zcs_left_of (PySem.W.mg_of X G a14) b14 ok_left_of
  have b27 := F27.binds (ps := ["unit", "by"]) fun _ _ _ _ _ _ us hl => match us, hl with | [_, _], _ => rfl
  have g27 : FnIs l.prog w K mg base 4 "turned" 2 s_turned := def_ok (k := 3) ((((TabOk.start nk).add (g4.mono (by decide))).add (g3.mono (by decide))).add (g2.mono (by decide))) F27 zsc_turned zcs_turned (PySem.W.mg_of X G a27) b27 ok_turned
  have b28 := F28.binds (ps := ["part"]) fun _ _ _ _ _ _ us hl => match us, hl with | [_], _ => rfl
  have g28 : FnIs l.prog w K mg base 4 "turn_by" 1 s_turn_by := def_ok (k := 3) ((((((TabOk.start nk).cn (p := .tup [.int 1, .int 1]) gu_ONE_turns (v := v_ONE_turns) gr_ONE_turns gp_ONE_turns).add (g5.mono (by decide))).add (g4.mono (by decide))).add (g3.mono (by decide))).add (g2.mono (by decide))) F28 zsc_turn_by zcs_turn_by (PySem.W.mg_of X G a28) b28 ok_turn_by
  have b32 := F32.binds (ps := ["unit"]) fun _ _ _ _ _ _ us hl => match us, hl with | [_], _ => rfl
  have g32 : FnIs l.prog w K mg base 4 "mirrored_unit" 1 s_mirrored_unit := def_ok (k := 3) (((TabOk.start nk).cn (p := .tup [.int 0, .int 1]) gu_NOUGHT_turns (v := v_NOUGHT_turns) gr_NOUGHT_turns gp_NOUGHT_turns).add (g3.mono (by decide))) F32 zsc_mirrored_unit zcs_mirrored_unit (PySem.W.mg_of X G a32) b32 ok_mirrored_unit
  have b66 := F66.binds (ps := ["_law_start", "_law_moves"]) fun _ _ _ _ _ _ us hl => match us, hl with | [_, _], _ => rfl
  have g66 : FnIs l.prog w K mg base 4 "_law_path_of" 2 sb_path_of := def_ok (k := 3) ((((TabOk.start nk).add (g61.mono (by decide))).add (g60.mono (by decide))).add (g59.mono (by decide))) F66 zsc_law_path_of zcs_law_path_of (PySem.W.mg_of X G a66) b66 ok_b_path_of
  have b67 := F67.binds (ps := ["_law_move"]) fun _ _ _ _ _ _ us hl => match us, hl with | [_], _ => rfl
  have g67 : FnIs l.prog w K mg base 4 "_law_back" 1 sb_back := def_ok (k := 3) ((TabOk.start nk).add (g61.mono (by decide))) F67 zsc_law_back zcs_law_back (PySem.W.mg_of X G a67) b67 ok_b_back
  have b73 := F73.binds (ps := ["_law_block", "_law_point"]) fun _ _ _ _ _ _ us hl => match us, hl with | [_, _], _ => rfl
  have g73 : FnIs l.prog w K mg base 4 "_law_in" 2 sb_in := def_ok (k := 3) (((TabOk.start nk).add (g62.mono (by decide))).add (g60.mono (by decide))) F73 zsc_law_in zcs_law_in (PySem.W.mg_of X G a73) b73 ok_b_in
  have b15 := F15.binds (ps := ["vector"]) fun _ _ _ _ _ _ us hl => match us, hl with | [_], _ => rfl
  have g15 : FnIs l.prog w K mg base 5 "length_of" 1 s_length_of := def_ok (k := 4) (((TabOk.start nk).add (g12.mono (by decide))).add (g8.mono (by decide))) F15 zsc_length_of zcs_length_of (PySem.W.mg_of X G a15) b15 ok_length_of
  have b17 := F17.binds (ps := ["vector"]) fun _ _ _ _ _ _ us hl => match us, hl with | [_], _ => rfl
  have g17 : FnIs l.prog w K mg base 5 "opposite" 1 s_opposite := def_ok (k := 4) (((TabOk.start nk).cn (p := .tup [.int 0, .int 1]) gu_NOUGHT_paths (v := v_NOUGHT_paths) gr_NOUGHT_paths gp_NOUGHT_paths).add (g10.mono (by decide))) F17 zsc_opposite zcs_opposite (PySem.W.mg_of X G a17) b17 ok_opposite
  have b25 := F25.binds (ps := ["ahead", "behind"]) fun _ _ _ _ _ _ us hl => match us, hl with | [_, _], _ => rfl
  have g25 : FnIs l.prog w K mg base 5 "corner_word" 2 s_corner_word := def_ok (k := 4) ((((TabOk.start nk).cn (p := .tup [.int 0, .int 1]) gu_NOUGHT_paths (v := v_NOUGHT_paths) gr_NOUGHT_paths gp_NOUGHT_paths).add (g13.mono (by decide))).add (g6.mono (by decide))) F25 zsc_corner_word zcs_corner_word (PySem.W.mg_of X G a25) b25 ok_corner_word
  have b29 := F29.binds (ps := ["unit", "part", "steps"]) fun _ _ _ _ _ _ us hl => match us, hl with | [_, _, _], _ => rfl
  have g29 : FnIs l.prog w K mg base 5 "steps_on" 3 s_steps_on := def_ok (k := 4) (((((TabOk.start nk).add (g28.mono (by decide))).add (g27.mono (by decide))).add (g4.mono (by decide))).add (g1.mono (by decide))) F29 zsc_steps_on zcs_steps_on (PySem.W.mg_of X G a29) b29 ok_steps_on
  have b30 := F30.binds (ps := ["one", "other"]) fun _ _ _ _ _ _ us hl => match us, hl with | [_, _], _ => rfl
  have g30 : FnIs l.prog w K mg base 5 "is_in_quarter" 2 s_is_in_quarter := def_ok (k := 4) (((((TabOk.start nk).cn (p := .tup [.int 0, .int 1]) gu_NOUGHT_turns (v := v_NOUGHT_turns) gr_NOUGHT_turns gp_NOUGHT_turns).add (g13.mono (by decide))).add (g12.mono (by decide))).add (g6.mono (by decide))) F30 zsc_is_in_quarter zcs_is_in_quarter (PySem.W.mg_of X G a30) b30 ok_is_in_quarter
  have b34 := F34.binds (ps := ["first", "unit"]) fun _ _ _ _ _ _ us hl => match us, hl with | [_, _], _ => rfl
  have g34 : FnIs l.prog w K mg base 5 "half_of" 2 s_half_of := def_ok (k := 4) ((((TabOk.start nk).cn (p := .tup [.int 0, .int 1]) gu_NOUGHT_turns (v := v_NOUGHT_turns) gr_NOUGHT_turns gp_NOUGHT_turns).add (g13.mono (by decide))).add (g6.mono (by decide))) F34 zsc_half_of zcs_half_of (PySem.W.mg_of X G a34) b34 ok_half_of
  have b36 := F36.binds (ps := ["units"]) fun _ _ _ _ _ _ us hl => match us, hl with | [_], _ => rfl
  have g36 : FnIs l.prog w K mg base 5 "least_dot" 1 s_least_dot := def_ok (k := 4) (((TabOk.start nk).add (g12.mono (by decide))).add (g6.mono (by decide))) F36 zsc_least_dot zcs_least_dot (PySem.W.mg_of X G a36) b36 ok_least_dot
  have b37 := F37.binds (ps := ["one", "other"]) fun _ _ _ _ _ _ us hl => match us, hl with | [_, _], _ => rfl
  have g37 : FnIs l.prog w K mg base 5 "tip_of" 2 s_tip_of := def_ok (k := 4) ((((((TabOk.start nk).cn (p := .tup [.int 1, .int 1]) gu_ONE_turns (v := v_ONE_turns) gr_ONE_turns gp_ONE_turns).add (g12.mono (by decide))).add (g9.mono (by decide))).add (g5.mono (by decide))).add (g2.mono (by decide))) F37 zsc_tip_of zcs_tip_of (PySem.W.mg_of X G a37) b37 ok_tip_of
  have b38 := F38.binds (ps := ["unit"]) fun _ _ _ _ _ _ us hl => match us, hl with | [_], _ => rfl
  have g38 : FnIs l.prog w K mg base 5 "right_of" 1 s_right_of := def_ok (k := 4) ((((TabOk.start nk).cn (p := .tup [.int (-1), .int 1]) gu_LESS (v := v_LESS) gr_LESS gp_LESS).add (g14.mono (by decide))).add (g11.mono (by decide))) F38 zsc_right_of zcs_right_of (PySem.W.mg_of X G a38) b38 ok_right_of
  have b68 := F68.binds (ps := ["_law_box_here", "_law_most"]) fun _ _ _ _ _ _ us hl => match us, hl with | [_, _], _ => rfl
  have g68 : FnIs l.prog w K mg base 5 "_law_all_moves" 2 sb_all_moves := def_ok (k := 4) ((((TabOk.start nk).add (g67.mono (by decide))).add (g65.mono (by decide))).add (g53.mono (by decide))) F68 zsc_law_all_moves zcs_law_all_moves (PySem.W.mg_of X G a68) b68 ok_b_all_moves
  have b16 := F16.binds (ps := ["vector"]) fun _ _ _ _ _ _ us hl => match us, hl with | [_], _ => rfl
  have g16 : FnIs l.prog w K mg base 6 "unit_of" 1 s_unit_of := def_ok (k := 5) ((((TabOk.start nk).cn (p := .tup [.int 0, .int 1]) gu_NOUGHT_fractions (v := v_NOUGHT_fractions) gr_NOUGHT_fractions gp_NOUGHT_fractions).add (g15.mono (by decide))).add (g5.mono (by decide))) F16 zsc_unit_of zcs_unit_of (PySem.W.mg_of X G a16) b16 ok_unit_of
  have b22 := F22.binds (ps := ["path", "number"]) fun _ _ _ _ _ _ us hl => match us, hl with | [_, _], _ => rfl
  have g22 : FnIs l.prog w K mg base 6 "radius_of" 2 s_radius_of := def_ok (k := 5) ((((TabOk.start nk).cn (p := .str "side") gu_SIDE (v := v_SIDE) gr_SIDE gp_SIDE).add (g15.mono (by decide))).add (g10.mono (by decide))) F22 zsc_radius_of zcs_radius_of (PySem.W.mg_of X G a22) b22 ok_radius_of
  have b31 := F31.binds (ps := ["one", "other", "steps"]) fun _ _ _ _ _ _ us hl => match us, hl with | [_, _, _], _ => rfl
  have g31 : FnIs l.prog w K mg base 6 "quarters_between" 3 s_quarters_between := def_ok (k := 5) ((((((((TabOk.start nk).cn (p := .tup [.int 1, .int 1]) gu_ONE_turns (v := v_ONE_turns) gr_ONE_turns gp_ONE_turns).add (g30.mono (by decide))).add (g29.mono (by decide))).add (g13.mono (by decide))).add (g12.mono (by decide))).add (g5.mono (by decide))).add (g2.mono (by decide))) F31 zsc_quarters_between zcs_quarters_between (PySem.W.mg_of X G a31) b31 ok_quarters_between
  have b33 := F33.binds (ps := ["first", "one", "other"]) fun _ _ _ _ _ _ us hl => match us, hl with | [_, _, _], _ => rfl
  have g33 : FnIs l.prog w K mg base 6 "is_ahead" 3 s_is_ahead := def_ok (k := 5) (((((TabOk.start nk).cn (p := .tup [.int 0, .int 1]) gu_NOUGHT_turns (v := v_NOUGHT_turns) gr_NOUGHT_turns gp_NOUGHT_turns).add (g34.mono (by decide))).add (g13.mono (by decide))).add (g6.mono (by decide))) F33 zsc_is_ahead zcs_is_ahead (PySem.W.mg_of X G a33) b33 ok_is_ahead
  have b40 := F40.binds (ps := ["word", "number", "point", "units", "far", "mark"]) fun _ _ _ _ _ _ us hl => match us, hl with | [_, _, _, _, _, _], _ => rfl
  have g40 : FnIs l.prog w K mg base 6 "fan" 6 s_fan := def_ok (k := 5) ((((TabOk.start nk).add (g37.mono (by decide))).add (g11.mono (by decide))).add (g9.mono (by decide))) F40 zsc_fan zcs_fan (PySem.W.mg_of X G a40) b40 ok_fan
  have b44 := F44.binds (ps := ["radius", "units", "far"]) fun _ _ _ _ _ _ us hl => match us, hl with | [_, _, _], _ => rfl
  have g44 : FnIs l.prog w K mg base 6 "inner_of" 3 s_inner_of := def_ok (k := 5) ((((((((((TabOk.start nk).cn (p := .tup [.int 2, .int 1]) gu_TWO (v := v_TWO) gr_TWO gp_TWO).cn (p := .tup [.int 1, .int 1]) gu_ONE_blocks (v := v_ONE_blocks) gr_ONE_blocks gp_ONE_blocks).cn (p := .tup [.int 0, .int 1]) gu_NOUGHT_blocks (v := v_NOUGHT_blocks) gr_NOUGHT_blocks gp_NOUGHT_blocks).add (g36.mono (by decide))).add (g6.mono (by decide))).add (g5.mono (by decide))).add (g4.mono (by decide))).add (g3.mono (by decide))).add (g2.mono (by decide))) F44 zsc_inner_of zcs_inner_of (PySem.W.mg_of X G a44) b44 ok_inner_of
  have b45 := F45.binds (ps := ["number", "middle", "one", "other", "inner", "outer"]) fun _ _ _ _ _ _ us hl => match us, hl with | [_, _, _, _, _, _], _ => rfl
  have g45 : FnIs l.prog w K mg base 6 "sector_pair" 6 s_sector_pair := def_ok (k := 5) (((((TabOk.start nk).cn (p := .tup [.int 0, .int 1]) gu_NOUGHT_blocks (v := v_NOUGHT_blocks) gr_NOUGHT_blocks gp_NOUGHT_blocks).add (g37.mono (by decide))).add (g11.mono (by decide))).add (g9.mono (by decide))) F45 zsc_sector_pair zcs_sector_pair (PySem.W.mg_of X G a45) b45 ok_sector_pair
  have b69 := F69.binds (ps := ["_law_box_here", "_law_most"]) fun _ _ _ _ _ _ us hl => match us, hl with | [_, _], _ => rfl
  have g69 : FnIs l.prog w K mg base 6 "_law_drawn" 2 sb_drawn := def_ok (k := 5) ((((TabOk.start nk).add (g68.mono (by decide))).add (g66.mono (by decide))).add (g53.mono (by decide))) F69 zsc_law_drawn zcs_law_drawn (PySem.W.mg_of X G a69) b69 ok_b_drawn
  have b23 := F23.binds (ps := ["piece", "point"]) fun _ _ _ _ _ _ us hl => match us, hl with | [_, _], _ => rfl
  have g23 : FnIs l.prog w K mg base 7 "heading_at" 2 s_heading_at := def_ok (k := 6) ((((((TabOk.start nk).cn (p := .tup [.str "left", .str "right"]) gu_TURNS (v := v_TURNS) gr_TURNS gp_TURNS).add (g17.mono (by decide))).add (g16.mono (by decide))).add (g14.mono (by decide))).add (g10.mono (by decide))) F23 zsc_heading_at zcs_heading_at (PySem.W.mg_of X G a23) b23 ok_heading_at
  have b35 := F35.binds (ps := ["one", "other", "steps"]) fun _ _ _ _ _ _ us hl => match us, hl with | [_, _, _], _ => rfl
  have g35 : FnIs l.prog w K mg base 7 "units_between" 3 s_units_between := def_ok (k := 6) ((((TabOk.start nk).add (g33.mono (by decide))).add (g32.mono (by decide))).add (g31.mono (by decide))) F35 zsc_units_between zcs_units_between (PySem.W.mg_of X G a35) b35 ok_units_between
  have b71 := F71.binds (ps := ["_law_box_here"]) fun _ _ _ _ _ _ us hl => match us, hl with | [_], _ => rfl
  have g71 : FnIs l.prog w K mg base 7 "_law_case" 1 sb_case := def_ok (k := 6) ((((((TabOk.start nk).add (g70.mono (by decide))).add (g69.mono (by decide))).add (g66.mono (by decide))).add (g65.mono (by decide))).add (g53.mono (by decide))) F71 zsc_law_case zcs_law_case (PySem.W.mg_of X G a71) b71 ok_b_case
  have b24 := F24.binds (ps := ["path", "number"]) fun _ _ _ _ _ _ us hl => match us, hl with | [_, _], _ => rfl
  have g24 : FnIs l.prog w K mg base 8 "headings" 2 s_headings := def_ok (k := 7) ((((((TabOk.start nk).cn (p := .str "side") gu_SIDE (v := v_SIDE) gr_SIDE gp_SIDE).add (g23.mono (by decide))).add (g21.mono (by decide))).add (g16.mono (by decide))).add (g10.mono (by decide))) F24 zsc_headings zcs_headings (PySem.W.mg_of X G a24) b24 ok_headings
  have b43 := F43.binds (ps := ["path", "number", "steps"]) fun _ _ _ _ _ _ us hl => match us, hl with | [_, _, _], _ => rfl
  have g43 : FnIs l.prog w K mg base 8 "arc_units" 3 s_arc_units := def_ok (k := 7) ((((((((TabOk.start nk).cn (p := .tup [.int 1, .int 1]) gu_ONE_blocks (v := v_ONE_blocks) gr_ONE_blocks gp_ONE_blocks).add (g35.mono (by decide))).add (g22.mono (by decide))).add (g19.mono (by decide))).add (g11.mono (by decide))).add (g10.mono (by decide))).add (g5.mono (by decide))) F43 zsc_arc_units zcs_arc_units (PySem.W.mg_of X G a43) b43 ok_arc_units
  have b72 := F72.binds (ps := ["_law_box_here", "_law_path", "_law_found", "_law_steps"]) fun _ _ _ _ _ _ us hl => match us, hl with | [_, _, _, _], _ => rfl
  have g72 : FnIs l.prog w K mg base 8 "_law_on_path" 4 sb_on_path := def_ok (k := 7) ((((((TabOk.start nk).add (g61.mono (by decide))).add (g59.mono (by decide))).add (g55.mono (by decide))).add (g53.mono (by decide))).add (g35.mono (by decide))) F72 zsc_law_on_path zcs_law_on_path (PySem.W.mg_of X G a72) b72 ok_b_on_path
  have b26 := F26.binds (ps := ["path"]) fun _ _ _ _ _ _ us hl => match us, hl with | [_], _ => rfl
  have g26 : FnIs l.prog w K mg base 9 "corners" 1 s_corners := def_ok (k := 8) ((((TabOk.start nk).add (g25.mono (by decide))).add (g24.mono (by decide))).add (g20.mono (by decide))) F26 zsc_corners zcs_corners (PySem.W.mg_of X G a26) b26 ok_corners
  have b39 := F39.binds (ps := ["path", "number", "far"]) fun _ _ _ _ _ _ us hl => match us, hl with | [_, _, _], _ => rfl
  have g39 : FnIs l.prog w K mg base 9 "strip" 3 s_stripB := def_ok (k := 8) (((((((TabOk.start nk).add (g24.mono (by decide))).add (g19.mono (by decide))).add (g14.mono (by decide))).add (g11.mono (by decide))).add (g10.mono (by decide))).add (g9.mono (by decide))) F39 zsc_strip zcs_strip (PySem.W.mg_of X G a39) b39 ok_strip
  have b41 := F41.binds (ps := ["path", "number", "word", "steps"]) fun _ _ _ _ _ _ us hl => match us, hl with | [_, _, _, _], _ => rfl
  have g41 : FnIs l.prog w K mg base 9 "corner_units" 4 s_corner_units := def_ok (k := 8) (((((TabOk.start nk).add (g38.mono (by decide))).add (g35.mono (by decide))).add (g24.mono (by decide))).add (g14.mono (by decide))) F41 zsc_corner_units zcs_corner_units (PySem.W.mg_of X G a41) b41 ok_corner_units
  have b47 := F47.binds (ps := ["path", "number", "far", "steps"]) fun _ _ _ _ _ _ us hl => match us, hl with | [_, _, _, _], _ => rfl
  have g47 : FnIs l.prog w K mg base 9 "sectors" 4 s_sectors := def_ok (k := 8) ((((((((TabOk.start nk).cn (p := .tup [.int 0, .int 1]) gu_NOUGHT_blocks (v := v_NOUGHT_blocks) gr_NOUGHT_blocks gp_NOUGHT_blocks).add (g46.mono (by decide))).add (g45.mono (by decide))).add (g44.mono (by decide))).add (g43.mono (by decide))).add (g22.mono (by decide))).add (g2.mono (by decide))) F47 zsc_sectors zcs_sectors (PySem.W.mg_of X G a47) b47 ok_sectors
  have b49 := F49.binds (ps := ["path", "far", "steps"]) fun _ _ _ _ _ _ us hl => match us, hl with | [_, _, _], _ => rfl
  have g49 : FnIs l.prog w K mg base 9 "start_cap" 3 s_start_cap := def_ok (k := 8) ((((((TabOk.start nk).add (g40.mono (by decide))).add (g38.mono (by decide))).add (g35.mono (by decide))).add (g24.mono (by decide))).add (g14.mono (by decide))) F49 zsc_start_cap zcs_start_cap (PySem.W.mg_of X G a49) b49 ok_start_cap
  have b50 := F50.binds (ps := ["path", "far", "steps"]) fun _ _ _ _ _ _ us hl => match us, hl with | [_, _, _], _ => rfl
  have g50 : FnIs l.prog w K mg base 9 "end_cap" 3 s_end_cap := def_ok (k := 8) (((((((TabOk.start nk).add (g40.mono (by decide))).add (g38.mono (by decide))).add (g35.mono (by decide))).add (g24.mono (by decide))).add (g19.mono (by decide))).add (g14.mono (by decide))) F50 zsc_end_cap zcs_end_cap (PySem.W.mg_of X G a50) b50 ok_end_cap
  have b42 := F42.binds (ps := ["path", "number", "word", "far", "steps"]) fun _ _ _ _ _ _ us hl => match us, hl with | [_, _, _, _, _], _ => rfl
  have g42 : FnIs l.prog w K mg base 10 "corner_fans" 5 s_corner_fans := def_ok (k := 9) ((((TabOk.start nk).add (g41.mono (by decide))).add (g40.mono (by decide))).add (g19.mono (by decide))) F42 zsc_corner_fans zcs_corner_fans (PySem.W.mg_of X G a42) b42 ok_corner_fans
  have b48 := F48.binds (ps := ["path", "number", "far", "steps"]) fun _ _ _ _ _ _ us hl => match us, hl with | [_, _, _, _], _ => rfl
  have g48 : FnIs l.prog w K mg base 10 "own_blocks" 4 s_own_blocks := def_ok (k := 9) (((TabOk.start nk).add (g47.mono (by decide))).add (g39.mono (by decide))) F48 zsc_own_blocks zcs_own_blocks (PySem.W.mg_of X G a48) b48 ok_own_blocks
  have b51 := F51.binds (ps := ["path", "far", "steps"]) fun _ _ _ _ _ _ us hl => match us, hl with | [_, _, _], _ => rfl
  have g51 : FnIs l.prog w K mg base 11 "blocks" 3 s_blocks := def_ok (k := 10) (((((((TabOk.start nk).add (g50.mono (by decide))).add (g49.mono (by decide))).add (g48.mono (by decide))).add (g42.mono (by decide))).add (g26.mono (by decide))).add (g20.mono (by decide))) F51 zsc_blocks zcs_blocks (PySem.W.mg_of X G a51) b51 ok_blocks
  exact def_fn (k := 11) (((((((((((((TabOk.start nk).add (g73.mono (by decide))).add (g72.mono (by decide))).add (g71.mono (by decide))).add (g64.mono (by decide))).add (g61.mono (by decide))).add (g59.mono (by decide))).add (g57.mono (by decide))).add (g55.mono (by decide))).add (g54.mono (by decide))).add (g53.mono (by decide))).add (g52.mono (by decide))).add (g51.mono (by decide))) F74 zsc_law zcs_law ok_l_law
end
end Mp
open PySem PySem.W PySem.Calls PyProof.Rows
set_option maxHeartbeats 0 in
theorem PySem.Challenge.cw_sidecut_k21_near_points_are_in_blocks_holds : PySem.Challenge.rw_sidecut_k21_near_points_are_in_blocks.Holds := by
  w_on; o_law
  refine HandSHeadRun.head_any (r := OpenLaw.row PySem.Challenge.rw_sidecut_k21_near_points_are_in_blocks) (q := view (OpenLaw.row PySem.Challenge.rw_sidecut_k21_near_points_are_in_blocks).prog [91]) (H := Mp.zhhk) (ob := Mp.zhob) (M := 20000) (loose := Mp.zhnames) (d := HandSHeadRun.topDef (OpenLaw.row PySem.Challenge.rw_sidecut_k21_near_points_are_in_blocks).prog 91) (kwd := []) Mp.zhob_eq
    (by kernel_rfl) (fun s => by kernel_rfl) Mp.zhrun (by kernel_rfl) (by kernel_rfl) (by kernel_rfl) (by rfl) (by first | assumption | decide +kernel) (by decide +kernel) ⟨rfl, rfl, rfl, rfl, rfl, by decide +kernel⟩ ?hw ?hc
  case hw => w_witness2
  case hc =>
    refine Mp.g_walkE (l := PySem.Challenge.rw_sidecut_k21_near_points_are_in_blocks) (n := 63) (k := 12) (x := "_law_script") (sp := fun K => Mp.liftSp K 1 Mp.sl_law) rfl (by decide) (by kernel_rfl) ⟨rfl, by decide, by decide⟩ ?F (fun _ _ a ns hl hO hS => Mp.law_sp hO hS ⟨ns, rfl, fun _ => rfl⟩)
    intro w mg fa h Y G hmg0
    obtain ⟨K, KX, c⟩ := Y
    have hmg : mg ("law" : PySem.Str) = some (.ref fa) := by
      have e : (HandSHeadRun.topDef (OpenLaw.row PySem.Challenge.rw_sidecut_k21_near_points_are_in_blocks).prog 91).name = ("law" : PySem.Str) := by kernel_rfl
      rw [← e]
      exact hmg0
    exact ⟨K, KX, Mp.zall_mk KX G hmg c⟩
