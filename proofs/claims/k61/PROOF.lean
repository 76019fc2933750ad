import PyProof.Rows.All
import Wide.All
import OpenK.AllK
import Wide.FinOn
import HandS.ForMost
import HandS.Exc
import HandS.ExcOwn
import HandS.WordsExc
import HandS.TryOnly
import HandS.TryMany
import HandS.Flow
import HandS.Wide
import HandS.TupAny
import HandS.TupMul
import HandS.Zip
import HandS.IsInst
import HandS.Small
import PyProof.Rows.AssignMoreSeq
import KE.GoesMore
import KE.GoesEnum
import PyProof.ListMulRoad
import PyProof.FactsAll.tuple_2
import HandS.Head2
import HandS.HeadEnd
import HandS.HeadHook2
import HandS.Style
import PySem.Challenge.RW_differencesround_k61_main_signs_turned_a
set_option Elab.async false
set_option linter.all false
set_option maxRecDepth 100000
/-! Mir: mirrors of defs over plain values -/
namespace Mir
open PySem L2

/-- plain values: tuples and lists that nobody changes are told by their items; what may change is a place in the mirrored heap -/
inductive PV where
  | non | bl (b : Bool) | int (i : Int) | str (s : Str)
  | tup (xs : List PV) | lst (xs : List PV) | frz (xs : List PV)
  | ref (i : Nat) | gl (i : Nat) | ty (n : String)
inductive MO where
  | lst (xs : List PV) | dK (kvs : List (Key × PV)) | dT (kvs : List (List Key × PV)) | ins (c : Nat) (fs : List (Str × PV))

/-- where the mirrored heap's places stand (v); objects that are changed unseen, by a comprehension (b) -/
structure Wd where
  v : List Addr
  b : List Addr
def Wd.Has (ρ : Wd) (a : Addr) : Prop := a ∈ ρ.v ∨ a ∈ ρ.b
def Wd.add (ρ : Wd) (p : Addr) : Wd := ⟨ρ.v ++ [p], ρ.b⟩
def Wd.hide (ρ : Wd) (p : Addr) : Wd := ⟨ρ.v, p :: ρ.b⟩
/-! ### what a plain value is told by -/
section
variable (K : PySem.W.Frag) (G : Nat → Option Addr) (ρ : Wd) (H : Hp)
def KL (a : Addr) (xs : List V) : Prop :=
  ∃ (o : Obj) (its : Array Value) (n : Nat), K.lookup a = some o ∧ o.cls = .type "list" ∧ o.dict = none ∧ o.data = .seq its n ∧ its.size ≤ sizeLine ∧ Vals xs its.toList
def KT (a : Addr) (xs : List V) : Prop :=
  ∃ (o : Obj) (its : Array Value) (n : Nat), K.lookup a = some o ∧ o.cls = .type "tuple" ∧ o.data = .seq its n ∧ its.size ≤ sizeLine ∧ Vals xs its.toList
/-- a tuple: tracked, or written -/
def TupAt (a : Addr) (xs : List V) : Prop := H a = some (.tup xs) ∨ KT K a xs
mutual
def Rel : PV → V → Prop
  | .non, v => v = .non
  | .bl b, v => v = .bl b
  | .int i, v => v = .int i
  | .str s, v => v = .str s
  | .tup xs, v => ∃ a vs, v = .ref a ∧ TupAt K H a vs ∧ Rels xs vs
  | .lst xs, v => ∃ a vs, v = .ref a ∧ H a = some (.lst vs) ∧ ¬ ρ.Has a ∧ Rels xs vs
  | .frz xs, v => ∃ a vs, v = .ref a ∧ ((Rd H a (.lst vs) ∧ ¬ ρ.Has a) ∨ KL K a vs) ∧ Rels xs vs
  | .ref i, v => ∃ a, v = .ref a ∧ ρ.v[i]? = some a
  | .gl i, v => ∃ a, v = .ref a ∧ G i = some a
  | .ty n, v => v = .ty n
def Rels : List PV → List V → Prop
  | [], vs => vs = []
  | x :: xs, vs => ∃ w ws, vs = w :: ws ∧ Rel x w ∧ Rels xs ws
end
/-- named fields, entries of a dict -/
def RelF {κ : Type} (fs : List (κ × PV)) (gs : List (κ × V)) : Prop := fs.map (·.1) = gs.map (·.1) ∧ Rels K G ρ H (fs.map (·.2)) (gs.map (·.2))
def ObR (o : MO) (a : Addr) : Prop := match o with
  | .lst xs => ∃ vs, H a = some (.lst vs) ∧ Rels K G ρ H xs vs
  | .dK kvs => ∃ ks, H a = some (.dK ks) ∧ RelF K G ρ H kvs ks
  | .dT kvs => ∃ ks, H a = some (.dT ks) ∧ RelF K G ρ H kvs ks
  | .ins c fs => ∃ C dx gs, H a = some (.ins C dx gs) ∧ G c = some C ∧ RelF K G ρ H fs gs
structure RH (h : List MO) : Prop where
  len : ρ.v.length = h.length
  nd : ρ.v.Nodup
  obj : ∀ (i : Nat) (a : Addr) (o : MO), ρ.v[i]? = some a → h[i]? = some o → ObR K G ρ H o a
  hid : ∀ a ∈ ρ.b, Mut (H a) ∧ a ∉ ρ.v
def RelS (p : List (Option PV)) (σ : St) : Prop := p.length = σ.length ∧ ∀ (i : Nat) (x : PV), p[i]? = some (some x) → ∃ v, σ[i]? = some (some v) ∧ Rel K G ρ H x v
end
structure TrW (ρ : Wd) (H : Hp) (ρ' : Wd) (H' : Hp) : Prop where
  pre : ∃ new, ρ'.v = ρ.v ++ new ∧ ∀ a ∈ new, H a = none
  hid : ∀ a ∈ ρ'.b, a ∈ ρ.b ∨ H a = none
  keep : ∀ a o, H a = some o → a ∉ ρ.v → H' a = some o
  dom : ∀ a, H' a = none → H a = none

section
variable {K : PySem.W.Frag} {G : Nat → Option Addr} {ρ ρ' ρ'' : Wd} {H H' H'' : Hp} {h h' : List MO}
theorem TrW.refl : TrW ρ H ρ H := ⟨⟨[], (List.append_nil _).symm, fun _ z => nomatch z⟩, fun _ z => .inl z, fun _ _ e _ => e, fun _ e => e⟩
theorem TrW.notIn (t : TrW ρ H ρ' H') {a : Addr} (hn : a ∉ ρ.v) (he : H a ≠ none) : a ∉ ρ'.v := by
  obtain ⟨new, e, fr⟩ := t.pre
  rw [e]
  intro hm
  rcases List.mem_append.mp hm with z | z
  · exact hn z
  · exact he (fr a z)
theorem TrW.notHas (t : TrW ρ H ρ' H') {a : Addr} (hn : ¬ ρ.Has a) (he : H a ≠ none) : ¬ ρ'.Has a := by
  rintro (z | z)
  · exact t.notIn (fun q => hn (.inl q)) he z
  · rcases t.hid a z with q | q
    · exact hn (.inr q)
    · exact he q
theorem TrW.trans (t : TrW ρ H ρ' H') (u : TrW ρ' H' ρ'' H'') : TrW ρ H ρ'' H'' := by
  refine ⟨?_, fun a z => ?_, fun a o e n => ?_, fun a e => t.dom a (u.dom a e)⟩
  · obtain ⟨n1, e1, f1⟩ := t.pre
    obtain ⟨n2, e2, f2⟩ := u.pre
    refine ⟨n1 ++ n2, by rw [e2, e1, List.append_assoc], fun a ha => ?_⟩
    rcases List.mem_append.mp ha with z | z
    · exact f1 a z
    · exact t.dom a (f2 a z)
  · rcases u.hid a z with q | q
    · exact t.hid a q
    · exact .inr (t.dom a q)
  · exact u.keep a o (t.keep a o e n) (t.notIn n (by rw [e]; exact fun z => nomatch z))
/-- a new object that the mirrored heap does not hold -/
theorem TrW.new {p : Addr} {o : HO} (hp : H p = none) : TrW ρ H ρ (upd H p o) := by
  refine ⟨⟨[], (List.append_nil _).symm, fun _ z => nomatch z⟩, fun _ z => .inl z, fun a u e _ => ?_, fun a e => ?_⟩
  · rw [upd_ne (ne_of_none e hp)]; exact e
  · by_cases z : a = p
    · rw [z]; exact hp
    · rw [upd_ne z] at e; exact e
/-- .. that it holds -/
theorem TrW.newIn {p : Addr} {o : HO} (hp : H p = none) : TrW ρ H (ρ.add p) (upd H p o) := by
  refine ⟨⟨[p], rfl, fun a z => ?_⟩, fun _ z => .inl z, (TrW.new hp : TrW ρ H ρ _).keep, (TrW.new hp : TrW ρ H ρ _).dom⟩
  rw [List.mem_singleton.mp z]; exact hp
/-- .. that is hidden -/
theorem TrW.newHid {p : Addr} {o : HO} (hp : H p = none) : TrW ρ H (ρ.hide p) (upd H p o) := by
  refine ⟨⟨[], (List.append_nil _).symm, fun _ z => nomatch z⟩, fun a z => ?_, (TrW.new hp : TrW ρ H ρ _).keep, (TrW.new hp : TrW ρ H ρ _).dom⟩
  rcases List.mem_cons.mp z with e | z
  · exact .inr (by rw [e]; exact hp)
  · exact .inl z
/-- a change of what it holds -/
theorem TrW.chg {p : Addr} {o : HO} (hp : p ∈ ρ.v) : TrW ρ H ρ (upd H p o) := by
  refine ⟨⟨[], (List.append_nil _).symm, fun _ z => nomatch z⟩, fun _ z => .inl z, fun a u e n => ?_, fun a e => ?_⟩
  · rw [upd_ne (fun z => n (by rw [z]; exact hp))]; exact e
  · by_cases z : a = p
    · rw [z, upd_same] at e; cases e
    · rw [upd_ne z] at e; exact e
/-- what is new is forgotten -/
theorem TrW.cut (t : TrW ρ H ρ' H') : TrW ρ H ρ H' := ⟨⟨[], (List.append_nil _).symm, fun _ z => nomatch z⟩, fun _ z => .inl z, t.keep, t.dom⟩

/-- .. and the same objects are hidden -/
structure Tr (ρ : Wd) (H : Hp) (ρ' : Wd) (H' : Hp) : Prop where
  w : TrW ρ H ρ' H'
  b : ρ'.b = ρ.b
theorem Tr.refl : Tr ρ H ρ H := ⟨.refl, rfl⟩
theorem Tr.trans (t : Tr ρ H ρ' H') (u : Tr ρ' H' ρ'' H'') : Tr ρ H ρ'' H'' := ⟨t.w.trans u.w, u.b.trans t.b⟩
theorem Tr.new {p : Addr} {o : HO} (hp : H p = none) : Tr ρ H ρ (upd H p o) := ⟨.new hp, rfl⟩
theorem Tr.newIn {p : Addr} {o : HO} (hp : H p = none) : Tr ρ H (ρ.add p) (upd H p o) := ⟨.newIn hp, rfl⟩
theorem Tr.chg {p : Addr} {o : HO} (hp : p ∈ ρ.v) : Tr ρ H ρ (upd H p o) := ⟨.chg hp, rfl⟩
theorem Tr.cut (t : Tr ρ H ρ' H') : Tr ρ H ρ H' := ⟨t.w.cut, rfl⟩
theorem ObR.mut {o : MO} {a : Addr} (r : ObR K G ρ H o a) : Mut (H a) := by
  cases o with
  | lst xs => obtain ⟨vs, e, _⟩ := r; rw [e]; trivial
  | dK xs => obtain ⟨vs, e, _⟩ := r; rw [e]; trivial
  | dT xs => obtain ⟨vs, e, _⟩ := r; rw [e]; trivial
  | ins c fs => obtain ⟨C, dx, gs, e, _⟩ := r; rw [e]; trivial
theorem RH.mut (r : RH K G ρ H h) : ∀ a, ρ.Has a → Mut (H a) := fun a ha => by
  rcases ha with ha | ha
  · obtain ⟨i, hi, rfl⟩ := List.mem_iff_getElem.mp ha
    have h2 : i < h.length := by rw [← r.len]; exact hi
    exact (r.obj i _ _ (List.getElem?_eq_getElem hi) (List.getElem?_eq_getElem h2)).mut
  · exact (r.hid a ha).1
theorem TupAt.sq {a : Addr} {vs : List V} (s : TupAt K H a vs) : SqT K H a vs := s.elim (fun s => .inl (.inl s)) .inr
theorem sqT_mono {a : Addr} {vs : List V} (m : ∀ a, ρ.Has a → Mut (H a)) (t : TrW ρ H ρ' H') (s : TupAt K H a vs) : TupAt K H' a vs := by
  rcases s with s | s
  · refine .inl (t.keep a _ s fun z => ?_)
    have := m a (.inl z); rw [s] at this; exact this
  · exact .inr s
mutual
theorem Rel.monoW (m : ∀ a, ρ.Has a → Mut (H a)) (t : TrW ρ H ρ' H') : ∀ {x : PV} {v : V}, Rel K G ρ H x v → Rel K G ρ' H' x v
  | .non, _, r => r
  | .bl _, _, r => r
  | .int _, _, r => r
  | .str _, _, r => r
  | .tup xs, v, r => by
    obtain ⟨a, vs, e, s, q⟩ := r
    exact ⟨a, vs, e, sqT_mono m t s, Rels.monoW m t q⟩
  | .lst xs, v, r => by
    obtain ⟨a, vs, e, s, n, q⟩ := r
    exact ⟨a, vs, e, t.keep a _ s (fun z => n (.inl z)), t.notHas n (by rw [s]; exact fun z => nomatch z), Rels.monoW m t q⟩
  | .frz xs, v, r => by
    obtain ⟨a, vs, e, s, q⟩ := r
    refine ⟨a, vs, e, ?_, Rels.monoW m t q⟩
    rcases s with ⟨s | ⟨o, s⟩, n⟩ | s
    · exact .inl ⟨.inl (t.keep a _ s (fun z => n (.inl z))), t.notHas n (by rw [s]; exact fun z => nomatch z)⟩
    · exact .inl ⟨.inr ⟨o, t.keep a _ s (fun z => n (.inl z))⟩, t.notHas n (by rw [s]; exact fun z => nomatch z)⟩
    · exact .inr s
  | .ref i, v, r => by
    obtain ⟨a, e, q⟩ := r
    obtain ⟨new, e2, _⟩ := t.pre
    refine ⟨a, e, ?_⟩
    rw [e2, List.getElem?_append_left (List.getElem?_eq_some_iff.mp q).1]
    exact q
  | .gl _, _, r => r
  | .ty _, _, r => r
theorem Rels.monoW (m : ∀ a, ρ.Has a → Mut (H a)) (t : TrW ρ H ρ' H') : ∀ {xs : List PV} {vs : List V}, Rels K G ρ H xs vs → Rels K G ρ' H' xs vs
  | [], _, r => r
  | x :: xs, vs, r => by
    obtain ⟨w, ws, e, r1, r2⟩ := r
    exact ⟨w, ws, e, Rel.monoW m t r1, Rels.monoW m t r2⟩
end
theorem RelF.monoW {κ : Type} {fs : List (κ × PV)} {gs : List (κ × V)} (m : ∀ a, ρ.Has a → Mut (H a)) (t : TrW ρ H ρ' H') (r : RelF K G ρ H fs gs) : RelF K G ρ' H' fs gs := ⟨r.1, r.2.monoW m t⟩
theorem RelS.monoW {p : List (Option PV)} {σ : St} (m : ∀ a, ρ.Has a → Mut (H a)) (t : TrW ρ H ρ' H') (r : RelS K G ρ H p σ) : RelS K G ρ' H' p σ :=
  ⟨r.1, fun i x e => let ⟨v, e2, q⟩ := r.2 i x e; ⟨v, e2, q.monoW m t⟩⟩
theorem Rel.mono (m : ∀ a, ρ.Has a → Mut (H a)) (t : Tr ρ H ρ' H') {x : PV} {v : V} (r : Rel K G ρ H x v) : Rel K G ρ' H' x v := r.monoW m t.w
theorem Rels.mono (m : ∀ a, ρ.Has a → Mut (H a)) (t : Tr ρ H ρ' H') {x : List PV} {v : List V} (r : Rels K G ρ H x v) : Rels K G ρ' H' x v := r.monoW m t.w
theorem RelF.mono {κ : Type} {fs : List (κ × PV)} {gs : List (κ × V)} (m : ∀ a, ρ.Has a → Mut (H a)) (t : Tr ρ H ρ' H') (r : RelF K G ρ H fs gs) : RelF K G ρ' H' fs gs := r.monoW m t.w
theorem RelS.mono {p : List (Option PV)} {σ : St} (m : ∀ a, ρ.Has a → Mut (H a)) (t : Tr ρ H ρ' H') (r : RelS K G ρ H p σ) : RelS K G ρ' H' p σ := r.monoW m t.w
/-- a hidden object changes, or is shown -/
theorem sqT_hid {a p : Addr} {o : HO} {vs : List V} (hp : Mut (H p)) (s : TupAt K H a vs) : TupAt K (upd H p o) a vs := by
  rcases s with s | s
  · refine .inl ?_
    rw [upd_ne (fun z => by rw [← z, s] at hp; exact hp)]; exact s
  · exact .inr s
mutual
theorem Rel.hidU {p : Addr} {o : HO} (hb : p ∈ ρ.b) (hp : Mut (H p)) : ∀ {x : PV} {v : V}, Rel K G ρ H x v → Rel K G ρ (upd H p o) x v
  | .non, _, r => r
  | .bl _, _, r => r
  | .int _, _, r => r
  | .str _, _, r => r
  | .tup xs, v, r => by
    obtain ⟨a, vs, e, s, q⟩ := r
    exact ⟨a, vs, e, sqT_hid hp s, Rels.hidU hb hp q⟩
  | .lst xs, v, r => by
    obtain ⟨a, vs, e, s, n, q⟩ := r
    exact ⟨a, vs, e, by rw [upd_ne (fun z => n (.inr (by rw [z]; exact hb)))]; exact s, n, Rels.hidU hb hp q⟩
  | .frz xs, v, r => by
    obtain ⟨a, vs, e, s, q⟩ := r
    refine ⟨a, vs, e, ?_, Rels.hidU hb hp q⟩
    rcases s with ⟨s | ⟨u, s⟩, n⟩ | s
    · exact .inl ⟨.inl (by rw [upd_ne (fun z => n (.inr (by rw [z]; exact hb)))]; exact s), n⟩
    · exact .inl ⟨.inr ⟨u, by rw [upd_ne (fun z => n (.inr (by rw [z]; exact hb)))]; exact s⟩, n⟩
    · exact .inr s
  | .ref i, v, r => r
  | .gl _, _, r => r
  | .ty _, _, r => r
theorem Rels.hidU {p : Addr} {o : HO} (hb : p ∈ ρ.b) (hp : Mut (H p)) : ∀ {xs : List PV} {vs : List V}, Rels K G ρ H xs vs → Rels K G ρ (upd H p o) xs vs
  | [], _, r => r
  | x :: xs, vs, r => by
    obtain ⟨w, ws, e, r1, r2⟩ := r
    exact ⟨w, ws, e, Rel.hidU hb hp r1, Rels.hidU hb hp r2⟩
end
theorem RelF.hidU {κ : Type} {fs : List (κ × PV)} {gs : List (κ × V)} {p : Addr} {o : HO} (hb : p ∈ ρ.b) (hp : Mut (H p)) (r : RelF K G ρ H fs gs) : RelF K G ρ (upd H p o) fs gs := ⟨r.1, r.2.hidU hb hp⟩
mutual
theorem Rel.show_ (hv : ρ'.v = ρ.v) (hb : ∀ a ∈ ρ'.b, a ∈ ρ.b) : ∀ {x : PV} {v : V}, Rel K G ρ H x v → Rel K G ρ' H x v
  | .non, _, r => r
  | .bl _, _, r => r
  | .int _, _, r => r
  | .str _, _, r => r
  | .tup xs, v, r => by
    obtain ⟨a, vs, e, s, q⟩ := r
    exact ⟨a, vs, e, s, Rels.show_ hv hb q⟩
  | .lst xs, v, r => by
    obtain ⟨a, vs, e, s, n, q⟩ := r
    exact ⟨a, vs, e, s, fun z => n (z.elim (fun z => .inl (hv ▸ z)) fun z => .inr (hb a z)), Rels.show_ hv hb q⟩
  | .frz xs, v, r => by
    obtain ⟨a, vs, e, s, q⟩ := r
    refine ⟨a, vs, e, ?_, Rels.show_ hv hb q⟩
    rcases s with ⟨s, n⟩ | s
    · exact .inl ⟨s, fun z => n (z.elim (fun z => .inl (hv ▸ z)) fun z => .inr (hb a z))⟩
    · exact .inr s
  | .ref i, v, r => by
    obtain ⟨a, e, q⟩ := r
    exact ⟨a, e, by rw [hv]; exact q⟩
  | .gl _, _, r => r
  | .ty _, _, r => r
theorem Rels.show_ (hv : ρ'.v = ρ.v) (hb : ∀ a ∈ ρ'.b, a ∈ ρ.b) : ∀ {xs : List PV} {vs : List V}, Rels K G ρ H xs vs → Rels K G ρ' H xs vs
  | [], _, r => r
  | x :: xs, vs, r => by
    obtain ⟨w, ws, e, r1, r2⟩ := r
    exact ⟨w, ws, e, Rel.show_ hv hb r1, Rels.show_ hv hb r2⟩
end

/-! ### lists of values -/
theorem Rels.length : ∀ {xs : List PV} {vs : List V}, Rels K G ρ H xs vs → xs.length = vs.length
  | [], vs, r => by have e : vs = [] := r; subst e; rfl
  | x :: xs, _, r => by
    obtain ⟨w, ws, rfl, _, r2⟩ := r
    rw [List.length_cons, List.length_cons, r2.length]
theorem Rels.get : ∀ {xs : List PV} {vs : List V} {i : Nat} {x : PV}, Rels K G ρ H xs vs → xs[i]? = some x → ∃ v, vs[i]? = some v ∧ Rel K G ρ H x v
  | [], _, _, _, _, e => by simp at e
  | y :: ys, _, 0, x, r, e => by
    obtain ⟨w, ws, rfl, r1, _⟩ := r
    simp at e; subst e
    exact ⟨w, rfl, r1⟩
  | y :: ys, _, i + 1, x, r, e => by
    obtain ⟨w, ws, rfl, _, r2⟩ := r
    simp at e
    obtain ⟨v, e2, q⟩ := r2.get e
    exact ⟨v, by simpa using e2, q⟩
theorem Rels.get' {xs : List PV} {vs : List V} {i : Nat} {v : V} (r : Rels K G ρ H xs vs) (e : vs[i]? = some v) : ∃ x, xs[i]? = some x ∧ Rel K G ρ H x v := by
  have hi : i < xs.length := by rw [r.length]; exact (List.getElem?_eq_some_iff.mp e).1
  obtain ⟨v', e', q⟩ := r.get (List.getElem?_eq_getElem hi)
  rw [e] at e'; cases e'
  exact ⟨_, List.getElem?_eq_getElem hi, q⟩
theorem Rels.nil : Rels K G ρ H [] [] := rfl
theorem Rels.cons {x : PV} {xs : List PV} {v : V} {vs : List V} (a : Rel K G ρ H x v) (b : Rels K G ρ H xs vs) : Rels K G ρ H (x :: xs) (v :: vs) := ⟨v, vs, rfl, a, b⟩
theorem Rels.append : ∀ {xs ys : List PV} {vs ws : List V}, Rels K G ρ H xs vs → Rels K G ρ H ys ws → Rels K G ρ H (xs ++ ys) (vs ++ ws)
  | [], _, vs, _, r, s => by have e : vs = [] := r; subst e; exact s
  | x :: xs, _, _, _, r, s => by
    obtain ⟨w, ws, rfl, r1, r2⟩ := r
    exact ⟨w, _, rfl, r1, r2.append s⟩
theorem Rels.take : ∀ {xs : List PV} {vs : List V} (n : Nat), Rels K G ρ H xs vs → Rels K G ρ H (xs.take n) (vs.take n)
  | _, _, 0, _ => by rw [List.take_zero, List.take_zero]; rfl
  | [], vs, _ + 1, r => by have e : vs = [] := r; subst e; simp [Rels]
  | x :: xs, _, n + 1, r => by
    obtain ⟨w, ws, rfl, r1, r2⟩ := r
    exact ⟨w, _, rfl, r1, r2.take n⟩
theorem Rels.drop : ∀ {xs : List PV} {vs : List V} (n : Nat), Rels K G ρ H xs vs → Rels K G ρ H (xs.drop n) (vs.drop n)
  | _, _, 0, r => r
  | [], vs, _ + 1, r => by have e : vs = [] := r; subst e; simp [Rels]
  | x :: xs, _, n + 1, r => by
    obtain ⟨w, ws, rfl, r1, r2⟩ := r
    exact r2.drop n
theorem Rels.set {y : PV} {w : V} (q : Rel K G ρ H y w) : ∀ {xs : List PV} {vs : List V} (n : Nat), Rels K G ρ H xs vs → Rels K G ρ H (xs.set n y) (vs.set n w)
  | [], vs, _, r => by have e : vs = [] := r; subst e; simp [Rels]
  | x :: xs, _, 0, r => by
    obtain ⟨w', ws, rfl, r1, r2⟩ := r
    exact ⟨w, _, rfl, q, r2⟩
  | x :: xs, _, n + 1, r => by
    obtain ⟨w', ws, rfl, r1, r2⟩ := r
    exact ⟨w', _, rfl, r1, r2.set q n⟩
theorem Rels.reverse : ∀ {xs : List PV} {vs : List V}, Rels K G ρ H xs vs → Rels K G ρ H xs.reverse vs.reverse
  | [], vs, r => by have e : vs = [] := r; subst e; simp [Rels]
  | x :: xs, _, r => by
    obtain ⟨w, ws, rfl, r1, r2⟩ := r
    rw [List.reverse_cons, List.reverse_cons]
    exact r2.reverse.append (.cons r1 .nil)
theorem Rels.replicate {x : PV} {v : V} (r : Rel K G ρ H x v) : ∀ n : Nat, Rels K G ρ H (List.replicate n x) (List.replicate n v)
  | 0 => rfl
  | n + 1 => .cons r (Rels.replicate r n)
theorem Rels.flatRep {xs : List PV} {vs : List V} (r : Rels K G ρ H xs vs) : ∀ n : Nat, Rels K G ρ H (List.replicate n xs).flatten (List.replicate n vs).flatten
  | 0 => rfl
  | n + 1 => by
    rw [List.replicate_succ, List.replicate_succ, List.flatten_cons, List.flatten_cons]
    exact r.append (Rels.flatRep r n)
theorem Rels.eraseIdx : ∀ {xs : List PV} {vs : List V} (n : Nat), Rels K G ρ H xs vs → Rels K G ρ H (xs.eraseIdx n) (vs.eraseIdx n)
  | [], vs, _, r => by have e : vs = [] := r; subst e; simp [Rels]
  | x :: xs, _, 0, r => by
    obtain ⟨w', ws, rfl, r1, r2⟩ := r
    exact r2
  | x :: xs, _, n + 1, r => by
    obtain ⟨w', ws, rfl, r1, r2⟩ := r
    exact ⟨w', _, rfl, r1, r2.eraseIdx n⟩
theorem Rels.dropLast : ∀ {xs : List PV} {vs : List V}, Rels K G ρ H xs vs → Rels K G ρ H xs.dropLast vs.dropLast := fun {xs vs} r => by
  rw [List.dropLast_eq_take, List.dropLast_eq_take, r.length]
  exact r.take _

/-! ### the mirrored heap changes -/
theorem ObR.monoW {o : MO} {a : Addr} (m : ∀ a, ρ.Has a → Mut (H a)) (t : TrW ρ H ρ' H') (e : H' a = H a) (r : ObR K G ρ H o a) : ObR K G ρ' H' o a := by
  cases o with
  | lst xs => obtain ⟨vs, q, r⟩ := r; exact ⟨vs, e.trans q, r.monoW m t⟩
  | dK xs => obtain ⟨vs, q, r⟩ := r; exact ⟨vs, e.trans q, r.monoW m t⟩
  | dT xs => obtain ⟨vs, q, r⟩ := r; exact ⟨vs, e.trans q, r.monoW m t⟩
  | ins c fs => obtain ⟨C, dx, gs, q, g, r⟩ := r; exact ⟨C, dx, gs, e.trans q, g, r.monoW m t⟩
theorem ObR.mono {o : MO} {a : Addr} (m : ∀ a, ρ.Has a → Mut (H a)) (t : Tr ρ H ρ' H') (e : H' a = H a) (r : ObR K G ρ H o a) : ObR K G ρ' H' o a := r.monoW m t.w e
theorem RH.nin (r : RH K G ρ H h) {p : Addr} (hp : H p = none) : ¬ ρ.Has p := fun z => by
  have := r.mut p z; rw [hp] at this; exact this
/-- a new object beside it -/
theorem RH.beside {p : Addr} {o : HO} (r : RH K G ρ H h) (hp : H p = none) : RH K G ρ (upd H p o) h :=
  ⟨r.len, r.nd, fun i a ob e1 e2 => (r.obj i a ob e1 e2).mono r.mut (.new hp) (upd_ne fun z => r.nin hp (.inl (z ▸ List.mem_of_getElem? e1))),
    fun a ha => ⟨by rw [upd_ne (show a ≠ p from fun z => r.nin hp (.inr (by rw [← z]; exact ha)))]; exact (r.hid a ha).1, (r.hid a ha).2⟩⟩
/-- .. a hidden one, a list -/
theorem RH.hideNew {p : Addr} {xs : List V} (r : RH K G ρ H h) (hp : H p = none) : RH K G (ρ.hide p) (upd H p (.lst xs)) h := by
  refine ⟨r.len, r.nd, fun i a ob e1 e2 => (r.obj i a ob e1 e2).monoW r.mut (.newHid hp) (upd_ne fun z => r.nin hp (.inl (z ▸ List.mem_of_getElem? e1))), fun a ha => ?_⟩
  rcases List.mem_cons.mp ha with e | ha
  · rw [e, upd_same]; exact ⟨trivial, fun z => r.nin hp (.inl z)⟩
  · exact ⟨by rw [upd_ne (show a ≠ p from fun z => r.nin hp (.inr (by rw [← z]; exact ha)))]; exact (r.hid a ha).1, (r.hid a ha).2⟩
theorem RH.hidU {p : Addr} {xs : List V} (r : RH K G ρ H h) (hb : p ∈ ρ.b) : RH K G ρ (upd H p (.lst xs)) h := by
  obtain ⟨hm, hn⟩ := r.hid p hb
  refine ⟨r.len, r.nd, fun i a ob e1 e2 => ?_, fun a ha => ?_⟩
  · have q := r.obj i a ob e1 e2
    have ne : a ≠ p := fun z => hn (z ▸ List.mem_of_getElem? e1)
    cases ob with
    | lst xs => obtain ⟨vs, e, q⟩ := q; exact ⟨vs, by rw [upd_ne ne]; exact e, q.hidU hb hm⟩
    | dK xs => obtain ⟨vs, e, q⟩ := q; exact ⟨vs, by rw [upd_ne ne]; exact e, q.hidU hb hm⟩
    | dT xs => obtain ⟨vs, e, q⟩ := q; exact ⟨vs, by rw [upd_ne ne]; exact e, q.hidU hb hm⟩
    | ins c fs => obtain ⟨C, dx, gs, e, g, q⟩ := q; exact ⟨C, dx, gs, by rw [upd_ne ne]; exact e, g, q.hidU hb hm⟩
  · by_cases e : a = p
    · rw [e, upd_same]; exact ⟨trivial, hn⟩
    · rw [upd_ne e]; exact r.hid a ha
theorem RH.show_ (hv : ρ'.v = ρ.v) (hb : ∀ a ∈ ρ'.b, a ∈ ρ.b) (r : RH K G ρ H h) : RH K G ρ' H h := by
  refine ⟨by rw [hv]; exact r.len, by rw [hv]; exact r.nd, fun i a ob e1 e2 => ?_, fun a ha => by rw [hv]; exact r.hid a (hb a ha)⟩
  rw [hv] at e1
  have q := r.obj i a ob e1 e2
  cases ob with
  | lst xs => obtain ⟨vs, e, q⟩ := q; exact ⟨vs, e, q.show_ hv hb⟩
  | dK xs => obtain ⟨vs, e, q1, q⟩ := q; exact ⟨vs, e, q1, q.show_ hv hb⟩
  | dT xs => obtain ⟨vs, e, q1, q⟩ := q; exact ⟨vs, e, q1, q.show_ hv hb⟩
  | ins c fs => obtain ⟨C, dx, gs, e, g, q1, q⟩ := q; exact ⟨C, dx, gs, e, g, q1, q.show_ hv hb⟩
/-- a new object in it -/
theorem RH.push {p : Addr} {o : HO} {ob : MO} (r : RH K G ρ H h) (hp : H p = none) (q : ObR K G (ρ.add p) (upd H p o) ob p) : RH K G (ρ.add p) (upd H p o) (h ++ [ob]) := by
  refine ⟨by unfold Wd.add; rw [List.length_append, List.length_append, r.len]; rfl, ?_, fun i a u e1 e2 => ?_, fun a ha => ?_⟩
  · unfold Wd.add
    rw [List.nodup_append]
    refine ⟨r.nd, by simp, fun a ha b hb z => ?_⟩
    rw [List.mem_singleton.mp hb] at z
    exact r.nin hp (.inl (z ▸ ha))
  · have e1' : (ρ.v ++ [p])[i]? = some a := e1
    by_cases hi : i < ρ.v.length
    · rw [List.getElem?_append_left hi] at e1'
      rw [List.getElem?_append_left (by rw [← r.len]; exact hi)] at e2
      exact (r.obj i a u e1' e2).mono r.mut (.newIn hp) (upd_ne fun z => r.nin hp (.inl (z ▸ List.mem_of_getElem? e1')))
    · have hl : i < (ρ.v ++ [p]).length := (List.getElem?_eq_some_iff.mp e1').1
      have ei : i = ρ.v.length := by rw [List.length_append] at hl; simp at hl; omega
      subst ei
      rw [List.getElem?_append_right (Nat.le_refl _), Nat.sub_self] at e1'
      rw [List.getElem?_append_right (by rw [r.len]; exact Nat.le_refl _), r.len, Nat.sub_self] at e2
      simp at e1' e2
      subst e1' e2
      exact q
  · have ha' : a ∈ ρ.b := ha
    refine ⟨by rw [upd_ne (show a ≠ p from fun z => r.nin hp (.inr (by rw [← z]; exact ha')))]; exact (r.hid a ha').1, fun z => ?_⟩
    have z' : a ∈ ρ.v ++ [p] := z
    rcases List.mem_append.mp z' with z' | z'
    · exact (r.hid a ha').2 z'
    · rw [List.mem_singleton.mp z'] at ha'; exact r.nin hp (.inr ha')
/-- an object in it changes -/
theorem RH.chg {i : Nat} {p : Addr} {o : HO} {ob : MO} (r : RH K G ρ H h) (hi : ρ.v[i]? = some p) (q : ObR K G ρ (upd H p o) ob p) : RH K G ρ (upd H p o) (h.set i ob) := by
  have hm := List.mem_of_getElem? hi
  have hil : i < h.length := by rw [← r.len]; exact (List.getElem?_eq_some_iff.mp hi).1
  refine ⟨by rw [List.length_set]; exact r.len, r.nd, fun j a u e1 e2 => ?_, fun a ha => ?_⟩
  · by_cases hj : j = i
    · subst hj
      rw [hi] at e1; cases e1
      rw [List.getElem?_set_self hil] at e2; cases e2
      exact q
    · rw [List.getElem?_set_ne (Ne.symm hj)] at e2
      refine (r.obj j a u e1 e2).mono r.mut (.chg hm) (upd_ne fun z => hj ?_)
      subst z
      exact nd_ix r.nd e1 hi
  · obtain ⟨h1, h2⟩ := r.hid a ha
    exact ⟨by rw [upd_ne (show a ≠ p from fun z => h2 (by rw [z]; exact hm))]; exact h1, h2⟩
end
end Mir

set_option Elab.async false
set_option linter.all false
set_option maxRecDepth 100000
namespace Mir
open PySem L2

/-! ### what a mirrored run ends in -/
structure PExc where
  cls : Nat
  fs : List (Str × PV)
inductive Res (α : Type) where
  | ok (a : α) (h : List MO) | exc (e : PExc) (h : List MO) | stuck
abbrev M (α : Type) := List MO → Res α
abbrev Sl := List (Option PV)
abbrev E := Sl → M PV
abbrev EA := Sl → M (List PV)
abbrev ET := Sl → M Bool
def Res.bind {α β : Type} (r : Res α) (k : α → List MO → Res β) : Res β := match r with
  | .ok a h => k a h
  | .exc e h => .exc e h
  | .stuck => .stuck
theorem bind_ok {α β : Type} {a : α} {h : List MO} {k : α → List MO → Res β} : (Res.ok a h).bind k = k a h := rfl
theorem bind_exc {α β : Type} {a : PExc} {h : List MO} {k : α → List MO → Res β} : (Res.exc a h).bind k = .exc a h := rfl
theorem bind_stuck {α β : Type} {k : α → List MO → Res β} : (Res.stuck).bind k = .stuck := rfl

section
variable (K : PySem.W.Frag) (G : Nat → Option Addr)
def ExR (ρ : Wd) (H : Hp) (c : PExc) (cls : Value) (d : Option Addr) : Prop :=
  (∃ a, G c.cls = some a ∧ cls = .ref a) ∧ ((c.fs = [] ∧ d = none) ∨ ∃ dd gs, d = some dd ∧ H dd = some (.xd gs) ∧ RelF K G ρ H c.fs gs)
variable (W : WX)
/-- what a run r from (ρ, H) with the slots σ asks of what follows -/
def Wp {α β : Type} (σ : St) (ρ : Wd) (H : Hp) (R : Wd → Hp → α → β → Prop) (Q : β → Hp → Prop) (r : Res α) : Prop := match r with
  | .ok a h' => ∀ ρ' H' b, RH K G ρ' H' h' → Tr ρ H ρ' H' → R ρ' H' a b → Q b H'
  | .exc c h' => ∀ ρ' H' cls d, RH K G ρ' H' h' → Tr ρ H ρ' H' → ExR K G ρ' H' c cls d → W cls d σ H'
  | .stuck => False
def rd (m : E) : TE := fun σ H Q => ∃ ρ h p, RH K G ρ H h ∧ RelS K G ρ H p σ ∧ Wp K G W σ ρ H (Rel K G) Q (m p h)
def rdA (m : EA) : TA := fun σ H Q => ∃ ρ h p, RH K G ρ H h ∧ RelS K G ρ H p σ ∧ Wp K G W σ ρ H (Rels K G) Q (m p h)
def rdT (m : ET) : TT := fun σ H Q => ∃ ρ h p, RH K G ρ H h ∧ RelS K G ρ H p σ ∧ Wp K G W σ ρ H (fun _ _ a b => a = b) Q (m p h)
/-- an operation by values -/
def OpM (r : R2) (p : PV → PV → M PV) : Prop := ∀ (σ : St) (ρ : Wd) (H : Hp) (h : List MO) (x y : PV) (v u : V) (Q : VK), RH K G ρ H h → Rel K G ρ H x v → Rel K G ρ H y u → Wp K G W σ ρ H (Rel K G) Q (p x y h) → r v u H Q
def UnM (r : V → Hp → VK → Prop) (p : PV → M PV) : Prop := ∀ (σ : St) (ρ : Wd) (H : Hp) (h : List MO) (x : PV) (v : V) (Q : VK), RH K G ρ H h → Rel K G ρ H x v → Wp K G W σ ρ H (Rel K G) Q (p x h) → r v H Q
def CallM (r : List V → Hp → VK → Prop) (p : List PV → M PV) : Prop := ∀ (σ : St) (ρ : Wd) (H : Hp) (h : List MO) (xs : List PV) (vs : List V) (Q : VK), RH K G ρ H h → Rels K G ρ H xs vs → Wp K G W σ ρ H (Rel K G) Q (p xs h) → r vs H Q
def MtP (r : V → List V → Hp → VK → Prop) (p : PV → List PV → M PV) : Prop := ∀ (σ : St) (ρ : Wd) (H : Hp) (h : List MO) (x : PV) (v : V) (xs : List PV) (vs : List V) (Q : VK), RH K G ρ H h → Rel K G ρ H x v → Rels K G ρ H xs vs → Wp K G W σ ρ H (Rel K G) Q (p x xs h) → r v vs H Q
end

section
variable {K : PySem.W.Frag} {G : Nat → Option Addr} {W : WX} {σ : St} {ρ ρ' : Wd} {H H' : Hp} {h : List MO}
theorem Wp.shift {α β : Type} {R : Wd → Hp → α → β → Prop} {Q : β → Hp → Prop} {r : Res α} (t : Tr ρ H ρ' H') (w : Wp K G W σ ρ H R Q r) : Wp K G W σ ρ' H' R Q r := by
  cases r with
  | ok a h' => exact fun ρ2 H2 b r2 t2 q2 => w ρ2 H2 b r2 (t.trans t2) q2
  | exc c h' => exact fun ρ2 H2 b d r2 t2 q2 => w ρ2 H2 b d r2 (t.trans t2) q2
  | stuck => exact w.elim
theorem Wp.bind {α β γ δ : Type} {Ra : Wd → Hp → γ → δ → Prop} {R : Wd → Hp → α → β → Prop} {Q : β → Hp → Prop} {P : δ → Hp → Prop} {ra : Res γ} {k : γ → List MO → Res α}
    (w : Wp K G W σ ρ H R Q (ra.bind k)) (f : ∀ a h1 ρ1 H1 x, ra = .ok a h1 → RH K G ρ1 H1 h1 → Tr ρ H ρ1 H1 → Ra ρ1 H1 a x → Wp K G W σ ρ1 H1 R Q (k a h1) → P x H1) : Wp K G W σ ρ H Ra P ra := by
  cases ra with
  | ok a h1 => exact fun ρ1 H1 x r1 t1 q1 => f a h1 ρ1 H1 x rfl r1 t1 q1 (Wp.shift t1 w)
  | exc c h1 => exact w
  | stuck => exact w.elim
/-- a value at once -/
theorem Wp.val {α β : Type} {R : Wd → Hp → α → β → Prop} {Q : β → Hp → Prop} {a : α} {b : β} (rh : RH K G ρ H h) (w : Wp K G W σ ρ H R Q (.ok a h)) (q : R ρ H a b) : Q b H := w ρ H b rh .refl q
/-- beside a new object that is only read -/
theorem Wp.side {α β : Type} {R : Wd → Hp → α → β → Prop} {Q : β → Hp → Prop} {a : α} {b : β} {p : Addr} {o : HO} (rh : RH K G ρ H h) (hp : H p = none) (w : Wp K G W σ ρ H R Q (.ok a h)) (q : R ρ (upd H p o) a b) : Q b (upd H p o) := w _ _ b (rh.beside hp) (.new hp) q

/-! ### weaker readings -/
variable {X : Cx}
theorem pe_imp {e : Expr} {t t' : TE} (a : PE X e t) (f : ∀ σ H Q, t' σ H Q → t σ H Q) : PE X e t' := ⟨fun pins s σ H Q I w => a.run pins s σ H Q I (f σ H Q w)⟩
theorem pt_imp {e : Expr} {t t' : TT} (a : PT X e t) (f : ∀ σ H Q, t' σ H Q → t σ H Q) : PT X e t' := ⟨fun pins s σ H Q I w => a.run pins s σ H Q I (f σ H Q w)⟩
theorem pw_imp {e : Expr} {t t' : TT} (a : PW X e t) (f : ∀ σ H Q, t' σ H Q → t σ H Q) : PW X e t' := ⟨fun wh pins s σ H Q I w => a.run wh pins s σ H Q I (f σ H Q w)⟩
theorem pa_imp {e : List Expr} {t t' : TA} (a : PA X e t) (f : ∀ σ H Q, t' σ H Q → t σ H Q) : PA X e t' := ⟨fun pos pins s σ H Q I w => a.run pos pins s σ H Q I (f σ H Q w)⟩
theorem ps_imp {e : Stmt} {t t' : TS} (a : PS X e t) (f : ∀ D σ H, t' D σ H → t D σ H) : PS X e t' := ⟨fun pins s σ H D I w => a.run pins s σ H D I (f D σ H w)⟩
theorem pss_imp {e : List Stmt} {t t' : TS} (a : PSs X e t) (f : ∀ D σ H, t' D σ H → t D σ H) : PSs X e t' := ⟨fun pins s σ H D I w => a.run pins s σ H D I (f D σ H w)⟩
theorem pg_imp {e : Expr} {t t' : TG} (a : PG X e t) (f : ∀ v σ H Q, t' v σ H Q → t v σ H Q) : PG X e t' := ⟨fun pins s σ H v u Q I r w => a.run pins s σ H v u Q I r (f v σ H Q w)⟩
theorem pgs_imp {e : List Expr} {t t' : TGs} (a : PGs X e t) (f : ∀ v σ H Q, t' v σ H Q → t v σ H Q) : PGs X e t' := ⟨fun pins s σ H v u Q I r w => a.run pins s σ H v u Q I r (f v σ H Q w)⟩
theorem pi_imp {tg it : Expr} {t t' : TI} (a : PI X tg it t) (f : ∀ σ H R, t' σ H R → t σ H R) : PI X tg it t' := ⟨fun pins s σ H R I w => a.run pins s σ H R I (f σ H R w)⟩
end

/-! ### names, constants -/
def mVar (i : Nat) : E := fun s h => match s[i]? with
  | some (some x) => .ok x h
  | _ => .stuck
def mC (v : PV) : E := fun _ h => .ok v h
section
variable {X : Cx} {G : Nat → Option Addr} {W : WX}
abbrev PEm (X : Cx) (G : Nat → Option Addr) (W : WX) (e : Expr) (m : E) : Prop := PE X e (rd X.K G W m)
abbrev PTm (X : Cx) (G : Nat → Option Addr) (W : WX) (e : Expr) (m : ET) : Prop := PT X e (rdT X.K G W m)
abbrev PWm (X : Cx) (G : Nat → Option Addr) (W : WX) (e : Expr) (m : ET) : Prop := PW X e (rdT X.K G W m)
abbrev PAm (X : Cx) (G : Nat → Option Addr) (W : WX) (e : List Expr) (m : EA) : Prop := PA X e (rdA X.K G W m)
theorem em_var {i : Nat} {e : Expr} (hv : PE X e (tVar i)) : PEm X G W e (mVar i) := by
  refine pe_imp hv fun σ H Q ⟨ρ, h, p, rh, rs, w⟩ => ?_
  unfold mVar at w
  split at w
  · rename_i x e
    obtain ⟨v, e2, q⟩ := rs.2 _ _ e
    exact ⟨v, e2, w.val rh q⟩
  · exact w.elim
theorem em_c {e : Expr} {pv : PV} {v : V} (hc : PE X e (tC v)) (q : ∀ ρ H, Rel X.K G ρ H pv v) : PEm X G W e (mC pv) := by
  refine pe_imp hc fun σ H Q ⟨ρ, h, p, rh, rs, w⟩ => ?_
  exact w.val rh (q ρ H)
theorem em_int {i : Int} {j pos} : PEm X G W (.Constant (.int i) j pos) (mC (.int i)) := em_c pe_int fun _ _ => rfl
theorem em_bl {i : Bool} {j pos} : PEm X G W (.Constant (.bool i) j pos) (mC (.bl i)) := em_c pe_bl fun _ _ => rfl
theorem em_non {j pos} : PEm X G W (.Constant .none j pos) (mC .non) := em_c pe_non fun _ _ => rfl
theorem em_str {i : Str} {j pos} : PEm X G W (.Constant (.str i) j pos) (mC (.str i)) := em_c pe_str fun _ _ => rfl
/-- a global value -/
theorem em_gv {x : Str} {pos : Pos} {pv : PV} {v : V} {u : Value} (hm : X.mg x = some u) (r : RelV v u) (q : ∀ ρ H, Rel X.K G ρ H pv v) (hg : Gl X x := by rfl) (hd : (x == ("__debug__" : Str)) = false := by decide) : PEm X G W (.Name x pos) (mC pv) :=
  em_c (pe_glob hg hm r hd) q
/-- a def, a class of the module -/
theorem em_gl {x : Str} {pos : Pos} {i : Nat} {a : Addr} (hm : X.mg x = some (.ref a)) (hi : G i = some a) (hg : Gl X x := by rfl) (hd : (x == ("__debug__" : Str)) = false := by decide) : PEm X G W (.Name x pos) (mC (.gl i)) :=
  em_c (pe_glob (v := .ref a) hg hm rfl hd) fun _ _ => ⟨a, rfl, hi⟩
/-- a built-in class -/
theorem em_ty {x : Str} {pos : Pos} {n : String} (hm : X.mg x = none) (hv : bootBuiltins x = some (.type n)) (hg : Gl X x := by rfl) (hn : x ≠ "__name__" := by decide) (hd : (x == ("__debug__" : Str)) = false := by decide) : PEm X G W (.Name x pos) (mC (.ty n)) :=
  em_c (pe_bltn (v := .ty n) hg hm hv rfl hn hd) fun _ _ => rfl

/-! ### argument lists, displays -/
def mNil : EA := fun _ h => .ok [] h
def mCons (a : E) (r : EA) : EA := fun s h => (a s h).bind fun x h1 => (r s h1).bind fun xs h2 => .ok (x :: xs) h2
theorem am_nil : PAm X G W [] mNil := pa_imp pa_nil fun σ H Q ⟨ρ, h, p, rh, rs, w⟩ => w.val rh rfl
theorem am_cons {e : Expr} {es : List Expr} {a : E} {r : EA} (ha : PEm X G W e a) (hr : PAm X G W es r) (hs : starEach (e :: es) X.env = (false, eval e X.env) :: starEach es X.env := by rfl) : PAm X G W (e :: es) (mCons a r) := by
  refine pa_imp (pa_cons ha hr hs) fun σ H Q ⟨ρ, h, p, rh, rs, w⟩ => ?_
  refine ⟨ρ, h, p, rh, rs, w.bind fun x h1 ρ1 H1 v _ rh1 t1 q1 w1 => ?_⟩
  refine ⟨ρ1, h1, p, rh1, rs.mono rh.mut t1, w1.bind fun xs h2 ρ2 H2 vs _ rh2 t2 q2 w2 => ?_⟩
  exact w2.val rh2 ⟨v, vs, rfl, q1.mono rh1.mut t2, q2⟩
def mTup (as : EA) : E := fun s h => (as s h).bind fun xs h1 => if xs.length ≤ 16777216 then .ok (.tup xs) h1 else .stuck
def mLst (as : EA) : E := fun s h => (as s h).bind fun xs h1 => if xs.length ≤ 16777216 then .ok (.lst xs) h1 else .stuck
def mLstR (as : EA) : E := fun s h => (as s h).bind fun xs h1 => if xs.length ≤ 16777216 then .ok (.ref h1.length) (h1 ++ [.lst xs]) else .stuck
theorem Wp.ite {α β : Type} {K : PySem.W.Frag} {σ : St} {ρ : Wd} {H : Hp} {R : Wd → Hp → α → β → Prop} {Q : β → Hp → Prop} {c : Prop} [Decidable c] {r : Res α} (w : Wp K G W σ ρ H R Q (if c then r else .stuck)) : c ∧ Wp K G W σ ρ H R Q r := by
  by_cases z : c
  · rw [if_pos z] at w; exact ⟨z, w⟩
  · rw [if_neg z] at w; exact w.elim
theorem rel_tup {K : PySem.W.Frag} {ρ : Wd} {H : Hp} {h : List MO} {xs : List PV} {vs : List V} {p : Addr} (rh : RH K G ρ H h) (hp : H p = none) (q : Rels K G ρ H xs vs) : Rel K G ρ (upd H p (.tup vs)) (.tup xs) (.ref p) :=
  ⟨p, vs, rfl, .inl upd_same, q.mono rh.mut (.new hp)⟩
theorem rel_lst {K : PySem.W.Frag} {ρ : Wd} {H : Hp} {h : List MO} {xs : List PV} {vs : List V} {p : Addr} (rh : RH K G ρ H h) (hp : H p = none) (q : Rels K G ρ H xs vs) : Rel K G ρ (upd H p (.lst vs)) (.lst xs) (.ref p) :=
  ⟨p, vs, rfl, upd_same, rh.nin hp, q.mono rh.mut (.new hp)⟩
theorem ref_new {K : PySem.W.Frag} {ρ : Wd} {H : Hp} {h : List MO} {p : Addr} {H' : Hp} (rh : RH K G ρ H h) : Rel K G (ρ.add p) H' (.ref h.length) (.ref p) :=
  ⟨p, rfl, by rw [← rh.len]; unfold Wd.add; rw [List.getElem?_append_right (Nat.le_refl _), Nat.sub_self]; rfl⟩
/-- a new list in the mirrored heap -/
theorem Wp.pushL {K : PySem.W.Frag} {σ : St} {ρ : Wd} {H : Hp} {h : List MO} {xs : List PV} {vs : List V} {p : Addr} {Q : VK} (rh : RH K G ρ H h) (hp : H p = none) (q : Rels K G ρ H xs vs)
    (w : Wp K G W σ ρ H (Rel K G) Q (.ok (.ref h.length) (h ++ [.lst xs]))) : Q (.ref p) (upd H p (.lst vs)) :=
  w _ _ _ (rh.push hp ⟨vs, upd_same, q.mono rh.mut (.newIn hp)⟩) (.newIn hp) (ref_new rh)
theorem sl_le {n : Nat} (h : n ≤ 16777216) : n ≤ sizeLine := by rw [sizeLine_eq]; exact h
theorem em_tup {es : List Expr} {as : EA} {x1 pos} (ha : PAm X G W es as) : PEm X G W (.Tuple es x1 pos) (mTup as) := by
  refine pe_imp (pe_tup ha) fun σ H Q ⟨ρ, h, p, rh, rs, w⟩ => ?_
  refine ⟨ρ, h, p, rh, rs, w.bind fun xs h1 ρ1 H1 vs _ rh1 t1 q1 w1 => ?_⟩
  obtain ⟨z, w1⟩ := w1.ite
  exact ⟨by rw [← q1.length]; exact sl_le z, fun a ha => w1.side rh1 ha (rel_tup rh1 ha q1)⟩
theorem em_lst {es : List Expr} {as : EA} {pos} (ha : PAm X G W es as) : PEm X G W (.List es pos) (mLst as) := by
  refine pe_imp (pe_lst ha) fun σ H Q ⟨ρ, h, p, rh, rs, w⟩ => ?_
  refine ⟨ρ, h, p, rh, rs, w.bind fun xs h1 ρ1 H1 vs _ rh1 t1 q1 w1 => ?_⟩
  obtain ⟨z, w1⟩ := w1.ite
  exact ⟨by rw [← q1.length]; exact sl_le z, fun a ha => w1.side rh1 ha (rel_lst rh1 ha q1)⟩
theorem em_lstR {es : List Expr} {as : EA} {pos} (ha : PAm X G W es as) : PEm X G W (.List es pos) (mLstR as) := by
  refine pe_imp (pe_lst ha) fun σ H Q ⟨ρ, h, p, rh, rs, w⟩ => ?_
  refine ⟨ρ, h, p, rh, rs, w.bind fun xs h1 ρ1 H1 vs _ rh1 t1 q1 w1 => ?_⟩
  obtain ⟨z, w1⟩ := w1.ite
  exact ⟨by rw [← q1.length]; exact sl_le z, fun a ha => w1.pushL rh1 ha q1⟩

/-! ### operators, comparisons, by values -/
def mOp (p : PV → PV → M PV) (a b : E) : E := fun s h => (a s h).bind fun x h1 => (b s h1).bind fun y h2 => p x y h2
def mUn (p : PV → M PV) (a : E) : E := fun s h => (a s h).bind p
theorem op_of {a b : E} {r : R2} {p : PV → PV → M PV} (hp : OpM X.K G W r p) {σ : St} {H : Hp} {Q : VK} (w : rd X.K G W (mOp p a b) σ H Q) : tOp r (rd X.K G W a) (rd X.K G W b) σ H Q := by
  obtain ⟨ρ, h, s, rh, rs, w⟩ := w
  refine ⟨ρ, h, s, rh, rs, w.bind fun x h1 ρ1 H1 v _ rh1 t1 q1 w1 => ?_⟩
  refine ⟨ρ1, h1, s, rh1, rs.mono rh.mut t1, w1.bind fun y h2 ρ2 H2 u _ rh2 t2 q2 w2 => ?_⟩
  exact hp σ ρ2 H2 h2 x y v u Q rh2 (q1.mono rh1.mut t2) q2 w2
theorem em_op {ea eb : Expr} {a b : E} {op : Operator} {pos : Pos} {r : R2} {p : PV → PV → M PV} (ho : OpR X (binaryOp op) r) (hp : OpM X.K G W r p) (ha : PEm X G W ea a) (hb : PEm X G W eb b) : PEm X G W (.BinOp ea op eb pos) (mOp p a b) :=
  pe_imp (pe_op ho ha hb) fun _ _ _ w => op_of hp w
theorem em_un {ea : Expr} {a : E} {op : UnaryOp} {pos : Pos} {r : V → Hp → VK → Prop} {p : PV → M PV} (ho : UnR X (unaryOp op) r) (hp : UnM X.K G W r p) (ha : PEm X G W ea a) : PEm X G W (.UnaryOp op ea pos) (mUn p a) := by
  refine pe_imp (pe_un ho ha) fun σ H Q ⟨ρ, h, s, rh, rs, w⟩ => ?_
  exact ⟨ρ, h, s, rh, rs, w.bind fun x h1 ρ1 H1 v _ rh1 t1 q1 w1 => hp σ ρ1 H1 h1 x v Q rh1 q1 w1⟩
theorem em_cmp {ea eb : Expr} {a b : E} {op : CmpOp} {pos : Pos} {r : R2} {p : PV → PV → M PV} (ho : OpR X (compareOp op) r) (hp : OpM X.K G W r p) (ha : PEm X G W ea a) (hb : PEm X G W eb b) (hm : behindInMarks op eb = false) : PEm X G W (.Compare ea [op] [eb] pos) (mOp p a b) :=
  pe_imp (pe_cmpR ho ha hb hm) fun _ _ _ w => op_of hp w
/-- a value that is a bool, as a test -/
def blOf : PV → M Bool := fun v h => match v with
  | .bl b => .ok b h
  | _ => .stuck
def mB (a : E) : ET := fun s h => (a s h).bind blOf
theorem test_of {a : E} {t : TE} (f : ∀ σ H Q, rd X.K G W a σ H Q → t σ H Q) {σ : St} {H : Hp} {Q : Bool → Hp → Prop} (w : rdT X.K G W (mB a) σ H Q) : tTest t σ H Q := by
  obtain ⟨ρ, h, s, rh, rs, w⟩ := w
  refine f σ H _ ⟨ρ, h, s, rh, rs, w.bind fun x h1 ρ1 H1 v _ rh1 t1 q1 w1 => ?_⟩
  unfold blOf at w1
  cases x with
  | bl b => exact ⟨b, q1, w1.val rh1 rfl⟩
  | _ => exact w1.elim
theorem tm_cmp {ea eb : Expr} {a b : E} {op : CmpOp} {pos : Pos} {r : R2} {p : PV → PV → M PV} (ho : OpR X (compareOp op) r) (hp : OpM X.K G W r p) (ha : PEm X G W ea a) (hb : PEm X G W eb b) (hm : behindInMarks op eb = false) : PTm X G W (.Compare ea [op] [eb] pos) (mB (mOp p a b)) :=
  pt_imp (pt_cmpR ho ha hb hm) fun _ _ _ w => test_of (fun _ _ _ w => op_of hp w) w
def mChain (p p' : PV → PV → M PV) (a b c : E) : E := fun s h => (a s h).bind fun x h1 => (b s h1).bind fun y h2 => (p x y h2).bind fun z h3 => (blOf z h3).bind fun k h4 => if k = true then (c s h4).bind fun u h5 => p' y u h5 else .ok (.bl false) h4
theorem chain_of {a b c : E} {r r' : R2} {p p' : PV → PV → M PV} (hp : OpM X.K G W r p) (hp' : OpM X.K G W r' p') {σ : St} {H : Hp} {Q : VK} (w : rd X.K G W (mChain p p' a b c) σ H Q) : tChain r r' (rd X.K G W a) (rd X.K G W b) (rd X.K G W c) σ H Q := by
  obtain ⟨ρ, h, s, rh, rs, w⟩ := w
  refine ⟨ρ, h, s, rh, rs, w.bind fun x h1 ρ1 H1 v _ rh1 t1 q1 w1 => ?_⟩
  have rs1 := rs.mono rh.mut t1
  refine ⟨ρ1, h1, s, rh1, rs1, w1.bind fun y h2 ρ2 H2 u _ rh2 t2 q2 w2 => ?_⟩
  have rs2 := rs1.mono rh1.mut t2
  refine hp σ ρ2 H2 h2 x y v u _ rh2 (q1.mono rh1.mut t2) q2 (w2.bind fun z h3 ρ3 H3 k _ rh3 t3 q3 w3 => ?_)
  cases z with
  | bl b =>
    refine ⟨b, q3, ?_⟩
    cases b with
    | true =>
      refine ⟨ρ3, h3, s, rh3, rs2.mono rh2.mut t3, Wp.bind (Ra := Rel X.K G) (show Wp X.K G W σ ρ3 H3 (Rel X.K G) Q ((c s h3).bind fun u h5 => p' y u h5) from w3) fun d h4 ρ4 H4 e _ rh4 t4 q4 w4 => ?_⟩
      exact hp' σ ρ4 H4 h4 y d u e Q rh4 ((q2.mono rh2.mut t3).mono rh3.mut t4) q4 w4
    | false => exact Wp.val rh3 (show Wp X.K G W σ ρ3 H3 (Rel X.K G) Q (.ok (.bl false) h3) from w3) rfl
  | _ => exact w3.elim
theorem em_chain {ea eb ec : Expr} {a b c : E} {op op' : CmpOp} {pos : Pos} {r r' : R2} {p p' : PV → PV → M PV} (ho : OpR X (compareOp op) r) (hp : OpM X.K G W r p) (ho' : OpR X (compareOp op') r') (hp' : OpM X.K G W r' p') (ha : PEm X G W ea a) (hb : PEm X G W eb b) (hc : PEm X G W ec c)
    (hm : lastMarks [op, op'] [eb, ec] = false := by with_unfolding_all rfl) : PEm X G W (.Compare ea [op, op'] [eb, ec] pos) (mChain p p' a b c) :=
  pe_imp (pe_chain ho ho' ha hb hc hm) fun _ _ _ w => chain_of hp hp' w
theorem tm_chain {ea eb ec : Expr} {a b c : E} {op op' : CmpOp} {pos : Pos} {r r' : R2} {p p' : PV → PV → M PV} (ho : OpR X (compareOp op) r) (hp : OpM X.K G W r p) (ho' : OpR X (compareOp op') r') (hp' : OpM X.K G W r' p') (ha : PEm X G W ea a) (hb : PEm X G W eb b) (hc : PEm X G W ec c)
    (hm : lastMarks [op, op'] [eb, ec] = false := by with_unfolding_all rfl) : PTm X G W (.Compare ea [op, op'] [eb, ec] pos) (mB (mChain p p' a b c)) :=
  pt_imp (pt_chain ho ho' ha hb hc hm) fun _ _ _ w => test_of (fun _ _ _ w => chain_of hp hp' w) w
end
end Mir

set_option Elab.async false
set_option linter.all false
set_option maxRecDepth 100000
namespace Mir
open PySem L2

/-! ### truth -/
def truth : PV → M Bool := fun v h => match v with
  | .non => .ok false h
  | .bl b => .ok b h
  | .int i => .ok (i != 0) h
  | .str y => if y.length ≤ 16777216 then .ok ((y.length : Int) != 0) h else .stuck
  | .tup xs => .ok (!xs.isEmpty) h
  | .lst xs => .ok (!xs.isEmpty) h
  | .frz xs => .ok (!xs.isEmpty) h
  | .ref i => match h[i]? with
    | some (.lst xs) => .ok (!xs.isEmpty) h
    | some (.dK kvs) => .ok (!kvs.isEmpty) h
    | _ => .stuck
  | _ => .stuck
section
variable {K : PySem.W.Frag} {G : Nat → Option Addr} {W : WX} {σ : St} {ρ : Wd} {H : Hp} {h : List MO}
theorem Rels.isEmpty {xs : List PV} {vs : List V} (r : Rels K G ρ H xs vs) : xs.isEmpty = vs.isEmpty := by
  have e := r.length
  cases xs <;> cases vs <;> simp_all
theorem RH.at_ (rh : RH K G ρ H h) {i : Nat} {a : Addr} {o : MO} (e1 : ρ.v[i]? = some a) (e2 : h[i]? = some o) : ObR K G ρ H o a := rh.obj i a o e1 e2
theorem truth_of {Q : Bool → Hp → Prop} {x : PV} {v : V} (rh : RH K G ρ H h) (r : Rel K G ρ H x v) (w : Wp K G W σ ρ H (fun _ _ a b => a = b) Q (truth x h)) : ∃ k, TruV K v H k ∧ Q k H := by
  cases x with
  | non => cases (show v = .non from r); exact ⟨false, rfl, w.val rh rfl⟩
  | bl b => cases (show v = .bl b from r); exact ⟨b, rfl, w.val rh rfl⟩
  | int i => cases (show v = .int i from r); exact ⟨_, rfl, w.val rh rfl⟩
  | str y =>
    cases (show v = .str y from r)
    obtain ⟨z, w⟩ := Wp.ite (r := .ok ((y.length : Int) != 0) h) w
    exact ⟨_, ⟨sl_le z, rfl⟩, w.val rh rfl⟩
  | tup xs => obtain ⟨a, vs, rfl, s, q⟩ := r; exact ⟨_, .inr (.inl ⟨vs, s.sq, rfl⟩), w.val rh (by rw [q.isEmpty])⟩
  | lst xs => obtain ⟨a, vs, rfl, s, _, q⟩ := r; exact ⟨_, .inl ⟨vs, .of s, rfl⟩, w.val rh (by rw [q.isEmpty])⟩
  | frz xs =>
    obtain ⟨a, vs, rfl, s, q⟩ := r
    refine ⟨_, .inl ⟨vs, ?_, rfl⟩, w.val rh (by rw [q.isEmpty])⟩
    rcases s with ⟨s, _⟩ | s
    · exact .inl s
    · exact .inr s
  | ref i =>
    obtain ⟨a, rfl, e⟩ := r
    unfold truth at w
    dsimp only at w
    split at w
    · rename_i xs e2
      obtain ⟨vs, e3, q⟩ := rh.at_ e e2
      exact ⟨_, .inl ⟨vs, .of e3, rfl⟩, w.val rh (by rw [q.isEmpty])⟩
    · rename_i kvs e2
      obtain ⟨ks, e3, q⟩ := rh.at_ e e2
      refine ⟨_, .inr (.inr ⟨ks, e3, rfl⟩), w.val rh ?_⟩
      have := congrArg List.length q.1
      rw [List.length_map, List.length_map] at this
      cases kvs <;> cases ks <;> simp_all
    · exact w.elim
  | gl i => exact w.elim
  | ty n => exact w.elim
end
/-! ### and, or, not, if -/
def mTru (a : E) : ET := fun s h => (a s h).bind truth
def mAndB (t u : ET) : ET := fun s h => (t s h).bind fun c h1 => if c = true then u s h1 else .ok false h1
def mOrB (t u : ET) : ET := fun s h => (t s h).bind fun c h1 => if c = true then .ok true h1 else u s h1
def mNotB (t : ET) : ET := fun s h => (t s h).bind fun c h1 => .ok (!c) h1
def mAnd (a b : E) : E := fun s h => (a s h).bind fun x h1 => (truth x h1).bind fun c h2 => if c = true then b s h2 else .ok x h2
def mOr (a b : E) : E := fun s h => (a s h).bind fun x h1 => (truth x h1).bind fun c h2 => if c = true then .ok x h2 else b s h2
def mNot (a : E) : E := fun s h => (a s h).bind fun x h1 => (truth x h1).bind fun c h2 => .ok (.bl (!c)) h2
def mIf (t : ET) (a b : E) : E := fun s h => (t s h).bind fun c h1 => if c = true then a s h1 else b s h1
section
variable {X : Cx} {G : Nat → Option Addr} {W : WX} {ea eb : Expr} {rest : List Expr} {a b : E} {t u : ET} {pos : Pos}
theorem truth_same {x : PV} {h h1 : List MO} {c : Bool} (e : truth x h = .ok c h1) : h1 = h := by
  unfold truth at e
  split at e <;> first | (injection e with _ e; exact e.symm) | (split at e <;> first | (injection e with _ e; exact e.symm) | cases e) | cases e
theorem tm_tru (ha : PEm X G W ea a) (he : ∀ whole, isTrue ea X.env whole = (do let v ← whole; standAt ea.pos; holding [v] (truthy v)) := by intro _; rfl) : PTm X G W ea (mTru a) := by
  refine pt_imp (pt_truth ha he) fun σ H Q ⟨ρ, h, s, rh, rs, w⟩ => ?_
  exact ⟨ρ, h, s, rh, rs, w.bind fun x h1 ρ1 H1 v _ rh1 t1 q1 w1 => truth_of rh1 q1 w1⟩
theorem if_of {ta tb : ET} {σ : St} {ρ : Wd} {H : Hp} {h : List MO} {s : Sl} {Q : Bool → Hp → Prop} {c : Bool} (rh : RH X.K G ρ H h) (rs : RelS X.K G ρ H s σ) (w : Wp X.K G W σ ρ H (fun _ _ a b => a = b) Q (if c = true then ta s h else tb s h)) :
    if c = true then rdT X.K G W ta σ H Q else rdT X.K G W tb σ H Q := by
  cases c with
  | true => exact ⟨ρ, h, s, rh, rs, w⟩
  | false => exact ⟨ρ, h, s, rh, rs, w⟩
theorem wm_and1 (ha : PTm X G W ea t) : PWm X G W (.BoolOp .And [ea] pos) t := pw_and1 ha
theorem wm_or1 (ha : PTm X G W ea t) : PWm X G W (.BoolOp .Or [ea] pos) t := pw_or1 ha
theorem wm_and (ha : PTm X G W ea t) (hb : PWm X G W (.BoolOp .And (eb :: rest) pos) u) : PWm X G W (.BoolOp .And (ea :: eb :: rest) pos) (mAndB t u) := by
  refine pw_imp (pw_and ha hb) fun σ H Q ⟨ρ, h, s, rh, rs, w⟩ => ?_
  refine ⟨ρ, h, s, rh, rs, w.bind fun c h1 ρ1 H1 d _ rh1 t1 q1 w1 => ?_⟩
  subst q1
  cases c with
  | true => exact ⟨ρ1, h1, s, rh1, rs.mono rh.mut t1, w1⟩
  | false => exact Wp.val rh1 (show Wp X.K G W σ ρ1 H1 (fun _ _ a b => a = b) Q (.ok false h1) from w1) rfl
theorem wm_or (ha : PTm X G W ea t) (hb : PWm X G W (.BoolOp .Or (eb :: rest) pos) u) : PWm X G W (.BoolOp .Or (ea :: eb :: rest) pos) (mOrB t u) := by
  refine pw_imp (pw_or ha hb) fun σ H Q ⟨ρ, h, s, rh, rs, w⟩ => ?_
  refine ⟨ρ, h, s, rh, rs, w.bind fun c h1 ρ1 H1 d _ rh1 t1 q1 w1 => ?_⟩
  subst q1
  cases c with
  | true => exact Wp.val rh1 (show Wp X.K G W σ ρ1 H1 (fun _ _ a b => a = b) Q (.ok true h1) from w1) rfl
  | false => exact ⟨ρ1, h1, s, rh1, rs.mono rh.mut t1, w1⟩
theorem tm_w (hw : PWm X G W ea t) : PTm X G W ea t := hw.pt
theorem tm_not (ha : PTm X G W ea t) : PTm X G W (.UnaryOp .Not ea pos) (mNotB t) := by
  refine pt_imp (pt_not ha) fun σ H Q ⟨ρ, h, s, rh, rs, w⟩ => ?_
  refine ⟨ρ, h, s, rh, rs, w.bind fun c h1 ρ1 H1 d _ rh1 t1 q1 w1 => ?_⟩
  subst q1
  exact w1.val rh1 rfl
theorem em_one {op} (ha : PEm X G W ea a) : PEm X G W (.BoolOp op [ea] pos) a := pe_one ha
theorem em_and (ha : PEm X G W ea a) (hb : PEm X G W (.BoolOp .And (eb :: rest) pos) b) : PEm X G W (.BoolOp .And (ea :: eb :: rest) pos) (mAnd a b) := by
  refine pe_imp (pe_andT ha hb) fun σ H Q ⟨ρ, h, s, rh, rs, w⟩ => ?_
  refine ⟨ρ, h, s, rh, rs, w.bind fun x h1 ρ1 H1 v _ rh1 t1 q1 w1 => ?_⟩
  refine truth_of (Q := fun k H => if k = true then rd X.K G W b σ H Q else Q v H) rh1 q1 (w1.bind fun c h2 ρ2 H2 d e rh2 t2 q2 w2 => ?_)
  subst q2
  cases c with
  | true => exact ⟨ρ2, h2, s, rh2, (rs.mono rh.mut t1).mono rh1.mut t2, w2⟩
  | false => exact Wp.val rh2 (show Wp X.K G W σ ρ2 H2 (Rel X.K G) Q (.ok x h2) from w2) (q1.mono rh1.mut t2)
theorem em_or (ha : PEm X G W ea a) (hb : PEm X G W (.BoolOp .Or (eb :: rest) pos) b) : PEm X G W (.BoolOp .Or (ea :: eb :: rest) pos) (mOr a b) := by
  refine pe_imp (pe_orT ha hb) fun σ H Q ⟨ρ, h, s, rh, rs, w⟩ => ?_
  refine ⟨ρ, h, s, rh, rs, w.bind fun x h1 ρ1 H1 v _ rh1 t1 q1 w1 => ?_⟩
  refine truth_of (Q := fun k H => if k = true then Q v H else rd X.K G W b σ H Q) rh1 q1 (w1.bind fun c h2 ρ2 H2 d e rh2 t2 q2 w2 => ?_)
  subst q2
  cases c with
  | true => exact Wp.val rh2 (show Wp X.K G W σ ρ2 H2 (Rel X.K G) Q (.ok x h2) from w2) (q1.mono rh1.mut t2)
  | false => exact ⟨ρ2, h2, s, rh2, (rs.mono rh.mut t1).mono rh1.mut t2, w2⟩
theorem em_not (ha : PEm X G W ea a) : PEm X G W (.UnaryOp .Not ea pos) (mNot a) := by
  refine pe_imp (pe_notT ha) fun σ H Q ⟨ρ, h, s, rh, rs, w⟩ => ?_
  refine ⟨ρ, h, s, rh, rs, w.bind fun x h1 ρ1 H1 v _ rh1 t1 q1 w1 => ?_⟩
  refine truth_of rh1 q1 (w1.bind fun c h2 ρ2 H2 d e rh2 t2 q2 w2 => ?_)
  subst q2
  exact w2.val rh2 rfl
theorem em_if {c : Expr} (hc : PTm X G W c t) (ha : PEm X G W ea a) (hb : PEm X G W eb b) : PEm X G W (.IfExp c ea eb pos) (mIf t a b) := by
  refine pe_imp (pe_ifExp hc ha hb) fun σ H Q ⟨ρ, h, s, rh, rs, w⟩ => ?_
  refine ⟨ρ, h, s, rh, rs, w.bind fun c h1 ρ1 H1 d _ rh1 t1 q1 w1 => ?_⟩
  subst q1
  cases c with
  | true => exact ⟨ρ1, h1, s, rh1, rs.mono rh.mut t1, w1⟩
  | false => exact ⟨ρ1, h1, s, rh1, rs.mono rh.mut t1, w1⟩
end

/-! ### sequences -/
def lstOf (x : PV) (h : List MO) : Option (List PV) := match x with
  | .lst xs => some xs
  | .ref i => match h[i]? with
    | some (.lst xs) => some xs
    | _ => none
  | _ => none
/-- .. what may be read alone among them -/
def lstRd (x : PV) (h : List MO) : Option (List PV) := match x with
  | .frz xs => some xs
  | x => lstOf x h
section
variable {K : PySem.W.Frag} {G : Nat → Option Addr} {W : WX} {σ : St} {ρ : Wd} {H : Hp} {h : List MO} {x : PV} {v : V} {xs : List PV}
theorem lstOf_ok (rh : RH K G ρ H h) (r : Rel K G ρ H x v) (e : lstOf x h = some xs) : ∃ a vs, v = .ref a ∧ H a = some (.lst vs) ∧ Rels K G ρ H xs vs := by
  cases x with
  | lst ys =>
    cases (show some ys = some xs from e)
    obtain ⟨a, vs, rfl, s, _, q⟩ := r
    exact ⟨a, vs, rfl, s, q⟩
  | ref i =>
    obtain ⟨a, rfl, e1⟩ := r
    unfold lstOf at e
    dsimp only at e
    split at e
    · rename_i ys e2
      cases e
      obtain ⟨vs, e3, q⟩ := rh.at_ e1 e2
      exact ⟨a, vs, rfl, e3, q⟩
    · cases e
  | _ => cases e
theorem lstRd_ok (rh : RH K G ρ H h) (r : Rel K G ρ H x v) (e : lstRd x h = some xs) : ∃ a vs, v = .ref a ∧ SqL K H a vs ∧ Rels K G ρ H xs vs := by
  have go : lstOf x h = some xs → ∃ a vs, v = .ref a ∧ SqL K H a vs ∧ Rels K G ρ H xs vs := fun e => by
    obtain ⟨a, vs, e1, e2, q⟩ := lstOf_ok rh r e
    exact ⟨a, vs, e1, .of e2, q⟩
  cases x with
  | frz ys =>
    cases (show some ys = some xs from e)
    obtain ⟨a, vs, rfl, s, q⟩ := r
    refine ⟨a, vs, rfl, ?_, q⟩
    rcases s with ⟨s, _⟩ | s
    · exact .inl s
    · exact .inr s
  | _ => exact go e
theorem tup_ok (r : Rel K G ρ H (.tup xs) v) : ∃ a vs, v = .ref a ∧ SqT K H a vs ∧ Rels K G ρ H xs vs := let ⟨a, vs, e, s, q⟩ := r; ⟨a, vs, e, s.sq, q⟩
end
/-- an index, a slice -/
def cutL {α : Type} (xs : List α) (lo hi : Option Int) : List α := (xs.drop (HT.sIx xs.length 0 lo)).take (HT.sIx xs.length xs.length hi - HT.sIx xs.length 0 lo)
def atO (o : Option PV) : M PV := fun h => match o with
  | some v => .ok v h
  | none => .stuck
def pIx : PV → PV → M PV := fun x y h => match y with
  | .int i => match x with
    | .tup xs => atO (atI xs i) h
    | .str z => if z.length ≤ 16777216 then (match atI z.cps.toList i with
      | some c => .ok (.str ⟨#[c]⟩) h
      | none => .stuck) else .stuck
    | x => match lstRd x h with
      | some xs => atO (atI xs i) h
      | none => .stuck
  | _ => .stuck
section
variable {K : PySem.W.Frag} {G : Nat → Option Addr} {W : WX} {σ : St} {ρ : Wd} {H : Hp} {h : List MO}
theorem Rels.atI {xs : List PV} {vs : List V} {i : Int} {x : PV} (r : Rels K G ρ H xs vs) (e : L2.atI xs i = some x) : ∃ v, L2.atI vs i = some v ∧ Rel K G ρ H x v := by
  unfold L2.atI at e ⊢
  rw [← r.length]
  cases z : ixN xs.length i with
  | none => rw [z] at e; cases e
  | some j => rw [z] at e; exact r.get e
theorem cutL_V (vs : List V) (lo hi : Option Int) : cutL vs lo hi = cutV vs lo hi := rfl
theorem Rels.cut {xs : List PV} {vs : List V} (lo hi : Option Int) (r : Rels K G ρ H xs vs) : Rels K G ρ H (cutL xs lo hi) (cutV vs lo hi) := by
  unfold cutL cutV
  rw [← r.length]
  exact (r.drop _).take _
theorem op_ix : OpM K G W (rIx K) pIx := by
  intro σ ρ H h x y v u Q rh rx ry w
  unfold pIx at w
  cases y with
  | int i =>
    cases (show u = .int i from ry)
    have lst : ∀ xs, lstRd x h = some xs → Wp K G W σ ρ H (Rel K G) Q (atO (atI xs i) h) → rIx K v (.int i) H Q := fun xs e w => by
      obtain ⟨a, vs, rfl, s, q⟩ := lstRd_ok rh rx e
      unfold atO at w
      cases z : atI xs i with
      | none => rw [z] at w; exact w.elim
      | some x' =>
        rw [z] at w
        obtain ⟨v', e2, q2⟩ := q.atI z
        exact .inl ⟨a, vs, i, v', rfl, rfl, s, e2, w.val rh q2⟩
    cases x with
    | tup xs =>
      obtain ⟨a, vs, rfl, s, q⟩ := rx
      dsimp only at w
      unfold atO at w
      cases z : atI xs i with
      | none => rw [z] at w; exact w.elim
      | some x' =>
        rw [z] at w
        obtain ⟨v', e2, q2⟩ := q.atI z
        exact .inr (.inl ⟨a, vs, i, v', rfl, rfl, s.sq, e2, w.val rh q2⟩)
    | str z =>
      cases (show v = .str z from rx)
      obtain ⟨hz, w⟩ := Wp.ite w
      cases e : atI z.cps.toList i with
      | none => rw [e] at w; exact w.elim
      | some c =>
        rw [e] at w
        exact .inr (.inr ⟨z, i, c, rfl, rfl, sl_le hz, e, w.val rh rfl⟩)
    | lst xs => exact lst xs rfl w
    | frz xs => exact lst xs rfl w
    | ref j =>
      dsimp only at w
      cases e : lstRd (.ref j) h with
      | none => rw [e] at w; exact w.elim
      | some xs => rw [e] at w; exact lst xs e w
    | _ => exact w.elim
  | _ => exact w.elim
end
section
variable {X : Cx} {G : Nat → Option Addr} {W : WX} {ea eb : Expr} {a b : E} {pos : Pos}
theorem em_ix (ha : PEm X G W ea a) (hb : PEm X G W eb b) (hs : PlainIx eb := by exact fun _ _ => rfl) : PEm X G W (.Subscript ea eb pos) (mOp pIx a b) :=
  pe_imp (pe_ix ix_seq ha hb hs) fun _ _ _ w => op_of op_ix w
/-- parts of a slice -/
abbrev EO := Sl → M (Option Int)
def rdO (K : PySem.W.Frag) (G : Nat → Option Addr) (W : WX) (m : EO) : TO := fun σ H Q => ∃ ρ h p, RH K G ρ H h ∧ RelS K G ρ H p σ ∧ Wp K G W σ ρ H (fun _ _ a b => a = b) Q (m p h)
def mNo : EO := fun _ h => .ok none h
def intOf : PV → M (Option Int) := fun v h => match v with
  | .int i => .ok (some i) h
  | _ => .stuck
def mPart (a : E) : EO := fun s h => (a s h).bind intOf
abbrev POm (X : Cx) (G : Nat → Option Addr) (W : WX) (e : Option Expr) (m : EO) : Prop := PO X e (rdO X.K G W m)
theorem po_imp {e : Option Expr} {t t' : TO} (a : PO X e t) (f : ∀ σ H Q, t' σ H Q → t σ H Q) : PO X e t' := by
  exact ⟨by
    intros
    exact a.run _ _ _ _ _ (by assumption) (f _ _ _ (by assumption))⟩
theorem om_no : POm X G W none mNo := po_imp po_none fun σ H Q ⟨ρ, h, p, rh, rs, w⟩ => w.val rh rfl
theorem om_part (ha : PEm X G W ea a) : POm X G W (some ea) (mPart a) := by
  refine po_imp (po_some ha) fun σ H Q ⟨ρ, h, p, rh, rs, w⟩ => ?_
  refine ⟨ρ, h, p, rh, rs, w.bind fun x h1 ρ1 H1 v _ rh1 t1 q1 w1 => ?_⟩
  cases x with
  | int i => exact ⟨i, q1, w1.val rh1 rfl⟩
  | _ => exact w1.elim
def pSl (x : PV) (lo hi : Option Int) : M PV := fun h => match x with
  | .tup xs => .ok (.tup (cutL xs lo hi)) h
  | .str z => if z.length ≤ 16777216 then .ok (.str (cutS z lo hi)) h else .stuck
  | x => match lstRd x h with
    | some xs => .ok (.lst (cutL xs lo hi)) h
    | none => .stuck
def mSl (a : E) (lo hi : EO) : E := fun s h => (a s h).bind fun x h1 => (lo s h1).bind fun i h2 => (hi s h2).bind fun j h3 => pSl x i j h3
theorem cut_all {α : Type} {xs : List α} {lo hi : Option Int} (e : HT.sIx xs.length 0 lo = 0 ∧ HT.sIx xs.length xs.length hi = xs.length) : cutL xs lo hi = xs := by
  unfold cutL
  rw [e.1, e.2, List.drop_zero, Nat.sub_zero, List.take_length]
abbrev rSlAll (K : PySem.W.Frag) : V → Option Int → Option Int → Hp → VK → Prop := fun x lo hi H Q => rSlL K x lo hi H Q ∨ rSlA K x lo hi H Q ∨ rSlS x lo hi H Q
theorem sl_all : SlR X (rSlAll X.K) := sl_list.or (sl_tupA.or sl_str)
theorem sl_of {K : PySem.W.Frag} {σ : St} {ρ : Wd} {H : Hp} {h : List MO} {x : PV} {v : V} {lo hi : Option Int} {Q : VK} (rh : RH K G ρ H h) (rx : Rel K G ρ H x v) (w : Wp K G W σ ρ H (Rel K G) Q (pSl x lo hi h)) : rSlAll K v lo hi H Q := by
  unfold pSl at w
  have lst : ∀ xs, lstRd x h = some xs → Wp K G W σ ρ H (Rel K G) Q (.ok (.lst (cutL xs lo hi)) h) → rSlAll K v lo hi H Q := fun xs e w => by
    obtain ⟨a, vs, rfl, s, q⟩ := lstRd_ok rh rx e
    exact .inl ⟨a, vs, rfl, s, fun p hp => w.side rh hp (rel_lst rh hp (q.cut lo hi))⟩
  cases x with
  | tup xs =>
    obtain ⟨a, vs, rfl, s, q⟩ := rx
    refine .inr (.inl ⟨a, vs, rfl, s.sq, fun e => w.val rh ⟨a, vs, rfl, s, ?_⟩, fun _ p hp => w.side rh hp (rel_tup rh hp (q.cut lo hi))⟩)
    rw [← q.length] at e
    rw [cut_all e]
    exact q
  | str z =>
    cases (show v = .str z from rx)
    obtain ⟨hz, w⟩ := Wp.ite w
    exact .inr (.inr ⟨z, rfl, sl_le hz, w.val rh rfl⟩)
  | lst xs => exact lst xs rfl w
  | frz xs => exact lst xs rfl w
  | ref j =>
    dsimp only at w
    cases e : lstRd (.ref j) h with
    | none => rw [e] at w; exact w.elim
    | some xs => rw [e] at w; exact lst xs e w
  | _ => exact w.elim
theorem em_sl {lo hi : Option Expr} {i j : EO} {p2 : Pos} (ha : PEm X G W ea a) (hl : POm X G W lo i) (hh : POm X G W hi j) : PEm X G W (.Subscript ea (.Slice lo hi none p2) pos) (mSl a i j) := by
  refine pe_imp (pe_slice sl_all ha hl hh) fun σ H Q ⟨ρ, h, s, rh, rs, w⟩ => ?_
  refine ⟨ρ, h, s, rh, rs, w.bind fun x h1 ρ1 H1 v _ rh1 t1 q1 w1 => ?_⟩
  have rs1 := rs.mono rh.mut t1
  refine ⟨ρ1, h1, s, rh1, rs1, w1.bind fun i h2 ρ2 H2 i' _ rh2 t2 q2 w2 => ?_⟩
  subst q2
  refine ⟨ρ2, h2, s, rh2, rs1.mono rh1.mut t2, w2.bind fun j h3 ρ3 H3 j' _ rh3 t3 q3 w3 => ?_⟩
  subst q3
  exact sl_of rh3 ((q1.mono rh1.mut t2).mono rh2.mut t3) w3
/-! ### calls of what is built in -/
def mCall (p : List PV → M PV) (as : EA) : E := fun s h => (as s h).bind p
theorem em_callB {x : Str} {id : String} {p0 : Pos} {e : Expr} {es : List Expr} {r : List V → Hp → VK → Prop} {p : List PV → M PV} {as : EA} (hc : CallR X (.builtin id) r) (hp : CallM X.K G W r p) (hm : X.mg x = none) (hv : bootBuiltins x = some (.builtin id)) (ha : PAm X G W (e :: es) as)
    (hg : Gl X x := by rfl) (hn : x ≠ "__name__" := by decide) (hd : (x == ("__debug__" : Str)) = false := by decide) (he : starEach (e :: es) X.env = (false, eval e X.env) :: starEach es X.env := by rfl) (hpl : (backTo pos (starEach es X.env)).any (·.1) = false := by rfl) : PEm X G W (.Call (.Name x p0) (e :: es) [] pos) (mCall p as) := by
  refine pe_imp (pe_callB hc hg hm hv ha hn hd he hpl) fun σ H Q ⟨ρ, h, s, rh, rs, w⟩ => ?_
  exact ⟨ρ, h, s, rh, rs, w.bind fun xs h1 ρ1 H1 vs _ rh1 t1 q1 w1 => hp σ ρ1 H1 h1 xs vs Q rh1 q1 w1⟩
theorem em_callTy {x : Str} {T : String} {p0 : Pos} {e : Expr} {es : List Expr} {r : List V → Hp → VK → Prop} {p : List PV → M PV} {as : EA} (hc : CallR X (.type T) r) (hp : CallM X.K G W r p) (hm : X.mg x = none) (hv : bootBuiltins x = some (.type T)) (ha : PAm X G W (e :: es) as)
    (hg : Gl X x := by rfl) (hn : x ≠ "__name__" := by decide) (hd : (x == ("__debug__" : Str)) = false := by decide) (he : starEach (e :: es) X.env = (false, eval e X.env) :: starEach es X.env := by rfl) (hpl : (backTo pos (starEach es X.env)).any (·.1) = false := by rfl) : PEm X G W (.Call (.Name x p0) (e :: es) [] pos) (mCall p as) := by
  refine pe_imp (pe_callTy hc hg hm hv ha hn hd he hpl) fun σ H Q ⟨ρ, h, s, rh, rs, w⟩ => ?_
  exact ⟨ρ, h, s, rh, rs, w.bind fun xs h1 ρ1 H1 vs _ rh1 t1 q1 w1 => hp σ ρ1 H1 h1 xs vs Q rh1 q1 w1⟩
/-! ### methods of built-in types -/
/-- what a method's receiver is -/
def tyP (T : String) (x : PV) (h : List MO) : Bool := match x with
  | .str _ => T == "str"
  | .lst _ => T == "list"
  | .ref i => match h[i]? with
    | some (.lst _) => T == "list"
    | some (.dK _) => T == "dict"
    | some (.dT _) => T == "dict"
    | _ => false
  | _ => false
theorem tyP_ok {K : PySem.W.Frag} {ρ : Wd} {H : Hp} {h : List MO} {T : String} {x : PV} {v : V} (rh : RH K G ρ H h) (r : Rel K G ρ H x v) (e : tyP T x h = true) : tyV K T v H := by
  unfold tyP at e
  cases x with
  | str z => cases (show v = .str z from r); exact eq_of_beq e
  | lst xs => obtain ⟨a, vs, rfl, s, _, _⟩ := r; exact .inl ⟨eq_of_beq e, vs, .of s⟩
  | ref i =>
    obtain ⟨a, rfl, e1⟩ := r
    dsimp only at e
    split at e
    · rename_i e2; obtain ⟨vs, e3, _⟩ := rh.at_ e1 e2; exact .inl ⟨eq_of_beq e, vs, .of e3⟩
    · rename_i e2; obtain ⟨vs, e3, _⟩ := rh.at_ e1 e2; exact .inr (.inr (.inl ⟨eq_of_beq e, .inl ⟨vs, e3⟩⟩))
    · rename_i e2; obtain ⟨vs, e3, _⟩ := rh.at_ e1 e2; exact .inr (.inr (.inl ⟨eq_of_beq e, .inr ⟨vs, e3⟩⟩))
    · cases e
  | _ => cases e
def mMeth (T : String) (p : PV → List PV → M PV) (o : E) (as : EA) : E := fun s h => (o s h).bind fun x h1 => if tyP T x h1 = true then (as s h1).bind fun xs h2 => p x xs h2 else .stuck
def mMeth0 (T : String) (p : PV → List PV → M PV) (o : E) : E := fun s h => (o s h).bind fun x h1 => if tyP T x h1 = true then p x [] h1 else .stuck
end
end Mir

set_option Elab.async false
set_option linter.all false
set_option maxRecDepth 100000
namespace Mir
open PySem L2

/-! ### methods of built-in types -/
section
variable {X : Cx} {G : Nat → Option Addr} {W : WX} {eo e : Expr} {es : List Expr} {o : E} {as : EA} {T id : String} {name : Str} {apos cpos : Pos} {r : V → List V → Hp → VK → Prop} {p : PV → List PV → M PV}
theorem em_bm (pa : PlainAttrs T) (slot : Slot T name id) (hty : typeOf (.builtin id) = pure (.type "method_descriptor")) (hm : MtR X id r) (hp : MtP X.K G W r p) (ho : PEm X G W eo o) (ha : PAm X G W (e :: es) as)
    (hbase : attributeBase eo name X.env (eval eo X.env) = eval eo X.env := by rfl)
    (hfew : ((backTo cpos (starEach (e :: es) X.env)).all (fun x => !x.1) && (backToKw cpos (keywordEach [] X.env)).all (fun x => x.1.isSome)
      && decide ((e :: es).length + ([] : List Keyword).length + (if ([] : List Keyword).isEmpty then 0 else 1) < 30)) = true := by rfl)
    (hline : (apos.endLine == cpos.line) = true := by rfl) (hs : starEach (e :: es) X.env = (false, eval e X.env) :: starEach es X.env := by rfl) (hplain : (backTo cpos (starEach es X.env)).any (·.1) = false := by rfl) :
    PEm X G W (.Call (.Attribute eo name apos) (e :: es) [] cpos) (mMeth T p o as) := by
  refine pe_imp (pe_bm pa slot hty hm ho ha hbase hfew hline hs hplain) fun σ H Q ⟨ρ, h, s, rh, rs, w⟩ => ?_
  refine ⟨ρ, h, s, rh, rs, w.bind fun x h1 ρ1 H1 v _ rh1 t1 q1 w1 => ?_⟩
  obtain ⟨ty, w1⟩ := w1.ite
  refine ⟨tyP_ok rh1 q1 ty, ρ1, h1, s, rh1, rs.mono rh.mut t1, w1.bind fun xs h2 ρ2 H2 vs _ rh2 t2 q2 w2 => ?_⟩
  exact hp σ ρ2 H2 h2 x v xs vs Q rh2 (q1.mono rh1.mut t2) q2 w2
theorem em_bm0 (pa : PlainAttrs T) (slot : Slot T name id) (hty : typeOf (.builtin id) = pure (.type "method_descriptor")) (hm : MtR X id r) (hp : MtP X.K G W r p) (ho : PEm X G W eo o)
    (hbase : attributeBase eo name X.env (eval eo X.env) = eval eo X.env := by rfl) (hline : (apos.endLine == cpos.line) = true := by rfl) :
    PEm X G W (.Call (.Attribute eo name apos) [] [] cpos) (mMeth0 T p o) := by
  refine pe_imp (pe_bm0 pa slot hty hm ho hbase hline) fun σ H Q ⟨ρ, h, s, rh, rs, w⟩ => ?_
  refine ⟨ρ, h, s, rh, rs, w.bind fun x h1 ρ1 H1 v _ rh1 t1 q1 w1 => ?_⟩
  obtain ⟨ty, w1⟩ := w1.ite
  exact ⟨tyP_ok rh1 q1 ty, hp σ ρ1 H1 h1 x v [] [] Q rh1 q1 rfl w1⟩
end

/-! ### statements -/
inductive SR where
  | nx (s : Sl) (h : List MO) | rt (v : PV) (h : List MO) | bk (s : Sl) (h : List MO) | ct (s : Sl) (h : List MO) | exc (e : PExc) (s : Sl) (h : List MO) | stuck
abbrev SM := Sl → List MO → SR
def SR.bind (r : SR) (k : SM) : SR := match r with
  | .nx s h => k s h
  | r => r
/-- an expression's run, then a statement's -/
def xs {α : Type} (r : Res α) (s : Sl) (k : α → List MO → SR) : SR := match r with
  | .ok a h => k a h
  | .exc e h => .exc e s h
  | .stuck => .stuck
section
variable (K : PySem.W.Frag) (G : Nat → Option Addr) (W : WX)
def WpS (D : Ends) (ρ : Wd) (H : Hp) (r : SR) : Prop := match r with
  | .nx p h' => ∀ ρ' H' σ', RH K G ρ' H' h' → Tr ρ H ρ' H' → RelS K G ρ' H' p σ' → D.nx σ' H'
  | .bk p h' => ∀ ρ' H' σ', RH K G ρ' H' h' → Tr ρ H ρ' H' → RelS K G ρ' H' p σ' → D.bk σ' H'
  | .ct p h' => ∀ ρ' H' σ', RH K G ρ' H' h' → Tr ρ H ρ' H' → RelS K G ρ' H' p σ' → D.ct σ' H'
  | .rt v h' => ∀ ρ' H' u, RH K G ρ' H' h' → Tr ρ H ρ' H' → Rel K G ρ' H' v u → D.rt u H'
  | .exc c p h' => ∀ ρ' H' σ' cls d, RH K G ρ' H' h' → Tr ρ H ρ' H' → RelS K G ρ' H' p σ' → ExR K G ρ' H' c cls d → W cls d σ' H'
  | .stuck => False
def rdS (m : SM) : TS := fun D σ H => ∃ ρ h p, RH K G ρ H h ∧ RelS K G ρ H p σ ∧ WpS K G W D ρ H (m p h)
end
section
variable {K : PySem.W.Frag} {G : Nat → Option Addr} {W : WX} {D : Ends} {σ : St} {ρ ρ' : Wd} {H H' : Hp} {h : List MO}
theorem WpS.shift {r : SR} (t : Tr ρ H ρ' H') (w : WpS K G W D ρ H r) : WpS K G W D ρ' H' r := by
  cases r with
  | nx p h' => exact fun ρ2 H2 b r2 t2 q2 => w ρ2 H2 b r2 (t.trans t2) q2
  | bk p h' => exact fun ρ2 H2 b r2 t2 q2 => w ρ2 H2 b r2 (t.trans t2) q2
  | ct p h' => exact fun ρ2 H2 b r2 t2 q2 => w ρ2 H2 b r2 (t.trans t2) q2
  | rt v h' => exact fun ρ2 H2 b r2 t2 q2 => w ρ2 H2 b r2 (t.trans t2) q2
  | exc c p h' => exact fun ρ2 H2 b c d r2 t2 q2 => w ρ2 H2 b c d r2 (t.trans t2) q2
  | stuck => exact w.elim
theorem WpS.expr {α β : Type} {R : Wd → Hp → α → β → Prop} {P : β → Hp → Prop} {r : Res α} {p : Sl} {k : α → List MO → SR} (rh : RH K G ρ H h) (rs : RelS K G ρ H p σ) (w : WpS K G W D ρ H (xs r p k))
    (f : ∀ a h1 ρ1 H1 x, r = .ok a h1 → RH K G ρ1 H1 h1 → Tr ρ H ρ1 H1 → R ρ1 H1 a x → WpS K G W D ρ1 H1 (k a h1) → P x H1) : Wp K G W σ ρ H R P r := by
  cases r with
  | ok a h1 => exact fun ρ1 H1 x r1 t1 q1 => f a h1 ρ1 H1 x rfl r1 t1 q1 (WpS.shift t1 w)
  | exc c h1 => exact fun ρ1 H1 cls d r1 t1 q1 => w ρ1 H1 σ cls d r1 t1 (rs.mono rh.mut t1) q1
  | stuck => exact w.elim
theorem WpS.now {p : Sl} (rh : RH K G ρ H h) (rs : RelS K G ρ H p σ) (w : WpS K G W D ρ H (.nx p h)) : D.nx σ H := w ρ H σ rh .refl rs
theorem WpS.seq {r : SR} {k : SM} (w : WpS K G W D ρ H (r.bind k)) : WpS K G W { D with nx := rdS K G W k D } ρ H r := by
  cases r with
  | nx p h1 => exact fun ρ1 H1 σ1 r1 t1 q1 => ⟨ρ1, h1, p, r1, q1, WpS.shift t1 w⟩
  | bk p h1 => exact w
  | ct p h1 => exact w
  | rt v h1 => exact w
  | exc c p h1 => exact w
  | stuck => exact w.elim
end
def mNext : SM := fun s h => .nx s h
def mSeq (a b : SM) : SM := fun s h => (a s h).bind b
def mBreak : SM := fun s h => .bk s h
def mCont : SM := fun s h => .ct s h
def mDrop (a : E) : SM := fun s h => xs (a s h) s fun _ h1 => .nx s h1
def mRet (a : E) : SM := fun s h => xs (a s h) s fun v h1 => .rt v h1
def mRetN : SM := fun _ h => .rt .non h
def mIfS (t : ET) (a b : SM) : SM := fun s h => xs (t s h) s fun c h1 => if c = true then a s h1 else b s h1
section
variable {X : Cx} {G : Nat → Option Addr} {W : WX} {st : Stmt} {rest : List Stmt} {m k : SM} {ea : Expr} {a : E} {pos : Pos}
abbrev PSm (X : Cx) (G : Nat → Option Addr) (W : WX) (st : Stmt) (m : SM) : Prop := PS X st (rdS X.K G W m)
abbrev PBm (X : Cx) (G : Nat → Option Addr) (W : WX) (st : List Stmt) (m : SM) : Prop := PSs X st (rdS X.K G W m)
theorem bm_nil : PBm X G W [] mNext := pss_imp pss_nil fun D σ H ⟨ρ, h, p, rh, rs, w⟩ => w.now rh rs
theorem bm_one (h : PSm X G W st m) : PBm X G W [st] m := pss_one h
theorem bm_cons (h1 : PSm X G W st m) (h2 : PBm X G W rest k) : PBm X G W (st :: rest) (mSeq m k) :=
  pss_imp (pss_cons h1 h2) fun D σ H ⟨ρ, h, p, rh, rs, w⟩ => ⟨ρ, h, p, rh, rs, w.seq⟩
theorem sm_pass : PSm X G W (.Pass pos) mNext := ps_imp ps_pass fun D σ H ⟨ρ, h, p, rh, rs, w⟩ => w.now rh rs
theorem sm_break : PSm X G W (.Break pos) mBreak := ps_imp ps_break fun D σ H ⟨ρ, h, p, rh, rs, w⟩ => w ρ H σ rh .refl rs
theorem sm_continue : PSm X G W (.Continue pos) mCont := ps_imp ps_continue fun D σ H ⟨ρ, h, p, rh, rs, w⟩ => w ρ H σ rh .refl rs
theorem sm_expr (ha : PEm X G W ea a) (hs : swapsWith ea none pos.line X.env = pure false := by rfl) : PSm X G W (.Expr ea pos) (mDrop a) := by
  refine ps_imp (ps_expr ha hs) fun D σ H ⟨ρ, h, p, rh, rs, w⟩ => ?_
  exact ⟨ρ, h, p, rh, rs, w.expr rh rs fun x h1 ρ1 H1 v _ rh1 t1 q1 w1 => w1.now rh1 (rs.mono rh.mut t1)⟩
theorem sm_ret (ha : PEm X G W ea a) : PSm X G W (.Return (some ea) pos) (mRet a) := by
  refine ps_imp (ps_ret ha) fun D σ H ⟨ρ, h, p, rh, rs, w⟩ => ?_
  exact ⟨ρ, h, p, rh, rs, w.expr rh rs fun x h1 ρ1 H1 v _ rh1 t1 q1 w1 => w1 ρ1 H1 v rh1 .refl q1⟩
theorem sm_retN : PSm X G W (.Return none pos) mRetN := ps_imp ps_retN fun D σ H ⟨ρ, h, p, rh, rs, w⟩ => w ρ H .non rh .refl rfl
theorem sm_if {c : Expr} {t : ET} {sa sb : List Stmt} {ma mb : SM} (hc : PTm X G W c t) (ha : PBm X G W sa ma) (hb : PBm X G W sb mb) : PSm X G W (.If c sa sb pos) (mIfS t ma mb) := by
  refine ps_imp (ps_if hc ha hb) fun D σ H ⟨ρ, h, p, rh, rs, w⟩ => ?_
  refine ⟨ρ, h, p, rh, rs, w.expr rh rs fun x h1 ρ1 H1 v _ rh1 t1 q1 w1 => ?_⟩
  subst q1
  cases x with
  | true => exact ⟨ρ1, h1, p, rh1, rs.mono rh.mut t1, w1⟩
  | false => exact ⟨ρ1, h1, p, rh1, rs.mono rh.mut t1, w1⟩
end

/-! ### targets -/
abbrev TM := PV → Sl → List MO → Res Sl
abbrev TMs := List PV → Sl → List MO → Res Sl
section
variable (K : PySem.W.Frag) (G : Nat → Option Addr)
/-- only the slots in is are set -/
def OnlyAt (is : List Nat) (σ σ' : St) : Prop := σ'.length = σ.length ∧ ∀ j, j ∉ is → σ'[j]? = σ[j]?
def WpG (is : List Nat) (σ : St) (ρ : Wd) (H : Hp) (Q : St → Hp → Prop) (r : Res Sl) : Prop := match r with
  | .ok p' h' => ∀ ρ' H' σ', RH K G ρ' H' h' → Tr ρ H ρ' H' → RelS K G ρ' H' p' σ' → OnlyAt is σ σ' → Q σ' H'
  | _ => False
def rdG (is : List Nat) (m : TM) : TG := fun v σ H Q => ∃ ρ h p x, RH K G ρ H h ∧ RelS K G ρ H p σ ∧ Rel K G ρ H x v ∧ WpG K G is σ ρ H Q (m x p h)
def rdGs (is : List Nat) (m : TMs) : TGs := fun v σ H Q => ∃ ρ h p x, RH K G ρ H h ∧ RelS K G ρ H p σ ∧ Rels K G ρ H x v ∧ WpG K G is σ ρ H Q (m x p h)
end
theorem OnlyAt.refl {is : List Nat} {σ : St} : OnlyAt is σ σ := ⟨rfl, fun _ _ => rfl⟩
theorem OnlyAt.trans {is js : List Nat} {σ τ υ : St} (a : OnlyAt is σ τ) (b : OnlyAt js τ υ) : OnlyAt (is ++ js) σ υ :=
  ⟨b.1.trans a.1, fun j hj => (b.2 j fun z => hj (List.mem_append_right _ z)).trans (a.2 j fun z => hj (List.mem_append_left _ z))⟩
theorem OnlyAt.set {i : Nat} {σ : St} {v : Option V} : OnlyAt [i] σ (σ.set i v) := ⟨List.length_set, fun j hj => List.getElem?_set_ne (fun z => hj (by rw [z]; exact List.mem_singleton.mpr rfl))⟩
section
variable {K : PySem.W.Frag} {G : Nat → Option Addr} {σ : St} {ρ : Wd} {H : Hp}
theorem RelS.set {p : Sl} {i : Nat} {x : PV} {v : V} (rs : RelS K G ρ H p σ) (q : Rel K G ρ H x v) : RelS K G ρ H (p.set i (some x)) (σ.set i (some v)) := by
  refine ⟨by rw [List.length_set, List.length_set]; exact rs.1, fun j y e => ?_⟩
  by_cases hj : j = i
  · subst hj
    have hl : j < p.length := by have := (List.getElem?_eq_some_iff.mp e).1; rw [List.length_set] at this; exact this
    rw [List.getElem?_set_self hl] at e
    cases e
    exact ⟨v, List.getElem?_set_self (by rw [← rs.1]; exact hl), q⟩
  · rw [List.getElem?_set_ne (Ne.symm hj)] at e
    rw [List.getElem?_set_ne (Ne.symm hj)]
    exact rs.2 j y e
theorem RelS.unset {p : Sl} {i : Nat} (rs : RelS K G ρ H p σ) : RelS K G ρ H (p.set i none) (σ.set i none) := by
  refine ⟨by rw [List.length_set, List.length_set]; exact rs.1, fun j y e => ?_⟩
  by_cases hj : j = i
  · subst hj
    have hl : j < p.length := by have := (List.getElem?_eq_some_iff.mp e).1; rw [List.length_set] at this; exact this
    rw [List.getElem?_set_self hl] at e
    cases e
  · rw [List.getElem?_set_ne (Ne.symm hj)] at e
    rw [List.getElem?_set_ne (Ne.symm hj)]
    exact rs.2 j y e
end
def mName (i : Nat) : TM := fun x s h => .ok (s.set i (some x)) h
def mGNil : TMs := fun xs s h => match xs with
  | [] => .ok s h
  | _ => .stuck
def mGCons (a : TM) (r : TMs) : TMs := fun xs s h => match xs with
  | x :: xs => (a x s h).bind fun s1 h1 => r xs s1 h1
  | [] => .stuck
def mUnp (n : Nat) (r : TMs) : TM := fun x s h => match x with
  | .tup xs => if xs.length = n then r xs s h else .stuck
  | x => match lstRd x h with
    | some xs => if xs.length = n then r xs s h else .stuck
    | none => .stuck
section
variable {X : Cx} {G : Nat → Option Addr} {W : WX} {et : Expr} {ets : List Expr} {t : TM} {u : TMs} {is js : List Nat} {pos : Pos}
abbrev PGm (X : Cx) (G : Nat → Option Addr) (is : List Nat) (e : Expr) (m : TM) : Prop := PG X e (rdG X.K G is m)
abbrev PGsm (X : Cx) (G : Nat → Option Addr) (is : List Nat) (e : List Expr) (m : TMs) : Prop := PGs X e (rdGs X.K G is m)
theorem WpG.ite {K : PySem.W.Frag} {σ : St} {ρ : Wd} {H : Hp} {Q : St → Hp → Prop} {c : Prop} [Decidable c] {r : Res Sl} (w : WpG K G is σ ρ H Q (if c then r else .stuck)) : c ∧ WpG K G is σ ρ H Q r := by
  by_cases z : c
  · rw [if_pos z] at w; exact ⟨z, w⟩
  · rw [if_neg z] at w; exact w.elim
theorem gm_name {i : Nat} {x : Str} (hN : X.N.Nodup) (hi : X.N[i]? = some x) (hx : Loc X.env.scope x := by first | exact Or.inl rfl | exact Or.inr rfl) (hf : X.fn x = true ∨ X.env.scope.names.lookup x = some .local := by first | exact .inl rfl | exact .inr rfl) : PGm X G [i] (.Name x pos) (mName i) :=
  pg_imp (pg_name hN hi hx hf) fun v σ H Q ⟨ρ, h, p, x, rh, rs, rx, w⟩ => w ρ H _ rh .refl (rs.set rx) .set
theorem gms_nil : PGsm X G [] [] mGNil := by
  refine pgs_imp pgs_nil fun v σ H Q ⟨ρ, h, p, x, rh, rs, rx, w⟩ => ?_
  cases x with
  | nil => exact ⟨rx, w ρ H _ rh .refl rs .refl⟩
  | cons _ _ => exact w.elim
theorem gms_cons (ha : PGm X G is et t) (hr : PGsm X G js ets u) (hs : (assignEach (et :: ets) X.env).map (·.2) = assign et X.env :: (assignEach ets X.env).map (·.2) := by rfl) : PGsm X G (is ++ js) (et :: ets) (mGCons t u) := by
  refine pgs_imp (pgs_cons ha hr hs) fun v σ H Q ⟨ρ, h, p, x, rh, rs, rx, w⟩ => ?_
  cases x with
  | nil => exact w.elim
  | cons x xs =>
    obtain ⟨v1, vs, rfl, r1, r2⟩ := rx
    refine ⟨v1, vs, rfl, ρ, h, p, x, rh, rs, r1, ?_⟩
    unfold mGCons at w
    dsimp only at w
    cases e : t x p h with
    | ok s1 h1 =>
      rw [e] at w
      intro ρ1 H1 σ1 rh1 t1 rs1 o1
      refine ⟨ρ1, h1, s1, xs, rh1, rs1, r2.mono rh.mut t1, ?_⟩
      have w' : WpG X.K G (is ++ js) σ ρ H Q (u xs s1 h1) := w
      cases e2 : u xs s1 h1 with
      | ok s2 h2 =>
        rw [e2] at w'
        exact fun ρ2 H2 σ2 rh2 t2 rs2 o2 => w' ρ2 H2 σ2 rh2 (t1.trans t2) rs2 (o1.trans o2)
      | exc _ _ => rw [e2] at w'; exact w'.elim
      | stuck => rw [e2] at w'; exact w'.elim
    | exc _ _ => rw [e] at w; exact w.elim
    | stuck => rw [e] at w; exact w.elim
theorem pg_or {e : Expr} {t t' : TG} (a : PG X e t) (b : PG X e t') : PG X e (fun v σ H Q => t v σ H Q ∨ t' v σ H Q) := ⟨fun pins s σ H v u Q I r w => w.elim (a.run pins s σ H v u Q I r) (b.run pins s σ H v u Q I r)⟩
theorem gm_unp {k n : Nat} (hc : X.calm = true) (hr : PGsm X G is ets u) (hn : (assignEach ets X.env).length = n := by rfl) (hst : (assignEach ets X.env).findIdx? (·.1) = none := by rfl) : PGm X G is (.Tuple ets k pos) (mUnp n u) := by
  refine pg_imp (pg_or (pg_tup hc hr hn hst) (pg_lst hc hr hn hst)) fun v σ H Q ⟨ρ, h, p, x, rh, rs, rx, w⟩ => ?_
  unfold mUnp at w
  have lst : ∀ xs, lstRd x h = some xs → WpG X.K G is σ ρ H Q (if xs.length = n then u xs p h else .stuck) → gLst X.K n (rdGs X.K G is u) v σ H Q := fun xs e w => by
    obtain ⟨a, vs, rfl, s, q⟩ := lstRd_ok rh rx e
    obtain ⟨z, w⟩ := w.ite
    exact ⟨a, vs, rfl, s, by rw [← q.length]; exact z, ρ, h, p, xs, rh, rs, q, w⟩
  cases x with
  | tup xs =>
    obtain ⟨a, vs, rfl, s, q⟩ := rx
    obtain ⟨z, w⟩ := WpG.ite w
    exact .inl ⟨a, vs, rfl, s.sq, by rw [← q.length]; exact z, ρ, h, p, xs, rh, rs, q, w⟩
  | lst xs => exact .inr (lst xs rfl w)
  | frz xs => exact .inr (lst xs rfl w)
  | ref j =>
    dsimp only at w
    cases e : lstRd (.ref j) h with
    | none => rw [e] at w; exact w.elim
    | some xs => rw [e] at w; exact .inr (lst xs e w)
  | _ => exact w.elim
/-! ### stores -/
def mAsg (a : E) (t : TM) : SM := fun s h => xs (a s h) s fun x h1 => match t x s h1 with
  | .ok s' h' => .nx s' h'
  | _ => .stuck
theorem WpS.target {K : PySem.W.Frag} {D : Ends} {σ : St} {ρ : Wd} {H : Hp} {r : Res Sl} (w : WpS K G W D ρ H (match r with
  | .ok s' h' => .nx s' h'
  | _ => .stuck)) : WpG K G is σ ρ H D.nx r := by
  cases r with
  | ok s' h' => exact fun ρ1 H1 σ1 rh1 t1 rs1 _ => w ρ1 H1 σ1 rh1 t1 rs1
  | exc _ _ => exact w.elim
  | stuck => exact w.elim
variable {ea : Expr} {a : E}
theorem sm_set {i : Nat} {x : Str} {pos' : Pos} (hN : X.N.Nodup) (hi : X.N[i]? = some x) (ha : PEm X G W ea a) (hx : Loc X.env.scope x := by first | exact Or.inl rfl | exact Or.inr rfl) (hs : swapsWith ea (some (.Name x pos')) pos.line X.env = pure false := by rfl) (hf : X.fn x = true ∨ X.env.scope.names.lookup x = some .local := by first | exact .inl rfl | exact .inr rfl) :
    PSm X G W (.Assign [.Name x pos'] ea pos) (mAsg a (mName i)) := by
  refine ps_imp (ps_set hN hi hx ha hs hf) fun D σ H ⟨ρ, h, p, rh, rs, w⟩ => ?_
  exact ⟨ρ, h, p, rh, rs, w.expr rh rs fun x h1 ρ1 H1 v _ rh1 t1 q1 w1 => w1 ρ1 H1 _ rh1 .refl ((rs.mono rh.mut t1).set q1)⟩
theorem sm_asg (ha : PEm X G W ea a) (hg : PGm X G is et t) (hs : swapsWithSole [et] ea pos.line X.env = pure false := by rfl) (hw : swappedStores [et] ea X.env = pure none := by rfl)
    (h1 : (assignEach [et] X.env).map (·.2) = [assign et X.env] := by rfl) : PSm X G W (.Assign [et] ea pos) (mAsg a t) := by
  refine ps_imp (ps_asg ha hg hs hw h1) fun D σ H ⟨ρ, h, p, rh, rs, w⟩ => ?_
  exact ⟨ρ, h, p, rh, rs, w.expr rh rs fun x h1 ρ1 H1 v _ rh1 t1 q1 w1 => ⟨ρ1, h1, p, x, rh1, rs.mono rh.mut t1, q1, WpS.target w1⟩⟩
def mPar (i j : Nat) (as : EA) : SM := fun s h => xs (as s h) s fun vs h1 => match vs with
  | [x, y] => .nx ((s.set i (some x)).set j (some y)) h1
  | _ => .stuck
theorem sm_par {i j : Nat} {x y : Str} {ea eb : Expr} {as : EA} {px py pt : Pos} {kt k2 pt2} (hc : X.calm = true) (hN : X.N.Nodup) (hi : X.N[i]? = some x) (hj : X.N[j]? = some y) (ha : PAm X G W [ea, eb] as) (hij : i ≠ j := by decide)
    (hx : X.env.scope.names.lookup x = some .local := by rfl) (hy : X.env.scope.names.lookup y = some .local := by rfl)
    (hw : swappedStores [.Tuple [.Name x px, .Name y py] kt pt] (.Tuple [ea, eb] k2 pt2) X.env = pure (some [x, y]) := by rfl)
    (hs : swapsWithSole [.Tuple [.Name x px, .Name y py] kt pt] (.Tuple [ea, eb] k2 pt2) pos.line X.env = pure false := by rfl) :
    PSm X G W (.Assign [.Tuple [.Name x px, .Name y py] kt pt] (.Tuple [ea, eb] k2 pt2) pos) (mPar i j as) := by
  refine ps_imp (ps_par hc hN hi hj hij hx hy ha hw hs) fun D σ H ⟨ρ, h, p, rh, rs, w⟩ => ?_
  refine ⟨ρ, h, p, rh, rs, w.expr rh rs fun vs h1 ρ1 H1 ws _ rh1 t1 q1 w1 => ?_⟩
  match vs, q1, w1 with
  | [a, b], q1, w1 =>
    obtain ⟨va, _, rfl, ra, vb, _, rfl, rb, rfl⟩ := q1
    exact ⟨va, vb, rfl, w1 ρ1 H1 _ rh1 .refl (((rs.mono rh.mut t1).set ra).set rb)⟩
  | [], _, w1 => exact w1.elim
  | [_], _, w1 => exact w1.elim
  | _ :: _ :: _ :: _, _, w1 => exact w1.elim
end
end Mir

set_option Elab.async false
set_option linter.all false
set_option maxRecDepth 100000
namespace Mir
open PySem L2

/-! ### the same value, by looking -/
mutual
def PV.same : PV → PV → Bool
  | .non, .non => true
  | .bl a, .bl b => a == b
  | .int a, .int b => a == b
  | .str a, .str b => a == b
  | .tup xs, .tup ys => PV.sames xs ys
  | .lst xs, .lst ys => PV.sames xs ys
  | .frz xs, .frz ys => PV.sames xs ys
  | .ref i, .ref j => i == j
  | .gl i, .gl j => i == j
  | .ty a, .ty b => a == b
  | _, _ => false
def PV.sames : List PV → List PV → Bool
  | [], [] => true
  | x :: xs, y :: ys => PV.same x y && PV.sames xs ys
  | _, _ => false
end
mutual
theorem PV.same_refl : ∀ x : PV, PV.same x x = true
  | .non => rfl
  | .bl b => by simp [PV.same]
  | .int b => by simp [PV.same]
  | .str b => by simp [PV.same]
  | .tup xs => by simp [PV.same, PV.sames_refl xs]
  | .lst xs => by simp [PV.same, PV.sames_refl xs]
  | .frz xs => by simp [PV.same, PV.sames_refl xs]
  | .ref b => by simp [PV.same]
  | .gl b => by simp [PV.same]
  | .ty b => by simp [PV.same]
theorem PV.sames_refl : ∀ xs : List PV, PV.sames xs xs = true
  | [] => rfl
  | x :: xs => by simp [PV.sames, PV.same_refl x, PV.sames_refl xs]
end
mutual
theorem PV.same_eq : ∀ {x y : PV}, PV.same x y = true → x = y
  | .non, y, h => by cases y <;> simp_all [PV.same]
  | .bl b, y, h => by cases y <;> simp_all [PV.same]
  | .int b, y, h => by cases y <;> simp_all [PV.same]
  | .str b, y, h => by cases y <;> simp_all [PV.same]
  | .tup xs, y, h => by
    cases y with
    | tup ys => rw [PV.sames_eq (xs := xs) (ys := ys) (by simpa [PV.same] using h)]
    | _ => simp [PV.same] at h
  | .lst xs, y, h => by
    cases y with
    | lst ys => rw [PV.sames_eq (xs := xs) (ys := ys) (by simpa [PV.same] using h)]
    | _ => simp [PV.same] at h
  | .frz xs, y, h => by
    cases y with
    | frz ys => rw [PV.sames_eq (xs := xs) (ys := ys) (by simpa [PV.same] using h)]
    | _ => simp [PV.same] at h
  | .ref b, y, h => by cases y <;> simp_all [PV.same]
  | .gl b, y, h => by cases y <;> simp_all [PV.same]
  | .ty b, y, h => by cases y <;> simp_all [PV.same]
theorem PV.sames_eq : ∀ {xs ys : List PV}, PV.sames xs ys = true → xs = ys
  | [], ys, h => by cases ys <;> simp_all [PV.sames]
  | x :: xs, ys, h => by
    cases ys with
    | nil => simp [PV.sames] at h
    | cons y ys =>
      rw [PV.sames, Bool.and_eq_true] at h
      rw [PV.same_eq h.1, PV.sames_eq h.2]
end

/-! ### what is walked -/
abbrev Its_ := List PV × List (Nat × List PV)
abbrev EI := Sl → M Its_
section
variable (K : PySem.W.Frag) (G : Nat → Option Addr)
def Grd (gs : List (Nat × List PV)) (h : List MO) : Prop := ∀ p ∈ gs, h[p.1]? = some (.lst p.2)
def JOk (ρ0 : Wd) (H0 : Hp) (it : Its_) (J : It) : Prop :=
  ∀ ρ H h, RH K G ρ H h → TrW ρ0 H0 ρ H → Grd it.2 h →
    (∀ i, i < it.1.length → J.go i H ∧ ∀ x H', J.yld i H x H' → ∃ pv, it.1[i]? = some pv ∧ Rel K G ρ H' pv x ∧ RH K G ρ H' h ∧ Tr ρ H ρ H') ∧ ∀ i, it.1.length ≤ i → J.stop i H
def rdI (W : WX) (m : EI) : TI := fun σ H R => ∃ ρ h p, RH K G ρ H h ∧ RelS K G ρ H p σ ∧ Wp K G W σ ρ H (JOk K G) R (m p h)
end
def grdOk (gs : List (Nat × List PV)) (h : List MO) : Bool := gs.all fun p => match h[p.1]? with
  | some (.lst ys) => PV.sames ys p.2
  | _ => false
theorem grd_of {gs : List (Nat × List PV)} {h : List MO} (e : grdOk gs h = true) : Grd gs h := by
  intro p hp
  have e1 := List.all_eq_true.mp e p hp
  split at e1
  · rename_i ys e2
    rw [e2, PV.sames_eq e1]
  · cases e1
theorem grdOk_nil {h : List MO} : grdOk [] h = true := rfl
/-- a list, a tuple, a text -/
def itemsOf (x : PV) (h : List MO) : Option Its_ := match x with
  | .tup xs => some (xs, [])
  | .lst xs => some (xs, [])
  | .frz xs => some (xs, [])
  | .ref i => match h[i]? with
    | some (.lst xs) => some (xs, [(i, xs)])
    | _ => none
  | _ => none
def pItems : PV → M Its_ := fun x h => match itemsOf x h with
  | some r => .ok r h
  | none => .stuck
def mIter (a : E) : EI := fun s h => (a s h).bind pItems
def pStr : PV → M Its_ := fun x h => match x with
  | .str z => .ok (z.cps.toList.map (fun c => PV.str ⟨#[c]⟩), []) h
  | _ => .stuck
def mIterS (a : E) : EI := fun s h => (a s h).bind pStr
def rangeP (lo : Int) (n : Nat) : List PV := (List.range n).map fun (k : Nat) => PV.int (lo + (k : Int))
def pRng1 : List PV → M Its_ := fun xs h => match xs with
  | [.int j] => if -(2 ^ 62) ≤ j ∧ j < 2 ^ 62 then .ok (rangeP 0 j.toNat, []) h else .stuck
  | _ => .stuck
def pRng2 : List PV → M Its_ := fun xs h => match xs with
  | [.int i, .int j] => if -(2 ^ 62) ≤ i ∧ i < 2 ^ 62 ∧ -(2 ^ 62) ≤ j ∧ j < 2 ^ 62 then .ok (rangeP i (j - i).toNat, []) h else .stuck
  | _ => .stuck
def mRng1 (as : EA) : EI := fun s h => (as s h).bind pRng1
def mRng2 (as : EA) : EI := fun s h => (as s h).bind pRng2
section
variable {K : PySem.W.Frag} {G : Nat → Option Addr} {W : WX} {σ : St} {ρ : Wd} {H : Hp} {h : List MO}
theorem Wp.valI {it : Its_} {J : It} {R : It → Hp → Prop} (rh : RH K G ρ H h) (w : Wp K G W σ ρ H (JOk K G) R (.ok it h)) (q : JOk K G ρ H it J) : R J H := w ρ H J rh .refl q
/-- an iterator over what stands in a list, by any items -/
theorem j_list {a : Addr} {vs : List V} {it : Its_} (m : ∀ a, ρ.Has a → Mut (H a)) (q : ∀ ρ' H' h', RH K G ρ' H' h' → TrW ρ H ρ' H' → Grd it.2 h' → ∃ vs, SqL K H' a vs ∧ Rels K G ρ' H' it.1 vs) : JOk K G ρ H it (Itl K a) := by
  intro ρ' H' h' rh t g
  obtain ⟨vs, s, r⟩ := q ρ' H' h' rh t g
  refine ⟨fun i hi => ?_, fun i hi => ⟨vs, s, by rw [← r.length]; exact hi⟩⟩
  have hv : i < vs.length := by rw [← r.length]; exact hi
  refine ⟨⟨vs, vs[i], s, List.getElem?_eq_getElem hv⟩, fun x H2 y => ?_⟩
  obtain ⟨rfl, y⟩ := y
  obtain ⟨pv, e, rx⟩ := r.get' (y vs s)
  exact ⟨pv, e, rx, rh, .refl⟩
theorem j_tup {a : Addr} {it : Its_} (q : ∀ ρ' H' h', RH K G ρ' H' h' → TrW ρ H ρ' H' → ∃ vs, SqT K H' a vs ∧ Rels K G ρ' H' it.1 vs) : JOk K G ρ H it (Itt K a) := by
  intro ρ' H' h' rh t g
  obtain ⟨vs, s, r⟩ := q ρ' H' h' rh t
  refine ⟨fun i hi => ?_, fun i hi => ⟨vs, s, by rw [← r.length]; exact hi⟩⟩
  have hv : i < vs.length := by rw [← r.length]; exact hi
  refine ⟨⟨vs, vs[i], s, List.getElem?_eq_getElem hv⟩, fun x H2 y => ?_⟩
  obtain ⟨rfl, y⟩ := y
  obtain ⟨pv, e, rx⟩ := r.get' (y vs s)
  exact ⟨pv, e, rx, rh, .refl⟩
/-- what stands at a later time -/
theorem later_tup {xs : List PV} {v : V} {ρ' : Wd} {H' : Hp} (rh : RH K G ρ H h) (r : Rel K G ρ H (.tup xs) v) (t : TrW ρ H ρ' H') : ∀ a, v = .ref a → ∃ vs, SqT K H' a vs ∧ Rels K G ρ' H' xs vs := by
  intro a e
  obtain ⟨b, vs, e2, s, q⟩ := r.monoW rh.mut t
  rw [e] at e2; cases e2
  exact ⟨vs, s.sq, q⟩
theorem later_lst {x : PV} {it : Its_} {v : V} {ρ' : Wd} {H' : Hp} {h' : List MO} (rh : RH K G ρ H h) (e : itemsOf x h = some it) (nt : ∀ xs, x ≠ .tup xs) (r : Rel K G ρ H x v) (rh' : RH K G ρ' H' h') (t : TrW ρ H ρ' H') (g : Grd it.2 h') : ∀ a, v = .ref a → ∃ vs, SqL K H' a vs ∧ Rels K G ρ' H' it.1 vs := by
  intro a ea
  have r' := r.monoW rh.mut t
  cases x with
  | tup xs => exact absurd rfl (nt xs)
  | lst xs =>
    cases (show some (xs, []) = some it from e)
    obtain ⟨b, vs, e2, s, q⟩ := lstRd_ok rh' r' (xs := xs) rfl
    rw [ea] at e2; cases e2; exact ⟨vs, s, q⟩
  | frz xs =>
    cases (show some (xs, []) = some it from e)
    obtain ⟨b, vs, e2, s, q⟩ := lstRd_ok rh' r' (xs := xs) rfl
    rw [ea] at e2; cases e2; exact ⟨vs, s, q⟩
  | ref i =>
    unfold itemsOf at e
    dsimp only at e
    split at e
    · rename_i ys e2
      cases e
      obtain ⟨b, vs, e3, s, q⟩ := lstRd_ok rh' r' (xs := ys) (by unfold lstRd lstOf; dsimp only; rw [g _ (List.mem_singleton.mpr rfl)])
      rw [ea] at e3; cases e3; exact ⟨vs, s, q⟩
    · cases e
  | _ => cases e
theorem grd_items {x : PV} {it : Its_} (e : itemsOf x h = some it) : Grd it.2 h := by
  unfold itemsOf at e
  split at e
  · cases e; exact fun _ z => nomatch z
  · cases e; exact fun _ z => nomatch z
  · cases e; exact fun _ z => nomatch z
  · split at e
    · rename_i e2; cases e; intro p hp; rw [List.mem_singleton.mp hp]; exact e2
    · cases e
  · cases e
theorem ref_of_items {x : PV} {it : Its_} {v : V} (e : itemsOf x h = some it) (r : Rel K G ρ H x v) : ∃ a, v = .ref a := by
  cases x with
  | tup xs => obtain ⟨a, _, e, _⟩ := r; exact ⟨a, e⟩
  | lst xs => obtain ⟨a, _, e, _⟩ := r; exact ⟨a, e⟩
  | frz xs => obtain ⟨a, _, e, _⟩ := r; exact ⟨a, e⟩
  | ref i => obtain ⟨a, e, _⟩ := r; exact ⟨a, e⟩
  | _ => cases e
end
theorem pi_or {X : Cx} {tg it : Expr} {w w' : TI} (a : PI X tg it w) (b : PI X tg it w') : PI X tg it (fun σ H R => w σ H R ∨ w' σ H R) := ⟨fun pins s σ H R I h => h.elim (a.run pins s σ H R I) (b.run pins s σ H R I)⟩
section
variable {X : Cx} {G : Nat → Option Addr} {W : WX} {tg ei : Expr} {a : E} {pos p0 : Pos}
abbrev PIm (X : Cx) (G : Nat → Option Addr) (W : WX) (tg e : Expr) (m : EI) : Prop := PI X tg e (rdI X.K G W m)
theorem im_iter (ha : PEm X G W ei a) : PIm X G W tg ei (mIter a) := by
  refine pi_imp (pi_or (pi_list ha) (pi_tup ha)) fun σ H R ⟨ρ, h, p, rh, rs, w⟩ => ?_
  by_cases ht : ∃ xs h1, a p h = .ok (.tup xs) h1
  · obtain ⟨xs, h1, et⟩ := ht
    refine .inr ⟨ρ, h, p, rh, rs, w.bind fun x h1 ρ1 H1 v ea rh1 t1 q1 w1 => ?_⟩
    rw [et] at ea
    cases ea
    obtain ⟨b, vs, rfl, s, q⟩ := id q1
    refine ⟨b, rfl, ⟨vs, s.sq⟩, Wp.valI rh1 (show Wp X.K G W σ ρ1 H1 (JOk X.K G) R (.ok (xs, []) h1) from w1) (j_tup fun ρ' H' h' rh' t => later_tup rh1 q1 t b rfl)⟩
  · refine .inl ⟨ρ, h, p, rh, rs, w.bind fun x h1 ρ1 H1 v ea rh1 t1 q1 w1 => ?_⟩
    unfold pItems at w1
    split at w1
    · rename_i r e
      obtain ⟨b, rfl⟩ := ref_of_items e q1
      have nt : ∀ xs, x ≠ .tup xs := fun xs z => ht ⟨xs, h1, by rw [ea, z]⟩
      have g0 : Grd r.2 h1 := grd_items e
      obtain ⟨vs, s, _⟩ := later_lst rh1 e nt q1 rh1 .refl g0 b rfl
      exact ⟨b, rfl, ⟨vs, s⟩, Wp.valI rh1 w1 (j_list (vs := vs) rh1.mut fun ρ' H' h' rh' t g => later_lst rh1 e nt q1 rh' t g b rfl)⟩
    · exact w1.elim
theorem j_rng {K : PySem.W.Frag} {ρ : Wd} {H : Hp} {lo : Int} {n : Nat} : JOk K G ρ H (rangeP lo n, []) (Itr lo n) := by
  intro ρ' H' h' rh t g
  have len : (rangeP lo n).length = n := by unfold rangeP; rw [List.length_map, List.length_range]
  refine ⟨fun i hi => ⟨by rw [← len]; exact hi, fun x H2 y => ?_⟩, fun i hi => by rw [← len]; exact hi⟩
  obtain ⟨rfl, rfl⟩ := y
  have hi' : i < n := by rw [← len]; exact hi
  refine ⟨.int (lo + (i : Int)), ?_, rfl, rh, .refl⟩
  unfold rangeP
  rw [List.getElem?_map, List.getElem?_range hi']
  rfl
theorem im_rng1 {e : Expr} {as : EA} (hm : X.mg "range" = none) (ha : PAm X G W [e] as) (hg : Gl X "range" := by rfl) (hs : starEach [e] X.env = [(false, eval e X.env)] := by rfl) : PIm X G W tg (.Call (.Name "range" p0) [e] [] pos) (mRng1 as) := by
  refine pi_imp (pi_range1 hg hm ha hs) fun σ H R ⟨ρ, h, p, rh, rs, w⟩ => ?_
  refine ⟨ρ, h, p, rh, rs, w.bind fun xs h1 ρ1 H1 vs _ rh1 t1 q1 w1 => ?_⟩
  unfold pRng1 at w1
  split at w1
  · obtain ⟨⟨z1, z2⟩, w1⟩ := w1.ite
    obtain ⟨_, _, rfl, rfl, rfl⟩ := q1
    exact ⟨_, rfl, z1, z2, Wp.valI rh1 w1 j_rng⟩
  · exact w1.elim
theorem im_rng2 {e e2 : Expr} {as : EA} (hm : X.mg "range" = none) (ha : PAm X G W [e, e2] as) (hg : Gl X "range" := by rfl) (hs : starEach [e, e2] X.env = [(false, eval e X.env), (false, eval e2 X.env)] := by rfl) (hs2 : starEach [e2] X.env = [(false, eval e2 X.env)] := by rfl) : PIm X G W tg (.Call (.Name "range" p0) [e, e2] [] pos) (mRng2 as) := by
  refine pi_imp (pi_range2 hg hm ha hs hs2) fun σ H R ⟨ρ, h, p, rh, rs, w⟩ => ?_
  refine ⟨ρ, h, p, rh, rs, w.bind fun xs h1 ρ1 H1 vs _ rh1 t1 q1 w1 => ?_⟩
  unfold pRng2 at w1
  split at w1
  · obtain ⟨⟨z1, z2, z3, z4⟩, w1⟩ := w1.ite
    obtain ⟨_, _, rfl, rfl, _, _, rfl, rfl, rfl⟩ := q1
    exact ⟨_, _, rfl, ⟨z1, z2, z3, z4⟩, Wp.valI rh1 w1 j_rng⟩
  · exact w1.elim
theorem im_str (ha : PEm X G W ei a) (hi : ∀ {te : TE}, PE X ei te → PI X tg ei (iStr te) := by intro te h; exact pi_str h) : PIm X G W tg ei (mIterS a) := by
  refine pi_imp (hi ha) fun σ H R ⟨ρ, h, p, rh, rs, w⟩ => ?_
  refine ⟨ρ, h, p, rh, rs, w.bind fun x h1 ρ1 H1 v _ rh1 t1 q1 w1 => ?_⟩
  cases x with
  | str z =>
    refine ⟨z, q1, Wp.valI rh1 (show Wp X.K G W σ ρ1 H1 (JOk X.K G) R (.ok (z.cps.toList.map (fun c => PV.str ⟨#[c]⟩), []) h1) from w1) ?_⟩
    intro ρ' H' h' rh' t g
    have len : (z.cps.toList.map (fun c => PV.str ⟨#[c]⟩)).length = z.cps.size := by rw [List.length_map, Array.length_toList]
    refine ⟨fun i hi => ⟨show i < z.cps.size by rw [← len]; exact hi, fun x H2 y => ?_⟩, fun i hi => show z.cps.size ≤ i by rw [← len]; exact hi⟩
    obtain ⟨rfl, c, ec, rfl⟩ := y
    refine ⟨.str ⟨#[c]⟩, ?_, rfl, rh', .refl⟩
    rw [List.getElem?_map, Array.getElem?_toList, ec]
    rfl
  | _ => exact w1.elim
end

/-! ### for -/
def forL (g : TM) (b : SM) (it : Its_) : List PV → SM
  | [] => fun s h => if grdOk it.2 h = true then .nx s h else .stuck
  | x :: r => fun s h => if grdOk it.2 h = true then (match g x s h with
    | .ok s1 h1 => match b s1 h1 with
      | .nx s2 h2 => forL g b it r s2 h2
      | .ct s2 h2 => forL g b it r s2 h2
      | .bk s2 h2 => .nx s2 h2
      | .rt v h2 => .rt v h2
      | .exc e s2 h2 => .exc e s2 h2
      | .stuck => .stuck
    | _ => .stuck) else .stuck
def mFor (it : EI) (g : TM) (b : SM) : SM := fun s h => xs (it s h) s fun r h1 => forL g b r r.1 s h1
theorem WpS.ite {K : PySem.W.Frag} {G : Nat → Option Addr} {W : WX} {D : Ends} {ρ : Wd} {H : Hp} {c : Prop} [Decidable c] {r : SR} (w : WpS K G W D ρ H (if c then r else .stuck)) : c ∧ WpS K G W D ρ H r := by
  by_cases z : c
  · rw [if_pos z] at w; exact ⟨z, w⟩
  · rw [if_neg z] at w; exact w.elim
section
variable {X : Cx} {G : Nat → Option Addr} {W : WX} {tg ei : Expr} {pos : Pos} {body : List Stmt} {it : EI} {g : TM} {b : SM} {is : List Nat}
theorem sm_for (hp : PassesOwn (model X.prog X.w) X.A X.env X.xe) (hc : X.calm = true) (hi : PIm X G W tg ei it) (hg : PGm X G is tg g) (hb : PBm X G W body b) (hs : ∀ x, foldedSetIterable ei X.env x = pure x := by intro _; rfl) :
    PSm X G W (.For tg ei body [] pos) (mFor it g b) := by
  refine ps_imp (ps_for hp hc hi hg hb hs) fun D σ H ⟨ρ, h, p, rh, rs, w⟩ => ?_
  refine ⟨ρ, h, p, rh, rs, w.expr (R := JOk X.K G) rh rs fun r h1 ρ1 H1 J _ rh1 t1 jok w1 => ?_⟩
  have rs1 := rs.mono rh.mut t1
  let N : Nat → St → Hp → Prop := fun i σ' H' => ∃ ρ' h' p', RH X.K G ρ' H' h' ∧ RelS X.K G ρ' H' p' σ' ∧ Tr ρ1 H1 ρ' H' ∧ WpS X.K G W D ρ' H' (forL g b r (r.1.drop i) p' h')
  refine ⟨fun i m σ' H' => m = r.1.length - i ∧ i ≤ r.1.length ∧ N i σ' H', ⟨r.1.length, rfl, Nat.zero_le _, ρ1, h1, p, rh1, rs1, .refl, w1⟩, ?_⟩
  rintro i m σ' H' ⟨rfl, hi, ρ', h', p', rh', rs', t', w'⟩
  by_cases hl : i < r.1.length
  · have ed : r.1.drop i = r.1[i] :: r.1.drop (i + 1) := List.drop_eq_getElem_cons hl
    rw [ed] at w'
    unfold forL at w'
    obtain ⟨gr, w'⟩ := w'.ite
    have jj := jok ρ' H' h' rh' t'.w (grd_of gr)
    obtain ⟨jgo, jy⟩ := jj.1 i hl
    refine .inr ⟨jgo, N (i + 1), fun σ2 H2 n => ⟨_, by omega, rfl, hl, n⟩, fun x H2 y => ?_⟩
    obtain ⟨pv, epv, rx, rh2, t2⟩ := jy x H2 y
    rw [List.getElem?_eq_getElem hl] at epv
    cases epv
    refine ⟨ρ', h', p', r.1[i], rh2, rs'.mono rh'.mut t2, rx, ?_⟩
    have w2 := WpS.shift t2 w'
    cases eg : g r.1[i] p' h' with
    | ok s3 h3 =>
      rw [eg] at w2
      intro ρ3 H3 σ3 rh3 t3 rs3 _
      refine ⟨ρ3, h3, s3, rh3, rs3, ?_⟩
      have w3 := WpS.shift t3 w2
      have t03 : Tr ρ1 H1 ρ3 H3 := (t'.trans t2).trans t3
      dsimp only at w3
      cases eb : b s3 h3 with
      | nx s4 h4 =>
        rw [eb] at w3
        exact fun ρ4 H4 σ4 rh4 t4 rs4 => ⟨ρ4, h4, s4, rh4, rs4, t03.trans t4, WpS.shift t4 w3⟩
      | ct s4 h4 =>
        rw [eb] at w3
        exact fun ρ4 H4 σ4 rh4 t4 rs4 => ⟨ρ4, h4, s4, rh4, rs4, t03.trans t4, WpS.shift t4 w3⟩
      | bk s4 h4 => rw [eb] at w3; exact w3
      | rt v h4 => rw [eb] at w3; exact w3
      | exc e s4 h4 => rw [eb] at w3; exact w3
      | stuck => rw [eb] at w3; exact w3.elim
    | exc _ _ => rw [eg] at w2; exact w2.elim
    | stuck => rw [eg] at w2; exact w2.elim
  · have ei' : i = r.1.length := by omega
    subst ei'
    rw [List.drop_length] at w'
    unfold forL at w'
    obtain ⟨gr, w'⟩ := w'.ite
    exact .inl ⟨(jok ρ' H' h' rh' t'.w (grd_of gr)).2 _ (Nat.le_refl _), w'.now rh' rs'⟩
end

/-! ### while -/
def whileF (t : ET) (b : SM) : Nat → SM
  | 0 => fun _ _ => .stuck
  | n + 1 => fun s h => xs (t s h) s fun c h1 => if c = true then (match b s h1 with
    | .nx s2 h2 => whileF t b n s2 h2
    | .ct s2 h2 => whileF t b n s2 h2
    | .bk s2 h2 => .nx s2 h2
    | .rt v h2 => .rt v h2
    | .exc e s2 h2 => .exc e s2 h2
    | .stuck => .stuck) else .nx s h1
section
variable {X : Cx} {G : Nat → Option Addr} {W : WX} {c : Expr} {pos : Pos} {body : List Stmt} {t : ET} {b : SM}
theorem sm_while (n : Nat) (hp : PassesOwn (model X.prog X.w) X.A X.env X.xe) (hc : PTm X G W c t) (hb : PBm X G W body b) : PSm X G W (.While c body [] pos) (whileF t b n) := by
  refine ps_imp (ps_while hp hc hb) fun D σ H w => ?_
  refine ⟨fun m σ' H' => rdS X.K G W (whileF t b m) D σ' H', ⟨n, w⟩, ?_⟩
  rintro m σ' H' ⟨ρ, h, p, rh, rs, w⟩
  cases m with
  | zero => exact w.elim
  | succ m =>
    unfold whileF at w
    refine ⟨ρ, h, p, rh, rs, w.expr rh rs fun c h1 ρ1 H1 d _ rh1 t1 q1 w1 => ?_⟩
    subst q1
    have rs1 := rs.mono rh.mut t1
    cases c with
    | false => exact WpS.now rh1 rs1 (show WpS X.K G W D ρ1 H1 (.nx p h1) from w1)
    | true =>
      refine (if_pos rfl : (if true = true then _ else _) = _) ▸ ?_
      refine ⟨fun σ2 H2 => rdS X.K G W (whileF t b m) D σ2 H2, fun σ2 H2 q => ⟨m, Nat.lt_succ_self m, q⟩, ρ1, h1, p, rh1, rs1, ?_⟩
      rw [if_pos rfl] at w1
      cases eb : b p h1 with
      | nx s4 h4 =>
        rw [eb] at w1
        exact fun ρ4 H4 σ4 rh4 t4 rs4 => ⟨ρ4, h4, s4, rh4, rs4, WpS.shift t4 w1⟩
      | ct s4 h4 =>
        rw [eb] at w1
        exact fun ρ4 H4 σ4 rh4 t4 rs4 => ⟨ρ4, h4, s4, rh4, rs4, WpS.shift t4 w1⟩
      | bk s4 h4 => rw [eb] at w1; exact w1
      | rt v h4 => rw [eb] at w1; exact w1
      | exc e s4 h4 => rw [eb] at w1; exact w1
      | stuck => rw [eb] at w1; exact w1.elim
end
end Mir

set_option Elab.async false
set_option linter.all false
set_option maxRecDepth 100000
namespace Mir
open PySem L2

/-! ### list comprehensions -/
def wipeP (s : Sl) : List Nat → Sl
  | [] => s
  | v :: vs => (wipeP s vs).set v none
def mYes : ET := fun _ h => .ok true h
def compL (g : TM) (t : ET) (e : E) (vs : List Nat) (it : Its_) (s : Sl) : List PV → M (List PV)
  | [] => fun h => if grdOk it.2 h = true then .ok [] h else .stuck
  | x :: r => fun h => if grdOk it.2 h = true then (match g x (wipeP s vs) h with
    | .ok s1 h1 => (match t s1 h1 with
      | .ok c h2 => if c = true then (match e s1 h2 with
        | .ok y h3 => (compL g t e vs it s r h3).bind fun ys h4 => .ok (y :: ys) h4
        | _ => .stuck) else compL g t e vs it s r h2
      | _ => .stuck)
    | _ => .stuck) else .stuck
def Res.only {α : Type} (r : Res α) : Res α := match r with
  | .ok a h => .ok a h
  | _ => .stuck
def mComp (it : EI) (g : TM) (t : ET) (e : E) (vs : List Nat) : E := fun s h => (it s h).bind fun r h1 => if r.1.length < 16777216 then (compL g t e vs r s r.1 h1).only.bind fun ys h2 => .ok (.lst ys) h2 else .stuck
/-- .. kept in the mirrored heap -/
def mCompR (it : EI) (g : TM) (t : ET) (e : E) (vs : List Nat) : E := fun s h => (it s h).bind fun r h1 => if r.1.length < 16777216 then (compL g t e vs r s r.1 h1).only.bind fun ys h2 => .ok (.ref h2.length) (h2 ++ [.lst ys]) else .stuck
theorem wipe_get {σ : St} : ∀ {vs : List Nat} {j : Nat}, (wipe σ vs)[j]? = if j ∈ vs then (σ[j]?).map (fun _ => none) else σ[j]?
  | [], j => by simp [wipe]
  | v :: vs, j => by
    unfold wipe
    by_cases e : j = v
    · subst e
      rw [if_pos List.mem_cons_self]
      by_cases hl : j < σ.length
      · rw [List.getElem?_set_self (by rw [wipe_length]; exact hl), List.getElem?_eq_getElem hl]; rfl
      · rw [List.getElem?_eq_none (by rw [List.length_set, wipe_length]; omega), List.getElem?_eq_none (by omega)]; rfl
    · rw [List.getElem?_set_ne (Ne.symm e), wipe_get]
      by_cases m : j ∈ vs
      · rw [if_pos m, if_pos (List.mem_cons_of_mem _ m)]
      · rw [if_neg m, if_neg (fun z => (List.mem_cons.mp z).elim e m)]
theorem wipe_only {σ σ2 : St} {is vs : List Nat} (o : OnlyAt is (wipe σ vs) σ2) (hi : ∀ j ∈ is, j ∈ vs) : wipe σ2 vs = wipe σ vs := by
  refine List.ext_getElem? fun j => ?_
  have ol := o.1
  rw [wipe_length] at ol
  rw [wipe_get, wipe_get]
  by_cases m : j ∈ vs
  · rw [if_pos m, if_pos m]
    by_cases hl : j < σ.length
    · rw [List.getElem?_eq_getElem hl, List.getElem?_eq_getElem (by omega)]; rfl
    · rw [List.getElem?_eq_none (by omega), List.getElem?_eq_none (by omega)]
  · rw [if_neg m, if_neg m]
    have := o.2 j (fun z => m (hi j z))
    rw [wipe_get, if_neg m] at this
    exact this
section
variable {K : PySem.W.Frag} {G : Nat → Option Addr} {ρ ρ' : Wd} {H H' : Hp}
theorem RelS.wipe {p : Sl} {σ : St} (rs : RelS K G ρ H p σ) : ∀ vs : List Nat, RelS K G ρ H (wipeP p vs) (L2.wipe σ vs)
  | [] => rs
  | v :: vs => (RelS.wipe rs vs).unset
/-- the list that a comprehension makes is changed -/
theorem TrW.hidU {D : Addr} {o : HO} (t : TrW ρ H ρ' H') (hD : H D = none) : TrW ρ H ρ' (upd H' D o) := by
  refine ⟨t.pre, t.hid, fun a u e n => ?_, fun a e => ?_⟩
  · rw [upd_ne (ne_of_none e hD)]; exact t.keep a u e n
  · by_cases z : a = D
    · rw [z]; exact hD
    · rw [upd_ne z] at e; exact t.dom a e
end
abbrev W0 : WX := fun _ _ _ _ => False
section
variable {X : Cx} {G : Nat → Option Addr} {W : WX} {elt tg ei : Expr} {ifs : List Expr} {scope : Scope} {own : List (Str × Nat)} {pos : Pos} {it : EI} {g : TM} {t : ET} {e : E} {is : List Nat}
theorem RH.unhide {K : PySem.W.Frag} {ρ : Wd} {H : Hp} {h : List MO} {D : Addr} {b : List Addr} (eb : ρ.b = D :: b) (r : RH K G ρ H h) : RH K G ⟨ρ.v, b⟩ H h :=
  RH.show_ (ρ := ρ) (ρ' := ⟨ρ.v, b⟩) rfl (fun a ha => by rw [eb]; exact List.mem_cons_of_mem _ ha) r
theorem TrW.unhide {ρ ρ0 : Wd} {H H0 : Hp} (t : TrW ρ0 H0 ρ H) : Tr ρ0 H0 ⟨ρ.v, ρ0.b⟩ H := ⟨⟨t.pre, fun _ z => .inl z, t.keep, t.dom⟩, rfl⟩
theorem comp_of {σ : St} {H : Hp} {Q : VK} {vs : List Nat} (hi : ∀ j ∈ is, j ∈ vs) {ρ1 : Wd} {H1 : Hp} {h1 : List MO} {p : Sl} {r : Its_} {J : It} (hlen : r.1.length < 16777216) (rh1 : RH X.K G ρ1 H1 h1) (rs1 : RelS X.K G ρ1 H1 p σ) (jok : JOk X.K G ρ1 H1 r J)
    (fin : ∀ D ys h2 ρ' H2 ws, H1 D = none → ρ'.b = D :: ρ1.b → RH X.K G ρ' H2 h2 → TrW ρ1 H1 ρ' H2 → H2 D = some (.lst ws) → Rels X.K G ρ' H2 ys ws → compL g t e vs r p r.1 h1 = .ok ys h2 → Q (.ref D) H2)
    (good : ∃ ys h2, compL g t e vs r p r.1 h1 = .ok ys h2) :
    ∀ D, H1 D = none → ∃ W : Nat → Nat → Hp → Prop, (∃ m, W 0 m (upd H1 D (.lst []))) ∧ ∀ i m H, W i m H →
      (J.stop i H ∧ Q (.ref D) H) ∨ (J.go i H ∧ ∃ Nx : Hp → Prop, (∀ H', Nx H' → ∃ m', m' < m ∧ W (i + 1) m' H') ∧ ∀ x H', J.yld i H x H' → rdG X.K G is g x (wipe σ vs) H' fun σ2 H2 => wipe σ2 vs = wipe σ vs ∧ rdT X.K G W0 t σ2 H2 fun b H3 =>
        if b = true then rd X.K G W0 e σ2 H3 fun y H4 => ∃ acc, H4 D = some (.lst acc) ∧ acc.length < sizeLine ∧ Nx (upd H4 D (.lst (acc ++ [y]))) else Nx H3) := by
  intro D hD
  obtain ⟨yf, hf, ef⟩ := good
  -- what stands ahead of turn i
  let N : Nat → Hp → Prop := fun i H' => ∃ (ρ' : Wd) (h' : List MO) (acc : List PV) (ws : List V), RH X.K G ρ' H' h' ∧ TrW ρ1 H1 ρ' H' ∧ ρ'.b = D :: ρ1.b ∧ H' D = some (.lst ws) ∧ Rels X.K G ρ' H' acc ws ∧ acc.length ≤ i ∧
    ∃ ys, compL g t e vs r p (r.1.drop i) h' = .ok ys hf ∧ yf = acc ++ ys
  refine ⟨fun i m H' => m = r.1.length - i ∧ i ≤ r.1.length ∧ N i H', ⟨r.1.length, rfl, Nat.zero_le _, ρ1.hide D, h1, [], [], rh1.hideNew hD, .newHid hD, rfl, upd_same, rfl, Nat.le_refl _, yf, ef, rfl⟩, ?_⟩
  rintro i m H' ⟨rfl, hle, ρ', h', acc, ws, rh', tw, eb, eD, rel, al, ys, ec, ey⟩
  have hDb : D ∈ ρ'.b := by rw [eb]; exact List.mem_cons_self
  by_cases hl : i < r.1.length
  · have ed : r.1.drop i = r.1[i] :: r.1.drop (i + 1) := List.drop_eq_getElem_cons hl
    rw [ed] at ec
    unfold compL at ec
    by_cases gr : grdOk r.2 h' = true
    · rw [if_pos gr] at ec
      obtain ⟨jgo, jy⟩ := (jok ρ' H' h' rh' tw (grd_of gr)).1 i hl
      refine .inr ⟨jgo, N (i + 1), fun H2 n => ⟨_, by omega, rfl, hl, n⟩, fun x H2 y => ?_⟩
      obtain ⟨pv, epv, rx, rh2, t2⟩ := jy x H2 y
      rw [List.getElem?_eq_getElem hl] at epv
      cases epv
      have stay : ∀ {ρ2 : Wd} {H3 : Hp} {vs : List V}, RH X.K G ρ2 H2 h' → Tr ρ' H' ρ2 H3 → H3 D = some (.lst ws) := fun {ρ2 H3 vs} _ t3 => t3.w.keep D _ eD (rh'.hid D hDb).2
      have rsw : RelS X.K G ρ' H2 (wipeP p vs) (wipe σ vs) := ((rs1.monoW rh1.mut tw).mono rh'.mut t2).wipe vs
      refine ⟨ρ', h', wipeP p vs, r.1[i], rh2, rsw, rx, ?_⟩
      cases eg : g r.1[i] (wipeP p vs) h' with
      | exc _ _ => rw [eg] at ec; cases ec
      | stuck => rw [eg] at ec; cases ec
      | ok s3 h3 =>
        rw [eg] at ec
        intro ρ3 H3 σ3 rh3 t3 rs3 only
        refine ⟨wipe_only only hi, ρ3, h3, s3, rh3, rs3, ?_⟩
        dsimp only at ec
        cases et : t s3 h3 with
        | exc _ _ => rw [et] at ec; cases ec
        | stuck => rw [et] at ec; cases ec
        | ok c h4 =>
          rw [et] at ec
          intro ρ4 H4 b rh4 t4 eq
          subst eq
          have t04 : Tr ρ' H' ρ4 H4 := (t2.trans t3).trans t4
          dsimp only at ec
          cases c with
          | false =>
            have ec' : compL g t e vs r p (r.1.drop (i + 1)) h4 = .ok ys hf := ec
            exact ⟨ρ4, h4, acc, ws, rh4, tw.trans t04.w, t04.b.trans eb, t04.w.keep D _ eD (rh'.hid D hDb).2, rel.mono rh'.mut t04, by omega, ys, ec', ey⟩
          | true =>
            refine ⟨ρ4, h4, s3, rh4, rs3.mono rh3.mut t4, ?_⟩
            rw [if_pos rfl] at ec
            cases ee : e s3 h4 with
            | exc _ _ => rw [ee] at ec; cases ec
            | stuck => rw [ee] at ec; cases ec
            | ok y5 h5 =>
              rw [ee] at ec
              intro ρ5 H5 v5 rh5 t5 q5
              have t05 : Tr ρ' H' ρ5 H5 := t04.trans t5
              have eD5 : H5 D = some (.lst ws) := t05.w.keep D _ eD (rh'.hid D hDb).2
              have eb5 : ρ5.b = D :: ρ1.b := t05.b.trans eb
              have hDb5 : D ∈ ρ5.b := by rw [eb5]; exact List.mem_cons_self
              have rel5 := rel.mono rh'.mut t05
              refine ⟨ws, eD5, ?_, ?_⟩
              · rw [sizeLine_eq, ← rel.length]; omega
              dsimp only at ec
              cases er : compL g t e vs r p (r.1.drop (i + 1)) h5 with
              | exc _ _ => rw [er] at ec; cases ec
              | stuck => rw [er] at ec; cases ec
              | ok zs h6 =>
                rw [er] at ec
                have ec2 : Res.ok (y5 :: zs) h6 = .ok ys hf := ec
                injection ec2 with e1 e2
                subst e1 e2
                have hm := (rh5.hid D hDb5).1
                refine ⟨ρ5, h5, acc ++ [y5], ws ++ [v5], rh5.hidU hDb5, (tw.trans t05.w).hidU hD, eb5, upd_same, (rel5.append (.cons q5 .nil)).hidU hDb5 hm, by rw [List.length_append]; simp; omega, zs, er, ?_⟩
                rw [ey, List.append_assoc]
                rfl
    · rw [if_neg gr] at ec; cases ec
  · have ei' : i = r.1.length := by omega
    subst ei'
    rw [List.drop_length] at ec
    unfold compL at ec
    by_cases gr : grdOk r.2 h' = true
    · rw [if_pos gr] at ec
      injection ec with e1 e2
      subst e1 e2
      rw [List.append_nil] at ey
      subst ey
      exact .inl ⟨(jok ρ' H' h' rh' tw (grd_of gr)).2 _ (Nat.le_refl _), fin D yf h' ρ' H' ws hD eb rh' tw eD rel ef⟩
    · rw [if_neg gr] at ec; cases ec
theorem tlc_of {own : List (Str × Nat)} (hk : ∀ j ∈ is, j ∈ own.map (·.2)) {σ : St} {H : Hp} {Q : VK} (w : rd X.K G W (mComp it g t e (own.map (·.2))) σ H Q) : tLc (rdI X.K G W it) (rdG X.K G is g) (rdT X.K G W0 t) (rd X.K G W0 e) (own.map (·.2)) σ H Q := by
  obtain ⟨ρ, h, p, rh, rs, w⟩ := w
  refine ⟨ρ, h, p, rh, rs, w.bind fun r h1 ρ1 H1 J _ rh1 t1 jok w1 => ?_⟩
  obtain ⟨hlen, w1⟩ := w1.ite
  cases ec : compL g t e (own.map (·.2)) r p r.1 h1 with
  | ok ys h2 =>
    rw [ec] at w1
    refine comp_of (H := H) hk hlen rh1 (rs.mono rh.mut t1) jok (fun D ys' h2' ρ' H2 ws hD eb rh' tw eD rel ec' => ?_) ⟨ys, h2, ec⟩
    rw [ec] at ec'
    injection ec' with e1 e2
    subst e1 e2
    refine w1 _ _ _ (rh'.unhide eb) tw.unhide ⟨D, ws, rfl, eD, ?_, Rels.show_ (ρ := ρ') (ρ' := ⟨ρ'.v, ρ1.b⟩) rfl (fun a ha => by rw [eb]; exact List.mem_cons_of_mem _ ha) rel⟩
    rintro (z | z)
    · exact (rh'.hid D (by rw [eb]; exact List.mem_cons_self)).2 z
    · exact rh1.nin hD (.inr z)
  | exc c h2 => rw [ec] at w1; exact w1.elim
  | stuck => rw [ec] at w1; exact w1.elim
/-- the hidden list is shown as a place of the mirrored heap -/
theorem rel_shown {K : PySem.W.Frag} {ρ : Wd} {H : Hp} {D : Addr} {b : List Addr} (eb : ρ.b = D :: b) (hv : D ∉ ρ.v) : (∀ {x : PV} {v : V}, Rel K G ρ H x v → Rel K G ⟨ρ.v ++ [D], b⟩ H x v) ∧ ∀ {xs : List PV} {vs : List V}, Rels K G ρ H xs vs → Rels K G ⟨ρ.v ++ [D], b⟩ H xs vs := by
  have nh : ∀ a, ¬ ρ.Has a → ¬ (⟨ρ.v ++ [D], b⟩ : Wd).Has a := fun a n z => by
    rcases z with z | z
    · rcases List.mem_append.mp (show a ∈ ρ.v ++ [D] from z) with z | z
      · exact n (.inl z)
      · exact n (.inr (by rw [eb, List.mem_singleton.mp z]; exact List.mem_cons_self))
    · exact n (.inr (by rw [eb]; exact List.mem_cons_of_mem _ z))
  have go : (∀ (x : PV) (v : V), Rel K G ρ H x v → Rel K G ⟨ρ.v ++ [D], b⟩ H x v) ∧ ∀ (xs : List PV) (vs : List V), Rels K G ρ H xs vs → Rels K G ⟨ρ.v ++ [D], b⟩ H xs vs := by
    refine ⟨fun x => ?_, fun xs => ?_⟩
    · exact PV.rec (motive_1 := fun x => ∀ v, Rel K G ρ H x v → Rel K G ⟨ρ.v ++ [D], b⟩ H x v) (motive_2 := fun xs => ∀ vs, Rels K G ρ H xs vs → Rels K G ⟨ρ.v ++ [D], b⟩ H xs vs)
        (fun v r => r) (fun _ v r => r) (fun _ v r => r) (fun _ v r => r) (fun xs ih v ⟨a, vs, e, s, q⟩ => ⟨a, vs, e, s, ih vs q⟩) (fun xs ih v ⟨a, vs, e, s, n, q⟩ => ⟨a, vs, e, s, nh a n, ih vs q⟩)
        (fun xs ih v ⟨a, vs, e, s, q⟩ => ⟨a, vs, e, s.elim (fun s => .inl ⟨s.1, nh a s.2⟩) .inr, ih vs q⟩)
        (fun i v ⟨a, e, q⟩ => ⟨a, e, by show (ρ.v ++ [D])[i]? = some a; rw [List.getElem?_append_left (List.getElem?_eq_some_iff.mp q).1]; exact q⟩) (fun _ v r => r) (fun _ v r => r) (fun vs r => r) (fun x xs h1 h2 vs ⟨w, ws, e, r1, r2⟩ => ⟨w, ws, e, h1 w r1, h2 ws r2⟩) x
    · exact PV.rec_1 (motive_1 := fun x => ∀ v, Rel K G ρ H x v → Rel K G ⟨ρ.v ++ [D], b⟩ H x v) (motive_2 := fun xs => ∀ vs, Rels K G ρ H xs vs → Rels K G ⟨ρ.v ++ [D], b⟩ H xs vs)
        (fun v r => r) (fun _ v r => r) (fun _ v r => r) (fun _ v r => r) (fun xs ih v ⟨a, vs, e, s, q⟩ => ⟨a, vs, e, s, ih vs q⟩) (fun xs ih v ⟨a, vs, e, s, n, q⟩ => ⟨a, vs, e, s, nh a n, ih vs q⟩)
        (fun xs ih v ⟨a, vs, e, s, q⟩ => ⟨a, vs, e, s.elim (fun s => .inl ⟨s.1, nh a s.2⟩) .inr, ih vs q⟩)
        (fun i v ⟨a, e, q⟩ => ⟨a, e, by show (ρ.v ++ [D])[i]? = some a; rw [List.getElem?_append_left (List.getElem?_eq_some_iff.mp q).1]; exact q⟩) (fun _ v r => r) (fun _ v r => r) (fun vs r => r) (fun x xs h1 h2 vs ⟨w, ws, e, r1, r2⟩ => ⟨w, ws, e, h1 w r1, h2 ws r2⟩) xs
  exact ⟨fun {x v} => go.1 x v, fun {xs vs} => go.2 xs vs⟩
theorem RH.shown {K : PySem.W.Frag} {ρ : Wd} {H : Hp} {h : List MO} {D : Addr} {b : List Addr} {xs : List PV} {ws : List V} (eb : ρ.b = D :: b) (rh : RH K G ρ H h) (hb : D ∉ b) (eD : H D = some (.lst ws)) (rel : Rels K G ρ H xs ws) : RH K G ⟨ρ.v ++ [D], b⟩ H (h ++ [.lst xs]) := by
  have hv : D ∉ ρ.v := (rh.hid D (by rw [eb]; exact List.mem_cons_self)).2
  have sh := rel_shown (K := K) (G := G) (H := H) eb hv
  refine ⟨by show (ρ.v ++ [D]).length = _; rw [List.length_append, List.length_append, rh.len]; rfl, ?_, fun i a u e1 e2 => ?_, fun a ha => ?_⟩
  · show (ρ.v ++ [D]).Nodup
    rw [List.nodup_append]
    refine ⟨rh.nd, by simp, fun a ha b hb z => ?_⟩
    rw [List.mem_singleton.mp hb] at z
    exact hv (z ▸ ha)
  · have e1' : (ρ.v ++ [D])[i]? = some a := e1
    by_cases hi : i < ρ.v.length
    · rw [List.getElem?_append_left hi] at e1'
      rw [List.getElem?_append_left (by rw [← rh.len]; exact hi)] at e2
      have q := rh.obj i a u e1' e2
      cases u with
      | lst xs => obtain ⟨vs, e, q⟩ := q; exact ⟨vs, e, sh.2 q⟩
      | dK xs => obtain ⟨vs, e, q1, q⟩ := q; exact ⟨vs, e, q1, sh.2 q⟩
      | dT xs => obtain ⟨vs, e, q1, q⟩ := q; exact ⟨vs, e, q1, sh.2 q⟩
      | ins c fs => obtain ⟨C, dx, gs, e, g, q1, q⟩ := q; exact ⟨C, dx, gs, e, g, q1, sh.2 q⟩
    · have hl : i < (ρ.v ++ [D]).length := (List.getElem?_eq_some_iff.mp e1').1
      have ei : i = ρ.v.length := by rw [List.length_append] at hl; simp at hl; omega
      subst ei
      rw [List.getElem?_append_right (Nat.le_refl _), Nat.sub_self] at e1'
      rw [List.getElem?_append_right (by rw [rh.len]; exact Nat.le_refl _), rh.len, Nat.sub_self] at e2
      simp at e1' e2
      subst e1' e2
      exact ⟨ws, eD, sh.2 rel⟩
  · have ha' : a ∈ b := ha
    obtain ⟨h1, h2⟩ := rh.hid a (by rw [eb]; exact List.mem_cons_of_mem _ ha')
    refine ⟨h1, fun z => ?_⟩
    rcases List.mem_append.mp (show a ∈ ρ.v ++ [D] from z) with z | z
    · exact h2 z
    · rw [List.mem_singleton.mp z] at ha'; exact hb ha'
theorem tlc_ofR {own : List (Str × Nat)} (hk : ∀ j ∈ is, j ∈ own.map (·.2)) {σ : St} {H : Hp} {Q : VK} (w : rd X.K G W (mCompR it g t e (own.map (·.2))) σ H Q) : tLc (rdI X.K G W it) (rdG X.K G is g) (rdT X.K G W0 t) (rd X.K G W0 e) (own.map (·.2)) σ H Q := by
  obtain ⟨ρ, h, p, rh, rs, w⟩ := w
  refine ⟨ρ, h, p, rh, rs, w.bind fun r h1 ρ1 H1 J _ rh1 t1 jok w1 => ?_⟩
  obtain ⟨hlen, w1⟩ := w1.ite
  cases ec : compL g t e (own.map (·.2)) r p r.1 h1 with
  | ok ys h2 =>
    rw [ec] at w1
    refine comp_of (H := H) hk hlen rh1 (rs.mono rh.mut t1) jok (fun D ys' h2' ρ' H2 ws hD eb rh' tw eD rel ec' => ?_) ⟨ys, h2, ec⟩
    rw [ec] at ec'
    injection ec' with e1 e2
    subst e1 e2
    have nb : D ∉ ρ1.b := fun z => rh1.nin hD (.inr z)
    obtain ⟨new, en, fr⟩ := tw.pre
    refine w1 ⟨ρ'.v ++ [D], ρ1.b⟩ H2 (.ref D) (rh'.shown eb nb eD rel) ⟨⟨⟨new ++ [D], by show ρ'.v ++ [D] = _; rw [en, List.append_assoc], fun a ha => ?_⟩, fun _ z => .inl z, tw.keep, tw.dom⟩, rfl⟩ ⟨D, rfl, ?_⟩
    · rcases List.mem_append.mp ha with z | z
      · exact fr a z
      · rw [List.mem_singleton.mp z]; exact hD
    · refine (?_ : (ρ'.v ++ [D])[(_ : Nat)]? = some D)
      rw [← rh'.len, List.getElem?_append_right (Nat.le_refl _), Nat.sub_self]; rfl
  | exc c h2 => rw [ec] at w1; exact w1.elim
  | stuck => rw [ec] at w1; exact w1.elim
section
variable (hc : X.calm = true) (hN : X.N.Nodup) (hi : PIm X G W tg ei it) (ok : BlkOk X.N X.env.scope scope own)
    (hg : ∀ (s : Shared) (H : Hp) (C : Addr) (cl : List (Str × Addr)) (fp : List Addr), PGm (X.blk s H scope (compEnvC scope cl C X.env) fp) G is tg g)
    (ht : ∀ (s : Shared) (H : Hp) (C : Addr) (cl : List (Str × Addr)) (fp : List Addr), PTs (X.blk s H scope (compEnvC scope cl C X.env) fp) ifs (rdT X.K G W0 t))
    (he : ∀ (s : Shared) (H : Hp) (C : Addr) (cl : List (Str × Addr)) (fp : List Addr), PEm (X.blk s H scope (compEnvC scope cl C X.env) fp) G W0 elt e)
    (hk : ∀ j ∈ is, j ∈ own.map (·.2) := by decide) (hs : ∀ x, foldedSetIterable ei X.env x = pure x := by intro _; rfl)
include hc hN hi ok hg ht he hk hs
theorem em_comp : PEm X G W (.ListComp elt [⟨tg, ei, ifs, 0⟩] scope pos) (mComp it g t e (own.map (·.2))) :=
  pe_imp (pe_lc hc hN hi ok hg ht he hs) fun _ _ _ w => tlc_of hk w
theorem sm_setLc {i : Nat} {y : Str} {py spos : Pos} (hy : X.N[i]? = some y) (hyl : X.env.scope.names.lookup y = some .local) (hsw : swapsWith (.ListComp elt [⟨tg, ei, ifs, 0⟩] scope pos) (some (.Name y py)) spos.line X.env = pure true) :
    PSm X G W (.Assign [.Name y py] (.ListComp elt [⟨tg, ei, ifs, 0⟩] scope pos) spos) (mAsg (mComp it g t e (own.map (·.2))) (mName i)) := by
  refine ps_imp (ps_setLc (g := rdG X.K G is g) (tt := rdT X.K G W0 t) (te := rd X.K G W0 e) hc hN hy hyl hsw hi ok hg ht he hs) fun D σ H ⟨ρ, h, p, rh, rs, w⟩ => ?_
  exact tlc_of hk ⟨ρ, h, p, rh, rs, w.expr rh rs fun x h1 ρ1 H1 v _ rh1 t1 q1 w1 => w1 ρ1 H1 _ rh1 .refl ((rs.mono rh.mut t1).set q1)⟩
theorem sm_setLcR {i : Nat} {y : Str} {py spos : Pos} (hy : X.N[i]? = some y) (hyl : X.env.scope.names.lookup y = some .local) (hsw : swapsWith (.ListComp elt [⟨tg, ei, ifs, 0⟩] scope pos) (some (.Name y py)) spos.line X.env = pure true) :
    PSm X G W (.Assign [.Name y py] (.ListComp elt [⟨tg, ei, ifs, 0⟩] scope pos) spos) (mAsg (mCompR it g t e (own.map (·.2))) (mName i)) := by
  refine ps_imp (ps_setLc (g := rdG X.K G is g) (tt := rdT X.K G W0 t) (te := rd X.K G W0 e) hc hN hy hyl hsw hi ok hg ht he hs) fun D σ H ⟨ρ, h, p, rh, rs, w⟩ => ?_
  exact tlc_ofR hk ⟨ρ, h, p, rh, rs, w.expr rh rs fun x h1 ρ1 H1 v _ rh1 t1 q1 w1 => w1 ρ1 H1 _ rh1 .refl ((rs.mono rh.mut t1).set q1)⟩
theorem em_compR : PEm X G W (.ListComp elt [⟨tg, ei, ifs, 0⟩] scope pos) (mCompR it g t e (own.map (·.2))) :=
  pe_imp (pe_lc hc hN hi ok hg ht he hs) fun _ _ _ w => tlc_ofR hk w
end
theorem tm_yes {X : Cx} : PTs X [] (rdT X.K G W0 mYes) := ⟨fun pins s σ H Q I ⟨ρ, h, p, rh, rs, w⟩ => pts_nil.run pins s σ H Q I (w.val rh rfl)⟩
theorem tm_test {X : Cx} {c : Expr} {t : ET} (h : PTm X G W0 c t) : PTs X [c] (rdT X.K G W0 t) := pts_one h
end
end Mir

set_option Elab.async false
set_option linter.all false
set_option maxRecDepth 100000
namespace Mir
open PySem L2

/-! ### zip, enumerate -/
def isT : PV → Bool
  | .tup _ => true
  | _ => false
def pZip : List PV → M Its_ := fun vs h => match vs with
  | [x, y] => match itemsOf x h, itemsOf y h with
    | some a, some b => if isT x = isT y then .ok (List.zipWith (fun u v => PV.tup [u, v]) a.1 b.1, a.2 ++ b.2) h else .stuck
    | _, _ => .stuck
  | _ => .stuck
def mZip (as : EA) : EI := fun s h => (as s h).bind pZip
def enumP (n : Nat) : List PV → List PV
  | [] => []
  | x :: r => .tup [.int (n : Int), x] :: enumP (n + 1) r
def pEnum : List PV → M Its_ := fun vs h => match vs with
  | [x] => match itemsOf x h with
    | some a => .ok (enumP 0 a.1, a.2) h
    | none => .stuck
  | _ => .stuck
def mEnum (as : EA) : EI := fun s h => (as s h).bind pEnum
theorem enumP_len : ∀ (xs : List PV) (n : Nat), (enumP n xs).length = xs.length
  | [], _ => rfl
  | x :: r, n => by rw [enumP, List.length_cons, List.length_cons, enumP_len r]
theorem enumP_get : ∀ (xs : List PV) (n i : Nat), (enumP n xs)[i]? = (xs[i]?).map fun x => .tup [.int ((n + i : Nat) : Int), x]
  | [], _, i => by simp [enumP]
  | x :: r, n, 0 => by simp [enumP]
  | x :: r, n, i + 1 => by
    rw [enumP, List.getElem?_cons_succ, List.getElem?_cons_succ, enumP_get r]
    congr 1
    funext y
    rw [Nat.add_right_comm, Nat.add_assoc]
section
variable {K : PySem.W.Frag} {G : Nat → Option Addr} {W : WX} {σ : St} {ρ : Wd} {H : Hp} {h : List MO}
/-- the items of x, later, as a list -/
theorem later_any {x : PV} {it : Its_} {v : V} {ρ' : Wd} {H' : Hp} {h' : List MO} (rh : RH K G ρ H h) (e : itemsOf x h = some it) (r : Rel K G ρ H x v) (rh' : RH K G ρ' H' h') (t : TrW ρ H ρ' H') (g : Grd it.2 h') {a : Addr} (ea : v = .ref a) :
    (isT x = false → ∃ vs, SqL K H' a vs ∧ Rels K G ρ' H' it.1 vs) ∧ (isT x = true → ∃ vs, SqT K H' a vs ∧ Rels K G ρ' H' it.1 vs) := by
  refine ⟨fun z => later_lst rh e (fun xs q => by rw [q] at z; cases z) r rh' t g a ea, fun z => ?_⟩
  cases x with
  | tup xs =>
    cases (show some (xs, []) = some it from e)
    exact later_tup rh r t a ea
  | _ => cases z
theorem zip_get {xs ys : List PV} {i : Nat} {x y : PV} (e1 : xs[i]? = some x) (e2 : ys[i]? = some y) : (List.zipWith (fun u v => PV.tup [u, v]) xs ys)[i]? = some (.tup [x, y]) := by
  rw [List.getElem?_zipWith, e1, e2]
theorem pair_new {x y : PV} {v u : V} {T : Addr} (rh : RH K G ρ H h) (hT : H T = none) (r1 : Rel K G ρ H x v) (r2 : Rel K G ρ H y u) : Rel K G ρ (upd H T (.tup [v, u])) (.tup [x, y]) (.ref T) := rel_tup rh hT (.cons r1 (.cons r2 .nil))
end
section
variable {X : Cx} {G : Nat → Option Addr} {W : WX} {ei e e2 : Expr} {elts : List Expr} {kk : Nat} {tpos pos p0 : Pos} {as : EA}
theorem im_zip (hm : X.mg "zip" = none) (ha : PAm X G W [e, e2] as) (hg : Gl X "zip" := by rfl) (hs : starEach [e, e2] X.env = (false, eval e X.env) :: starEach [e2] X.env := by rfl) (hpl : (backTo pos (starEach [e2] X.env)).any (·.1) = false := by rfl) : PIm X G W (.Tuple elts kk tpos) (.Call (.Name "zip" p0) [e, e2] [] pos) (mZip as) := by
  refine pi_imp (RZ.pi_zipA hg hm ha hs hpl) fun σ H R ⟨ρ, h, p, rh, rs, w⟩ => ?_
  refine ⟨ρ, h, p, rh, rs, w.bind fun xs h1 ρ1 H1 vs _ rh1 t1 q1 w1 => ?_⟩
  unfold pZip at w1
  split at w1
  · rename_i x y _
    split at w1
    · rename_i a b ea eb
      obtain ⟨hT, w1⟩ := w1.ite
      obtain ⟨v, _, rfl, r1, u, _, rfl, r2, rfl⟩ := q1
      obtain ⟨l1, rfl⟩ := ref_of_items ea r1
      obtain ⟨l2, rfl⟩ := ref_of_items eb r2
      have g1 := grd_items ea
      have g2 := grd_items eb
      have L1 := fun ρ' H' h' rh' t g => later_any (ρ' := ρ') (H' := H') (h' := h') rh1 ea r1 rh' t g rfl
      have L2' := fun ρ' H' h' rh' t g => later_any (ρ' := ρ') (H' := H') (h' := h') rh1 eb r2 rh' t g rfl
      have zl : ∀ i, i < (List.zipWith (fun u v => PV.tup [u, v]) a.1 b.1).length → i < a.1.length ∧ i < b.1.length := fun i hi => by rw [List.length_zipWith] at hi; omega
      have zg : ∀ i, (List.zipWith (fun u v => PV.tup [u, v]) a.1 b.1).length ≤ i → a.1.length ≤ i ∨ b.1.length ≤ i := fun i hi => by rw [List.length_zipWith] at hi; omega
      cases hx : isT x with
      | false =>
        have hy : isT y = false := by rw [← hT]; exact hx
        obtain ⟨vs1, s1, _⟩ := (L1 _ _ _ rh1 .refl g1).1 hx
        obtain ⟨vs2, s2, _⟩ := (L2' _ _ _ rh1 .refl g2).1 hy
        refine ⟨l1, l2, vs1, vs2, rfl, .inl ⟨s1, s2, Wp.valI rh1 w1 ?_⟩⟩
        intro ρ' H' h' rh' t g
        obtain ⟨ws1, z1, q1⟩ := (L1 _ _ _ rh' t fun p hp => g p (List.mem_append_left _ hp)).1 hx
        obtain ⟨ws2, z2, q2⟩ := (L2' _ _ _ rh' t fun p hp => g p (List.mem_append_right _ hp)).1 hy
        refine ⟨fun i hi => ?_, fun i hi => ⟨ws1, ws2, z1, z2, by rw [← q1.length, ← q2.length]; exact zg i hi⟩⟩
        obtain ⟨i1, i2⟩ := zl i hi
        have j1 : i < ws1.length := by rw [← q1.length]; exact i1
        have j2 : i < ws2.length := by rw [← q2.length]; exact i2
        refine ⟨⟨ws1, ws2, _, _, z1, z2, List.getElem?_eq_getElem j1, List.getElem?_eq_getElem j2⟩, fun v H2 yy => ?_⟩
        obtain ⟨T, x', y', rfl, nT, rfl, f1, f2⟩ := yy
        obtain ⟨px, epx, rx⟩ := q1.get' (f1 _ z1)
        obtain ⟨py, epy, ry⟩ := q2.get' (f2 _ z2)
        exact ⟨_, zip_get epx epy, pair_new rh' nT rx ry, rh'.beside nT, .new nT⟩
      | true =>
        have hy : isT y = true := by rw [← hT]; exact hx
        obtain ⟨vs1, s1, _⟩ := (L1 _ _ _ rh1 .refl g1).2 hx
        obtain ⟨vs2, s2, _⟩ := (L2' _ _ _ rh1 .refl g2).2 hy
        refine ⟨l1, l2, vs1, vs2, rfl, .inr ⟨s1, s2, Wp.valI rh1 w1 ?_⟩⟩
        intro ρ' H' h' rh' t g
        obtain ⟨ws1, z1, q1⟩ := (L1 _ _ _ rh' t fun p hp => g p (List.mem_append_left _ hp)).2 hx
        obtain ⟨ws2, z2, q2⟩ := (L2' _ _ _ rh' t fun p hp => g p (List.mem_append_right _ hp)).2 hy
        refine ⟨fun i hi => ?_, fun i hi => ⟨ws1, ws2, z1, z2, by rw [← q1.length, ← q2.length]; exact zg i hi⟩⟩
        obtain ⟨i1, i2⟩ := zl i hi
        have j1 : i < ws1.length := by rw [← q1.length]; exact i1
        have j2 : i < ws2.length := by rw [← q2.length]; exact i2
        refine ⟨⟨ws1, ws2, _, _, z1, z2, List.getElem?_eq_getElem j1, List.getElem?_eq_getElem j2⟩, fun v H2 yy => ?_⟩
        obtain ⟨T, x', y', rfl, nT, rfl, f1, f2⟩ := yy
        obtain ⟨px, epx, rx⟩ := q1.get' (f1 _ z1)
        obtain ⟨py, epy, ry⟩ := q2.get' (f2 _ z2)
        exact ⟨_, zip_get epx epy, pair_new rh' nT rx ry, rh'.beside nT, .new nT⟩
    · exact w1.elim
  · exact w1.elim
end

/-! ### x[i] = v, x[i] op= v -/
def pPut : PV → PV → PV → List MO → Res Unit := fun o i v h => match o, i with
  | .ref r, .int k => match h[r]? with
    | some (.lst xs) => match ixN xs.length k with
      | some j => .ok () (h.set r (.lst (xs.set j v)))
      | none => .stuck
    | _ => .stuck
  | _, _ => .stuck
def mPut (o i : E) : TM := fun v s h => (o s h).bind fun x h1 => (i s h1).bind fun y h2 => (pPut x y v h2).bind fun _ h3 => .ok s h3
section
variable {K : PySem.W.Frag} {G : Nat → Option Addr} {W : WX} {σ : St} {ρ : Wd} {H : Hp} {h : List MO}
theorem put_of {o i v : PV} {ov iv vv : V} {h' : List MO} {Q : Hp → Prop} (rh : RH K G ρ H h) (ro : Rel K G ρ H o ov) (ri : Rel K G ρ H i iv) (rv : Rel K G ρ H v vv) (e : pPut o i v h = .ok () h')
    (q : ∀ H', RH K G ρ H' h' → Tr ρ H ρ H' → Q H') : rSetL ov iv vv H Q := by
  unfold pPut at e
  split at e
  · rename_i r k
    obtain ⟨a, rfl, er⟩ := ro
    cases (show iv = .int k from ri)
    split at e
    · rename_i xs e2
      split at e
      · rename_i j ej
        injection e with _ e
        obtain ⟨vs, e3, qs⟩ := rh.at_ er e2
        refine ⟨a, vs, k, j, rfl, rfl, e3, by rw [← qs.length]; exact ej, ?_⟩
        subst e
        exact q _ (rh.chg er ⟨_, upd_same, (qs.set rv j).mono rh.mut (.chg (List.mem_of_getElem? er))⟩) (.chg (List.mem_of_getElem? er))
      · cases e
    · cases e
  · cases e
end
section
variable {X : Cx} {G : Nat → Option Addr} {W : WX} {eo ei : Expr} {o i : E} {pos : Pos}
/-- what a target reads may not raise -/
theorem gm_put (ho : PEm X G W0 eo o) (hi : PEm X G W0 ei i) (ha : ∀ v, assign (.Subscript eo ei pos) X.env v = (do
      let ov ← holding [v] (eval eo X.env)
      let iv ← holding [v, ov] (eval ei X.env)
      standAt pos
      holding [v, ov, iv] (setItem ov iv v)
      release [v, ov, iv] []) := by intro _; rfl) : PGm X G [] (.Subscript eo ei pos) (mPut o i) := by
  refine pg_imp (pg_sub ho hi set_list ha) fun v σ H Q ⟨ρ, h, p, x, rh, rs, rx, w⟩ => ?_
  unfold mPut at w
  cases e1 : o p h with
  | exc _ _ => rw [e1] at w; exact w.elim
  | stuck => rw [e1] at w; exact w.elim
  | ok y1 h1 =>
    rw [e1, bind_ok] at w
    refine ⟨ρ, h, p, rh, rs, ?_⟩
    rw [e1]
    intro ρ1 H1 v1 rh1 t1 q1
    cases e2 : i p h1 with
    | exc _ _ => rw [e2] at w; exact w.elim
    | stuck => rw [e2] at w; exact w.elim
    | ok y2 h2 =>
      rw [e2, bind_ok] at w
      refine ⟨ρ1, h1, p, rh1, rs.mono rh.mut t1, ?_⟩
      rw [e2]
      intro ρ2 H2 v2 rh2 t2 q2
      cases e3 : pPut y1 y2 x h2 with
      | exc _ _ => rw [e3] at w; exact w.elim
      | stuck => rw [e3] at w; exact w.elim
      | ok u h3 =>
        rw [e3, bind_ok] at w
        exact put_of rh2 (q1.mono rh1.mut t2) q2 ((rx.mono rh.mut t1).mono rh1.mut t2) e3 fun H3 rh3 t3 => w ρ2 H3 σ rh3 ((t1.trans t2).trans t3) (((rs.mono rh.mut t1).mono rh1.mut t2).mono rh2.mut t3) .refl
/-- x[i] of a list, by values -/
def rGetN (K : PySem.W.Frag) : V → V → Hp → VK → Prop := fun x y H Q => ∃ p xs k z, x = .ref p ∧ y = .int k ∧ 0 ≤ k ∧ SqL K H p xs ∧ atI xs k = some z ∧ Q z H
theorem get_list {X : Cx} : PGet X (rGetN X.K) := by
  intro pins s σ H o i ov iv Q I ro ri h
  obtain ⟨p, xs, k, z, rfl, rfl, h0, hq, he, q⟩ := h
  cases ro
  obtain ⟨t, rfl⟩ := ri
  obtain ⟨its, r, pl, hz⟩ := I.list hq
  obtain ⟨j, h1, h2, h3, h4, h5⟩ := atI_get he
  obtain ⟨w, ew, rw'⟩ := r.get h2
  have hn := line63
  have hj : k.toNat = j := by
    rw [seqIndex_of h0 h5] at h1
    exact Option.some.inj h1
  exact PySem.wpAny_getItem_list pl.isList h0 (by omega) (by rw [hj]; simpa using ew) ⟨z, H, I, rw', q⟩
def pGetN : PV → PV → M PV := fun x y h => match y with
  | .int k => if 0 ≤ k then (match lstRd x h with
    | some xs => atO (atI xs k) h
    | none => .stuck) else .stuck
  | _ => .stuck
def pAddI : PV → PV → M PV := fun x y h => match x, y with
  | .int i, .int j => .ok (.int (i + j)) h
  | _, _ => .stuck
def mAugPut (o i e : E) : SM := fun s h => xs (o s h) s fun x h1 => xs (i s h1) s fun y h2 => xs (pGetN x y h2) s fun v h3 => xs (e s h3) s fun u h4 => xs (pAddI v u h4) s fun z h5 => match pPut x y z h5 with
  | .ok _ h6 => .nx s h6
  | _ => .stuck
theorem sm_augPut {ee : Expr} {e : E} {tpos : Pos} (ho : PEm X G W eo o) (hi : PEm X G W ei i) (he : PEm X G W ee e) (ha : ∀ ov iv new, augStore ei ov iv new = (do holding [new, ov, iv] (setItem ov iv new); release [new, ov, iv] []; pure .next) := by intros; rfl) :
    PSm X G W (.AugAssign (.Subscript eo ei tpos) .Add ee pos) (mAugPut o i e) := by
  refine ps_imp (ps_augS ho hi get_list he ip_add set_list ha) fun D σ H ⟨ρ, h, p, rh, rs, w⟩ => ?_
  refine ⟨ρ, h, p, rh, rs, w.expr rh rs fun x h1 ρ1 H1 v1 _ rh1 t1 q1 w1 => ?_⟩
  have rs1 := rs.mono rh.mut t1
  refine ⟨ρ1, h1, p, rh1, rs1, w1.expr rh1 rs1 fun y h2 ρ2 H2 v2 _ rh2 t2 q2 w2 => ?_⟩
  have rs2 := rs1.mono rh1.mut t2
  have q1' := q1.mono rh1.mut t2
  unfold pGetN at w2
  cases y with
  | int k =>
    cases (show v2 = .int k from q2)
    dsimp only at w2
    by_cases h0 : 0 ≤ k
    · rw [if_pos h0] at w2
      cases el : lstRd x h2 with
      | none => rw [el] at w2; exact w2.elim
      | some ls =>
        rw [el] at w2
        obtain ⟨a, vs, rfl, s, qs⟩ := lstRd_ok rh2 q1' el
        dsimp only at w2
        unfold atO at w2
        cases z : atI ls k with
        | none => rw [z] at w2; exact w2.elim
        | some x' =>
          rw [z] at w2
          obtain ⟨v', e2, qx⟩ := qs.atI z
          refine ⟨a, vs, k, v', rfl, rfl, h0, s, e2, ρ2, h2, p, rh2, rs2, WpS.expr (R := Rel X.K G) rh2 rs2 w2 fun u h4 ρ4 H4 v4 _ rh4 t4 q4 w4 => ?_⟩
          have rs4 := rs2.mono rh2.mut t4
          have qx' := qx.mono rh2.mut t4
          unfold pAddI at w4
          cases x' with
          | int i1 =>
            cases u with
            | int i2 =>
              refine ⟨i1, i2, qx', q4, ?_⟩
              have w5 : WpS X.K G W D ρ4 H4 (match pPut x (.int k) (.int (i1 + i2)) h4 with
                | .ok _ h6 => .nx p h6
                | _ => .stuck) := w4
              cases ep : pPut x (.int k) (.int (i1 + i2)) h4 with
              | ok u6 h6 =>
                rw [ep] at w5
                exact put_of rh4 (q1'.mono rh2.mut t4) (show Rel X.K G ρ4 H4 (.int k) (.int k) from rfl) (show Rel X.K G ρ4 H4 (.int (i1 + i2)) (.int (i1 + i2)) from rfl) ep fun H6 rh6 t6 => w5 ρ4 H6 σ rh6 t6 (rs4.mono rh4.mut t6)
              | exc _ _ => rw [ep] at w5; exact w5.elim
              | stuck => rw [ep] at w5; exact w5.elim
            | _ => exact w4.elim
          | _ => exact w4.elim
    · rw [if_neg h0] at w2; exact w2.elim
  | _ => exact w2.elim
end
end Mir

set_option Elab.async false
set_option linter.all false
set_option maxRecDepth 100000
namespace Mir
open PySem L2

/-! ### what is handed back is freed of places made on the way -/
mutual
def PV.under (n : Nat) : PV → Bool
  | .tup xs => PV.unders n xs
  | .lst xs => PV.unders n xs
  | .frz xs => PV.unders n xs
  | .ref i => Nat.blt i n
  | _ => true
def PV.unders (n : Nat) : List PV → Bool
  | [] => true
  | x :: xs => PV.under n x && PV.unders n xs
end
def MO.vals : MO → List PV
  | .lst xs => xs
  | .dK kvs => kvs.map (·.2)
  | .dT kvs => kvs.map (·.2)
  | .ins _ fs => fs.map (·.2)
/-- the first n objects lean on nothing behind them -/
def closed (n : Nat) (h : List MO) : Bool := (h.take n).all fun o => PV.unders n o.vals
/-- a list made on the way becomes a value -/
def thaw (n : Nat) (h : List MO) (x : PV) : Option PV := match x with
  | .ref i => if Nat.blt i n = true then some (.ref i) else match h[i]? with
    | some (.lst xs) => if PV.unders n xs = true then some (.lst xs) else none
    | _ => none
  | x => if PV.under n x = true then some x else none
def tidy (n : Nat) (r : Res PV) : Res PV := match r with
  | .ok v h => if closed n h = true then (match thaw n h v with
    | some v' => .ok v' (h.take n)
    | none => .ok v h) else .ok v h
  | .exc e h => if closed n h = true ∧ PV.unders n (e.fs.map (·.2)) = true then .exc e (h.take n) else .exc e h
  | .stuck => .stuck
section
variable {K : PySem.W.Frag} {G : Nat → Option Addr} {W : WX} {σ : St} {ρ ρ' : Wd} {H H' : Hp} {h h' : List MO}
mutual
theorem Rel.cutR {n : Nat} (t : Tr ρ H ρ' H') (hn : n = ρ.v.length) : ∀ {x : PV} {v : V}, PV.under n x = true → Rel K G ρ' H' x v → Rel K G ρ H' x v
  | .non, _, _, r => r
  | .bl _, _, _, r => r
  | .int _, _, _, r => r
  | .str _, _, _, r => r
  | .tup xs, v, b, r => by
    obtain ⟨a, vs, e, s, q⟩ := r
    exact ⟨a, vs, e, s, Rels.cutR t hn (by simpa [PV.under] using b) q⟩
  | .lst xs, v, b, r => by
    obtain ⟨a, vs, e, s, n', q⟩ := r
    refine ⟨a, vs, e, s, fun z => n' ?_, Rels.cutR t hn (by simpa [PV.under] using b) q⟩
    obtain ⟨new, e2, _⟩ := t.w.pre
    rcases z with z | z
    · exact .inl (by rw [e2]; exact List.mem_append_left _ z)
    · exact .inr (by rw [t.b]; exact z)
  | .frz xs, v, b, r => by
    obtain ⟨a, vs, e, s, q⟩ := r
    refine ⟨a, vs, e, ?_, Rels.cutR t hn (by simpa [PV.under] using b) q⟩
    obtain ⟨new, e2, _⟩ := t.w.pre
    rcases s with ⟨s, n'⟩ | s
    · refine .inl ⟨s, fun z => n' ?_⟩
      rcases z with z | z
      · exact .inl (by rw [e2]; exact List.mem_append_left _ z)
      · exact .inr (by rw [t.b]; exact z)
    · exact .inr s
  | .ref i, v, b, r => by
    obtain ⟨a, e, q⟩ := r
    obtain ⟨new, e2, _⟩ := t.w.pre
    have hi : i < ρ.v.length := by
      have b' : Nat.blt i n = true := by simpa [PV.under] using b
      rw [← hn]
      exact Nat.lt_of_succ_le (Nat.le_of_ble_eq_true b')
    rw [e2, List.getElem?_append_left hi] at q
    exact ⟨a, e, q⟩
  | .gl _, _, _, r => r
  | .ty _, _, _, r => r
theorem Rels.cutR {n : Nat} (t : Tr ρ H ρ' H') (hn : n = ρ.v.length) : ∀ {xs : List PV} {vs : List V}, PV.unders n xs = true → Rels K G ρ' H' xs vs → Rels K G ρ H' xs vs
  | [], _, _, r => r
  | x :: xs, vs, b, r => by
    obtain ⟨w, ws, e, r1, r2⟩ := r
    have b' : PV.under n x = true ∧ PV.unders n xs = true := by simpa [PV.unders] using b
    exact ⟨w, ws, e, Rel.cutR t hn b'.1 r1, Rels.cutR t hn b'.2 r2⟩
end
theorem RH.cutTo (rh : RH K G ρ H h) (rh' : RH K G ρ' H' h') (t : Tr ρ H ρ' H') (c : closed h.length h' = true) : RH K G ρ H' (h'.take h.length) := by
  obtain ⟨new, e2, _⟩ := t.w.pre
  have len2 : h.length ≤ h'.length := by rw [← rh.len, ← rh'.len, e2, List.length_append]; omega
  refine ⟨by rw [List.length_take, rh.len]; omega, rh.nd, fun i a u e1 e3 => ?_, fun a ha => ?_⟩
  · have hi : i < h.length := by rw [← rh.len]; exact (List.getElem?_eq_some_iff.mp e1).1
    have cu : PV.unders h.length u.vals = true := List.all_eq_true.mp c u (List.mem_of_getElem? e3)
    rw [List.getElem?_take_of_lt hi] at e3
    have q := rh'.obj i a u (by rw [e2, List.getElem?_append_left (by rw [rh.len]; exact hi)]; exact e1) e3
    have en : h.length = ρ.v.length := rh.len.symm
    cases u with
    | lst xs => obtain ⟨vs, e, q⟩ := q; exact ⟨vs, e, q.cutR t en cu⟩
    | dK xs => obtain ⟨vs, e, q1, q⟩ := q; exact ⟨vs, e, q1, q.cutR t en cu⟩
    | dT xs => obtain ⟨vs, e, q1, q⟩ := q; exact ⟨vs, e, q1, q.cutR t en cu⟩
    | ins c fs => obtain ⟨C, dx, gs, e, g, q1, q⟩ := q; exact ⟨C, dx, gs, e, g, q1, q.cutR t en cu⟩
  · obtain ⟨h1, h2⟩ := rh'.hid a (by rw [t.b]; exact ha)
    exact ⟨h1, fun z => h2 (by rw [e2]; exact List.mem_append_left _ z)⟩
theorem thaw_ok {n : Nat} {x x' : PV} {v : V} (rh : RH K G ρ H h) (rh' : RH K G ρ' H' h') (t : Tr ρ H ρ' H') (e : thaw h.length h' x = some x') (r : Rel K G ρ' H' x v) : Rel K G ρ H' x' v := by
  have en : h.length = ρ.v.length := rh.len.symm
  have plain : ∀ y, (if PV.under h.length y = true then some y else none) = some x' → Rel K G ρ' H' y v → Rel K G ρ H' x' v := fun y e r => by
    by_cases b : PV.under h.length y = true
    · rw [if_pos b] at e; cases e; exact r.cutR t en b
    · rw [if_neg b] at e; cases e
  cases x with
  | ref i =>
    unfold thaw at e
    dsimp only at e
    by_cases b : Nat.blt i h.length = true
    · rw [if_pos b] at e; cases e
      exact Rel.cutR (x := .ref i) t en (by simpa [PV.under] using b) r
    · rw [if_neg b] at e
      split at e
      · rename_i xs e2
        by_cases b2 : PV.unders h.length xs = true
        · rw [if_pos b2] at e; cases e
          obtain ⟨a, rfl, er⟩ := r
          obtain ⟨vs, e3, q⟩ := rh'.at_ er e2
          refine ⟨a, vs, rfl, e3, ?_, q.cutR t en b2⟩
          obtain ⟨new, e4, _⟩ := t.w.pre
          have hi : h.length ≤ i := by
            refine Nat.le_of_not_lt fun z => b ?_
            exact Nat.ble_eq_true_of_le z
          rintro (z | z)
          · obtain ⟨j, hj, ej⟩ := List.mem_iff_getElem.mp z
            have : ρ'.v[j]? = some a := by rw [e4, List.getElem?_append_left hj, List.getElem?_eq_getElem hj, ej]
            have := nd_ix rh'.nd this er
            have := rh.len
            omega
          · exact (rh'.hid a (by rw [t.b]; exact z)).2 (List.mem_of_getElem? er)
        · rw [if_neg b2] at e; cases e
      · cases e
  | non => exact plain .non (by simpa [thaw] using e) r
  | bl b => exact plain (.bl b) (by simpa [thaw] using e) r
  | int b => exact plain (.int b) (by simpa [thaw] using e) r
  | str b => exact plain (.str b) (by simpa [thaw] using e) r
  | tup b => exact plain (.tup b) (by simpa [thaw] using e) r
  | lst b => exact plain (.lst b) (by simpa [thaw] using e) r
  | frz b => exact plain (.frz b) (by simpa [thaw] using e) r
  | gl b => exact plain (.gl b) (by simpa [thaw] using e) r
  | ty b => exact plain (.ty b) (by simpa [thaw] using e) r
theorem tidy_of {Q : VK} {r : Res PV} (rh : RH K G ρ H h) (w : Wp K G W σ ρ H (Rel K G) Q (tidy h.length r)) : Wp K G (fun cls d _ H => W cls d σ H) [] ρ H (Rel K G) Q r := by
  cases r with
  | stuck => exact w.elim
  | ok v h' =>
    intro ρ' H' u rh' t q
    unfold tidy at w
    dsimp only at w
    by_cases c : closed h.length h' = true
    · rw [if_pos c] at w
      cases e : thaw h.length h' v with
      | none => rw [e] at w; exact w ρ' H' u rh' t q
      | some v' => rw [e] at w; exact w ρ H' u (rh.cutTo rh' t c) t.cut (thaw_ok (n := 0) rh rh' t e q)
    · rw [if_neg c] at w; exact w ρ' H' u rh' t q
  | exc e h' =>
    intro ρ' H' cls d rh' t q
    unfold tidy at w
    dsimp only at w
    by_cases c : closed h.length h' = true ∧ PV.unders h.length (e.fs.map (·.2)) = true
    · rw [if_pos c] at w
      refine w ρ H' cls d (rh.cutTo rh' t c.1) t.cut ⟨q.1, ?_⟩
      rcases q.2 with z | ⟨dd, gs, e1, e2, q1, q2⟩
      · exact .inl z
      · exact .inr ⟨dd, gs, e1, e2, q1, q2.cutR t rh.len.symm c.2⟩
    · rw [if_neg c] at w; exact w ρ' H' cls d rh' t q
end

/-! ### defs -/
/-- what a def promises: its mirror's value, or error -/
def spM (K : PySem.W.Frag) (G : Nat → Option Addr) (n : Nat) (f : List PV → M PV) : Sp := fun vs H Q E => vs.length = n ∧ ∃ ρ h xs, RH K G ρ H h ∧ Rels K G ρ H xs vs ∧ Wp K G (fun cls d _ H => E cls d H) [] ρ H (Rel K G) Q (f xs h)
def mStart (n : Nat) (xs : List PV) : Sl := xs.map some ++ List.replicate (n - xs.length) none
def mDef (n : Nat) (b : SM) : List PV → M PV := fun xs h => match b (mStart n xs) h with
  | .nx _ h' => .ok .non h'
  | .rt v h' => .ok v h'
  | .exc e _ h' => .exc e h'
  | _ => .stuck
theorem rels_start {K : PySem.W.Frag} {G : Nat → Option Addr} {ρ : Wd} {H : Hp} {xs : List PV} {vs : List V} {N : List Str} (r : Rels K G ρ H xs vs) : RelS K G ρ H (mStart N.length xs) (L2.start N vs) := by
  refine ⟨by unfold mStart L2.start; rw [List.length_append, List.length_append, List.length_map, List.length_map, List.length_replicate, List.length_replicate, r.length], fun i x e => ?_⟩
  unfold mStart at e
  unfold L2.start
  by_cases hi : i < xs.length
  · rw [List.getElem?_append_left (by simpa using hi), List.getElem?_map] at e
    rw [List.getElem?_append_left (by simpa [← r.length] using hi), List.getElem?_map]
    cases z : xs[i]? with
    | none => rw [z] at e; cases e
    | some y =>
      rw [z] at e
      have e' : some (some y) = some (some x) := e
      cases e'
      obtain ⟨v, ev, q⟩ := r.get z
      exact ⟨v, by rw [ev]; rfl, q⟩
  · rw [List.getElem?_append_right (by simpa using Nat.le_of_not_lt hi), List.getElem?_replicate] at e
    split at e
    · cases e
    · cases e
section
variable {P : Program} {w : World} {K : PySem.W.Frag} {mg : Str → Option Value} {base : Heap} {G : Nat → Option Addr}
theorem fn_mir {x qual : Str} {st : Stmt} {f : Addr} {fd : FuncData} {N ps : List Str} {k : Nat} (F : Fun K x qual st f fd) (S : FnScope N ps (defScope st)) (b : SM)
    (hb : ∀ (cdv : Value) (A : Around) (outer : List Env) (s : Shared) (H : Hp) (E : XK), Room k (A.deeper (PyProof.Rows.envOfC qual (defScope st) s.heap.objs.size f cdv)) →
      PBm (cxOf (L2.CX P w) P w K mg base N qual (defScope st) f cdv A outer s H E) G (fun cls d _ H' => E cls d H') (defBody st) b) :
    FnOk P w K mg base (L2.CX P w) (k + 1) f fd ps (spM K G ps.length (mDef N.length b)) := by
  refine F.okX S (fun vs H Q E h => h.1) (fun cdv A outer s H vs Q E hr h => ⟨_, hb cdv A outer s H E hr, ?_⟩)
  obtain ⟨_, ρ, h, xs, rh, rx, w⟩ := h
  refine ⟨ρ, h, mStart N.length xs, rh, rels_start rx, ?_⟩
  unfold mDef at w
  cases e : b (mStart N.length xs) h with
  | nx p h' => rw [e] at w; exact fun ρ' H' σ' rh' t _ => w ρ' H' .non rh' t rfl
  | rt v h' => rw [e] at w; exact fun ρ' H' u rh' t q => w ρ' H' u rh' t q
  | exc c p h' => rw [e] at w; exact fun ρ' H' σ' cls d rh' t _ q => w ρ' H' cls d rh' t q
  | bk _ _ => rw [e] at w; exact w.elim
  | ct _ _ => rw [e] at w; exact w.elim
  | stuck => rw [e] at w; exact w.elim
/-- a def with a body that raises too, told by another function of the same values -/
theorem spM_imp {n : Nat} {f g : List PV → M PV} (h : ∀ xs, g xs = f xs) (vs : List V) (H : Hp) (Q : VK) (E : XK) (z : spM K G n g vs H Q E) : spM K G n f vs H Q E := by
  have e : g = f := funext h
  rw [← e]; exact z
end
section
variable {X : Cx} {G : Nat → Option Addr} {W : WX} {k : Nat} {f : Addr} {fd : FuncData} {ps : List Str} {n : Nat} {fm : List PV → M PV} {x : Str} {p pos : Pos} {e : Expr} {es : List Expr} {as : EA}
/-- f(e, ..) -/
def mCallF (n : Nat) (f : List PV → M PV) (as : EA) : E := fun s h => (as s h).bind fun xs h1 => if xs.length = n then tidy h1.length (f xs h1) else .stuck
/-- .. keeping what it made -/
def mCallK (n : Nat) (f : List PV → M PV) (as : EA) : E := fun s h => (as s h).bind fun xs h1 => if xs.length = n then f xs h1 else .stuck
theorem Wp.noσ {K : PySem.W.Frag} {σ : St} {ρ : Wd} {H : Hp} {Q : VK} {r : Res PV} (w : Wp K G W σ ρ H (Rel K G) Q r) : Wp K G (fun cls d _ H => W cls d σ H) [] ρ H (Rel K G) Q r := by
  cases r with
  | ok v h' => exact w
  | exc c h' => exact w
  | stuck => exact w.elim
theorem em_callF (F : FnOk X.prog X.w X.K X.mg X.base (L2.CX X.prog X.w) k f fd ps (spM X.K G n fm)) (tk : Takes X W) (hr : Room k X.A) (hm : X.mg x = some (.ref f)) (hk : PySem.W.keepIn X.K (.ref f) = true) (hb : Binds X.K fd ps [])
    (ha : PAm X G W (e :: es) as) (hg : Gl X x := by rfl) (hdb : (x == ("__debug__" : Str)) = false := by decide) (he : starEach (e :: es) X.env = (false, eval e X.env) :: starEach es X.env := by rfl) (hpl : (backTo pos (starEach es X.env)).any (·.1) = false := by rfl) :
    PEm X G W (.Call (.Name x p) (e :: es) [] pos) (mCallF n fm as) := by
  refine pe_imp (pe_callS F hr hg hm hk hb (fun σ => passAt tk σ) ha hdb he hpl) fun σ H Q ⟨ρ, h, s, rh, rs, w⟩ => ?_
  refine ⟨ρ, h, s, rh, rs, w.bind fun xs h1 ρ1 H1 vs ea rh1 t1 q1 w1 => ?_⟩
  obtain ⟨hn, w1⟩ := w1.ite
  exact ⟨by rw [← q1.length]; exact hn, ρ1, h1, xs, rh1, q1, tidy_of rh1 w1⟩
theorem em_callK (F : FnOk X.prog X.w X.K X.mg X.base (L2.CX X.prog X.w) k f fd ps (spM X.K G n fm)) (tk : Takes X W) (hr : Room k X.A) (hm : X.mg x = some (.ref f)) (hk : PySem.W.keepIn X.K (.ref f) = true) (hb : Binds X.K fd ps [])
    (ha : PAm X G W (e :: es) as) (hg : Gl X x := by rfl) (hdb : (x == ("__debug__" : Str)) = false := by decide) (he : starEach (e :: es) X.env = (false, eval e X.env) :: starEach es X.env := by rfl) (hpl : (backTo pos (starEach es X.env)).any (·.1) = false := by rfl) :
    PEm X G W (.Call (.Name x p) (e :: es) [] pos) (mCallK n fm as) := by
  refine pe_imp (pe_callS F hr hg hm hk hb (fun σ => passAt tk σ) ha hdb he hpl) fun σ H Q ⟨ρ, h, s, rh, rs, w⟩ => ?_
  refine ⟨ρ, h, s, rh, rs, w.bind fun xs h1 ρ1 H1 vs ea rh1 t1 q1 w1 => ?_⟩
  obtain ⟨hn, w1⟩ := w1.ite
  exact ⟨by rw [← q1.length]; exact hn, ρ1, h1, xs, rh1, q1, w1.noσ⟩
end
end Mir

set_option Elab.async false
set_option linter.all false
set_option maxRecDepth 100000
namespace Mir
open PySem L2

/-! ### operators -/
def mulOk (i j : Int) : Prop := i.natAbs < 18446744073709551616 ∨ j.natAbs < 18446744073709551616 ∨ i.natAbs.log2 + j.natAbs.log2 < 1000000
instance (i j : Int) : Decidable (mulOk i j) := by unfold mulOk; infer_instance
def divOk (j : Int) : Prop := 0 < j ∧ (j < 1073741824 ∨ j.natAbs.log2 < 9000)
instance (j : Int) : Decidable (divOk j) := by unfold divOk; infer_instance
def powOk (i j : Int) : Prop := 0 ≤ j ∧ j ≤ 1000000 ∧ i.natAbs < 18446744073709551616
instance (i j : Int) : Decidable (powOk i j) := by unfold powOk; infer_instance
def bAdd : PV → PV → M PV := fun x y h => match x, y with
  | .int i, .int j => .ok (.int (i + j)) h
  | .str a, .str b => if a.length + b.length ≤ 16777216 then .ok (.str (a ++ b)) h else .stuck
  | .tup xs, .tup ys => if xs.length + ys.length ≤ 16777216 then .ok (.tup (xs ++ ys)) h else .stuck
  | x, y => match lstOf x h, lstOf y h with
    | some xs, some ys => if xs.length + ys.length ≤ 16777216 then .ok (.lst (xs ++ ys)) h else .stuck
    | _, _ => .stuck
def bSub : PV → PV → M PV := fun x y h => match x, y with
  | .int i, .int j => .ok (.int (i - j)) h
  | _, _ => .stuck
def bMul : PV → PV → M PV := fun x y h => match x, y with
  | .int i, .int j => if mulOk i j then .ok (.int (i * j)) h else .stuck
  | _, _ => .stuck
def bDiv : PV → PV → M PV := fun x y h => match x, y with
  | .int i, .int j => if divOk j then .ok (.int (i / j)) h else .stuck
  | _, _ => .stuck
def bMod : PV → PV → M PV := fun x y h => match x, y with
  | .int i, .int j => if 0 < j then .ok (.int (i % j)) h else .stuck
  | _, _ => .stuck
def bPow : PV → PV → M PV := fun x y h => match x, y with
  | .int i, .int j => if powOk i j then .ok (.int (i ^ j.toNat)) h else .stuck
  | _, _ => .stuck
def uNeg : PV → M PV := fun x h => match x with
  | .int i => .ok (.int (-i)) h
  | _ => .stuck
abbrev rAdd4 (K : PySem.W.Frag) : R2 := fun x y H Q => rI0 (fun i j => .int (i + j)) x y H Q ∨ (∃ i j, x = .str i ∧ y = .str j ∧ i.length + j.length ≤ sizeLine ∧ Q (.str (i ++ j)) H) ∨ rCatA K x y H Q ∨ rCat x y H Q
theorem op_add4 {X : Cx} : OpR X (binaryOp .Add) (rAdd4 X.K) := op_add.or (op_add_str.or (op_catA.or op_cat))
section
variable {K : PySem.W.Frag} {G : Nat → Option Addr} {W : WX}
theorem Rels.nil_of {ρ : Wd} {H : Hp} {xs : List PV} (r : Rels K G ρ H xs []) : xs = [] := List.eq_nil_of_length_eq_zero r.length
theorem m_add : OpM K G W (rAdd4 K) bAdd := by
  intro σ ρ H h x y v u Q rh rx ry w
  have lst : ∀ {r : Res PV}, (match lstOf x h, lstOf y h with
    | some xs, some ys => if xs.length + ys.length ≤ 16777216 then .ok (.lst (xs ++ ys)) h else .stuck
    | _, _ => .stuck) = r → Wp K G W σ ρ H (Rel K G) Q r → rAdd4 K v u H Q := fun {r} e w => by
    subst e
    split at w
    · rename_i xs ys e1 e2
      obtain ⟨z, w⟩ := w.ite
      obtain ⟨a, vs, rfl, h1, q1⟩ := lstOf_ok rh rx e1
      obtain ⟨b, ws, rfl, h2, q2⟩ := lstOf_ok rh ry e2
      exact .inr (.inr (.inr ⟨a, b, vs, ws, rfl, rfl, h1, h2, by rw [← q1.length, ← q2.length]; exact sl_le z, fun p hp => w.side rh hp (rel_lst rh hp (q1.append q2))⟩))
    · exact w.elim
  unfold bAdd at w
  split at w
  · cases rx; cases ry; exact .inl ⟨_, _, rfl, rfl, w.val rh rfl⟩
  · obtain ⟨z, w⟩ := w.ite
    cases rx; cases ry
    exact .inr (.inl ⟨_, _, rfl, rfl, sl_le z, w.val rh rfl⟩)
  · obtain ⟨z, w⟩ := w.ite
    obtain ⟨a, vs, rfl, h1, q1⟩ := rx
    obtain ⟨b, ws, rfl, h2, q2⟩ := ry
    refine .inr (.inr (.inl ⟨a, b, vs, ws, rfl, rfl, h1.sq, h2.sq, by rw [← q1.length, ← q2.length]; exact sl_le z, fun e => w.val rh ?_, fun _ e => w.val rh ?_, fun _ _ p hp => w.side rh hp (rel_tup rh hp (q1.append q2))⟩))
    · subst e
      rw [q1.nil_of]
      exact ⟨b, ws, rfl, h2, q2⟩
    · subst e
      rw [q2.nil_of, List.append_nil]
      exact ⟨a, vs, rfl, h1, q1⟩
  · exact lst rfl w
theorem m_sub : OpM K G W (rI0 fun i j => .int (i - j)) bSub := by
  intro σ ρ H h x y v u Q rh rx ry w
  unfold bSub at w
  split at w
  · cases rx; cases ry; exact ⟨_, _, rfl, rfl, w.val rh rfl⟩
  · exact w.elim
abbrev rMul2 : R2 := fun x y H Q => rI CMul (fun i j => .int (i * j)) x y H Q ∨ rI CMulW (fun i j => .int (i * j)) x y H Q
theorem op_mul2 {X : Cx} : OpR X (binaryOp .Mult) rMul2 := op_mul.or op_mulW
theorem m_mul : OpM K G W rMul2 bMul := by
  intro σ ρ H h x y v u Q rh rx ry w
  unfold bMul at w
  split at w
  · obtain ⟨z, w⟩ := w.ite
    cases rx; cases ry
    have two : (2 : Int) ^ 64 = 18446744073709551616 := by decide
    rcases z with z | z | z
    · exact .inl ⟨_, _, rfl, rfl, .inl (by rw [two]; omega), w.val rh rfl⟩
    · exact .inl ⟨_, _, rfl, rfl, .inr (by rw [two]; omega), w.val rh rfl⟩
    · exact .inr ⟨_, _, rfl, rfl, z, w.val rh rfl⟩
  · exact w.elim
abbrev rDiv2 : R2 := fun x y H Q => rI CDiv (fun i j => .int (i / j)) x y H Q ∨ rI CDivW (fun i j => .int (i / j)) x y H Q
theorem op_div2 {X : Cx} : OpR X (binaryOp .FloorDiv) rDiv2 := op_fdiv.or op_fdivW
theorem m_div : OpM K G W rDiv2 bDiv := by
  intro σ ρ H h x y v u Q rh rx ry w
  unfold bDiv at w
  split at w
  · obtain ⟨z, w⟩ := w.ite
    cases rx; cases ry
    rcases z with ⟨z, z1 | z1⟩
    · exact .inl ⟨_, _, rfl, rfl, ⟨z, z1⟩, w.val rh rfl⟩
    · exact .inr ⟨_, _, rfl, rfl, ⟨z, z1⟩, w.val rh rfl⟩
  · exact w.elim
theorem m_mod : OpM K G W (rI (fun _ j => 0 < j) fun i j => .int (i % j)) bMod := by
  intro σ ρ H h x y v u Q rh rx ry w
  unfold bMod at w
  split at w
  · obtain ⟨z, w⟩ := w.ite
    cases rx; cases ry; exact ⟨_, _, rfl, rfl, z, w.val rh rfl⟩
  · exact w.elim
theorem m_pow : OpM K G W (rI CPow fun i j => .int (i ^ j.toNat)) bPow := by
  intro σ ρ H h x y v u Q rh rx ry w
  unfold bPow at w
  split at w
  · obtain ⟨⟨z1, z2, z3⟩, w⟩ := w.ite
    cases rx; cases ry
    exact ⟨_, _, rfl, rfl, ⟨z1, z2, by rw [show (2 : Nat) ^ 64 = 18446744073709551616 by decide]; exact z3⟩, w.val rh rfl⟩
  · exact w.elim
theorem m_neg : UnM K G W (rU fun i => .int (-i)) uNeg := by
  intro σ ρ H h x v Q rh rx w
  unfold uNeg at w
  split at w
  · cases rx; exact ⟨_, rfl, w.val rh rfl⟩
  · exact w.elim
/-! ### comparisons -/
def cI (f : Int → Int → Bool) : PV → PV → M PV := fun x y h => match x, y with
  | .int i, .int j => .ok (.bl (f i j)) h
  | _, _ => .stuck
theorem m_cI (f : Int → Int → Bool) : OpM K G W (rI0 fun i j => .bl (f i j)) (cI f) := by
  intro σ ρ H h x y v u Q rh rx ry w
  unfold cI at w
  split at w
  · cases rx; cases ry; exact ⟨_, _, rfl, rfl, w.val rh rfl⟩
  · exact w.elim
abbrev cLt := cI fun i j => decide (i < j)
abbrev cLe := cI fun i j => decide (i ≤ j)
abbrev cGt := cI fun i j => decide (j < i)
abbrev cGe := cI fun i j => decide (j ≤ i)
/-! what == may be asked of -/
mutual
def PV.dat : PV → Bool
  | .non => true
  | .bl _ => true
  | .int _ => true
  | .str s => PyData.strOk s
  | .tup xs => PV.dats xs
  | .lst xs => PV.dats xs
  | _ => false
def PV.dats : List PV → Bool
  | [] => true
  | x :: xs => PV.dat x && PV.dats xs
end
mutual
def PV.toD : PV → PyData
  | .non => .none
  | .bl b => .bool b
  | .int i => .int i
  | .str s => .str s
  | .tup xs => .tuple (PV.toDs xs)
  | .lst xs => .list (PV.toDs xs)
  | _ => .none
def PV.toDs : List PV → List PyData
  | [] => []
  | x :: xs => PV.toD x :: PV.toDs xs
end
/-- what stands in a place, as a value (lists of plain things alone) -/
def deref (x : PV) (h : List MO) : PV := match x with
  | .ref i => match h[i]? with
    | some (.lst xs) => .lst xs
    | _ => .ref i
  | x => x
def dOk (x : PV) : Prop := PV.dat x = true ∧ (PV.toD x).depth ≤ 64
instance (x : PV) : Decidable (dOk x) := by unfold dOk; infer_instance
def cEq : PV → PV → M PV := fun x y h => if dOk (deref x h) ∧ dOk (deref y h) then .ok (.bl (PyData.eqv (PV.toD (deref x h)) (PV.toD (deref y h)))) h else .stuck
def cNe : PV → PV → M PV := fun x y h => if dOk (deref x h) ∧ dOk (deref y h) then .ok (.bl (!PyData.eqv (PV.toD (deref x h)) (PV.toD (deref y h)))) h else .stuck
mutual
theorem dp_of {ρ : Wd} {H : Hp} : ∀ {x : PV} {v : V}, PV.dat x = true → Rel K G ρ H x v → Dp K H v (PV.toD x)
  | .non, v, _, r => by cases (show v = .non from r); exact .non
  | .bl b, v, _, r => by cases (show v = .bl b from r); exact .bl b
  | .int i, v, _, r => by cases (show v = .int i from r); exact .int i
  | .str s, v, _, r => by cases (show v = .str s from r); exact .str s
  | .tup xs, v, d, r => by
    obtain ⟨a, vs, rfl, s, q⟩ := r
    exact .tup s.sq (dps_of (by simpa [PV.dat] using d) q)
  | .lst xs, v, d, r => by
    obtain ⟨a, vs, rfl, s, _, q⟩ := r
    exact .lst (.of s) (dps_of (by simpa [PV.dat] using d) q)
  | .frz _, _, d, _ => by simp [PV.dat] at d
  | .ref _, _, d, _ => by simp [PV.dat] at d
  | .gl _, _, d, _ => by simp [PV.dat] at d
  | .ty _, _, d, _ => by simp [PV.dat] at d
theorem dps_of {ρ : Wd} {H : Hp} : ∀ {xs : List PV} {vs : List V}, PV.dats xs = true → Rels K G ρ H xs vs → DpAll K H vs (PV.toDs xs)
  | [], vs, _, r => by cases (show vs = [] from r); exact .nil
  | x :: xs, vs, d, r => by
    obtain ⟨w, ws, rfl, r1, r2⟩ := r
    have d' : PV.dat x = true ∧ PV.dats xs = true := by simpa [PV.dats] using d
    exact .cons (dp_of d'.1 r1) (dps_of d'.2 r2)
end
mutual
theorem canLay_of : ∀ x : PV, PV.dat x = true → (PV.toD x).canLay0 = true
  | .non, _ => rfl
  | .bl _, _ => rfl
  | .int _, _ => rfl
  | .str s, d => by simpa [PV.dat, PV.toD, PyData.canLay0] using d
  | .tup xs, d => by simpa [PV.toD, PyData.canLay0] using canLays_of xs (by simpa [PV.dat] using d)
  | .lst xs, d => by simpa [PV.toD, PyData.canLay0] using canLays_of xs (by simpa [PV.dat] using d)
  | .frz _, d => by simp [PV.dat] at d
  | .ref _, d => by simp [PV.dat] at d
  | .gl _, d => by simp [PV.dat] at d
  | .ty _, d => by simp [PV.dat] at d
theorem canLays_of : ∀ xs : List PV, PV.dats xs = true → PyData.canLayAll0 (PV.toDs xs) = true
  | [], _ => rfl
  | x :: xs, d => by
    have d' : PV.dat x = true ∧ PV.dats xs = true := by simpa [PV.dats] using d
    simp [PV.toDs, PyData.canLayAll0, canLay_of x d'.1, canLays_of xs d'.2]
end
theorem deref_dp {ρ : Wd} {H : Hp} {h : List MO} {x : PV} {v : V} (rh : RH K G ρ H h) (d : PV.dat (deref x h) = true) (r : Rel K G ρ H x v) : Dp K H v (PV.toD (deref x h)) := by
  cases x with
  | ref i =>
    obtain ⟨a, rfl, e⟩ := r
    unfold deref at d ⊢
    dsimp only at d ⊢
    split at d
    · rename_i xs e2
      obtain ⟨vs, e3, q⟩ := rh.at_ e e2
      exact .lst (.of e3) (dps_of (by simpa [PV.dat] using d) q)
    · simp [PV.dat] at d
  | _ => exact dp_of d r
theorem m_eq : OpM K G W (rEqD K) cEq := by
  intro σ ρ H h x y v u Q rh rx ry w
  obtain ⟨⟨d1, d2⟩, w⟩ := Wp.ite w
  exact ⟨_, _, deref_dp rh d1.1 rx, deref_dp rh d2.1 ry, Bool.and_eq_true_iff.mpr ⟨canLay_of _ d1.1, decide_eq_true d1.2⟩, Bool.and_eq_true_iff.mpr ⟨canLay_of _ d2.1, decide_eq_true d2.2⟩, w.val rh rfl⟩
theorem m_ne : OpM K G W (rNeD K) cNe := by
  intro σ ρ H h x y v u Q rh rx ry w
  obtain ⟨⟨d1, d2⟩, w⟩ := Wp.ite w
  exact ⟨_, _, deref_dp rh d1.1 rx, deref_dp rh d2.1 ry, Bool.and_eq_true_iff.mpr ⟨canLay_of _ d1.1, decide_eq_true d1.2⟩, Bool.and_eq_true_iff.mpr ⟨canLay_of _ d2.1, decide_eq_true d2.2⟩, w.val rh rfl⟩
/-- is None -/
def isN : PV → Bool
  | .non => true
  | _ => false
def cIsN : PV → PV → M PV := fun x y h => match y with
  | .non => .ok (.bl (isN x)) h
  | _ => .stuck
def cNotN : PV → PV → M PV := fun x y h => match y with
  | .non => .ok (.bl (!isN x)) h
  | _ => .stuck
theorem isN_ok {ρ : Wd} {H : Hp} {x : PV} {v : V} (r : Rel K G ρ H x v) : decide (v = .non) = isN x := by
  cases x with
  | non => cases (show v = .non from r); rfl
  | bl _ => cases (show v = .bl _ from r); rfl
  | int _ => cases (show v = .int _ from r); rfl
  | str _ => cases (show v = .str _ from r); rfl
  | tup _ => obtain ⟨a, _, rfl, _⟩ := r; rfl
  | lst _ => obtain ⟨a, _, rfl, _⟩ := r; rfl
  | frz _ => obtain ⟨a, _, rfl, _⟩ := r; rfl
  | ref _ => obtain ⟨a, rfl, _⟩ := r; rfl
  | gl _ => obtain ⟨a, rfl, _⟩ := r; rfl
  | ty _ => cases (show v = .ty _ from r); rfl
theorem m_isN : OpM K G W (fun x y H Q => y = .non ∧ Q (.bl (decide (x = .non))) H) cIsN := by
  intro σ ρ H h x y v u Q rh rx ry w
  unfold cIsN at w
  split at w
  · cases ry; exact ⟨rfl, w.val rh (by rw [isN_ok rx]; rfl)⟩
  · exact w.elim
theorem m_notN : OpM K G W (fun x y H Q => y = .non ∧ Q (.bl (!decide (x = .non))) H) cNotN := by
  intro σ ρ H h x y v u Q rh rx ry w
  unfold cNotN at w
  split at w
  · cases ry; exact ⟨rfl, w.val rh (by rw [isN_ok rx]; rfl)⟩
  · exact w.elim
/-- x in a list, a tuple, of flat things -/
def PV.flat : PV → Bool
  | .non => true
  | .bl _ => true
  | .int _ => true
  | .str _ => true
  | _ => false
def PV.eqF : PV → PV → Bool
  | .non, .non => true
  | .bl a, .bl b => a == b
  | .bl a, .int b => (if a then 1 else 0) == b
  | .int a, .bl b => a == (if b then 1 else 0)
  | .int a, .int b => a == b
  | .str a, .str b => a == b
  | _, _ => false
def itemsR (x : PV) (h : List MO) : Option (List PV) := match x with
  | .tup xs => some xs
  | x => lstRd x h
def cIn (neg : Bool) : PV → PV → M PV := fun x y h => match itemsR y h with
  | some xs => if PV.flat x = true ∧ xs.all PV.flat = true then .ok (.bl (if neg = true then !xs.any (fun z => PV.eqF z x) else xs.any (fun z => PV.eqF z x))) h else .stuck
  | none => .stuck
theorem flat_rel {ρ : Wd} {H : Hp} {x : PV} {v : V} (f : PV.flat x = true) (r : Rel K G ρ H x v) : flatV v = true := by
  cases x with
  | non => cases (show v = .non from r); rfl
  | bl _ => cases (show v = .bl _ from r); rfl
  | int _ => cases (show v = .int _ from r); rfl
  | str _ => cases (show v = .str _ from r); rfl
  | _ => cases f
theorem eqF_rel {ρ : Wd} {H : Hp} {x y : PV} {v u : V} (f : PV.flat x = true) (g : PV.flat y = true) (r : Rel K G ρ H x v) (q : Rel K G ρ H y u) : eqV v u = PV.eqF x y := by
  cases x <;> first | (cases f; done) | skip <;> cases y <;> first | (cases g; done) | skip <;> cases r <;> cases q <;> rfl
theorem flats_rel {ρ : Wd} {H : Hp} : ∀ {xs : List PV} {vs : List V}, xs.all PV.flat = true → Rels K G ρ H xs vs → vs.all flatV = true
  | [], vs, _, r => by cases (show vs = [] from r); rfl
  | x :: xs, vs, f, r => by
    obtain ⟨w, ws, rfl, r1, r2⟩ := r
    rw [List.all_cons, Bool.and_eq_true] at f
    rw [List.all_cons, flat_rel f.1 r1, flats_rel f.2 r2]
    rfl
theorem in_rel {ρ : Wd} {H : Hp} {x : PV} {v : V} (g : PV.flat x = true) (q : Rel K G ρ H x v) : ∀ {xs : List PV} {vs : List V}, xs.all PV.flat = true → Rels K G ρ H xs vs → inV v vs = xs.any (fun z => PV.eqF z x)
  | [], vs, _, r => by cases (show vs = [] from r); rfl
  | y :: xs, vs, f, r => by
    obtain ⟨w, ws, rfl, r1, r2⟩ := r
    rw [List.all_cons, Bool.and_eq_true] at f
    have ih := in_rel g q f.2 r2
    unfold inV at ih ⊢
    rw [List.any_cons, List.any_cons, ih, eqF_rel f.1 g r1 q]
theorem itemsR_ok {ρ : Wd} {H : Hp} {h : List MO} {x : PV} {v : V} {xs : List PV} (rh : RH K G ρ H h) (r : Rel K G ρ H x v) (e : itemsR x h = some xs) : ∃ a vs, v = .ref a ∧ (SqL K H a vs ∨ SqT K H a vs) ∧ Rels K G ρ H xs vs := by
  have go : lstRd x h = some xs → ∃ a vs, v = .ref a ∧ (SqL K H a vs ∨ SqT K H a vs) ∧ Rels K G ρ H xs vs := fun e => by
    obtain ⟨a, vs, e1, e2, q⟩ := lstRd_ok rh r e
    exact ⟨a, vs, e1, .inl e2, q⟩
  cases x with
  | tup ys =>
    cases (show some ys = some xs from e)
    obtain ⟨a, vs, rfl, s, q⟩ := r
    exact ⟨a, vs, rfl, .inr s.sq, q⟩
  | _ => exact go e
theorem m_in (neg : Bool) : OpM K G W (rIn K neg) (cIn neg) := by
  intro σ ρ H h x y v u Q rh rx ry w
  unfold cIn at w
  split at w
  · rename_i xs e
    obtain ⟨⟨f1, f2⟩, w⟩ := w.ite
    obtain ⟨a, vs, rfl, s, q⟩ := itemsR_ok rh ry e
    refine ⟨a, vs, rfl, s, flat_rel f1 rx, flats_rel f2 q, w.val rh ?_⟩
    rw [in_rel f1 rx f2 q]
    cases neg <;> rfl
  · exact w.elim

/-! ### what is built in -/
def fAbs : List PV → M PV := fun xs h => match xs with
  | [.int i] => .ok (.int (if i < 0 then -i else i)) h
  | _ => .stuck
theorem m_abs : CallM K G W (fun xs H Q => ∃ i, xs = [.int i] ∧ Q (.int (if i < 0 then -i else i)) H) fAbs := by
  intro σ ρ H h xs vs Q rh rx w
  unfold fAbs at w
  split at w
  · obtain ⟨_, _, rfl, rfl, rfl⟩ := rx; exact ⟨_, rfl, w.val rh rfl⟩
  · exact w.elim
def fInt : List PV → M PV := fun xs h => match xs with
  | [.int i] => .ok (.int i) h
  | [.bl k] => .ok (.int (if k then 1 else 0)) h
  | _ => .stuck
theorem m_int : CallM K G W (fun xs H Q => (∃ i, xs = [.int i] ∧ Q (.int i) H) ∨ ∃ k, xs = [.bl k] ∧ Q (.int (if k then 1 else 0)) H) fInt := by
  intro σ ρ H h xs vs Q rh rx w
  unfold fInt at w
  split at w
  · obtain ⟨_, _, rfl, rfl, rfl⟩ := rx; exact .inl ⟨_, rfl, w.val rh rfl⟩
  · obtain ⟨_, _, rfl, rfl, rfl⟩ := rx; exact .inr ⟨_, rfl, w.val rh rfl⟩
  · exact w.elim
def fLen : List PV → M PV := fun xs h => match xs with
  | [.str z] => if z.length ≤ 16777216 then .ok (.int z.length) h else .stuck
  | [x] => match itemsR x h with
    | some ys => .ok (.int (ys.length : Nat)) h
    | none => .stuck
  | _ => .stuck
abbrev rLen2 (K : PySem.W.Frag) : List V → Hp → VK → Prop := fun xs H Q => (∃ p ys, xs = [.ref p] ∧ (SqL K H p ys ∨ SqT K H p ys) ∧ Q (.int ys.length) H) ∨ ∃ z, xs = [.str z] ∧ z.length ≤ sizeLine ∧ Q (.int z.length) H
theorem call_len2 {X : Cx} : CallR X (.builtin "len") (rLen2 X.K) := call_len_seq.or call_len_str
theorem m_len : CallM K G W (rLen2 K) fLen := by
  intro σ ρ H h xs vs Q rh rx w
  unfold fLen at w
  split at w
  · obtain ⟨z, w⟩ := w.ite
    obtain ⟨_, _, rfl, rfl, rfl⟩ := rx
    exact .inr ⟨_, rfl, sl_le z, w.val rh rfl⟩
  · split at w
    · rename_i ys e
      obtain ⟨_, _, rfl, r1, rfl⟩ := rx
      obtain ⟨a, ws, rfl, s, q⟩ := itemsR_ok rh r1 e
      exact .inl ⟨a, ws, rfl, s, w.val rh (by rw [q.length]; rfl)⟩
    · exact w.elim
  · exact w.elim
def fTup : List PV → M PV := fun xs h => match xs with
  | [.tup ys] => .ok (.tup ys) h
  | [x] => match lstRd x h with
    | some ys => .ok (.tup ys) h
    | none => .stuck
  | _ => .stuck
theorem m_tup : CallM K G W (fun xs H Q => ∃ p ys, xs = [.ref p] ∧ ((SqL K H p ys ∧ ∀ l, H l = none → Q (.ref l) (upd H l (.tup ys))) ∨ (SqT K H p ys ∧ Q (.ref p) H))) fTup := by
  intro σ ρ H h xs vs Q rh rx w
  unfold fTup at w
  split at w
  · obtain ⟨_, _, rfl, ⟨a, ws, rfl, s, q⟩, rfl⟩ := rx
    exact ⟨a, ws, rfl, .inr ⟨s.sq, w.val rh ⟨a, ws, rfl, s, q⟩⟩⟩
  · split at w
    · rename_i ys e
      obtain ⟨_, _, rfl, r1, rfl⟩ := rx
      obtain ⟨a, ws, rfl, s, q⟩ := lstRd_ok rh r1 e
      exact ⟨a, ws, rfl, .inl ⟨s, fun p hp => w.side rh hp (rel_tup rh hp q)⟩⟩
    · exact w.elim
  · exact w.elim
def fLst : List PV → M PV := fun xs h => match xs with
  | [x] => match itemsR x h with
    | some ys => .ok (.lst ys) h
    | none => .stuck
  | _ => .stuck
def fLstR : List PV → M PV := fun xs h => match xs with
  | [x] => match itemsR x h with
    | some ys => .ok (.ref h.length) (h ++ [.lst ys])
    | none => .stuck
  | _ => .stuck
abbrev rLstOf (K : PySem.W.Frag) : List V → Hp → VK → Prop := fun xs H Q => ∃ p ys, xs = [.ref p] ∧ (SqL K H p ys ∨ SqT K H p ys) ∧ ∀ l, H l = none → Q (.ref l) (upd H l (.lst ys))
theorem m_lst : CallM K G W (rLstOf K) fLst := by
  intro σ ρ H h xs vs Q rh rx w
  unfold fLst at w
  split at w
  · split at w
    · rename_i ys e
      obtain ⟨_, _, rfl, r1, rfl⟩ := rx
      obtain ⟨a, ws, rfl, s, q⟩ := itemsR_ok rh r1 e
      exact ⟨a, ws, rfl, s, fun p hp => w.side rh hp (rel_lst rh hp q)⟩
    · exact w.elim
  · exact w.elim
theorem m_lstR : CallM K G W (rLstOf K) fLstR := by
  intro σ ρ H h xs vs Q rh rx w
  unfold fLstR at w
  split at w
  · split at w
    · rename_i ys e
      obtain ⟨_, _, rfl, r1, rfl⟩ := rx
      obtain ⟨a, ws, rfl, s, q⟩ := itemsR_ok rh r1 e
      exact ⟨a, ws, rfl, s, fun p hp => w.pushL rh hp q⟩
    · exact w.elim
  · exact w.elim
/-- lists of ints, of bools -/
def intsOf : List PV → Option (List Int)
  | [] => some []
  | .int i :: r => (intsOf r).map (i :: ·)
  | _ => none
def blsOf : List PV → Option (List Bool)
  | [] => some []
  | .bl i :: r => (blsOf r).map (i :: ·)
  | _ => none
theorem intsOf_rel {ρ : Wd} {H : Hp} : ∀ {xs : List PV} {vs : List V} {ns : List Int}, intsOf xs = some ns → Rels K G ρ H xs vs → vs = ns.map V.int
  | [], vs, ns, e, r => by cases e; exact r
  | x :: xs, vs, ns, e, r => by
    obtain ⟨w, ws, rfl, r1, r2⟩ := r
    cases x with
    | int i =>
      unfold intsOf at e
      cases z : intsOf xs with
      | none => rw [z] at e; cases e
      | some ms =>
        rw [z] at e; cases e
        cases (show w = .int i from r1)
        rw [intsOf_rel z r2]; rfl
    | _ => cases e
theorem blsOf_rel {ρ : Wd} {H : Hp} : ∀ {xs : List PV} {vs : List V} {ns : List Bool}, blsOf xs = some ns → Rels K G ρ H xs vs → vs = ns.map V.bl
  | [], vs, ns, e, r => by cases e; exact r
  | x :: xs, vs, ns, e, r => by
    obtain ⟨w, ws, rfl, r1, r2⟩ := r
    cases x with
    | bl i =>
      unfold blsOf at e
      cases z : blsOf xs with
      | none => rw [z] at e; cases e
      | some ms =>
        rw [z] at e; cases e
        cases (show w = .bl i from r1)
        rw [blsOf_rel z r2]; rfl
    | _ => cases e
def fSum : List PV → M PV := fun xs h => match xs with
  | [x] => match (lstRd x h).bind intsOf with
    | some ns => .ok (.int ns.sum) h
    | none => .stuck
  | _ => .stuck
theorem m_sum : CallM K G W (rSum K) fSum := by
  intro σ ρ H h xs vs Q rh rx w
  unfold fSum at w
  split at w
  · split at w
    · rename_i ns e
      obtain ⟨_, _, rfl, r1, rfl⟩ := rx
      obtain ⟨ys, e1, e2⟩ := Option.bind_eq_some_iff.mp e
      obtain ⟨a, ws, rfl, s, q⟩ := lstRd_ok rh r1 e1
      cases intsOf_rel e2 q
      exact ⟨a, ns, rfl, s, w.val rh rfl⟩
    · exact w.elim
  · exact w.elim
def maxI : List Int → Int
  | [] => 0
  | x :: r => r.foldl (fun a b => if a < b then b else a) x
def minI : List Int → Int
  | [] => 0
  | x :: r => r.foldl (fun a b => if b < a then b else a) x
theorem maxI_go : ∀ (r : List Int) (x : Int), (r.foldl (fun a b => if a < b then b else a) x ∈ x :: r) ∧ ∀ y ∈ x :: r, y ≤ r.foldl (fun a b => if a < b then b else a) x
  | [], x => by simp
  | z :: r, x => by
    obtain ⟨h1, h2⟩ := maxI_go r (if x < z then z else x)
    rw [List.foldl_cons]
    refine ⟨?_, fun y hy => ?_⟩
    · rcases List.mem_cons.mp h1 with e | e
      · rw [e]; split <;> simp
      · exact List.mem_cons_of_mem _ (List.mem_cons_of_mem _ e)
    · have h3 := h2 (if x < z then z else x) List.mem_cons_self
      rcases List.mem_cons.mp hy with rfl | hy
      · refine Int.le_trans ?_ h3; split <;> omega
      · rcases List.mem_cons.mp hy with rfl | hy
        · refine Int.le_trans ?_ h3; split <;> omega
        · exact h2 y (List.mem_cons_of_mem _ hy)
theorem minI_go : ∀ (r : List Int) (x : Int), (r.foldl (fun a b => if b < a then b else a) x ∈ x :: r) ∧ ∀ y ∈ x :: r, r.foldl (fun a b => if b < a then b else a) x ≤ y
  | [], x => by simp
  | z :: r, x => by
    obtain ⟨h1, h2⟩ := minI_go r (if z < x then z else x)
    rw [List.foldl_cons]
    refine ⟨?_, fun y hy => ?_⟩
    · rcases List.mem_cons.mp h1 with e | e
      · rw [e]; split <;> simp
      · exact List.mem_cons_of_mem _ (List.mem_cons_of_mem _ e)
    · have h3 := h2 (if z < x then z else x) List.mem_cons_self
      rcases List.mem_cons.mp hy with rfl | hy
      · refine Int.le_trans h3 ?_; split <;> omega
      · rcases List.mem_cons.mp hy with rfl | hy
        · refine Int.le_trans h3 ?_; split <;> omega
        · exact h2 y (List.mem_cons_of_mem _ hy)
theorem maxI_mem {l : List Int} (h : l ≠ []) : maxI l ∈ l ∧ ∀ y ∈ l, y ≤ maxI l := by
  cases l with
  | nil => exact absurd rfl h
  | cons x r => exact maxI_go r x
theorem minI_mem {l : List Int} (h : l ≠ []) : minI l ∈ l ∧ ∀ y ∈ l, minI l ≤ y := by
  cases l with
  | nil => exact absurd rfl h
  | cons x r => exact minI_go r x
theorem maxI_eq {l : List Int} {m : Int} (h1 : m ∈ l) (h2 : ∀ y, y ∈ l → y ≤ m) : m = maxI l := by
  have h : l ≠ [] := fun e => by rw [e] at h1; cases h1
  have a := maxI_mem h
  have := h2 _ a.1
  have := a.2 _ h1
  omega
theorem minI_eq {l : List Int} {m : Int} (h1 : m ∈ l) (h2 : ∀ y, y ∈ l → m ≤ y) : m = minI l := by
  have h : l ≠ [] := fun e => by rw [e] at h1; cases h1
  have a := minI_mem h
  have := h2 _ a.1
  have := a.2 _ h1
  omega
def fMax : List PV → M PV := fun xs h => match xs with
  | [.int i, .int j] => .ok (.int (if j > i then j else i)) h
  | [x] => match (lstRd x h).bind intsOf with
    | some ns => if 0 < ns.length then .ok (.int (maxI ns)) h else .stuck
    | none => .stuck
  | _ => .stuck
abbrev rMax2 (K : PySem.W.Frag) : List V → Hp → VK → Prop := fun xs H Q => (∃ i j, xs = [.int i, .int j] ∧ Q (.int (if j > i then j else i)) H) ∨ rMax K xs H Q
theorem call_maxA {X : Cx} (hc : X.calm = true) : CallR X (.builtin "max") (rMax2 X.K) := (call_max2 hc).or (cr_max hc)
theorem m_max : CallM K G W (rMax2 K) fMax := by
  intro σ ρ H h xs vs Q rh rx w
  unfold fMax at w
  split at w
  · obtain ⟨_, _, rfl, rfl, _, _, rfl, rfl, rfl⟩ := rx; exact .inl ⟨_, _, rfl, w.val rh rfl⟩
  · split at w
    · rename_i ns e
      obtain ⟨z, w⟩ := w.ite
      obtain ⟨_, _, rfl, r1, rfl⟩ := rx
      obtain ⟨ys, e1, e2⟩ := Option.bind_eq_some_iff.mp e
      obtain ⟨a, ws, rfl, s, q⟩ := lstRd_ok rh r1 e1
      cases intsOf_rel e2 q
      exact .inr ⟨a, ns, rfl, s, z, fun m h1 h2 => w.val rh (by rw [maxI_eq h1 h2]; rfl)⟩
    · exact w.elim
  · exact w.elim
def fMin : List PV → M PV := fun xs h => match xs with
  | [.int i, .int j] => .ok (.int (if j < i then j else i)) h
  | [x] => match (lstRd x h).bind intsOf with
    | some ns => if 0 < ns.length then .ok (.int (minI ns)) h else .stuck
    | none => .stuck
  | _ => .stuck
abbrev rMin2 (K : PySem.W.Frag) : List V → Hp → VK → Prop := fun xs H Q => (∃ i j, xs = [.int i, .int j] ∧ Q (.int (if j < i then j else i)) H) ∨ rMin K xs H Q
theorem call_minA {X : Cx} (hc : X.calm = true) : CallR X (.builtin "min") (rMin2 X.K) := (call_min2 hc).or (cr_min hc)
theorem m_min : CallM K G W (rMin2 K) fMin := by
  intro σ ρ H h xs vs Q rh rx w
  unfold fMin at w
  split at w
  · obtain ⟨_, _, rfl, rfl, _, _, rfl, rfl, rfl⟩ := rx; exact .inl ⟨_, _, rfl, w.val rh rfl⟩
  · split at w
    · rename_i ns e
      obtain ⟨z, w⟩ := w.ite
      obtain ⟨_, _, rfl, r1, rfl⟩ := rx
      obtain ⟨ys, e1, e2⟩ := Option.bind_eq_some_iff.mp e
      obtain ⟨a, ws, rfl, s, q⟩ := lstRd_ok rh r1 e1
      cases intsOf_rel e2 q
      exact .inr ⟨a, ns, rfl, s, z, fun m h1 h2 => w.val rh (by rw [minI_eq h1 h2]; rfl)⟩
    · exact w.elim
  · exact w.elim
def fAll : List PV → M PV := fun xs h => match xs with
  | [x] => match (lstRd x h).bind blsOf with
    | some ns => .ok (.bl (ns.all id)) h
    | none => .stuck
  | _ => .stuck
theorem m_all : CallM K G W (rAll K) fAll := by
  intro σ ρ H h xs vs Q rh rx w
  unfold fAll at w
  split at w
  · split at w
    · rename_i ns e
      obtain ⟨_, _, rfl, r1, rfl⟩ := rx
      obtain ⟨ys, e1, e2⟩ := Option.bind_eq_some_iff.mp e
      obtain ⟨a, ws, rfl, s, q⟩ := lstRd_ok rh r1 e1
      cases blsOf_rel e2 q
      exact ⟨a, ns, rfl, s, w.val rh rfl⟩
    · exact w.elim
  · exact w.elim
def fAny : List PV → M PV := fun xs h => match xs with
  | [x] => match (lstRd x h).bind blsOf with
    | some ns => .ok (.bl (ns.any id)) h
    | none => .stuck
  | _ => .stuck
theorem m_any : CallM K G W (rAny K) fAny := by
  intro σ ρ H h xs vs Q rh rx w
  unfold fAny at w
  split at w
  · split at w
    · rename_i ns e
      obtain ⟨_, _, rfl, r1, rfl⟩ := rx
      obtain ⟨ys, e1, e2⟩ := Option.bind_eq_some_iff.mp e
      obtain ⟨a, ws, rfl, s, q⟩ := lstRd_ok rh r1 e1
      cases blsOf_rel e2 q
      exact ⟨a, ns, rfl, s, w.val rh rfl⟩
    · exact w.elim
  · exact w.elim
end
end Mir

set_option Elab.async false
set_option linter.all false
set_option maxRecDepth 100000
set_option maxHeartbeats 4000000
namespace Mir
open PySem PySem.Spec PyProof.Rows L2

/-! ### tuple * a number of at most 1 -/
theorem tupmul_one (l : Addr) (items : Array Value) (n : Nat) (dd : Option Addr) (sl : Array (Option Value)) (u : Tok) :
    Meets (Builtin.«tuple.__mul__» ⟨[.ref l, .int 1 u], []⟩) (fun _ R s => s.heap.get? l = some { cls := .type "tuple", dict := dd, data := .seq items n, slots := sl } ∧ R (.ok (.ret (Value.ref l))) s) :=
  .of_wp fun prog w A R s h => by
    obtain ⟨hp, g, d, tk, os⟩ := s
    obtain ⟨hl, h⟩ := h
    have f1 := AutoSeq1.idx_int
    wp_walk using wpAny_loadPart' hl
    exact ⟨_, rfl, h⟩
theorem tupmul_none (l : Addr) (items : Array Value) (n : Nat) (dd : Option Addr) (sl : Array (Option Value)) (x : Int) (u : Tok) (c0 : (decide (x < -(2 ^ 63)) || decide (x ≥ 2 ^ 63)) = false) (c1 : (items.isEmpty || x == 1) = false) (c2 : (decide (x ≤ 0) || items.isEmpty) = true) :
    Meets (Builtin.«tuple.__mul__» ⟨[.ref l, .int x u], []⟩) (fun _ R s => s.heap.get? l = some { cls := .type "tuple", dict := dd, data := .seq items n, slots := sl } ∧
      R (.ok (.ret (Value.ref s.heap.objs.size))) { s with heap := s.heap.push { cls := Value.type "tuple", data := Data.seq #[] }, toks := s.toks }) :=
  .of_wp fun prog w A R s h => by
    obtain ⟨hp, g, d, tk, os⟩ := s
    obtain ⟨hl, h⟩ := h
    have f1 := AutoSeq1.idx_int
    wp_walk using wpAny_loadPart' hl
    repeat (first
      | (refine wpAny_ite_false (decide_eq_false (by rw [c0]; exact Bool.false_ne_true)) ?_; wp_walk using wpAny_loadPart' hl)
      | (refine wpAny_ite_false (decide_eq_false (by rw [c1]; exact Bool.false_ne_true)) ?_; wp_walk using wpAny_loadPart' hl)
      | (refine wpAny_ite_true (decide_eq_true (by rw [c2])) ?_; wp_walk using wpAny_loadPart' hl))
    exact ⟨_, rfl, h⟩
def rRepB (K : PySem.W.Frag) : R2 := fun x y H Q => ∃ l k xs, x = .ref l ∧ y = .int k ∧ SqT K H l xs ∧ xs ≠ [] ∧ -1000 ≤ k ∧ ((k = 1 ∧ Q (.ref l) H) ∨ (k ≤ 0 ∧ ∀ p, H p = none → Q (.ref p) (upd H p (.tup []))))
theorem op_repB {X : Cx} : OpR X (binaryOp .Mult) (rRepB X.K) := by
  intro pins s σ H x y v u Q I rx ry h
  obtain ⟨l, k, xs, rfl, rfl, hT, hne, h1, q⟩ := h
  cases rx
  obtain ⟨t, rfl⟩ := ry
  obtain ⟨its, r, ⟨⟨cls, dd, data, sl⟩, ho, hc, n, hd⟩, hs⟩ := I.tuple hT
  simp only at hc hd
  subst hc hd
  rcases q with ⟨rfl, q⟩ | ⟨hk, q⟩
  · refine wpAny_binaryOp_repeat_ref (T := "tuple") (U := "int") (by decide) ⟨_, ho, rfl⟩ (fun s' => typeIs_int s' 1 t) noFill_tuple_mul F.fills_int_mul F.slot_int_rmul repeat_tuple F.slot_int_index.lookup
      (call_meets F.slot_int_rmul (typeIs_int s 1 t) F.entry_int_rmul (F.args_int_rmul_2 _ _) (int_rmul_tuple 1 t l its.toArray n dd sl)
        ⟨ho, rfl, ⟨_, ho, rfl⟩, call_meets F.slot_tuple_mul ⟨_, ho, rfl⟩ F.entry_tuple_mul (F.args_tuple_mul_2 _ _) (tupmul_one l its.toArray n dd sl t) ⟨ho, ?_⟩⟩)
    exact ⟨.ref l, H, I, rfl, q⟩
  · have hn : its ≠ [] := fun e => hne (List.eq_nil_of_length_eq_zero (by rw [r.length, e]; rfl))
    have hi : its.toArray.isEmpty = false := by
      cases its with
      | nil => exact absurd rfl hn
      | cons a b => rfl
    have c0 : (decide (k < -(2 ^ 63)) || decide (k ≥ 2 ^ 63)) = false := by rw [decide_eq_false (by omega), decide_eq_false (by omega)] <;> rfl
    have c1 : (its.toArray.isEmpty || k == 1) = false := by rw [hi, Bool.false_or]; exact beq_eq_false_iff_ne.mpr (by omega)
    have c2 : (decide (k ≤ 0) || its.toArray.isEmpty) = true := by rw [decide_eq_true hk]; rfl
    refine wpAny_binaryOp_repeat_ref (T := "tuple") (U := "int") (by decide) ⟨_, ho, rfl⟩ (fun s' => typeIs_int s' k t) noFill_tuple_mul F.fills_int_mul F.slot_int_rmul repeat_tuple F.slot_int_index.lookup
      (call_meets F.slot_int_rmul (typeIs_int s k t) F.entry_int_rmul (F.args_int_rmul_2 _ _) (int_rmul_tuple k t l its.toArray n dd sl)
        ⟨ho, rfl, ⟨_, ho, rfl⟩, call_meets F.slot_tuple_mul ⟨_, ho, rfl⟩ F.entry_tuple_mul (F.args_tuple_mul_2 _ _) (tupmul_none l its.toArray n dd sl k t c0 c1 c2) ⟨ho, ?_⟩⟩)
    refine ⟨.ref s.heap.objs.size, _, I.laid (t' := s.toks) (o := .tup []) (fun b ob q => Heap.get?_push_of_some _ q) (Nat.le_refl _) ?_, rfl, q _ (I.hok.fresh (Nat.le_refl _))⟩
    exact ⟨Nat.zero_le _, [], .nil, IsTup.new _ _⟩

/-! ### enumerate(a tuple) -/
def IteT (K : PySem.W.Frag) (a : Addr) : It :=
  ⟨fun i H => ∃ (xs : List V) (x : V), SqT K H a xs ∧ xs[i]? = some x, fun i H v H' => ∃ T x, v = .ref T ∧ H T = none ∧ H' = upd H T (.tup [.int (i : Nat), x]) ∧ ∀ xs, SqT K H a xs → xs[i]? = some x, fun i H => ∃ xs : List V, SqT K H a xs ∧ xs.length ≤ i⟩
theorem turn_enumT {P : Program} {w : World} {K : PySem.W.Frag} {elts : List Expr} {kk : Nat} {tpos : Pos} (a e it : Addr) (hai : a ≠ it) (hae : e ≠ a) :
    Turn P w K (.Tuple elts kk tpos) (IteT K a) [e, it] e (fun i h => (∃ old, IsEnum h e it ((i : Nat) : Int) old) ∧ h.IsTupleIter it a i ∧ e ≠ it) where
  mem := List.mem_cons_self
  obj := fun i h st b hb => by
    obtain ⟨⟨old, he⟩, ⟨o, ho, hc, hd⟩, _⟩ := st
    rcases List.mem_cons.mp hb with z | hb
    · rw [z]; exact ⟨_, he, fun v q => nomatch q⟩
    · rw [List.mem_singleton.mp hb]; exact ⟨o, ho, fun v q => by rw [hd] at q; cases q⟩
  keep := fun i h h' st k => by
    obtain ⟨⟨old, he⟩, hi, hne⟩ := st
    exact ⟨⟨old, k e List.mem_cons_self _ he⟩, hi.at fun o q => k it (List.mem_cons_of_mem _ List.mem_cons_self) o q, hne⟩
  item := by
    intro X hP hw hK hc i pins s σ H E I hf st hg
    subst hP hw hK
    obtain ⟨⟨old, he⟩, hit, hne⟩ := st
    obtain ⟨xs, x, hq, hx⟩ := hg
    obtain ⟨its, rv, p, hz⟩ := I.tuple hq
    obtain ⟨u, hu, ru⟩ := rv.get hx
    have hel := Heap.lt_size he
    have hil : it < s.heap.objs.size := by obtain ⟨_, q, _⟩ := hit; exact Heap.lt_size q
    have hil2 : i < its.toArray.size := by rw [List.size_toArray]; exact (List.getElem?_eq_some_iff.mp hu).1
    have hpT : s.heap.IsTuple a its.toArray := by obtain ⟨o, h1, h2, n, h3⟩ := p; exact ⟨o, h1, h2, n, h3⟩
    refine wpAny_pyNext_enum_itemD (Draws.tuple (A := X.A.in1) (I.ok.hd hc) it a hai its.toArray) he ⟨hit, hpT⟩ hil2 hne (by simp [hne, hae]) fun y h' tk hy ho st' hT hsz hk => ?_
    have eu : y = u := by
      have hu' : its.toArray[i]? = some u := by simpa using hu
      exact Option.some.inj (hy.symm.trans hu')
    subst eu
    refine ⟨_, rfl, wpAny_letOwnedTupleGo_enum (s := { s with heap := h', toks := tk + 1 }) ho fun h'' he' sb => ?_⟩
    have hT2 := (sb.2 _ (Nat.ne_of_gt hel)).trans hT
    have new : ObjOk X.prog X.w (upd H s.heap.objs.size (.tup [.int (i : Nat), x])) h'' s.heap.objs.size (.tup [.int (i : Nat), x]) :=
      ⟨by show 2 ≤ sizeLine; decide, [.int i tk, y], .cons ⟨_, rfl⟩ (.cons ru .nil), ⟨_, hT2, rfl, _, rfl⟩⟩
    have I1 : Inv X pins σ (upd H s.heap.objs.size (.tup [.int (i : Nat), x])) { s with heap := h'', toks := tk + 1 } :=
      I.turnedNew (ch := [e, it]) (fun b ob hb q => (sb.2 b (fun z => hb (by simp [z]))).trans (hk b ob (fun z => hb (by simp [z])) (fun z => hb (by simp [z])) q)) hf (Nat.le_refl _) new
    refine ⟨.ref s.heap.objs.size, _, I1, rfl, ⟨_, x, rfl, I.hok.fresh (Nat.le_refl _), rfl, fun ys hy => by rw [I.tuple_inj hy hq]; exact hx⟩, ⟨⟨y, ?_⟩, st'.1.at fun o q => (sb.2 it (Ne.symm hne)).trans q, hne⟩, fun b hb => ?_⟩
    · have e1 : ((i + 1 : Nat) : Int) = (i : Int) + 1 := by omega
      rw [e1]; exact he'
    · have hb' : b < s.heap.objs.size := by
        rcases List.mem_cons.mp hb with z | hb
        · rw [z]; exact hel
        · rw [List.mem_singleton.mp hb]; exact hil
      rw [upd_ne (Nat.ne_of_lt hb')]
      exact (hf b hb).1
  done := by
    intro X hP hw hK hc i pins s σ H E I hf st hg
    subst hP hw hK
    obtain ⟨⟨old, he⟩, hit, hne⟩ := st
    obtain ⟨xs, hq, hx⟩ := hg
    obtain ⟨its, rv, p, hz⟩ := I.tuple hq
    obtain ⟨f0, f1, f2, f3, f4, f5⟩ := hf it (List.mem_cons_of_mem _ List.mem_cons_self)
    have hpT : s.heap.IsTuple a its.toArray := by obtain ⟨o, h1, h2, n, h3⟩ := p; exact ⟨o, h1, h2, n, h3⟩
    have hl := rv.length
    have hn : its.toArray[i]? = none := by
      rw [List.getElem?_toArray]
      exact List.getElem?_eq_none (by omega)
    have tE : s.TypeIs (.ref e) "enumerate" := ⟨_, he, rfl⟩
    unfold pyNext
    refine wpAny_bind (wpAny_attempt (wpAny_callSpecial?_slot (name := Str.ofString "__next__") tE F.slot_enumerate_next (wpAny_call_entry F.slot_enumerate_next tE F.entry_enumerate_next ?_ (F.args_enumerate_next_1 _))))
    show wpAny _ _ (field (.ref e) 2 >>= fun z => _) _ _ _
    refine wpAny_bind (wpAny_field he rfl (x := .ref it) rfl (wpAny_bind (wpAny_nextOf_tuple_end (I.ok.hd hc) hit hpT hn fun h' x he' hx' => ?_)))
    obtain ⟨o, ho, hoc⟩ := hx'
    refine wpAny_bind (wpAny_isInstance (T := "StopIteration") (b := true) ⟨o, ho, hoc⟩ isSubtype_stop (wpAny_pure ?_))
    exact ⟨rfl, I.turned (t' := s.toks) (fun b o hb q => he' b o hb q) f0 f1 f3 f4 f5⟩
  self := fun A i s Q E st h => by
    obtain ⟨⟨_, he⟩, _⟩ := st
    exact wpAny_pyIter_enum he h
theorem new_enumT (l : Addr) (items : Array Value) (n : Nat) (dct : Option Addr) (sl : Array (Option Value)) :
    Meets (Builtin.«enumerate.__new__» ⟨[.type "enumerate", .ref l], []⟩) (fun _ R s => s.heap.get? l = some { cls := .type "tuple", dict := dct, data := .seq items n, slots := sl } ∧
      R (.ok (.ret (.ref (s.heap.push { cls := .type "tuple_iterator", data := .fields #[.ref l, .int 0 0] }).objs.size))) { s with heap := (s.heap.push { cls := .type "tuple_iterator", data := .fields #[.ref l, .int 0 0] }).push { cls := .type "enumerate", data := .fields #[.none, .bool false, .ref s.heap.objs.size, rawInt 0, .none, .none] } }) :=
  .of_wp fun prog w A R s h => by
    obtain ⟨hp, g, d, tk, os⟩ := s
    obtain ⟨hl, h⟩ := h
    have hsub := sub_enumerate
    have q1 : ∀ {A' : Around} {E : Value → Shared → Prop} {Q : Value → Shared → Prop}, Q (.ref hp.objs.size) ⟨hp.push { cls := .type "tuple_iterator", data := .fields #[.ref l, .int 0 0] }, g, d, tk, os⟩ → wpAny (model prog w) A' (pyIter (.ref l)) Q E ⟨hp, g, d, tk, os⟩ :=
      fun q => wpAny_pyIter_tuple ⟨_, hl, rfl, n, rfl⟩ q
    wp_walk using q1
    refine wpAny_stack_any fun st => wpAny_pure ?_
    split
    · rename_i c _ _ _ _ _
      cases (c == Value.type "enumerate") <;> (wp_walk using q1; exact ⟨_, rfl, h⟩)
    · wp_walk using q1
      exact ⟨_, rfl, h⟩
theorem call_enumT {prog : Program} {w : World} {A : Around} {E : Value → Shared → Prop} {s : Shared} {l : Addr} {items : Array Value} {Q : Value → Shared → Prop} (hL : s.heap.IsTuple l items)
    (h : ∀ h', IsEnum h' (s.heap.objs.size + 1) s.heap.objs.size 0 .none → h'.IsTupleIter s.heap.objs.size l 0 → h'.objs.size = s.heap.objs.size + 2 →
      (∀ b o, s.heap.get? b = some o → h'.get? b = some o) → Q (.ref (s.heap.objs.size + 1)) { s with heap := h' }) : wpAny (model prog w) A (call (.type "enumerate") [.ref l]) Q E s := by
  obtain ⟨⟨c, dct, dt, sl⟩, hl, hc, n, hd⟩ := hL
  have hc' : c = .type "tuple" := hc
  have hd' : dt = .seq items n := hd
  subst hc' hd'
  refine callType_new F.called_enumerate (by decide) (F.typeCall_enumerate_1 _) (F.newCall_enumerate_1 _) (fun obj => F.args_object_init_2 obj _) F.entry_enumerate_new (new_enumT l items n dct sl) ⟨hl, ?_⟩
  have hz : (s.heap.push { cls := .type "tuple_iterator", data := .fields #[.ref l, .int 0 0] }).objs.size = s.heap.objs.size + 1 := Heap.size_push ..
  show _ ∧ _
  rw [hz]
  have he : IsEnum ((s.heap.push { cls := .type "tuple_iterator", data := .fields #[.ref l, .int 0 0] }).push { cls := .type "enumerate", data := .fields #[.none, .bool false, .ref s.heap.objs.size, rawInt 0, .none, .none] }) (s.heap.objs.size + 1) s.heap.objs.size 0 .none := by
    have z := Heap.get?_push_size (s.heap.push { cls := .type "tuple_iterator", data := .fields #[.ref l, .int 0 0] }) (o := { cls := .type "enumerate", data := .fields #[.none, .bool false, .ref s.heap.objs.size, rawInt 0, .none, .none] }) rfl
    rw [hz] at z; exact z
  exact ⟨⟨_, he, rfl⟩, h _ he ⟨_, Heap.get?_push_of_some _ (Heap.get?_push_size _ rfl), rfl, rfl⟩ (by rw [Heap.size_push, hz]) fun b o x => Heap.get?_push_of_some _ (Heap.get?_push_of_some _ x)⟩
def iEnumT (K : PySem.W.Frag) (ta : TA) : TI := fun σ H R => ta σ H fun vs H1 => ∃ a xs, vs = [.ref a] ∧ SqT K H1 a xs ∧ R (IteT K a) H1
theorem pi_enumT {X : Cx} {e : Expr} {ta : TA} {p pos tpos : Pos} {elts : List Expr} {kk : Nat} (hg : Gl X "enumerate") (hm : X.mg "enumerate" = none) (ha : PA X [e] ta) (hs : starEach [e] X.env = [(false, eval e X.env)] := by rfl) :
    PI X (.Tuple elts kk tpos) (.Call (.Name "enumerate" p) [e] [] pos) (iEnumT X.K ta) := by
  refine ⟨fun pins s σ H R I h => ?_⟩
  refine Call_ (ld_blt I hg hm boot_enumerate (PyProof.Rows.callWith_type1 (thn (ha.run pos pins s σ H _ I h) fun us s1 ⟨vs, H1, I1, r1, q1⟩ => ?_) hs rfl))
  obtain ⟨a, xs, ex, hq, q⟩ := q1
  subst ex
  cases r1 with
  | cons r rr =>
    cases rr
    cases r
    obtain ⟨its, rv, p', hz⟩ := I1.tuple hq
    have hpT : s1.heap.IsTuple a its.toArray := by obtain ⟨o, h1, h2, n, h3⟩ := p'; exact ⟨o, h1, h2, n, h3⟩
    have hlt : a < s1.heap.objs.size := by obtain ⟨o, h1, _⟩ := hpT; exact Heap.lt_size h1
    refine call_enumT hpT fun h' he hit hsz hk => wpAny_pyIter_enum he ?_
    have I2 : Inv X pins σ H1 { s1 with heap := h' } := I1.kept (t' := s1.toks) hk
    refine ⟨s1.heap.objs.size + 1, [s1.heap.objs.size + 1, s1.heap.objs.size], _, _, H1, rfl, I2, turn_enumT a (s1.heap.objs.size + 1) s1.heap.objs.size (Nat.ne_of_lt hlt) (Nat.ne_of_gt (Nat.lt_succ_of_lt hlt)), ⟨⟨.none, he⟩, hit, Nat.succ_ne_self _⟩, fun b hb => ?_, q⟩
    have hle : s1.heap.objs.size ≤ b := by
      rcases List.mem_cons.mp hb with z | hb
      · rw [z]; exact Nat.le_succ _
      · rw [List.mem_singleton.mp hb]; exact Nat.le_refl _
    exact I1.fpOk hle (I1.hok.fresh hle)

/-! ### sum, greatest, least of a tuple of ints -/
section
variable {prog : Program} {w : World} {A : Around} {E : Value → Shared → Prop} {s : Shared} {l : Addr} {its : List Value} {ns : List Int} {xs : Array (Int × Tok)}
theorem iter_intTup {items : Array Value} {Q : Value → Shared → Prop} (hl : s.heap.IsTuple l items)
    (h : ∀ s₂ : Shared, s₂ = { s with heap := s.heap.push { cls := .type "tuple_iterator", data := .fields #[.ref l, .int 0 0] } } →
      (s₂.heap.IsTupleIter s.heap.objs.size l 0 ∧ s₂.heap.IsTuple l items) → (∀ b ∈ [s.heap.objs.size, l], b < s₂.heap.objs.size) → l ≠ s.heap.objs.size → Q (.ref s.heap.objs.size) s₂) :
    wpAny (model prog w) A (pyIter (.ref l)) Q E s := by
  have hlt : l < s.heap.objs.size := by obtain ⟨_, e, _⟩ := id hl; exact Heap.lt_size e
  refine wpAny_pyIter_tuple hl (h _ rfl ⟨⟨_, Heap.get?_push_size _ rfl, rfl, rfl⟩, hl.at fun o e => Heap.get?_push_of_some _ e⟩ (fun b hb => ?_) (Nat.ne_of_lt hlt))
  show b < (s.heap.push _).objs.size
  rw [Heap.size_push]
  rcases List.mem_cons.mp hb with rfl | hb
  · exact Nat.lt_succ_self _
  · rcases List.mem_cons.mp hb with rfl | hb
    · exact Nat.lt_succ_of_lt hlt
    · cases hb
theorem old_keptT {h' : Heap} (hk : ∀ b o, b ∉ [s.heap.objs.size] → (s.heap.push { cls := .type "tuple_iterator", data := .fields #[.ref l, .int 0 0] }).get? b = some o → h'.get? b = some o) :
    ∀ b o, s.heap.get? b = some o → h'.get? b = some o := fun b o e => by
  refine hk b o (fun hm => ?_) (Heap.get?_push_of_some _ e)
  rcases List.mem_cons.mp hm with e1 | hm
  · exact absurd (e1 ▸ Heap.lt_size e) (Nat.lt_irrefl _)
  · cases hm
theorem maxT_int {Q : Value → Shared → Prop} (hh : A.handled = none) (hl : s.heap.IsTuple l (intItems xs)) (hne : 0 < xs.size)
    (h : ∀ v h' tk, (intItems xs)[argBest (fun i j => decide (numAt xs i > numAt xs j)) (xs.size - 1)]? = some v → (∀ b o, s.heap.get? b = some o → h'.get? b = some o) → Q v { s with heap := h', toks := tk }) :
    wpAny (model prog w) A (call (.builtin "max") [.ref l]) Q E s := by
  refine call_max_walk (iter_intTup hl fun s₂ e st hfp hlI => ?_)
  subst e
  refine ⟨_, _, _, _, _, _, _, rfl, Walks.tuple (A := A.in1) hh _ l hlI (intItems xs), st, hfp, by simpa [intItems] using hne, CmpOf.ints_gt (numAt xs) (fun _ _ => intItems_at), fun v h' tk hP hk => ?_⟩
  exact h v h' tk (by simpa [intItems] using hP) (old_keptT hk)
theorem minT_int {Q : Value → Shared → Prop} (hh : A.handled = none) (hl : s.heap.IsTuple l (intItems xs)) (hne : 0 < xs.size)
    (h : ∀ v h' tk, (intItems xs)[argBest (fun i j => decide (numAt xs i < numAt xs j)) (xs.size - 1)]? = some v → (∀ b o, s.heap.get? b = some o → h'.get? b = some o) → Q v { s with heap := h', toks := tk }) :
    wpAny (model prog w) A (call (.builtin "min") [.ref l]) Q E s := by
  refine call_min_walk (iter_intTup hl fun s₂ e st hfp hlI => ?_)
  subst e
  refine ⟨_, _, _, _, _, _, _, rfl, Walks.tuple (A := A.in1) hh _ l hlI (intItems xs), st, hfp, by simpa [intItems] using hne, CmpOf.ints_lt (numAt xs) (fun _ _ => intItems_at), fun v h' tk hP hk => ?_⟩
  exact h v h' tk (by simpa [intItems] using hP) (old_keptT hk)
theorem sumT_int {Q : Value → Shared → Prop} (hh : A.handled = none) (hl : s.heap.IsTuple l (intItems xs))
    (h : ∀ h' tk t', (∀ b o, s.heap.get? b = some o → h'.get? b = some o) → Q (.int (preSum (numAt xs) xs.size) t') { s with heap := h', toks := tk }) :
    wpAny (model prog w) A (call (.builtin "sum") [.ref l]) Q E s := by
  refine call_sum_walkG (iter_intTup hl fun s₂ e st hfp hlI => ?_)
  subst e
  refine ⟨_, _, _, _, _, _, numAt xs, rfl, Walks.tuple (A := A.in1) hh _ l hlI (intItems xs), st, hfp, (fun _ _ => intItems_at), fun h' tk t' hk => ?_⟩
  have := h h' tk t' (old_keptT hk)
  simpa [intItems] using this
theorem sumT_raw {Q : Value → Shared → Prop} (hh : A.handled = none) (hl : s.heap.IsTuple l its.toArray) (hi : IntsAre its ns)
    (h : ∀ h' tk t', (∀ b o, s.heap.get? b = some o → h'.get? b = some o) → Q (.int ns.sum t') { s with heap := h', toks := tk }) : wpAny (model prog w) A (call (.builtin "sum") [.ref l]) Q E s := by
  obtain ⟨xs, e⟩ := hi.allInts.items
  have hn : numsOf (intItems xs).toList = ns := by rw [← e]; exact hi.numsOf
  rw [nums_intItems] at hn
  rw [e] at hl
  refine sumT_int hh hl fun h' tk t' hk => ?_
  have := h h' tk t' hk
  rw [preSum_eq, List.take_of_length_le (by simp), hn]; exact this
theorem maxT_raw {Q : Value → Shared → Prop} (hh : A.handled = none) (hl : s.heap.IsTuple l its.toArray) (hi : IntsAre its ns) (hne : 0 < ns.length)
    (h : ∀ h' tk M t', (∀ b o, s.heap.get? b = some o → h'.get? b = some o) → M ∈ ns → (∀ a, a ∈ ns → a ≤ M) → Q (.int M t') { s with heap := h', toks := tk }) : wpAny (model prog w) A (call (.builtin "max") [.ref l]) Q E s := by
  obtain ⟨xs, e⟩ := hi.allInts.items
  have hn : numsOf (intItems xs).toList = ns := by rw [← e]; exact hi.numsOf
  rw [nums_intItems] at hn
  subst hn
  rw [e] at hl
  have hsz : 0 < xs.size := by simpa using hne
  refine maxT_int hh hl hsz fun v h' tk hv hk => ?_
  obtain ⟨t, rfl⟩ := intItems_at hv
  obtain ⟨h1, h2⟩ := argBest_gt (numAt xs) (xs.size - 1)
  refine h h' tk _ t hk ?_ fun a ha => ?_
  · rw [numAt_eq]; exact PySem.getD_mem (by rw [List.length_map, Array.length_toList]; omega)
  · obtain ⟨j, hj, rfl⟩ := mem_getD ha
    rw [List.length_map, Array.length_toList] at hj
    rw [← numAt_eq]; exact h2 j (by omega)
theorem minT_raw {Q : Value → Shared → Prop} (hh : A.handled = none) (hl : s.heap.IsTuple l its.toArray) (hi : IntsAre its ns) (hne : 0 < ns.length)
    (h : ∀ h' tk M t', (∀ b o, s.heap.get? b = some o → h'.get? b = some o) → M ∈ ns → (∀ a, a ∈ ns → M ≤ a) → Q (.int M t') { s with heap := h', toks := tk }) : wpAny (model prog w) A (call (.builtin "min") [.ref l]) Q E s := by
  obtain ⟨xs, e⟩ := hi.allInts.items
  have hn : numsOf (intItems xs).toList = ns := by rw [← e]; exact hi.numsOf
  rw [nums_intItems] at hn
  subst hn
  rw [e] at hl
  have hsz : 0 < xs.size := by simpa using hne
  refine minT_int hh hl hsz fun v h' tk hv hk => ?_
  obtain ⟨t, rfl⟩ := intItems_at hv
  obtain ⟨h1, h2⟩ := argBest_lt (numAt xs) (xs.size - 1)
  refine h h' tk _ t hk ?_ fun a ha => ?_
  · rw [numAt_eq]; exact PySem.getD_mem (by rw [List.length_map, Array.length_toList]; omega)
  · obtain ⟨j, hj, rfl⟩ := mem_getD ha
    rw [List.length_map, Array.length_toList] at hj
    rw [← numAt_eq]; exact h2 j (by omega)
end
section
variable {X : Cx}
theorem isTup_at {h : Heap} {a : Addr} {its : List Value} (p : IsTup h a its.toArray) : h.IsTuple a its.toArray := by
  obtain ⟨o, h1, h2, n, h3⟩ := p; exact ⟨o, h1, h2, n, h3⟩
def rSumT (K : PySem.W.Frag) : List V → Hp → VK → Prop := fun vs H Q => ∃ (a : Addr) (ns : List Int), vs = [V.ref a] ∧ SqT K H a (ns.map V.int) ∧ Q (.int ns.sum) H
def rMaxT (K : PySem.W.Frag) : List V → Hp → VK → Prop := fun vs H Q => ∃ (a : Addr) (ns : List Int), vs = [V.ref a] ∧ SqT K H a (ns.map V.int) ∧ 0 < ns.length ∧ ∀ m, m ∈ ns → (∀ y, y ∈ ns → y ≤ m) → Q (.int m) H
def rMinT (K : PySem.W.Frag) : List V → Hp → VK → Prop := fun vs H Q => ∃ (a : Addr) (ns : List Int), vs = [V.ref a] ∧ SqT K H a (ns.map V.int) ∧ 0 < ns.length ∧ ∀ m, m ∈ ns → (∀ y, y ∈ ns → m ≤ y) → Q (.int m) H
theorem cr_sumT (hc : X.calm = true) : CallR X (.builtin "sum") (rSumT X.K) := by
  intro pins s σ H vs us Q I r h
  obtain ⟨a, ns, rfl, hs, q⟩ := h
  obtain ⟨its, rv, hl, _⟩ := I.tuple hs
  rw [Vals.ref1 r]
  exact sumT_raw (I.ok.hd hc) (isTup_at hl) rv.ints fun h' tk t' hk => ⟨.int _, H, I.kept hk, ⟨_, rfl⟩, q⟩
theorem cr_maxT (hc : X.calm = true) : CallR X (.builtin "max") (rMaxT X.K) := by
  intro pins s σ H vs us Q I r h
  obtain ⟨a, ns, rfl, hs, hne, q⟩ := h
  obtain ⟨its, rv, hl, _⟩ := I.tuple hs
  rw [Vals.ref1 r]
  exact maxT_raw (I.ok.hd hc) (isTup_at hl) rv.ints hne fun h' tk m t' hk h1 h2 => ⟨.int _, H, I.kept hk, ⟨_, rfl⟩, q m h1 h2⟩
theorem cr_minT (hc : X.calm = true) : CallR X (.builtin "min") (rMinT X.K) := by
  intro pins s σ H vs us Q I r h
  obtain ⟨a, ns, rfl, hs, hne, q⟩ := h
  obtain ⟨its, rv, hl, _⟩ := I.tuple hs
  rw [Vals.ref1 r]
  exact minT_raw (I.ok.hd hc) (isTup_at hl) rv.ints hne fun h' tk m t' hk h1 h2 => ⟨.int _, H, I.kept hk, ⟨_, rfl⟩, q m h1 h2⟩
end
end Mir

set_option Elab.async false
set_option linter.all false
set_option maxRecDepth 100000
namespace Mir
open PySem L2

/-! ### code that is not reached -/
def mXE : E := fun _ _ => .stuck
def mXT : ET := fun _ _ => .stuck
def mXS : SM := fun _ _ => .stuck
section
variable {X : Cx} {G : Nat → Option Addr} {W : WX}
theorem em_x {e : Expr} : PEm X G W e mXE := ⟨fun pins s σ H Q I ⟨ρ, h, p, rh, rs, w⟩ => w.elim⟩
theorem tm_x {e : Expr} : PTm X G W e mXT := ⟨fun pins s σ H Q I ⟨ρ, h, p, rh, rs, w⟩ => w.elim⟩
theorem sm_x {st : Stmt} : PSm X G W st mXS := ⟨fun pins s σ H D I ⟨ρ, h, p, rh, rs, w⟩ => w.elim⟩
end

/-! ### enumerate -/
section
variable {X : Cx} {G : Nat → Option Addr} {W : WX} {e : Expr} {elts : List Expr} {kk : Nat} {tpos pos p0 : Pos} {as : EA}
theorem im_enum (hm : X.mg "enumerate" = none) (ha : PAm X G W [e] as) (hg : Gl X "enumerate" := by rfl) (hs : starEach [e] X.env = [(false, eval e X.env)] := by rfl) : PIm X G W (.Tuple elts kk tpos) (.Call (.Name "enumerate" p0) [e] [] pos) (mEnum as) := by
  refine pi_imp (pi_or (pi_enum hg hm ha hs) (pi_enumT hg hm ha hs)) fun σ H R ⟨ρ, h, p, rh, rs, w⟩ => ?_
  by_cases ht : ∃ xs h1, as p h = .ok [.tup xs] h1
  · obtain ⟨xs, h1, et⟩ := ht
    refine .inr ⟨ρ, h, p, rh, rs, w.bind fun x h1 ρ1 H1 v ea rh1 t1 q1 w1 => ?_⟩
    rw [et] at ea
    cases ea
    obtain ⟨v, _, rfl, r1, rfl⟩ := q1
    obtain ⟨b, vs, rfl, s, q⟩ := id r1
    have w2 : Wp X.K G W σ ρ1 H1 (JOk X.K G) R (.ok (enumP 0 xs, []) h1) := w1
    refine ⟨b, vs, rfl, s.sq, Wp.valI rh1 w2 ?_⟩
    intro ρ' H' h' rh' t g
    obtain ⟨ws, s', q'⟩ := later_tup rh1 r1 t b rfl
    have len : (enumP 0 xs).length = ws.length := by rw [enumP_len, q'.length]
    refine ⟨fun i hi => ?_, fun i hi => ⟨ws, s', by rw [← len]; exact hi⟩⟩
    have hi' : i < ws.length := by rw [← len]; exact hi
    refine ⟨⟨ws, _, s', List.getElem?_eq_getElem hi'⟩, fun v H2 y => ?_⟩
    obtain ⟨T, x, rfl, nT, rfl, f⟩ := y
    obtain ⟨px, epx, rx⟩ := q'.get' (f _ s')
    refine ⟨.tup [.int (i : Nat), px], ?_, pair_new rh' nT rfl rx, rh'.beside nT, .new nT⟩
    rw [enumP_get, epx, Nat.zero_add]; rfl
  · refine .inl ⟨ρ, h, p, rh, rs, w.bind fun x h1 ρ1 H1 v ea rh1 t1 q1 w1 => ?_⟩
    unfold pEnum at w1
    split at w1
    · rename_i x
      split at w1
      · rename_i r e
        obtain ⟨v, _, rfl, r1, rfl⟩ := q1
        obtain ⟨b, rfl⟩ := ref_of_items e r1
        have nt : ∀ xs, x ≠ .tup xs := fun xs z => ht ⟨xs, h1, by rw [ea, z]⟩
        have g0 : Grd r.2 h1 := grd_items e
        obtain ⟨vs, s, _⟩ := later_lst rh1 e nt r1 rh1 .refl g0 b rfl
        refine ⟨b, vs, rfl, s, Wp.valI rh1 w1 ?_⟩
        intro ρ' H' h' rh' t g
        obtain ⟨ws, s', q'⟩ := later_lst rh1 e nt r1 rh' t g b rfl
        have len : (enumP 0 r.1).length = ws.length := by rw [enumP_len, q'.length]
        refine ⟨fun i hi => ?_, fun i hi => ⟨ws, s', by rw [← len]; exact hi⟩⟩
        have hi' : i < ws.length := by rw [← len]; exact hi
        refine ⟨⟨ws, _, s', List.getElem?_eq_getElem hi'⟩, fun v H2 y => ?_⟩
        obtain ⟨T, x, rfl, nT, rfl, f⟩ := y
        obtain ⟨px, epx, rx⟩ := q'.get' (f _ s')
        refine ⟨.tup [.int (i : Nat), px], ?_, pair_new rh' nT rfl rx, rh'.beside nT, .new nT⟩
        rw [enumP_get, epx, Nat.zero_add]; rfl
      · exact w1.elim
    · exact w1.elim
end

/-! ### products -/
/-- a sequence so many times -/
def repL (k : Int) (xs : List PV) : List PV := (List.replicate k.toNat xs).flatten
def bMulS (keep : Bool) : PV → PV → M PV := fun x y h => match x, y with
  | .int i, .int j => if mulOk i j then .ok (.int (i * j)) h else .stuck
  | .tup xs, .int k => if 0 < xs.length ∧ xs.length ≤ 1000 ∧ -1000 ≤ k ∧ k ≤ 1000 then .ok (.tup (repL k xs)) h else .stuck
  | x, .int k => match lstOf x h with
    | some xs => if -1000000 ≤ k ∧ k ≤ 1000000 ∧ xs.length * k.toNat ≤ 16777216 then (if keep = true then .ok (.ref h.length) (h ++ [.lst (repL k xs)]) else .ok (.lst (repL k xs)) h) else .stuck
    | none => .stuck
  | _, _ => .stuck
abbrev rMulS (K : PySem.W.Frag) : R2 := fun x y H Q => rMul2 x y H Q ∨ (rRepT K x y H Q ∨ rRepB K x y H Q) ∨ rRep x y H Q
theorem op_mulS {X : Cx} : OpR X (binaryOp .Mult) (rMulS X.K) := op_mul2.or ((op_repT.or op_repB).or op_rep)
section
variable {K : PySem.W.Frag} {G : Nat → Option Addr} {W : WX}
theorem m_mulS (keep : Bool) : OpM K G W (rMulS K) (bMulS keep) := by
  intro σ ρ H h x y v u Q rh rx ry w
  have lst : ∀ (k : Int), u = .int k → Wp K G W σ ρ H (Rel K G) Q (match lstOf x h with
    | some xs => if -1000000 ≤ k ∧ k ≤ 1000000 ∧ xs.length * k.toNat ≤ 16777216 then (if keep = true then .ok (.ref h.length) (h ++ [.lst (repL k xs)]) else .ok (.lst (repL k xs)) h) else .stuck
    | none => .stuck) → rMulS K v u H Q := fun k eu w => by
    split at w
    · rename_i xs e1
      obtain ⟨⟨z1, z2, z3⟩, w⟩ := w.ite
      obtain ⟨a, vs, rfl, h1, q1⟩ := lstOf_ok rh rx e1
      refine .inr (.inr ⟨a, k, vs, rfl, eu, h1, by omega, by omega, by rw [← q1.length]; exact sl_le z3, fun p hp => ?_⟩)
      cases keep with
      | true =>
        rw [if_pos rfl] at w
        exact w.pushL rh hp (q1.flatRep _)
      | false =>
        rw [if_neg (by decide)] at w
        exact w.side rh hp (rel_lst rh hp (q1.flatRep _))
    · exact w.elim
  unfold bMulS at w
  split at w
  · obtain ⟨z, w⟩ := w.ite
    refine .inl (m_mul (W := W) σ ρ H h _ _ v u Q rh rx ry ?_)
    unfold bMul
    dsimp only
    rw [if_pos z]
    exact w
  · rename_i xs k
    obtain ⟨⟨z1, z2, z3, z4⟩, w⟩ := w.ite
    obtain ⟨a, vs, rfl, h1, q1⟩ := rx
    cases ry
    have hne : vs ≠ [] := fun e => by rw [q1.length, e] at z1; exact absurd z1 (by decide)
    by_cases hk : 2 ≤ k
    · exact .inr (.inl (.inl ⟨a, k, vs, rfl, rfl, h1.sq, hne, hk, z4, by rw [← q1.length]; exact z2, fun p hp => w.side rh hp (rel_tup rh hp (q1.flatRep _))⟩))
    · refine .inr (.inl (.inr ⟨a, k, vs, rfl, rfl, h1.sq, hne, z3, ?_⟩))
      by_cases hk1 : k = 1
      · subst hk1
        refine .inl ⟨rfl, w.val rh ⟨a, vs, rfl, h1, ?_⟩⟩
        have : repL 1 xs = xs := by unfold repL; simp
        rw [this]; exact q1
      · refine .inr ⟨by omega, fun p hp => w.side rh hp (rel_tup rh hp ?_)⟩
        have : k.toNat = 0 := by omega
        unfold repL
        rw [this]
        exact rfl
  · exact lst _ ry w
  · exact w.elim
end

/-! ### isinstance -/
/-- the type of a value -/
def tyN (x : PV) (h : List MO) : Option String := match x with
  | .non => some "NoneType"
  | .bl _ => some "bool"
  | .int _ => some "int"
  | .str _ => some "str"
  | .tup _ => some "tuple"
  | .lst _ => some "list"
  | .frz _ => some "list"
  | .ref i => match h[i]? with
    | some (.lst _) => some "list"
    | some (.dK _) => some "dict"
    | some (.dT _) => some "dict"
    | _ => none
  | _ => none
def isTy (a b : String) : Bool := a == b || (a == "bool" && b == "int")
def tyL : List String := ["NoneType", "bool", "int", "str", "tuple", "list", "dict"]
def tyC : List String := ["bool", "int", "str", "tuple", "list", "dict"]
theorem kit_tab : ∀ a ∈ tyL, ∀ b ∈ tyC, kitB a b = some (isTy a b) := by decide +kernel
def tysOf : List PV → Option (List String)
  | [] => some []
  | .ty n :: r => if tyC.contains n = true then (tysOf r).map (n :: ·) else none
  | _ => none
def fIsi : List PV → M PV := fun xs h => match xs with
  | [x, .ty n] => match tyN x h with
    | some t => if tyC.contains n = true then .ok (.bl (isTy t n)) h else .stuck
    | none => .stuck
  | [x, .tup cs] => match tyN x h, tysOf cs with
    | some t, some ns => .ok (.bl (ns.any (isTy t))) h
    | _, _ => .stuck
  | _ => .stuck
abbrev rIsi3 (K : PySem.W.Frag) : List V → Hp → VK → Prop := fun xs H Q => rIsi K xs H Q ∨ rIsiT K xs H Q ∨ rIsiK K xs H Q
theorem call_isi3 {X : Cx} : CallR X (.builtin "isinstance") (rIsi3 X.K) := call_isi.or (call_isiT.or call_isiK)
section
variable {K : PySem.W.Frag} {G : Nat → Option Addr} {W : WX} {ρ : Wd} {H : Hp} {h : List MO}
theorem tyN_mem {x : PV} {t : String} (e : tyN x h = some t) : t ∈ tyL := by
  unfold tyN at e
  split at e
  case h_8 => (split at e <;> first | (cases e; done) | (cases e; decide))
  all_goals first | (cases e; done) | (cases e; decide)
theorem tyN_ok {x : PV} {v : V} {t : String} (rh : RH K G ρ H h) (r : Rel K G ρ H x v) (e : tyN x h = some t) : TyX K H v (.type t) := by
  cases x with
  | non => cases e; cases r; exact .base .non
  | bl b => cases e; cases r; exact .base (.bl _)
  | int b => cases e; cases r; exact .base (.int _)
  | str b => cases e; cases r; exact .base (.str _)
  | tup xs =>
    cases e
    obtain ⟨a, vs, rfl, s, _⟩ := r
    rcases s with s | ⟨o, its, n, s, c, _⟩
    · exact .base (.tup s)
    · exact .kTuple s c
  | lst xs =>
    cases e
    obtain ⟨a, vs, rfl, s, _⟩ := r
    exact .base (.lst s)
  | frz xs =>
    cases e
    obtain ⟨a, vs, rfl, s, _⟩ := r
    rcases s with ⟨s | ⟨o, s⟩, _⟩ | ⟨o, its, n, s, c, _⟩
    · exact .base (.lst s)
    · exact .base (.frz s)
    · exact .kList s c
  | ref i =>
    obtain ⟨a, rfl, e1⟩ := r
    unfold tyN at e
    dsimp only at e
    split at e
    · rename_i e2; cases e; obtain ⟨vs, e3, _⟩ := rh.at_ e1 e2; exact .base (.lst e3)
    · rename_i e2; cases e; obtain ⟨vs, e3, _⟩ := rh.at_ e1 e2; exact .base (.dK e3)
    · rename_i e2; cases e; obtain ⟨vs, e3, _⟩ := rh.at_ e1 e2; exact .base (.dT e3)
    · cases e
  | gl i => cases e
  | ty n => cases e
theorem tys_ok : ∀ {cs : List PV} {vs : List V} {ns : List String}, tysOf cs = some ns → Rels K G ρ H cs vs → vs = ns.map V.ty ∧ ∀ n ∈ ns, n ∈ tyC
  | [], vs, ns, e, r => by cases e; exact ⟨r, fun _ z => nomatch z⟩
  | x :: xs, vs, ns, e, r => by
    obtain ⟨w, ws, rfl, r1, r2⟩ := r
    cases x with
    | ty n =>
      unfold tysOf at e
      split at e
      · rename_i hc
        cases z : tysOf xs with
        | none => rw [z] at e; cases e
        | some ms =>
          rw [z] at e; cases e
          cases (show w = .ty n from r1)
          obtain ⟨e2, e3⟩ := tys_ok z r2
          refine ⟨by rw [e2]; rfl, fun m hm => ?_⟩
          rcases List.mem_cons.mp hm with rfl | hm
          · exact List.contains_iff_mem.mp hc
          · exact e3 m hm
      · cases e
    | _ => cases e
theorem kitAny_tys {t : String} (ht : t ∈ tyL) : ∀ {ns : List String}, (∀ n ∈ ns, n ∈ tyC) → PySem.W.kitAny K (.type t) (ns.map Value.type) = some (ns.any (isTy t))
  | [], _ => rfl
  | n :: ns, hn => by
    have h1 : PySem.W.kitOne K (.type t) (.type n) = some (isTy t n) := kit_ty (kit_tab t ht n (hn n List.mem_cons_self))
    refine kitAny_cons h1 (fun e => ?_) (fun e => ?_)
    · rw [List.any_cons, e, Bool.false_or]; exact kitAny_tys ht fun m hm => hn m (List.mem_cons_of_mem _ hm)
    · rw [List.any_cons, e, Bool.true_or]
theorem clsV_tys : ∀ (ns : List String), Paired ClsV (ns.map V.ty) (ns.map Value.type)
  | [] => .nil
  | n :: ns => .cons (.ty n) (clsV_tys ns)
theorem vals_tys : ∀ {ns : List String} {us : List Value}, Vals (ns.map V.ty) us → us = ns.map Value.type
  | [], us, r => by cases r; rfl
  | n :: ns, us, r => by
    cases r with
    | cons r1 r2 =>
      rw [vals_tys r2]
      rw [show _ = Value.type n from r1]
      rfl
theorem m_isi : CallM K G W (rIsi3 K) fIsi := by
  intro σ ρ H h xs vs Q rh rx w
  unfold fIsi at w
  split at w
  · rename_i x n
    split at w
    · rename_i t et
      obtain ⟨z, w⟩ := w.ite
      obtain ⟨v, _, rfl, r1, _, _, rfl, rfl, rfl⟩ := rx
      exact .inl ⟨v, .ty n, _, _, _, rfl, .ty n, tyN_ok rh r1 et, kit_ty (kit_tab t (tyN_mem et) n (List.contains_iff_mem.mp z)), w.val rh rfl⟩
    · exact w.elim
  · rename_i x cs
    split at w
    · rename_i t ns et en
      obtain ⟨v, _, rfl, r1, _, _, rfl, ⟨a, ws, rfl, s, q⟩, rfl⟩ := rx
      obtain ⟨rfl, hn⟩ := tys_ok en q
      rcases s with s | ⟨o, its, n, e1, e2, e3, _, e5⟩
      · exact .inr (.inl ⟨v, a, _, _, _, _, rfl, s, clsV_tys ns, tyN_ok rh r1 et, kitAny_tys (tyN_mem et) hn, w.val rh rfl⟩)
      · obtain ⟨oc, od, dt, sl⟩ := o
        simp only at e2 e3
        subst e2 e3
        refine .inr (.inr ⟨v, a, od, its.toList, n, sl, _, _, rfl, by simpa using e1, tyN_ok rh r1 et, ?_, w.val rh rfl⟩)
        rw [vals_tys e5]
        exact kitAny_tys (tyN_mem et) hn
    · exact w.elim
  · exact w.elim
end

/-! ### sums, greatest, least of lists and tuples -/
section
variable {K : PySem.W.Frag} {G : Nat → Option Addr} {W : WX}
def fSumA : List PV → M PV := fun xs h => match xs with
  | [x] => match (itemsR x h).bind intsOf with
    | some ns => .ok (.int ns.sum) h
    | none => .stuck
  | _ => .stuck
abbrev rSumA (K : PySem.W.Frag) : List V → Hp → VK → Prop := fun xs H Q => rSum K xs H Q ∨ rSumT K xs H Q
theorem call_sumA {X : Cx} (hc : X.calm = true) : CallR X (.builtin "sum") (rSumA X.K) := (cr_sum hc).or (cr_sumT hc)
theorem m_sumA : CallM K G W (rSumA K) fSumA := by
  intro σ ρ H h xs vs Q rh rx w
  unfold fSumA at w
  split at w
  · split at w
    · rename_i ns e
      obtain ⟨_, _, rfl, r1, rfl⟩ := rx
      obtain ⟨ys, e1, e2⟩ := Option.bind_eq_some_iff.mp e
      obtain ⟨a, ws, rfl, s, q⟩ := itemsR_ok rh r1 e1
      cases intsOf_rel e2 q
      rcases s with s | s
      · exact .inl ⟨a, ns, rfl, s, w.val rh rfl⟩
      · exact .inr ⟨a, ns, rfl, s, w.val rh rfl⟩
    · exact w.elim
  · exact w.elim
def fMaxA : List PV → M PV := fun xs h => match xs with
  | [.int i, .int j] => .ok (.int (if j > i then j else i)) h
  | [x] => match (itemsR x h).bind intsOf with
    | some ns => if 0 < ns.length then .ok (.int (maxI ns)) h else .stuck
    | none => .stuck
  | _ => .stuck
abbrev rMaxA (K : PySem.W.Frag) : List V → Hp → VK → Prop := fun xs H Q => rMax2 K xs H Q ∨ rMaxT K xs H Q
theorem call_maxAA {X : Cx} (hc : X.calm = true) : CallR X (.builtin "max") (rMaxA X.K) := (call_maxA hc).or (cr_maxT hc)
theorem m_maxA : CallM K G W (rMaxA K) fMaxA := by
  intro σ ρ H h xs vs Q rh rx w
  unfold fMaxA at w
  split at w
  · obtain ⟨_, _, rfl, rfl, _, _, rfl, rfl, rfl⟩ := rx; exact .inl (.inl ⟨_, _, rfl, w.val rh rfl⟩)
  · split at w
    · rename_i ns e
      obtain ⟨z, w⟩ := w.ite
      obtain ⟨_, _, rfl, r1, rfl⟩ := rx
      obtain ⟨ys, e1, e2⟩ := Option.bind_eq_some_iff.mp e
      obtain ⟨a, ws, rfl, s, q⟩ := itemsR_ok rh r1 e1
      cases intsOf_rel e2 q
      rcases s with s | s
      · exact .inl (.inr ⟨a, ns, rfl, s, z, fun m h1 h2 => w.val rh (by rw [maxI_eq h1 h2]; rfl)⟩)
      · exact .inr ⟨a, ns, rfl, s, z, fun m h1 h2 => w.val rh (by rw [maxI_eq h1 h2]; rfl)⟩
    · exact w.elim
  · exact w.elim
def fMinA : List PV → M PV := fun xs h => match xs with
  | [.int i, .int j] => .ok (.int (if j < i then j else i)) h
  | [x] => match (itemsR x h).bind intsOf with
    | some ns => if 0 < ns.length then .ok (.int (minI ns)) h else .stuck
    | none => .stuck
  | _ => .stuck
abbrev rMinA (K : PySem.W.Frag) : List V → Hp → VK → Prop := fun xs H Q => rMin2 K xs H Q ∨ rMinT K xs H Q
theorem call_minAA {X : Cx} (hc : X.calm = true) : CallR X (.builtin "min") (rMinA X.K) := (call_minA hc).or (cr_minT hc)
theorem m_minA : CallM K G W (rMinA K) fMinA := by
  intro σ ρ H h xs vs Q rh rx w
  unfold fMinA at w
  split at w
  · obtain ⟨_, _, rfl, rfl, _, _, rfl, rfl, rfl⟩ := rx; exact .inl (.inl ⟨_, _, rfl, w.val rh rfl⟩)
  · split at w
    · rename_i ns e
      obtain ⟨z, w⟩ := w.ite
      obtain ⟨_, _, rfl, r1, rfl⟩ := rx
      obtain ⟨ys, e1, e2⟩ := Option.bind_eq_some_iff.mp e
      obtain ⟨a, ws, rfl, s, q⟩ := itemsR_ok rh r1 e1
      cases intsOf_rel e2 q
      rcases s with s | s
      · exact .inl (.inr ⟨a, ns, rfl, s, z, fun m h1 h2 => w.val rh (by rw [minI_eq h1 h2]; rfl)⟩)
      · exact .inr ⟨a, ns, rfl, s, z, fun m h1 h2 => w.val rh (by rw [minI_eq h1 h2]; rfl)⟩
    · exact w.elim
  · exact w.elim

/-! ### methods of lists -/
def fApp : PV → List PV → M PV := fun x vs h => match x, vs with
  | .ref i, [y] => match h[i]? with
    | some (.lst xs) => if xs.length < 16777216 then .ok .non (h.set i (.lst (xs ++ [y]))) else .stuck
    | _ => .stuck
  | _, _ => .stuck
theorem m_app : MtP K G W rAppend fApp := by
  intro σ ρ H h x v xs vs Q rh rx ry w
  unfold fApp at w
  split at w
  · rename_i i y
    obtain ⟨a, rfl, er⟩ := rx
    obtain ⟨u, _, rfl, r1, rfl⟩ := ry
    split at w
    · rename_i ys e2
      obtain ⟨z, w⟩ := w.ite
      obtain ⟨ws, e3, qs⟩ := rh.at_ er e2
      refine ⟨a, ws, u, rfl, rfl, e3, by rw [← qs.length, sizeLine_eq]; exact z, ?_⟩
      exact w _ _ _ (rh.chg er ⟨_, upd_same, (qs.append (.cons r1 .nil)).mono rh.mut (.chg (List.mem_of_getElem? er))⟩) (.chg (List.mem_of_getElem? er)) rfl
    · exact w.elim
  · exact w.elim
def fExt : PV → List PV → M PV := fun x vs h => match x, vs with
  | .ref i, [y] => match h[i]?, lstOf y h with
    | some (.lst xs), some ys => if xs.length + ys.length ≤ 16777216 then .ok .non (h.set i (.lst (xs ++ ys))) else .stuck
    | _, _ => .stuck
  | _, _ => .stuck
theorem m_ext : MtP K G W rExtend fExt := by
  intro σ ρ H h x v xs vs Q rh rx ry w
  unfold fExt at w
  split at w
  · rename_i i y
    obtain ⟨a, rfl, er⟩ := rx
    obtain ⟨u, _, rfl, r1, rfl⟩ := ry
    split at w
    · rename_i ys zs e2 e4
      obtain ⟨z, w⟩ := w.ite
      obtain ⟨ws, e3, qs⟩ := rh.at_ er e2
      obtain ⟨b, us, rfl, e5, q2⟩ := lstOf_ok rh r1 e4
      refine ⟨a, b, ws, us, rfl, rfl, e3, e5, by rw [← qs.length, ← q2.length]; exact sl_le z, ?_⟩
      exact w _ _ _ (rh.chg er ⟨_, upd_same, (qs.append q2).mono rh.mut (.chg (List.mem_of_getElem? er))⟩) (.chg (List.mem_of_getElem? er)) rfl
    · exact w.elim
  · exact w.elim
def fPop0 : PV → List PV → M PV := fun x vs h => match x, vs with
  | .ref i, [] => match h[i]? with
    | some (.lst xs) => match xs[xs.length - 1]? with
      | some y => .ok y (h.set i (.lst xs.dropLast))
      | none => .stuck
    | _ => .stuck
  | _, _ => .stuck
theorem m_pop0 : MtP K G W rPop fPop0 := by
  intro σ ρ H h x v xs vs Q rh rx ry w
  unfold fPop0 at w
  split at w
  · rename_i i
    obtain ⟨a, rfl, er⟩ := rx
    cases ry
    split at w
    · rename_i ys e2
      split at w
      · rename_i y ey
        obtain ⟨ws, e3, qs⟩ := rh.at_ er e2
        obtain ⟨u, eu, ru⟩ := qs.get ey
        refine ⟨a, ws, u, rfl, rfl, e3, by rw [← qs.length]; exact eu, ?_⟩
        have t : Tr ρ H ρ (upd H a (.lst ws.dropLast)) := .chg (List.mem_of_getElem? er)
        exact w _ _ _ (rh.chg er ⟨_, upd_same, qs.dropLast.mono rh.mut t⟩) t (ru.mono rh.mut t)
      · exact w.elim
    · exact w.elim
  · exact w.elim
end
section
variable {X : Cx} {G : Nat → Option Addr} {W : WX} {eo e : Expr} {o : E} {as : EA} {apos cpos : Pos}
theorem em_append (ho : PEm X G W eo o) (ha : PAm X G W [e] as)
    (hbase : attributeBase eo "append" X.env (eval eo X.env) = eval eo X.env := by rfl)
    (hfew : ((backTo cpos (starEach [e] X.env)).all (fun x => !x.1) && (backToKw cpos (keywordEach [] X.env)).all (fun x => x.1.isSome)
      && decide ([e].length + ([] : List Keyword).length + (if ([] : List Keyword).isEmpty then 0 else 1) < 30)) = true := by rfl)
    (hline : (apos.endLine == cpos.line) = true := by rfl) (hs : starEach [e] X.env = (false, eval e X.env) :: starEach [] X.env := by rfl) :
    PEm X G W (.Call (.Attribute eo "append" apos) [e] [] cpos) (mMeth "list" fApp o as) :=
  em_bm PySem.F.plainAttrs_list PySem.F.slot_list_append PySem.F.type_list_append mt_append m_app ho ha hbase hfew hline hs rfl
theorem em_extend (ho : PEm X G W eo o) (ha : PAm X G W [e] as)
    (hbase : attributeBase eo "extend" X.env (eval eo X.env) = eval eo X.env := by rfl)
    (hfew : ((backTo cpos (starEach [e] X.env)).all (fun x => !x.1) && (backToKw cpos (keywordEach [] X.env)).all (fun x => x.1.isSome)
      && decide ([e].length + ([] : List Keyword).length + (if ([] : List Keyword).isEmpty then 0 else 1) < 30)) = true := by rfl)
    (hline : (apos.endLine == cpos.line) = true := by rfl) (hs : starEach [e] X.env = (false, eval e X.env) :: starEach [] X.env := by rfl) :
    PEm X G W (.Call (.Attribute eo "extend" apos) [e] [] cpos) (mMeth "list" fExt o as) :=
  em_bm PySem.F.plainAttrs_list PySem.F.slot_list_extend PySem.F.type_list_extend mt_extend m_ext ho ha hbase hfew hline hs rfl
theorem em_pop0 (ho : PEm X G W eo o)
    (hbase : attributeBase eo "pop" X.env (eval eo X.env) = eval eo X.env := by rfl) (hline : (apos.endLine == cpos.line) = true := by rfl) :
    PEm X G W (.Call (.Attribute eo "pop" apos) [] [] cpos) (mMeth0 "list" fPop0 o) :=
  em_bm0 PySem.F.plainAttrs_list PySem.F.slot_list_pop PySem.F.type_list_pop mt_pop m_pop0 ho hbase hline
end
end Mir

set_option Elab.async false
set_option linter.all false
set_option maxRecDepth 100000
namespace Mir
open PySem PySem.Spec PyProof.Rows L2

/-! ### defs by name -/
/-- a def of the module that may be called -/
def Cl (P : Program) (w : World) (K : PySem.W.Frag) (mg : Str → Option Value) (base : Heap) (G : Nat → Option Addr) (k : Nat) (x : Str) (n : Nat) (m : List PV → M PV) : Prop :=
  ∃ (f : Addr) (fd : FuncData) (ps : List Str), FnOk P w K mg base (L2.CX P w) k f fd ps (spM K G n m) ∧ mg x = some (.ref f) ∧ PySem.W.keepIn K (.ref f) = true ∧ Binds K fd ps []
/-- what the head tells of a def -/
def Df (K : PySem.W.Frag) (mg : Str → Option Value) (x : Str) (st : Stmt) : Prop := ∃ (f : Addr) (fd : FuncData), FunD K x x (defArgs st) (defBody st) (defScope st) [] [] f fd ∧ mg x = some (.ref f)
section
variable {P : Program} {w : World} {K : PySem.W.Frag} {mg : Str → Option Value} {base : Heap} {G : Nat → Option Addr}
theorem fn_at {x : Str} {st : Stmt} {N ps : List Str} {k : Nat} {b : SM} {f : Addr} {fd : FuncData} (F : FunD K x x (defArgs st) (defBody st) (defScope st) [] [] f fd) (S : FnScope N ps (defScope st))
    (D : ∀ (f : Addr) (cdv : Value) (A : Around) (outer : List Env) (s : Shared) (H : Hp) (E : XK), Room k (A.deeper (PyProof.Rows.envOfC x (defScope st) s.heap.objs.size f cdv)) →
      Takes (cxOf (L2.CX P w) P w K mg base N x (defScope st) f cdv A outer s H E) (fun cls d _ H' => E cls d H') →
      PassesOwn (model P w) (cxOf (L2.CX P w) P w K mg base N x (defScope st) f cdv A outer s H E).A (cxOf (L2.CX P w) P w K mg base N x (defScope st) f cdv A outer s H E).env (cxOf (L2.CX P w) P w K mg base N x (defScope st) f cdv A outer s H E).xe →
      PBm (cxOf (L2.CX P w) P w K mg base N x (defScope st) f cdv A outer s H E) G (fun cls d _ H' => E cls d H') (defBody st) b) :
    FnOk P w K mg base (L2.CX P w) (k + 1) f fd ps (spM K G ps.length (mDef N.length b)) := by
  refine F.ok S (fun vs H Q E h => h.1) (fun cdv A outer s H vs Q E hr h => ⟨_, D f cdv A outer s H E hr (takes_of rfl rfl rfl rfl) (passes_of rfl), ?_⟩)
  obtain ⟨_, ρ, h, xs, rh, rx, w⟩ := h
  refine ⟨ρ, h, mStart N.length xs, rh, rels_start rx, ?_⟩
  unfold mDef at w
  cases e : b (mStart N.length xs) h with
  | nx p h' => rw [e] at w; exact fun ρ' H' σ' rh' t _ => w ρ' H' .non rh' t rfl
  | rt v h' => rw [e] at w; exact fun ρ' H' u rh' t q => w ρ' H' u rh' t q
  | exc c p h' => rw [e] at w; exact fun ρ' H' σ' cls d rh' t _ q => w ρ' H' cls d rh' t q
  | bk _ _ => rw [e] at w; exact w.elim
  | ct _ _ => rw [e] at w; exact w.elim
  | stuck => rw [e] at w; exact w.elim
theorem cl_of {x : Str} {st : Stmt} {N ps : List Str} {k : Nat} {b : SM} (Z : Df K mg x st) (S : FnScope N ps (defScope st))
    (hb : ∀ (kV doc pm : Value) (an : Option Addr) (cdv ct : Value) (us : List Value), us.length = ps.length → bindArgs (PySem.W.fnOf x x (defArgs st) (defBody st) (defScope st) .none kV doc pm an cdv ct) ⟨us, []⟩ = pure (ps.zip us))
    (D : ∀ (f : Addr) (cdv : Value) (A : Around) (outer : List Env) (s : Shared) (H : Hp) (E : XK), Room k (A.deeper (PyProof.Rows.envOfC x (defScope st) s.heap.objs.size f cdv)) →
      Takes (cxOf (L2.CX P w) P w K mg base N x (defScope st) f cdv A outer s H E) (fun cls d _ H' => E cls d H') →
      PassesOwn (model P w) (cxOf (L2.CX P w) P w K mg base N x (defScope st) f cdv A outer s H E).A (cxOf (L2.CX P w) P w K mg base N x (defScope st) f cdv A outer s H E).env (cxOf (L2.CX P w) P w K mg base N x (defScope st) f cdv A outer s H E).xe →
      PBm (cxOf (L2.CX P w) P w K mg base N x (defScope st) f cdv A outer s H E) G (fun cls d _ H' => E cls d H') (defBody st) b) :
    Cl P w K mg base G (k + 1) x ps.length (mDef N.length b) :=
  let ⟨f, fd, F, g⟩ := Z; ⟨f, fd, ps, fn_at F S D, g, F.kp, F.bindsN hb⟩
theorem Cl.mono {j k : Nat} {x : Str} {n : Nat} {m : List PV → M PV} (c : Cl P w K mg base G j x n m) (h : j ≤ k) : Cl P w K mg base G k x n m :=
  let ⟨f, fd, ps, F, r⟩ := c; ⟨f, fd, ps, F.mono h, r⟩
end
section
variable {X : Cx} {G : Nat → Option Addr} {W : WX} {k j : Nat} {n : Nat} {fm : List PV → M PV} {x : Str} {p pos : Pos} {e : Expr} {es : List Expr} {as : EA}
theorem em_call (c : Cl X.prog X.w X.K X.mg X.base G j x n fm) (tk : Takes X W) (hr : Room k X.A) (hj : j ≤ k) (ha : PAm X G W (e :: es) as)
    (hg : Gl X x := by rfl) (hdb : (x == ("__debug__" : Str)) = false := by decide) (he : starEach (e :: es) X.env = (false, eval e X.env) :: starEach es X.env := by rfl) (hpl : (backTo pos (starEach es X.env)).any (·.1) = false := by rfl) :
    PEm X G W (.Call (.Name x p) (e :: es) [] pos) (mCallF n fm as) :=
  let ⟨f, fd, ps, F, g, kp, b⟩ := c; em_callF F tk (hr.mono hj) g kp b ha hg hdb he hpl
theorem em_callKeep (c : Cl X.prog X.w X.K X.mg X.base G j x n fm) (tk : Takes X W) (hr : Room k X.A) (hj : j ≤ k) (ha : PAm X G W (e :: es) as)
    (hg : Gl X x := by rfl) (hdb : (x == ("__debug__" : Str)) = false := by decide) (he : starEach (e :: es) X.env = (false, eval e X.env) :: starEach es X.env := by rfl) (hpl : (backTo pos (starEach es X.env)).any (·.1) = false := by rfl) :
    PEm X G W (.Call (.Name x p) (e :: es) [] pos) (mCallK n fm as) :=
  let ⟨f, fd, ps, F, g, kp, b⟩ := c; em_callK F tk (hr.mono hj) g kp b ha hg hdb he hpl
theorem bm_x {st : List Stmt} : PBm X G W st mXS := ⟨fun pins s σ H D I ⟨ρ, h, p, rh, rs, w⟩ => w.elim⟩
end

def relS (scope sc : Scope) : Scope := relabel scope { scope := sc, locals := 0, globals := 0, cells := [] }
theorem blkOk_in {X : Cx} {s : Shared} {H : Hp} {scope1 scope sc0 : Scope} {cl : List (Str × Addr)} {C : Addr} {fp : List Addr} {N : List Str} {own : List (Str × Nat)} (h : blkC N (relS scope1 sc0) scope own = true) (hN : X.N = N := by rfl) (hs : X.env.scope = sc0 := by rfl) :
    BlkOk (X.blk s H scope1 (compEnvC scope1 cl C X.env) fp).N (X.blk s H scope1 (compEnvC scope1 cl C X.env) fp).env.scope scope own := by
  subst hN
  subst hs
  exact blkOk_by h
/-! ### the law's own call -/
theorem rels_ints {K : PySem.W.Frag} {G : Nat → Option Addr} {ρ : Wd} {H : Hp} : ∀ ns : List Int, Rels K G ρ H (ns.map .int) (ns.map V.int)
  | [] => rfl
  | n :: ns => ⟨_, _, rfl, rfl, rels_ints ns⟩
theorem law_sp {K : PySem.W.Frag} {G : Nat → Option Addr} {m : List PV → M PV} (hm : ∀ ns : List Int, ns.length ≤ 63 → ∃ h', m [.frz (ns.map .int)] [] = .ok (.bl true) h') {H : Hp} {a : Addr} {ns : List Int} (hl : ns.length ≤ 63) (hS : SqL K H a (ns.map V.int)) :
    spM K G 1 m [.ref a] H (fun v _ => v = .bl true) (fun _ _ _ => False) := by
  refine ⟨rfl, ⟨[], []⟩, [], [.frz (ns.map .int)], ⟨rfl, .nil, fun i a o e => by simp at e, fun a z => nomatch z⟩, ⟨_, [], rfl, ⟨a, _, rfl, ?_, rels_ints ns⟩, rfl⟩, ?_⟩
  · rcases hS with s | ⟨o, its, n, s⟩
    · exact .inl ⟨s, fun z => z.elim (fun z => nomatch z) fun z => nomatch z⟩
    · exact .inr ⟨o, its, n, s⟩
  · obtain ⟨h', e⟩ := hm ns hl
    rw [e]
    exact fun _ _ v _ _ q => q
end Mir

set_option Elab.async false
set_option linter.all false
set_option maxRecDepth 100000
namespace Mir
open PySem PySem.Spec PyProof.Rows L2

/-! ### a, b, c = x, y, z -/
def mXG : TM := fun _ _ _ => .stuck
theorem gm_x {X : Cx} {G : Nat → Option Addr} {e : Expr} : PGm X G [] e mXG := ⟨fun pins s σ H v u Q I r ⟨ρ, h, p, x, rh, rs, rx, w⟩ => w.elim⟩
def mPar3 (i j l : Nat) (as : EA) : SM := fun s h => xs (as s h) s fun vs h1 => match vs with
  | [x, y, z] => .nx (((s.set i (some x)).set j (some y)).set l (some z)) h1
  | _ => .stuck
theorem sm_par3 {X : Cx} {G : Nat → Option Addr} {W : WX} {i j l : Nat} {x y z : Str} {ea eb ec : Expr} {as : EA} {px py pz pt pos : Pos} {kt k2 pt2} (hc : X.calm = true) (hN : X.N.Nodup) (hi : X.N[i]? = some x) (hj : X.N[j]? = some y) (hl : X.N[l]? = some z) (ha : PAm X G W [ea, eb, ec] as) (hij : i ≠ j := by decide) (hil : i ≠ l := by decide) (hjl : j ≠ l := by decide)
    (hx : X.env.scope.names.lookup x = some .local := by rfl) (hy : X.env.scope.names.lookup y = some .local := by rfl) (hz : X.env.scope.names.lookup z = some .local := by rfl)
    (hw : swappedStores [.Tuple [.Name x px, .Name y py, .Name z pz] kt pt] (.Tuple [ea, eb, ec] k2 pt2) X.env = pure (some [x, y, z]) := by rfl)
    (hs : swapsWithSole [.Tuple [.Name x px, .Name y py, .Name z pz] kt pt] (.Tuple [ea, eb, ec] k2 pt2) pos.line X.env = pure false := by rfl) :
    PSm X G W (.Assign [.Tuple [.Name x px, .Name y py, .Name z pz] kt pt] (.Tuple [ea, eb, ec] k2 pt2) pos) (mPar3 i j l as) := by
  refine ps_imp (ps_par3 hc hN hi hj hl hij hil hjl hx hy hz ha hw hs) fun D σ H ⟨ρ, h, p, rh, rs, w⟩ => ?_
  refine ⟨ρ, h, p, rh, rs, w.expr rh rs fun vs h1 ρ1 H1 ws _ rh1 t1 q1 w1 => ?_⟩
  match vs, q1, w1 with
  | [a, b, c], q1, w1 =>
    obtain ⟨va, _, rfl, ra, vb, _, rfl, rb, vc, _, rfl, rc, rfl⟩ := q1
    exact ⟨va, vb, vc, rfl, w1 ρ1 H1 _ rh1 .refl ((((rs.mono rh.mut t1).set ra).set rb).set rc)⟩
  | [], _, w1 => exact w1.elim
  | [_], _, w1 => exact w1.elim
  | [_, _], _, w1 => exact w1.elim
  | _ :: _ :: _ :: _ :: _, _, w1 => exact w1.elim
end Mir

set_option Elab.async false
set_option linter.all false
set_option maxRecDepth 100000
namespace Mir
open PySem PySem.Spec PyProof.Rows L2
/-- a law's end: what leaves a call as an error depends on the world -/
theorem walk_ofM {l : PySem.W.OpenLaw} {n k : Nat} {q : Program} {loose : List Str} {XP : (Str → Option Value) → Heap → Prop} {YP : World → Heap → Prop} {d : DefRec} {x : Str} {G : Nat → Option Addr} {m : List PV → M PV}
    (hn : l.most = some n) (hn2 : n ≤ sizeLine) (h63 : n ≤ 63) (hdf : d.params.defaults = []) (hr : Room k callerA)
    (hm : ∀ ns : List Int, ns.length ≤ 63 → ∃ h', m [.frz (ns.map .int)] [] = .ok (.bl true) h')
    (F : ∀ (w : World) (mg : Str → Option Value) (fa : Addr) (h : Heap), YP w h → h.Ns mainGlobals mg → mg d.name = some (.ref fa) →
      ∃ (K : PySem.W.Frag) (fd : FuncData), K.In h ∧ (∀ (s : Shared) (u : Value), BindsTo s fd ⟨[u], []⟩ [(x, u)]) ∧
        ∀ base : Heap, K.In base → base.Ns mainGlobals mg → FnOk l.prog w K mg base (L2.CX l.prog w) k fa fd [x] (spM K G 1 m)) :
    PySem.W.WalkO q loose XP YP l.row.toRowW d [] (fun f vs => PySem.call f vs) := by
  refine Att.attach_call hn hdf fun w s₀ s₁ mg mb fa o pm cd doc a vs ns G' Y ho hd hcd hmg hobj hints hlen hg => ?_
  obtain ⟨K, fd, KX, hb, hF⟩ := F w mg fa _ Y G'.T.g hmg
  exact law_call KX G'.T.g G'.T.b G'.T.builtins G'.T.nolimit hg hobj hints (Nat.le_trans hlen hn2) hr hF hb (fun H hO hS => law_sp hm (Nat.le_trans hlen h63) hS) fun H e s' ⟨_, _, _, _, _, _, _, _, _, _, _, _, z⟩ => z
end Mir

set_option Elab.async false
set_option linter.all false
set_option maxRecDepth 100000
namespace Mir
open PySem L2

/-! ### mirrors by simp -/
@[simp] theorem e_bind_ok {α β : Type} {a : α} {h : List MO} {k : α → List MO → Res β} : (Res.ok a h).bind k = k a h := id rfl
@[simp] theorem e_bind_exc {α β : Type} {a : PExc} {h : List MO} {k : α → List MO → Res β} : (Res.exc a h).bind k = .exc a h := id rfl
@[simp] theorem e_bind_stuck {α β : Type} {k : α → List MO → Res β} : (Res.stuck).bind k = .stuck := id rfl
@[simp] theorem e_mVar {i : Nat} {s : Sl} {h : List MO} : mVar i s h = match s[i]? with
  | some (some x) => .ok x h
  | _ => .stuck := id rfl
@[simp] theorem e_mC {v : PV} {s : Sl} {h : List MO} : mC v s h = .ok v h := id rfl
@[simp] theorem e_mNil {s : Sl} {h : List MO} : mNil s h = .ok [] h := id rfl
@[simp] theorem e_mCons {a : E} {r : EA} {s : Sl} {h : List MO} : mCons a r s h = (a s h).bind fun x h1 => (r s h1).bind fun xs h2 => .ok (x :: xs) h2 := id rfl
@[simp] theorem e_mTup {as : EA} {s : Sl} {h : List MO} : mTup as s h = (as s h).bind fun xs h1 => if xs.length ≤ 16777216 then .ok (.tup xs) h1 else .stuck := id rfl
@[simp] theorem e_mLst {as : EA} {s : Sl} {h : List MO} : mLst as s h = (as s h).bind fun xs h1 => if xs.length ≤ 16777216 then .ok (.lst xs) h1 else .stuck := id rfl
@[simp] theorem e_mLstR {as : EA} {s : Sl} {h : List MO} : mLstR as s h = (as s h).bind fun xs h1 => if xs.length ≤ 16777216 then .ok (.ref h1.length) (h1 ++ [.lst xs]) else .stuck := id rfl
@[simp] theorem e_mOp {p : PV → PV → M PV} {a b : E} {s : Sl} {h : List MO} : mOp p a b s h = (a s h).bind fun x h1 => (b s h1).bind fun y h2 => p x y h2 := id rfl
@[simp] theorem e_mUn {p : PV → M PV} {a : E} {s : Sl} {h : List MO} : mUn p a s h = (a s h).bind p := id rfl
@[simp] theorem e_mB {a : E} {s : Sl} {h : List MO} : mB a s h = (a s h).bind blOf := id rfl
@[simp] theorem e_blOf {b : Bool} {h : List MO} : blOf (.bl b) h = .ok b h := id rfl
@[simp] theorem e_mChain {p p' : PV → PV → M PV} {a b c : E} {s : Sl} {h : List MO} : mChain p p' a b c s h = (a s h).bind fun x h1 => (b s h1).bind fun y h2 => (p x y h2).bind fun z h3 => (blOf z h3).bind fun k h4 => if k = true then (c s h4).bind fun u h5 => p' y u h5 else .ok (.bl false) h4 := id rfl
@[simp] theorem e_mTru {a : E} {s : Sl} {h : List MO} : mTru a s h = (a s h).bind truth := id rfl
@[simp] theorem e_tr_non {h : List MO} : truth .non h = .ok false h := id rfl
@[simp] theorem e_tr_bl {b : Bool} {h : List MO} : truth (.bl b) h = .ok b h := id rfl
@[simp] theorem e_tr_int {b : Int} {h : List MO} : truth (.int b) h = .ok (b != 0) h := id rfl
@[simp] theorem e_tr_tup {b : List PV} {h : List MO} : truth (.tup b) h = .ok (!b.isEmpty) h := id rfl
@[simp] theorem e_tr_lst {b : List PV} {h : List MO} : truth (.lst b) h = .ok (!b.isEmpty) h := id rfl
@[simp] theorem e_tr_frz {b : List PV} {h : List MO} : truth (.frz b) h = .ok (!b.isEmpty) h := id rfl
@[simp] theorem e_mAndB {t u : ET} {s : Sl} {h : List MO} : mAndB t u s h = (t s h).bind fun c h1 => if c = true then u s h1 else .ok false h1 := id rfl
@[simp] theorem e_mOrB {t u : ET} {s : Sl} {h : List MO} : mOrB t u s h = (t s h).bind fun c h1 => if c = true then .ok true h1 else u s h1 := id rfl
@[simp] theorem e_mNotB {t : ET} {s : Sl} {h : List MO} : mNotB t s h = (t s h).bind fun c h1 => .ok (!c) h1 := id rfl
@[simp] theorem e_mAnd {a b : E} {s : Sl} {h : List MO} : mAnd a b s h = (a s h).bind fun x h1 => (truth x h1).bind fun c h2 => if c = true then b s h2 else .ok x h2 := id rfl
@[simp] theorem e_mOr {a b : E} {s : Sl} {h : List MO} : mOr a b s h = (a s h).bind fun x h1 => (truth x h1).bind fun c h2 => if c = true then .ok x h2 else b s h2 := id rfl
@[simp] theorem e_mNot {a : E} {s : Sl} {h : List MO} : mNot a s h = (a s h).bind fun x h1 => (truth x h1).bind fun c h2 => .ok (.bl (!c)) h2 := id rfl
@[simp] theorem e_mIf {t : ET} {a b : E} {s : Sl} {h : List MO} : mIf t a b s h = (t s h).bind fun c h1 => if c = true then a s h1 else b s h1 := id rfl
@[simp] theorem e_mSl {a : E} {lo hi : EO} {s : Sl} {h : List MO} : mSl a lo hi s h = (a s h).bind fun x h1 => (lo s h1).bind fun i h2 => (hi s h2).bind fun j h3 => pSl x i j h3 := id rfl
@[simp] theorem e_mNo {s : Sl} {h : List MO} : mNo s h = .ok none h := id rfl
@[simp] theorem e_mPart {a : E} {s : Sl} {h : List MO} : mPart a s h = (a s h).bind intOf := id rfl
@[simp] theorem e_intOf {i : Int} {h : List MO} : intOf (.int i) h = .ok (some i) h := id rfl
@[simp] theorem e_mCall {p : List PV → M PV} {as : EA} {s : Sl} {h : List MO} : mCall p as s h = (as s h).bind p := id rfl
@[simp] theorem e_mMeth {T : String} {p : PV → List PV → M PV} {o : E} {as : EA} {s : Sl} {h : List MO} : mMeth T p o as s h = (o s h).bind fun x h1 => if tyP T x h1 = true then (as s h1).bind fun xs h2 => p x xs h2 else .stuck := id rfl
@[simp] theorem e_mMeth0 {T : String} {p : PV → List PV → M PV} {o : E} {s : Sl} {h : List MO} : mMeth0 T p o s h = (o s h).bind fun x h1 => if tyP T x h1 = true then p x [] h1 else .stuck := id rfl
@[simp] theorem e_mCallF {n : Nat} {f : List PV → M PV} {as : EA} {s : Sl} {h : List MO} : mCallF n f as s h = (as s h).bind fun xs h1 => if xs.length = n then tidy h1.length (f xs h1) else .stuck := id rfl
@[simp] theorem e_mCallK {n : Nat} {f : List PV → M PV} {as : EA} {s : Sl} {h : List MO} : mCallK n f as s h = (as s h).bind fun xs h1 => if xs.length = n then f xs h1 else .stuck := id rfl
/-! statements -/
@[simp] theorem e_xs_ok {α : Type} {a : α} {h : List MO} {s : Sl} {k : α → List MO → SR} : xs (Res.ok a h) s k = k a h := id rfl
@[simp] theorem e_xs_exc {α : Type} {a : PExc} {h : List MO} {s : Sl} {k : α → List MO → SR} : xs (Res.exc a h) s k = .exc a s h := id rfl
@[simp] theorem e_xs_stuck {α : Type} {s : Sl} {k : α → List MO → SR} : xs (Res.stuck) s k = .stuck := id rfl
@[simp] theorem e_sr_nx {s : Sl} {h : List MO} {k : SM} : (SR.nx s h).bind k = k s h := id rfl
@[simp] theorem e_sr_rt {v : PV} {h : List MO} {k : SM} : (SR.rt v h).bind k = .rt v h := id rfl
@[simp] theorem e_sr_bk {s : Sl} {h : List MO} {k : SM} : (SR.bk s h).bind k = .bk s h := id rfl
@[simp] theorem e_sr_ct {s : Sl} {h : List MO} {k : SM} : (SR.ct s h).bind k = .ct s h := id rfl
@[simp] theorem e_sr_exc {e : PExc} {s : Sl} {h : List MO} {k : SM} : (SR.exc e s h).bind k = .exc e s h := id rfl
@[simp] theorem e_sr_stuck {k : SM} : (SR.stuck).bind k = .stuck := id rfl
@[simp] theorem e_mNext {s : Sl} {h : List MO} : mNext s h = .nx s h := id rfl
@[simp] theorem e_mSeq {a b : SM} {s : Sl} {h : List MO} : mSeq a b s h = (a s h).bind b := id rfl
@[simp] theorem e_mBreak {s : Sl} {h : List MO} : mBreak s h = .bk s h := id rfl
@[simp] theorem e_mCont {s : Sl} {h : List MO} : mCont s h = .ct s h := id rfl
@[simp] theorem e_mDrop {a : E} {s : Sl} {h : List MO} : mDrop a s h = xs (a s h) s fun _ h1 => .nx s h1 := id rfl
@[simp] theorem e_mRet {a : E} {s : Sl} {h : List MO} : mRet a s h = xs (a s h) s fun v h1 => .rt v h1 := id rfl
@[simp] theorem e_mRetN {s : Sl} {h : List MO} : mRetN s h = .rt .non h := id rfl
@[simp] theorem e_mIfS {t : ET} {a b : SM} {s : Sl} {h : List MO} : mIfS t a b s h = xs (t s h) s fun c h1 => if c = true then a s h1 else b s h1 := id rfl
@[simp] theorem e_mAsg {a : E} {t : TM} {s : Sl} {h : List MO} : mAsg a t s h = xs (a s h) s fun x h1 => match t x s h1 with
  | .ok s' h' => .nx s' h'
  | _ => .stuck := id rfl
@[simp] theorem e_mName {i : Nat} {x : PV} {s : Sl} {h : List MO} : mName i x s h = .ok (s.set i (some x)) h := id rfl
@[simp] theorem e_mGNil {s : Sl} {h : List MO} : mGNil [] s h = .ok s h := id rfl
@[simp] theorem e_mGCons {a : TM} {r : TMs} {x : PV} {xs : List PV} {s : Sl} {h : List MO} : mGCons a r (x :: xs) s h = (a x s h).bind fun s1 h1 => r xs s1 h1 := id rfl
@[simp] theorem e_mUnp {n : Nat} {r : TMs} {xs : List PV} {s : Sl} {h : List MO} : mUnp n r (.tup xs) s h = if xs.length = n then r xs s h else .stuck := id rfl
@[simp] theorem e_mUnpL {n : Nat} {r : TMs} {xs : List PV} {s : Sl} {h : List MO} : mUnp n r (.lst xs) s h = if xs.length = n then r xs s h else .stuck := id rfl
@[simp] theorem e_mPar {i j : Nat} {as : EA} {s : Sl} {h : List MO} : mPar i j as s h = xs (as s h) s fun vs h1 => match vs with
  | [x, y] => .nx ((s.set i (some x)).set j (some y)) h1
  | _ => .stuck := id rfl
@[simp] theorem e_mPar3 {i j l : Nat} {as : EA} {s : Sl} {h : List MO} : mPar3 i j l as s h = xs (as s h) s fun vs h1 => match vs with
  | [x, y, z] => .nx (((s.set i (some x)).set j (some y)).set l (some z)) h1
  | _ => .stuck := id rfl
@[simp] theorem e_mFor {it : EI} {g : TM} {b : SM} {s : Sl} {h : List MO} : mFor it g b s h = xs (it s h) s fun r h1 => forL g b r r.1 s h1 := id rfl
@[simp] theorem e_mPut {o i : E} {v : PV} {s : Sl} {h : List MO} : mPut o i v s h = (o s h).bind fun x h1 => (i s h1).bind fun y h2 => (pPut x y v h2).bind fun _ h3 => .ok s h3 := id rfl
@[simp] theorem e_wipe0 {s : Sl} : wipeP s [] = s := id rfl
@[simp] theorem e_wipe1 {s : Sl} {v : Nat} {vs : List Nat} : wipeP s (v :: vs) = (wipeP s vs).set v none := id rfl
@[simp] theorem e_mYes {s : Sl} {h : List MO} : mYes s h = .ok true h := id rfl
@[simp] theorem e_only {α : Type} {a : α} {h : List MO} : (Res.ok a h).only = .ok a h := id rfl
@[simp] theorem e_mComp {it : EI} {g : TM} {t : ET} {e : E} {vs : List Nat} {s : Sl} {h : List MO} : mComp it g t e vs s h = (it s h).bind fun r h1 => if r.1.length < 16777216 then (compL g t e vs r s r.1 h1).only.bind fun ys h2 => .ok (.lst ys) h2 else .stuck := id rfl
@[simp] theorem e_mCompR {it : EI} {g : TM} {t : ET} {e : E} {vs : List Nat} {s : Sl} {h : List MO} : mCompR it g t e vs s h = (it s h).bind fun r h1 => if r.1.length < 16777216 then (compL g t e vs r s r.1 h1).only.bind fun ys h2 => .ok (.ref h2.length) (h2 ++ [.lst ys]) else .stuck := id rfl
@[simp] theorem e_mIter {a : E} {s : Sl} {h : List MO} : mIter a s h = (a s h).bind pItems := id rfl
@[simp] theorem e_mZip {as : EA} {s : Sl} {h : List MO} : mZip as s h = (as s h).bind pZip := id rfl
@[simp] theorem e_mEnum {as : EA} {s : Sl} {h : List MO} : mEnum as s h = (as s h).bind pEnum := id rfl
@[simp] theorem e_mRng1 {as : EA} {s : Sl} {h : List MO} : mRng1 as s h = (as s h).bind pRng1 := id rfl
@[simp] theorem e_mRng2 {as : EA} {s : Sl} {h : List MO} : mRng2 as s h = (as s h).bind pRng2 := id rfl
@[simp] theorem e_items_tup {xs : List PV} {h : List MO} : pItems (.tup xs) h = .ok (xs, []) h := id rfl
@[simp] theorem e_items_lst {xs : List PV} {h : List MO} : pItems (.lst xs) h = .ok (xs, []) h := id rfl
@[simp] theorem e_items_frz {xs : List PV} {h : List MO} : pItems (.frz xs) h = .ok (xs, []) h := id rfl
@[simp] theorem e_zip_tup {xs ys : List PV} {h : List MO} : pZip [.tup xs, .tup ys] h = .ok (List.zipWith (fun u v => PV.tup [u, v]) xs ys, []) h := id rfl
@[simp] theorem e_zip_lst {xs ys : List PV} {h : List MO} : pZip [.lst xs, .lst ys] h = .ok (List.zipWith (fun u v => PV.tup [u, v]) xs ys, []) h := id rfl
@[simp] theorem e_enum_tup {xs : List PV} {h : List MO} : pEnum [.tup xs] h = .ok (enumP 0 xs, []) h := id rfl
@[simp] theorem e_enum_lst {xs : List PV} {h : List MO} : pEnum [.lst xs] h = .ok (enumP 0 xs, []) h := id rfl
@[simp] theorem e_enum_frz {xs : List PV} {h : List MO} : pEnum [.frz xs] h = .ok (enumP 0 xs, []) h := id rfl
/-! operations -/
@[simp] theorem e_add {i j : Int} {h : List MO} : bAdd (.int i) (.int j) h = .ok (.int (i + j)) h := id rfl
@[simp] theorem e_sub {i j : Int} {h : List MO} : bSub (.int i) (.int j) h = .ok (.int (i - j)) h := id rfl
@[simp] theorem e_addT {i j : List PV} {h : List MO} : bAdd (.tup i) (.tup j) h = if i.length + j.length ≤ 16777216 then .ok (.tup (i ++ j)) h else .stuck := id rfl
@[simp] theorem e_addL {i j : List PV} {h : List MO} : bAdd (.lst i) (.lst j) h = if i.length + j.length ≤ 16777216 then .ok (.lst (i ++ j)) h else .stuck := id rfl
@[simp] theorem e_mul {k : Bool} {i j : Int} {h : List MO} : bMulS k (.int i) (.int j) h = if mulOk i j then .ok (.int (i * j)) h else .stuck := id rfl
@[simp] theorem e_mulT {k : Bool} {xs : List PV} {j : Int} {h : List MO} : bMulS k (.tup xs) (.int j) h = if 0 < xs.length ∧ xs.length ≤ 1000 ∧ -1000 ≤ j ∧ j ≤ 1000 then .ok (.tup (repL j xs)) h else .stuck := id rfl
@[simp] theorem e_mulL {xs : List PV} {k : Int} {h : List MO} : bMulS false (.lst xs) (.int k) h = if -1000000 ≤ k ∧ k ≤ 1000000 ∧ xs.length * k.toNat ≤ 16777216 then .ok (.lst (repL k xs)) h else .stuck := id rfl
@[simp] theorem e_mulLR {xs : List PV} {k : Int} {h : List MO} : bMulS true (.lst xs) (.int k) h = if -1000000 ≤ k ∧ k ≤ 1000000 ∧ xs.length * k.toNat ≤ 16777216 then .ok (.ref h.length) (h ++ [.lst (repL k xs)]) else .stuck := id rfl
@[simp] theorem e_div {i j : Int} {h : List MO} : bDiv (.int i) (.int j) h = if divOk j then .ok (.int (i / j)) h else .stuck := id rfl
@[simp] theorem e_mod {i j : Int} {h : List MO} : bMod (.int i) (.int j) h = if 0 < j then .ok (.int (i % j)) h else .stuck := id rfl
@[simp] theorem e_pow {i j : Int} {h : List MO} : bPow (.int i) (.int j) h = if powOk i j then .ok (.int (i ^ j.toNat)) h else .stuck := id rfl
@[simp] theorem e_neg {i : Int} {h : List MO} : uNeg (.int i) h = .ok (.int (-i)) h := id rfl
@[simp] theorem e_cI {f : Int → Int → Bool} {i j : Int} {h : List MO} : cI f (.int i) (.int j) h = .ok (.bl (f i j)) h := id rfl
@[simp] theorem e_abs {i : Int} {h : List MO} : fAbs [.int i] h = .ok (.int (if i < 0 then -i else i)) h := id rfl
@[simp] theorem e_int {i : Int} {h : List MO} : fInt [.int i] h = .ok (.int i) h := id rfl
@[simp] theorem e_intb {i : Bool} {h : List MO} : fInt [.bl i] h = .ok (.int (if i then 1 else 0)) h := id rfl
@[simp] theorem e_lenT {xs : List PV} {h : List MO} : fLen [.tup xs] h = .ok (.int (xs.length : Nat)) h := id rfl
@[simp] theorem e_lenL {xs : List PV} {h : List MO} : fLen [.lst xs] h = .ok (.int (xs.length : Nat)) h := id rfl
@[simp] theorem e_lenF {xs : List PV} {h : List MO} : fLen [.frz xs] h = .ok (.int (xs.length : Nat)) h := id rfl
@[simp] theorem e_tupT {xs : List PV} {h : List MO} : fTup [.tup xs] h = .ok (.tup xs) h := id rfl
@[simp] theorem e_tupL {xs : List PV} {h : List MO} : fTup [.lst xs] h = .ok (.tup xs) h := id rfl
@[simp] theorem e_tupF {xs : List PV} {h : List MO} : fTup [.frz xs] h = .ok (.tup xs) h := id rfl
@[simp] theorem e_lstT {xs : List PV} {h : List MO} : fLst [.tup xs] h = .ok (.lst xs) h := id rfl
@[simp] theorem e_lstL {xs : List PV} {h : List MO} : fLst [.lst xs] h = .ok (.lst xs) h := id rfl
@[simp] theorem e_lstTR {xs : List PV} {h : List MO} : fLstR [.tup xs] h = .ok (.ref h.length) (h ++ [.lst xs]) := id rfl
@[simp] theorem e_lstLR {xs : List PV} {h : List MO} : fLstR [.lst xs] h = .ok (.ref h.length) (h ++ [.lst xs]) := id rfl
@[simp] theorem e_slT {xs : List PV} {lo hi : Option Int} {h : List MO} : pSl (.tup xs) lo hi h = .ok (.tup (cutL xs lo hi)) h := id rfl
@[simp] theorem e_slL {xs : List PV} {lo hi : Option Int} {h : List MO} : pSl (.lst xs) lo hi h = .ok (.lst (cutL xs lo hi)) h := id rfl
@[simp] theorem e_slF {xs : List PV} {lo hi : Option Int} {h : List MO} : pSl (.frz xs) lo hi h = .ok (.lst (cutL xs lo hi)) h := id rfl
@[simp] theorem e_ixT {xs : List PV} {i : Int} {h : List MO} : pIx (.tup xs) (.int i) h = atO (atI xs i) h := id rfl
@[simp] theorem e_ixL {xs : List PV} {i : Int} {h : List MO} : pIx (.lst xs) (.int i) h = atO (atI xs i) h := id rfl
@[simp] theorem e_ixF {xs : List PV} {i : Int} {h : List MO} : pIx (.frz xs) (.int i) h = atO (atI xs i) h := id rfl
@[simp] theorem e_atO {v : PV} {h : List MO} : atO (some v) h = .ok v h := id rfl
@[simp] theorem e_isi1 {x : PV} {n : String} {h : List MO} : fIsi [x, .ty n] h = match tyN x h with
    | some t => if tyC.contains n = true then .ok (.bl (isTy t n)) h else .stuck
    | none => .stuck := id rfl
@[simp] theorem e_isiL {x : PV} {h : List MO} : fIsi [x, .tup [.ty "list", .ty "tuple"]] h = match tyN x h with
    | some t => .ok (.bl (isTy t "list" || isTy t "tuple")) h
    | none => .stuck := by
  cases e : tyN x h with
  | none => simp [fIsi, e]
  | some t => simp [fIsi, e, tysOf, tyC]
@[simp] theorem e_ty_non {h : List MO} : tyN .non h = some "NoneType" := id rfl
@[simp] theorem e_ty_bl {b : Bool} {h : List MO} : tyN (.bl b) h = some "bool" := id rfl
@[simp] theorem e_ty_int {b : Int} {h : List MO} : tyN (.int b) h = some "int" := id rfl
@[simp] theorem e_ty_str {b : Str} {h : List MO} : tyN (.str b) h = some "str" := id rfl
@[simp] theorem e_ty_tup {b : List PV} {h : List MO} : tyN (.tup b) h = some "tuple" := id rfl
@[simp] theorem e_ty_lst {b : List PV} {h : List MO} : tyN (.lst b) h = some "list" := id rfl

/-! ### calls -/
/-- what a call hands back, by values alone -/
def Calls (f : List PV → M PV) (xs : List PV) (v : PV) : Prop := ∀ h : List MO, closed h.length h = true → tidy h.length (f xs h) = .ok v h
theorem tidy_same {v : PV} {h : List MO} (u : PV.under 0 v = true) : tidy h.length (.ok v h) = .ok v h := by
  have mono : (∀ x : PV, PV.under 0 x = true → PV.under h.length x = true) ∧ ∀ xs : List PV, PV.unders 0 xs = true → PV.unders h.length xs = true := by
    refine ⟨fun x => ?_, fun xs => ?_⟩
    · exact PV.rec (motive_1 := fun x => PV.under 0 x = true → PV.under h.length x = true) (motive_2 := fun xs => PV.unders 0 xs = true → PV.unders h.length xs = true)
        (fun _ => rfl) (fun _ _ => rfl) (fun _ _ => rfl) (fun _ _ => rfl) (fun xs ih u => ih u) (fun xs ih u => ih u) (fun xs ih u => ih u) (fun i u => by simp [PV.under] at u) (fun _ _ => rfl) (fun _ _ => rfl) (fun _ => rfl)
        (fun x xs h1 h2 u => by
          have u' : PV.under 0 x = true ∧ PV.unders 0 xs = true := by simpa [PV.unders] using u
          simp [PV.unders, h1 u'.1, h2 u'.2]) x
    · exact PV.rec_1 (motive_1 := fun x => PV.under 0 x = true → PV.under h.length x = true) (motive_2 := fun xs => PV.unders 0 xs = true → PV.unders h.length xs = true)
        (fun _ => rfl) (fun _ _ => rfl) (fun _ _ => rfl) (fun _ _ => rfl) (fun xs ih u => ih u) (fun xs ih u => ih u) (fun xs ih u => ih u) (fun i u => by simp [PV.under] at u) (fun _ _ => rfl) (fun _ _ => rfl) (fun _ => rfl)
        (fun x xs h1 h2 u => by
          have u' : PV.under 0 x = true ∧ PV.unders 0 xs = true := by simpa [PV.unders] using u
          simp [PV.unders, h1 u'.1, h2 u'.2]) xs
  have e : thaw h.length h v = some v := by
    cases v with
    | ref i => simp [PV.under] at u
    | _ => unfold thaw; dsimp only; rw [if_pos (mono.1 _ u)]
  unfold tidy
  dsimp only
  by_cases c : closed h.length h = true
  · rw [if_pos c, e]
    dsimp only
    rw [List.take_length]
  · rw [if_neg c]
theorem calls_of {f : List PV → M PV} {xs : List PV} {v : PV} (u : PV.under 0 v = true) (e : ∀ h : List MO, closed h.length h = true → f xs h = .ok v h) : Calls f xs v := fun h c => by rw [e h c]; exact tidy_same u
/-- .. behind rubbish -/
theorem tidy_junk {v : PV} {h g : List MO} (c : closed h.length h = true) (u : PV.under 0 v = true) : tidy h.length (.ok v (h ++ g)) = .ok v h := by
  have c' : closed h.length (h ++ g) = true := by
    unfold closed at c ⊢
    rw [List.take_left']
    · rw [List.take_length] at c; exact c
    · rfl
  have q := tidy_same (h := h) u
  unfold tidy at q ⊢
  dsimp only at q ⊢
  rw [if_pos c] at q
  rw [if_pos c', List.take_left' rfl]
  have e : thaw h.length (h ++ g) v = thaw h.length h v := by
    cases v with
    | ref i => simp [PV.under] at u
    | _ => rfl
  rw [e]
  cases z : thaw h.length h v with
  | none =>
    exfalso
    have e2 := (tidy_same (h := h) u)
    unfold tidy at e2
    dsimp only at e2
    cases v with
    | ref i => simp [PV.under] at u
    | _ =>
      unfold thaw at z
      dsimp only at z
      split at z
      · cases z
      · rename_i nu
        refine nu ?_
        have mono : (∀ x : PV, PV.under 0 x = true → PV.under h.length x = true) := fun x => by
          exact PV.rec (motive_1 := fun x => PV.under 0 x = true → PV.under h.length x = true) (motive_2 := fun xs => PV.unders 0 xs = true → PV.unders h.length xs = true)
            (fun _ => rfl) (fun _ _ => rfl) (fun _ _ => rfl) (fun _ _ => rfl) (fun xs ih u => ih u) (fun xs ih u => ih u) (fun xs ih u => ih u) (fun i u => by simp [PV.under] at u) (fun _ _ => rfl) (fun _ _ => rfl) (fun _ => rfl)
            (fun x xs h1 h2 u => by
              have u' : PV.under 0 x = true ∧ PV.unders 0 xs = true := by simpa [PV.unders] using u
              simp [PV.unders, h1 u'.1, h2 u'.2]) x
        exact mono _ u
  | some v' => rw [z, List.take_length] at q; exact q
/-- a list made on the way -/
theorem tidy_made {xs : List PV} {h g : List MO} (c : closed h.length h = true) (u : PV.unders 0 xs = true) : tidy h.length (.ok (.ref h.length) (h ++ .lst xs :: g)) = .ok (.lst xs) h := by
  have c' : closed h.length (h ++ .lst xs :: g) = true := by
    unfold closed at c ⊢
    rw [List.take_left' rfl]
    rw [List.take_length] at c; exact c
  have mono : PV.unders h.length xs = true := by
    have q := tidy_same (v := .tup xs) (h := h) (by simpa [PV.under] using u)
    unfold tidy at q
    dsimp only at q
    rw [if_pos c] at q
    unfold thaw at q
    dsimp only at q
    have : PV.under h.length (.tup xs) = PV.unders h.length xs := rfl
    rw [this] at q
    by_cases z : PV.unders h.length xs = true
    · exact z
    · exfalso
      have mono : (∀ ys : List PV, PV.unders 0 ys = true → PV.unders h.length ys = true) := fun ys => by
        exact PV.rec_1 (motive_1 := fun x => PV.under 0 x = true → PV.under h.length x = true) (motive_2 := fun xs => PV.unders 0 xs = true → PV.unders h.length xs = true)
          (fun _ => rfl) (fun _ _ => rfl) (fun _ _ => rfl) (fun _ _ => rfl) (fun xs ih u => ih u) (fun xs ih u => ih u) (fun xs ih u => ih u) (fun i u => by simp [PV.under] at u) (fun _ _ => rfl) (fun _ _ => rfl) (fun _ => rfl)
          (fun x xs h1 h2 u => by
            have u' : PV.under 0 x = true ∧ PV.unders 0 xs = true := by simpa [PV.unders] using u
            simp [PV.unders, h1 u'.1, h2 u'.2]) ys
      exact z (mono xs u)
  unfold tidy
  dsimp only
  rw [if_pos c']
  unfold thaw
  dsimp only
  have nb : ¬ Nat.blt h.length h.length = true := by simp [Nat.blt]
  rw [if_neg nb, List.getElem?_append_right (Nat.le_refl _), Nat.sub_self, List.getElem?_cons_zero]
  dsimp only
  rw [if_pos mono, List.take_left' rfl]
@[simp] theorem under_ints {n : Nat} : ∀ l : List Int, PV.unders n (l.map PV.int) = true
  | [] => rfl
  | x :: l => by simp [PV.unders, PV.under, under_ints l]
@[simp] theorem under_tint {n : Nat} (l : List Int) : PV.under n (.tup (l.map PV.int)) = true := under_ints l
@[simp] theorem under_lint {n : Nat} (l : List Int) : PV.under n (.lst (l.map PV.int)) = true := under_ints l
@[simp] theorem under_int {n : Nat} (i : Int) : PV.under n (.int i) = true := rfl
@[simp] theorem under_bl {n : Nat} (i : Bool) : PV.under n (.bl i) = true := rfl
@[simp] theorem under_non {n : Nat} : PV.under n .non = true := rfl

/-! ### comprehensions, loops -/
theorem compL_map {α : Type} {g : TM} {t : ET} {e : E} {vs : List Nat} {s : Sl} {h : List MO} {it : Its_} (l : List α) (c f : α → PV) (hg : grdOk it.2 h = true)
    (hx : ∀ a ∈ l, ∃ s1, g (c a) (wipeP s vs) h = .ok s1 h ∧ t s1 h = .ok true h ∧ e s1 h = .ok (f a) h) : compL g t e vs it s (l.map c) h = .ok (l.map f) h := by
  induction l with
  | nil => simp [compL, hg]
  | cons a l ih =>
    obtain ⟨s1, h1, h2, h3⟩ := hx a List.mem_cons_self
    have ih' := ih fun b hb => hx b (List.mem_cons_of_mem _ hb)
    rw [List.map_cons, List.map_cons]
    unfold compL
    rw [if_pos hg, h1]
    dsimp only
    rw [h2]
    dsimp only
    rw [if_pos rfl, h3]
    dsimp only
    rw [ih']
    rfl
theorem compL_filter {α : Type} {g : TM} {t : ET} {e : E} {vs : List Nat} {s : Sl} {h : List MO} {it : Its_} (l : List α) (c f : α → PV) (p : α → Bool) (hg : grdOk it.2 h = true)
    (hx : ∀ a ∈ l, ∃ s1, g (c a) (wipeP s vs) h = .ok s1 h ∧ t s1 h = .ok (p a) h ∧ (p a = true → e s1 h = .ok (f a) h)) : compL g t e vs it s (l.map c) h = .ok ((l.filter p).map f) h := by
  induction l with
  | nil => simp [compL, hg]
  | cons a l ih =>
    obtain ⟨s1, h1, h2, h3⟩ := hx a List.mem_cons_self
    have ih' := ih fun b hb => hx b (List.mem_cons_of_mem _ hb)
    rw [List.map_cons]
    unfold compL
    rw [if_pos hg, h1]
    dsimp only
    rw [h2]
    dsimp only
    cases pa : p a with
    | true =>
      rw [if_pos rfl, h3 pa, List.filter_cons_of_pos pa]
      dsimp only
      rw [ih']
      rfl
    | false =>
      rw [if_neg (by decide), List.filter_cons_of_neg (by rw [pa]; decide)]
      exact ih'
/-- with draws on the way -/
theorem compL_inv {α : Type} {g : TM} {t : ET} {e : E} {vs : List Nat} {s : Sl} {it : Its_} (l : List α) (c : α → PV) (I : Nat → List MO → Prop) (Q : PV → Prop) (hg : it.2 = [])
    (hx : ∀ a ∈ l, ∀ n h, I n h → ∃ s1 y h', g (c a) (wipeP s vs) h = .ok s1 h ∧ t s1 h = .ok true h ∧ e s1 h = .ok y h' ∧ I (n + 1) h' ∧ Q y) :
    ∀ n h, I n h → ∃ ys h', compL g t e vs it s (l.map c) h = .ok ys h' ∧ I (n + l.length) h' ∧ ys.length = l.length ∧ ∀ y ∈ ys, Q y := by
  induction l with
  | nil =>
    intro n h i
    exact ⟨[], h, by simp [compL, hg, grdOk], i, rfl, fun _ z => nomatch z⟩
  | cons a l ih =>
    intro n h i
    obtain ⟨s1, y, h', h1, h2, h3, i2, q⟩ := hx a List.mem_cons_self n h i
    obtain ⟨ys, h'', e2, i3, len, qs⟩ := ih (fun b hb => hx b (List.mem_cons_of_mem _ hb)) (n + 1) h' i2
    refine ⟨y :: ys, h'', ?_, ?_, by simp [len], fun z hz => ?_⟩
    · rw [List.map_cons]
      unfold compL
      rw [if_pos (by rw [hg]; rfl), h1]
      dsimp only
      rw [h2]
      dsimp only
      rw [if_pos rfl, h3]
      dsimp only
      rw [e2]
      rfl
    · rw [List.length_cons, show n + (l.length + 1) = n + 1 + l.length by omega]; exact i3
    · rcases List.mem_cons.mp hz with rfl | hz
      · exact q
      · exact qs z hz
theorem forL_inv {α : Type} {g : TM} {b : SM} {it : Its_} (hg : it.2 = []) (c : α → PV) (I : List α → Sl → List MO → Prop) :
    ∀ (done l : List α) (s : Sl) (h : List MO), I done s h → (∀ (d : List α) (a : α) (r : List α) s h, done ++ l = d ++ a :: r → I d s h → ∃ s1 h1 s2 h2, g (c a) s h = .ok s1 h1 ∧ (b s1 h1 = .nx s2 h2 ∨ b s1 h1 = .ct s2 h2) ∧ I (d ++ [a]) s2 h2) →
      ∃ s' h', forL g b it (l.map c) s h = .nx s' h' ∧ I (done ++ l) s' h'
  | done, [], s, h, i, _ => ⟨s, h, by simp [forL, hg, grdOk], by simpa using i⟩
  | done, a :: l, s, h, i, st => by
    obtain ⟨s1, h1, s2, h2, e1, e2, i2⟩ := st done a l s h rfl i
    obtain ⟨s', h', e3, i3⟩ := forL_inv hg c I (done ++ [a]) l s2 h2 i2 fun d x r s h e => st d x r s h (by rw [← e]; simp)
    refine ⟨s', h', ?_, by simpa using i3⟩
    rw [List.map_cons]
    unfold forL
    rw [if_pos (by rw [hg]; rfl), e1]
    dsimp only
    rcases e2 with e2 | e2 <;> rw [e2] <;> exact e3
theorem mDef_eq {n : Nat} {b : SM} {xs : List PV} {h : List MO} : mDef n b xs h = match b (mStart n xs) h with
  | .nx _ h' => .ok .non h'
  | .rt v h' => .ok v h'
  | .exc e _ h' => .exc e h'
  | _ => .stuck := id rfl
end Mir

set_option Elab.async false
set_option linter.all false
set_option maxRecDepth 100000
namespace Mir
open PySem L2

/-! ### ==, slices -/
theorem depth_int (i : Int) : (PyData.int i).depth ≤ 64 := by unfold PyData.depth; omega
theorem depth_bl (i : Bool) : (PyData.bool i).depth ≤ 64 := by unfold PyData.depth; omega
theorem depth_non : (PyData.none).depth ≤ 64 := by unfold PyData.depth; omega
theorem beq_dec (i j : Int) : (i == j) = decide (i = j) := by
  by_cases h : i = j
  · rw [decide_eq_true h, h]; simp
  · rw [decide_eq_false h]; simpa using h
@[simp] theorem e_eq_int {i j : Int} {h : List MO} : cEq (.int i) (.int j) h = .ok (.bl (decide (i = j))) h := by
  simp [cEq, deref, PV.toD, dOk, PV.dat, depth_int, PyData.eqv, beq_dec]
@[simp] theorem e_ne_int {i j : Int} {h : List MO} : cNe (.int i) (.int j) h = .ok (.bl (!decide (i = j))) h := by
  simp [cNe, deref, PV.toD, dOk, PV.dat, depth_int, PyData.eqv, beq_dec]
@[simp] theorem e_eq_bl {i j : Bool} {h : List MO} : cEq (.bl i) (.bl j) h = .ok (.bl (i == j)) h := by
  simp [cEq, deref, PV.toD, dOk, PV.dat, depth_bl, PyData.eqv]
@[simp] theorem e_ne_bl {i j : Bool} {h : List MO} : cNe (.bl i) (.bl j) h = .ok (.bl (!(i == j))) h := by
  simp [cNe, deref, PV.toD, dOk, PV.dat, depth_bl, PyData.eqv]
@[simp] theorem e_isN {x : PV} {h : List MO} : cIsN x .non h = .ok (.bl (isN x)) h := id rfl
@[simp] theorem e_notN {x : PV} {h : List MO} : cNotN x .non h = .ok (.bl (!isN x)) h := id rfl
@[simp] theorem e_isN0 : isN .non = true := id rfl
@[simp] theorem e_isN1 {i : Int} : isN (.int i) = false := id rfl
@[simp] theorem e_isN2 {i : Bool} : isN (.bl i) = false := id rfl
@[simp] theorem e_isN3 {i : List PV} : isN (.tup i) = false := id rfl
@[simp] theorem e_isN4 {i : List PV} : isN (.lst i) = false := id rfl
@[simp] theorem e_isN5 {i : Str} : isN (.str i) = false := id rfl
@[simp] theorem cut_drop {α : Type} {xs : List α} {k : Nat} : cutL xs (some (k : Int)) none = xs.drop k := by
  unfold cutL
  rw [HT.sIx_nat]
  show List.take (xs.length - min k xs.length) (xs.drop (min k xs.length)) = _
  by_cases h : k ≤ xs.length
  · rw [Nat.min_eq_left h, List.take_of_length_le (by rw [List.length_drop]; omega)]
  · rw [Nat.min_eq_right (by omega), List.drop_length, List.drop_eq_nil_of_le (by omega)]; simp
@[simp] theorem cut_take {α : Type} {xs : List α} {k : Nat} : cutL xs none (some (k : Int)) = xs.take k := by
  unfold cutL
  rw [HT.sIx_nat]
  show List.take (min k xs.length - 0) (xs.drop 0) = _
  rw [Nat.sub_zero, List.drop_zero]
  by_cases h : k ≤ xs.length
  · rw [Nat.min_eq_left h]
  · rw [Nat.min_eq_right (by omega), List.take_length, List.take_of_length_le (by omega)]
@[simp] theorem cut_drop1 {α : Type} {xs : List α} : cutL xs (some 1) none = xs.drop 1 := cut_drop (k := 1)
@[simp] theorem cut_take1 {α : Type} {xs : List α} : cutL xs none (some 1) = xs.take 1 := cut_take (k := 1)
theorem atI_nat {α : Type} {xs : List α} {k : Nat} : atI xs (k : Int) = xs[k]? := by
  unfold atI ixN
  rw [if_pos (by omega)]
  by_cases h : k < xs.length
  · rw [if_pos (by omega)]; simp
  · rw [if_neg (by omega), List.getElem?_eq_none (by omega)]; rfl
theorem atI_pos {α : Type} {xs : List α} {k : Int} (h : 0 ≤ k) : atI xs k = xs[k.toNat]? := by
  obtain ⟨n, rfl⟩ : ∃ n : Nat, k = (n : Int) := ⟨k.toNat, by omega⟩
  rw [atI_nat, Int.toNat_natCast]
theorem ixN_nat {n k : Nat} (h : k < n) : ixN n (k : Int) = some k := by
  unfold ixN
  rw [if_pos (by omega), if_pos (by omega)]; simp
theorem atI_last {α : Type} {xs : List α} {x : α} : atI (xs ++ [x]) (-1) = some x := by
  unfold atI ixN
  rw [if_neg (by omega), if_pos (by rw [List.length_append]; simp; omega)]
  have : (-1 + ((xs ++ [x]).length : Int)).toNat = xs.length := by rw [List.length_append]; simp; omega
  rw [this]
  simp
@[simp] theorem rep_lst {k : Nat} {x : PV} : repL (k : Int) [x] = List.replicate k x := by
  unfold repL
  rw [Int.toNat_natCast]
  induction k with
  | zero => rfl
  | succ k ih => rw [List.replicate_succ, List.replicate_succ, List.flatten_cons, ih]; rfl

/-! ### tidy -/
@[simp] theorem tidy_bl {b : Bool} {h : List MO} : tidy h.length (.ok (.bl b) h) = .ok (.bl b) h := tidy_same rfl
@[simp] theorem tidy_int {b : Int} {h : List MO} : tidy h.length (.ok (.int b) h) = .ok (.int b) h := tidy_same rfl
@[simp] theorem tidy_non {h : List MO} : tidy h.length (.ok .non h) = .ok .non h := tidy_same rfl
@[simp] theorem tidy_tint {l : List Int} {h : List MO} : tidy h.length (.ok (.tup (l.map PV.int)) h) = .ok (.tup (l.map PV.int)) h := tidy_same (under_tint l)
@[simp] theorem tidy_lint {l : List Int} {h : List MO} : tidy h.length (.ok (.lst (l.map PV.int)) h) = .ok (.lst (l.map PV.int)) h := tidy_same (under_lint l)
theorem closed_push {h : List MO} {xs : List PV} (c : closed h.length h = true) (u : PV.unders 0 xs = true) : closed (h ++ [MO.lst xs]).length (h ++ [MO.lst xs]) = true := by
  have mono : ∀ n : Nat, (∀ x : PV, ∀ m, m ≤ n → PV.under m x = true → PV.under n x = true) ∧ ∀ xs : List PV, ∀ m, m ≤ n → PV.unders m xs = true → PV.unders n xs = true := fun n => by
    refine ⟨fun x => ?_, fun xs => ?_⟩
    · exact PV.rec (motive_1 := fun x => ∀ m, m ≤ n → PV.under m x = true → PV.under n x = true) (motive_2 := fun xs => ∀ m, m ≤ n → PV.unders m xs = true → PV.unders n xs = true)
        (fun _ _ _ => rfl) (fun _ _ _ _ => rfl) (fun _ _ _ _ => rfl) (fun _ _ _ _ => rfl) (fun xs ih m hm u => ih m hm u) (fun xs ih m hm u => ih m hm u) (fun xs ih m hm u => ih m hm u)
        (fun i m hm u => by simp [PV.under, Nat.blt] at u ⊢; omega) (fun _ _ _ _ => rfl) (fun _ _ _ _ => rfl) (fun _ _ _ => rfl)
        (fun x xs h1 h2 m hm u => by
          have u' : PV.under m x = true ∧ PV.unders m xs = true := by simpa [PV.unders] using u
          simp [PV.unders, h1 m hm u'.1, h2 m hm u'.2]) x
    · exact PV.rec_1 (motive_1 := fun x => ∀ m, m ≤ n → PV.under m x = true → PV.under n x = true) (motive_2 := fun xs => ∀ m, m ≤ n → PV.unders m xs = true → PV.unders n xs = true)
        (fun _ _ _ => rfl) (fun _ _ _ _ => rfl) (fun _ _ _ _ => rfl) (fun _ _ _ _ => rfl) (fun xs ih m hm u => ih m hm u) (fun xs ih m hm u => ih m hm u) (fun xs ih m hm u => ih m hm u)
        (fun i m hm u => by simp [PV.under, Nat.blt] at u ⊢; omega) (fun _ _ _ _ => rfl) (fun _ _ _ _ => rfl) (fun _ _ _ => rfl)
        (fun x xs h1 h2 m hm u => by
          have u' : PV.under m x = true ∧ PV.unders m xs = true := by simpa [PV.unders] using u
          simp [PV.unders, h1 m hm u'.1, h2 m hm u'.2]) xs
  unfold closed at c ⊢
  rw [List.take_length] at c ⊢
  rw [List.all_append, Bool.and_eq_true]
  refine ⟨List.all_eq_true.mpr fun o ho => (mono _).2 _ _ (by simp) (List.all_eq_true.mp c o ho), ?_⟩
  simp only [List.all_cons, List.all_nil, Bool.and_true]
  exact (mono _).2 _ 0 (Nat.zero_le _) u
theorem closed_nil : closed ([] : List MO).length [] = true := rfl

/-! ### the list that was made last -/
section
variable {h : List MO} {xs : List PV}
@[simp] theorem l_at : (h ++ [MO.lst xs])[h.length]? = some (.lst xs) := by simp
@[simp] theorem l_set {o : MO} : (h ++ [MO.lst xs]).set h.length o = h ++ [o] := by
  rw [List.set_append_right _ _ (Nat.le_refl _), Nat.sub_self]; rfl
@[simp] theorem l_ty : tyP "list" (.ref h.length) (h ++ [MO.lst xs]) = true := by unfold tyP; simp
@[simp] theorem l_app {y : PV} : fApp (.ref h.length) [y] (h ++ [MO.lst xs]) = if xs.length < 16777216 then .ok .non (h ++ [.lst (xs ++ [y])]) else .stuck := by
  unfold fApp; simp
@[simp] theorem l_ix {i : Int} : pIx (.ref h.length) (.int i) (h ++ [MO.lst xs]) = atO (atI xs i) (h ++ [MO.lst xs]) := by
  unfold pIx lstRd lstOf; simp
@[simp] theorem l_put {i : Int} {v : PV} : pPut (.ref h.length) (.int i) v (h ++ [MO.lst xs]) = match ixN xs.length i with
  | some j => .ok () (h ++ [.lst (xs.set j v)])
  | none => .stuck := by
  unfold pPut
  simp only [l_at, l_set]
  all_goals (cases ixN xs.length i <;> rfl)
@[simp] theorem l_tup : fTup [.ref h.length] (h ++ [MO.lst xs]) = .ok (.tup xs) (h ++ [MO.lst xs]) := by
  unfold fTup lstRd lstOf; simp
@[simp] theorem l_len : fLen [.ref h.length] (h ++ [MO.lst xs]) = .ok (.int (xs.length : Nat)) (h ++ [MO.lst xs]) := by
  unfold fLen itemsR lstRd lstOf; simp
theorem l_getN {i : Int} (hi : 0 ≤ i) : pGetN (.ref h.length) (.int i) (h ++ [MO.lst xs]) = atO (atI xs i) (h ++ [MO.lst xs]) := by
  unfold pGetN lstRd lstOf; simp [hi]
end
@[simp] theorem e_addI {i j : Int} {h : List MO} : pAddI (.int i) (.int j) h = .ok (.int (i + j)) h := id rfl
@[simp] theorem e_mAugPut {o i e : E} {s : Sl} {h : List MO} : mAugPut o i e s h = xs (o s h) s fun x h1 => xs (i s h1) s fun y h2 => xs (pGetN x y h2) s fun v h3 => xs (e s h3) s fun u h4 => xs (pAddI v u h4) s fun z h5 => match pPut x y z h5 with
  | .ok _ h6 => .nx s h6
  | _ => .stuck := id rfl
theorem e_rng1 {j : Int} {h : List MO} (h1 : -(2 ^ 62) ≤ j) (h2 : j < 2 ^ 62) : pRng1 [.int j] h = .ok (rangeP 0 j.toNat, []) h := by
  unfold pRng1; dsimp only; rw [if_pos ⟨h1, h2⟩]
theorem rangeP_eq {lo : Int} {n : Nat} : rangeP lo n = (List.range n).map fun (k : Nat) => PV.int (lo + (k : Int)) := rfl
theorem enumP_eq (xs : List PV) : enumP 0 xs = (List.range xs.length).map fun i => PV.tup [.int (i : Nat), xs.getD i .non] := by
  refine List.ext_getElem? fun i => ?_
  rw [enumP_get, List.getElem?_map]
  by_cases h : i < xs.length
  · rw [List.getElem?_eq_getElem h, List.getElem?_range h]
    simp [List.getD, List.getElem?_eq_getElem h]
  · rw [List.getElem?_eq_none (by omega), List.getElem?_eq_none (by simp; omega)]; rfl
theorem zip_ints (a b : List Int) : List.zipWith (fun u v => PV.tup [u, v]) (a.map PV.int) (b.map PV.int) = (List.zip a b).map fun p => PV.tup [.int p.1, .int p.2] := by
  induction a generalizing b with
  | nil => rfl
  | cons x a ih => cases b with
    | nil => rfl
    | cons y b => simp [ih]
theorem intsOf_map (l : List Int) : intsOf (l.map PV.int) = some l := by
  induction l with
  | nil => rfl
  | cons x l ih => simp [intsOf, ih]
theorem blsOf_map (l : List Bool) : blsOf (l.map PV.bl) = some l := by
  induction l with
  | nil => rfl
  | cons x l ih => simp [blsOf, ih]
@[simp] theorem e_sumL {l : List Int} {h : List MO} : fSumA [.lst (l.map PV.int)] h = .ok (.int l.sum) h := by
  unfold fSumA itemsR lstRd lstOf; simp [intsOf_map]
@[simp] theorem e_sumT {l : List Int} {h : List MO} : fSumA [.tup (l.map PV.int)] h = .ok (.int l.sum) h := by
  unfold fSumA itemsR; simp [intsOf_map]
@[simp] theorem e_allL {l : List Bool} {h : List MO} : fAll [.lst (l.map PV.bl)] h = .ok (.bl (l.all id)) h := by
  unfold fAll lstRd lstOf; simp [blsOf_map]
theorem e_maxL {l : List Int} {h : List MO} (hl : 0 < l.length) : fMaxA [.lst (l.map PV.int)] h = .ok (.int (maxI l)) h := by
  unfold fMaxA itemsR lstRd lstOf; simp [intsOf_map, hl]
theorem whileF_inv {t : ET} {b : SM} (I : Nat → Sl → List MO → Prop)
    (st : ∀ k s h, I k s h → t s h = .ok false h ∨ ∃ h1 s' h' k', t s h = .ok true h1 ∧ b s h1 = .nx s' h' ∧ k' < k ∧ I k' s' h') : ∀ (fuel k : Nat) (s : Sl) (h : List MO), k < fuel → I k s h →
    ∃ s' h' k', whileF t b fuel s h = .nx s' h' ∧ I k' s' h' ∧ t s' h' = .ok false h' := by
  intro fuel
  induction fuel with
  | zero => intro k s h hk; omega
  | succ n ih =>
    intro k s h hk i
    rcases st k s h i with e | ⟨h1, s', h', k', e1, e2, lt, i2⟩
    · exact ⟨s, h, k, by unfold whileF; rw [e]; rfl, i, e⟩
    · obtain ⟨s3, h3, k3, e3, r⟩ := ih k' s' h' (by omega) i2
      exact ⟨s3, h3, k3, by unfold whileF; rw [e1]; simp [e2, e3], r⟩
end Mir

set_option Elab.async false
set_option linter.all false
set_option maxRecDepth 100000
namespace MirP
open PySem PySem.Spec PyProof.Rows L2 Mir
def b__law_same (r : List PV → M PV) : SM :=
  (mSeq (mIfS (mTru (mCall fIsi (mCons (mVar 1) (mCons (mTup (mCons (mC (.ty "list")) (mCons (mC (.ty "tuple")) mNil))) mNil)))) (mSeq (mIfS (mOrB (mB (mOp cNe (mCall fIsi (mCons (mVar 0) (mCons (mC (.ty "list")) mNil))) (mCall fIsi (mCons (mVar 1) (mCons (mC (.ty "list")) mNil))))) (mB (mOp cNe (mCall fIsi (mCons (mVar 0) (mCons (mC (.ty "tuple")) mNil))) (mCall fIsi (mCons (mVar 1) (mCons (mC (.ty "tuple")) mNil)))))) (mRet (mC (.bl false))) mNext)
  (mRet (mAnd (mOp cEq (mCall fLen (mCons (mVar 0) mNil)) (mCall fLen (mCons (mVar 1) mNil))) (mCall fAll (mCons (mComp (mZip (mCons (mVar 0) (mCons (mVar 1) mNil))) (mUnp 2 (mGCons (mName 2) (mGCons (mName 3) mGNil))) mYes (mCallF 2 r (mCons (mVar 2) (mCons (mVar 3) mNil))) [2, 3]) mNil))))) mNext)
  (mSeq (mIfS (mB (mOp cIsN (mVar 1) (mC .non))) (mRet (mOp cIsN (mVar 0) (mC .non))) mNext)
  (mSeq (mIfS (mTru (mCall fIsi (mCons (mVar 1) (mCons (mTup (mCons (mC (.ty "bool")) (mCons (mC (.ty "str")) mNil))) mNil)))) (mRet (mAnd (mOp cEq (mCall fIsi (mCons (mVar 0) (mCons (mC (.ty "bool")) mNil))) (mCall fIsi (mCons (mVar 1) (mCons (mC (.ty "bool")) mNil)))) (mAnd (mOp cEq (mCall fIsi (mCons (mVar 0) (mCons (mC (.ty "str")) mNil))) (mCall fIsi (mCons (mVar 1) (mCons (mC (.ty "str")) mNil)))) (mOp cEq (mVar 0) (mVar 1))))) mNext)
  (mRet (mAnd (mCall fIsi (mCons (mVar 0) (mCons (mC (.ty "int")) mNil))) (mAnd (mNot (mCall fIsi (mCons (mVar 0) (mCons (mC (.ty "bool")) mNil)))) (mOp cEq (mVar 0) (mVar 1))))))))
def f__law_same : Nat → List PV → M PV
  | 0 => mDef 4 mXS
  | d + 1 => mDef 4 (b__law_same (f__law_same d))
def b__law_cells : SM :=
  (mSeq (mAsg (mOr (mCall fLstR (mCons (mSl (mVar 0) mNo (mPart (mVar 1))) mNil)) (mLstR (mCons (mC (.int 0)) mNil))) (mName 2))
  (mSeq (mFor (mEnum (mCons (mSl (mVar 0) (mPart (mVar 1)) (mPart (mC (.int 63)))) mNil)) (mUnp 2 (mGCons (mName 3) (mGCons (mName 4) mGNil))) (mSeq (mAsg (mOp bMod (mCall fInt (mCons (mVar 3) mNil)) (mVar 1)) (mName 5))
  (mAsg (mOp bAdd (mOp pIx (mVar 2) (mVar 5)) (mOp (bMulS false) (mVar 4) (mOp bAdd (mVar 3) (mC (.int 2))))) (mPut (mVar 2) (mVar 5)))))
  (mRet (mVar 2))))
def f__law_cells : List PV → M PV := mDef 6 b__law_cells
def b_is_number : SM :=
  (mRet (mAnd (mCall fIsi (mCons (mVar 0) (mCons (mC (.ty "int")) mNil))) (mNot (mCall fIsi (mCons (mVar 0) (mCons (mC (.ty "bool")) mNil))))))
def f_is_number : List PV → M PV := mDef 1 b_is_number
def b_is_within : SM :=
  (mRet (mAnd (mCallF 1 f_is_number (mCons (mVar 0) mNil)) (mChain cLe cLe (mVar 1) (mVar 0) (mVar 2))))
def f_is_within : List PV → M PV := mDef 3 b_is_within
def b_are_within : SM :=
  (mRet (mAnd (mCall fIsi (mCons (mVar 0) (mCons (mC (.ty "tuple")) mNil))) (mCall fAll (mCons (mComp (mIter (mVar 0)) (mName 3) mYes (mCallF 3 f_is_within (mCons (mVar 3) (mCons (mVar 1) (mCons (mVar 2) mNil)))) [3]) mNil))))
def f_are_within : List PV → M PV := mDef 4 b_are_within
def b_step_in : SM :=
  (mRet (mCall fTup (mCons (mComp (mZip (mCons (mVar 0) (mCons (mOp bAdd (mSl (mVar 0) (mPart (mC (.int 1))) mNo) (mSl (mVar 0) mNo (mPart (mC (.int 1))))) mNil))) (mUnp 2 (mGCons (mName 1) (mGCons (mName 2) mGNil))) mYes (mCall fAbs (mCons (mOp bSub (mVar 1) (mVar 2)) mNil)) [1, 2]) mNil)))
def f_step_in : List PV → M PV := mDef 3 b_step_in
def b_wrapped : SM :=
  (mRet (mOp bAdd (mOp bAdd mXE (mOp (bMulS false) (mTup (mCons (mC (.int 0)) mNil)) (mOp bSub (mVar 0) (mC (.int 1))))) mXE))
def f_wrapped : List PV → M PV := mDef 1 b_wrapped
def b_bits_in : SM :=
  (mSeq (mAsg (mOp bAdd (mVar 0) (mOp (bMulS false) (mTup (mCons (mC (.int 0)) mNil)) (mOp bSub (mVar 1) (mCall fLen (mCons (mVar 0) mNil))))) (mName 2))
  (mRet (mOp bAdd (mSl (mVar 2) mNo (mPart (mC (.int 1)))) mXE)))
def f_bits_in : List PV → M PV := mDef 3 b_bits_in
def b_trimmed : SM :=
  (mSeq (mAsg (mCall fLen (mCons (mVar 0) mNil)) (mName 1))
  (mSeq (whileF (mAndB (mB (mOp cGt (mVar 1) (mC (.int 0)))) (mB (mOp cEq (mOp pIx (mVar 0) (mOp bSub (mVar 1) (mC (.int 1)))) (mC (.int 0))))) (mAsg (mOp bSub (mVar 1) (mC (.int 1))) (mName 1)) 4096)
  (mRet (mCall fTup (mCons (mSl (mVar 0) mNo (mPart (mVar 1))) mNil)))))
def f_trimmed : List PV → M PV := mDef 2 b_trimmed
def b_p_over : SM :=
  (mSeq (mPar 3 4 (mCons (mCall fLst (mCons (mVar 0) mNil)) (mCons (mOp (bMulS false) (mLst (mCons (mC (.int 0)) mNil)) (mCall fLen (mCons (mVar 0) mNil))) mNil)))
  (mSeq (mFor (mIter mXE) (mName 2) (mIfS (mB (mOp cEq (mOp pIx (mVar 3) (mOp bSub (mOp bAdd (mVar 2) (mCall fLen (mCons (mVar 1) mNil))) (mC (.int 1)))) (mC (.int 1)))) (mSeq (mAsg (mC (.int 1)) (mPut (mVar 4) (mVar 2)))
  (mFor (mEnum (mCons (mVar 1) mNil)) (mUnp 2 (mGCons (mName 5) (mGCons (mName 6) mGNil))) (mAsg (mOp bMod (mOp bAdd (mOp pIx (mVar 3) (mOp bAdd (mVar 2) (mVar 5))) (mVar 6)) (mC (.int 2))) (mPut (mVar 3) (mOp bAdd (mVar 2) (mVar 5)))))) mNext))
  (mRet (mTup (mCons (mCallF 1 f_trimmed (mCons (mVar 4) mNil)) (mCons (mCallF 1 f_trimmed (mCons (mVar 3) mNil)) mNil))))))
def f_p_over : List PV → M PV := mDef 7 b_p_over
def b_p_times : SM :=
  (mSeq (mAsg (mOp (bMulS true) (mLst (mCons (mC (.int 0)) mNil)) (mOp bAdd (mCall fLen (mCons (mVar 0) mNil)) (mCall fLen (mCons (mVar 1) mNil)))) (mName 2))
  (mSeq (mFor (mEnum (mCons (mVar 0) mNil)) (mUnp 2 (mGCons (mName 3) (mGCons (mName 4) mGNil))) (mIfS (mB (mOp cEq (mVar 4) (mC (.int 1)))) (mFor (mEnum (mCons (mVar 1) mNil)) (mUnp 2 (mGCons (mName 5) (mGCons (mName 6) mGNil))) (mAsg (mOp bMod (mOp bAdd (mOp pIx (mVar 2) (mOp bAdd (mVar 3) (mVar 5))) (mVar 6)) (mC (.int 2))) (mPut (mVar 2) (mOp bAdd (mVar 3) (mVar 5))))) mNext))
  (mRet (mCallF 1 f_trimmed (mCons (mVar 2) mNil)))))
def f_p_times : List PV → M PV := mDef 7 b_p_times
def b_poly_in : SM :=
  (mSeq (mAsg (mCall fLstR (mCons (mOp bAdd (mSl (mVar 0) mNo (mPart (mC (.int 1)))) mXE) mNil)) (mName 1))
  (mSeq (whileF (mAndB (mB (mOp cNe (mVar 1) (mLst mNil))) (mB (mOp cEq (mOp pIx (mVar 1) (mUn uNeg (mC (.int 1)))) (mC (.int 0))))) (mDrop (mMeth0 "list" fPop0 (mVar 1))) 4096)
  (mRet (mCall fTup (mCons (mVar 1) mNil)))))
def f_poly_in : List PV → M PV := mDef 2 b_poly_in
def b_p_power : SM :=
  (mSeq (mPar3 3 4 5 (mCons (mOp pIx (mCallF 2 f_p_over (mCons mXE (mCons (mVar 2) mNil))) (mC (.int 1))) (mCons (mOp pIx (mCallF 2 f_p_over (mCons (mVar 0) (mCons (mVar 2) mNil))) (mC (.int 1))) (mCons (mVar 1) mNil))))
  (mSeq (whileF (mB (mOp cGt (mVar 5) (mC (.int 0)))) (mSeq (mIfS (mB (mOp cEq (mOp bMod (mVar 5) (mC (.int 2))) (mC (.int 1)))) (mAsg (mOp pIx (mCallF 2 f_p_over (mCons (mCallF 2 f_p_times (mCons (mVar 3) (mCons (mVar 4) mNil))) (mCons (mVar 2) mNil))) (mC (.int 1))) (mName 3)) mNext)
  (mPar 4 5 (mCons (mOp pIx (mCallF 2 f_p_over (mCons (mCallF 2 f_p_times (mCons (mVar 4) (mCons (mVar 4) mNil))) (mCons (mVar 2) mNil))) (mC (.int 1))) (mCons (mOp bDiv (mVar 5) (mC (.int 2))) mNil)))) 4096)
  (mRet (mVar 3))))
def f_p_power : List PV → M PV := mDef 6 b_p_power
def b_far_in : SM :=
  (mSeq (mAsg (mCallF 1 f_wrapped (mCons (mCall fLen (mCons (mVar 0) mNil)) mNil)) (mName 2))
  (mRet (mCallF 2 f_bits_in (mCons (mOp pIx (mCallF 2 f_p_over (mCons (mCallF 2 f_p_times (mCons (mCallF 1 f_poly_in (mCons (mVar 0) mNil)) (mCons (mCallF 3 f_p_power (mCons mXE (mCons (mVar 1) (mCons (mVar 2) mNil)))) mNil))) (mCons (mVar 2) mNil))) (mC (.int 1))) (mCons (mCall fLen (mCons (mVar 0) mNil)) mNil)))))
def f_far_in : List PV → M PV := mDef 3 b_far_in
def b_is_poly_in : SM :=
  (mRet (mAnd (mCallF 3 f_are_within (mCons (mVar 0) (mCons (mC (.int 0)) (mCons (mC (.int 1)) mNil)))) (mOr (mOp cEq (mVar 0) (mTup mNil)) (mOp cEq (mOp pIx (mVar 0) (mUn uNeg (mC (.int 1)))) (mC (.int 1))))))
def f_is_poly_in : List PV → M PV := mDef 1 b_is_poly_in
def b_rolled : SM :=
  (mSeq (mAsg (mCall fLen (mCons (mVar 0) mNil)) (mName 3))
  (mSeq (mAsg (mOp (bMulS true) (mLst (mCons (mC (.int 0)) mNil)) (mVar 3)) (mName 4))
  (mSeq (mFor (mEnum (mCons (mVar 0) mNil)) (mUnp 2 (mGCons (mName 5) (mGCons (mName 6) mGNil))) (mFor (mEnum (mCons (mVar 1) mNil)) (mUnp 2 (mGCons (mName 7) (mGCons (mName 8) mGNil))) (mSeq (mAsg (mOp bMod (mOp bAdd (mVar 5) (mVar 7)) (mVar 3)) (mName 9))
  (mAsg (mOp bMod (mOp bAdd (mOp pIx (mVar 4) (mVar 9)) (mOp (bMulS false) (mVar 6) (mVar 8))) (mVar 2)) (mPut (mVar 4) (mVar 9))))))
  (mRet (mCall fTup (mCons (mVar 4) mNil))))))
def f_rolled : List PV → M PV := mDef 10 b_rolled
def b_is_rests_in : SM :=
  (mRet (mAnd (mCallF 3 f_are_within (mCons (mVar 0) (mCons (mC (.int 0)) (mCons (mOp bSub (mVar 1) (mC (.int 1))) mNil)))) (mChain cLe cLe (mC (.int 2)) (mCall fLen (mCons (mVar 0) mNil)) (mC (.int 16)))))
def f_is_rests_in : List PV → M PV := mDef 2 b_is_rests_in
def b_tupled (r : List PV → M PV) : SM :=
  (mRet (mIf (mTru (mCall fIsi (mCons (mVar 0) (mCons (mTup (mCons (mC (.ty "list")) (mCons (mC (.ty "tuple")) mNil))) mNil)))) (mCall fTup (mCons (mComp (mIter (mVar 0)) (mName 1) mYes (mCallF 1 r (mCons (mVar 1) mNil)) [1]) mNil)) (mVar 0)))
def f_tupled : Nat → List PV → M PV
  | 0 => mDef 2 mXS
  | d + 1 => mDef 2 (b_tupled (f_tupled d))
def b_are_bits_in : SM :=
  (mRet (mAnd (mCallF 3 f_are_within (mCons (mVar 0) (mCons (mC (.int 0)) (mCons (mC (.int 1)) mNil)))) (mChain cLe cLe (mC (.int 2)) (mCall fLen (mCons (mVar 0) mNil)) (mC (.int 16)))))
def f_are_bits_in : List PV → M PV := mDef 1 b_are_bits_in
def b_is_ring_in : SM :=
  (mRet (mAnd (mCallF 3 f_are_within (mCons (mVar 0) (mCons (mC (.int 0)) (mCons (mC (.int 1000000000000000000000000000000)) mNil)))) (mChain cLe cLe (mC (.int 2)) (mCall fLen (mCons (mVar 0) mNil)) (mC (.int 16)))))
def f_is_ring_in : List PV → M PV := mDef 1 b_is_ring_in
def b_summed : SM :=
  (mRet (mCall fTup (mCons (mComp (mZip (mCons (mVar 0) (mCons (mOp bAdd (mSl (mVar 0) (mPart (mC (.int 1))) mNo) (mSl (mVar 0) mNo (mPart (mC (.int 1))))) mNil))) (mUnp 2 (mGCons (mName 2) (mGCons (mName 3) mGNil))) mYes (mOp bMod (mOp bAdd (mVar 2) (mVar 3)) (mVar 1)) [2, 3]) mNil)))
def f_summed : List PV → M PV := mDef 4 b_summed
def b__law_take : SM :=
  (mSeq (mIfS (mB (mOp cGt (mOp pIx (mVar 0) (mC (.int 0))) (mC (.int 0)))) (mSeq (mAsg (mOp bMod (mCall fInt (mCons (mOp pIx (mVar 0) (mC (.int 0))) mNil)) (mVar 1)) (mName 5))
  (mSeq (mAsg (mOp bDiv (mOp pIx (mVar 0) (mC (.int 0))) (mVar 1)) (mPut (mVar 0) (mC (.int 0))))
  (mRet (mVar 5)))) mNext)
  (mSeq (mAsg (mOp bAdd (mOp pIx (mVar 0) (mC (.int 2))) (mC (.int 1))) (mPut (mVar 0) (mC (.int 2))))
  (mSeq (mAsg (mOp bMod (mCall fInt (mCons (mOp (bMulS false) (mOp bAdd (mOp pIx (mVar 0) (mC (.int 1))) (mOp (bMulS false) (mC (.int 48271)) (mOp pIx (mVar 0) (mC (.int 2))))) (mOp bAdd (mC (.int 39373)) (mOp pIx (mVar 0) (mC (.int 2))))) mNil)) (mC (.int 2147483647))) (mName 2))
  (mSeq (mAsg (mOp bAdd (mOp bMod (mCall fInt (mCons (mVar 2) mNil)) (mC (.int 40009))) (mC (.int 7))) (mName 3))
  (mSeq (mAsg (mOp bMod (mCall fInt (mCons (mOp (bMulS false) (mOp bAdd (mOp bAdd (mVar 2) (mOp pIx (mVar 0) (mC (.int 2)))) (mOp bDiv (mOp pIx (mVar 0) (mC (.int 1))) (mC (.int 1000003)))) (mVar 3)) mNil)) (mC (.int 2147483629))) (mName 4))
  (mRet (mOp bMod (mCall fInt (mCons (mOp bDiv (mOp bMod (mCall fInt (mCons (mOp bAdd (mOp (bMulS false) (mVar 4) (mC (.int 48271))) (mVar 2)) mNil)) (mC (.int 2147483587))) (mC (.int 64))) mNil)) (mVar 1))))))))
def f__law_take : List PV → M PV := mDef 6 b__law_take
def b_sure_bits : SM :=
  (mSeq (mAsg (mCallF 1 (f_tupled 6) (mCons (mVar 0) mNil)) (mName 1))
  (mSeq (mIfS (mNotB (mTru (mCallF 1 f_are_bits_in (mCons (mVar 1) mNil)))) mXS mNext)
  (mRet (mVar 1))))
def f_sure_bits : List PV → M PV := mDef 2 b_sure_bits
def b__law_rolled : SM :=
  (mSeq (mAsg (mCall fLen (mCons (mVar 0) mNil)) (mName 3))
  (mRet (mCall fTup (mCons (mComp (mRng1 (mCons (mVar 3) mNil)) (mName 4) mYes (mOp bMod (mCall fSumA (mCons (mComp (mRng1 (mCons (mVar 3) mNil)) (mName 5) mYes (mOp (bMulS false) (mOp pIx (mVar 0) (mVar 5)) (mOp pIx (mVar 1) (mOp bMod (mOp bSub (mVar 4) (mVar 5)) (mVar 3)))) [5]) mNil)) (mVar 2)) [4]) mNil))))
def f__law_rolled : List PV → M PV := mDef 6 b__law_rolled
def b_sure_within : SM :=
  (mSeq (mIfS (mNotB (mTru (mCallF 3 f_is_within (mCons (mVar 0) (mCons (mVar 1) (mCons (mVar 2) mNil)))))) mXS mNext)
  (mRet (mVar 0)))
def f_sure_within : List PV → M PV := mDef 3 b_sure_within
def b_sure_mod : SM :=
  (mRet (mCallF 3 f_sure_within (mCons (mVar 0) (mCons (mC (.int 2)) (mCons (mC (.int 60)) mNil)))))
def f_sure_mod : List PV → M PV := mDef 1 b_sure_mod
def b_sure_rests : SM :=
  (mSeq (mAsg (mCallF 1 (f_tupled 6) (mCons (mVar 0) mNil)) (mName 2))
  (mSeq (mIfS (mNotB (mTru (mCallF 2 f_is_rests_in (mCons (mVar 2) (mCons (mVar 1) mNil))))) mXS mNext)
  (mRet (mVar 2))))
def f_sure_rests : List PV → M PV := mDef 3 b_sure_rests
def b_mod_step : SM :=
  (mSeq (mAsg (mCallF 1 f_sure_mod (mCons (mVar 1) mNil)) (mName 2))
  (mRet (mCallF 2 f_summed (mCons (mCallF 2 f_sure_rests (mCons (mVar 0) (mCons (mVar 2) mNil))) (mCons (mVar 2) mNil)))))
def f_mod_step : List PV → M PV := mDef 3 b_mod_step
def b__law_of : SM :=
  (mRet (mOp pIx (mVar 1) (mCallF 2 f__law_take (mCons (mVar 0) (mCons (mCall fLen (mCons (mVar 1) mNil)) mNil)))))
def f__law_of : List PV → M PV := mDef 2 b__law_of
def b__law_trim : SM :=
  (mRet (mCall fTup (mCons (mComp (mEnum (mCons (mVar 0) mNil)) (mUnp 2 (mGCons (mName 1) (mGCons (mName 2) mGNil))) (mB (mOp (cIn false) (mC (.int 1)) (mSl (mVar 0) (mPart (mVar 1)) mNo))) (mVar 2) [1, 2]) mNil)))
def f__law_trim : List PV → M PV := mDef 3 b__law_trim
def b_sure_ring : SM :=
  (mSeq (mAsg (mCallF 1 (f_tupled 6) (mCons (mVar 0) mNil)) (mName 1))
  (mSeq (mIfS (mNotB (mTru (mCallF 1 f_is_ring_in (mCons (mVar 1) mNil)))) mXS mNext)
  (mRet (mVar 1))))
def f_sure_ring : List PV → M PV := mDef 2 b_sure_ring
def b_sure_poly : SM :=
  (mSeq (mAsg (mCallF 1 (f_tupled 6) (mCons (mVar 0) mNil)) (mName 2))
  (mSeq (mIfS (mOrB (mNotB (mTru (mCallF 1 f_is_poly_in (mCons (mVar 2) mNil)))) (mB (mOp cGt (mCall fLen (mCons (mVar 2) mNil)) (mVar 1)))) mXS mNext)
  (mRet (mVar 2))))
def f_sure_poly : List PV → M PV := mDef 3 b_sure_poly
def b_is_signed_in : SM :=
  (mRet (mAnd (mCallF 3 f_are_within (mCons (mVar 0) (mCons (mUn uNeg (mC (.int 1000000000000000000000000000000))) (mCons (mC (.int 1000000000000000000000000000000)) mNil)))) (mChain cLe cLe (mC (.int 2)) (mCall fLen (mCons (mVar 0) mNil)) (mC (.int 16)))))
def f_is_signed_in : List PV → M PV := mDef 1 b_is_signed_in
def b_sure_signed : SM :=
  (mSeq (mAsg (mCallF 1 (f_tupled 6) (mCons (mVar 0) mNil)) (mName 1))
  (mSeq (mIfS (mNotB (mTru (mCallF 1 f_is_signed_in (mCons (mVar 1) mNil)))) mXS mNext)
  (mRet (mVar 1))))
def f_sure_signed : List PV → M PV := mDef 2 b_sure_signed
def b__law_mixed (r : List PV → M PV) : SM :=
  (mSeq (mIfS (mNotB (mTru (mCall fIsi (mCons (mVar 1) (mCons (mTup (mCons (mC (.ty "list")) (mCons (mC (.ty "tuple")) mNil))) mNil))))) (mRet (mVar 1)) mNext)
  (mSeq (mAsg (mComp (mIter (mVar 1)) (mName 3) mYes (mCallF 2 r (mCons (mVar 0) (mCons (mVar 3) mNil))) [3]) (mName 2))
  (mRet (mIf (mB (mOp cEq (mCallF 2 f__law_take (mCons (mVar 0) (mCons (mC (.int 2)) mNil))) (mC (.int 0)))) (mVar 2) (mCall fTup (mCons (mVar 2) mNil))))))
def f__law_mixed : Nat → List PV → M PV
  | 0 => mDef 4 mXS
  | d + 1 => mDef 4 (b__law_mixed (f__law_mixed d))
def b__law_turn : SM :=
  (mSeq (mAsg (mOp bMod (mVar 1) (mCall fLen (mCons (mVar 0) mNil))) (mName 2))
  (mRet (mOp bAdd (mSl (mVar 0) (mPart (mVar 2)) mNo) (mSl (mVar 0) mNo (mPart (mVar 2))))))
def f__law_turn : List PV → M PV := mDef 3 b__law_turn
def b_shares_in : SM :=
  (mSeq (mPar 4 5 (mCons (mOp bAdd (mTup (mCons (mC (.int 1)) mNil)) (mOp (bMulS false) (mTup (mCons (mC (.int 0)) mNil)) (mOp bSub (mVar 0) (mC (.int 1))))) (mCons (mVar 2) mNil)))
  (mSeq (mAsg (mOp bAdd (mTup (mCons (mC (.int 1)) (mCons (mC (.int 1)) mNil))) (mOp (bMulS false) (mTup (mCons (mC (.int 0)) mNil)) (mOp bSub (mVar 0) (mC (.int 2))))) (mName 3))
  (mSeq (whileF (mB (mOp cGt (mVar 5) (mC (.int 0)))) (mSeq (mIfS (mB (mOp cEq (mOp bMod (mVar 5) (mC (.int 2))) (mC (.int 1)))) (mAsg (mCallF 3 f_rolled (mCons (mVar 4) (mCons (mVar 3) (mCons (mVar 1) mNil)))) (mName 4)) mNext)
  (mPar 3 5 (mCons (mCallF 3 f_rolled (mCons (mVar 3) (mCons (mVar 3) (mCons (mVar 1) mNil)))) (mCons (mOp bDiv (mVar 5) (mC (.int 2))) mNil)))) 4096)
  (mRet (mVar 4)))))
def f_shares_in : List PV → M PV := mDef 6 b_shares_in
def b_mod_far_in : SM :=
  (mSeq (mAsg (mTup (mCons (mCall fLen (mCons (mVar 0) mNil)) (mCons (mCallF 3 f_shares_in (mCons (mCall fLen (mCons (mVar 0) mNil)) (mCons (mVar 1) (mCons (mVar 2) mNil)))) mNil))) (mUnp 2 (mGCons (mName 5) (mGCons (mName 6) mGNil))))
  (mSeq (mAsg (mLstR mNil) (mName 3))
  (mSeq (mFor (mRng1 (mCons (mVar 5) mNil)) (mName 4) (mDrop (mMeth "list" fApp (mVar 3) (mCons (mOp bMod (mCall fSumA (mCons (mComp (mEnum (mCons (mVar 6) mNil)) (mUnp 2 (mGCons (mName 7) (mGCons (mName 8) mGNil))) mYes (mOp (bMulS false) (mVar 8) (mOp pIx (mVar 0) (mOp bMod (mOp bAdd (mVar 4) (mVar 7)) (mVar 5)))) [7, 8]) mNil)) (mVar 1)) mNil))))
  (mRet (mCall fTup (mCons (mVar 3) mNil))))))
def f_mod_far_in : List PV → M PV := mDef 9 b_mod_far_in
def b_mod_far : SM :=
  (mSeq (mAsg (mCallF 1 f_sure_mod (mCons (mVar 1) mNil)) (mName 3))
  (mSeq (mAsg (mCallF 2 f_sure_rests (mCons (mVar 0) (mCons (mVar 3) mNil))) (mName 4))
  (mRet (mCallF 3 f_mod_far_in (mCons (mVar 4) (mCons (mVar 3) (mCons (mCallF 3 f_sure_within (mCons (mVar 2) (mCons (mC (.int 0)) (mCons (mC (.int 1000000000000000000)) mNil)))) mNil)))))))
def f_mod_far : List PV → M PV := mDef 5 b_mod_far
def b_sure_many : SM :=
  (mRet (mCallF 3 f_sure_within (mCons (mVar 0) (mCons (mC (.int 2)) (mCons (mC (.int 16)) mNil)))))
def f_sure_many : List PV → M PV := mDef 1 b_sure_many
def b_mod_shares : SM :=
  (mSeq (mAsg (mCallF 1 f_sure_many (mCons (mVar 0) mNil)) (mName 3))
  (mSeq (mAsg (mCallF 1 f_sure_mod (mCons (mVar 1) mNil)) (mName 4))
  (mRet (mCallF 3 f_shares_in (mCons (mVar 3) (mCons (mVar 4) (mCons (mCallF 3 f_sure_within (mCons (mVar 2) (mCons (mC (.int 0)) (mCons (mC (.int 1000000000000000000)) mNil)))) mNil)))))))
def f_mod_shares : List PV → M PV := mDef 5 b_mod_shares
def b_signed_in : SM :=
  (mRet (mCall fTup (mCons (mComp (mZip (mCons (mVar 0) (mCons (mOp bAdd (mSl (mVar 0) (mPart (mC (.int 1))) mNo) (mSl (mVar 0) mNo (mPart (mC (.int 1))))) mNil))) (mUnp 2 (mGCons (mName 1) (mGCons (mName 2) mGNil))) mYes (mOp bSub (mVar 2) (mVar 1)) [1, 2]) mNil)))
def f_signed_in : List PV → M PV := mDef 3 b_signed_in
def b_signed_step : SM :=
  (mRet (mCallF 1 f_signed_in (mCons (mCallF 1 f_sure_signed (mCons (mVar 0) mNil)) mNil)))
def f_signed_step : List PV → M PV := mDef 1 b_signed_step
def b_binomials_in : SM :=
  (mSeq (mAsg (mLstR (mCons (mC (.int 1)) mNil)) (mName 1))
  (mSeq (mFor (mRng1 (mCons (mVar 0) mNil)) (mName 2) (mDrop (mMeth "list" fApp (mVar 1) (mCons (mOp bDiv (mOp (bMulS false) (mOp pIx (mVar 1) (mUn uNeg (mC (.int 1)))) (mOp bSub (mVar 0) (mVar 2))) (mOp bAdd (mVar 2) (mC (.int 1)))) mNil))))
  (mRet (mVar 1))))
def f_binomials_in : List PV → M PV := mDef 3 b_binomials_in
def b_folded_in : SM :=
  (mSeq (mAsg (mOp (bMulS true) (mLst (mCons (mC (.int 0)) mNil)) (mVar 0)) (mName 2))
  (mSeq (mFor (mEnum (mCons (mCallF 1 f_binomials_in (mCons (mVar 1) mNil)) mNil)) (mUnp 2 (mGCons (mName 3) (mGCons (mName 4) mGNil))) (mAugPut (mVar 2) (mOp bMod (mVar 3) (mVar 0)) (mOp (bMulS false) (mVar 4) (mOp bSub (mC (.int 1)) (mOp (bMulS false) (mC (.int 2)) (mOp bMod (mOp bSub (mVar 1) (mVar 3)) (mC (.int 2))))))))
  (mRet (mCall fTup (mCons (mVar 2) mNil)))))
def f_folded_in : List PV → M PV := mDef 5 b_folded_in
def b_signed_far_in : SM :=
  (mSeq (mAsg (mTup (mCons (mCall fLen (mCons (mVar 0) mNil)) (mCons (mCallF 2 f_folded_in (mCons (mCall fLen (mCons (mVar 0) mNil)) (mCons (mVar 1) mNil))) mNil))) (mUnp 2 (mGCons (mName 4) (mGCons (mName 5) mGNil))))
  (mSeq (mAsg (mLstR mNil) (mName 2))
  (mSeq (mFor (mRng1 (mCons (mVar 4) mNil)) (mName 3) (mDrop (mMeth "list" fApp (mVar 2) (mCons (mCall fSumA (mCons (mComp (mEnum (mCons (mVar 5) mNil)) (mUnp 2 (mGCons (mName 6) (mGCons (mName 7) mGNil))) mYes (mOp (bMulS false) (mVar 7) (mOp pIx (mVar 0) (mOp bMod (mOp bAdd (mVar 3) (mVar 6)) (mVar 4)))) [6, 7]) mNil)) mNil))))
  (mRet (mCall fTup (mCons (mVar 2) mNil))))))
def f_signed_far_in : List PV → M PV := mDef 8 b_signed_far_in
def b_signed_far : SM :=
  (mSeq (mAsg (mCallF 1 f_sure_signed (mCons (mVar 0) mNil)) (mName 2))
  (mRet (mCallF 2 f_signed_far_in (mCons (mVar 2) (mCons (mCallF 3 f_sure_within (mCons (mVar 1) (mCons (mC (.int 0)) (mCons (mC (.int 200)) mNil)))) mNil)))))
def f_signed_far : List PV → M PV := mDef 3 b_signed_far
def b_folded : SM :=
  (mSeq (mAsg (mCallF 1 f_sure_many (mCons (mVar 0) mNil)) (mName 2))
  (mRet (mCallF 2 f_folded_in (mCons (mVar 2) (mCons (mCallF 3 f_sure_within (mCons (mVar 1) (mCons (mC (.int 0)) (mCons (mC (.int 200)) mNil)))) mNil)))))
def f_folded : List PV → M PV := mDef 3 b_folded
def b_bare : SM :=
  (mRet (mCall fTup (mCons (mComp (mIter (mCallF 1 f_sure_signed (mCons (mVar 0) mNil))) (mName 1) mYes (mCall fAbs (mCons (mVar 1) mNil)) [1]) mNil)))
def f_bare : List PV → M PV := mDef 2 b_bare
def b_far_bits : SM :=
  (mSeq (mAsg (mCallF 1 f_sure_bits (mCons (mVar 0) mNil)) (mName 2))
  (mRet (mCallF 2 f_far_in (mCons (mVar 2) (mCons (mCallF 3 f_sure_within (mCons (mVar 1) (mCons (mC (.int 0)) (mCons (mC (.int 1000000000000000000)) mNil)))) mNil)))))
def f_far_bits : List PV → M PV := mDef 3 b_far_bits
def b_step : SM :=
  (mRet (mCallF 1 f_step_in (mCons (mCallF 1 f_sure_ring (mCons (mVar 0) mNil)) mNil)))
def f_step : List PV → M PV := mDef 1 b_step
def b__law_box_k61 : SM :=
  (mSeq (mAsg (mIf (mB (mOp cLt (mVar 1) (mCall fLen (mCons (mVar 0) mNil)))) (mOp pIx (mVar 0) (mVar 1)) (mC (.int 0))) (mName 2))
  (mRet (mLstR (mCons (mOp (bMulS false) (mCall fAbs (mCons (mVar 2) mNil)) (mCall fInt (mCons (mOp cGe (mCall fAbs (mCons (mVar 2) mNil)) (mOp bPow (mC (.int 10)) (mC (.int 18)))) mNil))) (mCons (mOp bAdd (mOp bAdd (mOp bMod (mCall fInt (mCons (mVar 2) mNil)) (mC (.int 2305843009213693951))) (mOp (bMulS false) (mC (.int 39373)) (mVar 1))) (mC (.int 25179061))) (mCons (mC (.int 0)) mNil))))))
def f__law_box_k61 : List PV → M PV := mDef 3 b__law_box_k61
def b__law_alt : SM :=
  (mRet (mCall fTup (mCons (mComp (mEnum (mCons (mVar 0) mNil)) (mUnp 2 (mGCons (mName 1) (mGCons (mName 2) mGNil))) mYes (mOp (bMulS false) (mVar 2) (mOp bSub (mC (.int 1)) (mOp (bMulS false) (mC (.int 2)) (mOp bMod (mVar 1) (mC (.int 2)))))) [1, 2]) mNil)))
def f__law_alt : List PV → M PV := mDef 3 b__law_alt
def b__law_sum : SM :=
  (mRet (mCall fSumA (mCons (mComp (mZip (mCons (mVar 0) (mCons (mVar 1) mNil))) (mUnp 2 (mGCons (mName 2) (mGCons (mName 3) mGNil))) mYes (mOp (bMulS false) (mVar 2) (mVar 3)) [2, 3]) mNil)))
def f__law_sum : List PV → M PV := mDef 4 b__law_sum
def b__law_right_k61 : SM :=
  (mSeq (mAsg (mOp (bMulS false) (mC (.int 2)) (mOp bAdd (mC (.int 1)) (mCallF 2 f__law_take (mCons (mVar 0) (mCons (mC (.int 8)) mNil))))) (mName 1))
  (mSeq (mAsg (mTup (mCons (mOp bAdd (mC (.int 2)) (mCallF 2 f__law_take (mCons (mVar 0) (mCons (mC (.int 59)) mNil)))) (mCons (mCallF 2 f__law_take (mCons (mVar 0) (mCons (mC (.int 201)) mNil))) mNil))) (mUnp 2 (mGCons (mName 11) (mGCons (mName 12) mGNil))))
  (mSeq (mAsg (mComp (mIter (mTup (mCons (mC (.int 0)) (mCons (mC (.int 1)) mNil)))) (mName 17) mYes (mCall fTup (mCons (mComp (mRng1 (mCons (mVar 1) mNil)) (mName 19) mYes (mOp bSub (mCallF 2 f__law_take (mCons (mVar 0) (mCons (mC (.int 2001)) mNil))) (mC (.int 1000))) [19]) mNil)) [17]) (mUnp 2 (mGCons (mName 13) (mGCons (mName 14) mGNil))))
  (mSeq (mAsg (mCallF 2 f_signed_far (mCons (mCallF 2 (f__law_mixed 6) (mCons (mVar 0) (mCons (mVar 13) mNil))) (mCons (mVar 12) mNil))) (mName 2))
  (mSeq (mAsg (mCall fTup (mCons (mComp (mIter (mCallF 1 f__law_alt (mCons (mVar 13) mNil))) (mName 18) mYes (mOp bMod (mVar 18) (mVar 11)) [18]) mNil)) (mName 3))
  (mSeq (mAsg (mOp bSub (mC (.int 1)) (mOp (bMulS false) (mC (.int 2)) (mOp bMod (mVar 12) (mC (.int 2))))) (mName 4))
  (mSeq (mIfS (mNotB (mTru (mCallF 2 (f__law_same 6) (mCons (mCallF 3 f_mod_far (mCons (mCallF 2 (f__law_mixed 6) (mCons (mVar 0) (mCons (mVar 3) mNil))) (mCons (mVar 11) (mCons (mVar 12) mNil)))) (mCons (mCall fTup (mCons (mComp (mIter (mCallF 1 f__law_alt (mCons (mVar 2) mNil))) (mName 18) mYes (mOp bMod (mOp (bMulS false) (mVar 4) (mVar 18)) (mVar 11)) [18]) mNil)) mNil))))) (mRet (mC (.bl false))) mNext)
  (mSeq (mAsg (mCall fTup (mCons (mComp (mZip (mCons (mVar 13) (mCons (mOp bAdd (mSl (mVar 13) (mPart (mC (.int 1))) mNo) (mSl (mVar 13) mNo (mPart (mC (.int 1))))) mNil))) (mUnp 2 (mGCons (mName 15) (mGCons (mName 16) mGNil))) mYes (mOp bSub (mVar 16) (mVar 15)) [15, 16]) mNil)) (mName 5))
  (mSeq (mIfS (mNotB (mTru (mCallF 2 (f__law_same 6) (mCons (mLst (mCons (mCallF 1 f_signed_step (mCons (mVar 13) mNil)) (mCons (mCallF 2 f_mod_step (mCons (mVar 3) (mCons (mVar 11) mNil))) mNil))) (mCons (mLst (mCons (mVar 5) (mCons (mCall fTup (mCons (mComp (mIter (mCallF 1 f__law_alt (mCons (mVar 5) mNil))) (mName 18) mYes (mOp bMod (mUn uNeg (mVar 18)) (mVar 11)) [18]) mNil)) mNil))) mNil))))) (mRet (mC (.bl false))) mNext)
  (mSeq (mAsg (mTup (mCons (mOp bSub (mCallF 2 f__law_take (mCons (mVar 0) (mCons (mC (.int 19)) mNil))) (mC (.int 9))) (mCons (mOp bSub (mCallF 2 f__law_take (mCons (mVar 0) (mCons (mC (.int 19)) mNil))) (mC (.int 9))) mNil))) (mUnp 2 (mGCons (mName 15) (mGCons (mName 16) mGNil))))
  (mSeq (mAsg (mCall fTup (mCons (mComp (mZip (mCons (mVar 13) (mCons (mVar 14) mNil))) (mUnp 2 (mGCons (mName 20) (mGCons (mName 21) mGNil))) mYes (mOp bAdd (mOp (bMulS false) (mVar 15) (mVar 20)) (mOp (bMulS false) (mVar 16) (mVar 21))) [20, 21]) mNil)) (mName 6))
  (mSeq (mAsg (mCallF 2 f_signed_far (mCons (mVar 14) (mCons (mVar 12) mNil))) (mName 7))
  (mSeq (mIfS (mNotB (mTru (mCallF 2 (f__law_same 6) (mCons (mCallF 2 f_signed_far (mCons (mVar 6) (mCons (mVar 12) mNil))) (mCons (mCall fTup (mCons (mComp (mZip (mCons (mVar 2) (mCons (mVar 7) mNil))) (mUnp 2 (mGCons (mName 20) (mGCons (mName 21) mGNil))) mYes (mOp bAdd (mOp (bMulS false) (mVar 15) (mVar 20)) (mOp (bMulS false) (mVar 16) (mVar 21))) [20, 21]) mNil)) mNil))))) (mRet (mC (.bl false))) mNext)
  (mSeq (mAsg (mCallF 2 f_folded (mCons (mVar 1) (mCons (mVar 12) mNil))) (mName 8))
  (mSeq (mIfS (mNotB (mTru (mCallF 2 (f__law_same 6) (mCons (mVar 2) (mCons (mCall fTup (mCons (mComp (mRng1 (mCons (mVar 1) mNil)) (mName 19) mYes (mCallF 2 f__law_sum (mCons (mVar 8) (mCons (mOp bAdd (mSl (mVar 13) (mPart (mVar 19)) mNo) (mSl (mVar 13) mNo (mPart (mVar 19)))) mNil))) [19]) mNil)) mNil))))) (mRet (mC (.bl false))) mNext)
  (mSeq (mAsg (mCallF 2 f__law_take (mCons (mVar 0) (mCons (mC (.int 30)) mNil))) (mName 9))
  (mSeq (mIfS (mAndB (mB (mOp cGe (mVar 12) (mVar 9))) (mB (mOp cLe (mCall fMaxA (mCons (mComp (mIter (mCallF 2 f_signed_far (mCons (mVar 13) (mCons (mVar 9) mNil)))) (mName 18) mYes (mCall fAbs (mCons (mVar 18) mNil)) [18]) mNil)) (mOp bPow (mC (.int 10)) (mC (.int 30)))))) (mIfS (mNotB (mTru (mCallF 2 (f__law_same 6) (mCons (mCallF 2 f_signed_far (mCons (mCallF 2 f_signed_far (mCons (mVar 13) (mCons (mVar 9) mNil))) (mCons (mOp bSub (mVar 12) (mVar 9)) mNil))) (mCons (mVar 2) mNil))))) (mRet (mC (.bl false))) mNext) mNext)
  (mSeq (mAsg (mCall fTup (mCons (mComp (mIter (mVar 13)) (mName 18) mYes (mCall fAbs (mCons (mVar 18) mNil)) [18]) mNil)) (mName 10))
  (mRet (mAnd (mCallF 2 (f__law_same 6) (mCons (mLst (mCons (mCallF 1 f_bare (mCons (mCallF 1 f_signed_step (mCons (mVar 10) mNil)) mNil)) (mCons (mCallF 1 f_bare (mCons (mVar 13) mNil)) mNil))) (mCons (mLst (mCons (mCallF 1 f_step (mCons (mVar 10) mNil)) (mCons (mVar 10) mNil))) mNil))) (mOr (mOp cEq (mVar 12) (mC (.int 0))) (mOp cEq (mCall fSumA (mCons (mVar 2) mNil)) (mC (.int 0))))))))))))))))))))))))
def f__law_right_k61 : List PV → M PV := mDef 22 b__law_right_k61
def b_law_k61 : SM :=
  (mSeq (mAsg (mCallK 2 f__law_box_k61 (mCons (mCallF 2 f__law_cells (mCons (mVar 0) (mCons (mC (.int 1)) mNil))) (mCons (mC (.int 0)) mNil))) (mName 1))
  (mSeq (mAsg (mLst (mCons (mCallF 1 f_signed_step (mCons (mTup (mCons (mC (.int 1)) (mCons (mC (.int 4)) (mCons (mC (.int 2)) mNil)))) mNil)) (mCons (mCallF 2 f_signed_far (mCons (mTup (mCons (mC (.int 1)) (mCons (mC (.int 4)) (mCons (mC (.int 2)) mNil)))) (mCons (mC (.int 2)) mNil))) (mCons (mCallF 2 f_folded (mCons (mC (.int 3)) (mCons (mC (.int 3)) mNil))) (mCons (mCallF 3 f_mod_far (mCons (mTup (mCons (mC (.int 1)) (mCons (mC (.int 6)) (mCons (mC (.int 2)) (mCons (mC (.int 5)) mNil))))) (mCons (mC (.int 7)) (mCons (mC (.int 1)) mNil)))) mNil))))) (mName 2))
  (mSeq (mIfS (mNotB (mTru (mCallF 2 (f__law_same 6) (mCons (mVar 2) (mCons (mLst (mCons (mTup (mCons (mC (.int 3)) (mCons (mUn uNeg (mC (.int 2))) (mCons (mUn uNeg (mC (.int 1))) mNil)))) (mCons (mTup (mCons (mUn uNeg (mC (.int 5))) (mCons (mC (.int 1)) (mCons (mC (.int 4)) mNil)))) (mCons (mTup (mCons (mC (.int 0)) (mCons (mC (.int 3)) (mCons (mUn uNeg (mC (.int 3))) mNil)))) (mCons (mTup (mCons (mC (.int 0)) (mCons (mC (.int 1)) (mCons (mC (.int 0)) (mCons (mC (.int 6)) mNil))))) mNil))))) mNil))))) (mRet (mC (.bl false))) mNext)
  (mRet (mCall fAll (mCons (mComp (mRng1 (mCons (mC (.int 3)) mNil)) (mName 3) mYes (mCallF 1 f__law_right_k61 (mCons (mVar 1) mNil)) [3]) mNil))))))
def f_law_k61 : List PV → M PV := mDef 4 b_law_k61
def b__law_box_k62 : SM :=
  (mSeq (mAsg (mIf (mB (mOp cLt (mVar 1) (mCall fLen (mCons (mVar 0) mNil)))) (mOp pIx (mVar 0) (mVar 1)) (mC (.int 0))) (mName 2))
  (mRet (mLstR (mCons (mOp (bMulS false) (mCall fAbs (mCons (mVar 2) mNil)) (mCall fInt (mCons (mOp cGe (mCall fAbs (mCons (mVar 2) mNil)) (mOp bPow (mC (.int 10)) (mC (.int 18)))) mNil))) (mCons (mOp bAdd (mOp bAdd (mOp bMod (mCall fInt (mCons (mVar 2) mNil)) (mC (.int 2305843009213693951))) (mOp (bMulS false) (mC (.int 39373)) (mVar 1))) (mC (.int 25179062))) (mCons (mC (.int 0)) mNil))))))
def f__law_box_k62 : List PV → M PV := mDef 3 b__law_box_k62
def b__law_power : SM :=
  (mSeq (mAsg (mC (.int 1)) (mName 2))
  (mSeq (mFor (mRng1 (mCons (mVar 1) mNil)) (mName 3) (mAsg (mOp (bMulS false) (mVar 2) (mVar 0)) (mName 2)))
  (mRet (mVar 2))))
def f__law_power : List PV → M PV := mDef 4 b__law_power
def b__law_rest_of_twos : SM :=
  (mSeq (mPar3 3 4 5 (mCons (mOp bMod (mC (.int 1)) (mVar 1)) (mCons (mOp bMod (mC (.int 2)) (mVar 1)) (mCons (mVar 0) mNil))))
  (mSeq (mFor (mRng1 (mCons (mC (.int 70)) mNil)) (mName 2) (mSeq (mIfS (mB (mOp cEq (mOp bMod (mVar 5) (mC (.int 2))) (mC (.int 1)))) (mAsg (mOp bMod (mOp (bMulS false) (mVar 3) (mVar 4)) (mVar 1)) (mName 3)) mNext)
  (mPar 4 5 (mCons (mOp bMod (mOp (bMulS false) (mVar 4) (mVar 4)) (mVar 1)) (mCons (mOp bDiv (mVar 5) (mC (.int 2))) mNil)))))
  (mRet (mVar 3))))
def f__law_rest_of_twos : List PV → M PV := mDef 6 b__law_rest_of_twos
def b_poly_power : SM :=
  (mSeq (mAsg (mCallF 2 f_sure_poly (mCons (mVar 0) (mCons (mC (.int 64)) mNil))) (mName 3))
  (mSeq (mAsg (mCallF 3 f_sure_within (mCons (mVar 1) (mCons (mC (.int 0)) (mCons (mC (.int 1000000000000000000)) mNil)))) (mName 4))
  (mSeq (mAsg (mCallF 2 f_sure_poly (mCons (mVar 2) (mCons (mC (.int 64)) mNil))) (mName 5))
  (mSeq (mIfS (mB (mOp cEq (mVar 5) mXE)) mXS mNext)
  (mRet (mCallF 3 f_p_power (mCons (mVar 3) (mCons (mVar 4) (mCons (mVar 5) mNil)))))))))
def f_poly_power : List PV → M PV := mDef 6 b_poly_power
def b__law_right_k62 : SM :=
  (mSeq (mAsg (mTup (mCons (mOp bAdd (mC (.int 2)) (mCallF 2 f__law_take (mCons (mVar 0) (mCons (mC (.int 15)) mNil)))) (mCons (mOp bAdd (mC (.int 2)) (mCallF 2 f__law_take (mCons (mVar 0) (mCons (mC (.int 59)) mNil)))) (mCons (mCallF 2 f__law_take (mCons (mVar 0) (mCons (mC (.int 61)) mNil))) mNil)))) (mUnp 3 (mGCons (mName 10) (mGCons (mName 11) (mGCons (mName 12) mGNil)))))
  (mSeq (mAsg (mLst (mCons (mC (.int 1)) mNil)) (mName 1))
  (mSeq (mFor (mRng1 (mCons (mVar 12) mNil)) (mName 2) (mAsg (mComp (mZip (mCons (mOp bAdd (mLst (mCons (mC (.int 0)) mNil)) (mVar 1)) (mCons (mOp bAdd (mVar 1) (mLst (mCons (mC (.int 0)) mNil))) mNil))) (mUnp 2 (mGCons (mName 13) (mGCons (mName 14) mGNil))) mYes (mOp bAdd (mVar 13) (mVar 14)) [13, 14]) (mName 1)))
  (mSeq (mAsg (mCall fTup (mCons (mComp (mRng1 (mCons (mVar 10) mNil)) (mName 19) mYes (mCall fSumA (mCons (mComp (mEnum (mCons (mVar 1) mNil)) (mUnp 2 (mGCons (mName 21) (mGCons (mName 20) mGNil))) (mB (mOp cEq (mOp bMod (mVar 21) (mVar 10)) (mVar 19))) (mVar 20) [21, 20]) mNil)) [19]) mNil)) (mName 3))
  (mSeq (mAsg (mCall fTup (mCons (mComp (mRng1 (mCons (mVar 10) mNil)) (mName 19) mYes (mCall fSumA (mCons (mComp (mEnum (mCons (mVar 1) mNil)) (mUnp 2 (mGCons (mName 21) (mGCons (mName 20) mGNil))) (mB (mOp cEq (mOp bMod (mVar 21) (mVar 10)) (mVar 19))) (mOp (bMulS false) (mVar 20) (mOp bSub (mC (.int 1)) (mOp (bMulS false) (mC (.int 2)) (mOp bMod (mOp bSub (mVar 12) (mVar 21)) (mC (.int 2)))))) [21, 20]) mNil)) [19]) mNil)) (mName 4))
  (mSeq (mIfS (mNotB (mTru (mCallF 2 (f__law_same 6) (mCons (mLst (mCons (mCallF 3 f_mod_shares (mCons (mVar 10) (mCons (mVar 11) (mCons (mVar 12) mNil)))) (mCons (mCallF 2 f_folded (mCons (mVar 10) (mCons (mVar 12) mNil))) mNil))) (mCons (mLst (mCons (mCall fTup (mCons (mComp (mIter (mVar 3)) (mName 20) mYes (mOp bMod (mVar 20) (mVar 11)) [20]) mNil)) (mCons (mVar 4) mNil))) mNil))))) (mRet (mC (.bl false))) mNext)
  (mSeq (mIfS (mOrB (mB (mOp cNe (mCall fSumA (mCons (mVar 3) mNil)) (mCallF 2 f__law_power (mCons (mC (.int 2)) (mCons (mVar 12) mNil))))) (mAndB (mB (mOp cGt (mVar 12) (mC (.int 0)))) (mB (mOp cNe (mCall fSumA (mCons (mVar 4) mNil)) (mC (.int 0)))))) (mRet (mC (.bl false))) mNext)
  (mSeq (mAsg (mOp bAdd (mOp bAdd (mTup (mCons (mC (.int 1)) mNil)) (mOp (bMulS false) (mTup (mCons (mC (.int 0)) mNil)) (mOp bSub (mVar 10) (mC (.int 1))))) (mTup (mCons (mC (.int 1)) mNil))) (mName 5))
  (mSeq (mAsg (mCallF 3 f_mod_shares (mCons (mVar 10) (mCons (mC (.int 2)) (mCons (mVar 12) mNil)))) (mName 6))
  (mSeq (mAsg (mOp bAdd (mTup (mCons (mC (.int 1)) mNil)) (mOp (bMulS false) (mTup (mCons (mC (.int 0)) mNil)) (mOp bSub (mVar 10) (mC (.int 1))))) (mName 7))
  (mSeq (mAsg (mLst (mCons (mCallF 1 f__law_trim (mCons (mVar 6) mNil)) (mCons (mCallF 2 f_far_bits (mCons (mVar 7) (mCons (mVar 12) mNil))) (mCons (mCall fTup (mCons (mComp (mIter (mVar 4)) (mName 20) mYes (mOp bMod (mVar 20) (mC (.int 2))) [20]) mNil)) mNil)))) (mName 8))
  (mSeq (mIfS (mNotB (mTru (mCallF 2 (f__law_same 6) (mCons (mVar 8) (mCons (mLst (mCons (mCallF 3 f_poly_power (mCons (mTup (mCons (mC (.int 1)) (mCons (mC (.int 1)) mNil))) (mCons (mVar 12) (mCons (mVar 5) mNil)))) (mCons (mOp bAdd (mSl (mVar 6) mNo (mPart (mC (.int 1)))) mXE) (mCons (mVar 6) mNil)))) mNil))))) (mRet (mC (.bl false))) mNext)
  (mSeq (mPar 13 14 (mCons (mCallF 2 f__law_take (mCons (mVar 0) (mCons (mOp bPow (mC (.int 10)) (mC (.int 17))) mNil))) (mCons (mCallF 2 f__law_take (mCons (mVar 0) (mCons (mOp bPow (mC (.int 10)) (mC (.int 17))) mNil))) mNil)))
  (mSeq (mPar 15 16 (mCons (mCallF 3 f_mod_shares (mCons (mVar 10) (mCons (mVar 11) (mCons (mVar 13) mNil)))) (mCons (mCallF 3 f_mod_shares (mCons (mVar 10) (mCons (mVar 11) (mCons (mVar 14) mNil)))) mNil)))
  (mSeq (mIfS (mNotB (mTru (mCallF 2 (f__law_same 6) (mCons (mCallF 3 f_mod_shares (mCons (mVar 10) (mCons (mVar 11) (mCons (mOp bAdd (mVar 13) (mVar 14)) mNil)))) (mCons (mCallF 3 f__law_rolled (mCons (mVar 15) (mCons (mVar 16) (mCons (mVar 11) mNil)))) mNil))))) (mRet (mC (.bl false))) mNext)
  (mSeq (mIfS (mOrB (mB (mOp cNe (mComp (mIter (mVar 15)) (mName 20) (mOrB (mB (mOp cLt (mVar 20) (mC (.int 0)))) (mB (mOp cGe (mVar 20) (mVar 11)))) (mVar 20) [20]) (mLst mNil))) (mB (mOp cNe (mOp bMod (mCall fSumA (mCons (mVar 15) mNil)) (mVar 11)) (mCallF 2 f__law_rest_of_twos (mCons (mVar 13) (mCons (mVar 11) mNil)))))) (mRet (mC (.bl false))) mNext)
  (mSeq (mIfS (mB (mOp cLe (mOp bAdd (mVar 13) (mVar 14)) (mC (.int 200)))) (mRet (mC (.bl true))) mNext)
  (mSeq (mAsg (mCallF 2 f__law_take (mCons (mVar 0) (mCons (mC (.int 100)) mNil))) (mName 9))
  (mSeq (mAsg (mTup (mCons (mCallF 2 f_folded (mCons (mVar 10) (mCons (mVar 9) mNil))) (mCons (mCallF 2 f_folded (mCons (mVar 10) (mCons (mOp bSub (mC (.int 200)) (mVar 9)) mNil))) mNil))) (mUnp 2 (mGCons (mName 17) (mGCons (mName 18) mGNil))))
  (mRet (mCallF 2 (f__law_same 6) (mCons (mCallF 2 f_folded (mCons (mVar 10) (mCons (mC (.int 200)) mNil))) (mCons (mCall fTup (mCons (mComp (mRng1 (mCons (mVar 10) mNil)) (mName 19) mYes (mCall fSumA (mCons (mComp (mRng1 (mCons (mVar 10) mNil)) (mName 21) mYes (mOp (bMulS false) (mOp pIx (mVar 17) (mVar 21)) (mOp pIx (mVar 18) (mOp bMod (mOp bSub (mVar 19) (mVar 21)) (mVar 10)))) [21]) mNil)) [19]) mNil)) mNil)))))))))))))))))))))))
def f__law_right_k62 : List PV → M PV := mDef 22 b__law_right_k62
def b_law_k62 : SM :=
  (mSeq (mAsg (mCallK 2 f__law_box_k62 (mCons (mCallF 2 f__law_cells (mCons (mVar 0) (mCons (mC (.int 1)) mNil))) (mCons (mC (.int 0)) mNil))) (mName 1))
  (mSeq (mAsg (mLst (mCons (mCallF 3 f_mod_shares (mCons (mC (.int 3)) (mCons (mC (.int 3)) (mCons (mC (.int 2)) mNil)))) (mCons (mCallF 3 f_mod_shares (mCons (mC (.int 2)) (mCons (mC (.int 10)) (mCons (mC (.int 5)) mNil)))) (mCons (mCallF 2 f_folded (mCons (mC (.int 3)) (mCons (mC (.int 2)) mNil))) (mCons (mCallF 2 f_folded (mCons (mC (.int 2)) (mCons (mC (.int 5)) mNil))) (mCons (mCallF 3 f_mod_shares (mCons (mC (.int 16)) (mCons (mC (.int 60)) (mCons (mC (.int 0)) mNil)))) mNil)))))) (mName 2))
  (mSeq (mIfS (mNotB (mTru (mCallF 2 (f__law_same 6) (mCons (mVar 2) (mCons (mLst (mCons (mTup (mCons (mC (.int 1)) (mCons (mC (.int 2)) (mCons (mC (.int 1)) mNil)))) (mCons (mTup (mCons (mC (.int 6)) (mCons (mC (.int 6)) mNil))) (mCons (mTup (mCons (mC (.int 1)) (mCons (mUn uNeg (mC (.int 2))) (mCons (mC (.int 1)) mNil)))) (mCons (mTup (mCons (mUn uNeg (mC (.int 16))) (mCons (mC (.int 16)) mNil))) (mCons (mOp bAdd (mTup (mCons (mC (.int 1)) mNil)) (mOp (bMulS false) (mTup (mCons (mC (.int 0)) mNil)) (mC (.int 15)))) mNil)))))) mNil))))) (mRet (mC (.bl false))) mNext)
  (mRet (mCall fAll (mCons (mComp (mRng1 (mCons (mC (.int 3)) mNil)) (mName 3) mYes (mCallF 1 f__law_right_k62 (mCons (mVar 1) mNil)) [3]) mNil))))))
def f_law_k62 : List PV → M PV := mDef 4 b_law_k62
def b__law_box_k63 : SM :=
  (mSeq (mAsg (mIf (mB (mOp cLt (mVar 1) (mCall fLen (mCons (mVar 0) mNil)))) (mOp pIx (mVar 0) (mVar 1)) (mC (.int 0))) (mName 2))
  (mRet (mLstR (mCons (mOp (bMulS false) (mCall fAbs (mCons (mVar 2) mNil)) (mCall fInt (mCons (mOp cGe (mCall fAbs (mCons (mVar 2) mNil)) (mOp bPow (mC (.int 10)) (mC (.int 18)))) mNil))) (mCons (mOp bAdd (mOp bAdd (mOp bMod (mCall fInt (mCons (mVar 2) mNil)) (mC (.int 2305843009213693951))) (mOp (bMulS false) (mC (.int 39373)) (mVar 1))) (mC (.int 25179063))) (mCons (mC (.int 0)) mNil))))))
def f__law_box_k63 : List PV → M PV := mDef 3 b__law_box_k63
def b__law_right_k63 : SM :=
  (mSeq (mAsg (mTup (mCons (mOp bAdd (mC (.int 2)) (mCallF 2 f__law_take (mCons (mVar 0) (mCons (mC (.int 15)) mNil)))) (mCons (mCallF 2 f__law_of (mCons (mVar 0) (mCons (mLst (mCons (mC (.int 2)) (mCons (mC (.int 3)) (mCons (mC (.int 5)) (mCons (mC (.int 7)) (mCons (mC (.int 11)) (mCons (mC (.int 13)) (mCons (mC (.int 17)) (mCons (mC (.int 19)) (mCons (mC (.int 23)) (mCons (mC (.int 29)) (mCons (mC (.int 31)) (mCons (mC (.int 37)) (mCons (mC (.int 41)) (mCons (mC (.int 43)) (mCons (mC (.int 47)) (mCons (mC (.int 53)) (mCons (mC (.int 59)) mNil)))))))))))))))))) mNil))) mNil))) (mUnp 2 (mGCons (mName 8) (mGCons (mName 9) mGNil))))
  (mSeq (mAsg (mCall fTup (mCons (mComp (mRng1 (mCons (mVar 8) mNil)) (mName 13) mYes (mOp bSub (mCallF 2 f__law_take (mCons (mVar 0) (mCons (mOp (bMulS false) (mC (.int 2)) (mOp bPow (mC (.int 10)) (mC (.int 6)))) mNil))) (mOp bPow (mC (.int 10)) (mC (.int 6)))) [13]) mNil)) (mName 1))
  (mSeq (mPar 10 11 (mCons (mCallF 2 f_signed_far (mCons (mCallF 2 (f__law_mixed 6) (mCons (mVar 0) (mCons (mVar 1) mNil))) (mCons (mVar 9) mNil))) (mCons (mCallF 2 f__law_turn (mCons (mVar 1) (mCons (mVar 9) mNil))) mNil)))
  (mSeq (mIfS (mB (mOp cNe (mComp (mIter mXE) (mUnp 3 (mGCons (mName 15) (mGCons (mName 16) (mGCons (mName 17) mGNil)))) (mB (mOp cNe (mOp bMod (mOp bAdd (mOp bSub (mVar 15) (mVar 16)) (mVar 17)) (mVar 9)) (mC (.int 0)))) (mC (.int 1)) [15, 16, 17]) (mLst mNil))) (mRet (mC (.bl false))) mNext)
  (mSeq (mAsg (mCall fTup (mCons (mComp (mIter (mVar 1)) (mName 14) mYes (mOp bMod (mVar 14) (mVar 9)) [14]) mNil)) (mName 2))
  (mSeq (mAsg (mVar 9) (mName 3))
  (mSeq (mFor (mRng2 (mCons (mC (.int 1)) (mCons (mC (.int 9)) mNil))) (mName 4) (mSeq (mAsg (mCall fTup (mCons (mComp (mZip (mCons (mVar 2) (mCons (mCallF 2 f__law_turn (mCons (mVar 2) (mCons (mVar 3) mNil))) mNil))) (mUnp 2 (mGCons (mName 15) (mGCons (mName 16) mGNil))) mYes (mOp bMod (mOp bAdd (mVar 15) (mVar 16)) (mVar 9)) [15, 16]) mNil)) (mName 12))
  (mSeq (mIfS (mNotB (mTru (mCallF 2 (f__law_same 6) (mCons (mCallF 3 f_mod_far (mCons (mCallF 2 (f__law_mixed 6) (mCons (mVar 0) (mCons (mVar 2) mNil))) (mCons (mVar 9) (mCons (mVar 3) mNil)))) (mCons (mVar 12) mNil))))) (mRet (mC (.bl false))) mNext)
  (mSeq (mIfS (mAndB (mB (mOp cEq (mVar 9) (mC (.int 2)))) (mNotB (mTru (mCallF 2 (f__law_same 6) (mCons (mCallF 2 f_far_bits (mCons (mVar 2) (mCons (mVar 3) mNil))) (mCons (mVar 12) mNil)))))) (mRet (mC (.bl false))) mNext)
  (mAsg (mOp (bMulS false) (mVar 3) (mVar 9)) (mName 3))))))
  (mSeq (mAsg (mOp (bMulS true) (mLst (mCons (mC (.int 0)) mNil)) (mVar 8)) (mName 5))
  (mSeq (mAsg (mC (.int 1)) (mPut (mVar 5) (mC (.int 0))))
  (mSeq (mAsg (mOp bAdd (mOp pIx (mVar 5) (mOp bMod (mVar 9) (mVar 8))) (mC (.int 1))) (mPut (mVar 5) (mOp bMod (mVar 9) (mVar 8))))
  (mSeq (mIfS (mNotB (mTru (mCallF 2 (f__law_same 6) (mCons (mCallF 3 f_mod_shares (mCons (mVar 8) (mCons (mVar 9) (mCons (mVar 9) mNil)))) (mCons (mCall fTup (mCons (mComp (mIter (mVar 5)) (mName 14) mYes (mOp bMod (mVar 14) (mVar 9)) [14]) mNil)) mNil))))) (mRet (mC (.bl false))) mNext)
  (mSeq (mAsg (mVar 9) (mName 6))
  (mSeq (mFor (mRng1 (mCons (mVar 8) mNil)) (mName 7) (mSeq (mIfS (mOrB (mB (mOp cEq (mOp bMod (mVar 6) (mVar 8)) (mC (.int 0)))) (mB (mOp cGt (mVar 6) (mOp bPow (mC (.int 10)) (mC (.int 16)))))) mBreak mNext)
  (mAsg (mOp (bMulS false) (mVar 6) (mVar 9)) (mName 6))))
  (mSeq (mIfS (mB (mOp cEq (mOp bMod (mVar 6) (mVar 8)) (mC (.int 0)))) (mRet (mCallF 2 (f__law_same 6) (mCons (mCallF 3 f_mod_far (mCons (mVar 2) (mCons (mVar 9) (mCons (mVar 6) mNil)))) (mCons (mCall fTup (mCons (mComp (mIter (mVar 2)) (mName 14) mYes (mOp bMod (mOp (bMulS false) (mC (.int 2)) (mVar 14)) (mVar 9)) [14]) mNil)) mNil)))) mNext)
  (mRet (mCallF 2 (f__law_same 6) (mCons (mCall fSumA (mCons (mCallF 1 f_signed_step (mCons (mVar 1) mNil)) mNil)) (mCons (mC (.int 0)) mNil))))))))))))))))))
def f__law_right_k63 : List PV → M PV := mDef 18 b__law_right_k63
def b_law_k63 : SM :=
  (mSeq (mAsg (mCallK 2 f__law_box_k63 (mCons (mCallF 2 f__law_cells (mCons (mVar 0) (mCons (mC (.int 1)) mNil))) (mCons (mC (.int 0)) mNil))) (mName 1))
  (mSeq (mAsg (mLst (mCons (mCallF 3 f_mod_far (mCons (mTup (mCons (mC (.int 1)) (mCons (mC (.int 2)) (mCons (mC (.int 0)) mNil)))) (mCons (mC (.int 3)) (mCons (mC (.int 3)) mNil)))) (mCons (mCallF 3 f_mod_far (mCons (mTup (mCons (mC (.int 1)) (mCons (mC (.int 0)) (mCons (mC (.int 0)) (mCons (mC (.int 0)) mNil))))) (mCons (mC (.int 5)) (mCons (mC (.int 25)) mNil)))) (mCons (mCallF 3 f_mod_shares (mCons (mC (.int 4)) (mCons (mC (.int 3)) (mCons (mC (.int 3)) mNil)))) mNil)))) (mName 2))
  (mSeq (mIfS (mNotB (mTru (mCallF 2 (f__law_same 6) (mCons (mVar 2) (mCons (mLst (mCons (mTup (mCons (mC (.int 2)) (mCons (mC (.int 1)) (mCons (mC (.int 0)) mNil)))) (mCons (mTup (mCons (mC (.int 1)) (mCons (mC (.int 0)) (mCons (mC (.int 0)) (mCons (mC (.int 1)) mNil))))) (mCons (mTup (mCons (mC (.int 1)) (mCons (mC (.int 0)) (mCons (mC (.int 0)) (mCons (mC (.int 1)) mNil))))) mNil)))) mNil))))) (mRet (mC (.bl false))) mNext)
  (mRet (mCall fAll (mCons (mComp (mRng1 (mCons (mC (.int 3)) mNil)) (mName 3) mYes (mCallF 1 f__law_right_k63 (mCons (mVar 1) mNil)) [3]) mNil))))))
def f_law_k63 : List PV → M PV := mDef 4 b_law_k63
end MirP

set_option Elab.async false
set_option linter.all false
set_option maxRecDepth 100000
namespace MirP
open PySem L2 Mir

abbrev ti (l : List Int) : PV := .tup (l.map PV.int)
/-- a row of ints as a list or a tuple -/
def Seq (v : PV) (l : List Int) : Prop := v = .tup (l.map PV.int) ∨ v = .lst (l.map PV.int)
theorem ev_is_number_int (x : Int) : Calls f_is_number [.int x] (.bl true) := by
  refine calls_of rfl fun h c => ?_
  simp [f_is_number, b_is_number, mDef_eq, mStart, tyC, isTy]
theorem ev_is_within (x a b : Int) : Calls f_is_within [.int x, .int a, .int b] (.bl (decide (a ≤ x) && decide (x ≤ b))) := by
  refine calls_of rfl fun h c => ?_
  simp [f_is_within, b_is_within, mDef_eq, mStart, ev_is_number_int x h c]
  by_cases h1 : a ≤ x <;> simp [h1]
theorem ev_sure_within {x a b : Int} (h1 : a ≤ x) (h2 : x ≤ b) : Calls f_sure_within [.int x, .int a, .int b] (.int x) := by
  refine calls_of rfl fun h c => ?_
  simp [f_sure_within, b_sure_within, mDef_eq, mStart, ev_is_within x a b h c, h1, h2]
theorem ev_are_within (l : List Int) (a b : Int) (hl : l.length < 16777216) : Calls f_are_within [ti l, .int a, .int b] (.bl (l.all fun x => decide (a ≤ x) && decide (x ≤ b))) := by
  refine calls_of rfl fun h c => ?_
  have e := compL_map (g := mName 3) (t := mYes) (e := mCallF 3 f_is_within (mCons (mVar 3) (mCons (mVar 1) (mCons (mVar 2) mNil)))) (vs := [3]) (s := [some (ti l), some (.int a), some (.int b), none]) (h := h) (it := (l.map PV.int, [])) l PV.int (fun x => .bl (decide (a ≤ x) && decide (x ≤ b))) rfl
    (fun x hx => ⟨_, rfl, rfl, by simp [ev_is_within x a b h c]⟩)
  have em : l.map (fun x => PV.bl (decide (a ≤ x) && decide (x ≤ b))) = (l.map fun x => (decide (a ≤ x) && decide (x ≤ b))).map PV.bl := by rw [List.map_map]; rfl
  rw [em] at e
  simp only [ti] at e
  simp [f_are_within, b_are_within, mDef_eq, mStart, isTy, tyC, hl, e, -List.map_map]
theorem ev_tupled_int (d : Nat) (x : Int) : Calls (f_tupled (d + 1)) [.int x] (.int x) := by
  refine calls_of rfl fun h c => ?_
  simp [f_tupled, b_tupled, mDef_eq, mStart, isTy]
theorem ev_tupled (d : Nat) {v : PV} {l : List Int} (hv : Seq v l) (hl : l.length < 16777216) : Calls (f_tupled (d + 2)) [v] (ti l) := by
  refine calls_of (under_tint l) fun h c => ?_
  have e := fun s => compL_map (g := mName 1) (t := mYes) (e := mCallF 1 (f_tupled (d + 1)) (mCons (mVar 1) mNil)) (vs := [1]) (s := [some s, none]) (h := h) (it := (l.map PV.int, [])) l PV.int PV.int rfl
    (fun x hx => ⟨_, rfl, rfl, by simp [ev_tupled_int d x h c]⟩)
  rw [show f_tupled (d + 2) = mDef 2 (b_tupled (f_tupled (d + 1))) from rfl]
  rcases hv with rfl | rfl
  · simp [b_tupled, mDef_eq, mStart, isTy, hl, e]
  · simp [b_tupled, mDef_eq, mStart, isTy, hl, e]
/-- a SIGNED RING -/
def SignedR (l : List Int) : Prop := 2 ≤ l.length ∧ l.length ≤ 16 ∧ ∀ x ∈ l, -1000000000000000000000000000000 ≤ x ∧ x ≤ 1000000000000000000000000000000
theorem ev_sure_signed {v : PV} {l : List Int} (hv : Seq v l) (hs : SignedR l) : Calls f_sure_signed [v] (ti l) := by
  refine calls_of (under_tint l) fun h c => ?_
  obtain ⟨h1, h2, h3⟩ := hs
  have a : (l.all fun x => decide (-1000000000000000000000000000000 ≤ x) && decide (x ≤ 1000000000000000000000000000000)) = true := List.all_eq_true.mpr fun x hx => by simp [h3 x hx]
  have i1 : (2 : Int) ≤ l.length := by omega
  have i2 : (l.length : Int) ≤ 16 := by omega
  have e : Calls f_is_signed_in [ti l] (.bl true) := by
    refine calls_of rfl fun h c => ?_
    simp [f_is_signed_in, b_is_signed_in, mDef_eq, mStart, ev_are_within l _ _ (by omega) h c, a, i1, i2]
  simp [f_sure_signed, b_sure_signed, mDef_eq, mStart, ev_tupled 4 hv (by omega) h c, e h c]
/-- .. of rests -/
def RestsR (l : List Int) (m : Int) : Prop := 2 ≤ l.length ∧ l.length ≤ 16 ∧ ∀ x ∈ l, 0 ≤ x ∧ x ≤ m - 1
theorem ev_sure_rests {v : PV} {l : List Int} {m : Int} (hv : Seq v l) (hs : RestsR l m) : Calls f_sure_rests [v, .int m] (ti l) := by
  refine calls_of (under_tint l) fun h c => ?_
  obtain ⟨h1, h2, h3⟩ := hs
  have a : (l.all fun x => decide (0 ≤ x) && decide (x ≤ m - 1)) = true := List.all_eq_true.mpr fun x hx => by simp [h3 x hx]
  have i1 : (2 : Int) ≤ l.length := by omega
  have i2 : (l.length : Int) ≤ 16 := by omega
  have e : Calls f_is_rests_in [ti l, .int m] (.bl true) := by
    refine calls_of rfl fun h c => ?_
    simp [f_is_rests_in, b_is_rests_in, mDef_eq, mStart, ev_are_within l _ _ (by omega) h c, a, i1, i2]
  simp [f_sure_rests, b_sure_rests, mDef_eq, mStart, ev_tupled 4 hv (by omega) h c, e h c]
theorem ev_sure_mod {m : Int} (h1 : 2 ≤ m) (h2 : m ≤ 60) : Calls f_sure_mod [.int m] (.int m) := by
  refine calls_of rfl fun h c => ?_
  simp [f_sure_mod, b_sure_mod, mDef_eq, mStart, ev_sure_within h1 h2 h c]
theorem ev_sure_many {m : Int} (h1 : 2 ≤ m) (h2 : m ≤ 16) : Calls f_sure_many [.int m] (.int m) := by
  refine calls_of rfl fun h c => ?_
  simp [f_sure_many, b_sure_many, mDef_eq, mStart, ev_sure_within h1 h2 h c]
/-! rows of neighbours -/
def rot1 (l : List Int) : List Int := l.drop 1 ++ l.take 1
def zipI (f : Int → Int → Int) (a b : List Int) : List Int := (List.zip a b).map fun p => f p.1 p.2
def sstep (l : List Int) : List Int := zipI (fun a b => b - a) l (rot1 l)
theorem comp_zip {g : TM} {t : ET} {e : E} {vs : List Nat} {s : Sl} {h : List MO} {it : Its_} (a b : List Int) (f : Int → Int → Int) (hg : grdOk it.2 h = true)
    (hx : ∀ p ∈ List.zip a b, ∃ s1, g (.tup [.int p.1, .int p.2]) (wipeP s vs) h = .ok s1 h ∧ t s1 h = .ok true h ∧ e s1 h = .ok (.int (f p.1 p.2)) h) : compL g t e vs it s (List.zipWith (fun u v => PV.tup [.int u, .int v]) a b) h = .ok ((zipI f a b).map PV.int) h := by
  have q := compL_map (g := g) (t := t) (e := e) (vs := vs) (s := s) (h := h) (it := it) (List.zip a b) (fun p => PV.tup [.int p.1, .int p.2]) (fun p => .int (f p.1 p.2)) hg hx
  have z : List.zipWith (fun u v => PV.tup [.int u, .int v]) a b = List.zipWith (fun u v => PV.tup [u, v]) (a.map PV.int) (b.map PV.int) := by rw [List.zipWith_map]
  rw [z, zip_ints, q]
  unfold zipI
  rw [List.map_map]; rfl
theorem rot_map (l : List Int) : List.drop 1 (l.map PV.int) ++ List.take 1 (l.map PV.int) = (rot1 l).map PV.int := by simp [rot1, -List.drop_one]
theorem rot_len (l : List Int) : (rot1 l).length = l.length := by simp [rot1, -List.drop_one]; omega
theorem ev_signed_in {l : List Int} (hl : l.length ≤ 16) : Calls f_signed_in [ti l] (ti (sstep l)) := by
  refine calls_of (under_tint _) fun h c => ?_
  have e := fun s it => comp_zip (g := mUnp 2 (mGCons (mName 1) (mGCons (mName 2) mGNil))) (t := mYes) (e := mOp bSub (mVar 2) (mVar 1)) (vs := [1, 2]) (s := [some s, none, none]) (h := h) (it := (it, [])) l (rot1 l) (fun a b => b - a) rfl (fun p hp => ⟨_, by simp; rfl, rfl, by simp⟩)
  have k1 : l.length - 1 + min 1 l.length ≤ 16777216 := by omega
  have k2 : l.length < 16777216 := by omega
  simp [f_signed_in, b_signed_in, mDef_eq, mStart, k1, k2, -List.drop_one, rot_map, e, rot_len, sstep]
theorem ev_signed_step {v : PV} {l : List Int} (hv : Seq v l) (hs : SignedR l) : Calls f_signed_step [v] (ti (sstep l)) := by
  refine calls_of (under_tint _) fun h c => ?_
  simp [f_signed_step, b_signed_step, mDef_eq, mStart, ev_sure_signed hv hs h c, ev_signed_in hs.2.1 h c]
def mstep (m : Int) (l : List Int) : List Int := zipI (fun a b => (a + b) % m) l (rot1 l)
theorem ev_summed {l : List Int} {m : Int} (hl : l.length ≤ 16) (hm : 0 < m) : Calls f_summed [ti l, .int m] (ti (mstep m l)) := by
  refine calls_of (under_tint _) fun h c => ?_
  have e := fun s it => comp_zip (g := mUnp 2 (mGCons (mName 2) (mGCons (mName 3) mGNil))) (t := mYes) (e := mOp bMod (mOp bAdd (mVar 2) (mVar 3)) (mVar 1)) (vs := [2, 3]) (s := [some s, some (.int m), none, none]) (h := h) (it := (it, [])) l (rot1 l) (fun a b => (a + b) % m) rfl (fun p hp => ⟨_, by simp; rfl, rfl, by simp [hm]⟩)
  have k1 : l.length - 1 + min 1 l.length ≤ 16777216 := by omega
  have k2 : l.length < 16777216 := by omega
  simp [f_summed, b_summed, mDef_eq, mStart, k1, k2, -List.drop_one, rot_map, e, rot_len, mstep]
theorem ev_mod_step {v : PV} {l : List Int} {m : Int} (hv : Seq v l) (h1 : 2 ≤ m) (h2 : m ≤ 60) (hs : RestsR l m) : Calls f_mod_step [v, .int m] (ti (mstep m l)) := by
  refine calls_of (under_tint _) fun h c => ?_
  simp [f_mod_step, b_mod_step, mDef_eq, mStart, ev_sure_mod h1 h2 h c, ev_sure_rests hv hs h c, ev_summed hs.2.1 (show 0 < m by omega) h c]
def absI (i : Int) : Int := if i < 0 then -i else i
theorem ev_bare {v : PV} {l : List Int} (hv : Seq v l) (hs : SignedR l) : Calls f_bare [v] (ti (l.map absI)) := by
  refine calls_of (under_tint _) fun h c => ?_
  have e := fun s it => compL_map (g := mName 1) (t := mYes) (e := mCall fAbs (mCons (mVar 1) mNil)) (vs := [1]) (s := [some s, none]) (h := h) (it := (it, [])) l PV.int (fun i => .int (absI i)) rfl
    (fun x hx => ⟨_, rfl, rfl, by simp [absI]⟩)
  have k2 : l.length < 16777216 := by have := hs.2.1; omega
  simp [f_bare, b_bare, mDef_eq, mStart, ev_sure_signed hv hs h c, k2, e]
/-- a RING -/
def RingR (l : List Int) : Prop := 2 ≤ l.length ∧ l.length ≤ 16 ∧ ∀ x ∈ l, 0 ≤ x ∧ x ≤ 1000000000000000000000000000000
theorem ev_sure_ring {v : PV} {l : List Int} (hv : Seq v l) (hs : RingR l) : Calls f_sure_ring [v] (ti l) := by
  refine calls_of (under_tint l) fun h c => ?_
  obtain ⟨h1, h2, h3⟩ := hs
  have a : (l.all fun x => decide (0 ≤ x) && decide (x ≤ 1000000000000000000000000000000)) = true := List.all_eq_true.mpr fun x hx => by simp [h3 x hx]
  have i1 : (2 : Int) ≤ l.length := by omega
  have i2 : (l.length : Int) ≤ 16 := by omega
  have e : Calls f_is_ring_in [ti l] (.bl true) := by
    refine calls_of rfl fun h c => ?_
    simp [f_is_ring_in, b_is_ring_in, mDef_eq, mStart, ev_are_within l _ _ (by omega) h c, a, i1, i2]
  simp [f_sure_ring, b_sure_ring, mDef_eq, mStart, ev_tupled 4 hv (by omega) h c, e h c]
def dstep (l : List Int) : List Int := zipI (fun a b => absI (a - b)) l (rot1 l)
theorem ev_step_in {l : List Int} (hl : l.length ≤ 16) : Calls f_step_in [ti l] (ti (dstep l)) := by
  refine calls_of (under_tint _) fun h c => ?_
  have e := fun s it => comp_zip (g := mUnp 2 (mGCons (mName 1) (mGCons (mName 2) mGNil))) (t := mYes) (e := mCall fAbs (mCons (mOp bSub (mVar 1) (mVar 2)) mNil)) (vs := [1, 2]) (s := [some s, none, none]) (h := h) (it := (it, [])) l (rot1 l) (fun a b => absI (a - b)) rfl (fun p hp => ⟨_, by simp; rfl, rfl, by simp [absI]⟩)
  have k1 : l.length - 1 + min 1 l.length ≤ 16777216 := by omega
  have k2 : l.length < 16777216 := by omega
  simp [f_step_in, b_step_in, mDef_eq, mStart, k1, k2, -List.drop_one, rot_map, e, rot_len, dstep]
theorem ev_step {v : PV} {l : List Int} (hv : Seq v l) (hs : RingR l) : Calls f_step [v] (ti (dstep l)) := by
  refine calls_of (under_tint _) fun h c => ?_
  simp [f_step, b_step, mDef_eq, mStart, ev_sure_ring hv hs h c, ev_step_in hs.2.1 h c]
theorem ev_law_sum {a b : List Int} (h1 : a.length ≤ 100000) (hm : ∀ p ∈ List.zip a b, mulOk p.1 p.2) (h2 : b.length ≤ 100000) : Calls f__law_sum [ti a, ti b] (.int (zipI (· * ·) a b).sum) := by
  refine calls_of rfl fun h c => ?_
  have e := fun s s2 it => comp_zip (g := mUnp 2 (mGCons (mName 2) (mGCons (mName 3) mGNil))) (t := mYes) (e := mOp (bMulS false) (mVar 2) (mVar 3)) (vs := [2, 3]) (s := [some s, some s2, none, none]) (h := h) (it := (it, [])) a b (· * ·) rfl (fun p hp => ⟨_, by simp; rfl, rfl, by simp [hm p hp]⟩)
  have k2 : min a.length b.length < 16777216 := by omega
  simp [f__law_sum, b__law_sum, mDef_eq, mStart, k2, e]
end MirP

set_option Elab.async false
set_option linter.all false
set_option maxRecDepth 100000
/-! plain sums, rows that go round -/
namespace MirM
def sm : Nat → (Nat → Int) → Int
  | 0, _ => 0
  | n + 1, f => sm n f + f n
theorem sm_congr {n : Nat} {f g : Nat → Int} (h : ∀ k, k < n → f k = g k) : sm n f = sm n g := by
  induction n with
  | zero => rfl
  | succ n ih => rw [sm, sm, ih fun k hk => h k (by omega), h n (by omega)]
theorem sm_add (n : Nat) (f g : Nat → Int) : sm n (fun k => f k + g k) = sm n f + sm n g := by
  induction n with
  | zero => rfl
  | succ n ih => rw [sm, sm, sm, ih]; omega
theorem sm_mul (n : Nat) (c : Int) (f : Nat → Int) : sm n (fun k => c * f k) = c * sm n f := by
  induction n with
  | zero => simp [sm]
  | succ n ih => rw [sm, sm, ih, Int.mul_add]
theorem sm_zero (n : Nat) : sm n (fun _ => 0) = 0 := by
  induction n with
  | zero => rfl
  | succ n ih => rw [sm, ih]; rfl
theorem sm_shift (n : Nat) (f : Nat → Int) : sm (n + 1) f = f 0 + sm n (fun k => f (k + 1)) := by
  induction n with
  | zero => simp [sm]
  | succ n ih => rw [sm, ih, sm]; omega
theorem sm_swap (n m : Nat) (f : Nat → Nat → Int) : sm n (fun i => sm m (fun j => f i j)) = sm m (fun j => sm n (fun i => f i j)) := by
  induction n with
  | zero => simp [sm, sm_zero]
  | succ n ih => rw [sm, ih]; simp only [sm]; rw [sm_add]
theorem sm_one (n k : Nat) (f : Nat → Int) (hk : k < n) (h : ∀ j, j < n → j ≠ k → f j = 0) : sm n f = f k := by
  induction n with
  | zero => omega
  | succ n ih =>
    rw [sm]
    by_cases e : k = n
    · subst e
      rw [sm_congr (g := fun _ => 0) fun j hj => h j (by omega) (by omega), sm_zero]; omega
    · rw [ih (by omega) fun j hj hn => h j (by omega) hn, h n (by omega) (by omega)]; omega
theorem sum_range (n : Nat) (f : Nat → Int) : ((List.range n).map f).sum = sm n f := by
  induction n with
  | zero => rfl
  | succ n ih => rw [List.range_succ, List.map_append, List.sum_append, ih, sm]; simp
theorem sm_abs {n : Nat} {f : Nat → Int} {B : Int} (h : ∀ k, k < n → -B ≤ f k ∧ f k ≤ B) : -(n * B) ≤ sm n f ∧ sm n f ≤ n * B := by
  induction n with
  | zero => simp [sm]
  | succ n ih =>
    have a := ih fun k hk => h k (by omega)
    have b := h n (by omega)
    rw [sm]
    have e : ((n + 1 : Nat) : Int) * B = n * B + B := by rw [Int.natCast_add, Int.add_mul]; simp
    omega
/-! congruent -/
def cg (m a b : Int) : Prop := m ∣ a - b
theorem cg.refl {m a : Int} : cg m a a := by unfold cg; simp
theorem cg.symm {m a b : Int} (h : cg m a b) : cg m b a := by unfold cg at *; have := Int.dvd_neg.mpr h; rwa [Int.neg_sub] at this
theorem cg.trans {m a b c : Int} (h : cg m a b) (k : cg m b c) : cg m a c := by unfold cg at *; have := Int.dvd_add h k; rwa [show a - b + (b - c) = a - c by omega] at this
theorem cg.add {m a b c d : Int} (h : cg m a b) (k : cg m c d) : cg m (a + c) (b + d) := by unfold cg at *; have := Int.dvd_add h k; rwa [show a - b + (c - d) = a + c - (b + d) by omega] at this
theorem cg.sub {m a b c d : Int} (h : cg m a b) (k : cg m c d) : cg m (a - c) (b - d) := by unfold cg at *; have := Int.dvd_sub h k; rwa [show a - b - (c - d) = a - c - (b - d) by omega] at this
theorem cg.mul_left {m a b : Int} (c : Int) (h : cg m a b) : cg m (c * a) (c * b) := by unfold cg at *; rw [← Int.mul_sub]; exact Int.dvd_mul_of_dvd_right h
theorem cg.mul {m a b c d : Int} (h : cg m a b) (k : cg m c d) : cg m (a * c) (b * d) := by
  have h1 : cg m (a * c) (b * c) := by rw [Int.mul_comm a, Int.mul_comm b]; exact h.mul_left c
  exact h1.trans (k.mul_left b)
theorem cg_mod {m a : Int} : cg m (a % m) a := by
  unfold cg
  refine ⟨-(a / m), ?_⟩
  have := Int.mul_ediv_add_emod a m
  rw [Int.mul_neg]; omega
theorem cg.eq {m a b : Int} (h : cg m a b) : a % m = b % m := by
  unfold cg at h
  exact Int.emod_eq_emod_iff_emod_sub_eq_zero.mpr (Int.emod_eq_zero_of_dvd h)
theorem cg_of_eq {m a b : Int} (h : a % m = b % m) : cg m a b := by
  unfold cg
  exact Int.dvd_of_emod_eq_zero (Int.emod_eq_emod_iff_emod_sub_eq_zero.mp h)
theorem sm_cg {m : Int} {n : Nat} {f g : Nat → Int} (h : ∀ k, k < n → cg m (f k) (g k)) : cg m (sm n f) (sm n g) := by
  induction n with
  | zero => exact .refl
  | succ n ih => rw [sm, sm]; exact (ih fun k hk => h k (by omega)).add (h n (by omega))
/-! rows that go round -/
def Per (n : Nat) (r : Nat → Int) : Prop := ∀ i, r (i + n) = r i
theorem Per.mul {n : Nat} {r : Nat → Int} (p : Per n r) (i : Nat) : ∀ k, r (i + n * k) = r i
  | 0 => by simp
  | k + 1 => by rw [Nat.mul_succ, ← Nat.add_assoc, p, Per.mul p]
theorem Per.mod {n : Nat} {r : Nat → Int} (p : Per n r) (i : Nat) : r (i % n) = r i := by
  have := p.mul (i % n) (i / n)
  rw [Nat.mod_add_div] at this
  exact this.symm
theorem Per.modr {n : Nat} {r : Nat → Int} (p : Per n r) (i k : Nat) : r (i + k % n) = r (i + k) := by
  rw [← p.mod (i + k % n), ← p.mod (i + k), Nat.add_mod, Nat.mod_mod, ← Nat.add_mod]
def rowf (l : List Int) : Nat → Int := fun i => l.getD (i % l.length) 0
theorem rowf_per (l : List Int) : Per l.length (rowf l) := fun i => by unfold rowf; rw [Nat.add_mod_right]
theorem rowf_lt {l : List Int} {i : Nat} (h : i < l.length) : rowf l i = l.getD i 0 := by unfold rowf; rw [Nat.mod_eq_of_lt h]
theorem rowf_map {n : Nat} {f : Nat → Int} (p : Per n f) (h : 0 < n) (i : Nat) : rowf ((List.range n).map f) i = f i := by
  unfold rowf
  have hl : i % n < n := Nat.mod_lt _ h
  rw [List.length_map, List.length_range, List.getD_eq_getElem?_getD, List.getElem?_map, List.getElem?_range hl]
  exact p.mod i
theorem list_rowf (l : List Int) : (List.range l.length).map (rowf l) = l := by
  refine List.ext_getElem? fun i => ?_
  rw [List.getElem?_map]
  by_cases h : i < l.length
  · rw [List.getElem?_range h, List.getElem?_eq_getElem h, Option.map_some, rowf_lt h, List.getD_eq_getElem?_getD, List.getElem?_eq_getElem h]; rfl
  · rw [List.getElem?_eq_none (by rw [List.length_range]; omega), List.getElem?_eq_none (by omega)]; rfl
theorem range_map_ext {n : Nat} {f g : Nat → Int} (h : ∀ i, i < n → f i = g i) : (List.range n).map f = (List.range n).map g := List.map_congr_left fun i hi => h i (List.mem_range.mp hi)
/-- a row of shares, put on a row that goes round -/
def act (F : List Int) (r : Nat → Int) (i : Nat) : Int := sm F.length (fun k => F.getD k 0 * r (i + k))
theorem act_cg {m : Int} {F : List Int} {r s : Nat → Int} (h : ∀ i, cg m (r i) (s i)) (i : Nat) : cg m (act F r i) (act F s i) := sm_cg fun k _ => (h _).mul_left _
theorem act_per {n : Nat} {F : List Int} {r : Nat → Int} (p : Per n r) : Per n (act F r) := fun i => by
  unfold act
  exact sm_congr fun k _ => by rw [show i + n + k = i + k + n by omega, p]
theorem act_set {F : List Int} {k : Nat} {x : Int} (hk : k < F.length) (r : Nat → Int) (i : Nat) : act (F.set k x) r i = act F r i + (x - F.getD k 0) * r (i + k) := by
  unfold act
  rw [List.length_set]
  have e : ∀ j, j < F.length → (F.set k x).getD j 0 * r (i + j) = F.getD j 0 * r (i + j) + (if j = k then (x - F.getD k 0) * r (i + k) else 0) := fun j hj => by
    by_cases z : j = k
    · subst z
      rw [if_pos rfl, List.getD_eq_getElem?_getD, List.getElem?_set_self hk, Option.getD_some, ← Int.add_mul]
      congr 1; omega
    · rw [if_neg z, List.getD_eq_getElem?_getD, List.getElem?_set_ne (Ne.symm z), ← List.getD_eq_getElem?_getD]; omega
  rw [sm_congr e, sm_add]
  congr 1
  rw [sm_one _ k _ hk fun j _ hn => if_neg hn, if_pos rfl]
/-! sums with the neighbour -/
def nb (c : Int) (r : Nat → Int) : Nat → Int := fun i => r (i + 1) + c * r i
def nbs (c : Int) : Nat → (Nat → Int) → Nat → Int
  | 0, r => r
  | t + 1, r => nb c (nbs c t r)
theorem nb_per {n : Nat} {c : Int} {r : Nat → Int} (p : Per n r) : Per n (nb c r) := fun i => by
  unfold nb
  rw [show i + n + 1 = i + 1 + n by omega, p, p]
theorem nbs_per {n : Nat} {c : Int} {r : Nat → Int} (p : Per n r) : ∀ t, Per n (nbs c t r)
  | 0 => p
  | t + 1 => nb_per (nbs_per p t)
theorem nbs_add (c : Int) (t : Nat) (r : Nat → Int) : ∀ s, nbs c (s + t) r = nbs c s (nbs c t r)
  | 0 => by rw [Nat.zero_add]; rfl
  | s + 1 => by rw [show s + 1 + t = (s + t) + 1 by omega, nbs, nbs_add c t r s]; rfl
theorem nbs_lin (c a b : Int) (r s : Nat → Int) : ∀ (t i : Nat), nbs c t (fun i => a * r i + b * s i) i = a * nbs c t r i + b * nbs c t s i
  | 0, _ => rfl
  | t + 1, i => by
    show nbs c t _ (i + 1) + c * nbs c t _ i = a * (nbs c t r (i + 1) + c * nbs c t r i) + b * (nbs c t s (i + 1) + c * nbs c t s i)
    rw [nbs_lin c a b r s t, nbs_lin c a b r s t]
    simp only [Int.mul_add]
    rw [show c * (a * nbs c t r i) = a * (c * nbs c t r i) by rw [Int.mul_left_comm], show c * (b * nbs c t s i) = b * (c * nbs c t s i) by rw [Int.mul_left_comm]]
    omega
theorem nbs_cg {m c : Int} {r s : Nat → Int} (h : ∀ i, cg m (r i) (s i)) : ∀ (t i : Nat), cg m (nbs c t r i) (nbs c t s i)
  | 0, i => h i
  | t + 1, i => (nbs_cg h t (i + 1)).add ((nbs_cg h t i).mul_left c)
/-! how many sets -/
def ch : Nat → Nat → Nat
  | _, 0 => 1
  | 0, _ + 1 => 0
  | n + 1, k + 1 => ch n k + ch n (k + 1)
theorem ch_zero (n : Nat) : ch n 0 = 1 := by cases n <;> rfl
theorem ch_gt : ∀ {n k : Nat}, n < k → ch n k = 0
  | _, 0, h => by omega
  | 0, _ + 1, _ => rfl
  | n + 1, k + 1, h => by rw [ch, ch_gt (by omega), ch_gt (by omega)]
theorem ch_step : ∀ (n k : Nat), ch n (k + 1) * (k + 1) + ch n k * k = ch n k * n
  | 0, 0 => rfl
  | 0, k + 1 => by simp [ch]
  | n + 1, 0 => by
    have := ch_step n 0
    rw [ch_zero] at this
    have e : ch (n + 1) (0 + 1) = ch n 0 + ch n (0 + 1) := rfl
    rw [e, ch_zero, ch_zero]
    omega
  | n + 1, k + 1 => by
    have h1 := ch_step n k
    have h2 := ch_step n (k + 1)
    simp only [ch] at *
    generalize ch n k = a at *
    generalize ch n (k + 1) = b at *
    generalize ch n (k + 1 + 1) = c at *
    have e1 : (b + c) * (k + 1 + 1) = b * (k + 1) + b + c * (k + 1 + 1) := by rw [Nat.add_mul, Nat.mul_add b (k + 1) 1]; omega
    have e2 : (a + b) * (k + 1) = a * k + a + b * (k + 1) := by rw [Nat.add_mul, Nat.mul_add a k 1]; omega
    have e3 : (a + b) * (n + 1) = a * n + a + b * n + b := by rw [Nat.add_mul, Nat.mul_add a n 1, Nat.mul_add b n 1]; omega
    rw [e1, e2, e3]
    omega
theorem ch_le : ∀ (n k : Nat), ch n k ≤ 2 ^ n
  | n, 0 => by rw [ch_zero]; exact Nat.one_le_two_pow
  | 0, k + 1 => by simp [ch]
  | n + 1, k + 1 => by
    rw [ch, Nat.pow_succ]
    have := ch_le n k
    have := ch_le n (k + 1)
    omega
theorem ch_next {n k : Nat} (h : k ≤ n) : (ch n k : Int) * ((n : Int) - (k : Int)) / ((k : Int) + 1) = (ch n (k + 1) : Int) := by
  have e := ch_step n k
  have e' : (ch n (k + 1) : Int) * ((k : Int) + 1) + (ch n k : Int) * (k : Int) = (ch n k : Int) * (n : Int) := by exact_mod_cast e
  have e2 : (ch n k : Int) * ((n : Int) - (k : Int)) = (ch n (k + 1) : Int) * ((k : Int) + 1) := by rw [Int.mul_sub]; omega
  rw [e2, Int.mul_ediv_cancel _ (by omega)]
theorem nbs_ch (c : Int) (r : Nat → Int) : ∀ (t i : Nat), nbs c t r i = sm (t + 1) (fun j => (ch t j : Int) * c ^ (t - j) * r (i + j))
  | 0, i => by simp [nbs, sm, ch]
  | t + 1, i => by
    show nbs c t r (i + 1) + c * nbs c t r i = _
    rw [nbs_ch c r t, nbs_ch c r t, sm_shift (t + 1)]
    have e1 : sm (t + 1) (fun k => (ch (t + 1) (k + 1) : Int) * c ^ (t + 1 - (k + 1)) * r (i + (k + 1))) = sm (t + 1) (fun j => (ch t j : Int) * c ^ (t - j) * r (i + 1 + j)) + sm (t + 1) (fun j => (ch t (j + 1) : Int) * c ^ (t - j) * r (i + (j + 1))) := by
      rw [← sm_add]
      refine sm_congr fun k _ => ?_
      rw [show t + 1 - (k + 1) = t - k by omega, show i + 1 + k = i + (k + 1) by omega, ch, Int.natCast_add, Int.add_mul, Int.add_mul]
    have e2 : c * sm (t + 1) (fun j => (ch t j : Int) * c ^ (t - j) * r (i + j)) = (ch (t + 1) 0 : Int) * c ^ (t + 1 - 0) * r (i + 0) + sm (t + 1) (fun j => (ch t (j + 1) : Int) * c ^ (t - j) * r (i + (j + 1))) := by
      have e3 : c * sm (t + 1) (fun j => (ch t j : Int) * c ^ (t - j) * r (i + j)) = sm (t + 1 + 1) (fun j => (ch t j : Int) * c ^ (t + 1 - j) * r (i + j)) := by
        have e4 : sm (t + 1 + 1) (fun j => (ch t j : Int) * c ^ (t + 1 - j) * r (i + j)) = sm (t + 1) (fun j => (ch t j : Int) * c ^ (t + 1 - j) * r (i + j)) := by
          rw [sm, ch_gt (show t < t + 1 by omega)]
          simp
        rw [e4, ← sm_mul]
        refine sm_congr fun k hk => ?_
        rw [show t + 1 - k = (t - k) + 1 by omega, Int.pow_succ, ← Int.mul_assoc, ← Int.mul_assoc]
        rw [show c * (ch t k : Int) * c ^ (t - k) = (ch t k : Int) * (c ^ (t - k) * c) by rw [Int.mul_comm c, Int.mul_assoc, Int.mul_comm c]]
      rw [e3, sm_shift]
      rw [ch_zero, ch_zero]
      congr 1
      refine sm_congr fun k _ => ?_
      rw [show t + 1 - (k + 1) = t - k by omega]
    rw [e1, e2]
    omega
/-! signs -/
def sg (k : Nat) : Int := 1 - 2 * ((k : Int) % 2)
theorem sg_succ (k : Nat) : sg (k + 1) = -sg k := by unfold sg; omega
theorem sg_pow : ∀ k : Nat, (-1 : Int) ^ k = sg k
  | 0 => rfl
  | k + 1 => by rw [Int.pow_succ, sg_pow k, sg_succ]; omega
theorem sg_sq (k : Nat) : sg k * sg k = 1 := by
  have : sg k = 1 ∨ sg k = -1 := by unfold sg; omega
  rcases this with e | e <;> rw [e] <;> rfl
theorem sg_cases (k : Nat) : sg k = 1 ∨ sg k = -1 := by unfold sg; omega
/-- signs turned at each second place lead differences to sums -/
theorem turn_sums {m : Int} {r s : Nat → Int} (h : ∀ i, cg m (s i) (sg i * r i)) : ∀ (t i : Nat), cg m (nbs 1 t s i) (sg t * (sg i * nbs (-1) t r i))
  | 0, i => by
    show cg m (s i) (sg 0 * (sg i * r i))
    rw [show sg 0 = 1 from rfl, Int.one_mul]; exact h i
  | t + 1, i => by
    have a := turn_sums h t (i + 1)
    have b := turn_sums h t i
    show cg m (nbs 1 t s (i + 1) + 1 * nbs 1 t s i) (sg (t + 1) * (sg i * (nbs (-1) t r (i + 1) + -1 * nbs (-1) t r i)))
    rw [Int.one_mul]
    have q := a.add b
    have e : sg t * (sg (i + 1) * nbs (-1) t r (i + 1)) + sg t * (sg i * nbs (-1) t r i) = sg (t + 1) * (sg i * (nbs (-1) t r (i + 1) + -1 * nbs (-1) t r i)) := by
      rw [sg_succ, sg_succ]
      simp only [Int.neg_mul, Int.mul_add, Int.mul_neg, Int.one_mul]
      omega
    rw [← e]; exact q
/-- the numbers of a round sum up to nothing behind a step of differences -/
theorem sum_round {n : Nat} {r : Nat → Int} (p : Per n r) : sm n (nb (-1) r) = 0 := by
  have e : sm n (nb (-1) r) = sm n (fun k => r (k + 1)) - sm n r := by
    have : sm n (nb (-1) r) = sm n (fun k => r (k + 1) + -1 * r k) := rfl
    rw [this, sm_add, sm_mul]; omega
  have e2 := sm_shift n r
  rw [sm] at e2
  have e3 := p 0
  rw [Nat.zero_add] at e3
  omega
end MirM
namespace MirM
/-! one place alone -/
def dl (n k : Nat) : Nat → Int := fun i => if i % n = k then 1 else 0
theorem dl_per (n k : Nat) : Per n (dl n k) := fun i => by unfold dl; rw [Nat.add_mod_right]
theorem act_dl {F : List Int} {k : Nat} (h : k < F.length) : act F (dl F.length k) 0 = F.getD k 0 := by
  unfold act
  rw [sm_one _ k _ h fun j hj hn => ?_]
  · unfold dl; rw [Nat.zero_add, Nat.mod_eq_of_lt h, if_pos rfl, Int.mul_one]
  · unfold dl; rw [Nat.zero_add, Nat.mod_eq_of_lt hj, if_neg hn, Int.mul_zero]
theorem nbs_shift (c : Int) (r : Nat → Int) (i : Nat) : ∀ (t j : Nat), nbs c t (fun k => r (i + k)) j = nbs c t r (i + j)
  | 0, _ => rfl
  | t + 1, j => by
    show nbs c t _ (j + 1) + c * nbs c t _ j = nbs c t r (i + j + 1) + c * nbs c t r (i + j)
    rw [nbs_shift c r i t, nbs_shift c r i t, Nat.add_assoc]
theorem nbs_sm (c : Int) (n : Nat) (a : Nat → Int) (f : Nat → Nat → Int) : ∀ (t i : Nat), nbs c t (fun j => sm n (fun k => a k * f k j)) i = sm n (fun k => a k * nbs c t (f k) i)
  | 0, _ => rfl
  | t + 1, i => by
    show nbs c t _ (i + 1) + c * nbs c t _ i = sm n (fun k => a k * (nbs c t (f k) (i + 1) + c * nbs c t (f k) i))
    rw [nbs_sm c n a f t, nbs_sm c n a f t, ← sm_mul, ← sm_add]
    exact sm_congr fun k _ => by rw [Int.mul_add, Int.mul_left_comm]
theorem nbs_congr {c : Int} {r s : Nat → Int} (h : ∀ i, r i = s i) (t i : Nat) : nbs c t r i = nbs c t s i := by rw [show r = s from funext h]
/-- shares of so many steps -/
def shareL (c : Int) (n t : Nat) : List Int := (List.range n).map fun k => nbs c t (dl n k) 0
theorem shareL_len (c : Int) (n t : Nat) : (shareL c n t).length = n := by simp [shareL]
theorem shareL_at {c : Int} {n t k : Nat} (h : k < n) : (shareL c n t).getD k 0 = nbs c t (dl n k) 0 := by
  unfold shareL
  rw [List.getD_eq_getElem?_getD, List.getElem?_map, List.getElem?_range h]; rfl
theorem act_shareL {c : Int} {n : Nat} (h0 : 0 < n) {r : Nat → Int} (p : Per n r) (t i : Nat) : act (shareL c n t) r i = nbs c t r i := by
  unfold act
  rw [shareL_len, sm_congr (g := fun k => r (i + k) * nbs c t (dl n k) 0) fun k hk => by rw [shareL_at hk, Int.mul_comm], ← nbs_sm c n (fun k => r (i + k)) (fun k => dl n k)]
  have e : ∀ j, sm n (fun k => r (i + k) * dl n k j) = r (i + j) := fun j => by
    have hj : j % n < n := Nat.mod_lt _ h0
    rw [sm_one n (j % n) _ hj fun k _ hn => by unfold dl; rw [if_neg (fun z => hn z.symm), Int.mul_zero]]
    unfold dl
    rw [if_pos rfl, Int.mul_one, p.modr]
  rw [nbs_congr e, nbs_shift, Nat.add_zero]
theorem getD_ext {a b : List Int} (h : a.length = b.length) (e : ∀ k, k < a.length → a.getD k 0 = b.getD k 0) : a = b := by
  refine List.ext_getElem? fun k => ?_
  by_cases hk : k < a.length
  · have := e k hk
    rw [List.getD_eq_getElem?_getD, List.getD_eq_getElem?_getD, List.getElem?_eq_getElem hk, List.getElem?_eq_getElem (by omega)] at this
    rw [List.getElem?_eq_getElem hk, List.getElem?_eq_getElem (by omega)]
    exact congrArg some this
  · rw [List.getElem?_eq_none (by omega), List.getElem?_eq_none (by omega)]
theorem shareL_of {c : Int} {n t : Nat} {F : List Int} (hl : F.length = n) (h : ∀ r, Per n r → act F r 0 = nbs c t r 0) : F = shareL c n t := by
  refine getD_ext (by rw [shareL_len, hl]) fun k hk => ?_
  rw [shareL_at (by omega), ← h _ (dl_per n k)]
  subst hl
  exact (act_dl hk).symm
theorem shareL_mod {m : Int} {n t : Nat} {F : List Int} (hm : 0 < m) (hl : F.length = n) (hb : ∀ k, k < n → 0 ≤ F.getD k 0 ∧ F.getD k 0 < m) (h : ∀ r, Per n r → cg m (act F r 0) (nbs 1 t r 0)) : F = (shareL 1 n t).map (· % m) := by
  refine getD_ext (by rw [List.length_map, shareL_len, hl]) fun k hk => ?_
  have e1 : ((shareL 1 n t).map (· % m)).getD k 0 = (shareL 1 n t).getD k 0 % m := by
    rw [List.getD_eq_getElem?_getD, List.getElem?_map, List.getD_eq_getElem?_getD]
    rw [List.getElem?_eq_getElem (by rw [shareL_len]; omega)]; rfl
  rw [e1, shareL_at (by omega)]
  have q := (h _ (dl_per n k)).eq
  subst hl
  rw [act_dl hk] at q
  rw [← q, Int.emod_eq_of_lt (hb k hk).1 (hb k hk).2]
theorem act_mod {m : Int} {F : List Int} {r : Nat → Int} (i : Nat) : cg m (act (F.map (· % m)) r i) (act F r i) := by
  unfold act
  rw [List.length_map]
  refine sm_cg fun k hk => ?_
  have e1 : (F.map (· % m)).getD k 0 = F.getD k 0 % m := by
    rw [List.getD_eq_getElem?_getD, List.getElem?_map, List.getD_eq_getElem?_getD, List.getElem?_eq_getElem hk]; rfl
  rw [e1]
  exact cg_mod.mul .refl
theorem nbs_bound {c : Int} (hc : -1 ≤ c ∧ c ≤ 1) {r : Nat → Int} {B : Int} (h : ∀ i, -B ≤ r i ∧ r i ≤ B) : ∀ (t i : Nat), -(2 ^ t * B) ≤ nbs c t r i ∧ nbs c t r i ≤ 2 ^ t * B
  | 0, i => by have := h i; simpa [nbs] using this
  | t + 1, i => by
    have h1 := nbs_bound hc h t (i + 1)
    have h2 := nbs_bound hc h t i
    show -(2 ^ (t + 1) * B) ≤ nbs c t r (i + 1) + c * nbs c t r i ∧ nbs c t r (i + 1) + c * nbs c t r i ≤ 2 ^ (t + 1) * B
    have e : (2 : Int) ^ (t + 1) * B = 2 ^ t * B + 2 ^ t * B := by rw [Int.pow_succ, Int.mul_assoc, Int.mul_left_comm]; omega
    have : c = -1 ∨ c = 0 ∨ c = 1 := by omega
    rcases this with rfl | rfl | rfl
    · omega
    · simp; omega
    · omega
end MirM

set_option Elab.async false
set_option linter.all false
set_option maxRecDepth 100000
namespace MirP
open PySem L2 Mir MirM

theorem range_split {n : Nat} {d : List Nat} {a : Nat} {r : List Nat} (e : List.range n = d ++ a :: r) : a = d.length ∧ d.length < n ∧ d = List.range d.length := by
  have hl := congrArg List.length e
  simp at hl
  have h1 : (List.range n)[d.length]? = some a := by rw [e]; simp
  rw [List.getElem?_range (by omega)] at h1
  refine ⟨(Option.some.inj h1).symm, by omega, ?_⟩
  have h2 : (List.range n).take d.length = d := by rw [e]; simp
  rw [List.take_range] at h2
  rw [Nat.min_eq_left (by omega)] at h2
  exact h2.symm
/-- how many sets of each size -/
def binL (t : Nat) : List Int := (List.range (t + 1)).map fun j => (ch t j : Int)
theorem mulOk_small {a b : Int} (h : b.natAbs < 18446744073709551616) : mulOk a b := .inr (.inl h)
theorem mulOk_small' {a b : Int} (h : a.natAbs < 18446744073709551616) : mulOk a b := .inl h
theorem divOk_small {b : Int} (h1 : 0 < b) (h2 : b < 1073741824) : divOk b := ⟨h1, .inl h2⟩
theorem ev_binomials {t : Nat} (ht : t ≤ 100000) : Calls f_binomials_in [.int t] (.lst ((binL t).map PV.int)) := by
  intro h c
  have key : f_binomials_in [.int t] h = .ok (.ref h.length) (h ++ [.lst ((binL t).map PV.int)]) := by
    obtain ⟨s', h', e, I⟩ := forL_inv (g := mName 2) (b := mDrop (mMeth "list" fApp (mVar 1) (mCons (mOp bDiv (mOp (bMulS false) (mOp pIx (mVar 1) (mUn uNeg (mC (.int 1)))) (mOp bSub (mVar 0) (mVar 2))) (mOp bAdd (mVar 2) (mC (.int 1)))) mNil))) (it := ((List.range t).map fun (k : Nat) => PV.int (0 + (k : Int)), [])) rfl (fun (k : Nat) => PV.int (0 + (k : Int)))
      (fun d s hp => (∃ x, s = [some (.int t), some (.ref h.length), x]) ∧ hp = h ++ [.lst (((List.range (d.length + 1)).map fun j => (ch t j : Int)).map PV.int)]) [] (List.range t) [some (.int t), some (.ref h.length), none] (h ++ [.lst [.int 1]])
      ⟨⟨none, rfl⟩, by simp [ch_zero]⟩ (fun d a r s hp er ⟨⟨x, es⟩, eh⟩ => by
        rw [List.nil_append] at er
        obtain ⟨ea, lt, ed⟩ := range_split er
        subst es eh
        refine ⟨_, _, [some (.int t), some (.ref h.length), some (.int a)], h ++ [.lst (((List.range (d.length + 1 + 1)).map fun j => (ch t j : Int)).map PV.int)], rfl, .inl ?_, ⟨_, rfl⟩, by simp⟩
        have e1 : atI (((List.range (d.length + 1)).map fun j => (ch t j : Int)).map PV.int) (-1) = some (.int (ch t d.length)) := by
          rw [List.range_succ, List.map_append, List.map_append]
          exact atI_last
        have m1 : mulOk (ch t d.length : Int) ((t : Int) - (a : Int)) := mulOk_small (by omega)
        have d1 : divOk ((a : Int) + 1) := divOk_small (by omega) (by omega)
        have sz : d.length + 1 < 16777216 := by omega
        have e2 : (ch t d.length : Int) * ((t : Int) - (d.length : Int)) / ((d.length : Int) + 1) = (ch t (d.length + 1) : Int) := ch_next (by omega)
        subst ea
        simp at e1
        have e3 : List.range (d.length + 1 + 1) = List.range (d.length + 1) ++ [d.length + 1] := List.range_succ
        rw [e3]
        simp [e1, m1, d1, sz, e2])
    rw [List.nil_append] at I
    obtain ⟨⟨x, es⟩, eh⟩ := I
    have r1 : -(2 : Int) ^ 62 ≤ (t : Int) := by omega
    have r2 : (t : Int) < 2 ^ 62 := by omega
    have e' := e
    simp only [List.length_range] at eh
    simp [f_binomials_in, b_binomials_in, mDef_eq, mStart, e_rng1 r1 r2, rangeP_eq]
    simp at e'
    rw [e']
    subst es eh
    simp [binL]
  rw [key]
  exact tidy_made c (under_ints _)

theorem enum_ints (l : List Int) : enumP 0 (l.map PV.int) = (List.range l.length).map fun (i : Nat) => PV.tup [.int (i : Nat), .int (l.getD i 0)] := by
  refine List.ext_getElem? fun i => ?_
  rw [enumP_get, List.getElem?_map, List.getElem?_map]
  by_cases h : i < l.length
  · rw [List.getElem?_eq_getElem h, List.getElem?_range h]
    simp [List.getD, List.getElem?_eq_getElem h]
  · rw [List.getElem?_eq_none (by omega), List.getElem?_eq_none (by simp; omega)]; rfl
theorem getD_int {l : List Int} {k : Nat} (h : k < l.length) : (l.map PV.int)[k]? = some (.int (l.getD k 0)) := by
  rw [List.getElem?_map, List.getElem?_eq_getElem h, List.getD_eq_getElem?_getD, List.getElem?_eq_getElem h]; rfl
theorem binL_len (t : Nat) : (binL t).length = t + 1 := by simp [binL]
theorem binL_at {t j : Nat} (h : j < t + 1) : (binL t).getD j 0 = (ch t j : Int) := by
  unfold binL
  rw [List.getD_eq_getElem?_getD, List.getElem?_map, List.getElem?_range h]; rfl
theorem sg_int {t j : Nat} (h : j ≤ t) : 1 - 2 * (((t : Int) - (j : Int)) % 2) = (-1 : Int) ^ (t - j) := by
  rw [sg_pow]; unfold sg
  rw [show ((t - j : Nat) : Int) = (t : Int) - (j : Int) by omega]
theorem ev_folded_in {n t : Nat} (h0 : 0 < n) (hn : n ≤ 16) (ht : t ≤ 100000) : Calls f_folded_in [.int n, .int t] (ti (shareL (-1) n t)) := by
  intro h c
  suffices key : f_folded_in [.int n, .int t] h = .ok (ti (shareL (-1) n t)) (h ++ [.lst ((shareL (-1) n t).map PV.int)]) by
    rw [key]
    exact tidy_junk c (under_tint _)
  obtain ⟨s', h', e, I⟩ := forL_inv (g := mUnp 2 (mGCons (mName 3) (mGCons (mName 4) mGNil))) (b := mAugPut (mVar 2) (mOp bMod (mVar 3) (mVar 0)) (mOp (bMulS false) (mVar 4) (mOp bSub (mC (.int 1)) (mOp (bMulS false) (mC (.int 2)) (mOp bMod (mOp bSub (mVar 1) (mVar 3)) (mC (.int 2))))))) (it := (enumP 0 ((binL t).map PV.int), [])) rfl (fun (i : Nat) => PV.tup [.int (i : Nat), .int ((binL t).getD i 0)])
    (fun d s hp => (∃ x y, s = [some (.int n), some (.int t), some (.ref h.length), x, y]) ∧ ∃ F : List Int, hp = h ++ [.lst (F.map PV.int)] ∧ F.length = n ∧ ∀ r, Per n r → ∀ i, act F r i = sm d.length (fun j => (ch t j : Int) * (-1) ^ (t - j) * r (i + j)))
    [] (List.range (t + 1)) [some (.int n), some (.int t), some (.ref h.length), none, none] (h ++ [.lst ((List.replicate n 0).map PV.int)])
    ⟨⟨none, none, rfl⟩, List.replicate n 0, rfl, by simp, fun r _ i => by
      unfold act
      rw [show ([] : List Nat).length = 0 from rfl, sm, List.length_replicate, sm_congr (g := fun _ => 0) fun k hk => by simp [List.getD_eq_getElem?_getD, List.getElem?_replicate, hk], sm_zero]⟩
    (fun d a r s hp er ⟨⟨x, y, es⟩, F, eh, hl, ha⟩ => by
      rw [List.nil_append] at er
      obtain ⟨ea, lt, ed⟩ := range_split er
      subst es eh ea
      have hk : d.length % n < F.length := by rw [hl]; exact Nat.mod_lt _ h0
      refine ⟨[some (.int n), some (.int t), some (.ref h.length), some (.int d.length), some (.int ((binL t).getD d.length 0))], h ++ [.lst (F.map PV.int)], [some (.int n), some (.int t), some (.ref h.length), some (.int d.length), some (.int ((binL t).getD d.length 0))], h ++ [.lst ((F.set (d.length % n) (F.getD (d.length % n) 0 + (ch t d.length : Int) * (-1) ^ (t - d.length))).map PV.int)], by simp, .inl ?_, ⟨_, _, rfl⟩, _, rfl, by rw [List.length_set]; exact hl, fun r p i => ?_⟩
      · have g1 := l_getN (h := h) (xs := F.map PV.int) (i := ((d.length % n : Nat) : Int)) (by omega)
        rw [Mir.atI_nat, getD_int hk] at g1
        have m1 : mulOk 2 (((t : Int) - (d.length : Int)) % 2) := mulOk_small (by omega)
        have m2 : mulOk (ch t d.length : Int) ((-1 : Int) ^ (t - d.length)) := mulOk_small (by rw [sg_pow]; rcases sg_cases (t - d.length) with z | z <;> rw [z] <;> decide)
        have q1 : ixN F.length ((d.length % n : Nat) : Int) = some (d.length % n) := ixN_nat hk
        rw [binL_at lt]
        have n0 : (0 : Int) < n := by omega
        have e5 : ((d.length : Int) % (n : Int)) = ((d.length % n : Nat) : Int) := (Int.natCast_emod _ _)
        have e6 := sg_int (t := t) (j := d.length) (by omega)
        rw [← e5] at g1 q1
        simp [h0, g1, m1, e6, m2, q1]
      · rw [act_set hk, ha r p i, show (d ++ [d.length]).length = d.length + 1 by simp, sm, p.modr]
        congr 1
        rw [show F.getD (d.length % n) 0 + (ch t d.length : Int) * (-1) ^ (t - d.length) - F.getD (d.length % n) 0 = (ch t d.length : Int) * (-1) ^ (t - d.length) by omega])
  rw [List.nil_append] at I
  obtain ⟨⟨x, y, es⟩, F, eh, hl, ha⟩ := I
  have hF : F = shareL (-1) n t := shareL_of hl fun r p => by rw [ha r p, nbs_ch, List.length_range]
  subst hF
  have en : ((List.range (t + 1)).map fun (i : Nat) => PV.tup [.int (i : Nat), .int ((binL t).getD i 0)]) = enumP 0 ((binL t).map PV.int) := by rw [enum_ints, binL_len]
  rw [en] at e
  subst es eh
  have rl : repL (n : Int) [PV.int 0] = (List.replicate n 0).map PV.int := by rw [rep_lst, List.map_replicate]
  have b1 : -1000000 ≤ (n : Int) := by omega
  have b2 : (n : Int) ≤ 1000000 := by omega
  have b3 : n ≤ 16777216 := by omega
  have c2 := closed_push c (under_ints (List.replicate n 0))
  simp only [f_folded_in, b_folded_in, mDef_eq, mStart]
  have ev := ev_binomials ht (h ++ [.lst ((List.replicate n 0).map PV.int)]) c2
  simp only [List.map_replicate] at ev e
  rw [List.length_append, List.length_singleton] at ev
  simp [b1, b2, b3, ev, e]
end MirP

set_option Elab.async false
set_option linter.all false
set_option maxRecDepth 100000
namespace MirP
open PySem L2 Mir MirM

/-- for k in range(n): found.append(e) -/
theorem forL_app {fs ps n : Nat} {s : Sl} {h : List MO} {e : E} (f : Nat → Int) (hn : n < 16777216) (hfs : ∀ x, (s.set ps x)[fs]? = some (some (.ref h.length)))
    (he : ∀ k, k < n → ∀ xs : List Int, e (s.set ps (some (.int (k : Nat)))) (h ++ [.lst (xs.map PV.int)]) = .ok (.int (f k)) (h ++ [.lst (xs.map PV.int)])) :
    ∃ x, forL (mName ps) (mDrop (mMeth "list" fApp (mVar fs) (mCons e mNil))) (rangeP 0 n, []) (rangeP 0 n) s (h ++ [.lst []]) = .nx x (h ++ [.lst (((List.range n).map f).map PV.int)]) ∧ (x = s ∨ ∃ v, x = s.set ps v) := by
  obtain ⟨s', h', q, ⟨q1, q2⟩⟩ := forL_inv (g := mName ps) (b := mDrop (mMeth "list" fApp (mVar fs) (mCons e mNil))) (it := (rangeP 0 n, [])) rfl (fun (k : Nat) => PV.int (0 + (k : Int)))
    (fun d x hp => (x = s ∨ ∃ v, x = s.set ps v) ∧ hp = h ++ [.lst (((List.range d.length).map f).map PV.int)]) [] (List.range n) s (h ++ [.lst []]) ⟨.inl rfl, rfl⟩
    (fun d a r x hp er ⟨q1, q2⟩ => by
      rw [List.nil_append] at er
      obtain ⟨ea, lt, ed⟩ := range_split er
      subst q2 ea
      have es : x.set ps (some (.int (0 + (d.length : Int)))) = s.set ps (some (.int (d.length : Nat))) := by
        rw [Int.zero_add]
        rcases q1 with rfl | ⟨v, rfl⟩
        · rfl
        · rw [List.set_set]
      refine ⟨s.set ps (some (.int (d.length : Nat))), _, s.set ps (some (.int (d.length : Nat))), h ++ [.lst (((List.range (d.length + 1)).map f).map PV.int)], by rw [e_mName, es], .inl ?_, .inr ⟨_, rfl⟩, by rw [List.length_append]; rfl⟩
      have e1 := he d.length lt ((List.range d.length).map f)
      have sz : d.length < 16777216 := by omega
      rw [e_mDrop, e_mMeth, e_mVar, hfs]
      dsimp only
      rw [e_bind_ok, if_pos l_ty, e_mCons, e1, e_bind_ok, e_mNil, e_bind_ok, e_bind_ok, l_app, if_pos (by simpa using sz), e_xs_ok]
      rw [List.range_succ, List.map_append, List.map_append]
      rfl)
  rw [List.nil_append, List.length_range] at q2
  rw [q2] at q
  exact ⟨s', q, q1⟩
theorem row_at {l : List Int} {k : Nat} (h : 0 < l.length) : atI (l.map PV.int) (((k % l.length : Nat)) : Int) = some (.int (rowf l k)) := by
  rw [Mir.atI_nat, getD_int (Nat.mod_lt _ h)]; rfl
theorem ev_signed_far_in {l : List Int} {t : Nat} (h0 : 0 < l.length) (hn : l.length ≤ 16) (ht : t ≤ 100000) (hm : ∀ k < l.length, ∀ i, mulOk ((shareL (-1) l.length t).getD k 0) (rowf l i)) :
    Calls f_signed_far_in [ti l, .int t] (ti ((List.range l.length).map (nbs (-1) t (rowf l)))) := by
  intro h c
  suffices key : ∃ g, f_signed_far_in [ti l, .int t] h = .ok (ti ((List.range l.length).map (nbs (-1) t (rowf l)))) (h ++ g) by
    obtain ⟨g, key⟩ := key
    rw [key]
    exact tidy_junk c (under_tint _)
  have ec : ∀ (k : Nat) (hp : List MO), compL (mUnp 2 (mGCons (mName 6) (mGCons (mName 7) mGNil))) mYes (mOp (bMulS false) (mVar 7) (mOp pIx (mVar 0) (mOp bMod (mOp bAdd (mVar 3) (mVar 6)) (mVar 4)))) [6, 7] (enumP 0 ((shareL (-1) l.length t).map PV.int), [])
      [some (ti l), some (.int t), some (.ref h.length), some (.int k), some (.int l.length), some (ti (shareL (-1) l.length t)), none, none] (enumP 0 ((shareL (-1) l.length t).map PV.int)) hp = .ok (((List.range l.length).map fun j => (shareL (-1) l.length t).getD j 0 * rowf l (k + j)).map PV.int) hp := fun k hp => by
    have q := compL_map (g := mUnp 2 (mGCons (mName 6) (mGCons (mName 7) mGNil))) (t := mYes) (e := mOp (bMulS false) (mVar 7) (mOp pIx (mVar 0) (mOp bMod (mOp bAdd (mVar 3) (mVar 6)) (mVar 4)))) (vs := [6, 7]) (it := (enumP 0 ((shareL (-1) l.length t).map PV.int), []))
      (s := [some (ti l), some (.int t), some (.ref h.length), some (.int k), some (.int l.length), some (ti (shareL (-1) l.length t)), none, none]) (h := hp) (List.range l.length) (fun (i : Nat) => PV.tup [.int (i : Nat), .int ((shareL (-1) l.length t).getD i 0)]) (fun j => .int ((shareL (-1) l.length t).getD j 0 * rowf l (k + j))) rfl
      (fun j hj => ⟨[some (ti l), some (.int t), some (.ref h.length), some (.int k), some (.int l.length), some (ti (shareL (-1) l.length t)), some (.int (j : Nat)), some (.int ((shareL (-1) l.length t).getD j 0))], by simp, rfl, by
        have m1 := hm j (List.mem_range.mp hj) (k + j)
        have r1 := row_at (l := l) (k := k + j) h0
        have e5 : (((k : Int) + (j : Int)) % (l.length : Int)) = (((k + j) % l.length : Nat) : Int) := by rw [Int.natCast_emod, Int.natCast_add]
        rw [← e5] at r1
        simp only [List.getD_eq_getElem?_getD] at m1
        simp [h0, r1, m1]⟩)
    have en := enum_ints (shareL (-1) l.length t)
    rw [shareL_len] at en
    rw [en] at q ⊢
    rw [q, List.map_map]; rfl
  obtain ⟨x, q, qs⟩ := forL_app (fs := 2) (ps := 3) (n := l.length) (s := [some (ti l), some (.int t), some (.ref h.length), none, some (.int l.length), some (ti (shareL (-1) l.length t)), none, none]) (h := h)
    (e := (mCall fSumA (mCons (mComp (mEnum (mCons (mVar 5) mNil)) (mUnp 2 (mGCons (mName 6) (mGCons (mName 7) mGNil))) mYes (mOp (bMulS false) (mVar 7) (mOp pIx (mVar 0) (mOp bMod (mOp bAdd (mVar 3) (mVar 6)) (mVar 4)))) [6, 7]) mNil))) (nbs (-1) t (rowf l)) (by omega) (fun x => rfl)
    (fun k hk xs => by
      have sz : l.length < 16777216 := by omega
      have e2 : (((List.range l.length).map fun j => (shareL (-1) l.length t).getD j 0 * rowf l (k + j))).sum = nbs (-1) t (rowf l) k := by
        rw [sum_range, ← act_shareL h0 (rowf_per l) t k]
        unfold act; rw [shareL_len]
      have ec' := ec k (h ++ [.lst (xs.map PV.int)])
      simp only [List.set_cons_succ, List.set_cons_zero, e_mCall, e_mCons, e_mComp, e_mEnum, e_mVar, List.getElem?_cons_succ, List.getElem?_cons_zero, e_bind_ok, e_mNil, e_enum_tup, enumP_len, List.length_map, shareL_len, sz, if_true, ec', e_only, e_sumL, e2])
  have ev := ev_folded_in (n := l.length) (t := t) h0 hn ht h c
  have r1 : -(2 : Int) ^ 62 ≤ (l.length : Int) := by omega
  have r2 : (l.length : Int) < 2 ^ 62 := by omega
  refine ⟨[.lst (((List.range l.length).map (nbs (-1) t (rowf l))).map PV.int)], ?_⟩
  simp only [f_signed_far_in, b_signed_far_in, mDef_eq, mStart]
  have hx : x[2]? = some (some (.ref h.length)) := by
    rcases qs with rfl | ⟨v, rfl⟩ <;> rfl
  simp [ev, e_rng1 r1 r2, q, hx]

/-- entries from 0 to m - 1 -/
def InM (m : Int) (F : List Int) : Prop := ∀ k, k < F.length → 0 ≤ F.getD k 0 ∧ F.getD k 0 < m
theorem InM.set {m : Int} {F : List Int} {k : Nat} {x : Int} (h : InM m F) (hx : 0 ≤ x ∧ x < m) : InM m (F.set k x) := fun j hj => by
  rw [List.length_set] at hj
  by_cases e : j = k
  · subst e; rw [List.getD_eq_getElem?_getD, List.getElem?_set_self hj]; exact hx
  · rw [List.getD_eq_getElem?_getD, List.getElem?_set_ne (Ne.symm e), ← List.getD_eq_getElem?_getD]; exact h j hj
theorem InM.mem {m : Int} {F : List Int} (h : ∀ x ∈ F, 0 ≤ x ∧ x < m) : InM m F := fun k hk => by
  rw [List.getD_eq_getElem?_getD, List.getElem?_eq_getElem hk]; exact h _ (List.getElem_mem hk)
def rollL (m : Int) (a b : List Int) : List Int := (List.range a.length).map fun k => act a (act b (dl a.length k)) 0 % m
theorem roll_of {m : Int} {a b F : List Int} (hl : F.length = a.length) (hi : InM m F) (ha : ∀ r, Per a.length r → ∀ i, cg m (act F r i) (act a (act b r) i)) : F = rollL m a b := by
  refine getD_ext (by simp [rollL, hl]) fun k hk => ?_
  have e1 : (rollL m a b).getD k 0 = act a (act b (dl a.length k)) 0 % m := by
    unfold rollL
    rw [List.getD_eq_getElem?_getD, List.getElem?_map, List.getElem?_range (by omega)]; rfl
  rw [e1, ← (ha _ (dl_per _ _) 0).eq]
  have e2 : act F (dl a.length k) 0 = F.getD k 0 := by rw [← hl]; exact act_dl hk
  rw [e2, Int.emod_eq_of_lt (hi k hk).1 (hi k hk).2]
theorem act_zero {n : Nat} (r : Nat → Int) (i : Nat) : act (List.replicate n 0) r i = 0 := by
  unfold act
  rw [List.length_replicate, sm_congr (g := fun _ => 0) fun k hk => by simp [List.getD_eq_getElem?_getD, List.getElem?_replicate, hk], sm_zero]
abbrev rolB : SM := mSeq (mAsg (mOp bMod (mOp bAdd (mVar 5) (mVar 7)) (mVar 3)) (mName 9))
  (mAsg (mOp bMod (mOp bAdd (mOp pIx (mVar 4) (mVar 9)) (mOp (bMulS false) (mVar 6) (mVar 8))) (mVar 2)) (mPut (mVar 4) (mVar 9)))
theorem rol_in {a b : List Int} {m : Int} {n p : Nat} {h : List MO} (h0 : 0 < n) (hb : b.length = n) (hm : 0 < m) (hm2 : m < 18446744073709551616) (hib : InM m b) (ow : Int) (x7 x8 x9 : Option PV) (F : List Int) (hl : F.length = n) (hi : InM m F) :
    ∃ y7 y8 y9 F', forL (mUnp 2 (mGCons (mName 7) (mGCons (mName 8) mGNil))) rolB (enumP 0 (b.map PV.int), []) (enumP 0 (b.map PV.int)) [some (ti a), some (ti b), some (.int m), some (.int n), some (.ref h.length), some (.int (p : Nat)), some (.int ow), x7, x8, x9] (h ++ [.lst (F.map PV.int)])
      = .nx [some (ti a), some (ti b), some (.int m), some (.int n), some (.ref h.length), some (.int (p : Nat)), some (.int ow), y7, y8, y9] (h ++ [.lst (F'.map PV.int)]) ∧ F'.length = n ∧ InM m F' ∧ ∀ r, Per n r → ∀ i, cg m (act F' r i) (act F r i + ow * act b r (i + p)) := by
  obtain ⟨s', h', e, ⟨y7, y8, y9, es⟩, F', eh, hl', hi', ha⟩ := forL_inv (g := mUnp 2 (mGCons (mName 7) (mGCons (mName 8) mGNil))) (b := rolB) (it := (enumP 0 (b.map PV.int), [])) rfl (fun (i : Nat) => PV.tup [.int (i : Nat), .int (b.getD i 0)])
    (fun d s hp => (∃ x y z, s = [some (ti a), some (ti b), some (.int m), some (.int n), some (.ref h.length), some (.int (p : Nat)), some (.int ow), x, y, z]) ∧ ∃ F' : List Int, hp = h ++ [.lst (F'.map PV.int)] ∧ F'.length = n ∧ InM m F' ∧
      ∀ r, Per n r → ∀ i, cg m (act F' r i) (act F r i + ow * sm d.length (fun v => b.getD v 0 * r (i + p + v))))
    [] (List.range b.length) [some (ti a), some (ti b), some (.int m), some (.int n), some (.ref h.length), some (.int (p : Nat)), some (.int ow), x7, x8, x9] (h ++ [.lst (F.map PV.int)])
    ⟨⟨_, _, _, rfl⟩, F, rfl, hl, hi, fun r _ i => by simp [sm]; exact .refl⟩
    (fun d v rr s hp er ⟨⟨x, y, z, es⟩, F', eh, hl', hi', ha⟩ => by
      rw [List.nil_append] at er
      obtain ⟨ea, lt, ed⟩ := range_split er
      subst es eh ea
      have hk : (p + d.length) % n < F'.length := by rw [hl']; exact Nat.mod_lt _ h0
      refine ⟨[some (ti a), some (ti b), some (.int m), some (.int n), some (.ref h.length), some (.int (p : Nat)), some (.int ow), some (.int d.length), some (.int (b.getD d.length 0)), z], h ++ [.lst (F'.map PV.int)],
        [some (ti a), some (ti b), some (.int m), some (.int n), some (.ref h.length), some (.int (p : Nat)), some (.int ow), some (.int d.length), some (.int (b.getD d.length 0)), some (.int (((p + d.length) % n : Nat) : Int))],
        h ++ [.lst ((F'.set ((p + d.length) % n) ((F'.getD ((p + d.length) % n) 0 + ow * b.getD d.length 0) % m)).map PV.int)], by simp, .inl ?_, ⟨_, _, _, rfl⟩, _, rfl, by rw [List.length_set]; exact hl', hi'.set ⟨Int.emod_nonneg _ (by omega), Int.emod_lt_of_pos _ hm⟩, fun r pr i => ?_⟩
      · have n0 : (0 : Int) < n := by omega
        have e5 : (((p : Int) + (d.length : Int)) % (n : Int)) = (((p + d.length) % n : Nat) : Int) := by rw [Int.natCast_emod, Int.natCast_add]
        have g1 : atI (F'.map PV.int) (((p + d.length) % n : Nat) : Int) = some (.int (F'.getD ((p + d.length) % n) 0)) := by rw [Mir.atI_nat, getD_int hk]
        have q1 : ixN F'.length (((p + d.length) % n : Nat) : Int) = some ((p + d.length) % n) := ixN_nat hk
        have m1 : mulOk ow (b.getD d.length 0) := mulOk_small (by have := hib d.length lt; omega)
        rw [← e5] at g1 q1
        simp only [List.getD_eq_getElem?_getD] at m1 g1
        simp [h0, hm, g1, q1, m1]
      · refine (show cg m _ _ from ?_)
        rw [act_set hk, show (d ++ [d.length]).length = d.length + 1 by simp, sm]
        have e6 : r (i + (p + d.length) % n) = r (i + p + d.length) := by rw [pr.modr, Nat.add_assoc]
        rw [e6]
        have e7 : cg m ((F'.getD ((p + d.length) % n) 0 + ow * b.getD d.length 0) % m - F'.getD ((p + d.length) % n) 0) (ow * b.getD d.length 0) := by
          have := (cg_mod (m := m) (a := F'.getD ((p + d.length) % n) 0 + ow * b.getD d.length 0)).sub (cg.refl (a := F'.getD ((p + d.length) % n) 0))
          rwa [show F'.getD ((p + d.length) % n) 0 + ow * b.getD d.length 0 - F'.getD ((p + d.length) % n) 0 = ow * b.getD d.length 0 by omega] at this
        have e8 := (ha r pr i).add (e7.mul (cg.refl (a := r (i + p + d.length))))
        rwa [show act F r i + ow * sm d.length (fun v => b.getD v 0 * r (i + p + v)) + ow * b.getD d.length 0 * r (i + p + d.length) = act F r i + ow * (sm d.length (fun v => b.getD v 0 * r (i + p + v)) + b.getD d.length 0 * r (i + p + d.length)) by rw [Int.mul_add, ← Int.mul_assoc]; omega] at e8)
  rw [List.nil_append] at ha
  have en := enum_ints b
  rw [en]
  rw [en] at e
  subst es eh
  exact ⟨y7, y8, y9, F', e, hl', hi', fun r pr i => by have := ha r pr i; rwa [List.length_range] at this⟩
theorem ev_rolled {a b : List Int} {m : Int} (h0 : 0 < a.length) (hn : a.length ≤ 1000) (hb : b.length = a.length) (hm : 0 < m) (hm2 : m < 18446744073709551616) (hib : InM m b) : Calls f_rolled [ti a, ti b, .int m] (ti (rollL m a b)) := by
  intro h c
  suffices key : ∃ g, f_rolled [ti a, ti b, .int m] h = .ok (ti (rollL m a b)) (h ++ g) by
    obtain ⟨g, key⟩ := key
    rw [key]
    exact tidy_junk c (under_tint _)
  obtain ⟨s', h', e, ⟨y5, y6, y7, y8, y9, es⟩, F', eh, hl', hi', ha⟩ := forL_inv (g := mUnp 2 (mGCons (mName 5) (mGCons (mName 6) mGNil))) (b := mFor (mEnum (mCons (mVar 1) mNil)) (mUnp 2 (mGCons (mName 7) (mGCons (mName 8) mGNil))) rolB) (it := (enumP 0 (a.map PV.int), [])) rfl (fun (i : Nat) => PV.tup [.int (i : Nat), .int (a.getD i 0)])
    (fun d s hp => (∃ x5 x6 x y z, s = [some (ti a), some (ti b), some (.int m), some (.int a.length), some (.ref h.length), x5, x6, x, y, z]) ∧ ∃ F' : List Int, hp = h ++ [.lst (F'.map PV.int)] ∧ F'.length = a.length ∧ InM m F' ∧
      ∀ r, Per a.length r → ∀ i, cg m (act F' r i) (sm d.length (fun u => a.getD u 0 * act b r (i + u))))
    [] (List.range a.length) [some (ti a), some (ti b), some (.int m), some (.int a.length), some (.ref h.length), none, none, none, none, none] (h ++ [.lst ((List.replicate a.length 0).map PV.int)])
    ⟨⟨_, _, _, _, _, rfl⟩, _, rfl, by simp, InM.mem fun x hx => by rw [(List.mem_replicate.mp hx).2]; omega, fun r _ i => by rw [act_zero]; exact .refl⟩
    (fun d v rr s hp er ⟨⟨x5, x6, x, y, z, es⟩, F, eh, hl, hi, ha⟩ => by
      rw [List.nil_append] at er
      obtain ⟨ea, lt, ed⟩ := range_split er
      subst es eh ea
      obtain ⟨y7, y8, y9, F', e, hl', hi', ha'⟩ := rol_in (a := a) (h := h) (n := a.length) (p := d.length) h0 hb hm hm2 hib (a.getD d.length 0) x y z F hl hi
      refine ⟨[some (ti a), some (ti b), some (.int m), some (.int a.length), some (.ref h.length), some (.int d.length), some (.int (a.getD d.length 0)), x, y, z], h ++ [.lst (F.map PV.int)], [some (ti a), some (ti b), some (.int m), some (.int a.length), some (.ref h.length), some (.int d.length), some (.int (a.getD d.length 0)), y7, y8, y9], h ++ [.lst (F'.map PV.int)], by simp, .inl ?_, ⟨_, _, _, _, _, rfl⟩, F', rfl, hl', hi', fun r pr i => ?_⟩
      · simp only [e_mFor, e_mEnum, e_mCons, e_mVar, List.getElem?_cons_succ, List.getElem?_cons_zero, e_bind_ok, e_mNil, e_enum_tup, e_xs_ok]
        exact e
      · rw [show (d ++ [d.length]).length = d.length + 1 by simp, sm]
        exact (ha' r pr i).trans ((ha r pr i).add .refl))
  rw [List.nil_append] at ha
  have en := enum_ints a
  rw [← en] at e
  subst es eh
  have hF : F' = rollL m a b := roll_of hl' hi' fun r pr i => by have := ha r pr i; rwa [List.length_range] at this
  subst hF
  refine ⟨[.lst ((rollL m a b).map PV.int)], ?_⟩
  have b1 : -1000000 ≤ (a.length : Int) := by omega
  have b2 : (a.length : Int) ≤ 1000000 := by omega
  have b3 : a.length ≤ 16777216 := by omega
  simp only [List.map_replicate] at e
  simp only [f_rolled, b_rolled, mDef_eq, mStart]
  simp [b1, b2, b3, e]
end MirP

set_option Elab.async false
set_option linter.all false
set_option maxRecDepth 100000
namespace MirP
open PySem L2 Mir MirM

theorem roll_len (m : Int) (a b : List Int) : (rollL m a b).length = a.length := by simp [rollL]
theorem roll_in {m : Int} (hm : 0 < m) (a b : List Int) : InM m (rollL m a b) := InM.mem fun x hx => by
  obtain ⟨k, _, rfl⟩ := List.mem_map.mp hx
  exact ⟨Int.emod_nonneg _ (by omega), Int.emod_lt_of_pos _ hm⟩
theorem act_roll {m : Int} {a b : List Int} (h0 : 0 < a.length) {r : Nat → Int} (p : Per a.length r) (i : Nat) : cg m (act (rollL m a b) r i) (act a (act b r) i) := by
  -- entry by entry: linear in r
  have e1 : rollL m a b = ((List.range a.length).map fun k => act a (act b (dl a.length k)) 0).map (· % m) := by unfold rollL; rw [List.map_map]; rfl
  rw [e1]
  refine (act_mod i).trans ?_
  have e2 : act ((List.range a.length).map fun k => act a (act b (dl a.length k)) 0) r i = act a (act b r) i := by
    unfold act
    rw [List.length_map, List.length_range]
    rw [sm_congr (g := fun k => sm a.length (fun u => sm b.length (fun v => a.getD u 0 * (b.getD v 0 * (dl a.length k (0 + u + v) * r (i + k)))))) fun k hk => by
      rw [List.getD_eq_getElem?_getD, List.getElem?_map, List.getElem?_range hk]
      show sm a.length (fun u => a.getD u 0 * sm b.length (fun v => b.getD v 0 * dl a.length k (0 + u + v))) * r (i + k) = _
      rw [Int.mul_comm, ← sm_mul]
      refine sm_congr fun u _ => ?_
      rw [Int.mul_left_comm, ← sm_mul, ← sm_mul]
      refine sm_congr fun v _ => ?_
      rw [Int.mul_left_comm (r (i + k)), Int.mul_comm (r (i + k))]]
    rw [sm_swap]
    refine sm_congr fun u _ => ?_
    rw [sm_swap, ← sm_mul]
    refine sm_congr fun v _ => ?_
    have hj : (u + v) % a.length < a.length := Nat.mod_lt _ h0
    rw [sm_one _ ((u + v) % a.length) _ hj fun k _ hn => by unfold dl; rw [Nat.zero_add, if_neg (fun z => hn z.symm)]; simp]
    unfold dl
    rw [Nat.zero_add, if_pos rfl, Int.one_mul, p.modr, Nat.add_assoc]
  rw [e2]
  exact .refl
theorem act_per_of {n : Nat} {F : List Int} {r : Nat → Int} (p : Per n r) : Per n (act F r) := act_per p
def unitL (n : Nat) : List Int := 1 :: List.replicate (n - 1) 0
def oneL (n : Nat) : List Int := 1 :: 1 :: List.replicate (n - 2) 0
theorem act_cons (x : Int) (F : List Int) (r : Nat → Int) (i : Nat) : act (x :: F) r i = x * r i + act F r (i + 1) := by
  unfold act
  rw [List.length_cons, sm_shift]
  congr 1
  refine sm_congr fun k _ => ?_
  rw [show i + (k + 1) = i + 1 + k by omega]; rfl
theorem act_unit (n : Nat) (r : Nat → Int) (i : Nat) : act (unitL n) r i = r i := by unfold unitL; rw [act_cons, act_zero]; omega
theorem act_one (n : Nat) (r : Nat → Int) (i : Nat) : act (oneL n) r i = nbs 1 1 r i := by
  unfold oneL
  rw [act_cons, act_cons, act_zero]
  show 1 * r i + (1 * r (i + 1) + 0) = r (i + 1) + 1 * r i
  omega
theorem cg_act {m : Int} {F : List Int} {r s : Nat → Int} (h : ∀ i, cg m (r i) (s i)) (i : Nat) : cg m (act F r i) (act F s i) := act_cg h i
theorem rep_tup {k : Nat} {x : Int} : repL (k : Int) [PV.int x] = (List.replicate k x).map PV.int := by rw [rep_lst, List.map_replicate]
theorem half0 (q e : Nat) : 2 * q * e = q * (e + e) := by rw [Nat.mul_add, Nat.mul_assoc, Nat.two_mul]
theorem half1 (q e : Nat) : (2 * q + 1) * e = e + q * (e + e) := by rw [Nat.add_mul, Nat.one_mul, half0, Nat.add_comm]
abbrev shB : SM := mSeq (mIfS (mB (mOp cEq (mOp bMod (mVar 5) (mC (.int 2))) (mC (.int 1)))) (mAsg (mCallF 3 f_rolled (mCons (mVar 4) (mCons (mVar 3) (mCons (mVar 1) mNil)))) (mName 4)) mNext)
  (mPar 3 5 (mCons (mCallF 3 f_rolled (mCons (mVar 3) (mCons (mVar 3) (mCons (mVar 1) mNil)))) (mCons (mOp bDiv (mVar 5) (mC (.int 2))) mNil)))
theorem ev_shares_in {n t : Nat} {m : Int} (hn : 2 ≤ n) (hn2 : n ≤ 1000) (hm : 2 ≤ m) (hm2 : m < 18446744073709551616) (ht : t < 2 ^ 4000) : Calls f_shares_in [.int n, .int m, .int t] (ti ((shareL 1 n t).map (· % m))) := by
  refine calls_of (under_tint _) fun h c => ?_
  have m0 : 0 < m := by omega
  obtain ⟨s', h', k', e, ⟨own, found, left, e0, f0, es, eh, lk, hlo, hlf, hio, hif, ht', ho, hf⟩, et⟩ := whileF_inv (t := mB (mOp cGt (mVar 5) (mC (.int 0)))) (b := shB)
    (fun k s hp => ∃ (own found : List Int) (left e0 f0 : Nat), s = [some (.int n), some (.int m), some (.int t), some (ti own), some (ti found), some (.int left)] ∧ hp = h ∧ left < 2 ^ k ∧ own.length = n ∧ found.length = n ∧ InM m own ∧ InM m found ∧
      f0 + left * e0 = t ∧ (∀ r, Per n r → ∀ i, cg m (act own r i) (nbs 1 e0 r i)) ∧ (∀ r, Per n r → ∀ i, cg m (act found r i) (nbs 1 f0 r i)))
    (fun k s hp ⟨own, found, left, e0, f0, es, eh, lk, hlo, hlf, hio, hif, ht', ho, hf⟩ => by
      subst es eh
      by_cases hl : left = 0
      · subst hl; exact .inl (by simp)
      · refine .inr ⟨hp, ?_⟩
        have kp : ∃ j, k = j + 1 := by
          cases k with
          | zero => simp at lk; omega
          | succ j => exact ⟨j, rfl⟩
        obtain ⟨j, rfl⟩ := kp
        rw [Nat.pow_succ] at lk
        have r1 := ev_rolled (a := found) (b := own) (m := m) (by omega) (by omega) (by omega) m0 hm2 hio hp c
        have r2 := ev_rolled (a := own) (b := own) (m := m) (by omega) (by omega) rfl m0 hm2 hio hp c
        have d2 : divOk 2 := divOk_small (by decide) (by decide)
        have l0 : (0 : Int) < left := by omega
        have o2 : ∀ r, Per n r → ∀ i, cg m (act (rollL m own own) r i) (nbs 1 (e0 + e0) r i) := fun r p i => by
          have p' : Per own.length r := by rw [hlo]; exact p
          refine (act_roll (by omega) p' i).trans ?_
          rw [nbs_add]
          exact (cg_act (ho r p) i).trans (ho _ (nbs_per p e0) i)
        have q2 : (left : Int) / 2 = ((left / 2 : Nat) : Int) := by omega
        by_cases odd : left % 2 = 1
        · have o1 : ∀ r, Per n r → ∀ i, cg m (act (rollL m found own) r i) (nbs 1 (f0 + e0) r i) := fun r p i => by
            have p' : Per found.length r := by rw [hlf]; exact p
            refine (act_roll (by omega) p' i).trans ?_
            rw [nbs_add]
            exact (cg_act (ho r p) i).trans (hf _ (nbs_per p e0) i)
          refine ⟨[some (.int n), some (.int m), some (.int t), some (ti (rollL m own own)), some (ti (rollL m found own)), some (.int ((left / 2 : Nat) : Int))], hp, j, by simp [Nat.pos_of_ne_zero hl], ?_, by omega, rollL m own own, rollL m found own, left / 2, e0 + e0, f0 + e0, rfl, rfl, by omega, by rw [roll_len]; exact hlo, by rw [roll_len]; exact hlf, roll_in m0 _ _, roll_in m0 _ _, ?_, o2, o1⟩
          · have i1 : (left : Int) % 2 = 1 := by omega
            simp [i1, r1, r2, d2]
          · have := half1 (left / 2) e0
            rw [show 2 * (left / 2) + 1 = left by omega] at this
            omega
        · refine ⟨[some (.int n), some (.int m), some (.int t), some (ti (rollL m own own)), some (ti found), some (.int ((left / 2 : Nat) : Int))], hp, j, by simp [Nat.pos_of_ne_zero hl], ?_, by omega, rollL m own own, found, left / 2, e0 + e0, f0, rfl, rfl, by omega, by rw [roll_len]; exact hlo, hlf, roll_in m0 _ _, hif, ?_, o2, hf⟩
          · have i1 : (left : Int) % 2 = 0 := by omega
            simp [i1, r2, d2]
          · have := half0 (left / 2) e0
            rw [show 2 * (left / 2) = left by omega] at this
            omega)
    4096 4000 [some (.int n), some (.int m), some (.int t), some (ti (oneL n)), some (ti (unitL n)), some (.int t)] h (by decide)
    ⟨oneL n, unitL n, t, 1, 0, rfl, rfl, ht, by simp [oneL]; omega, by simp [unitL]; omega, InM.mem fun x hx => by
      simp [oneL] at hx; rcases hx with rfl | ⟨_, rfl⟩ <;> omega, InM.mem fun x hx => by
      simp [unitL] at hx; rcases hx with rfl | ⟨_, rfl⟩ <;> omega, by omega, fun r _ i => by rw [act_one]; exact .refl, fun r _ i => by rw [act_unit]; exact .refl⟩
  subst es eh
  have l0 : left = 0 := by
    simp at et
    exact et
  subst l0
  have ef : f0 = t := by omega
  subst ef
  have hF : found = (shareL 1 n f0).map (· % m) := shareL_mod m0 hlf (fun k hk => hif k (by omega)) fun r p => hf r p 0
  subst hF
  have n1 : repL ((n : Int) - 1) [PV.int 0] = (List.replicate (n - 1) 0).map PV.int := by rw [show (n : Int) - 1 = ((n - 1 : Nat) : Int) by omega, rep_tup]
  have n2 : repL ((n : Int) - 2) [PV.int 0] = (List.replicate (n - 2) 0).map PV.int := by rw [show (n : Int) - 2 = ((n - 2 : Nat) : Int) by omega, rep_tup]
  have b1 : -1000 ≤ (n : Int) - 1 := by omega
  have b2 : (n : Int) - 1 ≤ 1000 := by omega
  have b3 : -1000 ≤ (n : Int) - 2 := by omega
  have b4 : (n : Int) - 2 ≤ 1000 := by omega
  have b5 : 1 + (n - 1) ≤ 16777216 := by omega
  have b6 : 2 + (n - 2) ≤ 16777216 := by omega
  have e' := e
  simp only [oneL, unitL, ti, List.map_cons, List.map_replicate] at e'
  simp only [f_shares_in, b_shares_in, mDef_eq, mStart]
  simp [n1, n2, b1, b2, b3, b4, b5, b6, e']
end MirP

set_option Elab.async false
set_option linter.all false
set_option maxRecDepth 100000
namespace MirP
open PySem L2 Mir MirM

def farL (m : Int) (t : Nat) (l : List Int) : List Int := (List.range l.length).map fun p => nbs 1 t (rowf l) p % m
theorem ev_mod_far_in {l : List Int} {t : Nat} {m : Int} (h0 : 2 ≤ l.length) (hn : l.length ≤ 16) (hm : 2 ≤ m) (hm2 : m < 18446744073709551616) (ht : t < 2 ^ 4000) :
    Calls f_mod_far_in [ti l, .int m, .int t] (ti (farL m t l)) := by
  intro h c
  have h1 : 0 < l.length := by omega
  have m0 : 0 < m := by omega
  suffices key : ∃ g, f_mod_far_in [ti l, .int m, .int t] h = .ok (ti (farL m t l)) (h ++ g) by
    obtain ⟨g, key⟩ := key
    rw [key]
    exact tidy_junk c (under_tint _)
  obtain ⟨F, hF⟩ : ∃ F, F = (shareL 1 l.length t).map (· % m) := ⟨_, rfl⟩
  have hlF : F.length = l.length := by rw [hF, List.length_map, shareL_len]
  have hiF : InM m F := by
    rw [hF]
    refine InM.mem fun x hx => ?_
    obtain ⟨y, _, rfl⟩ := List.mem_map.mp hx
    exact ⟨Int.emod_nonneg _ (by omega), Int.emod_lt_of_pos _ m0⟩
  have ec : ∀ (k : Nat) (hp : List MO), compL (mUnp 2 (mGCons (mName 7) (mGCons (mName 8) mGNil))) mYes (mOp (bMulS false) (mVar 8) (mOp pIx (mVar 0) (mOp bMod (mOp bAdd (mVar 4) (mVar 7)) (mVar 5)))) [7, 8] (enumP 0 (F.map PV.int), [])
      [some (ti l), some (.int m), some (.int t), some (.ref h.length), some (.int k), some (.int l.length), some (ti F), none, none] (enumP 0 (F.map PV.int)) hp = .ok (((List.range l.length).map fun j => F.getD j 0 * rowf l (k + j)).map PV.int) hp := fun k hp => by
    have q := compL_map (g := mUnp 2 (mGCons (mName 7) (mGCons (mName 8) mGNil))) (t := mYes) (e := mOp (bMulS false) (mVar 8) (mOp pIx (mVar 0) (mOp bMod (mOp bAdd (mVar 4) (mVar 7)) (mVar 5)))) (vs := [7, 8]) (it := (enumP 0 (F.map PV.int), []))
      (s := [some (ti l), some (.int m), some (.int t), some (.ref h.length), some (.int k), some (.int l.length), some (ti F), none, none]) (h := hp) (List.range l.length) (fun (i : Nat) => PV.tup [.int (i : Nat), .int (F.getD i 0)]) (fun j => .int (F.getD j 0 * rowf l (k + j))) rfl
      (fun j hj => ⟨[some (ti l), some (.int m), some (.int t), some (.ref h.length), some (.int k), some (.int l.length), some (ti F), some (.int (j : Nat)), some (.int (F.getD j 0))], by simp, rfl, by
        have m1 : mulOk (F.getD j 0) (rowf l (k + j)) := mulOk_small' (by have := hiF j (by rw [hlF]; exact List.mem_range.mp hj); omega)
        have r1 := row_at (l := l) (k := k + j) h1
        have e5 : (((k : Int) + (j : Int)) % (l.length : Int)) = (((k + j) % l.length : Nat) : Int) := by rw [Int.natCast_emod, Int.natCast_add]
        rw [← e5] at r1
        simp only [List.getD_eq_getElem?_getD] at m1
        simp [h1, r1, m1]⟩)
    have en := enum_ints F
    rw [hlF] at en
    rw [en] at q ⊢
    rw [q, List.map_map]; rfl
  obtain ⟨x, q, qs⟩ := forL_app (fs := 3) (ps := 4) (n := l.length) (s := [some (ti l), some (.int m), some (.int t), some (.ref h.length), none, some (.int l.length), some (ti F), none, none]) (h := h)
    (e := (mOp bMod (mCall fSumA (mCons (mComp (mEnum (mCons (mVar 6) mNil)) (mUnp 2 (mGCons (mName 7) (mGCons (mName 8) mGNil))) mYes (mOp (bMulS false) (mVar 8) (mOp pIx (mVar 0) (mOp bMod (mOp bAdd (mVar 4) (mVar 7)) (mVar 5)))) [7, 8]) mNil)) (mVar 1))) (fun p => nbs 1 t (rowf l) p % m) (by omega) (fun x => rfl)
    (fun k hk xs => by
      have sz : l.length < 16777216 := by omega
      have e2 : (((List.range l.length).map fun j => F.getD j 0 * rowf l (k + j))).sum % m = nbs 1 t (rowf l) k % m := by
        rw [sum_range, ← act_shareL h1 (rowf_per l) t k]
        have := (act_mod (m := m) (F := shareL 1 l.length t) (r := rowf l) k).eq
        rw [← hF] at this
        rw [← this]
        unfold act; rw [hlF]
      have ec' := ec k (h ++ [.lst (xs.map PV.int)])
      simp only [List.set_cons_succ, List.set_cons_zero, e_mOp, e_mCall, e_mCons, e_mComp, e_mEnum, e_mVar, List.getElem?_cons_succ, List.getElem?_cons_zero, e_bind_ok, e_mNil, e_enum_tup, enumP_len, List.length_map, hlF, sz, if_true, ec', e_only, e_sumL, e_mod, m0, e2])
  have ev := ev_shares_in (n := l.length) (t := t) (m := m) h0 (by omega) hm hm2 ht h c
  rw [← hF] at ev
  have r1 : -(2 : Int) ^ 62 ≤ (l.length : Int) := by omega
  have r2 : (l.length : Int) < 2 ^ 62 := by omega
  refine ⟨[.lst ((farL m t l).map PV.int)], ?_⟩
  simp only [f_mod_far_in, b_mod_far_in, mDef_eq, mStart]
  have hx : x[3]? = some (some (.ref h.length)) := by
    rcases qs with rfl | ⟨v, rfl⟩ <;> rfl
  simp [ev, e_rng1 r1 r2, q, hx, farL]
theorem ev_mod_far {v : PV} {l : List Int} {t : Nat} {m : Int} (hv : Seq v l) (h1 : 2 ≤ m) (h2 : m ≤ 60) (hs : RestsR l m) (ht : (t : Int) ≤ 1000000000000000000) : Calls f_mod_far [v, .int m, .int t] (ti (farL m t l)) := by
  refine calls_of (under_tint _) fun h c => ?_
  have t4 : t < 2 ^ 4000 := Nat.lt_of_lt_of_le (show t < 2 ^ 60 by omega) (Nat.pow_le_pow_right (by decide) (by decide))
  have e1 := ev_sure_within (x := (t : Int)) (a := 0) (b := 1000000000000000000) (by omega) ht h c
  have e2 := ev_mod_far_in (l := l) (t := t) (m := m) hs.1 hs.2.1 h1 (by omega) t4 h c
  simp [f_mod_far, b_mod_far, mDef_eq, mStart, ev_sure_mod h1 h2 h c, ev_sure_rests hv hs h c, e1, e2]
theorem ev_mod_shares {n t : Nat} {m : Int} (hn : 2 ≤ n) (hn2 : n ≤ 16) (h1 : 2 ≤ m) (h2 : m ≤ 60) (ht : (t : Int) ≤ 1000000000000000000) : Calls f_mod_shares [.int n, .int m, .int t] (ti ((shareL 1 n t).map (· % m))) := by
  refine calls_of (under_tint _) fun h c => ?_
  have t4 : t < 2 ^ 4000 := Nat.lt_of_lt_of_le (show t < 2 ^ 60 by omega) (Nat.pow_le_pow_right (by decide) (by decide))
  have e1 := ev_sure_within (x := (t : Int)) (a := 0) (b := 1000000000000000000) (by omega) ht h c
  have e2 := ev_shares_in (n := n) (t := t) (m := m) hn (by omega) h1 (by omega) t4 h c
  have e3 := ev_sure_many (m := (n : Int)) (by omega) (by omega) h c
  simp [f_mod_shares, b_mod_shares, mDef_eq, mStart, ev_sure_mod h1 h2 h c, e1, e2, e3]
theorem ev_folded {n t : Nat} (hn : 2 ≤ n) (hn2 : n ≤ 16) (ht : t ≤ 200) : Calls f_folded [.int n, .int t] (ti (shareL (-1) n t)) := by
  refine calls_of (under_tint _) fun h c => ?_
  have e1 := ev_sure_within (x := (t : Int)) (a := 0) (b := 200) (by omega) (by omega) h c
  have e2 := ev_folded_in (n := n) (t := t) (by omega) hn2 (by omega) h c
  have e3 := ev_sure_many (m := (n : Int)) (by omega) (by omega) h c
  simp [f_folded, b_folded, mDef_eq, mStart, e1, e2, e3]
def sfarL (t : Nat) (l : List Int) : List Int := (List.range l.length).map (nbs (-1) t (rowf l))
theorem log2_le {x : Int} {k : Nat} (h1 : -(2 ^ k) < x) (h2 : x < 2 ^ k) : x.natAbs.log2 ≤ k := by
  by_cases h : x.natAbs = 0
  · rw [h]; exact Nat.zero_le _
  · have e : x.natAbs < 2 ^ k := by
      have : ((2 ^ k : Nat) : Int) = (2 : Int) ^ k := by simp
      omega
    have := (Nat.log2_lt h).mpr e
    omega
theorem ev_signed_far {v : PV} {l : List Int} {t : Nat} (hv : Seq v l) (hs : SignedR l) (ht : t ≤ 200) : Calls f_signed_far [v, .int t] (ti (sfarL t l)) := by
  refine calls_of (under_tint _) fun h c => ?_
  obtain ⟨h0, hn, hb⟩ := hs
  have e1 := ev_sure_within (x := (t : Int)) (a := 0) (b := 200) (by omega) (by omega) h c
  have hm : ∀ k < l.length, ∀ i, mulOk ((shareL (-1) l.length t).getD k 0) (rowf l i) := fun k hk i => by
    refine .inr (.inr ?_)
    rw [shareL_at hk]
    have b1 := nbs_bound (c := -1) (by omega) (r := dl l.length k) (B := 1) (fun i => by unfold dl; split <;> omega) t 0
    have p1 : (2 : Int) ^ t ≤ 2 ^ 200 := by
      have : (2 : Nat) ^ t ≤ 2 ^ 200 := Nat.pow_le_pow_right (by decide) ht
      exact_mod_cast this
    have a1 : (nbs (-1) t (dl l.length k) 0).natAbs.log2 ≤ 201 := log2_le (by have : (2 : Int) ^ 201 = 2 * 2 ^ 200 := by rfl
                                                                              omega) (by have : (2 : Int) ^ 201 = 2 * 2 ^ 200 := by rfl
                                                                                         omega)
    have b2 : -1000000000000000000000000000000 ≤ rowf l i ∧ rowf l i ≤ 1000000000000000000000000000000 := by
      unfold rowf
      have hl : i % l.length < l.length := Nat.mod_lt _ (by omega)
      rw [List.getD_eq_getElem?_getD, List.getElem?_eq_getElem hl]
      exact hb _ (List.getElem_mem hl)
    have a2 : (rowf l i).natAbs.log2 ≤ 101 := log2_le (by omega) (by omega)
    omega
  have e2 := ev_signed_far_in (l := l) (t := t) (by omega) hn (by omega) hm h c
  simp [f_signed_far, b_signed_far, mDef_eq, mStart, ev_sure_signed hv ⟨h0, hn, hb⟩ h c, e1, e2, sfarL]
end MirP

set_option Elab.async false
set_option linter.all false
set_option maxRecDepth 100000
namespace MirP
open PySem L2 Mir MirM

/-! ### draws -/
abbrev tinH (a b k : Int) : List MO := [.lst [.int a, .int b, .int k]]
/-- the source of draws, after at most n of them -/
def Tin (n : Nat) (h : List MO) : Prop := ∃ a b k : Int, h = tinH a b k ∧ 0 ≤ a ∧ 0 ≤ b ∧ b < 4611686018427387904 ∧ 0 ≤ k ∧ k ≤ n
theorem Tin.mono {n m : Nat} {h : List MO} (t : Tin n h) (e : n ≤ m) : Tin m h := by
  obtain ⟨a, b, k, eh, h1, h2, h3, h4, h5⟩ := t
  exact ⟨a, b, k, eh, h1, h2, h3, h4, by omega⟩
theorem Tin.closed {n : Nat} {h : List MO} (t : Tin n h) : closed h.length h = true := by
  obtain ⟨a, b, k, rfl, _⟩ := t; rfl
theorem Tin.len {n : Nat} {h : List MO} (t : Tin n h) : h.length = 1 := by
  obtain ⟨a, b, k, rfl, _⟩ := t; rfl
theorem t_ix {a b k : Int} {i : Int} : pIx (.ref 0) (.int i) (tinH a b k) = atO (atI [.int a, .int b, .int k] i) (tinH a b k) := by
  unfold pIx lstRd lstOf; rfl
theorem t_put {a b k : Int} {i : Int} {v : PV} : pPut (.ref 0) (.int i) v (tinH a b k) = match ixN 3 i with
  | some j => .ok () [.lst ([PV.int a, .int b, .int k].set j v)]
  | none => .stuck := by
  unfold pPut
  show (match ixN 3 i with | some j => Res.ok () _ | none => .stuck) = _
  cases ixN 3 i <;> rfl
theorem ix3_0 : ixN 3 0 = some 0 := rfl
theorem ix3_2 : ixN 3 2 = some 2 := rfl
theorem at3_0 {a b k : PV} : atI [a, b, k] 0 = some a := rfl
theorem at3_1 {a b k : PV} : atI [a, b, k] 1 = some b := rfl
theorem at3_2 {a b k : PV} : atI [a, b, k] 2 = some k := rfl
theorem ev_take {n : Nat} {below : Int} {h : List MO} (T : Tin n h) (hn : n ≤ 1000000000000) (h1 : 0 < below) (h2 : below < 1000000000000000000000) : ∃ d h', f__law_take [.ref 0, .int below] h = .ok (.int d) h' ∧ 0 ≤ d ∧ d < below ∧ Tin (n + 1) h' := by
  obtain ⟨a, b, k, rfl, p1, p2, p3, p4, p5⟩ := T
  have dv : divOk below := ⟨h1, .inr (by have := log2_le (x := below) (k := 70) (by omega) (by omega); omega)⟩
  by_cases ha : 0 < a
  · refine ⟨a % below, tinH (a / below) b k, ?_, Int.emod_nonneg _ (by omega), Int.emod_lt_of_pos _ h1, _, _, _, rfl, Int.ediv_nonneg (by omega) (by omega), p2, p3, p4, by omega⟩
    simp [f__law_take, b__law_take, mDef_eq, mStart, t_ix, at3_0, ha, h1, dv, t_put, ix3_0]
  · have k1 : 0 ≤ k + 1 := by omega
    have m1 : mulOk 48271 (k + 1) := mulOk_small' (by decide)
    have m2 : mulOk (b + 48271 * (k + 1)) (39373 + (k + 1)) := mulOk_small (by omega)
    obtain ⟨on, eon⟩ : ∃ on, on = (b + 48271 * (k + 1)) * (39373 + (k + 1)) % 2147483647 := ⟨_, rfl⟩
    have on0 : 0 ≤ on := by rw [eon]; exact Int.emod_nonneg _ (by decide)
    have on1 : on < 2147483647 := by rw [eon]; exact Int.emod_lt_of_pos _ (by decide)
    obtain ⟨wi, ewi⟩ : ∃ wi, wi = on % 40009 + 7 := ⟨_, rfl⟩
    have m3 : mulOk (on + (k + 1) + b / 1000003) wi := mulOk_small (by omega)
    obtain ⟨tw, etw⟩ : ∃ tw, tw = (on + (k + 1) + b / 1000003) * wi % 2147483629 := ⟨_, rfl⟩
    have m4 : mulOk tw 48271 := mulOk_small (by decide)
    have d1 : divOk 1000003 := divOk_small (by decide) (by decide)
    have d2 : divOk 64 := divOk_small (by decide) (by decide)
    refine ⟨(tw * 48271 + on) % 2147483587 / 64 % below, tinH a b (k + 1), ?_, Int.emod_nonneg _ (by omega), Int.emod_lt_of_pos _ h1, _, _, _, rfl, p1, p2, p3, by omega, by omega⟩
    simp [f__law_take, b__law_take, mDef_eq, mStart, t_ix, at3_0, at3_1, at3_2, ha, t_put, ix3_2, m1, m2, ← eon, ← ewi, d1, m3, ← etw, m4, d2, h1]
theorem tidy_tin {v : PV} {n m : Nat} {h h' : List MO} (T : Tin n h) (T' : Tin m h') (u : PV.under 0 v = true) : tidy h.length (.ok v h') = .ok v h' := by
  rw [T.len, ← T'.len]; exact tidy_same u
/-- as a call -/
theorem cv_take {n : Nat} {below : Int} {h : List MO} (T : Tin n h) (hn : n ≤ 1000000000000) (h1 : 0 < below) (h2 : below < 1000000000000000000000) : ∃ d h', tidy h.length (f__law_take [.ref 0, .int below] h) = .ok (.int d) h' ∧ 0 ≤ d ∧ d < below ∧ Tin (n + 1) h' := by
  obtain ⟨d, h', e, r⟩ := ev_take T hn h1 h2
  exact ⟨d, h', by rw [e]; exact tidy_tin T r.2.2 rfl, r⟩

/-! ### equal, and of the same kinds -/
mutual
/-- plain data -/
def PV.pl : Nat → PV → Bool
  | _, .non => true
  | _, .bl _ => true
  | _, .int _ => true
  | _, .str s => PyData.strOk s
  | n + 1, .tup xs => Nat.ble xs.length 1000000 && PV.pls n xs
  | n + 1, .lst xs => Nat.ble xs.length 1000000 && PV.pls n xs
  | _, _ => false
def PV.pls : Nat → List PV → Bool
  | _, [] => true
  | n, x :: xs => PV.pl n x && PV.pls n xs
end
theorem pls_mem {n : Nat} : ∀ {xs : List PV}, PV.pls n xs = true → ∀ x ∈ xs, PV.pl n x = true
  | [], _, _, z => nomatch z
  | y :: ys, h, x, hx => by
    have h' : PV.pl n y = true ∧ PV.pls n ys = true := by simpa [PV.pls] using h
    rcases List.mem_cons.mp hx with rfl | hx
    · exact h'.1
    · exact pls_mem h'.2 x hx
@[simp] theorem e_isiB {x : PV} {h : List MO} : fIsi [x, .tup [.ty "bool", .ty "str"]] h = match tyN x h with
    | some t => .ok (.bl (isTy t "bool" || isTy t "str")) h
    | none => .stuck := by
  cases e : tyN x h with
  | none => simp [fIsi, e]
  | some t => simp [fIsi, e, tysOf, tyC]
theorem depth_str (i : Str) : (PyData.str i).depth ≤ 64 := by unfold PyData.depth; omega
theorem e_eq_str {s : Str} {h : List MO} (hs : PyData.strOk s = true) : cEq (.str s) (.str s) h = .ok (.bl true) h := by
  simp [cEq, deref, PV.toD, dOk, PV.dat, depth_str, PyData.eqv, hs]
theorem ev_same : ∀ (d : Nat) (x : PV), PV.pl d x = true → Calls (f__law_same (d + 1)) [x, x] (.bl true) := by
  intro d
  induction d with
  | zero =>
    intro x hx
    refine calls_of rfl fun h c => ?_
    rw [show f__law_same (0 + 1) = mDef 4 (b__law_same (f__law_same 0)) from rfl]
    cases x with
    | non => simp [b__law_same, mDef_eq, mStart, isTy]
    | bl b => simp [b__law_same, mDef_eq, mStart, isTy, tyC]
    | int i => simp [b__law_same, mDef_eq, mStart, isTy, tyC]
    | str s => simp [b__law_same, mDef_eq, mStart, isTy, tyC, e_eq_str (show PyData.strOk s = true from by simpa [PV.pl] using hx)]
    | _ => simp [PV.pl] at hx
  | succ d ih =>
    intro x hx
    refine calls_of rfl fun h c => ?_
    rw [show f__law_same (d + 1 + 1) = mDef 4 (b__law_same (f__law_same (d + 1))) from rfl]
    have cc : ∀ (xs : List PV) (s : Sl) (it : List PV), (∃ u v y z, s = [u, v, y, z]) → PV.pls d xs = true → compL (mUnp 2 (mGCons (mName 2) (mGCons (mName 3) mGNil))) mYes (mCallF 2 (f__law_same (d + 1)) (mCons (mVar 2) (mCons (mVar 3) mNil))) [2, 3] (it, []) s (xs.map fun u => PV.tup [u, u]) h = .ok ((xs.map fun _ => true).map PV.bl) h := fun xs s it ⟨u, v, y, z, es⟩ hp => by
      subst es
      have q := compL_map (g := mUnp 2 (mGCons (mName 2) (mGCons (mName 3) mGNil))) (t := mYes) (e := mCallF 2 (f__law_same (d + 1)) (mCons (mVar 2) (mCons (mVar 3) mNil))) (vs := [2, 3]) (it := (it, [])) (s := [u, v, y, z]) (h := h) xs (fun u => PV.tup [u, u]) (fun _ => .bl true) rfl
        (fun w hw => ⟨[u, v, some w, some w], by simp, rfl, by simp [ih w (pls_mem hp w hw) h c]⟩)
      rw [q, List.map_map]; rfl
    have zs : ∀ xs : List PV, List.zipWith (fun u v => PV.tup [u, v]) xs xs = xs.map fun u => PV.tup [u, u] := fun xs => by
      induction xs with
      | nil => rfl
      | cons x xs ih => rw [List.zipWith_cons_cons, ih]; rfl
    have al : ∀ xs : List PV, ((xs.map fun _ => true).all id) = true := fun xs => by simp
    cases x with
    | non => simp [b__law_same, mDef_eq, mStart, isTy]
    | bl b => simp [b__law_same, mDef_eq, mStart, isTy, tyC]
    | int i => simp [b__law_same, mDef_eq, mStart, isTy, tyC]
    | str s => simp [b__law_same, mDef_eq, mStart, isTy, tyC, e_eq_str (show PyData.strOk s = true from by simpa [PV.pl] using hx)]
    | tup xs =>
      have hx' : Nat.ble xs.length 1000000 = true ∧ PV.pls d xs = true := by simpa [PV.pl] using hx
      have sz : xs.length < 16777216 := by have := Nat.le_of_ble_eq_true hx'.1; omega
      have q := fun s it => cc xs s it
      simp [b__law_same, mDef_eq, mStart, isTy, tyC, zs, sz]
      rw [cc xs _ _ ⟨_, _, _, _, rfl⟩ hx'.2]
      simp only [e_only, e_bind_ok, e_allL, al, e_xs_ok, e_sr_rt]
    | lst xs =>
      have hx' : Nat.ble xs.length 1000000 = true ∧ PV.pls d xs = true := by simpa [PV.pl] using hx
      have sz : xs.length < 16777216 := by have := Nat.le_of_ble_eq_true hx'.1; omega
      simp [b__law_same, mDef_eq, mStart, isTy, tyC, zs, sz]
      rw [cc xs _ _ ⟨_, _, _, _, rfl⟩ hx'.2]
      simp only [e_only, e_bind_ok, e_allL, al, e_xs_ok, e_sr_rt]
    | _ => simp [PV.pl] at hx
theorem pls_ints {n : Nat} : ∀ l : List Int, PV.pls n (l.map PV.int) = true
  | [] => by cases n <;> rfl
  | x :: l => by
    rw [List.map_cons]
    have : PV.pls n (.int x :: l.map PV.int) = (PV.pl n (.int x) && PV.pls n (l.map PV.int)) := by cases n <;> rfl
    rw [this, pls_ints l]
    cases n <;> rfl
theorem pl_ti {n : Nat} {l : List Int} (h : l.length ≤ 1000000) : PV.pl (n + 1) (ti l) = true := by
  show (Nat.ble (l.map PV.int).length 1000000 && PV.pls n (l.map PV.int)) = true
  rw [List.length_map, pls_ints, Nat.ble_eq_true_of_le h]; rfl

/-! ### lists in the place of tuples -/
theorem under_seq {v : PV} {l : List Int} (h : Seq v l) : PV.under 0 v = true := by rcases h with rfl | rfl <;> exact under_ints l
theorem ev_mixed_int (d : Nat) (x : Int) (h : List MO) : f__law_mixed (d + 1) [.ref 0, .int x] h = .ok (.int x) h := by
  rw [show f__law_mixed (d + 1) = mDef 4 (b__law_mixed (f__law_mixed d)) from rfl]
  simp [b__law_mixed, mDef_eq, mStart, isTy]
theorem ev_mixed {n d : Nat} {l : List Int} {h : List MO} (T : Tin n h) (hn : n ≤ 1000000000000) (hl : l.length ≤ 100000) : ∃ v h', f__law_mixed (d + 2) [.ref 0, ti l] h = .ok v h' ∧ Seq v l ∧ Tin (n + 1) h' := by
  obtain ⟨dr, h', e, d0, d1, T'⟩ := cv_take T hn (below := 2) (by decide) (by decide)
  rw [show f__law_mixed (d + 2) = mDef 4 (b__law_mixed (f__law_mixed (d + 1))) from rfl]
  have q := compL_map (g := mName 3) (t := mYes) (e := mCallF 2 (f__law_mixed (d + 1)) (mCons (mVar 0) (mCons (mVar 3) mNil))) (vs := [3]) (s := [some (.ref 0), some (ti l), none, none]) (h := h) (it := (l.map PV.int, [])) l PV.int PV.int rfl
    (fun x hx => ⟨[some (.ref 0), some (ti l), none, some (.int x)], by simp, rfl, by simp [ev_mixed_int]⟩)
  have sz : l.length < 16777216 := by omega
  by_cases z : dr = 0
  · subst z
    refine ⟨.lst (l.map PV.int), h', ?_, .inr rfl, T'⟩
    simp [b__law_mixed, mDef_eq, mStart, isTy, sz, q, e]
  · refine ⟨ti l, h', ?_, .inl rfl, T'⟩
    simp [b__law_mixed, mDef_eq, mStart, isTy, sz, q, e, z]
theorem cv_mixed {n d : Nat} {l : List Int} {h : List MO} (T : Tin n h) (hn : n ≤ 1000000000000) (hl : l.length ≤ 100000) : ∃ v h', tidy h.length (f__law_mixed (d + 2) [.ref 0, ti l] h) = .ok v h' ∧ Seq v l ∧ Tin (n + 1) h' := by
  obtain ⟨v, h', e, s, T'⟩ := ev_mixed (d := d) T hn hl
  exact ⟨v, h', by rw [e]; exact tidy_tin T T' (under_seq s), s, T'⟩

/-! ### the script's numbers -/
theorem cut_both {xs : List PV} {a b : Nat} : ∃ ys, cutL xs (some (a : Int)) (some (b : Int)) = ys ∧ ys.length ≤ xs.length - a ∧ ys.length ≤ b ∧ ∀ y ∈ ys, y ∈ xs := by
  refine ⟨_, rfl, ?_, ?_, fun y hy => ?_⟩
  · unfold cutL
    rw [HT.sIx_nat, HT.sIx_nat, List.length_take, List.length_drop]; omega
  · unfold cutL
    rw [HT.sIx_nat, HT.sIx_nat, List.length_take, List.length_drop]; omega
  · unfold cutL at hy
    exact List.mem_of_mem_drop (List.mem_of_mem_take hy)
theorem ints_of {xs : List PV} {ns : List Int} (h : ∀ y ∈ xs, y ∈ ns.map PV.int) : ∃ ms : List Int, xs = ms.map PV.int := by
  induction xs with
  | nil => exact ⟨[], rfl⟩
  | cons x xs ih =>
    obtain ⟨ms, e⟩ := ih fun y hy => h y (List.mem_cons_of_mem _ hy)
    obtain ⟨m, _, em⟩ := List.mem_map.mp (h x List.mem_cons_self)
    exact ⟨m :: ms, by rw [e, ← em]; rfl⟩
/-- the first numbers with the later ones added: as many as asked, if there are so many; else all, or a zero -/
theorem ev_cells {ns : List Int} {most : Nat} (h1 : 1 ≤ most) (h2 : most ≤ 63) : ∃ cs : List Int, tidy 0 (f__law_cells [.frz (ns.map PV.int), .int most] []) = .ok (.lst (cs.map PV.int)) [] ∧ 0 < cs.length ∧ cs.length ≤ most := by
  suffices key : ∃ (cs : List Int) (g : List MO), 0 < cs.length ∧ cs.length ≤ most ∧ (f__law_cells [.frz (ns.map PV.int), .int most] [] = .ok (.ref 0) (.lst (cs.map PV.int) :: g) ∨ ∃ o, f__law_cells [.frz (ns.map PV.int), .int most] [] = .ok (.ref 1) (o :: .lst (cs.map PV.int) :: g)) by
    obtain ⟨cs, g, l0, l1, e⟩ := key
    refine ⟨cs, ?_, l0, l1⟩
    rcases e with e | ⟨o, e⟩ <;> rw [e]
    · unfold tidy
      simp [closed, thaw, Nat.blt]
    · unfold tidy
      simp [closed, thaw, Nat.blt]
  obtain ⟨ys, ey, yl, y63, ym⟩ := cut_both (xs := ns.map PV.int) (a := most) (b := 63)
  have ey' : cutL (ns.map PV.int) (some (most : Int)) (some 63) = ys := ey
  obtain ⟨ms, rfl⟩ := ints_of ym
  have m0 : (0 : Int) < most := by omega
  by_cases hns : ns = []
  · subst hns
    have : ms = [] := by
      simp at yl
      exact yl
    subst this
    refine ⟨[0], [], by decide, h1, .inr ⟨.lst [], ?_⟩⟩
    simp only [List.map_nil] at ey'
    simp [f__law_cells, b__law_cells, mDef_eq, mStart, ey', enumP, forL, grdOk, truth]
  · have l0 : 0 < (ns.take most).length := by
      rw [List.length_take]
      have : 0 < ns.length := List.length_pos_iff.mpr hns
      omega
    obtain ⟨s', h', e, ⟨x3, x4, x5, es⟩, F, eh, hl⟩ := forL_inv (g := mUnp 2 (mGCons (mName 3) (mGCons (mName 4) mGNil))) (b := mSeq (mAsg (mOp bMod (mCall fInt (mCons (mVar 3) mNil)) (mVar 1)) (mName 5))
  (mAsg (mOp bAdd (mOp pIx (mVar 2) (mVar 5)) (mOp (bMulS false) (mVar 4) (mOp bAdd (mVar 3) (mC (.int 2))))) (mPut (mVar 2) (mVar 5)))) (it := (enumP 0 (ms.map PV.int), [])) rfl (fun (i : Nat) => PV.tup [.int (i : Nat), .int (ms.getD i 0)])
      (fun d s hp => (∃ x y z, s = [some (.frz (ns.map PV.int)), some (.int most), some (.ref 0), x, y, z]) ∧ ∃ F : List Int, hp = [] ++ [.lst (F.map PV.int)] ∧ F.length = (ns.take most).length) [] (List.range ms.length)
      [some (.frz (ns.map PV.int)), some (.int most), some (.ref 0), none, none, none] ([] ++ [.lst ((ns.take most).map PV.int)]) ⟨⟨_, _, _, rfl⟩, _, rfl, rfl⟩
      (fun d a r s hp er ⟨⟨x, y, z, es⟩, F, eh, hl⟩ => by
        rw [List.nil_append] at er
        obtain ⟨ea, lt, ed⟩ := range_split er
        subst es eh ea
        have full : (ns.take most).length = most := by
          rw [List.length_map] at yl
          rw [List.length_take]
          rw [List.length_map] at yl
          omega
        have hk : d.length % most < F.length := by rw [hl, full]; exact Nat.mod_lt _ (by omega)
        refine ⟨[some (.frz (ns.map PV.int)), some (.int most), some (.ref 0), some (.int d.length), some (.int (ms.getD d.length 0)), z], [] ++ [.lst (F.map PV.int)],
          [some (.frz (ns.map PV.int)), some (.int most), some (.ref 0), some (.int d.length), some (.int (ms.getD d.length 0)), some (.int ((d.length % most : Nat) : Int))],
          [] ++ [.lst ((F.set (d.length % most) (F.getD (d.length % most) 0 + ms.getD d.length 0 * ((d.length : Int) + 2))).map PV.int)], by simp, .inl ?_, ⟨_, _, _, rfl⟩, _, rfl, by rw [List.length_set]; exact hl⟩
        have e5 : ((d.length : Int) % (most : Int)) = ((d.length % most : Nat) : Int) := (Int.natCast_emod _ _)
        have g1 := l_ix (h := []) (xs := F.map PV.int) (i := ((d.length % most : Nat) : Int))
        rw [Mir.atI_nat, getD_int hk, ← e5] at g1
        have g2 := l_put (h := []) (xs := F.map PV.int) (i := ((d.length % most : Nat) : Int)) (v := .int (F.getD (d.length % most) 0 + ms.getD d.length 0 * ((d.length : Int) + 2)))
        rw [ixN_nat (by rw [List.length_map]; exact hk), ← e5] at g2
        have dl : (d.length : Int) < 18446744073709551000 := by
          rw [List.length_map] at y63
          omega
        have m1 : mulOk (ms.getD d.length 0) ((d.length : Int) + 2) := mulOk_small (by omega)
        simp only [List.getD_eq_getElem?_getD, List.nil_append, List.length_nil] at m1 g1 g2
        simp [show 0 < most by omega, g1, m1, g2])
    have en := enum_ints ms
    rw [← en] at e
    subst es eh
    refine ⟨F, [], by omega, by rw [hl, List.length_take]; omega, .inl ?_⟩
    have ne : ¬ (List.take most (ns.map PV.int)) = [] := by
      rw [← List.map_take]
      intro z
      have := congrArg List.length z
      rw [List.length_map] at this
      simp only [List.length_nil] at this
      omega
    have tr : truth (.ref 0) [MO.lst (List.take most (ns.map PV.int))] = .ok true [MO.lst (List.take most (ns.map PV.int))] := by
      unfold truth
      simp [ne]
    simp only [List.nil_append, List.map_take] at e
    simp [f__law_cells, b__law_cells, mDef_eq, mStart, tr, ey', e]
end MirP

set_option Elab.async false
set_option linter.all false
set_option maxRecDepth 100000
namespace MirP
open PySem L2 Mir MirM

theorem rowf_of_lt {l : List Int} {i : Nat} (h : i < l.length) : l.getD i 0 = rowf l i := (rowf_lt h).symm
theorem zipI_range {n : Nat} (f : Int → Int → Int) (g k : Nat → Int) : zipI f ((List.range n).map g) ((List.range n).map k) = (List.range n).map fun i => f (g i) (k i) := by
  unfold zipI
  rw [List.zip_map', List.map_map]; rfl
theorem as_range (l : List Int) {n : Nat} (h : l.length = n) : l = (List.range n).map (rowf l) := by subst h; exact (list_rowf l).symm
theorem rot_range (l : List Int) {k : Nat} (hk : k ≤ l.length) : l.drop k ++ l.take k = (List.range l.length).map fun i => rowf l (k + i) := by
  refine List.ext_getElem? fun i => ?_
  rw [List.getElem?_map]
  by_cases h : i < l.length
  · rw [List.getElem?_range h, Option.map_some]
    by_cases h2 : i < l.length - k
    · rw [List.getElem?_append_left (by rw [List.length_drop]; exact h2), List.getElem?_drop, rowf_lt (by omega), List.getD_eq_getElem?_getD, List.getElem?_eq_getElem (by omega)]; rfl
    · rw [List.getElem?_append_right (by rw [List.length_drop]; omega), List.length_drop, List.getElem?_take_of_lt (by omega), List.getElem?_eq_getElem (by omega)]
      congr 1
      unfold rowf
      have e : (k + i) % l.length = i - (l.length - k) := by
        rw [show k + i = l.length + (i - (l.length - k)) by omega, Nat.add_mod_left, Nat.mod_eq_of_lt (by omega)]
      rw [e, List.getD_eq_getElem?_getD, List.getElem?_eq_getElem (by omega)]; rfl
  · rw [List.getElem?_eq_none (by rw [List.length_append, List.length_drop, List.length_take]; omega), List.getElem?_eq_none (by rw [List.length_range]; omega)]; rfl
theorem zip_rot (f : Int → Int → Int) {l : List Int} (h : 0 < l.length) : zipI f l (rot1 l) = (List.range l.length).map fun i => f (rowf l i) (rowf l (i + 1)) := by
  unfold rot1
  rw [rot_range l (k := 1) h]
  conv => lhs; rw [show l = (List.range l.length).map (rowf l) from as_range l rfl]
  simp only [List.length_map, List.length_range]
  have e : ∀ i, rowf ((List.range l.length).map (rowf l)) i = rowf l i := fun i => by rw [list_rowf]
  rw [zipI_range]
  refine range_map_ext fun i _ => ?_
  rw [e, Nat.add_comm 1 i]
theorem zip_rows (f : Int → Int → Int) {a b : List Int} (h : a.length = b.length) : zipI f a b = (List.range a.length).map fun i => f (rowf a i) (rowf b i) := by
  conv => lhs; rw [as_range a rfl, as_range b h.symm]
  exact zipI_range f _ _
theorem sstep_far {l : List Int} (h : 0 < l.length) : sstep l = sfarL 1 l := by
  unfold sstep sfarL
  rw [zip_rot _ h]
  refine range_map_ext fun i _ => ?_
  show rowf l (i + 1) - rowf l i = rowf l (i + 1) + -1 * rowf l i
  omega
theorem mstep_far {m : Int} {l : List Int} (h : 0 < l.length) : mstep m l = farL m 1 l := by
  unfold mstep farL
  rw [zip_rot _ h]
  refine range_map_ext fun i _ => ?_
  show (rowf l i + rowf l (i + 1)) % m = (rowf l (i + 1) + 1 * rowf l i) % m
  rw [Int.one_mul, Int.add_comm]
def altL (l : List Int) : List Int := (List.range l.length).map fun i => l.getD i 0 * sg i
theorem alt_len (l : List Int) : (altL l).length = l.length := by simp [altL]
theorem sfar_len (t : Nat) (l : List Int) : (sfarL t l).length = l.length := by simp [sfarL]
theorem far_len (m : Int) (t : Nat) (l : List Int) : (farL m t l).length = l.length := by simp [farL]
theorem sg_mod {n : Nat} (h : n % 2 = 0) (i : Nat) : sg (i % n) = sg i := by
  unfold sg
  have : (i % n) % 2 = i % 2 := by
    rw [Nat.mod_mod_of_dvd _ (Nat.dvd_of_mod_eq_zero h)]
  omega
theorem rowf_alt {l : List Int} (h0 : 0 < l.length) (h : l.length % 2 = 0) (i : Nat) : rowf (altL l) i = rowf l i * sg i := by
  have hl : i % l.length < l.length := Nat.mod_lt _ h0
  unfold rowf
  rw [alt_len]
  unfold altL
  rw [List.getD_eq_getElem?_getD, List.getElem?_map, List.getElem?_range hl]
  show l.getD (i % l.length) 0 * sg (i % l.length) = _
  rw [sg_mod h]
theorem rowf_modm {l : List Int} {m : Int} (i : Nat) : cg m (rowf (l.map (· % m)) i) (rowf l i) := by
  unfold rowf
  rw [List.length_map]
  by_cases hl : i % l.length < l.length
  · rw [List.getD_eq_getElem?_getD, List.getElem?_map, List.getElem?_eq_getElem hl, List.getD_eq_getElem?_getD, List.getElem?_eq_getElem hl]
    exact cg_mod
  · rw [List.getD_eq_getElem?_getD, List.getElem?_eq_none (by rw [List.length_map]; omega), List.getD_eq_getElem?_getD, List.getElem?_eq_none (by omega)]
    exact .refl
theorem rowf_sfar {l : List Int} (h0 : 0 < l.length) (t i : Nat) : rowf (sfarL t l) i = nbs (-1) t (rowf l) i := rowf_map (nbs_per (rowf_per l) t) h0 i
/-- signs turned at each second place -/
theorem far_turned {m : Int} {l : List Int} (h0 : 0 < l.length) (h : l.length % 2 = 0) (t : Nat) : farL m t ((altL l).map (· % m)) = (altL (sfarL t l)).map (fun x => sg t * x % m) := by
  have e0 : (altL (sfarL t l)).map (fun x => sg t * x % m) = (List.range l.length).map fun i => sg t * ((sfarL t l).getD i 0 * sg i) % m := by
    unfold altL
    rw [List.map_map, sfar_len]; rfl
  rw [e0]
  unfold farL
  rw [List.length_map, alt_len]
  refine range_map_ext fun p hp => ?_
  have e := (turn_sums (m := m) (r := rowf l) (s := rowf ((altL l).map (· % m))) (fun i => (rowf_modm i).trans (by rw [rowf_alt h0 h, Int.mul_comm]; exact .refl)) t p).eq
  show nbs 1 t (rowf ((altL l).map (· % m))) p % m = sg t * ((sfarL t l).getD p 0 * sg p) % m
  rw [e, rowf_of_lt (by rw [sfar_len]; exact hp), rowf_sfar h0, Int.mul_comm (nbs _ _ _ _)]
theorem step_turned {m : Int} {l : List Int} (h0 : 0 < l.length) (h : l.length % 2 = 0) : mstep m ((altL l).map (· % m)) = (altL (sstep l)).map (fun x => -x % m) := by
  rw [mstep_far (by rw [List.length_map, alt_len]; exact h0), far_turned h0 h, sstep_far h0]
  refine List.map_congr_left fun x _ => ?_
  show sg 1 * x % m = -x % m
  rw [show sg 1 = -1 from rfl]; congr 1; omega
theorem zipI_len (f : Int → Int → Int) {a b : List Int} (h : a.length = b.length) : (zipI f a b).length = a.length := by rw [zip_rows f h]; simp
theorem rowf_zip (f : Int → Int → Int) {a b : List Int} (h0 : 0 < a.length) (h : a.length = b.length) (i : Nat) : rowf (zipI f a b) i = f (rowf a i) (rowf b i) := by
  rw [zip_rows f h]
  exact rowf_map (fun i => by rw [rowf_per a, h, rowf_per b]) h0 i
theorem far_linear (a b : Int) {r s : List Int} (h0 : 0 < r.length) (h : r.length = s.length) (t : Nat) : sfarL t (zipI (fun x y => a * x + b * y) r s) = zipI (fun x y => a * x + b * y) (sfarL t r) (sfarL t s) := by
  rw [zip_rows (a := sfarL t r) (b := sfarL t s) _ (by rw [sfar_len, sfar_len, h]), sfar_len]
  unfold sfarL
  rw [zipI_len _ h]
  refine range_map_ext fun i hi => ?_
  rw [nbs_congr (fun j => rowf_zip _ h0 h j), nbs_lin]
  have e1 := rowf_sfar h0 t i
  have e2 := rowf_sfar (l := s) (by omega) t i
  unfold sfarL at e1 e2
  rw [e1, e2]
theorem far_shares {l : List Int} (h0 : 0 < l.length) (t : Nat) : (List.range l.length).map (fun k => (zipI (· * ·) (shareL (-1) l.length t) (l.drop k ++ l.take k)).sum) = sfarL t l := by
  unfold sfarL
  refine range_map_ext fun k hk => ?_
  rw [rot_range l (by omega), ← act_shareL h0 (rowf_per l) t k]
  unfold act
  rw [shareL_len]
  conv => lhs; rw [as_range (shareL (-1) l.length t) (shareL_len _ _ _)]
  rw [zipI_range, sum_range]
  exact sm_congr fun j hj => by rw [rowf_of_lt (by rw [shareL_len]; exact hj)]
theorem far_far {l : List Int} (h0 : 0 < l.length) {f t : Nat} (h : f ≤ t) : sfarL (t - f) (sfarL f l) = sfarL t l := by
  have e : sfarL (t - f) (sfarL f l) = (List.range l.length).map (nbs (-1) (t - f) (rowf (sfarL f l))) := by
    have : sfarL (t - f) (sfarL f l) = (List.range (sfarL f l).length).map (nbs (-1) (t - f) (rowf (sfarL f l))) := rfl
    rw [this, sfar_len]
  rw [e]
  refine range_map_ext fun i _ => ?_
  rw [nbs_congr (fun j => rowf_sfar h0 f j), ← nbs_add, Nat.sub_add_cancel h]
theorem abs_sub (a b : Int) : absI (b - a) = absI (a - b) := by unfold absI; split <;> split <;> omega
theorem bare_step {l : List Int} (h0 : 0 < l.length) : (sstep l).map absI = dstep l := by
  unfold sstep dstep
  rw [zip_rot _ h0, zip_rot _ h0, List.map_map]
  exact range_map_ext fun i _ => abs_sub _ _
theorem far_sum {l : List Int} (h0 : 0 < l.length) (t : Nat) : (sfarL (t + 1) l).sum = 0 := by
  unfold sfarL
  rw [sum_range]
  exact sum_round (nbs_per (rowf_per l) t)
theorem sum_far0 {l : List Int} (h0 : 0 < l.length) (t : Nat) : t = 0 ∨ (sfarL t l).sum = 0 := by
  cases t with
  | zero => exact .inl rfl
  | succ t => exact .inr (far_sum h0 t)
theorem rowf_bound {l : List Int} {A B : Int} (h0 : 0 < l.length) (h : ∀ x ∈ l, A ≤ x ∧ x ≤ B) (i : Nat) : A ≤ rowf l i ∧ rowf l i ≤ B := by
  unfold rowf
  have hl : i % l.length < l.length := Nat.mod_lt _ h0
  rw [List.getD_eq_getElem?_getD, List.getElem?_eq_getElem hl]
  exact h _ (List.getElem_mem hl)
theorem mul_bound {a x A B : Int} (h1 : -A ≤ a) (h2 : a ≤ A) (h3 : -B ≤ x) (h4 : x ≤ B) : -(A * B) ≤ a * x ∧ a * x ≤ A * B := by
  have hA : 0 ≤ A := by omega
  have hB : 0 ≤ B := by omega
  have e : (a * x).natAbs ≤ (A * B).natAbs := by
    rw [Int.natAbs_mul, Int.natAbs_mul]
    exact Nat.mul_le_mul (by omega) (by omega)
  have : 0 ≤ A * B := Int.mul_nonneg hA hB
  omega
theorem maxI_le {l : List Int} {B : Int} (h : maxI (l.map absI) ≤ B) : ∀ x ∈ l, -B ≤ x ∧ x ≤ B := by
  intro x hx
  have hne : l.map absI ≠ [] := by intro e; rw [List.map_eq_nil_iff] at e; rw [e] at hx; cases hx
  have := (maxI_mem hne).2 (absI x) (List.mem_map_of_mem hx)
  have h2 : x ≤ absI x ∧ -x ≤ absI x := by unfold absI; split <;> omega
  omega
end MirP

set_option Elab.async false
set_option linter.all false
set_option maxRecDepth 100000
set_option maxHeartbeats 2000000
namespace MirP
open PySem L2 Mir MirM
theorem pls_of {n : Nat} : ∀ {xs : List PV}, (∀ x ∈ xs, PV.pl n x = true) → PV.pls n xs = true
  | [], _ => by cases n <;> rfl
  | x :: xs, h => by
    have e : PV.pls n (x :: xs) = (PV.pl n x && PV.pls n xs) := by cases n <;> rfl
    rw [e, h x List.mem_cons_self, pls_of fun y hy => h y (List.mem_cons_of_mem _ hy)]; rfl
theorem pl_lst {n : Nat} {xs : List PV} (hl : xs.length ≤ 1000000) (h : ∀ x ∈ xs, PV.pl n x = true) : PV.pl (n + 1) (.lst xs) = true := by
  show (Nat.ble xs.length 1000000 && PV.pls n xs) = true
  rw [Nat.ble_eq_true_of_le hl, pls_of h]; rfl
theorem pl_tup {n : Nat} {xs : List PV} (hl : xs.length ≤ 1000000) (h : ∀ x ∈ xs, PV.pl n x = true) : PV.pl (n + 1) (.tup xs) = true := by
  show (Nat.ble xs.length 1000000 && PV.pls n xs) = true
  rw [Nat.ble_eq_true_of_le hl, pls_of h]; rfl
theorem seq_nx {a b : SM} {s s1 : Sl} {h h1 : List MO} {r : SR} (e : a s h = .nx s1 h1) (k : b s1 h1 = r) : mSeq a b s h = r := by rw [e_mSeq, e]; exact k
theorem seq_go {a b : SM} {s s1 : Sl} {h h1 : List MO} {P : List MO → Prop} (e : a s h = .nx s1 h1) (k : ∃ hE, b s1 h1 = .rt (.bl true) hE ∧ P hE) : ∃ hE, mSeq a b s h = .rt (.bl true) hE ∧ P hE := by rw [e_mSeq, e]; exact k
theorem compL_two {g : TM} {t : ET} {e : E} {vs : List Nat} {s s1 s2 : Sl} {h h' h'' : List MO} {it : Its_} {x x' y y' : PV} (hg : it.2 = []) (h1 : g x (wipeP s vs) h = .ok s1 h) (h2 : t s1 h = .ok true h) (h3 : e s1 h = .ok y h')
    (k1 : g x' (wipeP s vs) h' = .ok s2 h') (k2 : t s2 h' = .ok true h') (k3 : e s2 h' = .ok y' h'') : compL g t e vs it s [x, x'] h = .ok [y, y'] h'' := by
  unfold compL
  rw [if_pos (by rw [hg]; rfl), h1]
  dsimp only
  rw [h2]
  dsimp only
  rw [if_pos rfl, h3]
  dsimp only
  unfold compL
  rw [if_pos (by rw [hg]; rfl), k1]
  dsimp only
  rw [k2]
  dsimp only
  rw [if_pos rfl, k3]
  dsimp only
  unfold compL
  rw [if_pos (by rw [hg]; rfl)]
  rfl
theorem comp_ints {g : TM} {t : ET} {e : E} {vs : List Nat} {s : Sl} {h : List MO} {it : Its_} (l : List Int) (f : Int → Int) (hg : it.2 = []) (hx : ∀ x ∈ l, ∃ s1, g (.int x) (wipeP s vs) h = .ok s1 h ∧ t s1 h = .ok true h ∧ e s1 h = .ok (.int (f x)) h) :
    compL g t e vs it s (l.map PV.int) h = .ok ((l.map f).map PV.int) h := by
  have q := compL_map (g := g) (t := t) (e := e) (vs := vs) (s := s) (h := h) (it := it) l PV.int (fun x => .int (f x)) (by rw [hg]; rfl) hx
  rw [q, List.map_map]; rfl
theorem comp_zips {g : TM} {t : ET} {e : E} {vs : List Nat} {s : Sl} {h : List MO} {it : Its_} (a b : List Int) (f : Int → Int → Int) (hg : it.2 = [])
    (hx : ∀ p ∈ List.zip a b, ∃ s1, g (.tup [.int p.1, .int p.2]) (wipeP s vs) h = .ok s1 h ∧ t s1 h = .ok true h ∧ e s1 h = .ok (.int (f p.1 p.2)) h) : compL g t e vs it s (List.zipWith (fun u v => PV.tup [.int u, .int v]) a b) h = .ok ((zipI f a b).map PV.int) h :=
  comp_zip a b f (by rw [hg]; rfl) hx
theorem comp_rng {g : TM} {t : ET} {e : E} {vs : List Nat} {s : Sl} {h : List MO} {it : Its_} (n : Nat) (f : Nat → Int) (hg : it.2 = []) (hx : ∀ k, k < n → ∃ s1, g (.int (k : Nat)) (wipeP s vs) h = .ok s1 h ∧ t s1 h = .ok true h ∧ e s1 h = .ok (.int (f k)) h) :
    compL g t e vs it s (rangeP 0 n) h = .ok (((List.range n).map f).map PV.int) h := by
  have q := compL_map (g := g) (t := t) (e := e) (vs := vs) (s := s) (h := h) (it := it) (List.range n) (fun (k : Nat) => PV.int (0 + (k : Int))) (fun k => .int (f k)) (by rw [hg]; rfl) (fun k hk => by rw [Int.zero_add]; exact hx k (List.mem_range.mp hk))
  rw [rangeP_eq, q, List.map_map]; rfl
theorem compL_ix {α : Type} {g : TM} {t : ET} {e : E} {vs : List Nat} {s : Sl} {it : Its_} (c : α → PV) (I : Nat → List MO → Prop) (Q : PV → Prop) (hg : it.2 = []) : ∀ (l : List α) (k : Nat),
    (∀ a ∈ l, ∀ j h, k ≤ j → j < k + l.length → I j h → ∃ s1 y h', g (c a) (wipeP s vs) h = .ok s1 h ∧ t s1 h = .ok true h ∧ e s1 h = .ok y h' ∧ I (j + 1) h' ∧ Q y) →
    ∀ h, I k h → ∃ ys h', compL g t e vs it s (l.map c) h = .ok ys h' ∧ I (k + l.length) h' ∧ ys.length = l.length ∧ ∀ y ∈ ys, Q y
  | [], k, _, h, i => ⟨[], h, by simp [compL, hg, grdOk], i, rfl, fun _ z => nomatch z⟩
  | a :: l, k, hx, h, i => by
    obtain ⟨s1, y, h', h1, h2, h3, i2, q⟩ := hx a List.mem_cons_self k h (Nat.le_refl _) (by simp) i
    obtain ⟨ys, h'', e2, i3, len, qs⟩ := compL_ix c I Q hg l (k + 1) (fun b hb j h a1 a2 => hx b (List.mem_cons_of_mem _ hb) j h (by omega) (by rw [List.length_cons]; omega)) h' i2
    refine ⟨y :: ys, h'', ?_, ?_, by simp [len], fun z hz => ?_⟩
    · rw [List.map_cons]
      unfold compL
      rw [if_pos (by rw [hg]; rfl), h1]
      dsimp only
      rw [h2]
      dsimp only
      rw [if_pos rfl, h3]
      dsimp only
      rw [e2]
      rfl
    · rw [List.length_cons, show k + (l.length + 1) = k + 1 + l.length by omega]; exact i3
    · rcases List.mem_cons.mp hz with rfl | hz
      · exact q
      · exact qs z hz
theorem pv_ints : ∀ {ys : List PV}, (∀ y ∈ ys, ∃ x : Int, y = .int x ∧ -1000 ≤ x ∧ x ≤ 1000) → ∃ l : List Int, ys = l.map PV.int ∧ ∀ x ∈ l, -1000 ≤ x ∧ x ≤ 1000
  | [], _ => ⟨[], rfl, fun _ z => nomatch z⟩
  | y :: ys, h => by
    obtain ⟨x, rfl, h1⟩ := h y List.mem_cons_self
    obtain ⟨l, rfl, h2⟩ := pv_ints fun z hz => h z (List.mem_cons_of_mem _ hz)
    exact ⟨x :: l, rfl, fun z hz => (List.mem_cons.mp hz).elim (fun e => e ▸ h1) (h2 z)⟩
theorem draws_row {N n : Nat} {h : List MO} {s : Sl} {it : Its_} (T : Tin N h) (hN : N + n ≤ 1000000000000) (hg : it.2 = []) (hs : ∀ x, ((wipeP s [19]).set 19 x)[0]? = some (some (.ref 0))) :
    ∃ (l : List Int) (h' : List MO), compL (mName 19) mYes (mOp bSub (mCallF 2 f__law_take (mCons (mVar 0) (mCons (mC (.int 2001)) mNil))) (mC (.int 1000))) [19] it s (rangeP 0 n) h = .ok (l.map PV.int) h' ∧ l.length = n ∧ (∀ x ∈ l, -1000 ≤ x ∧ x ≤ 1000) ∧ Tin (N + n) h' := by
  obtain ⟨ys, h', e, T', len, q⟩ := compL_ix (g := mName 19) (t := mYes) (e := mOp bSub (mCallF 2 f__law_take (mCons (mVar 0) (mCons (mC (.int 2001)) mNil))) (mC (.int 1000))) (vs := [19]) (s := s) (it := it) (fun (k : Nat) => PV.int (0 + (k : Int)))
    (fun j h => Tin j h) (fun y => ∃ x : Int, y = .int x ∧ -1000 ≤ x ∧ x ≤ 1000) hg (List.range n) N (fun a ha j h j1 j2 T => by
      rw [List.length_range] at j2
      obtain ⟨d, h', e, d0, d1, T'⟩ := cv_take T (by omega) (below := 2001) (by decide) (by decide)
      exact ⟨_, .int (d - 1000), h', rfl, rfl, by simp only [e_mOp, e_mCallF, e_mCons, e_mVar, hs, e_bind_ok, e_mC, e_mNil]; simp [e], T', _, rfl, by omega, by omega⟩) h T
  obtain ⟨l, rfl, hb⟩ := pv_ints q
  rw [List.length_range] at T'
  exact ⟨l, h', e, by simpa using len, hb, T'⟩
theorem ev_alt {l : List Int} (hl : l.length ≤ 1000) : Calls f__law_alt [ti l] (ti (altL l)) := by
  refine calls_of (under_tint _) fun h c => ?_
  have q := compL_map (g := mUnp 2 (mGCons (mName 1) (mGCons (mName 2) mGNil))) (t := mYes) (e := mOp (bMulS false) (mVar 2) (mOp bSub (mC (.int 1)) (mOp (bMulS false) (mC (.int 2)) (mOp bMod (mVar 1) (mC (.int 2)))))) (vs := [1, 2]) (s := [some (ti l), none, none]) (h := h) (it := (enumP 0 (l.map PV.int), []))
    (List.range l.length) (fun (i : Nat) => PV.tup [.int (i : Nat), .int (l.getD i 0)]) (fun i => .int (l.getD i 0 * sg i)) rfl (fun i hi => ⟨[some (ti l), some (.int (i : Nat)), some (.int (l.getD i 0))], by simp, rfl, by
      have m1 : mulOk 2 ((i : Int) % 2) := mulOk_small (by omega)
      have m2 : mulOk (l.getD i 0) (1 - 2 * ((i : Int) % 2)) := mulOk_small (by omega)
      simp only [List.getD_eq_getElem?_getD] at m2
      simp [m1, m2, sg]⟩)
  rw [← enum_ints] at q
  have e2 : (List.range l.length).map (fun i => PV.int (l.getD i 0 * sg i)) = (altL l).map PV.int := by unfold altL; rw [List.map_map]; rfl
  rw [e2] at q
  have sz : l.length < 16777216 := by omega
  simp [f__law_alt, b__law_alt, mDef_eq, mStart, enumP_len, sz, q]

theorem ev_right {N : Nat} {h0 : List MO} (T : Tin N h0) (hN : N ≤ 1000000) : ∃ h', f__law_right_k61 [.ref 0] h0 = .ok (.bl true) h' ∧ Tin (N + 100) h' := by
  obtain ⟨d1, h1, e1, a1, b1, T1⟩ := cv_take T (by omega) (below := 8) (by decide) (by decide)
  obtain ⟨n, hn⟩ : ∃ n : Nat, 2 * (1 + d1) = (n : Int) := ⟨(2 * (1 + d1)).toNat, by omega⟩
  obtain ⟨d2, h2, e2, a2, b2, T2⟩ := cv_take T1 (by omega) (below := 59) (by decide) (by decide)
  obtain ⟨m, hm⟩ : ∃ m : Int, 2 + d2 = m := ⟨_, rfl⟩
  obtain ⟨d3, h3, e3, a3, b3, T3⟩ := cv_take T2 (by omega) (below := 201) (by decide) (by decide)
  obtain ⟨t, rfl⟩ : ∃ t : Nat, d3 = (t : Int) := ⟨d3.toNat, by omega⟩
  obtain ⟨row, h4, e4, rl, rb, T4⟩ := draws_row (n := n) (s := (([some (.ref 0), some (.int n), none, none, none, none, none, none, none, none, none, some (.int m), some (.int t), none, none, none, none, none, none, none, none, none] : Sl).set 17 none).set 17 (some (.int 0))) (it := (rangeP 0 n, [])) T3 (by omega) rfl (fun _ => rfl)
  obtain ⟨other, h5, e5, ol, ob, T5⟩ := draws_row (n := n) (s := (([some (.ref 0), some (.int n), none, none, none, none, none, none, none, none, none, some (.int m), some (.int t), none, none, none, none, none, none, none, none, none] : Sl).set 17 none).set 17 (some (.int 1))) (it := (rangeP 0 n, [])) T4 (by omega) rfl (fun _ => rfl)
  have n0 : 0 < row.length := by omega
  have n16 : row.length ≤ 16 := by omega
  have n2 : 2 ≤ row.length := by omega
  have ev2 : row.length % 2 = 0 := by omega
  have m2 : 2 ≤ m := by omega
  have m60 : m ≤ 60 := by omega
  have sr : SignedR row := ⟨n2, n16, fun x hx => by have := rb x hx; omega⟩
  have so : SignedR other := ⟨by omega, by omega, fun x hx => by have := ob x hx; omega⟩
  have r1 : -(2 : Int) ^ 62 ≤ (n : Int) := by omega
  have r2 : (n : Int) < 2 ^ 62 := by omega
  obtain ⟨v6, h6, e6, s6, T6⟩ := cv_mixed (d := 4) (l := row) T5 (by omega) (by omega)
  have f6 := ev_signed_far s6 sr (show t ≤ 200 by omega) h6 T6.closed
  obtain ⟨rests, hrests⟩ : ∃ r, r = (altL row).map (· % m) := ⟨_, rfl⟩
  have rr : RestsR rests m := by
    rw [hrests]
    refine ⟨by rw [List.length_map, alt_len]; exact n2, by rw [List.length_map, alt_len]; exact n16, fun x hx => ?_⟩
    obtain ⟨y, _, rfl⟩ := List.mem_map.mp hx
    have := Int.emod_nonneg y (show m ≠ 0 by omega)
    have := Int.emod_lt_of_pos y (show 0 < m by omega)
    omega
  have al6 := ev_alt (l := row) (by omega) h6 T6.closed
  have m2t : mulOk 2 ((t : Int) % 2) := mulOk_small (by omega)
  obtain ⟨v7, h7, e7, s7, T7⟩ := cv_mixed (d := 4) (l := rests) T6 (by omega) (by have := rr.2.1; omega)
  have f7 := ev_mod_far (t := t) s7 m2 m60 rr (by omega) h7 T7.closed
  obtain ⟨far, hfar⟩ : ∃ f, f = sfarL t row := ⟨_, rfl⟩
  have fl : far.length = row.length := by rw [hfar, sfar_len]
  have al7 := ev_alt (l := far) (by omega) h7 T7.closed

  have sz : n < 16777216 := by omega
  have rlen : (rangeP 0 n).length = n := by simp [rangeP_eq]
  have lr : row.length = n := rl
  have lo : other.length = n := ol
  simp at e4 e5
  suffices key : ∃ hE, b__law_right_k61 [some (.ref 0), none, none, none, none, none, none, none, none, none, none, none, none, none, none, none, none, none, none, none, none, none] h0 = .rt (.bl true) hE ∧ Tin (N + 100) hE by
    obtain ⟨hE, k2, k3⟩ := key
    refine ⟨hE, ?_, k3⟩
    rw [show f__law_right_k61 = mDef 22 b__law_right_k61 from rfl, mDef_eq, show mStart 22 [PV.ref 0] = [some (.ref 0), none, none, none, none, none, none, none, none, none, none, none, none, none, none, none, none, none, none, none, none, none] from rfl, k2]
  have mk1 : mulOk 2 (1 + d1) := mulOk_small (by omega)
  unfold b__law_right_k61
  refine seq_go (s1 := [some (.ref 0), some (.int n), none, none, none, none, none, none, none, none, none, none, none, none, none, none, none, none, none, none, none, none]) (h1 := h1) ?_ ?_
  · simp [e1, mk1, hn]
  refine seq_go (s1 := [some (.ref 0), some (.int n), none, none, none, none, none, none, none, none, none, some (.int m), some (.int t), none, none, none, none, none, none, none, none, none]) (h1 := h3) ?_ ?_
  · simp [e2, e3, hm]
  refine seq_go (s1 := [some (.ref 0), some (.int n), none, none, none, none, none, none, none, none, none, some (.int m), some (.int t), some (ti row), some (ti other), none, none, none, none, none, none, none]) (h1 := h5) ?_ ?_
  · simp
    rw [compL_two (s1 := [some (.ref 0), some (.int n), none, none, none, none, none, none, none, none, none, some (.int m), some (.int t), none, none, none, none, some (.int 0), none, none, none, none]) (s2 := [some (.ref 0), some (.int n), none, none, none, none, none, none, none, none, none, some (.int m), some (.int t), none, none, none, none, some (.int 1), none, none, none, none]) (y := ti row) (y' := ti other) (h' := h4) (h'' := h5)]
    · simp
    · rfl
    · rfl
    · rfl
    · simp [e_rng1 r1 r2, rlen, sz, e4]
    · rfl
    · rfl
    · simp [e_rng1 r1 r2, rlen, sz, e5]
  refine seq_go (s1 := [some (.ref 0), some (.int n), some (ti far), none, none, none, none, none, none, none, none, some (.int m), some (.int t), some (ti row), some (ti other), none, none, none, none, none, none, none]) (h1 := h6) ?_ ?_
  · simp [e6, f6, hfar]
  refine seq_go (s1 := [some (.ref 0), some (.int n), some (ti far), some (ti rests), none, none, none, none, none, none, none, some (.int m), some (.int t), some (ti row), some (ti other), none, none, none, none, none, none, none]) (h1 := h6) ?_ ?_
  · simp [al6, alt_len, lr, sz]
    rw [comp_ints (altL row) (· % m) rfl]
    · simp [hrests]
    · exact fun x _ => ⟨_, rfl, rfl, by simp [show 0 < m by omega]⟩
  refine seq_go (s1 := [some (.ref 0), some (.int n), some (ti far), some (ti rests), some (.int (sg t)), none, none, none, none, none, none, some (.int m), some (.int t), some (ti row), some (ti other), none, none, none, none, none, none, none]) (h1 := h6) ?_ ?_
  · simp [m2t, sg]
  have eq7 : farL m t rests = (altL far).map (fun x => sg t * x % m) := by rw [hrests, hfar]; exact far_turned n0 ev2 t
  rw [eq7] at f7
  have sm7 : tidy h7.length (f__law_same 6 [ti ((altL far).map (fun x => sg t * x % m)), ti ((altL far).map (fun x => sg t * x % m))] h7) = .ok (.bl true) h7 := ev_same 5 _ (pl_ti (by rw [List.length_map, alt_len]; omega)) h7 T7.closed
  have sgm : ∀ x, mulOk (sg t) x := fun x => mulOk_small' (by rcases sg_cases t with z | z <;> rw [z] <;> decide)
  refine seq_go (s1 := [some (.ref 0), some (.int n), some (ti far), some (ti rests), some (.int (sg t)), none, none, none, none, none, none, some (.int m), some (.int t), some (ti row), some (ti other), none, none, none, none, none, none, none]) (h1 := h7) ?_ ?_
  · simp [e7, f7, al7, alt_len, fl, lr, sz]
    rw [comp_ints (altL far) (fun x => sg t * x % m) rfl]
    · simp only [e_only, e_bind_ok, e_tupL]
      simp [sm7, -List.map_map]
    · exact fun x _ => ⟨_, rfl, rfl, by simp [show 0 < m by omega, sgm]⟩
  refine seq_go (s1 := [some (.ref 0), some (.int n), some (ti far), some (ti rests), some (.int (sg t)), some (ti (sstep row)), none, none, none, none, none, some (.int m), some (.int t), some (ti row), some (ti other), none, none, none, none, none, none, none]) (h1 := h7) ?_ ?_
  · simp [-List.drop_one, rot_map, rot_len, lr, sz, show n - 1 + min 1 n ≤ 16777216 by omega]
    rw [comp_zips row (rot1 row) (fun a b => b - a) rfl]
    · simp [sstep]
    · exact fun p _ => ⟨_, by simp; rfl, rfl, by simp⟩
  have f9 := ev_signed_step (v := ti row) (.inl rfl) sr h7 T7.closed
  have g9 := ev_mod_step (v := ti rests) (.inl rfl) m2 m60 rr h7 T7.closed
  have eq9 : mstep m rests = (altL (sstep row)).map (fun x => -x % m) := by rw [hrests]; exact step_turned n0 ev2
  rw [eq9] at g9
  have sl : (sstep row).length = n := by rw [sstep_far n0, sfar_len, lr]
  have al9 := ev_alt (l := sstep row) (by omega) h7 T7.closed
  have sm9 : tidy h7.length (f__law_same 6 [.lst [ti (sstep row), ti ((altL (sstep row)).map (fun x => -x % m))], .lst [ti (sstep row), ti ((altL (sstep row)).map (fun x => -x % m))]] h7) = .ok (.bl true) h7 :=
    ev_same 5 _ (pl_lst (by simp) fun x hx => by
      simp only [List.mem_cons, List.not_mem_nil, or_false] at hx
      rcases hx with rfl | rfl
      · exact pl_ti (by omega)
      · exact pl_ti (by rw [List.length_map, alt_len]; omega)) h7 T7.closed
  refine seq_go (s1 := [some (.ref 0), some (.int n), some (ti far), some (ti rests), some (.int (sg t)), some (ti (sstep row)), none, none, none, none, none, some (.int m), some (.int t), some (ti row), some (ti other), none, none, none, none, none, none, none]) (h1 := h7) ?_ ?_
  · simp [f9, g9, al9, alt_len, sl, sz]
    rw [comp_ints (altL (sstep row)) (fun x => -x % m) rfl]
    · simp only [e_only, e_bind_ok, e_tupL]
      simp [sm9, -List.map_map]
    · exact fun x _ => ⟨_, rfl, rfl, by simp [show 0 < m by omega]⟩
  obtain ⟨d4, h8, e8, a4, b4, T8⟩ := cv_take T7 (by omega) (below := 19) (by decide) (by decide)
  obtain ⟨d5, h9, e9, a5, b5, T9⟩ := cv_take T8 (by omega) (below := 19) (by decide) (by decide)
  obtain ⟨va, hva⟩ : ∃ a : Int, d4 - 9 = a := ⟨_, rfl⟩
  obtain ⟨vb, hvb⟩ : ∃ a : Int, d5 - 9 = a := ⟨_, rfl⟩
  have ma : ∀ x, mulOk va x := fun x => mulOk_small' (by omega)
  have mb : ∀ x, mulOk vb x := fun x => mulOk_small' (by omega)
  refine seq_go (s1 := [some (.ref 0), some (.int n), some (ti far), some (ti rests), some (.int (sg t)), some (ti (sstep row)), none, none, none, none, none, some (.int m), some (.int t), some (ti row), some (ti other), some (.int va), some (.int vb), none, none, none, none, none]) (h1 := h9) ?_ ?_
  · simp [e8, e9, hva, hvb]
  obtain ⟨both, hboth⟩ : ∃ r, r = zipI (fun x y => va * x + vb * y) row other := ⟨_, rfl⟩
  have bl : both.length = n := by rw [hboth, zipI_len _ (by omega), lr]
  refine seq_go (s1 := [some (.ref 0), some (.int n), some (ti far), some (ti rests), some (.int (sg t)), some (ti (sstep row)), some (ti both), none, none, none, none, some (.int m), some (.int t), some (ti row), some (ti other), some (.int va), some (.int vb), none, none, none, none, none]) (h1 := h9) ?_ ?_
  · simp [lr, lo, sz]
    rw [comp_zips row other (fun x y => va * x + vb * y) rfl]
    · simp [hboth]
    · exact fun p _ => ⟨_, by simp; rfl, rfl, by simp [ma, mb]⟩
  have f12 := ev_signed_far (v := ti other) (.inl rfl) so (show t ≤ 200 by omega) h9 T9.closed
  obtain ⟨near, hnear⟩ : ∃ r, r = sfarL t other := ⟨_, rfl⟩
  rw [← hnear] at f12
  have nl : near.length = n := by rw [hnear, sfar_len, lo]
  refine seq_go (s1 := [some (.ref 0), some (.int n), some (ti far), some (ti rests), some (.int (sg t)), some (ti (sstep row)), some (ti both), some (ti near), none, none, none, some (.int m), some (.int t), some (ti row), some (ti other), some (.int va), some (.int vb), none, none, none, none, none]) (h1 := h9) ?_ ?_
  · simp [f12]
  have sb : SignedR both := by
    refine ⟨by omega, by omega, fun x hx => ?_⟩
    rw [hboth, zip_rows _ (by omega)] at hx
    obtain ⟨i, _, rfl⟩ := List.mem_map.mp hx
    have q1 := rowf_bound n0 rb i
    have q2 := rowf_bound (show 0 < other.length by omega) ob i
    have q3 := mul_bound (a := va) (A := 9) (x := rowf row i) (B := 1000) (by omega) (by omega) q1.1 q1.2
    have q4 := mul_bound (a := vb) (A := 9) (x := rowf other i) (B := 1000) (by omega) (by omega) q2.1 q2.2
    omega
  have f13 := ev_signed_far (v := ti both) (.inl rfl) sb (show t ≤ 200 by omega) h9 T9.closed
  have eq13 : sfarL t both = zipI (fun x y => va * x + vb * y) far near := by rw [hboth, hfar, hnear]; exact far_linear va vb n0 (by omega) t
  rw [eq13] at f13
  have sm13 : tidy h9.length (f__law_same 6 [ti (zipI (fun x y => va * x + vb * y) far near), ti (zipI (fun x y => va * x + vb * y) far near)] h9) = .ok (.bl true) h9 := ev_same 5 _ (pl_ti (by rw [zipI_len _ (by omega)]; omega)) h9 T9.closed
  refine seq_go (s1 := [some (.ref 0), some (.int n), some (ti far), some (ti rests), some (.int (sg t)), some (ti (sstep row)), some (ti both), some (ti near), none, none, none, some (.int m), some (.int t), some (ti row), some (ti other), some (.int va), some (.int vb), none, none, none, none, none]) (h1 := h9) ?_ ?_
  · simp [f13, fl, lr, nl, sz]
    rw [comp_zips far near (fun x y => va * x + vb * y) rfl]
    · simp only [e_only, e_bind_ok, e_tupL]
      simp [sm13, -List.map_map]
    · exact fun p _ => ⟨_, by simp; rfl, rfl, by simp [ma, mb]⟩
  have f14 := ev_folded (n := n) (t := t) (by omega) (by omega) (by omega) h9 T9.closed
  refine seq_go (s1 := [some (.ref 0), some (.int n), some (ti far), some (ti rests), some (.int (sg t)), some (ti (sstep row)), some (ti both), some (ti near), some (ti (shareL (-1) n t)), none, none, some (.int m), some (.int t), some (ti row), some (ti other), some (.int va), some (.int vb), none, none, none, none, none]) (h1 := h9) ?_ ?_
  · simp [f14]
  have eq15 : (List.range n).map (fun k => (zipI (· * ·) (shareL (-1) n t) (row.drop k ++ row.take k)).sum) = far := by
    rw [hfar, ← far_shares n0 t, lr]
  have sm15 : tidy h9.length (f__law_same 6 [ti far, ti far] h9) = .ok (.bl true) h9 := ev_same 5 _ (pl_ti (by omega)) h9 T9.closed
  refine seq_go (s1 := [some (.ref 0), some (.int n), some (ti far), some (ti rests), some (.int (sg t)), some (ti (sstep row)), some (ti both), some (ti near), some (ti (shareL (-1) n t)), none, none, some (.int m), some (.int t), some (ti row), some (ti other), some (.int va), some (.int vb), none, none, none, none, none]) (h1 := h9) ?_ ?_
  · simp [e_rng1 r1 r2, rlen, sz]
    rw [comp_rng n (fun k => (zipI (· * ·) (shareL (-1) n t) (row.drop k ++ row.take k)).sum) rfl]
    · simp only [e_only, e_bind_ok, e_tupL, eq15]
      simp [sm15, -List.map_map]
    · intro k hk
      have rk : List.drop k (row.map PV.int) ++ List.take k (row.map PV.int) = (row.drop k ++ row.take k).map PV.int := by simp
      have sk := ev_law_sum (a := shareL (-1) n t) (b := row.drop k ++ row.take k) (by rw [shareL_len]; omega) (fun p hp => mulOk_small (by
        have q := (List.of_mem_zip hp).2
        rcases List.mem_append.mp q with q | q
        · have := rb _ (List.mem_of_mem_drop q); omega
        · have := rb _ (List.mem_of_mem_take q); omega)) (by rw [List.length_append, List.length_drop, List.length_take]; omega) h9 T9.closed
      have k1 : n - k + min k n ≤ 16777216 := by omega
      refine ⟨_, rfl, rfl, ?_⟩
      have sk2 : tidy h9.length (f__law_sum [ti (shareL (-1) n t), .tup (List.drop k (row.map PV.int) ++ List.take k (row.map PV.int))] h9) = .ok (.int (zipI (· * ·) (shareL (-1) n t) (row.drop k ++ row.take k)).sum) h9 := by rw [rk]; exact sk
      simp [lr, k1, sk2]
  obtain ⟨d6, h10, e10, a6, b6, T10⟩ := cv_take T9 (by omega) (below := 30) (by decide) (by decide)
  obtain ⟨few, rfl⟩ : ∃ f : Nat, d6 = (f : Int) := ⟨d6.toNat, by omega⟩
  refine seq_go (s1 := [some (.ref 0), some (.int n), some (ti far), some (ti rests), some (.int (sg t)), some (ti (sstep row)), some (ti both), some (ti near), some (ti (shareL (-1) n t)), some (.int few), none, some (.int m), some (.int t), some (ti row), some (ti other), some (.int va), some (.int vb), none, none, none, none, none]) (h1 := h10) ?_ ?_
  · simp [e10]
  have sm17 : tidy h10.length (f__law_same 6 [ti far, ti far] h10) = .ok (.bl true) h10 := ev_same 5 _ (pl_ti (by omega)) h10 T10.closed
  have f17 := ev_signed_far (v := ti row) (.inl rfl) sr (show few ≤ 200 by omega) h10 T10.closed
  have pw : powOk 10 30 := by decide
  have mx : 0 < ((sfarL few row).map absI).length := by rw [List.length_map, sfar_len]; omega
  refine seq_go (s1 := [some (.ref 0), some (.int n), some (ti far), some (ti rests), some (.int (sg t)), some (ti (sstep row)), some (ti both), some (ti near), some (ti (shareL (-1) n t)), some (.int few), none, some (.int m), some (.int t), some (ti row), some (ti other), some (.int va), some (.int vb), none, none, none, none, none]) (h1 := h10) ?_ ?_
  · by_cases hge : few ≤ t
    · have hge2 : (few : Int) ≤ (t : Int) := by omega
      by_cases hmax : maxI ((sfarL few row).map absI) ≤ 1000000000000000000000000000000
      · have sf : SignedR (sfarL few row) := ⟨by rw [sfar_len]; omega, by rw [sfar_len]; omega, fun x hx => by have := maxI_le hmax x hx; omega⟩
        have g17 := ev_signed_far (v := ti (sfarL few row)) (t := t - few) (.inl rfl) sf (by omega) h10 T10.closed
        rw [far_far n0 hge, ← hfar] at g17
        have tc : ((t - few : Nat) : Int) = (t : Int) - (few : Int) := by omega
        rw [tc] at g17
        simp [hge, f17, sfar_len, lr, sz]
        rw [comp_ints (sfarL few row) absI rfl]
        · simp only [e_only, e_bind_ok, e_maxL mx]
          simp [pw, f17, g17, sm17, hmax, -List.map_map]
        · exact fun x _ => ⟨_, rfl, rfl, by simp [absI]⟩
      · simp [hge, f17, sfar_len, lr, sz]
        rw [comp_ints (sfarL few row) absI rfl]
        · simp only [e_only, e_bind_ok, e_maxL mx]
          simp [pw, hmax, -List.map_map]
        · exact fun x _ => ⟨_, rfl, rfl, by simp [absI]⟩
    · simp [hge]
  obtain ⟨ring, hring⟩ : ∃ r, r = row.map absI := ⟨_, rfl⟩
  have gl : ring.length = n := by rw [hring, List.length_map, lr]
  have gb : ∀ x ∈ ring, 0 ≤ x ∧ x ≤ 1000 := fun x hx => by
    rw [hring] at hx
    obtain ⟨y, hy, rfl⟩ := List.mem_map.mp hx
    have := rb y hy
    unfold absI
    split <;> omega
  refine seq_go (s1 := [some (.ref 0), some (.int n), some (ti far), some (ti rests), some (.int (sg t)), some (ti (sstep row)), some (ti both), some (ti near), some (ti (shareL (-1) n t)), some (.int few), some (ti ring), some (.int m), some (.int t), some (ti row), some (ti other), some (.int va), some (.int vb), none, none, none, none, none]) (h1 := h10) ?_ ?_
  · simp [lr, sz]
    rw [comp_ints row absI rfl]
    · simp [hring]
    · exact fun x _ => ⟨_, rfl, rfl, by simp [absI]⟩
  have sg1 : SignedR ring := ⟨by omega, by omega, fun x hx => by have := gb x hx; omega⟩
  have rg1 : RingR ring := ⟨by omega, by omega, fun x hx => by have := gb x hx; omega⟩
  have st1 : SignedR (sstep ring) := by
    rw [sstep_far (by omega)]
    refine ⟨by rw [sfar_len]; omega, by rw [sfar_len]; omega, fun x hx => ?_⟩
    obtain ⟨i, _, rfl⟩ := List.mem_map.mp hx
    have q1 := rowf_bound (show 0 < ring.length by omega) gb i
    have q2 := rowf_bound (show 0 < ring.length by omega) gb (i + 1)
    have q3 : nbs (-1) 1 (rowf ring) i = rowf ring (i + 1) + -1 * rowf ring i := rfl
    omega
  have f19 := ev_signed_step (v := ti ring) (.inl rfl) sg1 h10 T10.closed
  have g19 := ev_bare (v := ti (sstep ring)) (.inl rfl) st1 h10 T10.closed
  rw [bare_step (by omega)] at g19
  have k19 := ev_bare (v := ti row) (.inl rfl) sr h10 T10.closed
  rw [← hring] at k19
  have l19 := ev_step (v := ti ring) (.inl rfl) rg1 h10 T10.closed
  have dl : (dstep ring).length = n := by rw [← bare_step (by omega), List.length_map, sstep_far (by omega), sfar_len, gl]
  have sm19 : tidy h10.length (f__law_same 6 [.lst [ti (dstep ring), ti ring], .lst [ti (dstep ring), ti ring]] h10) = .ok (.bl true) h10 :=
    ev_same 5 _ (pl_lst (by simp) fun x hx => by
      simp only [List.mem_cons, List.not_mem_nil, or_false] at hx
      rcases hx with rfl | rfl
      · exact pl_ti (by omega)
      · exact pl_ti (by omega)) h10 T10.closed
  refine ⟨h10, ?_, T10.mono (by omega)⟩
  rcases sum_far0 n0 t with z | z
  · subst z
    simp [f19, g19, k19, l19, sm19]
  · rw [← hfar] at z
    by_cases t0 : t = 0
    · subst t0
      simp [f19, g19, k19, l19, sm19]
    · simp [f19, g19, k19, l19, sm19, t0, z]
theorem ev_box_k61 {cs : List Int} (h0 : 0 < cs.length) : ∃ h', f__law_box_k61 [.lst (cs.map PV.int), .int 0] [] = .ok (.ref 0) h' ∧ Tin 0 h' := by
  obtain ⟨x, hx⟩ : ∃ x, (cs.map PV.int)[0]? = some (.int x) := ⟨_, getD_int h0⟩
  have at0 : atI (cs.map PV.int) 0 = some (.int x) := by rw [show (0 : Int) = ((0 : Nat) : Int) from rfl, Mir.atI_nat]; exact hx
  have pw : powOk 10 18 := by decide
  have m1 : ∀ b : Bool, mulOk (if x < 0 then -x else x) (if b = true then 1 else 0) := fun b => mulOk_small (by cases b <;> decide)
  have m2 : mulOk 39373 0 := mulOk_small (by decide)
  refine ⟨tinH ((if x < 0 then -x else x) * (if decide (10 ^ (18 : Int).toNat ≤ (if x < 0 then -x else x)) = true then 1 else 0)) (x % 2305843009213693951 + 39373 * 0 + 25179061) 0, ?_, _, _, _, rfl, ?_, ?_, ?_, by omega, by omega⟩
  · have m1' := m1 (decide (10 ^ (18 : Int).toNat ≤ (if x < 0 then -x else x)))
    simp only [f__law_box_k61, b__law_box_k61, mDef_eq, mStart]
    simp [h0, at0, pw, m2]
    simp at m1'
    simp [m1']
  · refine Int.mul_nonneg (by split <;> omega) (by split <;> omega)
  · have := Int.emod_nonneg x (show (2305843009213693951 : Int) ≠ 0 by decide); omega
  · have := Int.emod_lt_of_pos x (show (0 : Int) < 2305843009213693951 by decide); omega

theorem all_true : ∀ {ys : List PV}, (∀ y ∈ ys, y = .bl true) → ∃ bs : List Bool, ys = bs.map PV.bl ∧ bs.all id = true
  | [], _ => ⟨[], rfl, rfl⟩
  | y :: ys, h => by
    obtain ⟨bs, e, a⟩ := all_true fun z hz => h z (List.mem_cons_of_mem _ hz)
    exact ⟨true :: bs, by rw [h y List.mem_cons_self, e]; rfl, by rw [List.all_cons, a]; rfl⟩
theorem law_k61 (ns : List Int) : ∃ h', f_law_k61 [.frz (ns.map PV.int)] [] = .ok (.bl true) h' := by
  obtain ⟨cs, ec, c0, _⟩ := ev_cells (ns := ns) (most := 1) (by decide) (by decide)
  obtain ⟨h0, eb, T⟩ := ev_box_k61 c0
  have s142 : SignedR [1, 4, 2] := ⟨by decide, by decide, by decide⟩
  have g1 := ev_signed_step (v := .tup [.int 1, .int 4, .int 2]) (l := [1, 4, 2]) (.inl rfl) s142 h0 T.closed
  have g2 := ev_signed_far (v := .tup [.int 1, .int 4, .int 2]) (l := [1, 4, 2]) (t := 2) (.inl rfl) s142 (by decide) h0 T.closed
  have g3 := ev_folded (n := 3) (t := 3) (by decide) (by decide) (by decide) h0 T.closed
  have g4 := ev_mod_far (v := .tup [.int 1, .int 6, .int 2, .int 5]) (l := [1, 6, 2, 5]) (t := 1) (m := 7) (.inl rfl) (by decide) (by decide) ⟨by decide, by decide, by decide⟩ (by decide) h0 T.closed
  rw [show sstep [1, 4, 2] = [3, -2, -1] by decide] at g1
  rw [show sfarL 2 [1, 4, 2] = [-5, 1, 4] by decide] at g2
  rw [show shareL (-1) 3 3 = [0, 3, -3] by decide] at g3
  rw [show farL 7 1 [1, 6, 2, 5] = [0, 1, 0, 6] by decide] at g4
  have sm : tidy h0.length (f__law_same 6 [.lst [ti [3, -2, -1], ti [-5, 1, 4], ti [0, 3, -3], ti [0, 1, 0, 6]], .lst [ti [3, -2, -1], ti [-5, 1, 4], ti [0, 3, -3], ti [0, 1, 0, 6]]] h0) = .ok (.bl true) h0 := ev_same 5 _ (by decide) h0 T.closed
  obtain ⟨ys, h', e, T', len, q⟩ := compL_ix (g := mName 3) (t := mYes) (e := mCallF 1 f__law_right_k61 (mCons (mVar 1) mNil)) (vs := [3]) (s := [some (.frz (ns.map PV.int)), some (.ref 0), some (.lst [ti [3, -2, -1], ti [-5, 1, 4], ti [0, 3, -3], ti [0, 1, 0, 6]]), none]) (it := (rangeP 0 3, [])) (fun (k : Nat) => PV.int (0 + (k : Int)))
    (fun j h => Tin (100 * j) h) (fun y => y = .bl true) rfl (List.range 3) 0 (fun a ha j h j1 j2 T => by
      rw [List.length_range] at j2
      obtain ⟨h', e, T'⟩ := ev_right T (by omega)
      have e2 : tidy h.length (f__law_right_k61 [.ref 0] h) = .ok (.bl true) h' := by rw [e]; exact tidy_tin T T' rfl
      exact ⟨[some (.frz (ns.map PV.int)), some (.ref 0), some (.lst [ti [3, -2, -1], ti [-5, 1, 4], ti [0, 3, -3], ti [0, 1, 0, 6]]), some (.int (0 + (a : Int)))], .bl true, h', rfl, rfl, by simp [e2], by rw [Nat.mul_add]; exact T', rfl⟩) h0 T
  obtain ⟨bs, eys, al⟩ := all_true q
  subst eys
  have r3 : pRng1 [.int 3] h0 = .ok (rangeP 0 3, []) h0 := e_rng1 (by decide) (by decide)
  refine ⟨h', ?_⟩
  rw [← rangeP_eq] at e
  rw [show f_law_k61 = mDef 4 b_law_k61 from rfl, mDef_eq, show mStart 4 [PV.frz (ns.map PV.int)] = [some (.frz (ns.map PV.int)), none, none, none] from rfl]
  have key : ∃ hE, b_law_k61 [some (.frz (ns.map PV.int)), none, none, none] [] = .rt (.bl true) hE ∧ hE = h' := by
    unfold b_law_k61
    refine seq_go (s1 := [some (.frz (ns.map PV.int)), some (.ref 0), none, none]) (h1 := h0) ?_ ?_
    · have ec' : tidy ([] : List MO).length (f__law_cells [.frz (ns.map PV.int), .int 1] []) = .ok (.lst (cs.map PV.int)) [] := ec
      simp only [e_mAsg, e_mCallK, e_mCons, e_mCallF, e_mVar, List.getElem?_cons_zero, e_bind_ok, e_mC, e_mNil, List.length_cons, List.length_nil, Nat.zero_add, Nat.reduceAdd, if_true]
      rw [show tidy 0 (f__law_cells [.frz (ns.map PV.int), .int 1] []) = .ok (.lst (cs.map PV.int)) [] from ec]
      simp [eb]
    refine seq_go (s1 := [some (.frz (ns.map PV.int)), some (.ref 0), some (.lst [ti [3, -2, -1], ti [-5, 1, 4], ti [0, 3, -3], ti [0, 1, 0, 6]]), none]) (h1 := h0) ?_ ?_
    · simp at g1 g2 g3 g4
      simp [g1, g2, g3, g4]
    refine seq_go (s1 := [some (.frz (ns.map PV.int)), some (.ref 0), some (.lst [ti [3, -2, -1], ti [-5, 1, 4], ti [0, 3, -3], ti [0, 1, 0, 6]]), none]) (h1 := h0) ?_ ?_
    · have sm2 : tidy h0.length (f__law_same 6 [.lst [ti [3, -2, -1], ti [-5, 1, 4], ti [0, 3, -3], ti [0, 1, 0, 6]], .lst [.tup [.int 3, .int (-2), .int (-1)], .tup [.int (-5), .int 1, .int 4], .tup [.int 0, .int 3, .int (-3)], .tup [.int 0, .int 1, .int 0, .int 6]]] h0) = .ok (.bl true) h0 := sm
      simp [sm2]
    refine ⟨h', ?_, rfl⟩
    have rl3 : (rangeP 0 3).length = 3 := rfl
    simp only [e_mRet, e_mCall, e_mCons, e_mComp, e_mRng1, e_mC, e_bind_ok, e_mNil, r3, rl3]
    rw [if_pos (by decide), e]
    simp only [e_only, e_bind_ok, e_allL, al, e_xs_ok]
  obtain ⟨hE, k1, k2⟩ := key
  subst k2
  rw [k1]

end MirP

set_option Elab.async false
set_option linter.all false
set_option maxRecDepth 100000
set_option maxHeartbeats 4000000
namespace L61
open PySem PySem.Spec PyProof.Rows L2 Mir MirP
def top (i : Nat) : Stmt := PySem.Challenge.pw_differencesround_k61_main_signs_turned_a.main.body.getD i (.Pass ⟨0, 0, 0, 0⟩)
structure Ev (K : PySem.W.Frag) (mg : Str → Option Value) : Prop where
  n_abs : mg "abs" = none
  n_all : mg "all" = none
  n_bool : mg "bool" = none
  n_enumerate : mg "enumerate" = none
  n_int : mg "int" = none
  n_isinstance : mg "isinstance" = none
  n_len : mg "len" = none
  n_list : mg "list" = none
  n_max : mg "max" = none
  n_range : mg "range" = none
  n_str : mg "str" = none
  n_sum : mg "sum" = none
  n_tuple : mg "tuple" = none
  n_zip : mg "zip" = none
  i_LEAST_LONG : ∃ t, mg "LEAST_LONG" = some (.int 2 t)
  i_MOST_LONG : ∃ t, mg "MOST_LONG" = some (.int 16 t)
  i_MOST_MOD : ∃ t, mg "MOST_MOD" = some (.int 60 t)
  i_MOST_NUMBER : ∃ t, mg "MOST_NUMBER" = some (.int 1000000000000000000000000000000 t)
  i_MOST_POWER : ∃ t, mg "MOST_POWER" = some (.int 1000000000000000000 t)
  i_MOST_SIGNED_STEPS : ∃ t, mg "MOST_SIGNED_STEPS" = some (.int 200 t)
  d__law_box : Df K mg "_law_box" (top 43)
  d__law_cells : Df K mg "_law_cells" (top 45)
  d_signed_in : Df K mg "signed_in" (top 23)
  d_tupled : Df K mg "tupled" (top 7)
  d_is_number : Df K mg "is_number" (top 3)
  d_is_within : Df K mg "is_within" (top 4)
  d_are_within : Df K mg "are_within" (top 6)
  d_is_signed_in : Df K mg "is_signed_in" (top 21)
  d_sure_signed : Df K mg "sure_signed" (top 22)
  d_signed_step : Df K mg "signed_step" (top 27)
  d_binomials_in : Df K mg "binomials_in" (top 24)
  d_folded_in : Df K mg "folded_in" (top 25)
  d_signed_far_in : Df K mg "signed_far_in" (top 26)
  d_sure_within : Df K mg "sure_within" (top 5)
  d_signed_far : Df K mg "signed_far" (top 28)
  d_sure_many : Df K mg "sure_many" (top 18)
  d_folded : Df K mg "folded" (top 29)
  d_sure_mod : Df K mg "sure_mod" (top 33)
  d_is_rests_in : Df K mg "is_rests_in" (top 34)
  d_sure_rests : Df K mg "sure_rests" (top 35)
  d_rolled : Df K mg "rolled" (top 37)
  d_shares_in : Df K mg "shares_in" (top 38)
  d_mod_far_in : Df K mg "mod_far_in" (top 39)
  d_mod_far : Df K mg "mod_far" (top 41)
  d__law_same : Df K mg "_law_same" (top 47)
  d__law_take : Df K mg "_law_take" (top 44)
  d__law_mixed : Df K mg "_law_mixed" (top 46)
  d__law_alt : Df K mg "_law_alt" (top 48)
  d_summed : Df K mg "summed" (top 36)
  d_mod_step : Df K mg "mod_step" (top 40)
  d_bare : Df K mg "bare" (top 30)
  d_step_in : Df K mg "step_in" (top 15)
  d_is_ring_in : Df K mg "is_ring_in" (top 13)
  d_sure_ring : Df K mg "sure_ring" (top 14)
  d_step : Df K mg "step" (top 16)
  d__law_sum : Df K mg "_law_sum" (top 50)
  d__law_right : Df K mg "_law_right" (top 49)
  d_law : Df K mg "law" (top 51)
section
variable {P : Program} {w : World} {K : PySem.W.Frag} {mg : Str → Option Value} {base : Heap} {G : Nat → Option Addr}
/-! _law_box -/
abbrev s__law_box : Stmt := top 43
abbrev N__law_box : List Str := ["script", "k", "bit_so"]
theorem sc__law_box : FnScope N__law_box ["script", "k"] (defScope s__law_box) := ⟨rfl, rfl, rfl, by decide +kernel, rfl, by decide +kernel, by decide +kernel⟩
theorem c__law_box (Z : Ev K mg) : Cl P w K mg base G 1 "_law_box" 2 f__law_box_k61 := by
    have S := sc__law_box
    refine cl_of (N := N__law_box) (ps := ["script", "k"]) (b := b__law_box_k61) (k := 0) Z.d__law_box S (fun _ _ _ _ _ _ us hl => match us, hl with | [_, _], _ => rfl) (fun f cdv A outer s H E hr tk ho => ?_)
    exact (bm_cons (sm_set S.nd (i := 2) rfl (em_if (tm_cmp op_lt (m_cI _) (em_var (pv 1)) (em_callB call_len2 m_len Z.n_len rfl (am_cons (em_var (pv 0)) am_nil)) (nomark _)) (em_ix (em_var (pv 0)) (em_var (pv 1))) em_int))
  (bm_one (sm_ret (em_lstR (am_cons (em_op op_mulS (m_mulS false) (em_callB call_abs m_abs Z.n_abs rfl (am_cons (em_var (pv 2)) am_nil)) (em_callTy call_int1 m_int Z.n_int rfl (am_cons (em_cmp op_ge (m_cI _) (em_callB call_abs m_abs Z.n_abs rfl (am_cons (em_var (pv 2)) am_nil)) (em_op op_pow m_pow em_int em_int) (nomark _)) am_nil))) (am_cons (em_op op_add4 m_add (em_op op_add4 m_add (em_op op_mod m_mod (em_callTy call_int1 m_int Z.n_int rfl (am_cons (em_var (pv 2)) am_nil)) em_int) (em_op op_mulS (m_mulS false) em_int (em_var (pv 1)))) em_int) (am_cons em_int am_nil)))))))
/-! _law_cells -/
abbrev s__law_cells : Stmt := top 45
abbrev N__law_cells : List Str := ["script", "most_so", "cells_so", "k", "bit_so", "at_so"]
theorem sc__law_cells : FnScope N__law_cells ["script", "most_so"] (defScope s__law_cells) := ⟨rfl, rfl, rfl, by decide +kernel, rfl, by decide +kernel, by decide +kernel⟩
theorem c__law_cells (Z : Ev K mg) : Cl P w K mg base G 1 "_law_cells" 2 f__law_cells := by
    have S := sc__law_cells
    refine cl_of (N := N__law_cells) (ps := ["script", "most_so"]) (b := b__law_cells) (k := 0) Z.d__law_cells S (fun _ _ _ _ _ _ us hl => match us, hl with | [_, _], _ => rfl) (fun f cdv A outer s H E hr tk ho => ?_)
    exact (bm_cons (sm_set S.nd (i := 2) rfl (em_or (em_callTy call_list_of m_lstR Z.n_list rfl (am_cons (em_sl (em_var (pv 0)) om_no (om_part (em_var (pv 1)))) am_nil)) (em_one (em_lstR (am_cons em_int am_nil)))))
  (bm_cons (sm_for ho rfl (im_enum Z.n_enumerate (am_cons (em_sl (em_var (pv 0)) (om_part (em_var (pv 1))) (om_part em_int)) am_nil)) (gm_unp rfl (gms_cons (gm_name S.nd (i := 3) rfl) (gms_cons (gm_name S.nd (i := 4) rfl) gms_nil))) (bm_cons (sm_set S.nd (i := 5) rfl (em_op op_mod m_mod (em_callTy call_int1 m_int Z.n_int rfl (am_cons (em_var (pv 3)) am_nil)) (em_var (pv 1))))
  (bm_one (sm_asg (em_op op_add4 m_add (em_ix (em_var (pv 2)) (em_var (pv 5))) (em_op op_mulS (m_mulS false) (em_var (pv 4)) (em_op op_add4 m_add (em_var (pv 3)) em_int))) (gm_put (em_var (pv 2)) (em_var (pv 5)))))))
  (bm_one (sm_ret (em_var (pv 2))))))
/-! signed_in -/
abbrev s_signed_in : Stmt := top 23
abbrev N_signed_in : List Str := ["row", "one", "other"]
theorem sc_signed_in : FnScope N_signed_in ["row"] (defScope s_signed_in) := ⟨rfl, rfl, rfl, by decide +kernel, rfl, by decide +kernel, by decide +kernel⟩
theorem c_signed_in (Z : Ev K mg) : Cl P w K mg base G 1 "signed_in" 1 f_signed_in := by
    have S := sc_signed_in
    refine cl_of (N := N_signed_in) (ps := ["row"]) (b := b_signed_in) (k := 0) Z.d_signed_in S (fun _ _ _ _ _ _ us hl => match us, hl with | [_], _ => rfl) (fun f cdv A outer s H E hr tk ho => ?_)
    exact (bm_one (sm_ret (em_callTy call_tuple_of m_tup Z.n_tuple rfl (am_cons (em_comp (own := [("one", 1), ("other", 2)]) rfl S.nd (im_zip Z.n_zip (am_cons (em_var (pv 0)) (am_cons (em_op op_add4 m_add (em_sl (em_var (pv 0)) (om_part em_int) om_no) (em_sl (em_var (pv 0)) om_no (om_part em_int))) am_nil))) (blkOk_by (N := N_signed_in) (sc := defScope s_signed_in) (by decide +kernel)) (fun _ _ _ _ _ => (gm_unp rfl (gms_cons (gm_name S.nd (i := 1) rfl) (gms_cons (gm_name S.nd (i := 2) rfl) gms_nil)))) (fun _ _ _ _ _ => tm_yes) (fun _ _ _ _ _ => (em_op op_sub m_sub (em_var (pv 2)) (em_var (pv 1))))) am_nil))))
/-! tupled -/
abbrev s_tupled : Stmt := top 7
abbrev N_tupled : List Str := ["value", "own"]
theorem sc_tupled : FnScope N_tupled ["value"] (defScope s_tupled) := ⟨rfl, rfl, rfl, by decide +kernel, rfl, by decide +kernel, by decide +kernel⟩
theorem c_tupled (Z : Ev K mg) : ∀ d, Cl P w K mg base G (1 + d) "tupled" 1 (f_tupled d)
  | 0 => cl_of (k := 0) Z.d_tupled sc_tupled (fun _ _ _ _ _ _ us hl => match us, hl with | [_], _ => rfl) (fun _ _ _ _ _ _ _ _ _ _ => bm_x)
  | d + 1 => by
    have cr := c_tupled Z d
    have S := sc_tupled
    refine cl_of (N := N_tupled) (ps := ["value"]) (b := b_tupled (f_tupled d)) (k := 1 + d) Z.d_tupled S (fun _ _ _ _ _ _ us hl => match us, hl with | [_], _ => rfl) (fun f cdv A outer s H E hr tk ho => ?_)
    exact (bm_one (sm_ret (em_if (tm_tru (em_callB call_isi3 m_isi Z.n_isinstance rfl (am_cons (em_var (pv 0)) (am_cons (em_tup (am_cons (em_ty Z.n_list rfl) (am_cons (em_ty Z.n_tuple rfl) am_nil))) am_nil)))) (em_callTy call_tuple_of m_tup Z.n_tuple rfl (am_cons (em_comp (own := [("own", 1)]) rfl S.nd (im_iter (em_var (pv 0))) (blkOk_by (N := N_tupled) (sc := defScope s_tupled) (by decide +kernel)) (fun _ _ _ _ _ => (gm_name S.nd (i := 1) rfl)) (fun _ _ _ _ _ => tm_yes) (fun _ _ _ _ _ => (em_call cr takes0 hr (by omega) (am_cons (em_var (pv 1)) am_nil)))) am_nil)) (em_var (pv 0)))))
/-! is_number -/
abbrev s_is_number : Stmt := top 3
abbrev N_is_number : List Str := ["thing"]
theorem sc_is_number : FnScope N_is_number ["thing"] (defScope s_is_number) := ⟨rfl, rfl, rfl, by decide +kernel, rfl, by decide +kernel, by decide +kernel⟩
theorem c_is_number (Z : Ev K mg) : Cl P w K mg base G 1 "is_number" 1 f_is_number := by
    have S := sc_is_number
    refine cl_of (N := N_is_number) (ps := ["thing"]) (b := b_is_number) (k := 0) Z.d_is_number S (fun _ _ _ _ _ _ us hl => match us, hl with | [_], _ => rfl) (fun f cdv A outer s H E hr tk ho => ?_)
    exact (bm_one (sm_ret (em_and (em_callB call_isi3 m_isi Z.n_isinstance rfl (am_cons (em_var (pv 0)) (am_cons (em_ty Z.n_int rfl) am_nil))) (em_one (em_not (em_callB call_isi3 m_isi Z.n_isinstance rfl (am_cons (em_var (pv 0)) (am_cons (em_ty Z.n_bool rfl) am_nil))))))))
/-! is_within -/
abbrev s_is_within : Stmt := top 4
abbrev N_is_within : List Str := ["thing", "least", "most"]
theorem sc_is_within : FnScope N_is_within ["thing", "least", "most"] (defScope s_is_within) := ⟨rfl, rfl, rfl, by decide +kernel, rfl, by decide +kernel, by decide +kernel⟩
theorem c_is_within (Z : Ev K mg) : Cl P w K mg base G 2 "is_within" 3 f_is_within := by
    have S := sc_is_within
    refine cl_of (N := N_is_within) (ps := ["thing", "least", "most"]) (b := b_is_within) (k := 1) Z.d_is_within S (fun _ _ _ _ _ _ us hl => match us, hl with | [_, _, _], _ => rfl) (fun f cdv A outer s H E hr tk ho => ?_)
    exact (bm_one (sm_ret (em_and (em_call (c_is_number Z) tk hr (by omega) (am_cons (em_var (pv 0)) am_nil)) (em_one (em_chain op_le (m_cI _) op_le (m_cI _) (em_var (pv 1)) (em_var (pv 0)) (em_var (pv 2)))))))
/-! are_within -/
abbrev s_are_within : Stmt := top 6
abbrev N_are_within : List Str := ["thing", "least", "most", "own"]
theorem sc_are_within : FnScope N_are_within ["thing", "least", "most"] (defScope s_are_within) := ⟨rfl, rfl, rfl, by decide +kernel, rfl, by decide +kernel, by decide +kernel⟩
theorem c_are_within (Z : Ev K mg) : Cl P w K mg base G 3 "are_within" 3 f_are_within := by
    have S := sc_are_within
    refine cl_of (N := N_are_within) (ps := ["thing", "least", "most"]) (b := b_are_within) (k := 2) Z.d_are_within S (fun _ _ _ _ _ _ us hl => match us, hl with | [_, _, _], _ => rfl) (fun f cdv A outer s H E hr tk ho => ?_)
    exact (bm_one (sm_ret (em_and (em_callB call_isi3 m_isi Z.n_isinstance rfl (am_cons (em_var (pv 0)) (am_cons (em_ty Z.n_tuple rfl) am_nil))) (em_one (em_callB (cr_all rfl) m_all Z.n_all rfl (am_cons (em_comp (own := [("own", 3)]) rfl S.nd (im_iter (em_var (pv 0))) (blkOk_by (N := N_are_within) (sc := defScope s_are_within) (by decide +kernel)) (fun _ _ _ _ _ => (gm_name S.nd (i := 3) rfl)) (fun _ _ _ _ _ => tm_yes) (fun _ _ _ _ _ => (em_call (c_is_within Z) takes0 hr (by omega) (am_cons (em_var (pv 3)) (am_cons (em_var (pv 1)) (am_cons (em_var (pv 2)) am_nil)))))) am_nil))))))
/-! is_signed_in -/
abbrev s_is_signed_in : Stmt := top 21
abbrev N_is_signed_in : List Str := ["thing"]
theorem sc_is_signed_in : FnScope N_is_signed_in ["thing"] (defScope s_is_signed_in) := ⟨rfl, rfl, rfl, by decide +kernel, rfl, by decide +kernel, by decide +kernel⟩
theorem c_is_signed_in (Z : Ev K mg) : Cl P w K mg base G 4 "is_signed_in" 1 f_is_signed_in := by
    have S := sc_is_signed_in
    obtain ⟨t_LEAST_LONG, e_LEAST_LONG⟩ := Z.i_LEAST_LONG
    obtain ⟨t_MOST_LONG, e_MOST_LONG⟩ := Z.i_MOST_LONG
    obtain ⟨t_MOST_NUMBER, e_MOST_NUMBER⟩ := Z.i_MOST_NUMBER
    refine cl_of (N := N_is_signed_in) (ps := ["thing"]) (b := b_is_signed_in) (k := 3) Z.d_is_signed_in S (fun _ _ _ _ _ _ us hl => match us, hl with | [_], _ => rfl) (fun f cdv A outer s H E hr tk ho => ?_)
    exact (bm_one (sm_ret (em_and (em_call (c_are_within Z) tk hr (by omega) (am_cons (em_var (pv 0)) (am_cons (em_un un_neg m_neg (em_gv (v := .int 1000000000000000000000000000000) e_MOST_NUMBER ⟨_, rfl⟩ (fun _ _ => rfl))) (am_cons (em_gv (v := .int 1000000000000000000000000000000) e_MOST_NUMBER ⟨_, rfl⟩ (fun _ _ => rfl)) am_nil)))) (em_one (em_chain op_le (m_cI _) op_le (m_cI _) (em_gv (v := .int 2) e_LEAST_LONG ⟨_, rfl⟩ (fun _ _ => rfl)) (em_callB call_len2 m_len Z.n_len rfl (am_cons (em_var (pv 0)) am_nil)) (em_gv (v := .int 16) e_MOST_LONG ⟨_, rfl⟩ (fun _ _ => rfl)))))))
/-! sure_signed -/
abbrev s_sure_signed : Stmt := top 22
abbrev N_sure_signed : List Str := ["value", "own"]
theorem sc_sure_signed : FnScope N_sure_signed ["value"] (defScope s_sure_signed) := ⟨rfl, rfl, rfl, by decide +kernel, rfl, by decide +kernel, by decide +kernel⟩
theorem c_sure_signed (Z : Ev K mg) : Cl P w K mg base G 8 "sure_signed" 1 f_sure_signed := by
    have S := sc_sure_signed
    refine cl_of (N := N_sure_signed) (ps := ["value"]) (b := b_sure_signed) (k := 7) Z.d_sure_signed S (fun _ _ _ _ _ _ us hl => match us, hl with | [_], _ => rfl) (fun f cdv A outer s H E hr tk ho => ?_)
    exact (bm_cons (sm_set S.nd (i := 1) rfl (em_call (c_tupled Z 6) tk hr (by omega) (am_cons (em_var (pv 0)) am_nil)))
  (bm_cons (sm_if (tm_not (tm_tru (em_call (c_is_signed_in Z) tk hr (by omega) (am_cons (em_var (pv 1)) am_nil)))) (bm_one sm_x) bm_nil)
  (bm_one (sm_ret (em_var (pv 1))))))
/-! signed_step -/
abbrev s_signed_step : Stmt := top 27
abbrev N_signed_step : List Str := ["row"]
theorem sc_signed_step : FnScope N_signed_step ["row"] (defScope s_signed_step) := ⟨rfl, rfl, rfl, by decide +kernel, rfl, by decide +kernel, by decide +kernel⟩
theorem c_signed_step (Z : Ev K mg) : Cl P w K mg base G 9 "signed_step" 1 f_signed_step := by
    have S := sc_signed_step
    refine cl_of (N := N_signed_step) (ps := ["row"]) (b := b_signed_step) (k := 8) Z.d_signed_step S (fun _ _ _ _ _ _ us hl => match us, hl with | [_], _ => rfl) (fun f cdv A outer s H E hr tk ho => ?_)
    exact (bm_one (sm_ret (em_call (c_signed_in Z) tk hr (by omega) (am_cons (em_call (c_sure_signed Z) tk hr (by omega) (am_cons (em_var (pv 0)) am_nil)) am_nil))))
/-! binomials_in -/
abbrev s_binomials_in : Stmt := top 24
abbrev N_binomials_in : List Str := ["times", "found", "own"]
theorem sc_binomials_in : FnScope N_binomials_in ["times"] (defScope s_binomials_in) := ⟨rfl, rfl, rfl, by decide +kernel, rfl, by decide +kernel, by decide +kernel⟩
theorem c_binomials_in (Z : Ev K mg) : Cl P w K mg base G 1 "binomials_in" 1 f_binomials_in := by
    have S := sc_binomials_in
    refine cl_of (N := N_binomials_in) (ps := ["times"]) (b := b_binomials_in) (k := 0) Z.d_binomials_in S (fun _ _ _ _ _ _ us hl => match us, hl with | [_], _ => rfl) (fun f cdv A outer s H E hr tk ho => ?_)
    exact (bm_cons (sm_set S.nd (i := 1) rfl (em_lstR (am_cons em_int am_nil)))
  (bm_cons (sm_for ho rfl (im_rng1 Z.n_range (am_cons (em_var (pv 0)) am_nil)) (gm_name S.nd (i := 2) rfl) (bm_one (sm_expr (em_append (em_var (pv 1)) (am_cons (em_op op_div2 m_div (em_op op_mulS (m_mulS false) (em_ix (em_var (pv 1)) (em_un un_neg m_neg em_int)) (em_op op_sub m_sub (em_var (pv 0)) (em_var (pv 2)))) (em_op op_add4 m_add (em_var (pv 2)) em_int)) am_nil)))))
  (bm_one (sm_ret (em_var (pv 1))))))
/-! folded_in -/
abbrev s_folded_in : Stmt := top 25
abbrev N_folded_in : List Str := ["many", "times", "found", "place", "own"]
theorem sc_folded_in : FnScope N_folded_in ["many", "times"] (defScope s_folded_in) := ⟨rfl, rfl, rfl, by decide +kernel, rfl, by decide +kernel, by decide +kernel⟩
theorem c_folded_in (Z : Ev K mg) : Cl P w K mg base G 2 "folded_in" 2 f_folded_in := by
    have S := sc_folded_in
    refine cl_of (N := N_folded_in) (ps := ["many", "times"]) (b := b_folded_in) (k := 1) Z.d_folded_in S (fun _ _ _ _ _ _ us hl => match us, hl with | [_, _], _ => rfl) (fun f cdv A outer s H E hr tk ho => ?_)
    exact (bm_cons (sm_set S.nd (i := 2) rfl (em_op op_mulS (m_mulS true) (em_lst (am_cons em_int am_nil)) (em_var (pv 0))))
  (bm_cons (sm_for ho rfl (im_enum Z.n_enumerate (am_cons (em_call (c_binomials_in Z) tk hr (by omega) (am_cons (em_var (pv 1)) am_nil)) am_nil)) (gm_unp rfl (gms_cons (gm_name S.nd (i := 3) rfl) (gms_cons (gm_name S.nd (i := 4) rfl) gms_nil))) (bm_one (sm_augPut (em_var (pv 2)) (em_op op_mod m_mod (em_var (pv 3)) (em_var (pv 0))) (em_op op_mulS (m_mulS false) (em_var (pv 4)) (em_op op_sub m_sub em_int (em_op op_mulS (m_mulS false) em_int (em_op op_mod m_mod (em_op op_sub m_sub (em_var (pv 1)) (em_var (pv 3))) em_int)))))))
  (bm_one (sm_ret (em_callTy call_tuple_of m_tup Z.n_tuple rfl (am_cons (em_var (pv 2)) am_nil))))))
/-! signed_far_in -/
abbrev s_signed_far_in : Stmt := top 26
abbrev N_signed_far_in : List Str := ["row", "times", "found", "place", "many", "shares", "spot", "own"]
theorem sc_signed_far_in : FnScope N_signed_far_in ["row", "times"] (defScope s_signed_far_in) := ⟨rfl, rfl, rfl, by decide +kernel, rfl, by decide +kernel, by decide +kernel⟩
theorem c_signed_far_in (Z : Ev K mg) : Cl P w K mg base G 3 "signed_far_in" 2 f_signed_far_in := by
    have S := sc_signed_far_in
    refine cl_of (N := N_signed_far_in) (ps := ["row", "times"]) (b := b_signed_far_in) (k := 2) Z.d_signed_far_in S (fun _ _ _ _ _ _ us hl => match us, hl with | [_, _], _ => rfl) (fun f cdv A outer s H E hr tk ho => ?_)
    exact (bm_cons (sm_asg (em_tup (am_cons (em_callB call_len2 m_len Z.n_len rfl (am_cons (em_var (pv 0)) am_nil)) (am_cons (em_call (c_folded_in Z) tk hr (by omega) (am_cons (em_callB call_len2 m_len Z.n_len rfl (am_cons (em_var (pv 0)) am_nil)) (am_cons (em_var (pv 1)) am_nil))) am_nil))) (gm_unp rfl (gms_cons (gm_name S.nd (i := 4) rfl) (gms_cons (gm_name S.nd (i := 5) rfl) gms_nil))))
  (bm_cons (sm_set S.nd (i := 2) rfl (em_lstR am_nil))
  (bm_cons (sm_for ho rfl (im_rng1 Z.n_range (am_cons (em_var (pv 4)) am_nil)) (gm_name S.nd (i := 3) rfl) (bm_one (sm_expr (em_append (em_var (pv 2)) (am_cons (em_callB (call_sumA rfl) m_sumA Z.n_sum rfl (am_cons (em_comp (own := [("spot", 6), ("own", 7)]) rfl S.nd (im_enum Z.n_enumerate (am_cons (em_var (pv 5)) am_nil)) (blkOk_by (N := N_signed_far_in) (sc := defScope s_signed_far_in) (by decide +kernel)) (fun _ _ _ _ _ => (gm_unp rfl (gms_cons (gm_name S.nd (i := 6) rfl) (gms_cons (gm_name S.nd (i := 7) rfl) gms_nil)))) (fun _ _ _ _ _ => tm_yes) (fun _ _ _ _ _ => (em_op op_mulS (m_mulS false) (em_var (pv 7)) (em_ix (em_var (pv 0)) (em_op op_mod m_mod (em_op op_add4 m_add (em_var (pv 3)) (em_var (pv 6))) (em_var (pv 4))))))) am_nil)) am_nil)))))
  (bm_one (sm_ret (em_callTy call_tuple_of m_tup Z.n_tuple rfl (am_cons (em_var (pv 2)) am_nil)))))))
/-! sure_within -/
abbrev s_sure_within : Stmt := top 5
abbrev N_sure_within : List Str := ["thing", "least", "most"]
theorem sc_sure_within : FnScope N_sure_within ["thing", "least", "most"] (defScope s_sure_within) := ⟨rfl, rfl, rfl, by decide +kernel, rfl, by decide +kernel, by decide +kernel⟩
theorem c_sure_within (Z : Ev K mg) : Cl P w K mg base G 3 "sure_within" 3 f_sure_within := by
    have S := sc_sure_within
    refine cl_of (N := N_sure_within) (ps := ["thing", "least", "most"]) (b := b_sure_within) (k := 2) Z.d_sure_within S (fun _ _ _ _ _ _ us hl => match us, hl with | [_, _, _], _ => rfl) (fun f cdv A outer s H E hr tk ho => ?_)
    exact (bm_cons (sm_if (tm_not (tm_tru (em_call (c_is_within Z) tk hr (by omega) (am_cons (em_var (pv 0)) (am_cons (em_var (pv 1)) (am_cons (em_var (pv 2)) am_nil)))))) (bm_one sm_x) bm_nil)
  (bm_one (sm_ret (em_var (pv 0)))))
/-! signed_far -/
abbrev s_signed_far : Stmt := top 28
abbrev N_signed_far : List Str := ["row", "times", "own"]
theorem sc_signed_far : FnScope N_signed_far ["row", "times"] (defScope s_signed_far) := ⟨rfl, rfl, rfl, by decide +kernel, rfl, by decide +kernel, by decide +kernel⟩
theorem c_signed_far (Z : Ev K mg) : Cl P w K mg base G 9 "signed_far" 2 f_signed_far := by
    have S := sc_signed_far
    obtain ⟨t_MOST_SIGNED_STEPS, e_MOST_SIGNED_STEPS⟩ := Z.i_MOST_SIGNED_STEPS
    refine cl_of (N := N_signed_far) (ps := ["row", "times"]) (b := b_signed_far) (k := 8) Z.d_signed_far S (fun _ _ _ _ _ _ us hl => match us, hl with | [_, _], _ => rfl) (fun f cdv A outer s H E hr tk ho => ?_)
    exact (bm_cons (sm_set S.nd (i := 2) rfl (em_call (c_sure_signed Z) tk hr (by omega) (am_cons (em_var (pv 0)) am_nil)))
  (bm_one (sm_ret (em_call (c_signed_far_in Z) tk hr (by omega) (am_cons (em_var (pv 2)) (am_cons (em_call (c_sure_within Z) tk hr (by omega) (am_cons (em_var (pv 1)) (am_cons em_int (am_cons (em_gv (v := .int 200) e_MOST_SIGNED_STEPS ⟨_, rfl⟩ (fun _ _ => rfl)) am_nil)))) am_nil))))))
/-! sure_many -/
abbrev s_sure_many : Stmt := top 18
abbrev N_sure_many : List Str := ["value"]
theorem sc_sure_many : FnScope N_sure_many ["value"] (defScope s_sure_many) := ⟨rfl, rfl, rfl, by decide +kernel, rfl, by decide +kernel, by decide +kernel⟩
theorem c_sure_many (Z : Ev K mg) : Cl P w K mg base G 4 "sure_many" 1 f_sure_many := by
    have S := sc_sure_many
    obtain ⟨t_LEAST_LONG, e_LEAST_LONG⟩ := Z.i_LEAST_LONG
    obtain ⟨t_MOST_LONG, e_MOST_LONG⟩ := Z.i_MOST_LONG
    refine cl_of (N := N_sure_many) (ps := ["value"]) (b := b_sure_many) (k := 3) Z.d_sure_many S (fun _ _ _ _ _ _ us hl => match us, hl with | [_], _ => rfl) (fun f cdv A outer s H E hr tk ho => ?_)
    exact (bm_one (sm_ret (em_call (c_sure_within Z) tk hr (by omega) (am_cons (em_var (pv 0)) (am_cons (em_gv (v := .int 2) e_LEAST_LONG ⟨_, rfl⟩ (fun _ _ => rfl)) (am_cons (em_gv (v := .int 16) e_MOST_LONG ⟨_, rfl⟩ (fun _ _ => rfl)) am_nil))))))
/-! folded -/
abbrev s_folded : Stmt := top 29
abbrev N_folded : List Str := ["many", "times", "own"]
theorem sc_folded : FnScope N_folded ["many", "times"] (defScope s_folded) := ⟨rfl, rfl, rfl, by decide +kernel, rfl, by decide +kernel, by decide +kernel⟩
theorem c_folded (Z : Ev K mg) : Cl P w K mg base G 5 "folded" 2 f_folded := by
    have S := sc_folded
    obtain ⟨t_MOST_SIGNED_STEPS, e_MOST_SIGNED_STEPS⟩ := Z.i_MOST_SIGNED_STEPS
    refine cl_of (N := N_folded) (ps := ["many", "times"]) (b := b_folded) (k := 4) Z.d_folded S (fun _ _ _ _ _ _ us hl => match us, hl with | [_, _], _ => rfl) (fun f cdv A outer s H E hr tk ho => ?_)
    exact (bm_cons (sm_set S.nd (i := 2) rfl (em_call (c_sure_many Z) tk hr (by omega) (am_cons (em_var (pv 0)) am_nil)))
  (bm_one (sm_ret (em_call (c_folded_in Z) tk hr (by omega) (am_cons (em_var (pv 2)) (am_cons (em_call (c_sure_within Z) tk hr (by omega) (am_cons (em_var (pv 1)) (am_cons em_int (am_cons (em_gv (v := .int 200) e_MOST_SIGNED_STEPS ⟨_, rfl⟩ (fun _ _ => rfl)) am_nil)))) am_nil))))))
/-! sure_mod -/
abbrev s_sure_mod : Stmt := top 33
abbrev N_sure_mod : List Str := ["value"]
theorem sc_sure_mod : FnScope N_sure_mod ["value"] (defScope s_sure_mod) := ⟨rfl, rfl, rfl, by decide +kernel, rfl, by decide +kernel, by decide +kernel⟩
theorem c_sure_mod (Z : Ev K mg) : Cl P w K mg base G 4 "sure_mod" 1 f_sure_mod := by
    have S := sc_sure_mod
    obtain ⟨t_MOST_MOD, e_MOST_MOD⟩ := Z.i_MOST_MOD
    refine cl_of (N := N_sure_mod) (ps := ["value"]) (b := b_sure_mod) (k := 3) Z.d_sure_mod S (fun _ _ _ _ _ _ us hl => match us, hl with | [_], _ => rfl) (fun f cdv A outer s H E hr tk ho => ?_)
    exact (bm_one (sm_ret (em_call (c_sure_within Z) tk hr (by omega) (am_cons (em_var (pv 0)) (am_cons em_int (am_cons (em_gv (v := .int 60) e_MOST_MOD ⟨_, rfl⟩ (fun _ _ => rfl)) am_nil))))))
/-! is_rests_in -/
abbrev s_is_rests_in : Stmt := top 34
abbrev N_is_rests_in : List Str := ["thing", "mod"]
theorem sc_is_rests_in : FnScope N_is_rests_in ["thing", "mod"] (defScope s_is_rests_in) := ⟨rfl, rfl, rfl, by decide +kernel, rfl, by decide +kernel, by decide +kernel⟩
theorem c_is_rests_in (Z : Ev K mg) : Cl P w K mg base G 4 "is_rests_in" 2 f_is_rests_in := by
    have S := sc_is_rests_in
    obtain ⟨t_LEAST_LONG, e_LEAST_LONG⟩ := Z.i_LEAST_LONG
    obtain ⟨t_MOST_LONG, e_MOST_LONG⟩ := Z.i_MOST_LONG
    refine cl_of (N := N_is_rests_in) (ps := ["thing", "mod"]) (b := b_is_rests_in) (k := 3) Z.d_is_rests_in S (fun _ _ _ _ _ _ us hl => match us, hl with | [_, _], _ => rfl) (fun f cdv A outer s H E hr tk ho => ?_)
    exact (bm_one (sm_ret (em_and (em_call (c_are_within Z) tk hr (by omega) (am_cons (em_var (pv 0)) (am_cons em_int (am_cons (em_op op_sub m_sub (em_var (pv 1)) em_int) am_nil)))) (em_one (em_chain op_le (m_cI _) op_le (m_cI _) (em_gv (v := .int 2) e_LEAST_LONG ⟨_, rfl⟩ (fun _ _ => rfl)) (em_callB call_len2 m_len Z.n_len rfl (am_cons (em_var (pv 0)) am_nil)) (em_gv (v := .int 16) e_MOST_LONG ⟨_, rfl⟩ (fun _ _ => rfl)))))))
/-! sure_rests -/
abbrev s_sure_rests : Stmt := top 35
abbrev N_sure_rests : List Str := ["value", "mod", "own"]
theorem sc_sure_rests : FnScope N_sure_rests ["value", "mod"] (defScope s_sure_rests) := ⟨rfl, rfl, rfl, by decide +kernel, rfl, by decide +kernel, by decide +kernel⟩
theorem c_sure_rests (Z : Ev K mg) : Cl P w K mg base G 8 "sure_rests" 2 f_sure_rests := by
    have S := sc_sure_rests
    refine cl_of (N := N_sure_rests) (ps := ["value", "mod"]) (b := b_sure_rests) (k := 7) Z.d_sure_rests S (fun _ _ _ _ _ _ us hl => match us, hl with | [_, _], _ => rfl) (fun f cdv A outer s H E hr tk ho => ?_)
    exact (bm_cons (sm_set S.nd (i := 2) rfl (em_call (c_tupled Z 6) tk hr (by omega) (am_cons (em_var (pv 0)) am_nil)))
  (bm_cons (sm_if (tm_not (tm_tru (em_call (c_is_rests_in Z) tk hr (by omega) (am_cons (em_var (pv 2)) (am_cons (em_var (pv 1)) am_nil))))) (bm_one sm_x) bm_nil)
  (bm_one (sm_ret (em_var (pv 2))))))
/-! rolled -/
abbrev s_rolled : Stmt := top 37
abbrev N_rolled : List Str := ["one", "other", "mod", "many", "found", "place", "own", "spot", "its", "at"]
theorem sc_rolled : FnScope N_rolled ["one", "other", "mod"] (defScope s_rolled) := ⟨rfl, rfl, rfl, by decide +kernel, rfl, by decide +kernel, by decide +kernel⟩
theorem c_rolled (Z : Ev K mg) : Cl P w K mg base G 1 "rolled" 3 f_rolled := by
    have S := sc_rolled
    refine cl_of (N := N_rolled) (ps := ["one", "other", "mod"]) (b := b_rolled) (k := 0) Z.d_rolled S (fun _ _ _ _ _ _ us hl => match us, hl with | [_, _, _], _ => rfl) (fun f cdv A outer s H E hr tk ho => ?_)
    exact (bm_cons (sm_set S.nd (i := 3) rfl (em_callB call_len2 m_len Z.n_len rfl (am_cons (em_var (pv 0)) am_nil)))
  (bm_cons (sm_set S.nd (i := 4) rfl (em_op op_mulS (m_mulS true) (em_lst (am_cons em_int am_nil)) (em_var (pv 3))))
  (bm_cons (sm_for ho rfl (im_enum Z.n_enumerate (am_cons (em_var (pv 0)) am_nil)) (gm_unp rfl (gms_cons (gm_name S.nd (i := 5) rfl) (gms_cons (gm_name S.nd (i := 6) rfl) gms_nil))) (bm_one (sm_for ho rfl (im_enum Z.n_enumerate (am_cons (em_var (pv 1)) am_nil)) (gm_unp rfl (gms_cons (gm_name S.nd (i := 7) rfl) (gms_cons (gm_name S.nd (i := 8) rfl) gms_nil))) (bm_cons (sm_set S.nd (i := 9) rfl (em_op op_mod m_mod (em_op op_add4 m_add (em_var (pv 5)) (em_var (pv 7))) (em_var (pv 3))))
  (bm_one (sm_asg (em_op op_mod m_mod (em_op op_add4 m_add (em_ix (em_var (pv 4)) (em_var (pv 9))) (em_op op_mulS (m_mulS false) (em_var (pv 6)) (em_var (pv 8)))) (em_var (pv 2))) (gm_put (em_var (pv 4)) (em_var (pv 9)))))))))
  (bm_one (sm_ret (em_callTy call_tuple_of m_tup Z.n_tuple rfl (am_cons (em_var (pv 4)) am_nil)))))))
/-! shares_in -/
abbrev s_shares_in : Stmt := top 38
abbrev N_shares_in : List Str := ["many", "mod", "times", "own", "found", "left"]
theorem sc_shares_in : FnScope N_shares_in ["many", "mod", "times"] (defScope s_shares_in) := ⟨rfl, rfl, rfl, by decide +kernel, rfl, by decide +kernel, by decide +kernel⟩
theorem c_shares_in (Z : Ev K mg) : Cl P w K mg base G 2 "shares_in" 3 f_shares_in := by
    have S := sc_shares_in
    refine cl_of (N := N_shares_in) (ps := ["many", "mod", "times"]) (b := b_shares_in) (k := 1) Z.d_shares_in S (fun _ _ _ _ _ _ us hl => match us, hl with | [_, _, _], _ => rfl) (fun f cdv A outer s H E hr tk ho => ?_)
    have HU := hr.units
    exact (bm_cons (sm_par rfl S.nd (i := 4) (j := 5) rfl rfl (am_cons (em_op op_add4 m_add (em_tup (am_cons em_int am_nil)) (em_op op_mulS (m_mulS false) (em_tup (am_cons em_int am_nil)) (em_op op_sub m_sub (em_var (pv 0)) em_int))) (am_cons (em_var (pv 2)) am_nil)))
  (bm_cons (sm_set S.nd (i := 3) rfl (em_op op_add4 m_add (em_tup (am_cons em_int (am_cons em_int am_nil))) (em_op op_mulS (m_mulS false) (em_tup (am_cons em_int am_nil)) (em_op op_sub m_sub (em_var (pv 0)) em_int))))
  (bm_cons (sm_while 4096 ho (tm_cmp op_gt (m_cI _) (em_var (pv 5)) em_int (nomark _)) (bm_cons (sm_if (tm_cmp (op_eqD HU) m_eq (em_op op_mod m_mod (em_var (pv 5)) em_int) em_int (nomark _)) (bm_one (sm_set S.nd (i := 4) rfl (em_call (c_rolled Z) tk hr (by omega) (am_cons (em_var (pv 4)) (am_cons (em_var (pv 3)) (am_cons (em_var (pv 1)) am_nil)))))) bm_nil)
  (bm_one (sm_par rfl S.nd (i := 3) (j := 5) rfl rfl (am_cons (em_call (c_rolled Z) tk hr (by omega) (am_cons (em_var (pv 3)) (am_cons (em_var (pv 3)) (am_cons (em_var (pv 1)) am_nil)))) (am_cons (em_op op_div2 m_div (em_var (pv 5)) em_int) am_nil))))))
  (bm_one (sm_ret (em_var (pv 4)))))))
/-! mod_far_in -/
abbrev s_mod_far_in : Stmt := top 39
abbrev N_mod_far_in : List Str := ["rests", "mod", "times", "found", "place", "many", "shares", "spot", "own"]
theorem sc_mod_far_in : FnScope N_mod_far_in ["rests", "mod", "times"] (defScope s_mod_far_in) := ⟨rfl, rfl, rfl, by decide +kernel, rfl, by decide +kernel, by decide +kernel⟩
theorem c_mod_far_in (Z : Ev K mg) : Cl P w K mg base G 3 "mod_far_in" 3 f_mod_far_in := by
    have S := sc_mod_far_in
    refine cl_of (N := N_mod_far_in) (ps := ["rests", "mod", "times"]) (b := b_mod_far_in) (k := 2) Z.d_mod_far_in S (fun _ _ _ _ _ _ us hl => match us, hl with | [_, _, _], _ => rfl) (fun f cdv A outer s H E hr tk ho => ?_)
    exact (bm_cons (sm_asg (em_tup (am_cons (em_callB call_len2 m_len Z.n_len rfl (am_cons (em_var (pv 0)) am_nil)) (am_cons (em_call (c_shares_in Z) tk hr (by omega) (am_cons (em_callB call_len2 m_len Z.n_len rfl (am_cons (em_var (pv 0)) am_nil)) (am_cons (em_var (pv 1)) (am_cons (em_var (pv 2)) am_nil)))) am_nil))) (gm_unp rfl (gms_cons (gm_name S.nd (i := 5) rfl) (gms_cons (gm_name S.nd (i := 6) rfl) gms_nil))))
  (bm_cons (sm_set S.nd (i := 3) rfl (em_lstR am_nil))
  (bm_cons (sm_for ho rfl (im_rng1 Z.n_range (am_cons (em_var (pv 5)) am_nil)) (gm_name S.nd (i := 4) rfl) (bm_one (sm_expr (em_append (em_var (pv 3)) (am_cons (em_op op_mod m_mod (em_callB (call_sumA rfl) m_sumA Z.n_sum rfl (am_cons (em_comp (own := [("spot", 7), ("own", 8)]) rfl S.nd (im_enum Z.n_enumerate (am_cons (em_var (pv 6)) am_nil)) (blkOk_by (N := N_mod_far_in) (sc := defScope s_mod_far_in) (by decide +kernel)) (fun _ _ _ _ _ => (gm_unp rfl (gms_cons (gm_name S.nd (i := 7) rfl) (gms_cons (gm_name S.nd (i := 8) rfl) gms_nil)))) (fun _ _ _ _ _ => tm_yes) (fun _ _ _ _ _ => (em_op op_mulS (m_mulS false) (em_var (pv 8)) (em_ix (em_var (pv 0)) (em_op op_mod m_mod (em_op op_add4 m_add (em_var (pv 4)) (em_var (pv 7))) (em_var (pv 5))))))) am_nil)) (em_var (pv 1))) am_nil)))))
  (bm_one (sm_ret (em_callTy call_tuple_of m_tup Z.n_tuple rfl (am_cons (em_var (pv 3)) am_nil)))))))
/-! mod_far -/
abbrev s_mod_far : Stmt := top 41
abbrev N_mod_far : List Str := ["ring", "mod", "times", "by", "own"]
theorem sc_mod_far : FnScope N_mod_far ["ring", "mod", "times"] (defScope s_mod_far) := ⟨rfl, rfl, rfl, by decide +kernel, rfl, by decide +kernel, by decide +kernel⟩
theorem c_mod_far (Z : Ev K mg) : Cl P w K mg base G 9 "mod_far" 3 f_mod_far := by
    have S := sc_mod_far
    obtain ⟨t_MOST_POWER, e_MOST_POWER⟩ := Z.i_MOST_POWER
    refine cl_of (N := N_mod_far) (ps := ["ring", "mod", "times"]) (b := b_mod_far) (k := 8) Z.d_mod_far S (fun _ _ _ _ _ _ us hl => match us, hl with | [_, _, _], _ => rfl) (fun f cdv A outer s H E hr tk ho => ?_)
    exact (bm_cons (sm_set S.nd (i := 3) rfl (em_call (c_sure_mod Z) tk hr (by omega) (am_cons (em_var (pv 1)) am_nil)))
  (bm_cons (sm_set S.nd (i := 4) rfl (em_call (c_sure_rests Z) tk hr (by omega) (am_cons (em_var (pv 0)) (am_cons (em_var (pv 3)) am_nil))))
  (bm_one (sm_ret (em_call (c_mod_far_in Z) tk hr (by omega) (am_cons (em_var (pv 4)) (am_cons (em_var (pv 3)) (am_cons (em_call (c_sure_within Z) tk hr (by omega) (am_cons (em_var (pv 2)) (am_cons em_int (am_cons (em_gv (v := .int 1000000000000000000) e_MOST_POWER ⟨_, rfl⟩ (fun _ _ => rfl)) am_nil)))) am_nil))))))))
/-! _law_same -/
abbrev s__law_same : Stmt := top 47
abbrev N__law_same : List Str := ["got", "due", "mine", "its"]
theorem sc__law_same : FnScope N__law_same ["got", "due"] (defScope s__law_same) := ⟨rfl, rfl, rfl, by decide +kernel, rfl, by decide +kernel, by decide +kernel⟩
theorem c__law_same (Z : Ev K mg) : ∀ d, Cl P w K mg base G (1 + d) "_law_same" 2 (f__law_same d)
  | 0 => cl_of (k := 0) Z.d__law_same sc__law_same (fun _ _ _ _ _ _ us hl => match us, hl with | [_, _], _ => rfl) (fun _ _ _ _ _ _ _ _ _ _ => bm_x)
  | d + 1 => by
    have cr := c__law_same Z d
    have S := sc__law_same
    refine cl_of (N := N__law_same) (ps := ["got", "due"]) (b := b__law_same (f__law_same d)) (k := 1 + d) Z.d__law_same S (fun _ _ _ _ _ _ us hl => match us, hl with | [_, _], _ => rfl) (fun f cdv A outer s H E hr tk ho => ?_)
    have HU := hr.units
    exact (bm_cons (sm_if (tm_tru (em_callB call_isi3 m_isi Z.n_isinstance rfl (am_cons (em_var (pv 1)) (am_cons (em_tup (am_cons (em_ty Z.n_list rfl) (am_cons (em_ty Z.n_tuple rfl) am_nil))) am_nil)))) (bm_cons (sm_if (tm_w (wm_or (tm_cmp (op_neD HU) m_ne (em_callB call_isi3 m_isi Z.n_isinstance rfl (am_cons (em_var (pv 0)) (am_cons (em_ty Z.n_list rfl) am_nil))) (em_callB call_isi3 m_isi Z.n_isinstance rfl (am_cons (em_var (pv 1)) (am_cons (em_ty Z.n_list rfl) am_nil))) (nomark _)) (wm_or1 (tm_cmp (op_neD HU) m_ne (em_callB call_isi3 m_isi Z.n_isinstance rfl (am_cons (em_var (pv 0)) (am_cons (em_ty Z.n_tuple rfl) am_nil))) (em_callB call_isi3 m_isi Z.n_isinstance rfl (am_cons (em_var (pv 1)) (am_cons (em_ty Z.n_tuple rfl) am_nil))) (nomark _))))) (bm_one (sm_ret em_bl)) bm_nil)
  (bm_one (sm_ret (em_and (em_cmp (op_eqD HU) m_eq (em_callB call_len2 m_len Z.n_len rfl (am_cons (em_var (pv 0)) am_nil)) (em_callB call_len2 m_len Z.n_len rfl (am_cons (em_var (pv 1)) am_nil)) (nomark _)) (em_one (em_callB (cr_all rfl) m_all Z.n_all rfl (am_cons (em_comp (own := [("mine", 2), ("its", 3)]) rfl S.nd (im_zip Z.n_zip (am_cons (em_var (pv 0)) (am_cons (em_var (pv 1)) am_nil))) (blkOk_by (N := N__law_same) (sc := defScope s__law_same) (by decide +kernel)) (fun _ _ _ _ _ => (gm_unp rfl (gms_cons (gm_name S.nd (i := 2) rfl) (gms_cons (gm_name S.nd (i := 3) rfl) gms_nil)))) (fun _ _ _ _ _ => tm_yes) (fun _ _ _ _ _ => (em_call cr takes0 hr (by omega) (am_cons (em_var (pv 2)) (am_cons (em_var (pv 3)) am_nil))))) am_nil))))))) bm_nil)
  (bm_cons (sm_if (tm_cmp op_isN m_isN (em_var (pv 1)) em_non (nomark _)) (bm_one (sm_ret (em_cmp op_isN m_isN (em_var (pv 0)) em_non (nomark _)))) bm_nil)
  (bm_cons (sm_if (tm_tru (em_callB call_isi3 m_isi Z.n_isinstance rfl (am_cons (em_var (pv 1)) (am_cons (em_tup (am_cons (em_ty Z.n_bool rfl) (am_cons (em_ty Z.n_str rfl) am_nil))) am_nil)))) (bm_one (sm_ret (em_and (em_cmp (op_eqD HU) m_eq (em_callB call_isi3 m_isi Z.n_isinstance rfl (am_cons (em_var (pv 0)) (am_cons (em_ty Z.n_bool rfl) am_nil))) (em_callB call_isi3 m_isi Z.n_isinstance rfl (am_cons (em_var (pv 1)) (am_cons (em_ty Z.n_bool rfl) am_nil))) (nomark _)) (em_and (em_cmp (op_eqD HU) m_eq (em_callB call_isi3 m_isi Z.n_isinstance rfl (am_cons (em_var (pv 0)) (am_cons (em_ty Z.n_str rfl) am_nil))) (em_callB call_isi3 m_isi Z.n_isinstance rfl (am_cons (em_var (pv 1)) (am_cons (em_ty Z.n_str rfl) am_nil))) (nomark _)) (em_one (em_cmp (op_eqD HU) m_eq (em_var (pv 0)) (em_var (pv 1)) (nomark _))))))) bm_nil)
  (bm_one (sm_ret (em_and (em_callB call_isi3 m_isi Z.n_isinstance rfl (am_cons (em_var (pv 0)) (am_cons (em_ty Z.n_int rfl) am_nil))) (em_and (em_not (em_callB call_isi3 m_isi Z.n_isinstance rfl (am_cons (em_var (pv 0)) (am_cons (em_ty Z.n_bool rfl) am_nil)))) (em_one (em_cmp (op_eqD HU) m_eq (em_var (pv 0)) (em_var (pv 1)) (nomark _))))))))))
/-! _law_take -/
abbrev s__law_take : Stmt := top 44
abbrev N__law_take : List Str := ["tin", "below_so", "once_so", "wide_so", "twice_so", "drawn_so"]
theorem sc__law_take : FnScope N__law_take ["tin", "below_so"] (defScope s__law_take) := ⟨rfl, rfl, rfl, by decide +kernel, rfl, by decide +kernel, by decide +kernel⟩
theorem c__law_take (Z : Ev K mg) : Cl P w K mg base G 1 "_law_take" 2 f__law_take := by
    have S := sc__law_take
    refine cl_of (N := N__law_take) (ps := ["tin", "below_so"]) (b := b__law_take) (k := 0) Z.d__law_take S (fun _ _ _ _ _ _ us hl => match us, hl with | [_, _], _ => rfl) (fun f cdv A outer s H E hr tk ho => ?_)
    exact (bm_cons (sm_if (tm_cmp op_gt (m_cI _) (em_ix (em_var (pv 0)) em_int) em_int (nomark _)) (bm_cons (sm_set S.nd (i := 5) rfl (em_op op_mod m_mod (em_callTy call_int1 m_int Z.n_int rfl (am_cons (em_ix (em_var (pv 0)) em_int) am_nil)) (em_var (pv 1))))
  (bm_cons (sm_asg (em_op op_div2 m_div (em_ix (em_var (pv 0)) em_int) (em_var (pv 1))) (gm_put (em_var (pv 0)) em_int))
  (bm_one (sm_ret (em_var (pv 5)))))) bm_nil)
  (bm_cons (sm_asg (em_op op_add4 m_add (em_ix (em_var (pv 0)) em_int) em_int) (gm_put (em_var (pv 0)) em_int))
  (bm_cons (sm_set S.nd (i := 2) rfl (em_op op_mod m_mod (em_callTy call_int1 m_int Z.n_int rfl (am_cons (em_op op_mulS (m_mulS false) (em_op op_add4 m_add (em_ix (em_var (pv 0)) em_int) (em_op op_mulS (m_mulS false) em_int (em_ix (em_var (pv 0)) em_int))) (em_op op_add4 m_add em_int (em_ix (em_var (pv 0)) em_int))) am_nil)) em_int))
  (bm_cons (sm_set S.nd (i := 3) rfl (em_op op_add4 m_add (em_op op_mod m_mod (em_callTy call_int1 m_int Z.n_int rfl (am_cons (em_var (pv 2)) am_nil)) em_int) em_int))
  (bm_cons (sm_set S.nd (i := 4) rfl (em_op op_mod m_mod (em_callTy call_int1 m_int Z.n_int rfl (am_cons (em_op op_mulS (m_mulS false) (em_op op_add4 m_add (em_op op_add4 m_add (em_var (pv 2)) (em_ix (em_var (pv 0)) em_int)) (em_op op_div2 m_div (em_ix (em_var (pv 0)) em_int) em_int)) (em_var (pv 3))) am_nil)) em_int))
  (bm_one (sm_ret (em_op op_mod m_mod (em_callTy call_int1 m_int Z.n_int rfl (am_cons (em_op op_div2 m_div (em_op op_mod m_mod (em_callTy call_int1 m_int Z.n_int rfl (am_cons (em_op op_add4 m_add (em_op op_mulS (m_mulS false) (em_var (pv 4)) em_int) (em_var (pv 2))) am_nil)) em_int) em_int) am_nil)) (em_var (pv 1))))))))))
/-! _law_mixed -/
abbrev s__law_mixed : Stmt := top 46
abbrev N__law_mixed : List Str := ["tin", "matter", "row_so", "bit"]
theorem sc__law_mixed : FnScope N__law_mixed ["tin", "matter"] (defScope s__law_mixed) := ⟨rfl, rfl, rfl, by decide +kernel, rfl, by decide +kernel, by decide +kernel⟩
theorem c__law_mixed (Z : Ev K mg) : ∀ d, Cl P w K mg base G (2 + d) "_law_mixed" 2 (f__law_mixed d)
  | 0 => cl_of (k := 1) Z.d__law_mixed sc__law_mixed (fun _ _ _ _ _ _ us hl => match us, hl with | [_, _], _ => rfl) (fun _ _ _ _ _ _ _ _ _ _ => bm_x)
  | d + 1 => by
    have cr := c__law_mixed Z d
    have S := sc__law_mixed
    refine cl_of (N := N__law_mixed) (ps := ["tin", "matter"]) (b := b__law_mixed (f__law_mixed d)) (k := 2 + d) Z.d__law_mixed S (fun _ _ _ _ _ _ us hl => match us, hl with | [_, _], _ => rfl) (fun f cdv A outer s H E hr tk ho => ?_)
    have HU := hr.units
    exact (bm_cons (sm_if (tm_not (tm_tru (em_callB call_isi3 m_isi Z.n_isinstance rfl (am_cons (em_var (pv 1)) (am_cons (em_tup (am_cons (em_ty Z.n_list rfl) (am_cons (em_ty Z.n_tuple rfl) am_nil))) am_nil))))) (bm_one (sm_ret (em_var (pv 1)))) bm_nil)
  (bm_cons (sm_setLc (own := [("bit", 3)]) rfl S.nd (im_iter (em_var (pv 1))) (blkOk_by (N := N__law_mixed) (sc := defScope s__law_mixed) (by decide +kernel)) (fun _ _ _ _ _ => (gm_name S.nd (i := 3) rfl)) (fun _ _ _ _ _ => tm_yes) (fun _ _ _ _ _ => (em_call cr takes0 hr (by omega) (am_cons (em_var (pv 0)) (am_cons (em_var (pv 3)) am_nil)))) (i := 2) (hy := rfl) (hyl := rfl) (hsw := sw_true rfl rfl rfl (by decide +kernel)))
  (bm_one (sm_ret (em_if (tm_cmp (op_eqD HU) m_eq (em_call (c__law_take Z) tk hr (by omega) (am_cons (em_var (pv 0)) (am_cons em_int am_nil))) em_int (nomark _)) (em_var (pv 2)) (em_callTy call_tuple_of m_tup Z.n_tuple rfl (am_cons (em_var (pv 2)) am_nil)))))))
/-! _law_alt -/
abbrev s__law_alt : Stmt := top 48
abbrev N__law_alt : List Str := ["row_so", "k", "own"]
theorem sc__law_alt : FnScope N__law_alt ["row_so"] (defScope s__law_alt) := ⟨rfl, rfl, rfl, by decide +kernel, rfl, by decide +kernel, by decide +kernel⟩
theorem c__law_alt (Z : Ev K mg) : Cl P w K mg base G 1 "_law_alt" 1 f__law_alt := by
    have S := sc__law_alt
    refine cl_of (N := N__law_alt) (ps := ["row_so"]) (b := b__law_alt) (k := 0) Z.d__law_alt S (fun _ _ _ _ _ _ us hl => match us, hl with | [_], _ => rfl) (fun f cdv A outer s H E hr tk ho => ?_)
    exact (bm_one (sm_ret (em_callTy call_tuple_of m_tup Z.n_tuple rfl (am_cons (em_comp (own := [("k", 1), ("own", 2)]) rfl S.nd (im_enum Z.n_enumerate (am_cons (em_var (pv 0)) am_nil)) (blkOk_by (N := N__law_alt) (sc := defScope s__law_alt) (by decide +kernel)) (fun _ _ _ _ _ => (gm_unp rfl (gms_cons (gm_name S.nd (i := 1) rfl) (gms_cons (gm_name S.nd (i := 2) rfl) gms_nil)))) (fun _ _ _ _ _ => tm_yes) (fun _ _ _ _ _ => (em_op op_mulS (m_mulS false) (em_var (pv 2)) (em_op op_sub m_sub em_int (em_op op_mulS (m_mulS false) em_int (em_op op_mod m_mod (em_var (pv 1)) em_int)))))) am_nil))))
/-! summed -/
abbrev s_summed : Stmt := top 36
abbrev N_summed : List Str := ["rests", "mod", "one", "other"]
theorem sc_summed : FnScope N_summed ["rests", "mod"] (defScope s_summed) := ⟨rfl, rfl, rfl, by decide +kernel, rfl, by decide +kernel, by decide +kernel⟩
theorem c_summed (Z : Ev K mg) : Cl P w K mg base G 1 "summed" 2 f_summed := by
    have S := sc_summed
    refine cl_of (N := N_summed) (ps := ["rests", "mod"]) (b := b_summed) (k := 0) Z.d_summed S (fun _ _ _ _ _ _ us hl => match us, hl with | [_, _], _ => rfl) (fun f cdv A outer s H E hr tk ho => ?_)
    exact (bm_one (sm_ret (em_callTy call_tuple_of m_tup Z.n_tuple rfl (am_cons (em_comp (own := [("one", 2), ("other", 3)]) rfl S.nd (im_zip Z.n_zip (am_cons (em_var (pv 0)) (am_cons (em_op op_add4 m_add (em_sl (em_var (pv 0)) (om_part em_int) om_no) (em_sl (em_var (pv 0)) om_no (om_part em_int))) am_nil))) (blkOk_by (N := N_summed) (sc := defScope s_summed) (by decide +kernel)) (fun _ _ _ _ _ => (gm_unp rfl (gms_cons (gm_name S.nd (i := 2) rfl) (gms_cons (gm_name S.nd (i := 3) rfl) gms_nil)))) (fun _ _ _ _ _ => tm_yes) (fun _ _ _ _ _ => (em_op op_mod m_mod (em_op op_add4 m_add (em_var (pv 2)) (em_var (pv 3))) (em_var (pv 1))))) am_nil))))
/-! mod_step -/
abbrev s_mod_step : Stmt := top 40
abbrev N_mod_step : List Str := ["ring", "mod", "by"]
theorem sc_mod_step : FnScope N_mod_step ["ring", "mod"] (defScope s_mod_step) := ⟨rfl, rfl, rfl, by decide +kernel, rfl, by decide +kernel, by decide +kernel⟩
theorem c_mod_step (Z : Ev K mg) : Cl P w K mg base G 9 "mod_step" 2 f_mod_step := by
    have S := sc_mod_step
    refine cl_of (N := N_mod_step) (ps := ["ring", "mod"]) (b := b_mod_step) (k := 8) Z.d_mod_step S (fun _ _ _ _ _ _ us hl => match us, hl with | [_, _], _ => rfl) (fun f cdv A outer s H E hr tk ho => ?_)
    exact (bm_cons (sm_set S.nd (i := 2) rfl (em_call (c_sure_mod Z) tk hr (by omega) (am_cons (em_var (pv 1)) am_nil)))
  (bm_one (sm_ret (em_call (c_summed Z) tk hr (by omega) (am_cons (em_call (c_sure_rests Z) tk hr (by omega) (am_cons (em_var (pv 0)) (am_cons (em_var (pv 2)) am_nil))) (am_cons (em_var (pv 2)) am_nil))))))
/-! bare -/
abbrev s_bare : Stmt := top 30
abbrev N_bare : List Str := ["row", "own"]
theorem sc_bare : FnScope N_bare ["row"] (defScope s_bare) := ⟨rfl, rfl, rfl, by decide +kernel, rfl, by decide +kernel, by decide +kernel⟩
theorem c_bare (Z : Ev K mg) : Cl P w K mg base G 9 "bare" 1 f_bare := by
    have S := sc_bare
    refine cl_of (N := N_bare) (ps := ["row"]) (b := b_bare) (k := 8) Z.d_bare S (fun _ _ _ _ _ _ us hl => match us, hl with | [_], _ => rfl) (fun f cdv A outer s H E hr tk ho => ?_)
    exact (bm_one (sm_ret (em_callTy call_tuple_of m_tup Z.n_tuple rfl (am_cons (em_comp (own := [("own", 1)]) rfl S.nd (im_iter (em_call (c_sure_signed Z) tk hr (by omega) (am_cons (em_var (pv 0)) am_nil))) (blkOk_by (N := N_bare) (sc := defScope s_bare) (by decide +kernel)) (fun _ _ _ _ _ => (gm_name S.nd (i := 1) rfl)) (fun _ _ _ _ _ => tm_yes) (fun _ _ _ _ _ => (em_callB call_abs m_abs Z.n_abs rfl (am_cons (em_var (pv 1)) am_nil)))) am_nil))))
/-! step_in -/
abbrev s_step_in : Stmt := top 15
abbrev N_step_in : List Str := ["ring", "one", "other"]
theorem sc_step_in : FnScope N_step_in ["ring"] (defScope s_step_in) := ⟨rfl, rfl, rfl, by decide +kernel, rfl, by decide +kernel, by decide +kernel⟩
theorem c_step_in (Z : Ev K mg) : Cl P w K mg base G 1 "step_in" 1 f_step_in := by
    have S := sc_step_in
    refine cl_of (N := N_step_in) (ps := ["ring"]) (b := b_step_in) (k := 0) Z.d_step_in S (fun _ _ _ _ _ _ us hl => match us, hl with | [_], _ => rfl) (fun f cdv A outer s H E hr tk ho => ?_)
    exact (bm_one (sm_ret (em_callTy call_tuple_of m_tup Z.n_tuple rfl (am_cons (em_comp (own := [("one", 1), ("other", 2)]) rfl S.nd (im_zip Z.n_zip (am_cons (em_var (pv 0)) (am_cons (em_op op_add4 m_add (em_sl (em_var (pv 0)) (om_part em_int) om_no) (em_sl (em_var (pv 0)) om_no (om_part em_int))) am_nil))) (blkOk_by (N := N_step_in) (sc := defScope s_step_in) (by decide +kernel)) (fun _ _ _ _ _ => (gm_unp rfl (gms_cons (gm_name S.nd (i := 1) rfl) (gms_cons (gm_name S.nd (i := 2) rfl) gms_nil)))) (fun _ _ _ _ _ => tm_yes) (fun _ _ _ _ _ => (em_callB call_abs m_abs Z.n_abs rfl (am_cons (em_op op_sub m_sub (em_var (pv 1)) (em_var (pv 2))) am_nil)))) am_nil))))
/-! is_ring_in -/
abbrev s_is_ring_in : Stmt := top 13
abbrev N_is_ring_in : List Str := ["thing"]
theorem sc_is_ring_in : FnScope N_is_ring_in ["thing"] (defScope s_is_ring_in) := ⟨rfl, rfl, rfl, by decide +kernel, rfl, by decide +kernel, by decide +kernel⟩
theorem c_is_ring_in (Z : Ev K mg) : Cl P w K mg base G 4 "is_ring_in" 1 f_is_ring_in := by
    have S := sc_is_ring_in
    obtain ⟨t_LEAST_LONG, e_LEAST_LONG⟩ := Z.i_LEAST_LONG
    obtain ⟨t_MOST_LONG, e_MOST_LONG⟩ := Z.i_MOST_LONG
    obtain ⟨t_MOST_NUMBER, e_MOST_NUMBER⟩ := Z.i_MOST_NUMBER
    refine cl_of (N := N_is_ring_in) (ps := ["thing"]) (b := b_is_ring_in) (k := 3) Z.d_is_ring_in S (fun _ _ _ _ _ _ us hl => match us, hl with | [_], _ => rfl) (fun f cdv A outer s H E hr tk ho => ?_)
    exact (bm_one (sm_ret (em_and (em_call (c_are_within Z) tk hr (by omega) (am_cons (em_var (pv 0)) (am_cons em_int (am_cons (em_gv (v := .int 1000000000000000000000000000000) e_MOST_NUMBER ⟨_, rfl⟩ (fun _ _ => rfl)) am_nil)))) (em_one (em_chain op_le (m_cI _) op_le (m_cI _) (em_gv (v := .int 2) e_LEAST_LONG ⟨_, rfl⟩ (fun _ _ => rfl)) (em_callB call_len2 m_len Z.n_len rfl (am_cons (em_var (pv 0)) am_nil)) (em_gv (v := .int 16) e_MOST_LONG ⟨_, rfl⟩ (fun _ _ => rfl)))))))
/-! sure_ring -/
abbrev s_sure_ring : Stmt := top 14
abbrev N_sure_ring : List Str := ["value", "own"]
theorem sc_sure_ring : FnScope N_sure_ring ["value"] (defScope s_sure_ring) := ⟨rfl, rfl, rfl, by decide +kernel, rfl, by decide +kernel, by decide +kernel⟩
theorem c_sure_ring (Z : Ev K mg) : Cl P w K mg base G 8 "sure_ring" 1 f_sure_ring := by
    have S := sc_sure_ring
    refine cl_of (N := N_sure_ring) (ps := ["value"]) (b := b_sure_ring) (k := 7) Z.d_sure_ring S (fun _ _ _ _ _ _ us hl => match us, hl with | [_], _ => rfl) (fun f cdv A outer s H E hr tk ho => ?_)
    exact (bm_cons (sm_set S.nd (i := 1) rfl (em_call (c_tupled Z 6) tk hr (by omega) (am_cons (em_var (pv 0)) am_nil)))
  (bm_cons (sm_if (tm_not (tm_tru (em_call (c_is_ring_in Z) tk hr (by omega) (am_cons (em_var (pv 1)) am_nil)))) (bm_one sm_x) bm_nil)
  (bm_one (sm_ret (em_var (pv 1))))))
/-! step -/
abbrev s_step : Stmt := top 16
abbrev N_step : List Str := ["ring"]
theorem sc_step : FnScope N_step ["ring"] (defScope s_step) := ⟨rfl, rfl, rfl, by decide +kernel, rfl, by decide +kernel, by decide +kernel⟩
theorem c_step (Z : Ev K mg) : Cl P w K mg base G 9 "step" 1 f_step := by
    have S := sc_step
    refine cl_of (N := N_step) (ps := ["ring"]) (b := b_step) (k := 8) Z.d_step S (fun _ _ _ _ _ _ us hl => match us, hl with | [_], _ => rfl) (fun f cdv A outer s H E hr tk ho => ?_)
    exact (bm_one (sm_ret (em_call (c_step_in Z) tk hr (by omega) (am_cons (em_call (c_sure_ring Z) tk hr (by omega) (am_cons (em_var (pv 0)) am_nil)) am_nil))))
/-! _law_sum -/
abbrev s__law_sum : Stmt := top 50
abbrev N__law_sum : List Str := ["one", "two", "a", "b"]
theorem sc__law_sum : FnScope N__law_sum ["one", "two"] (defScope s__law_sum) := ⟨rfl, rfl, rfl, by decide +kernel, rfl, by decide +kernel, by decide +kernel⟩
theorem c__law_sum (Z : Ev K mg) : Cl P w K mg base G 1 "_law_sum" 2 f__law_sum := by
    have S := sc__law_sum
    refine cl_of (N := N__law_sum) (ps := ["one", "two"]) (b := b__law_sum) (k := 0) Z.d__law_sum S (fun _ _ _ _ _ _ us hl => match us, hl with | [_, _], _ => rfl) (fun f cdv A outer s H E hr tk ho => ?_)
    exact (bm_one (sm_ret (em_callB (call_sumA rfl) m_sumA Z.n_sum rfl (am_cons (em_comp (own := [("a", 2), ("b", 3)]) rfl S.nd (im_zip Z.n_zip (am_cons (em_var (pv 0)) (am_cons (em_var (pv 1)) am_nil))) (blkOk_by (N := N__law_sum) (sc := defScope s__law_sum) (by decide +kernel)) (fun _ _ _ _ _ => (gm_unp rfl (gms_cons (gm_name S.nd (i := 2) rfl) (gms_cons (gm_name S.nd (i := 3) rfl) gms_nil)))) (fun _ _ _ _ _ => tm_yes) (fun _ _ _ _ _ => (em_op op_mulS (m_mulS false) (em_var (pv 2)) (em_var (pv 3))))) am_nil))))
/-! _law_right -/
abbrev s__law_right : Stmt := top 49
abbrev N__law_right : List Str := ["tin", "long_so", "far_so", "rests_so", "by_so", "due", "both_so", "near", "shares_so", "few_so", "ring_so", "mod_so", "times_so", "row_so", "other_so", "a", "b", "lap", "own", "k", "x", "y"]
theorem sc__law_right : FnScope N__law_right ["tin"] (defScope s__law_right) := ⟨rfl, rfl, rfl, by decide +kernel, rfl, by decide +kernel, by decide +kernel⟩
theorem c__law_right (Z : Ev K mg) : Cl P w K mg base G 10 "_law_right" 1 f__law_right_k61 := by
    have S := sc__law_right
    refine cl_of (N := N__law_right) (ps := ["tin"]) (b := b__law_right_k61) (k := 9) Z.d__law_right S (fun _ _ _ _ _ _ us hl => match us, hl with | [_], _ => rfl) (fun f cdv A outer s H E hr tk ho => ?_)
    have HU := hr.units
    exact (bm_cons (sm_set S.nd (i := 1) rfl (em_op op_mulS (m_mulS false) em_int (em_op op_add4 m_add em_int (em_call (c__law_take Z) tk hr (by omega) (am_cons (em_var (pv 0)) (am_cons em_int am_nil))))))
  (bm_cons (sm_asg (em_tup (am_cons (em_op op_add4 m_add em_int (em_call (c__law_take Z) tk hr (by omega) (am_cons (em_var (pv 0)) (am_cons em_int am_nil)))) (am_cons (em_call (c__law_take Z) tk hr (by omega) (am_cons (em_var (pv 0)) (am_cons em_int am_nil))) am_nil))) (gm_unp rfl (gms_cons (gm_name S.nd (i := 11) rfl) (gms_cons (gm_name S.nd (i := 12) rfl) gms_nil))))
  (bm_cons (sm_asg (em_comp (own := [("lap", 17)]) rfl S.nd (im_iter (em_tup (am_cons em_int (am_cons em_int am_nil)))) (blkOk_by (N := N__law_right) (sc := defScope s__law_right) (by decide +kernel)) (fun _ _ _ _ _ => (gm_name S.nd (i := 17) rfl)) (fun _ _ _ _ _ => tm_yes) (fun _ _ _ _ _ => (em_callTy call_tuple_of m_tup Z.n_tuple rfl (am_cons (em_comp (own := [("k", 19)]) rfl S.nd (im_rng1 Z.n_range (am_cons (em_var (pv 1)) am_nil)) (blkOk_in (N := N__law_right) (sc0 := defScope s__law_right) (by decide +kernel)) (fun _ _ _ _ _ => (gm_name S.nd (i := 19) rfl)) (fun _ _ _ _ _ => tm_yes) (fun _ _ _ _ _ => (em_op op_sub m_sub (em_call (c__law_take Z) takes0 hr (by omega) (am_cons (em_var (pv 0)) (am_cons em_int am_nil))) em_int))) am_nil)))) (gm_unp rfl (gms_cons (gm_name S.nd (i := 13) rfl) (gms_cons (gm_name S.nd (i := 14) rfl) gms_nil))))
  (bm_cons (sm_set S.nd (i := 2) rfl (em_call (c_signed_far Z) tk hr (by omega) (am_cons (em_call (c__law_mixed Z 6) tk hr (by omega) (am_cons (em_var (pv 0)) (am_cons (em_var (pv 13)) am_nil))) (am_cons (em_var (pv 12)) am_nil))))
  (bm_cons (sm_set S.nd (i := 3) rfl (em_callTy call_tuple_of m_tup Z.n_tuple rfl (am_cons (em_comp (own := [("own", 18)]) rfl S.nd (im_iter (em_call (c__law_alt Z) tk hr (by omega) (am_cons (em_var (pv 13)) am_nil))) (blkOk_by (N := N__law_right) (sc := defScope s__law_right) (by decide +kernel)) (fun _ _ _ _ _ => (gm_name S.nd (i := 18) rfl)) (fun _ _ _ _ _ => tm_yes) (fun _ _ _ _ _ => (em_op op_mod m_mod (em_var (pv 18)) (em_var (pv 11))))) am_nil)))
  (bm_cons (sm_set S.nd (i := 4) rfl (em_op op_sub m_sub em_int (em_op op_mulS (m_mulS false) em_int (em_op op_mod m_mod (em_var (pv 12)) em_int))))
  (bm_cons (sm_if (tm_not (tm_tru (em_call (c__law_same Z 6) tk hr (by omega) (am_cons (em_call (c_mod_far Z) tk hr (by omega) (am_cons (em_call (c__law_mixed Z 6) tk hr (by omega) (am_cons (em_var (pv 0)) (am_cons (em_var (pv 3)) am_nil))) (am_cons (em_var (pv 11)) (am_cons (em_var (pv 12)) am_nil)))) (am_cons (em_callTy call_tuple_of m_tup Z.n_tuple rfl (am_cons (em_comp (own := [("own", 18)]) rfl S.nd (im_iter (em_call (c__law_alt Z) tk hr (by omega) (am_cons (em_var (pv 2)) am_nil))) (blkOk_by (N := N__law_right) (sc := defScope s__law_right) (by decide +kernel)) (fun _ _ _ _ _ => (gm_name S.nd (i := 18) rfl)) (fun _ _ _ _ _ => tm_yes) (fun _ _ _ _ _ => (em_op op_mod m_mod (em_op op_mulS (m_mulS false) (em_var (pv 4)) (em_var (pv 18))) (em_var (pv 11))))) am_nil)) am_nil))))) (bm_one (sm_ret em_bl)) bm_nil)
  (bm_cons (sm_set S.nd (i := 5) rfl (em_callTy call_tuple_of m_tup Z.n_tuple rfl (am_cons (em_comp (own := [("a", 15), ("b", 16)]) rfl S.nd (im_zip Z.n_zip (am_cons (em_var (pv 13)) (am_cons (em_op op_add4 m_add (em_sl (em_var (pv 13)) (om_part em_int) om_no) (em_sl (em_var (pv 13)) om_no (om_part em_int))) am_nil))) (blkOk_by (N := N__law_right) (sc := defScope s__law_right) (by decide +kernel)) (fun _ _ _ _ _ => (gm_unp rfl (gms_cons (gm_name S.nd (i := 15) rfl) (gms_cons (gm_name S.nd (i := 16) rfl) gms_nil)))) (fun _ _ _ _ _ => tm_yes) (fun _ _ _ _ _ => (em_op op_sub m_sub (em_var (pv 16)) (em_var (pv 15))))) am_nil)))
  (bm_cons (sm_if (tm_not (tm_tru (em_call (c__law_same Z 6) tk hr (by omega) (am_cons (em_lst (am_cons (em_call (c_signed_step Z) tk hr (by omega) (am_cons (em_var (pv 13)) am_nil)) (am_cons (em_call (c_mod_step Z) tk hr (by omega) (am_cons (em_var (pv 3)) (am_cons (em_var (pv 11)) am_nil))) am_nil))) (am_cons (em_lst (am_cons (em_var (pv 5)) (am_cons (em_callTy call_tuple_of m_tup Z.n_tuple rfl (am_cons (em_comp (own := [("own", 18)]) rfl S.nd (im_iter (em_call (c__law_alt Z) tk hr (by omega) (am_cons (em_var (pv 5)) am_nil))) (blkOk_by (N := N__law_right) (sc := defScope s__law_right) (by decide +kernel)) (fun _ _ _ _ _ => (gm_name S.nd (i := 18) rfl)) (fun _ _ _ _ _ => tm_yes) (fun _ _ _ _ _ => (em_op op_mod m_mod (em_un un_neg m_neg (em_var (pv 18))) (em_var (pv 11))))) am_nil)) am_nil))) am_nil))))) (bm_one (sm_ret em_bl)) bm_nil)
  (bm_cons (sm_asg (em_tup (am_cons (em_op op_sub m_sub (em_call (c__law_take Z) tk hr (by omega) (am_cons (em_var (pv 0)) (am_cons em_int am_nil))) em_int) (am_cons (em_op op_sub m_sub (em_call (c__law_take Z) tk hr (by omega) (am_cons (em_var (pv 0)) (am_cons em_int am_nil))) em_int) am_nil))) (gm_unp rfl (gms_cons (gm_name S.nd (i := 15) rfl) (gms_cons (gm_name S.nd (i := 16) rfl) gms_nil))))
  (bm_cons (sm_set S.nd (i := 6) rfl (em_callTy call_tuple_of m_tup Z.n_tuple rfl (am_cons (em_comp (own := [("x", 20), ("y", 21)]) rfl S.nd (im_zip Z.n_zip (am_cons (em_var (pv 13)) (am_cons (em_var (pv 14)) am_nil))) (blkOk_by (N := N__law_right) (sc := defScope s__law_right) (by decide +kernel)) (fun _ _ _ _ _ => (gm_unp rfl (gms_cons (gm_name S.nd (i := 20) rfl) (gms_cons (gm_name S.nd (i := 21) rfl) gms_nil)))) (fun _ _ _ _ _ => tm_yes) (fun _ _ _ _ _ => (em_op op_add4 m_add (em_op op_mulS (m_mulS false) (em_var (pv 15)) (em_var (pv 20))) (em_op op_mulS (m_mulS false) (em_var (pv 16)) (em_var (pv 21)))))) am_nil)))
  (bm_cons (sm_set S.nd (i := 7) rfl (em_call (c_signed_far Z) tk hr (by omega) (am_cons (em_var (pv 14)) (am_cons (em_var (pv 12)) am_nil))))
  (bm_cons (sm_if (tm_not (tm_tru (em_call (c__law_same Z 6) tk hr (by omega) (am_cons (em_call (c_signed_far Z) tk hr (by omega) (am_cons (em_var (pv 6)) (am_cons (em_var (pv 12)) am_nil))) (am_cons (em_callTy call_tuple_of m_tup Z.n_tuple rfl (am_cons (em_comp (own := [("x", 20), ("y", 21)]) rfl S.nd (im_zip Z.n_zip (am_cons (em_var (pv 2)) (am_cons (em_var (pv 7)) am_nil))) (blkOk_by (N := N__law_right) (sc := defScope s__law_right) (by decide +kernel)) (fun _ _ _ _ _ => (gm_unp rfl (gms_cons (gm_name S.nd (i := 20) rfl) (gms_cons (gm_name S.nd (i := 21) rfl) gms_nil)))) (fun _ _ _ _ _ => tm_yes) (fun _ _ _ _ _ => (em_op op_add4 m_add (em_op op_mulS (m_mulS false) (em_var (pv 15)) (em_var (pv 20))) (em_op op_mulS (m_mulS false) (em_var (pv 16)) (em_var (pv 21)))))) am_nil)) am_nil))))) (bm_one (sm_ret em_bl)) bm_nil)
  (bm_cons (sm_set S.nd (i := 8) rfl (em_call (c_folded Z) tk hr (by omega) (am_cons (em_var (pv 1)) (am_cons (em_var (pv 12)) am_nil))))
  (bm_cons (sm_if (tm_not (tm_tru (em_call (c__law_same Z 6) tk hr (by omega) (am_cons (em_var (pv 2)) (am_cons (em_callTy call_tuple_of m_tup Z.n_tuple rfl (am_cons (em_comp (own := [("k", 19)]) rfl S.nd (im_rng1 Z.n_range (am_cons (em_var (pv 1)) am_nil)) (blkOk_by (N := N__law_right) (sc := defScope s__law_right) (by decide +kernel)) (fun _ _ _ _ _ => (gm_name S.nd (i := 19) rfl)) (fun _ _ _ _ _ => tm_yes) (fun _ _ _ _ _ => (em_call (c__law_sum Z) takes0 hr (by omega) (am_cons (em_var (pv 8)) (am_cons (em_op op_add4 m_add (em_sl (em_var (pv 13)) (om_part (em_var (pv 19))) om_no) (em_sl (em_var (pv 13)) om_no (om_part (em_var (pv 19))))) am_nil))))) am_nil)) am_nil))))) (bm_one (sm_ret em_bl)) bm_nil)
  (bm_cons (sm_set S.nd (i := 9) rfl (em_call (c__law_take Z) tk hr (by omega) (am_cons (em_var (pv 0)) (am_cons em_int am_nil))))
  (bm_cons (sm_if (tm_w (wm_and (tm_cmp op_ge (m_cI _) (em_var (pv 12)) (em_var (pv 9)) (nomark _)) (wm_and1 (tm_cmp op_le (m_cI _) (em_callB (call_maxAA rfl) m_maxA Z.n_max rfl (am_cons (em_comp (own := [("own", 18)]) rfl S.nd (im_iter (em_call (c_signed_far Z) tk hr (by omega) (am_cons (em_var (pv 13)) (am_cons (em_var (pv 9)) am_nil)))) (blkOk_by (N := N__law_right) (sc := defScope s__law_right) (by decide +kernel)) (fun _ _ _ _ _ => (gm_name S.nd (i := 18) rfl)) (fun _ _ _ _ _ => tm_yes) (fun _ _ _ _ _ => (em_callB call_abs m_abs Z.n_abs rfl (am_cons (em_var (pv 18)) am_nil)))) am_nil)) (em_op op_pow m_pow em_int em_int) (nomark _))))) (bm_one (sm_if (tm_not (tm_tru (em_call (c__law_same Z 6) tk hr (by omega) (am_cons (em_call (c_signed_far Z) tk hr (by omega) (am_cons (em_call (c_signed_far Z) tk hr (by omega) (am_cons (em_var (pv 13)) (am_cons (em_var (pv 9)) am_nil))) (am_cons (em_op op_sub m_sub (em_var (pv 12)) (em_var (pv 9))) am_nil))) (am_cons (em_var (pv 2)) am_nil))))) (bm_one (sm_ret em_bl)) bm_nil)) bm_nil)
  (bm_cons (sm_set S.nd (i := 10) rfl (em_callTy call_tuple_of m_tup Z.n_tuple rfl (am_cons (em_comp (own := [("own", 18)]) rfl S.nd (im_iter (em_var (pv 13))) (blkOk_by (N := N__law_right) (sc := defScope s__law_right) (by decide +kernel)) (fun _ _ _ _ _ => (gm_name S.nd (i := 18) rfl)) (fun _ _ _ _ _ => tm_yes) (fun _ _ _ _ _ => (em_callB call_abs m_abs Z.n_abs rfl (am_cons (em_var (pv 18)) am_nil)))) am_nil)))
  (bm_one (sm_ret (em_and (em_call (c__law_same Z 6) tk hr (by omega) (am_cons (em_lst (am_cons (em_call (c_bare Z) tk hr (by omega) (am_cons (em_call (c_signed_step Z) tk hr (by omega) (am_cons (em_var (pv 10)) am_nil)) am_nil)) (am_cons (em_call (c_bare Z) tk hr (by omega) (am_cons (em_var (pv 13)) am_nil)) am_nil))) (am_cons (em_lst (am_cons (em_call (c_step Z) tk hr (by omega) (am_cons (em_var (pv 10)) am_nil)) (am_cons (em_var (pv 10)) am_nil))) am_nil))) (em_one (em_or (em_cmp (op_eqD HU) m_eq (em_var (pv 12)) em_int (nomark _)) (em_one (em_cmp (op_eqD HU) m_eq (em_callB (call_sumA rfl) m_sumA Z.n_sum rfl (am_cons (em_var (pv 2)) am_nil)) em_int (nomark _))))))))))))))))))))))))))
/-! law -/
abbrev s_law : Stmt := top 51
abbrev N_law : List Str := ["script", "tin", "got", "lap"]
theorem sc_law : FnScope N_law ["script"] (defScope s_law) := ⟨rfl, rfl, rfl, by decide +kernel, rfl, by decide +kernel, by decide +kernel⟩
theorem c_law (Z : Ev K mg) : Cl P w K mg base G 11 "law" 1 f_law_k61 := by
    have S := sc_law
    refine cl_of (N := N_law) (ps := ["script"]) (b := b_law_k61) (k := 10) Z.d_law S (fun _ _ _ _ _ _ us hl => match us, hl with | [_], _ => rfl) (fun f cdv A outer s H E hr tk ho => ?_)
    exact (bm_cons (sm_set S.nd (i := 1) rfl (em_callKeep (c__law_box Z) tk hr (by omega) (am_cons (em_call (c__law_cells Z) tk hr (by omega) (am_cons (em_var (pv 0)) (am_cons em_int am_nil))) (am_cons em_int am_nil))))
  (bm_cons (sm_set S.nd (i := 2) rfl (em_lst (am_cons (em_call (c_signed_step Z) tk hr (by omega) (am_cons (em_tup (am_cons em_int (am_cons em_int (am_cons em_int am_nil)))) am_nil)) (am_cons (em_call (c_signed_far Z) tk hr (by omega) (am_cons (em_tup (am_cons em_int (am_cons em_int (am_cons em_int am_nil)))) (am_cons em_int am_nil))) (am_cons (em_call (c_folded Z) tk hr (by omega) (am_cons em_int (am_cons em_int am_nil))) (am_cons (em_call (c_mod_far Z) tk hr (by omega) (am_cons (em_tup (am_cons em_int (am_cons em_int (am_cons em_int (am_cons em_int am_nil))))) (am_cons em_int (am_cons em_int am_nil)))) am_nil))))))
  (bm_cons (sm_if (tm_not (tm_tru (em_call (c__law_same Z 6) tk hr (by omega) (am_cons (em_var (pv 2)) (am_cons (em_lst (am_cons (em_tup (am_cons em_int (am_cons (em_un un_neg m_neg em_int) (am_cons (em_un un_neg m_neg em_int) am_nil)))) (am_cons (em_tup (am_cons (em_un un_neg m_neg em_int) (am_cons em_int (am_cons em_int am_nil)))) (am_cons (em_tup (am_cons em_int (am_cons em_int (am_cons (em_un un_neg m_neg em_int) am_nil)))) (am_cons (em_tup (am_cons em_int (am_cons em_int (am_cons em_int (am_cons em_int am_nil))))) am_nil))))) am_nil))))) (bm_one (sm_ret em_bl)) bm_nil)
  (bm_one (sm_ret (em_callB (cr_all rfl) m_all Z.n_all rfl (am_cons (em_comp (own := [("lap", 3)]) rfl S.nd (im_rng1 Z.n_range (am_cons em_int am_nil)) (blkOk_by (N := N_law) (sc := defScope s_law) (by decide +kernel)) (fun _ _ _ _ _ => (gm_name S.nd (i := 3) rfl)) (fun _ _ _ _ _ => tm_yes) (fun _ _ _ _ _ => (em_call (c__law_right Z) takes0 hr (by omega) (am_cons (em_var (pv 1)) am_nil)))) am_nil)))))))
theorem c_law_at (Z : Ev K mg) {f : Addr} {fd : FuncData} (F : FunD K "law" "law" (defArgs s_law) (defBody s_law) (defScope s_law) [] [] f fd) : FnOk P w K mg base (L2.CX P w) 11 f fd ["script"] (spM K G 1 f_law_k61) := by
    have S := sc_law
    refine fn_at (N := N_law) (ps := ["script"]) (b := b_law_k61) (k := 10) F S (fun f cdv A outer s H E hr tk ho => ?_)
    exact (bm_cons (sm_set S.nd (i := 1) rfl (em_callKeep (c__law_box Z) tk hr (by omega) (am_cons (em_call (c__law_cells Z) tk hr (by omega) (am_cons (em_var (pv 0)) (am_cons em_int am_nil))) (am_cons em_int am_nil))))
  (bm_cons (sm_set S.nd (i := 2) rfl (em_lst (am_cons (em_call (c_signed_step Z) tk hr (by omega) (am_cons (em_tup (am_cons em_int (am_cons em_int (am_cons em_int am_nil)))) am_nil)) (am_cons (em_call (c_signed_far Z) tk hr (by omega) (am_cons (em_tup (am_cons em_int (am_cons em_int (am_cons em_int am_nil)))) (am_cons em_int am_nil))) (am_cons (em_call (c_folded Z) tk hr (by omega) (am_cons em_int (am_cons em_int am_nil))) (am_cons (em_call (c_mod_far Z) tk hr (by omega) (am_cons (em_tup (am_cons em_int (am_cons em_int (am_cons em_int (am_cons em_int am_nil))))) (am_cons em_int (am_cons em_int am_nil)))) am_nil))))))
  (bm_cons (sm_if (tm_not (tm_tru (em_call (c__law_same Z 6) tk hr (by omega) (am_cons (em_var (pv 2)) (am_cons (em_lst (am_cons (em_tup (am_cons em_int (am_cons (em_un un_neg m_neg em_int) (am_cons (em_un un_neg m_neg em_int) am_nil)))) (am_cons (em_tup (am_cons (em_un un_neg m_neg em_int) (am_cons em_int (am_cons em_int am_nil)))) (am_cons (em_tup (am_cons em_int (am_cons em_int (am_cons (em_un un_neg m_neg em_int) am_nil)))) (am_cons (em_tup (am_cons em_int (am_cons em_int (am_cons em_int (am_cons em_int am_nil))))) am_nil))))) am_nil))))) (bm_one (sm_ret em_bl)) bm_nil)
  (bm_one (sm_ret (em_callB (cr_all rfl) m_all Z.n_all rfl (am_cons (em_comp (own := [("lap", 3)]) rfl S.nd (im_rng1 Z.n_range (am_cons em_int am_nil)) (blkOk_by (N := N_law) (sc := defScope s_law) (by decide +kernel)) (fun _ _ _ _ _ => (gm_name S.nd (i := 3) rfl)) (fun _ _ _ _ _ => tm_yes) (fun _ _ _ _ _ => (em_call (c__law_right Z) takes0 hr (by omega) (am_cons (em_var (pv 1)) am_nil)))) am_nil)))))))
end
def h__law_box : He.DefD := ⟨("_law_box", none), "_law_box", "_law_box", defArgs s__law_box, defBody s__law_box, defScope s__law_box, [], []⟩
def h__law_cells : He.DefD := ⟨("_law_cells", none), "_law_cells", "_law_cells", defArgs s__law_cells, defBody s__law_cells, defScope s__law_cells, [], []⟩
def h_signed_in : He.DefD := ⟨("signed_in", none), "signed_in", "signed_in", defArgs s_signed_in, defBody s_signed_in, defScope s_signed_in, [], []⟩
def h_tupled : He.DefD := ⟨("tupled", none), "tupled", "tupled", defArgs s_tupled, defBody s_tupled, defScope s_tupled, [], []⟩
def h_is_number : He.DefD := ⟨("is_number", none), "is_number", "is_number", defArgs s_is_number, defBody s_is_number, defScope s_is_number, [], []⟩
def h_is_within : He.DefD := ⟨("is_within", none), "is_within", "is_within", defArgs s_is_within, defBody s_is_within, defScope s_is_within, [], []⟩
def h_are_within : He.DefD := ⟨("are_within", none), "are_within", "are_within", defArgs s_are_within, defBody s_are_within, defScope s_are_within, [], []⟩
def h_is_signed_in : He.DefD := ⟨("is_signed_in", none), "is_signed_in", "is_signed_in", defArgs s_is_signed_in, defBody s_is_signed_in, defScope s_is_signed_in, [], []⟩
def h_sure_signed : He.DefD := ⟨("sure_signed", none), "sure_signed", "sure_signed", defArgs s_sure_signed, defBody s_sure_signed, defScope s_sure_signed, [], []⟩
def h_signed_step : He.DefD := ⟨("signed_step", none), "signed_step", "signed_step", defArgs s_signed_step, defBody s_signed_step, defScope s_signed_step, [], []⟩
def h_binomials_in : He.DefD := ⟨("binomials_in", none), "binomials_in", "binomials_in", defArgs s_binomials_in, defBody s_binomials_in, defScope s_binomials_in, [], []⟩
def h_folded_in : He.DefD := ⟨("folded_in", none), "folded_in", "folded_in", defArgs s_folded_in, defBody s_folded_in, defScope s_folded_in, [], []⟩
def h_signed_far_in : He.DefD := ⟨("signed_far_in", none), "signed_far_in", "signed_far_in", defArgs s_signed_far_in, defBody s_signed_far_in, defScope s_signed_far_in, [], []⟩
def h_sure_within : He.DefD := ⟨("sure_within", none), "sure_within", "sure_within", defArgs s_sure_within, defBody s_sure_within, defScope s_sure_within, [], []⟩
def h_signed_far : He.DefD := ⟨("signed_far", none), "signed_far", "signed_far", defArgs s_signed_far, defBody s_signed_far, defScope s_signed_far, [], []⟩
def h_sure_many : He.DefD := ⟨("sure_many", none), "sure_many", "sure_many", defArgs s_sure_many, defBody s_sure_many, defScope s_sure_many, [], []⟩
def h_folded : He.DefD := ⟨("folded", none), "folded", "folded", defArgs s_folded, defBody s_folded, defScope s_folded, [], []⟩
def h_sure_mod : He.DefD := ⟨("sure_mod", none), "sure_mod", "sure_mod", defArgs s_sure_mod, defBody s_sure_mod, defScope s_sure_mod, [], []⟩
def h_is_rests_in : He.DefD := ⟨("is_rests_in", none), "is_rests_in", "is_rests_in", defArgs s_is_rests_in, defBody s_is_rests_in, defScope s_is_rests_in, [], []⟩
def h_sure_rests : He.DefD := ⟨("sure_rests", none), "sure_rests", "sure_rests", defArgs s_sure_rests, defBody s_sure_rests, defScope s_sure_rests, [], []⟩
def h_rolled : He.DefD := ⟨("rolled", none), "rolled", "rolled", defArgs s_rolled, defBody s_rolled, defScope s_rolled, [], []⟩
def h_shares_in : He.DefD := ⟨("shares_in", none), "shares_in", "shares_in", defArgs s_shares_in, defBody s_shares_in, defScope s_shares_in, [], []⟩
def h_mod_far_in : He.DefD := ⟨("mod_far_in", none), "mod_far_in", "mod_far_in", defArgs s_mod_far_in, defBody s_mod_far_in, defScope s_mod_far_in, [], []⟩
def h_mod_far : He.DefD := ⟨("mod_far", none), "mod_far", "mod_far", defArgs s_mod_far, defBody s_mod_far, defScope s_mod_far, [], []⟩
def h__law_same : He.DefD := ⟨("_law_same", none), "_law_same", "_law_same", defArgs s__law_same, defBody s__law_same, defScope s__law_same, [], []⟩
def h__law_take : He.DefD := ⟨("_law_take", none), "_law_take", "_law_take", defArgs s__law_take, defBody s__law_take, defScope s__law_take, [], []⟩
def h__law_mixed : He.DefD := ⟨("_law_mixed", none), "_law_mixed", "_law_mixed", defArgs s__law_mixed, defBody s__law_mixed, defScope s__law_mixed, [], []⟩
def h__law_alt : He.DefD := ⟨("_law_alt", none), "_law_alt", "_law_alt", defArgs s__law_alt, defBody s__law_alt, defScope s__law_alt, [], []⟩
def h_summed : He.DefD := ⟨("summed", none), "summed", "summed", defArgs s_summed, defBody s_summed, defScope s_summed, [], []⟩
def h_mod_step : He.DefD := ⟨("mod_step", none), "mod_step", "mod_step", defArgs s_mod_step, defBody s_mod_step, defScope s_mod_step, [], []⟩
def h_bare : He.DefD := ⟨("bare", none), "bare", "bare", defArgs s_bare, defBody s_bare, defScope s_bare, [], []⟩
def h_step_in : He.DefD := ⟨("step_in", none), "step_in", "step_in", defArgs s_step_in, defBody s_step_in, defScope s_step_in, [], []⟩
def h_is_ring_in : He.DefD := ⟨("is_ring_in", none), "is_ring_in", "is_ring_in", defArgs s_is_ring_in, defBody s_is_ring_in, defScope s_is_ring_in, [], []⟩
def h_sure_ring : He.DefD := ⟨("sure_ring", none), "sure_ring", "sure_ring", defArgs s_sure_ring, defBody s_sure_ring, defScope s_sure_ring, [], []⟩
def h_step : He.DefD := ⟨("step", none), "step", "step", defArgs s_step, defBody s_step, defScope s_step, [], []⟩
def h__law_sum : He.DefD := ⟨("_law_sum", none), "_law_sum", "_law_sum", defArgs s__law_sum, defBody s__law_sum, defScope s__law_sum, [], []⟩
def h__law_right : He.DefD := ⟨("_law_right", none), "_law_right", "_law_right", defArgs s__law_right, defBody s__law_right, defScope s__law_right, [], []⟩
def h_law : He.DefD := ⟨("law", none), "law", "law", defArgs s_law, defBody s_law, defScope s_law, [], []⟩
def fn : List He.DefD := [h__law_box, h__law_cells, h_signed_in, h_tupled, h_is_number, h_is_within, h_are_within, h_is_signed_in, h_sure_signed, h_signed_step, h_binomials_in, h_folded_in, h_signed_far_in, h_sure_within, h_signed_far, h_sure_many, h_folded, h_sure_mod, h_is_rests_in, h_sure_rests, h_rolled, h_shares_in, h_mod_far_in, h_mod_far, h__law_same, h__law_take, h__law_mixed, h__law_alt, h_summed, h_mod_step, h_bare, h_step_in, h_is_ring_in, h_sure_ring, h_step, h__law_sum, h__law_right, h_law]
def fa : List He.Fa := [.free "abs", .free "all", .free "bool", .free "enumerate", .free "int", .free "isinstance", .free "len", .free "list", .free "max", .free "range", .free "str", .free "sum", .free "tuple", .free "zip", .int "LEAST_LONG" 2, .int "MOST_LONG" 16, .int "MOST_MOD" 60, .int "MOST_NUMBER" 1000000000000000000000000000000, .int "MOST_POWER" 1000000000000000000, .int "MOST_SIGNED_STEPS" 200, .glo "_law_box", .glo "_law_cells", .glo "signed_in", .glo "tupled", .glo "is_number", .glo "is_within", .glo "are_within", .glo "is_signed_in", .glo "sure_signed", .glo "signed_step", .glo "binomials_in", .glo "folded_in", .glo "signed_far_in", .glo "sure_within", .glo "signed_far", .glo "sure_many", .glo "folded", .glo "sure_mod", .glo "is_rests_in", .glo "sure_rests", .glo "rolled", .glo "shares_in", .glo "mod_far_in", .glo "mod_far", .glo "_law_same", .glo "_law_take", .glo "_law_mixed", .glo "_law_alt", .glo "summed", .glo "mod_step", .glo "bare", .glo "step_in", .glo "is_ring_in", .glo "sure_ring", .glo "step", .glo "_law_sum", .glo "_law_right", .glo "law"]
abbrev R : PySem.W.OpenRow := PySem.W.OpenLaw.row PySem.Challenge.rw_differencesround_k61_main_signs_turned_a
abbrev hk : PySem.W.Hook := He.hookD 4 fa fn
def ob (s : PySem.W.SharedT) : He.AlD := He.obsDG 4 fa fn (HandSHeadRun.getT s)
theorem ob_eq (s : PySem.W.SharedT) : ob s = hk.obs s.abs := He.obsDG_eq (HandSHeadRun.getT_eq s)
def loose0 : List PySem.Str := ["Unfit", "is_number", "is_within", "sure_within", "are_within", "tupled", "MOST_POWER", "LEAST_LONG", "MOST_LONG", "MOST_NUMBER", "is_ring_in", "sure_ring", "step_in", "step", "sure_many", "MOST_SIGNED_STEPS"]
def loose1 : List PySem.Str := ["is_signed_in", "sure_signed", "signed_in", "binomials_in", "folded_in", "signed_far_in", "signed_step", "signed_far", "folded", "bare", "MOST_MOD", "sure_mod", "is_rests_in", "sure_rests", "summed", "rolled"]
def loose2 : List PySem.Str := ["shares_in", "mod_far_in", "mod_step", "mod_far", "_law_box", "_law_take", "_law_cells", "_law_mixed", "_law_same", "_law_alt", "_law_right", "_law_sum"]
def loose : List PySem.Str := loose0 ++ loose1 ++ loose2
theorem run (w : World) : HandSHeadRun.RunEq R (PySem.W.view R.prog [51]) hk ob 3000 loose w := by
  intro os
  kernel_rfl
theorem facts {P : Program} {w : World} {K : PySem.W.Frag} {h : Heap} {mg : Str → Option Value} {f : Addr} (X : K.In h) (G : h.Ns mainGlobals mg) (hfa : mg ("law" : Str) = some (.ref f)) (c : He.SaysD fa fn K) (Gl : Nat → Option Addr) :
    ∃ fd : FuncData, (∀ (s : Shared) (v : Value), BindsTo s fd ⟨[v], []⟩ [("script", v)]) ∧ ∀ base : Heap, K.In base → base.Ns mainGlobals mg → FnOk P w K mg base (L2.CX P w) 11 f fd ["script"] (spM K Gl 1 f_law_k61) := by
  have Z : Ev K mg := {
    n_abs := He.free_ok X G (c.fact 0 (f := .free "abs") rfl),
    n_all := He.free_ok X G (c.fact 1 (f := .free "all") rfl),
    n_bool := He.free_ok X G (c.fact 2 (f := .free "bool") rfl),
    n_enumerate := He.free_ok X G (c.fact 3 (f := .free "enumerate") rfl),
    n_int := He.free_ok X G (c.fact 4 (f := .free "int") rfl),
    n_isinstance := He.free_ok X G (c.fact 5 (f := .free "isinstance") rfl),
    n_len := He.free_ok X G (c.fact 6 (f := .free "len") rfl),
    n_list := He.free_ok X G (c.fact 7 (f := .free "list") rfl),
    n_max := He.free_ok X G (c.fact 8 (f := .free "max") rfl),
    n_range := He.free_ok X G (c.fact 9 (f := .free "range") rfl),
    n_str := He.free_ok X G (c.fact 10 (f := .free "str") rfl),
    n_sum := He.free_ok X G (c.fact 11 (f := .free "sum") rfl),
    n_tuple := He.free_ok X G (c.fact 12 (f := .free "tuple") rfl),
    n_zip := He.free_ok X G (c.fact 13 (f := .free "zip") rfl),
    i_LEAST_LONG := He.int_ok X G (c.fact 14 (f := .int "LEAST_LONG" 2) rfl),
    i_MOST_LONG := He.int_ok X G (c.fact 15 (f := .int "MOST_LONG" 16) rfl),
    i_MOST_MOD := He.int_ok X G (c.fact 16 (f := .int "MOST_MOD" 60) rfl),
    i_MOST_NUMBER := He.int_ok X G (c.fact 17 (f := .int "MOST_NUMBER" 1000000000000000000000000000000) rfl),
    i_MOST_POWER := He.int_ok X G (c.fact 18 (f := .int "MOST_POWER" 1000000000000000000) rfl),
    i_MOST_SIGNED_STEPS := He.int_ok X G (c.fact 19 (f := .int "MOST_SIGNED_STEPS" 200) rfl),
    d__law_box := (let ⟨fd, F⟩ := c.def_ 0 (d := h__law_box) rfl; ⟨_, fd, F, He.glo_ok X G (c.fact 20 (f := .glo "_law_box") rfl)⟩),
    d__law_cells := (let ⟨fd, F⟩ := c.def_ 1 (d := h__law_cells) rfl; ⟨_, fd, F, He.glo_ok X G (c.fact 21 (f := .glo "_law_cells") rfl)⟩),
    d_signed_in := (let ⟨fd, F⟩ := c.def_ 2 (d := h_signed_in) rfl; ⟨_, fd, F, He.glo_ok X G (c.fact 22 (f := .glo "signed_in") rfl)⟩),
    d_tupled := (let ⟨fd, F⟩ := c.def_ 3 (d := h_tupled) rfl; ⟨_, fd, F, He.glo_ok X G (c.fact 23 (f := .glo "tupled") rfl)⟩),
    d_is_number := (let ⟨fd, F⟩ := c.def_ 4 (d := h_is_number) rfl; ⟨_, fd, F, He.glo_ok X G (c.fact 24 (f := .glo "is_number") rfl)⟩),
    d_is_within := (let ⟨fd, F⟩ := c.def_ 5 (d := h_is_within) rfl; ⟨_, fd, F, He.glo_ok X G (c.fact 25 (f := .glo "is_within") rfl)⟩),
    d_are_within := (let ⟨fd, F⟩ := c.def_ 6 (d := h_are_within) rfl; ⟨_, fd, F, He.glo_ok X G (c.fact 26 (f := .glo "are_within") rfl)⟩),
    d_is_signed_in := (let ⟨fd, F⟩ := c.def_ 7 (d := h_is_signed_in) rfl; ⟨_, fd, F, He.glo_ok X G (c.fact 27 (f := .glo "is_signed_in") rfl)⟩),
    d_sure_signed := (let ⟨fd, F⟩ := c.def_ 8 (d := h_sure_signed) rfl; ⟨_, fd, F, He.glo_ok X G (c.fact 28 (f := .glo "sure_signed") rfl)⟩),
    d_signed_step := (let ⟨fd, F⟩ := c.def_ 9 (d := h_signed_step) rfl; ⟨_, fd, F, He.glo_ok X G (c.fact 29 (f := .glo "signed_step") rfl)⟩),
    d_binomials_in := (let ⟨fd, F⟩ := c.def_ 10 (d := h_binomials_in) rfl; ⟨_, fd, F, He.glo_ok X G (c.fact 30 (f := .glo "binomials_in") rfl)⟩),
    d_folded_in := (let ⟨fd, F⟩ := c.def_ 11 (d := h_folded_in) rfl; ⟨_, fd, F, He.glo_ok X G (c.fact 31 (f := .glo "folded_in") rfl)⟩),
    d_signed_far_in := (let ⟨fd, F⟩ := c.def_ 12 (d := h_signed_far_in) rfl; ⟨_, fd, F, He.glo_ok X G (c.fact 32 (f := .glo "signed_far_in") rfl)⟩),
    d_sure_within := (let ⟨fd, F⟩ := c.def_ 13 (d := h_sure_within) rfl; ⟨_, fd, F, He.glo_ok X G (c.fact 33 (f := .glo "sure_within") rfl)⟩),
    d_signed_far := (let ⟨fd, F⟩ := c.def_ 14 (d := h_signed_far) rfl; ⟨_, fd, F, He.glo_ok X G (c.fact 34 (f := .glo "signed_far") rfl)⟩),
    d_sure_many := (let ⟨fd, F⟩ := c.def_ 15 (d := h_sure_many) rfl; ⟨_, fd, F, He.glo_ok X G (c.fact 35 (f := .glo "sure_many") rfl)⟩),
    d_folded := (let ⟨fd, F⟩ := c.def_ 16 (d := h_folded) rfl; ⟨_, fd, F, He.glo_ok X G (c.fact 36 (f := .glo "folded") rfl)⟩),
    d_sure_mod := (let ⟨fd, F⟩ := c.def_ 17 (d := h_sure_mod) rfl; ⟨_, fd, F, He.glo_ok X G (c.fact 37 (f := .glo "sure_mod") rfl)⟩),
    d_is_rests_in := (let ⟨fd, F⟩ := c.def_ 18 (d := h_is_rests_in) rfl; ⟨_, fd, F, He.glo_ok X G (c.fact 38 (f := .glo "is_rests_in") rfl)⟩),
    d_sure_rests := (let ⟨fd, F⟩ := c.def_ 19 (d := h_sure_rests) rfl; ⟨_, fd, F, He.glo_ok X G (c.fact 39 (f := .glo "sure_rests") rfl)⟩),
    d_rolled := (let ⟨fd, F⟩ := c.def_ 20 (d := h_rolled) rfl; ⟨_, fd, F, He.glo_ok X G (c.fact 40 (f := .glo "rolled") rfl)⟩),
    d_shares_in := (let ⟨fd, F⟩ := c.def_ 21 (d := h_shares_in) rfl; ⟨_, fd, F, He.glo_ok X G (c.fact 41 (f := .glo "shares_in") rfl)⟩),
    d_mod_far_in := (let ⟨fd, F⟩ := c.def_ 22 (d := h_mod_far_in) rfl; ⟨_, fd, F, He.glo_ok X G (c.fact 42 (f := .glo "mod_far_in") rfl)⟩),
    d_mod_far := (let ⟨fd, F⟩ := c.def_ 23 (d := h_mod_far) rfl; ⟨_, fd, F, He.glo_ok X G (c.fact 43 (f := .glo "mod_far") rfl)⟩),
    d__law_same := (let ⟨fd, F⟩ := c.def_ 24 (d := h__law_same) rfl; ⟨_, fd, F, He.glo_ok X G (c.fact 44 (f := .glo "_law_same") rfl)⟩),
    d__law_take := (let ⟨fd, F⟩ := c.def_ 25 (d := h__law_take) rfl; ⟨_, fd, F, He.glo_ok X G (c.fact 45 (f := .glo "_law_take") rfl)⟩),
    d__law_mixed := (let ⟨fd, F⟩ := c.def_ 26 (d := h__law_mixed) rfl; ⟨_, fd, F, He.glo_ok X G (c.fact 46 (f := .glo "_law_mixed") rfl)⟩),
    d__law_alt := (let ⟨fd, F⟩ := c.def_ 27 (d := h__law_alt) rfl; ⟨_, fd, F, He.glo_ok X G (c.fact 47 (f := .glo "_law_alt") rfl)⟩),
    d_summed := (let ⟨fd, F⟩ := c.def_ 28 (d := h_summed) rfl; ⟨_, fd, F, He.glo_ok X G (c.fact 48 (f := .glo "summed") rfl)⟩),
    d_mod_step := (let ⟨fd, F⟩ := c.def_ 29 (d := h_mod_step) rfl; ⟨_, fd, F, He.glo_ok X G (c.fact 49 (f := .glo "mod_step") rfl)⟩),
    d_bare := (let ⟨fd, F⟩ := c.def_ 30 (d := h_bare) rfl; ⟨_, fd, F, He.glo_ok X G (c.fact 50 (f := .glo "bare") rfl)⟩),
    d_step_in := (let ⟨fd, F⟩ := c.def_ 31 (d := h_step_in) rfl; ⟨_, fd, F, He.glo_ok X G (c.fact 51 (f := .glo "step_in") rfl)⟩),
    d_is_ring_in := (let ⟨fd, F⟩ := c.def_ 32 (d := h_is_ring_in) rfl; ⟨_, fd, F, He.glo_ok X G (c.fact 52 (f := .glo "is_ring_in") rfl)⟩),
    d_sure_ring := (let ⟨fd, F⟩ := c.def_ 33 (d := h_sure_ring) rfl; ⟨_, fd, F, He.glo_ok X G (c.fact 53 (f := .glo "sure_ring") rfl)⟩),
    d_step := (let ⟨fd, F⟩ := c.def_ 34 (d := h_step) rfl; ⟨_, fd, F, He.glo_ok X G (c.fact 54 (f := .glo "step") rfl)⟩),
    d__law_sum := (let ⟨fd, F⟩ := c.def_ 35 (d := h__law_sum) rfl; ⟨_, fd, F, He.glo_ok X G (c.fact 55 (f := .glo "_law_sum") rfl)⟩),
    d__law_right := (let ⟨fd, F⟩ := c.def_ 36 (d := h__law_right) rfl; ⟨_, fd, F, He.glo_ok X G (c.fact 56 (f := .glo "_law_right") rfl)⟩),
    d_law := (let ⟨fd, F⟩ := c.def_ 37 (d := h_law) rfl; ⟨_, fd, F, He.glo_ok X G (c.fact 57 (f := .glo "law") rfl)⟩) }
  obtain ⟨fd, F⟩ := c.def_ 37 (d := h_law) rfl
  have e := hfa.symm.trans (He.glo_ok X G (c.fact 57 (f := .glo "law") rfl))
  cases e
  have b := FunD.bindsA (ps := ["script"]) F fun _ _ _ _ _ _ us hl => match us, hl with | [_], _ => rfl
  refine ⟨fd, fun s v => b s [v] rfl, fun base _ _ => ?_⟩
  exact c_law_at Z F
end L61
open PySem PySem.W PySem.Calls PyProof.Rows
theorem PySem.Challenge.cw_differencesround_k61_main_signs_turned_a_holds : PySem.Challenge.rw_differencesround_k61_main_signs_turned_a.Holds := by
  w_on; o_law
  refine HandSHeadRun.head_any (r := OpenLaw.row PySem.Challenge.rw_differencesround_k61_main_signs_turned_a) (q := view (OpenLaw.row PySem.Challenge.rw_differencesround_k61_main_signs_turned_a).prog [51]) (H := L61.hk) (ob := L61.ob) (M := 3000) (loose := L61.loose) (d := HandSHeadRun.topDef (OpenLaw.row PySem.Challenge.rw_differencesround_k61_main_signs_turned_a).prog 51) (kwd := []) L61.ob_eq
    (by kernel_rfl) (fun s => by kernel_rfl) L61.run (by kernel_rfl) (by kernel_rfl) (by kernel_rfl) (by rfl) (by first | assumption | decide +kernel) (by decide +kernel) ⟨rfl, rfl, rfl, rfl, rfl, by decide +kernel⟩ ?hw ?hc
  case hw => w_witness2
  case hc =>
    refine Mir.walk_ofM (l := PySem.Challenge.rw_differencesround_k61_main_signs_turned_a) (n := 63) (k := 11) (x := "script") (G := fun _ => none) (m := MirP.f_law_k61) rfl (by decide) (by decide) (by kernel_rfl) ⟨rfl, by decide, by decide⟩ (fun ns _ => MirP.law_k61 ns) ?F
    intro w mg fa h Y G hmg0
    obtain ⟨K, KX, c⟩ := Y
    have hmg : mg ("law" : PySem.Str) = some (.ref fa) := by
      have e : (HandSHeadRun.topDef (OpenLaw.row PySem.Challenge.rw_differencesround_k61_main_signs_turned_a).prog 51).name = ("law" : PySem.Str) := by kernel_rfl
      rw [← e]
      exact hmg0
    obtain ⟨fd, hb, hF⟩ := L61.facts (P := (PySem.Challenge.rw_differencesround_k61_main_signs_turned_a).prog) (w := w) KX G hmg c (fun _ => none)
    exact ⟨K, fd, KX, hb, hF⟩

