import PyProof.Rows.All
import Wide.All
import OpenK.AllK
import Wide.FinOn
import HandS.ForMost
import HandS.ForExc
import HandS.TupAny
import HandS.IsInst
import HandS.Dict
import HandS.Text
import HandS.Rev
import HandS.Deep
import HandS.SuiteRaise
import HandS.Codes
import PySem.Challenge.RW_reactivesynth_k42_separating_word
set_option Elab.async false
set_option linter.all false
set_option maxRecDepth 100000
set_option maxHeartbeats 4000000
set_option autoImplicit false
/-! L3A: data, the frozen part of the heap, mutable objects by handles. -/
namespace L3
open PySem PySem.Spec PyProof.Rows L2

/-- a frozen datum -/
inductive D where
  | non | bl (b : Bool) | int (i : Int) | str (x : Str) | lst (ds : List D) | tup (ds : List D) | ins (C : Addr) (fs : List (Str × D)) | rol (ds : List D) | rot (ds : List D)
/-- a value: a frozen datum, or a mutable object by its handle -/
inductive U where
  | fr (d : D) | mt (h : Nat)
/-- a mutable object -/
inductive MO where
  | lst (ds : List D) | nst (xs : List U) | dK (kvs : List (Key × D)) | dT (kvs : List (List Key × D)) | ins (C : Addr) (fs : List (Str × U))
abbrev Mem := List (Option MO)
abbrev Sl := List (Option U)

def Ex (F H : Hp) : Prop := ∀ a o, F a = some o → H a = some o
theorem Ex.refl (F : Hp) : Ex F F := fun _ _ h => h
theorem Ex.trans {F G H : Hp} (x : Ex F G) (y : Ex G H) : Ex F H := fun a o h => y a o (x a o h)
theorem Ex.new {F : Hp} {p : Addr} {o : HO} (h : F p = none) : Ex F (upd F p o) := fun a u e => by
  rw [upd_ne (ne_of_none e h)]; exact e
theorem Ex.upd2 {F H : Hp} {p : Addr} {o : HO} (x : Ex F H) : Ex (upd F p o) (upd H p o) := fun a u e => by
  by_cases hb : a = p
  · subst hb; rw [upd_same] at e ⊢; exact e
  · rw [upd_ne hb] at e ⊢; exact x a u e
/-- an object that F does not know may change -/
theorem Ex.mut {F H : Hp} {p : Addr} {o : HO} (x : Ex F H) (h : F p = none) : Ex F (upd H p o) := fun a u e => by
  rw [upd_ne (ne_of_none e h)]; exact x a u e
theorem Ex.none {F H : Hp} {p : Addr} (x : Ex F H) (h : H p = none) : F p = none := by
  cases q : F p with
  | none => rfl
  | some o => rw [x p o q] at h; cases h
theorem Ex.rd {F H : Hp} {a : Addr} {u : HO} (x : Ex F H) (h : Rd F a u) : Rd H a u := by
  rcases h with h | ⟨o, h⟩
  · exact .inl (x a _ h)
  · exact .inr ⟨o, x a _ h⟩
theorem Ex.sql {K : PySem.W.Frag} {F H : Hp} {a : Addr} {xs : List V} (x : Ex F H) (h : SqL K F a xs) : SqL K H a xs := by
  rcases h with h | h
  · exact .inl (x.rd h)
  · exact .inr h
theorem Ex.sqt {K : PySem.W.Frag} {F H : Hp} {a : Addr} {xs : List V} (x : Ex F H) (h : SqT K F a xs) : SqT K H a xs := by
  rcases h with h | h
  · exact .inl (x.rd h)
  · exact .inr h

mutual
/-- the value v stands for the datum d over the frozen heap F -/
inductive DR (K : PySem.W.Frag) (F : Hp) : V → D → Prop
  | non : DR K F .non .non
  | bl (b : Bool) : DR K F (.bl b) (.bl b)
  | int (i : Int) : DR K F (.int i) (.int i)
  | str (x : Str) : DR K F (.str x) (.str x)
  | lst {a : Addr} {xs : List V} {ds : List D} : F a = some (.lst xs) → DRs K F xs ds → DR K F (.ref a) (.lst ds)
  | rol {a : Addr} {xs : List V} {ds : List D} : SqL K F a xs → DRs K F xs ds → DR K F (.ref a) (.rol ds)
  | tup {a : Addr} {xs : List V} {ds : List D} : F a = some (.tup xs) → DRs K F xs ds → DR K F (.ref a) (.tup ds)
  | rot {a : Addr} {xs : List V} {ds : List D} : SqT K F a xs → DRs K F xs ds → DR K F (.ref a) (.rot ds)
  | ins {a C dx : Addr} {fvs : List (Str × V)} {fs : List (Str × D)} : F a = some (.ins C dx fvs) → DRf K F fvs fs → DR K F (.ref a) (.ins C fs)
inductive DRs (K : PySem.W.Frag) (F : Hp) : List V → List D → Prop
  | nil : DRs K F [] []
  | cons {v : V} {d : D} {vs : List V} {ds : List D} : DR K F v d → DRs K F vs ds → DRs K F (v :: vs) (d :: ds)
inductive DRf (K : PySem.W.Frag) (F : Hp) : List (Str × V) → List (Str × D) → Prop
  | nil : DRf K F [] []
  | cons {f : Str} {v : V} {d : D} {vs : List (Str × V)} {ds : List (Str × D)} : DR K F v d → DRf K F vs ds → DRf K F ((f, v) :: vs) ((f, d) :: ds)
end

section
variable {K : PySem.W.Frag} {F F' H H' : Hp}
mutual
theorem DR.mono (x : Ex F F') : ∀ (d : D) (v : V), DR K F v d → DR K F' v d
  | .non, v, h => by cases h; exact .non
  | .bl b, v, h => by cases h; exact .bl _
  | .int b, v, h => by cases h; exact .int _
  | .str b, v, h => by cases h; exact .str _
  | .lst ds, v, h => by
    cases h with
    | lst h1 h2 => exact .lst (x _ _ h1) (DRs.mono x ds _ h2)
  | .rol ds, v, h => by
    cases h with
    | rol h1 h2 => exact .rol (x.sql h1) (DRs.mono x ds _ h2)
  | .tup ds, v, h => by
    cases h with
    | tup h1 h2 => exact .tup (x _ _ h1) (DRs.mono x ds _ h2)
  | .rot ds, v, h => by
    cases h with
    | rot h1 h2 => exact .rot (x.sqt h1) (DRs.mono x ds _ h2)
  | .ins C fs, v, h => by
    cases h with
    | ins h1 h2 => exact .ins (x _ _ h1) (DRf.mono x fs _ h2)
theorem DRs.mono (x : Ex F F') : ∀ (ds : List D) (vs : List V), DRs K F vs ds → DRs K F' vs ds
  | [], _, h => by cases h; exact .nil
  | d :: ds, _, h => by
    cases h with
    | cons h1 h2 => exact .cons (DR.mono x d _ h1) (DRs.mono x ds _ h2)
theorem DRf.mono (x : Ex F F') : ∀ (ds : List (Str × D)) (vs : List (Str × V)), DRf K F vs ds → DRf K F' vs ds
  | [], _, h => by cases h; exact .nil
  | (f, d) :: ds, _, h => by
    cases h with
    | cons h1 h2 => exact .cons (DR.mono x d _ h1) (DRf.mono x ds _ h2)
end
theorem DRs.length : ∀ {vs : List V} {ds : List D}, DRs K F vs ds → vs.length = ds.length
  | _, _, .nil => rfl
  | _, _, .cons _ t => congrArg (· + 1) (DRs.length t)
theorem DRs.get : ∀ {vs : List V} {ds : List D} {i : Nat} {d : D}, DRs K F vs ds → ds[i]? = some d → ∃ v, vs[i]? = some v ∧ DR K F v d
  | _, _, i, d, .nil, e => by simp at e
  | _, _, 0, d, .cons h _, e => by
    simp at e; subst e; exact ⟨_, rfl, h⟩
  | _, _, i + 1, d, .cons _ t, e => by
    obtain ⟨v, h1, h2⟩ := DRs.get (i := i) (d := d) t (by simpa using e)
    exact ⟨v, by simpa using h1, h2⟩
theorem DRs.getV : ∀ {vs : List V} {ds : List D} {i : Nat} {v : V}, DRs K F vs ds → vs[i]? = some v → ∃ d, ds[i]? = some d ∧ DR K F v d
  | _, _, i, d, .nil, e => by simp at e
  | _, _, 0, d, .cons h _, e => by
    simp at e; subst e; exact ⟨_, rfl, h⟩
  | _, _, i + 1, d, .cons _ t, e => by
    obtain ⟨v, h1, h2⟩ := DRs.getV (i := i) (v := d) t (by simpa using e)
    exact ⟨v, by simpa using h1, h2⟩
theorem DRs.append : ∀ {vs ws : List V} {ds es : List D}, DRs K F vs ds → DRs K F ws es → DRs K F (vs ++ ws) (ds ++ es)
  | _, _, _, _, .nil, s => s
  | _, _, _, _, .cons h t, s => .cons h (DRs.append t s)
theorem DRs.set : ∀ {vs : List V} {ds : List D} {i : Nat} {v : V} {d : D}, DRs K F vs ds → DR K F v d → DRs K F (vs.set i v) (ds.set i d)
  | _, _, i, _, _, .nil, _ => .nil
  | _, _, 0, _, _, .cons _ t, h => .cons h t
  | _, _, i + 1, _, _, .cons q t, h => .cons q (DRs.set (i := i) t h)
theorem DRs.take : ∀ {vs : List V} {ds : List D} (n : Nat), DRs K F vs ds → DRs K F (vs.take n) (ds.take n)
  | _, _, 0, _ => by simpa using .nil
  | _, _, _ + 1, .nil => .nil
  | _, _, n + 1, .cons h t => .cons h (DRs.take n t)
theorem DRs.drop : ∀ {vs : List V} {ds : List D} (n : Nat), DRs K F vs ds → DRs K F (vs.drop n) (ds.drop n)
  | _, _, 0, h => h
  | _, _, _ + 1, .nil => .nil
  | _, _, n + 1, .cons _ t => DRs.drop n t
theorem DRs.dropLast {vs : List V} {ds : List D} (h : DRs K F vs ds) : DRs K F vs.dropLast ds.dropLast := by
  rw [List.dropLast_eq_take, List.dropLast_eq_take, h.length]; exact h.take _
theorem DRs.reverse : ∀ {vs : List V} {ds : List D}, DRs K F vs ds → DRs K F vs.reverse ds.reverse
  | _, _, .nil => .nil
  | _, _, .cons h t => by
    rw [List.reverse_cons, List.reverse_cons]; exact (DRs.reverse t).append (.cons h .nil)
theorem DRs.ints : ∀ (ns : List Int), DRs K F (ns.map V.int) (ns.map D.int)
  | [] => .nil
  | n :: ns => .cons (.int n) (DRs.ints ns)
theorem DRs.of_ints : ∀ {vs : List V} {ns : List Int}, DRs K F vs (ns.map D.int) → vs = ns.map V.int
  | _, [], h => by cases h; rfl
  | _, n :: ns, h => by
    cases h with
    | cons h1 h2 => cases h1; rw [DRs.of_ints h2]; rfl
theorem DRf.lookup : ∀ {vs : List (Str × V)} {ds : List (Str × D)} {f : Str} {d : D}, DRf K F vs ds → ds.lookup f = some d → ∃ v, vs.lookup f = some v ∧ DR K F v d
  | _, _, f, d, .nil, e => by simp at e
  | _, _, f, d, .cons (f := g) h t, e => by
    rw [List.lookup_cons] at e ⊢
    cases q : (f == g) with
    | true => rw [q] at e; cases e; exact ⟨_, rfl, h⟩
    | false => rw [q] at e; exact DRf.lookup t e
theorem DRf.names : ∀ {vs : List (Str × V)} {ds : List (Str × D)}, DRf K F vs ds → vs.map (·.1) = ds.map (·.1)
  | _, _, .nil => rfl
  | _, _, .cons h t => by rw [List.map_cons, List.map_cons, DRf.names t]
theorem DRf.lookup_none {vs : List (Str × V)} {ds : List (Str × D)} {f : Str} (r : DRf K F vs ds) (e : ds.lookup f = none) : vs.lookup f = none := by
  induction vs generalizing ds with
  | nil => rfl
  | cons p vs ih =>
    cases r with
    | cons h t =>
      rw [List.lookup_cons] at e ⊢
      rename_i g v d ds
      cases q : (f == g) with
      | true => rw [q] at e; cases e
      | false => rw [q] at e; exact ih t e
end

/-- a value of a slot or a place -/
def UR (K : PySem.W.Frag) (F : Hp) (as : List Addr) (v : V) : U → Prop
  | .fr d => DR K F v d
  | .mt h => ∃ a, as[h]? = some a ∧ v = .ref a
inductive URs (K : PySem.W.Frag) (F : Hp) (as : List Addr) : List V → List U → Prop
  | nil : URs K F as [] []
  | cons {v : V} {u : U} {vs : List V} {us : List U} : UR K F as v u → URs K F as vs us → URs K F as (v :: vs) (u :: us)
inductive URf (K : PySem.W.Frag) (F : Hp) (as : List Addr) : List (Str × V) → List (Str × U) → Prop
  | nil : URf K F as [] []
  | cons {f : Str} {v : V} {u : U} {vs : List (Str × V)} {us : List (Str × U)} : UR K F as v u → URf K F as vs us → URf K F as ((f, v) :: vs) ((f, u) :: us)
inductive DRk {κ : Type} (K : PySem.W.Frag) (F : Hp) : List (κ × V) → List (κ × D) → Prop
  | nil : DRk K F [] []
  | cons {k : κ} {v : V} {d : D} {vs : List (κ × V)} {ds : List (κ × D)} : DR K F v d → DRk K F vs ds → DRk K F ((k, v) :: vs) ((k, d) :: ds)
def MR (K : PySem.W.Frag) (F : Hp) (as : List Addr) : MO → HO → Prop
  | .lst ds, ho => ∃ vs, ho = .lst vs ∧ DRs K F vs ds
  | .nst us, ho => ∃ vs, ho = .lst vs ∧ URs K F as vs us
  | .dK kvs, ho => ∃ vs, ho = .dK vs ∧ DRk K F vs kvs
  | .dT kvs, ho => ∃ vs, ho = .dT vs ∧ DRk K F vs kvs
  | .ins C fs, ho => ∃ dx vs, ho = .ins C dx vs ∧ URf K F as vs fs

section
variable {K : PySem.W.Frag} {F F' H H' : Hp} {as as' : List Addr}
theorem pre_get {as as' : List Addr} {h : Nat} {a : Addr} (p : as <+: as') (e : as[h]? = some a) : as'[h]? = some a := by
  obtain ⟨t, rfl⟩ := p
  rw [List.getElem?_append_left (List.getElem?_eq_some_iff.mp e).1]; exact e
theorem UR.mono (x : Ex F F') (p : as <+: as') {v : V} {u : U} (h : UR K F as v u) : UR K F' as' v u := by
  cases u with
  | fr d => exact DR.mono x d v h
  | mt i => obtain ⟨a, e, q⟩ := h; exact ⟨a, pre_get p e, q⟩
theorem URs.mono (x : Ex F F') (p : as <+: as') : ∀ {vs : List V} {us : List U}, URs K F as vs us → URs K F' as' vs us
  | _, _, .nil => .nil
  | _, _, .cons h t => .cons (h.mono x p) (URs.mono x p t)
theorem URf.mono (x : Ex F F') (p : as <+: as') : ∀ {vs : List (Str × V)} {us : List (Str × U)}, URf K F as vs us → URf K F' as' vs us
  | _, _, .nil => .nil
  | _, _, .cons h t => .cons (h.mono x p) (URf.mono x p t)
theorem DRk.mono {κ : Type} (x : Ex F F') : ∀ {vs : List (κ × V)} {us : List (κ × D)}, DRk K F vs us → DRk K F' vs us
  | _, _, .nil => .nil
  | _, _, .cons h t => .cons (DR.mono x _ _ h) (DRk.mono x t)
theorem DRk.length {κ : Type} : ∀ {vs : List (κ × V)} {us : List (κ × D)}, DRk K F vs us → vs.length = us.length
  | _, _, .nil => rfl
  | _, _, .cons _ t => congrArg (· + 1) (DRk.length t)
theorem URs.length : ∀ {vs : List V} {us : List U}, URs K F as vs us → vs.length = us.length
  | _, _, .nil => rfl
  | _, _, .cons _ t => congrArg (· + 1) (URs.length t)
theorem URs.get : ∀ {vs : List V} {us : List U} {i : Nat} {u : U}, URs K F as vs us → us[i]? = some u → ∃ v, vs[i]? = some v ∧ UR K F as v u
  | _, _, i, d, .nil, e => by simp at e
  | _, _, 0, d, .cons h _, e => by
    simp at e; subst e; exact ⟨_, rfl, h⟩
  | _, _, i + 1, d, .cons _ t, e => by
    obtain ⟨v, h1, h2⟩ := URs.get (i := i) (u := d) t (by simpa using e)
    exact ⟨v, by simpa using h1, h2⟩
theorem MR.mono (x : Ex F F') (p : as <+: as') {mo : MO} {ho : HO} (h : MR K F as mo ho) : MR K F' as' mo ho := by
  cases mo with
  | lst ds => obtain ⟨vs, e, r⟩ := h; exact ⟨vs, e, DRs.mono x _ _ r⟩
  | nst ds => obtain ⟨vs, e, r⟩ := h; exact ⟨vs, e, r.mono x p⟩
  | dK ds => obtain ⟨vs, e, r⟩ := h; exact ⟨vs, e, r.mono x⟩
  | dT ds => obtain ⟨vs, e, r⟩ := h; exact ⟨vs, e, r.mono x⟩
  | ins C ds => obtain ⟨dx, vs, e, r⟩ := h; exact ⟨dx, vs, e, r.mono x p⟩
end

/-- the heap H holds the frozen part F and the mutable objects M at the addresses as -/
structure OkM (K : PySem.W.Frag) (G F : Hp) (as : List Addr) (H : Hp) (M : Mem) : Prop where
  ex : Ex F H
  gx : Ex G H
  gf : ∀ (a : Addr) (o : HO), G a = some o → F a = none
  len : M.length = as.length
  cell : ∀ (h : Nat) (mo : MO), M[h]? = some (some mo) → ∃ a ho, as[h]? = some a ∧ (F a = none ∧ G a = none) ∧ H a = some ho ∧ MR K F as mo ho
  inj : ∀ (h h' : Nat) (mo mo' : MO) (a : Addr), M[h]? = some (some mo) → M[h']? = some (some mo') → as[h]? = some a → as[h']? = some a → h = h'
/-- and the slots σ hold ρ -/
structure Ok (K : PySem.W.Frag) (G F : Hp) (as : List Addr) (H : Hp) (σ : L2.St) (M : Mem) (ρ : Sl) : Prop where
  m : OkM K G F as H M
  slen : ρ.length = σ.length
  slot : ∀ (i : Nat) (u : U), ρ[i]? = some (some u) → ∃ v, σ[i]? = some (some v) ∧ UR K F as v u

section
variable {K : PySem.W.Frag} {G F F' H H' : Hp} {as as' : List Addr} {M M' : Mem} {ρ : Sl} {σ : L2.St}
theorem Ok.of (o : Ok K G F as H σ M ρ) (m : OkM K G F' as' H' M') (x : Ex F F') (p : as <+: as') : Ok K G F' as' H' σ M' ρ :=
  ⟨m, o.slen, fun i u e => let ⟨v, h1, h2⟩ := o.slot i u e; ⟨v, h1, h2.mono x p⟩⟩
/-- a live cell's address -/
theorem OkM.here (o : OkM K G F as H M) {h : Nat} {mo : MO} {a : Addr} (e : M[h]? = some (some mo)) (ea : as[h]? = some a) : ∃ ho, (F a = none ∧ G a = none) ∧ H a = some ho ∧ MR K F as mo ho := by
  obtain ⟨b, ho, e1, e2, e3, e4⟩ := o.cell h mo e
  rw [ea] at e1; cases e1
  exact ⟨ho, e2, e3, e4⟩
/-- a new frozen object -/
theorem OkM.laid (o : OkM K G F as H M) {p : Addr} {ho : HO} (hp : H p = none) : OkM K G (upd F p ho) as (upd H p ho) M where
  ex := o.ex.upd2
  gx := o.gx.mut (o.gx.none hp)
  gf := fun a u e => by rw [upd_ne (ne_of_none e (o.gx.none hp))]; exact o.gf a u e
  len := o.len
  cell := fun h mo e => by
    obtain ⟨a, ho', e1, e2, e3, e4⟩ := o.cell h mo e
    have na : a ≠ p := ne_of_none e3 hp
    exact ⟨a, ho', e1, ⟨by rw [upd_ne na]; exact e2.1, e2.2⟩, by rw [upd_ne na]; exact e3, e4.mono (Ex.new (o.ex.none hp)) (List.prefix_refl _)⟩
  inj := o.inj
/-- the heap has one new object, known to nobody -/
theorem OkM.grown (o : OkM K G F as H M) {p : Addr} {ho : HO} (hp : H p = none) : OkM K G F as (upd H p ho) M where
  ex := o.ex.mut (o.ex.none hp)
  gx := o.gx.mut (o.gx.none hp)
  gf := o.gf
  len := o.len
  cell := fun h mo e => by
    obtain ⟨a, ho', e1, e2, e3, e4⟩ := o.cell h mo e
    have na : a ≠ p := ne_of_none e3 hp
    exact ⟨a, ho', e1, e2, by rw [upd_ne na]; exact e3, e4⟩
  inj := o.inj
/-- a mutable object at p, free so far -/
theorem OkM.push (o : OkM K G F as H M) {p : Addr} {mo : MO} {ho : HO} (hF : F p = none) (hG : G p = none) (hH : H p = some ho) (hr : MR K F as mo ho) (hn : ∀ (h : Nat) (mo' : MO), M[h]? = some (some mo') → as[h]? ≠ some p) : OkM K G F (as ++ [p]) H (M ++ [some mo]) where
  ex := o.ex
  gx := o.gx
  gf := o.gf
  len := by simp [o.len]
  cell := fun h mo' e => by
    by_cases hl : h < M.length
    · rw [List.getElem?_append_left hl] at e
      obtain ⟨a, ho', e1, e2, e3, e4⟩ := o.cell h mo' e
      exact ⟨a, ho', pre_get (List.prefix_append _ _) e1, e2, e3, e4.mono (Ex.refl _) (List.prefix_append _ _)⟩
    · have e0 : h = M.length := by
        have := (List.getElem?_eq_some_iff.mp e).1
        simp at this; omega
      subst e0
      rw [List.getElem?_append_right (Nat.le_refl _), Nat.sub_self] at e
      simp at e; subst e
      exact ⟨p, ho, by rw [o.len, List.getElem?_append_right (Nat.le_refl _), Nat.sub_self]; rfl, ⟨hF, hG⟩, hH, hr.mono (Ex.refl _) (List.prefix_append _ _)⟩
  inj := fun h h' mo1 mo2 a e1 e2 a1 a2 => by
    have key : ∀ {h : Nat} {mo' : MO} {a : Addr}, (M ++ [some mo])[h]? = some (some mo') → (as ++ [p])[h]? = some a → (M[h]? = some (some mo') ∧ as[h]? = some a) ∨ (h = M.length ∧ a = p) := fun {h mo' a} e ea => by
      by_cases hl : h < M.length
      · rw [List.getElem?_append_left hl] at e
        rw [List.getElem?_append_left (by rw [← o.len]; exact hl)] at ea
        exact .inl ⟨e, ea⟩
      · have e0 : h = M.length := by
          have := (List.getElem?_eq_some_iff.mp e).1
          simp at this; omega
        subst e0
        rw [o.len, List.getElem?_append_right (Nat.le_refl _), Nat.sub_self] at ea
        simp at ea
        exact .inr ⟨rfl, ea.symm⟩
    rcases key e1 a1 with ⟨q1, b1⟩ | ⟨q1, b1⟩ <;> rcases key e2 a2 with ⟨q2, b2⟩ | ⟨q2, b2⟩
    · exact o.inj h h' _ _ a q1 q2 b1 b2
    · subst b2; exact absurd b1 (hn _ _ q1)
    · subst b1; exact absurd b2 (hn _ _ q2)
    · rw [q1, q2]
/-- a mutable object is written -/
theorem OkM.write (o : OkM K G F as H M) {h : Nat} {mo mo' : MO} {a : Addr} {ho : HO} (e : M[h]? = some (some mo)) (ea : as[h]? = some a) (hr : MR K F as mo' ho) : OkM K G F as (upd H a ho) (M.set h (some mo')) where
  ex := o.ex.mut (o.here e ea).choose_spec.1.1
  gx := o.gx.mut (o.here e ea).choose_spec.1.2
  gf := o.gf
  len := by simp [o.len]
  cell := fun k mk ek => by
    have hlt := (List.getElem?_eq_some_iff.mp e).1
    by_cases hk : k = h
    · subst hk
      rw [List.getElem?_set_self hlt] at ek
      simp at ek; subst ek
      exact ⟨a, ho, ea, (o.here e ea).choose_spec.1, upd_same, hr⟩
    · rw [List.getElem?_set_ne (fun z => hk z.symm)] at ek
      obtain ⟨b, hb, e1, e2, e3, e4⟩ := o.cell k mk ek
      have nb : b ≠ a := fun z => by subst z; exact hk (o.inj k h _ _ b ek e e1 ea)
      exact ⟨b, hb, e1, e2, by rw [upd_ne nb]; exact e3, e4⟩
  inj := fun k k' mk mk' b e1 e2 a1 a2 => by
    have hlt := (List.getElem?_eq_some_iff.mp e).1
    have key : ∀ {k : Nat} {mk : MO}, (M.set h (some mo'))[k]? = some (some mk) → ∃ mk', M[k]? = some (some mk') := fun {k mk} q => by
      by_cases hk : k = h
      · subst hk; exact ⟨_, e⟩
      · rw [List.getElem?_set_ne (fun z => hk z.symm)] at q; exact ⟨_, q⟩
    obtain ⟨m1, q1⟩ := key e1
    obtain ⟨m2, q2⟩ := key e2
    exact o.inj k k' _ _ b q1 q2 a1 a2
/-- a mutable object is given up -/
theorem OkM.dead (o : OkM K G F as H M) (h : Nat) : OkM K G F as H (M.set h none) where
  ex := o.ex
  gx := o.gx
  gf := o.gf
  len := by simp [o.len]
  cell := fun k mk ek => by
    by_cases hk : h = k
    · subst hk
      have hlt : h < M.length := by
        have := (List.getElem?_eq_some_iff.mp ek).1
        simpa using this
      rw [List.getElem?_set_self hlt] at ek
      simp at ek
    · rw [List.getElem?_set_ne hk] at ek
      exact o.cell k mk ek
  inj := fun k k' mk mk' b e1 e2 a1 a2 => by
    have key : ∀ {k : Nat} {mk : MO}, (M.set h none)[k]? = some (some mk) → M[k]? = some (some mk) := fun {k mk} q => by
      by_cases hk : h = k
      · subst hk
        have hlt : h < M.length := by
          have := (List.getElem?_eq_some_iff.mp q).1
          simpa using this
        rw [List.getElem?_set_self hlt] at q
        simp at q
      · rw [List.getElem?_set_ne hk] at q; exact q
    exact o.inj k k' _ _ b (key e1) (key e2) a1 a2
/-- .. and becomes a part of the frozen heap -/
theorem OkM.freeze (o : OkM K G F as H M) {h : Nat} {mo : MO} {a : Addr} {ho : HO} (e : M[h]? = some (some mo)) (ea : as[h]? = some a) (hH : H a = some ho) : Ex F (upd F a ho) ∧ OkM K G (upd F a ho) as H (M.set h none) := by
  obtain ⟨ho', hF, hH', hr⟩ := o.here e ea
  rw [hH] at hH'; cases hH'
  have x : Ex F (upd F a ho) := Ex.new hF.1
  refine ⟨x, ⟨fun b u q => ?_, o.gx, fun b u q => by rw [upd_ne (ne_of_none q hF.2)]; exact o.gf b u q, by simp [o.len], fun k mk ek => ?_, (o.dead h).inj⟩⟩
  · by_cases hb : b = a
    · subst hb; rw [upd_same] at q; cases q; exact hH
    · rw [upd_ne hb] at q; exact o.ex b u q
  · have hk : h ≠ k := fun z => by
      subst z
      have hlt := (List.getElem?_eq_some_iff.mp e).1
      rw [List.getElem?_set_self hlt] at ek
      simp at ek
    rw [List.getElem?_set_ne hk] at ek
    obtain ⟨b, hb, e1, e2, e3, e4⟩ := o.cell k mk ek
    have nb : b ≠ a := fun z => by subst z; exact hk (o.inj h k _ _ b e ek ea e1)
    exact ⟨b, hb, e1, ⟨by rw [upd_ne nb]; exact e2.1, e2.2⟩, e3, e4.mono x (List.prefix_refl _)⟩
end
end L3
/-! L3B: what an expression does to the data. -/
namespace L3
open PySem PySem.Spec PyProof.Rows L2
variable {G : Hp}

abbrev RX := Addr → List (Str × D) → Sl → Mem → Prop
abbrev DE := Sl → Mem → (U → Sl → Mem → Prop) → RX → Prop
abbrev DT := Sl → Mem → (Bool → Sl → Mem → Prop) → RX → Prop
abbrev DA := Sl → Mem → (List U → Sl → Mem → Prop) → RX → Prop
abbrev DN := Sl → Mem → (MO → Sl → Mem → Prop) → RX → Prop
/-- a branch -/
def ifB (b : Bool) (A B : Prop) : Prop := (b = true → A) ∧ (b = false → B)
theorem ifB_t {b : Bool} {A B : Prop} (h : ifB b A B) (e : b = true) : A := h.1 e
theorem ifB_f {b : Bool} {A B : Prop} (h : ifB b A B) (e : b = false) : B := h.2 e
theorem ifT {A B : Prop} (h : A) : ifB true A B := ⟨fun _ => h, fun e => nomatch e⟩
theorem ifF {A B : Prop} (h : B) : ifB false A B := ⟨(fun e => nomatch e), fun _ => h⟩

/-- what hangs on an exception: no dict, or a dict of fields -/
def XR (K : PySem.W.Frag) (F H : Hp) (d : Option Addr) (fs : List (Str × D)) : Prop :=
  (fs = [] ∧ d = none) ∨ ∃ (dd : Addr) (fvs : List (Str × V)), d = some dd ∧ H dd = some (.xd fvs) ∧ DRf K F fvs fs
def KX (K : PySem.W.Frag) (G F : Hp) (as : List Addr) (R : RX) (Wx : WX) : Prop :=
  ∀ (C : Addr) (fs : List (Str × D)) (ρ' : Sl) (M' : Mem) (F' : Hp) (as' : List Addr) (H' : Hp) (σ' : L2.St) (d : Option Addr), R C fs ρ' M' → Ex F F' → as <+: as' → Ok K G F' as' H' σ' M' ρ' → XR K F' H' d fs → Wx (.ref C) d σ' H'
def KE (K : PySem.W.Frag) (G F : Hp) (as : List Addr) (σ : L2.St) (P : U → Sl → Mem → Prop) (Q : VK) : Prop :=
  ∀ (u : U) (ρ' : Sl) (M' : Mem) (F' : Hp) (as' : List Addr) (H' : Hp) (v : V), P u ρ' M' → Ex F F' → as <+: as' → Ok K G F' as' H' σ M' ρ' → UR K F' as' v u → Q v H'
def KT (K : PySem.W.Frag) (G F : Hp) (as : List Addr) (σ : L2.St) (P : Bool → Sl → Mem → Prop) (Q : Bool → Hp → Prop) : Prop :=
  ∀ (b : Bool) (ρ' : Sl) (M' : Mem) (F' : Hp) (as' : List Addr) (H' : Hp), P b ρ' M' → Ex F F' → as <+: as' → Ok K G F' as' H' σ M' ρ' → Q b H'
def KA (K : PySem.W.Frag) (G F : Hp) (as : List Addr) (σ : L2.St) (P : List U → Sl → Mem → Prop) (Q : List V → Hp → Prop) : Prop :=
  ∀ (us : List U) (ρ' : Sl) (M' : Mem) (F' : Hp) (as' : List Addr) (H' : Hp) (vs : List V), P us ρ' M' → Ex F F' → as <+: as' → Ok K G F' as' H' σ M' ρ' → URs K F' as' vs us → Q vs H'
/-- a fresh object: known to nobody -/
def KN (K : PySem.W.Frag) (G F : Hp) (as : List Addr) (σ : L2.St) (P : MO → Sl → Mem → Prop) (Q : VK) : Prop :=
  ∀ (mo : MO) (ρ' : Sl) (M' : Mem) (F' : Hp) (as' : List Addr) (H' : Hp) (a : Addr) (ho : HO), P mo ρ' M' → Ex F F' → as <+: as' → Ok K G F' as' H' σ M' ρ' → F' a = none → G a = none → H' a = some ho →
    (∀ (h : Nat) (mo' : MO), M'[h]? = some (some mo') → as'[h]? ≠ some a) → MR K F' as' mo ho → Q (.ref a) H'
section
variable {K : PySem.W.Frag} {F F1 : Hp} {as as1 : List Addr} {σ : L2.St} {R : RX} {Wx : WX} {Q : VK}
theorem KX.up (k : KX K G F as R Wx) (x : Ex F F1) (p : as <+: as1) : KX K G F1 as1 R Wx := fun C fs ρ' M' F' as' H' σ' d h x' p' o r => k C fs ρ' M' F' as' H' σ' d h (x.trans x') (p.trans p') o r
theorem KE.up {P : U → Sl → Mem → Prop} (k : KE K G F as σ P Q) (x : Ex F F1) (p : as <+: as1) : KE K G F1 as1 σ P Q := fun u ρ' M' F' as' H' v h x' p' o r => k u ρ' M' F' as' H' v h (x.trans x') (p.trans p') o r
theorem KT.up {P : Bool → Sl → Mem → Prop} {Q : Bool → Hp → Prop} (k : KT K G F as σ P Q) (x : Ex F F1) (p : as <+: as1) : KT K G F1 as1 σ P Q := fun u ρ' M' F' as' H' h x' p' o => k u ρ' M' F' as' H' h (x.trans x') (p.trans p') o
theorem KA.up {P : List U → Sl → Mem → Prop} {Q : List V → Hp → Prop} (k : KA K G F as σ P Q) (x : Ex F F1) (p : as <+: as1) : KA K G F1 as1 σ P Q := fun u ρ' M' F' as' H' v h x' p' o r => k u ρ' M' F' as' H' v h (x.trans x') (p.trans p') o r
theorem KN.up {P : MO → Sl → Mem → Prop} (k : KN K G F as σ P Q) (x : Ex F F1) (p : as <+: as1) : KN K G F1 as1 σ P Q := fun u ρ' M' F' as' H' v ho h x' p' o => k u ρ' M' F' as' H' v ho h (x.trans x') (p.trans p') o
end
def cE (K : PySem.W.Frag) (Wx : WX) (W : DE) : TE := fun σ H Q => ∃ G F as ρ M P R, Ok K G F as H σ M ρ ∧ W ρ M P R ∧ KE K G F as σ P Q ∧ KX K G F as R Wx
def cT (K : PySem.W.Frag) (Wx : WX) (W : DT) : TT := fun σ H Q => ∃ G F as ρ M P R, Ok K G F as H σ M ρ ∧ W ρ M P R ∧ KT K G F as σ P Q ∧ KX K G F as R Wx
def cA (K : PySem.W.Frag) (Wx : WX) (W : DA) : TA := fun σ H Q => ∃ G F as ρ M P R, Ok K G F as H σ M ρ ∧ W ρ M P R ∧ KA K G F as σ P Q ∧ KX K G F as R Wx
def cN (K : PySem.W.Frag) (Wx : WX) (W : DN) : TE := fun σ H Q => ∃ G F as ρ M P R, Ok K G F as H σ M ρ ∧ W ρ M P R ∧ KN K G F as σ P Q ∧ KX K G F as R Wx

structure GE (X : Cx) (Wx : WX) (e : Expr) (W : DE) : Prop where
  pe : PE X e (cE X.K Wx W)
structure GT (X : Cx) (Wx : WX) (e : Expr) (W : DT) : Prop where
  pt : PT X e (cT X.K Wx W)
structure GW (X : Cx) (Wx : WX) (e : Expr) (W : DT) : Prop where
  pw : PW X e (cT X.K Wx W)
structure GA (X : Cx) (Wx : WX) (es : List Expr) (W : DA) : Prop where
  pa : PA X es (cA X.K Wx W)
structure GN (X : Cx) (Wx : WX) (e : Expr) (W : DN) : Prop where
  pe : PE X e (cN X.K Wx W)

section
variable {X : Cx} {Wx : WX}
theorem PE.imp {e : Expr} {t t' : TE} (h : PE X e t) (i : ∀ σ H Q, t' σ H Q → t σ H Q) : PE X e t' := ⟨fun pins s σ H Q I w => h.run pins s σ H Q I (i _ _ _ w)⟩
theorem PT.imp {e : Expr} {t t' : TT} (h : PT X e t) (i : ∀ σ H Q, t' σ H Q → t σ H Q) : PT X e t' := ⟨fun pins s σ H Q I w => h.run pins s σ H Q I (i _ _ _ w)⟩
theorem PW.imp {e : Expr} {t t' : TT} (h : PW X e t) (i : ∀ σ H Q, t' σ H Q → t σ H Q) : PW X e t' := ⟨fun wh pins s σ H Q I w => h.run wh pins s σ H Q I (i _ _ _ w)⟩
theorem PA.imp {e : List Expr} {t t' : TA} (h : PA X e t) (i : ∀ σ H Q, t' σ H Q → t σ H Q) : PA X e t' := ⟨fun pos pins s σ H Q I w => h.run pos pins s σ H Q I (i _ _ _ w)⟩
theorem PC.imp {op : CmpOp} {a b : Expr} {t t' : TE} (h : PC X op a b t) (i : ∀ σ H Q, t' σ H Q → t σ H Q) : PC X op a b t' := ⟨fun pins s σ H Q I w => h.run pins s σ H Q I (i _ _ _ w)⟩

/-! ### names and constants -/
def dVar (i : Nat) : DE := fun ρ M P _ => match ρ[i]? with
  | some (some u) => P u ρ M
  | _ => False
theorem ge_var (i : Nat) {x : Str} {pos : Pos} (hN : X.N[i]? = some x := by rfl) (hv : Vis X.env.scope x := by first | exact Or.inl rfl | exact Or.inr (Or.inl rfl) | exact Or.inr (Or.inr rfl)) (hd : (x == ("__debug__" : Str)) = false := by decide)
    (hcd : (x == ("__classdict__" : Str)) = false := by decide) : GE X Wx (.Name x pos) (dVar i) := ⟨PE.imp (pe_var hN hv hd hcd) fun σ H Q ⟨G, F, as, ρ, M, P, R, o, w, k, kx⟩ => by
  unfold dVar at w
  cases q : ρ[i]? with
  | none => rw [q] at w; exact w.elim
  | some z =>
    cases z with
    | none => rw [q] at w; exact w.elim
    | some u =>
      rw [q] at w
      obtain ⟨v, e, r⟩ := o.slot i u q
      exact ⟨v, e, k u ρ M F as H v w (Ex.refl _) (List.prefix_refl _) o r⟩⟩
def dC (d : D) : DE := fun ρ M P _ => P (.fr d) ρ M
theorem ge_cst {e : Expr} {v : V} {d : D} (h : PE X e (tC v)) (hd : ∀ F, DR X.K F v d) : GE X Wx e (dC d) := ⟨PE.imp h fun σ H Q ⟨G, F, as, ρ, M, P, R, o, w, k, kx⟩ =>
  k (.fr d) ρ M F as H v w (Ex.refl _) (List.prefix_refl _) o (hd F)⟩
theorem ge_int {i j pos} : GE X Wx (.Constant (.int i) j pos) (dC (.int i)) := ge_cst pe_int fun _ => .int _
theorem ge_bl {b j pos} : GE X Wx (.Constant (.bool b) j pos) (dC (.bl b)) := ge_cst pe_bl fun _ => .bl _
theorem ge_non {j pos} : GE X Wx (.Constant .none j pos) (dC .non) := ge_cst pe_non fun _ => .non
theorem ge_str {x j pos} : GE X Wx (.Constant (.str x) j pos) (dC (.str x)) := ge_cst pe_str fun _ => .str _
theorem ge_glob {x : Str} {v : V} {u : Value} {d : D} {pos : Pos} (hm : X.mg x = some u) (r : RelV v u) (hd : ∀ F, DR X.K F v d) (hg : Gl X x := by rfl) (hx : (x == ("__debug__" : Str)) = false := by decide) : GE X Wx (.Name x pos) (dC d) := ge_cst (pe_glob hg hm r hx) hd

/-! ### operators by values -/
structure OpD (X : Cx) (f : Value → Value → Sem Value) (d : U → U → Mem → (U → Prop) → Prop) : Prop where
  ex : ∃ r : R2, OpR X f r ∧ ∀ (G F : Hp) (as : List Addr) (H : Hp) (M : Mem) (ux uy : U) (x y : V) (P : U → Prop) (Q : VK), OkM X.K G F as H M → UR X.K F as x ux → UR X.K F as y uy → d ux uy M P →
    (∀ (u : U) (v : V) (F' H' : Hp), P u → Ex F F' → OkM X.K G F' as H' M → UR X.K F' as v u → Q v H') → r x y H Q
def dOp (d : U → U → Mem → (U → Prop) → Prop) (wa wb : DE) : DE := fun ρ M P R => wa ρ M (fun x ρ1 M1 => wb ρ1 M1 (fun y ρ2 M2 => d x y M2 fun u => P u ρ2 M2) R) R
theorem op_core {d : U → U → Mem → (U → Prop) → Prop} {r : R2} {wa wb : DE}
    (hr : ∀ (G F : Hp) (as : List Addr) (H : Hp) (M : Mem) (ux uy : U) (x y : V) (P : U → Prop) (Q : VK), OkM X.K G F as H M → UR X.K F as x ux → UR X.K F as y uy → d ux uy M P →
      (∀ (u : U) (v : V) (F' H' : Hp), P u → Ex F F' → OkM X.K G F' as H' M → UR X.K F' as v u → Q v H') → r x y H Q) (σ : L2.St) (H : Hp) (Q : VK) (h : cE X.K Wx (dOp d wa wb) σ H Q) : tOp r (cE X.K Wx wa) (cE X.K Wx wb) σ H Q := by
  obtain ⟨G, F, as, ρ, M, P, R, o, w, k, kx⟩ := h
  refine ⟨G, F, as, ρ, M, _, R, o, w, fun x ρ1 M1 F1 as1 H1 vx w1 x1 p1 o1 r1 => ?_, kx⟩
  refine ⟨G, F1, as1, ρ1, M1, _, R, o1, w1, fun y ρ2 M2 F2 as2 H2 vy w2 x2 p2 o2 r2 => ?_, kx.up x1 p1⟩
  refine hr G F2 as2 H2 M2 x y vx vy _ Q o2.m (r1.mono x2 p2) r2 w2 fun u v F3 H3 pu x3 o3 r3 => ?_
  exact k u ρ2 M2 F3 as2 H3 v pu ((x1.trans x2).trans x3) (p1.trans p2) (o2.of o3 x3 (List.prefix_refl _)) r3
theorem ge_op {op : Operator} {a b : Expr} {pos : Pos} {d : U → U → Mem → (U → Prop) → Prop} {wa wb : DE} (ho : OpD X (binaryOp op) d) (ha : GE X Wx a wa) (hb : GE X Wx b wb) : GE X Wx (.BinOp a op b pos) (dOp d wa wb) := by
  obtain ⟨r, h1, hr⟩ := ho.ex
  exact ⟨PE.imp (pe_op h1 ha.pe hb.pe) (op_core hr)⟩
theorem ge_cmp {op : CmpOp} {a b : Expr} {pos : Pos} {d : U → U → Mem → (U → Prop) → Prop} {wa wb : DE} (ho : OpD X (compareOp op) d) (ha : GE X Wx a wa) (hb : GE X Wx b wb) (hm : behindInMarks op b = false := by first | exact nomark _ | rfl) : GE X Wx (.Compare a [op] [b] pos) (dOp d wa wb) := by
  obtain ⟨r, h1, hr⟩ := ho.ex
  exact ⟨PE.imp (pe_cmpR h1 ha.pe hb.pe hm) (op_core hr)⟩
/-- a bool value as a test -/
def dTest (wa : DE) : DT := fun ρ M P R => wa ρ M (fun x ρ1 M1 => match x with
  | .fr (.bl b) => P b ρ1 M1
  | _ => False) R
theorem test_core {wa : DE} {t : TE} (ht : ∀ σ H Q, cE X.K Wx wa σ H Q → t σ H Q) (σ : L2.St) (H : Hp) (Q : Bool → Hp → Prop) (h : cT X.K Wx (dTest wa) σ H Q) : tTest t σ H Q := by
  obtain ⟨G, F, as, ρ, M, P, R, o, w, k, kx⟩ := h
  refine ht _ _ _ ⟨G, F, as, ρ, M, _, R, o, w, fun x ρ1 M1 F1 as1 H1 vx w1 x1 p1 o1 r1 => ?_, kx⟩
  match x, w1 with
  | .fr (.bl b), w1 =>
    cases r1
    exact ⟨b, rfl, k b ρ1 M1 F1 as1 H1 w1 x1 p1 o1⟩
theorem gt_cmp {op : CmpOp} {a b : Expr} {pos : Pos} {d : U → U → Mem → (U → Prop) → Prop} {wa wb : DE} (ho : OpD X (compareOp op) d) (ha : GE X Wx a wa) (hb : GE X Wx b wb) (hm : behindInMarks op b = false := by first | exact nomark _ | rfl) : GT X Wx (.Compare a [op] [b] pos) (dTest (dOp d wa wb)) := by
  obtain ⟨r, h1, hr⟩ := ho.ex
  exact ⟨PT.imp (pt_cmpR h1 ha.pe hb.pe hm) (test_core (op_core hr))⟩
/-- any expression whose value is a bool -/
theorem gt_val {e : Expr} {wa : DE} (h : GE X Wx e wa) (he : ∀ whole, isTrue e X.env whole = (do let v ← whole; standAt e.pos; holding [v] (truthy v)) := by intro _; rfl) : GT X Wx e (dTest wa) :=
  ⟨PT.imp (pt_val h.pe he) fun σ H Q h => test_core (fun _ _ _ z => z) σ H Q h⟩
/-- chains a op b op' c -/
def dChain (d d' : U → U → Mem → (U → Prop) → Prop) (wa wb wc : DE) : DE := fun ρ M P R => wa ρ M (fun x ρ1 M1 => wb ρ1 M1 (fun y ρ2 M2 => d x y M2 fun z => match z with
  | .fr (.bl k) => ifB k (wc ρ2 M2 (fun u ρ3 M3 => d' y u M3 fun r => P r ρ3 M3) R) (P (.fr (.bl false)) ρ2 M2)
  | _ => False) R) R

/-! ### and, or, not -/
def dAndV (wa wb : DE) : DE := fun ρ M P R => wa ρ M (fun x ρ1 M1 => match x with
  | .fr (.bl b) => ifB b (wb ρ1 M1 P R) (P (.fr (.bl false)) ρ1 M1)
  | _ => False) R
def dOrV (wa wb : DE) : DE := fun ρ M P R => wa ρ M (fun x ρ1 M1 => match x with
  | .fr (.bl b) => ifB b (P (.fr (.bl true)) ρ1 M1) (wb ρ1 M1 P R)
  | _ => False) R
def dNotV (wa : DE) : DE := fun ρ M P R => wa ρ M (fun x ρ1 M1 => match x with
  | .fr (.bl b) => P (.fr (.bl (!b))) ρ1 M1
  | _ => False) R
theorem ge_one {op} {a : Expr} {pos : Pos} {w : DE} (h : GE X Wx a w) : GE X Wx (.BoolOp op [a] pos) w := ⟨pe_one h.pe⟩
theorem ge_and {a b : Expr} {rest : List Expr} {pos : Pos} {wa wb : DE} (ha : GE X Wx a wa) (hb : GE X Wx (.BoolOp .And (b :: rest) pos) wb) : GE X Wx (.BoolOp .And (a :: b :: rest) pos) (dAndV wa wb) :=
  ⟨PE.imp (pe_and ha.pe hb.pe) fun σ H Q ⟨G, F, as, ρ, M, P, R, o, w, k, kx⟩ => by
    refine ⟨G, F, as, ρ, M, _, R, o, w, fun x ρ1 M1 F1 as1 H1 vx w1 x1 p1 o1 r1 => ?_, kx⟩
    match x, w1 with
    | .fr (.bl true), w1 => cases r1; exact ⟨true, rfl, ⟨G, F1, as1, ρ1, M1, P, R, o1, w1.1 rfl, k.up x1 p1, kx.up x1 p1⟩⟩
    | .fr (.bl false), w1 => cases r1; exact ⟨false, rfl, k _ ρ1 M1 F1 as1 H1 _ (w1.2 rfl) x1 p1 o1 (.bl _)⟩⟩
theorem ge_or {a b : Expr} {rest : List Expr} {pos : Pos} {wa wb : DE} (ha : GE X Wx a wa) (hb : GE X Wx (.BoolOp .Or (b :: rest) pos) wb) : GE X Wx (.BoolOp .Or (a :: b :: rest) pos) (dOrV wa wb) :=
  ⟨PE.imp (pe_or ha.pe hb.pe) fun σ H Q ⟨G, F, as, ρ, M, P, R, o, w, k, kx⟩ => by
    refine ⟨G, F, as, ρ, M, _, R, o, w, fun x ρ1 M1 F1 as1 H1 vx w1 x1 p1 o1 r1 => ?_, kx⟩
    match x, w1 with
    | .fr (.bl false), w1 => cases r1; exact ⟨false, rfl, ⟨G, F1, as1, ρ1, M1, P, R, o1, w1.2 rfl, k.up x1 p1, kx.up x1 p1⟩⟩
    | .fr (.bl true), w1 => cases r1; exact ⟨true, rfl, k _ ρ1 M1 F1 as1 H1 _ (w1.1 rfl) x1 p1 o1 (.bl _)⟩⟩
theorem ge_not {a : Expr} {pos : Pos} {wa : DE} (ha : GE X Wx a wa) : GE X Wx (.UnaryOp .Not a pos) (dNotV wa) :=
  ⟨PE.imp (pe_not ha.pe) fun σ H Q ⟨G, F, as, ρ, M, P, R, o, w, k, kx⟩ => by
    refine ⟨G, F, as, ρ, M, _, R, o, w, fun x ρ1 M1 F1 as1 H1 vx w1 x1 p1 o1 r1 => ?_, kx⟩
    match x, w1 with
    | .fr (.bl b), w1 => cases r1; exact ⟨b, rfl, k _ ρ1 M1 F1 as1 H1 _ w1 x1 p1 o1 (.bl _)⟩⟩
def dAnd (wt wu : DT) : DT := fun ρ M P R => wt ρ M (fun b ρ1 M1 => ifB b (wu ρ1 M1 P R) (P false ρ1 M1)) R
def dOr (wt wu : DT) : DT := fun ρ M P R => wt ρ M (fun b ρ1 M1 => ifB b (P true ρ1 M1) (wu ρ1 M1 P R)) R
def dNot (wt : DT) : DT := fun ρ M P R => wt ρ M (fun b ρ1 M1 => P (!b) ρ1 M1) R
theorem gw_and1 {a : Expr} {pos : Pos} {w : DT} (h : GT X Wx a w) : GW X Wx (.BoolOp .And [a] pos) w := ⟨pw_and1 h.pt⟩
theorem gw_or1 {a : Expr} {pos : Pos} {w : DT} (h : GT X Wx a w) : GW X Wx (.BoolOp .Or [a] pos) w := ⟨pw_or1 h.pt⟩
theorem gw_and {a b : Expr} {rest : List Expr} {pos : Pos} {wa wb : DT} (ha : GT X Wx a wa) (hb : GW X Wx (.BoolOp .And (b :: rest) pos) wb) : GW X Wx (.BoolOp .And (a :: b :: rest) pos) (dAnd wa wb) :=
  ⟨PW.imp (pw_and ha.pt hb.pw) fun σ H Q ⟨G, F, as, ρ, M, P, R, o, w, k, kx⟩ => by
    refine ⟨G, F, as, ρ, M, _, R, o, w, fun x ρ1 M1 F1 as1 H1 w1 x1 p1 o1 => ?_, kx⟩
    cases x with
    | true => exact ⟨G, F1, as1, ρ1, M1, P, R, o1, w1.1 rfl, k.up x1 p1, kx.up x1 p1⟩
    | false => exact k false ρ1 M1 F1 as1 H1 (w1.2 rfl) x1 p1 o1⟩
theorem gw_or {a b : Expr} {rest : List Expr} {pos : Pos} {wa wb : DT} (ha : GT X Wx a wa) (hb : GW X Wx (.BoolOp .Or (b :: rest) pos) wb) : GW X Wx (.BoolOp .Or (a :: b :: rest) pos) (dOr wa wb) :=
  ⟨PW.imp (pw_or ha.pt hb.pw) fun σ H Q ⟨G, F, as, ρ, M, P, R, o, w, k, kx⟩ => by
    refine ⟨G, F, as, ρ, M, _, R, o, w, fun x ρ1 M1 F1 as1 H1 w1 x1 p1 o1 => ?_, kx⟩
    cases x with
    | false => exact ⟨G, F1, as1, ρ1, M1, P, R, o1, w1.2 rfl, k.up x1 p1, kx.up x1 p1⟩
    | true => exact k true ρ1 M1 F1 as1 H1 (w1.1 rfl) x1 p1 o1⟩
theorem gt_w {e : Expr} {w : DT} (h : GW X Wx e w) : GT X Wx e w := ⟨h.pw.pt⟩
theorem gt_not {a : Expr} {pos : Pos} {w : DT} (h : GT X Wx a w) : GT X Wx (.UnaryOp .Not a pos) (dNot w) :=
  ⟨PT.imp (pt_not h.pt) fun σ H Q ⟨G, F, as, ρ, M, P, R, o, w, k, kx⟩ => ⟨G, F, as, ρ, M, _, R, o, w, fun b ρ1 M1 F1 as1 H1 w1 x1 p1 o1 => k (!b) ρ1 M1 F1 as1 H1 w1 x1 p1 o1, kx⟩⟩
/-- a test without effect, its answer said -/
def dPureT (wt : DT) : DT := fun ρ M P R => ∃ b, wt ρ M (fun b' ρ' M' => b' = b ∧ ρ' = ρ ∧ M' = M) R ∧ P b ρ M
theorem gt_pure {e : Expr} {w : DT} (h : GT X Wx e w) : GT X Wx e (dPureT w) :=
  ⟨PT.imp h.pt fun σ H Q ⟨G, F, as, ρ, M, P, R, o, ⟨b, w, pb⟩, k, kx⟩ => ⟨G, F, as, ρ, M, _, R, o, w, fun b' ρ1 M1 F1 as1 H1 w1 x1 p1 o1 => by
    obtain ⟨rfl, rfl, rfl⟩ := w1
    exact k _ _ _ F1 as1 H1 pb x1 p1 o1, kx⟩⟩
def dPureE (w : DE) : DE := fun ρ M P R => ∃ u, w ρ M (fun u' ρ' M' => u' = u ∧ ρ' = ρ ∧ M' = M) R ∧ P u ρ M
theorem ge_pure {e : Expr} {w : DE} (h : GE X Wx e w) : GE X Wx e (dPureE w) :=
  ⟨PE.imp h.pe fun σ H Q ⟨G, F, as, ρ, M, P, R, o, ⟨b, w, pb⟩, k, kx⟩ => ⟨G, F, as, ρ, M, _, R, o, w, fun b' ρ1 M1 F1 as1 H1 v1 w1 x1 p1 o1 r1 => by
    obtain ⟨rfl, rfl, rfl⟩ := w1
    exact k _ _ _ F1 as1 H1 v1 pb x1 p1 o1 r1, kx⟩⟩
/-- a if c else b -/
def dIfE (wt : DT) (wa wb : DE) : DE := fun ρ M P R => wt ρ M (fun b ρ1 M1 => ifB b (wa ρ1 M1 P R) (wb ρ1 M1 P R)) R
theorem ge_ifExp {c a b : Expr} {pos : Pos} {wt : DT} {wa wb : DE} (hc : GT X Wx c wt) (ha : GE X Wx a wa) (hb : GE X Wx b wb) : GE X Wx (.IfExp c a b pos) (dIfE wt wa wb) :=
  ⟨PE.imp (pe_ifExp hc.pt ha.pe hb.pe) fun σ H Q ⟨G, F, as, ρ, M, P, R, o, w, k, kx⟩ => by
    refine ⟨G, F, as, ρ, M, _, R, o, w, fun x ρ1 M1 F1 as1 H1 w1 x1 p1 o1 => ?_, kx⟩
    cases x with
    | true => exact ⟨G, F1, as1, ρ1, M1, P, R, o1, w1.1 rfl, k.up x1 p1, kx.up x1 p1⟩
    | false => exact ⟨G, F1, as1, ρ1, M1, P, R, o1, w1.2 rfl, k.up x1 p1, kx.up x1 p1⟩⟩

/-! ### arguments -/
def dNil : DA := fun ρ M P _ => P [] ρ M
def dCons (wa : DE) (wr : DA) : DA := fun ρ M P R => wa ρ M (fun x ρ1 M1 => wr ρ1 M1 (fun xs ρ2 M2 => P (x :: xs) ρ2 M2) R) R
theorem ga_nil : GA X Wx [] dNil := ⟨PA.imp pa_nil fun σ H Q ⟨G, F, as, ρ, M, P, R, o, w, k, kx⟩ => k [] ρ M F as H [] w (Ex.refl _) (List.prefix_refl _) o .nil⟩
theorem ga_cons {e : Expr} {es : List Expr} {wa : DE} {wr : DA} (ha : GE X Wx e wa) (hr : GA X Wx es wr) (hs : starEach (e :: es) X.env = (false, eval e X.env) :: starEach es X.env := by rfl) : GA X Wx (e :: es) (dCons wa wr) :=
  ⟨PA.imp (pa_cons ha.pe hr.pa hs) fun σ H Q ⟨G, F, as, ρ, M, P, R, o, w, k, kx⟩ => by
    refine ⟨G, F, as, ρ, M, _, R, o, w, fun x ρ1 M1 F1 as1 H1 vx w1 x1 p1 o1 r1 => ?_, kx⟩
    refine ⟨G, F1, as1, ρ1, M1, _, R, o1, w1, fun xs ρ2 M2 F2 as2 H2 vs w2 x2 p2 o2 r2 => ?_, kx.up x1 p1⟩
    exact k (x :: xs) ρ2 M2 F2 as2 H2 (vx :: vs) w2 (x1.trans x2) (p1.trans p2) o2 (.cons (r1.mono x2 p2) r2)⟩

/-! ### freezing -/
def frz (h : Nat) (d : D) : Option U → Option U
  | some (.mt k) => if k = h then some (.fr d) else some (.mt k)
  | x => x
def toDs : List U → Option (List D)
  | [] => some []
  | .fr d :: r => (toDs r).map (d :: ·)
  | _ => none
def toDf : List (Str × U) → Option (List (Str × D))
  | [] => some []
  | (f, .fr d) :: r => (toDf r).map ((f, d) :: ·)
  | _ => none
def MO.toD : MO → Option D
  | .lst ds => some (.lst ds)
  | .nst us => (toDs us).map .lst
  | .ins C fs => (toDf fs).map (.ins C)
  | _ => none
theorem toDs_ok {K : PySem.W.Frag} {F : Hp} {as : List Addr} : ∀ {us : List U} {vs : List V} {ds : List D}, URs K F as vs us → toDs us = some ds → DRs K F vs ds
  | [], _, ds, .nil, e => by cases e; exact .nil
  | .fr d :: us, _, ds, .cons h t, e => by
    simp only [toDs, Option.map_eq_some_iff] at e
    obtain ⟨ds', e1, rfl⟩ := e
    exact .cons h (toDs_ok t e1)
  | .mt k :: us, _, ds, .cons h t, e => by simp [toDs] at e
theorem toDf_ok {K : PySem.W.Frag} {F : Hp} {as : List Addr} : ∀ {us : List (Str × U)} {vs : List (Str × V)} {ds : List (Str × D)}, URf K F as vs us → toDf us = some ds → DRf K F vs ds
  | [], _, ds, .nil, e => by cases e; exact .nil
  | (f, .fr d) :: us, _, ds, .cons h t, e => by
    simp only [toDf, Option.map_eq_some_iff] at e
    obtain ⟨ds', e1, rfl⟩ := e
    exact .cons h (toDf_ok t e1)
  | (f, .mt k) :: us, _, ds, .cons h t, e => by simp [toDf] at e
theorem MO.toD_ok {K : PySem.W.Frag} {F : Hp} {as : List Addr} {mo : MO} {d : D} {ho : HO} {a : Addr} (e : mo.toD = some d) (r : MR K F as mo ho) (hF : F a = some ho) : DR K F (.ref a) d := by
  cases mo with
  | lst ds => cases e; obtain ⟨vs, rfl, q⟩ := r; exact .lst hF q
  | nst us =>
    simp only [MO.toD, Option.map_eq_some_iff] at e
    obtain ⟨ds, e1, rfl⟩ := e
    obtain ⟨vs, rfl, q⟩ := r
    exact .lst hF (toDs_ok q e1)
  | ins C fs =>
    simp only [MO.toD, Option.map_eq_some_iff] at e
    obtain ⟨ds, e1, rfl⟩ := e
    obtain ⟨dx, vs, rfl, q⟩ := r
    exact .ins hF (toDf_ok q e1)
  | dK _ => cases e
  | dT _ => cases e
theorem Ok.freeze {K : PySem.W.Frag} {F H : Hp} {as : List Addr} {M : Mem} {ρ : Sl} {σ : L2.St} (o : Ok K G F as H σ M ρ) {h : Nat} {mo : MO} {d : D} {v : V} (e : M[h]? = some (some mo)) (ed : mo.toD = some d) (ru : UR K F as v (.mt h)) :
    ∃ F', Ex F F' ∧ Ok K G F' as H σ (M.set h none) (ρ.map (frz h d)) ∧ DR K F' v d := by
  obtain ⟨a, ea, rfl⟩ := ru
  obtain ⟨ho, hF, hH, hr⟩ := o.m.here e ea
  obtain ⟨x, o'⟩ := o.m.freeze e ea hH
  have dr : DR K (upd F a ho) (.ref a) d := MO.toD_ok ed (hr.mono x (List.prefix_refl _)) upd_same
  refine ⟨_, x, ⟨o', by simp [o.slen], fun i u eu => ?_⟩, dr⟩
  rw [List.getElem?_map] at eu
  cases q : ρ[i]? with
  | none => rw [q] at eu; cases eu
  | some z =>
    rw [q] at eu
    cases z with
    | none => cases eu
    | some w =>
      obtain ⟨v, hv, r⟩ := o.slot i w q
      refine ⟨v, hv, ?_⟩
      cases w with
      | fr d' => cases eu; exact DR.mono x d' v r
      | mt k =>
        simp only [Option.map, frz] at eu
        by_cases hk : k = h
        · subst hk
          rw [if_pos rfl] at eu
          cases eu
          obtain ⟨b, eb, rfl⟩ := r
          rw [ea] at eb; cases eb
          exact dr
        · rw [if_neg hk] at eu
          cases eu
          exact r.mono x (List.prefix_refl _)
/-- the value, frozen if it is mutable -/
def fzK (P : U → Sl → Mem → Prop) : U → Sl → Mem → Prop := fun u ρ M => match u with
  | .fr d => P (.fr d) ρ M
  | .mt h => match M[h]? with
    | some (some mo) => match mo.toD with
      | some d => P (.fr d) (ρ.map (frz h d)) (M.set h none)
      | none => False
    | _ => False
theorem KE.fz {K : PySem.W.Frag} {F : Hp} {as : List Addr} {σ : L2.St} {P : U → Sl → Mem → Prop} {Q : VK} (k : KE K G F as σ P Q) : KE K G F as σ (fzK P) Q := fun u ρ' M' F' as' H' v h x p o r => by
  match u, h with
  | .fr d, h => exact k _ _ _ _ _ _ _ h x p o r
  | .mt i, h =>
    unfold fzK at h
    cases q : M'[i]? with
    | none => simp only [q] at h
    | some z =>
      cases z with
      | none => simp only [q] at h
      | some mo =>
        simp only [q] at h
        cases qd : mo.toD with
        | none => simp only [qd] at h
        | some d =>
          simp only [qd] at h
          obtain ⟨F2, x2, o2, dr⟩ := o.freeze q qd r
          exact k _ _ _ F2 as' H' v h (x.trans x2) p o2 dr
def dFz (w : DE) : DE := fun ρ M P R => w ρ M (fzK P) R
theorem ge_fz {e : Expr} {w : DE} (h : GE X Wx e w) : GE X Wx e (dFz w) := ⟨PE.imp h.pe fun σ H Q ⟨G, F, as, ρ, M, P, R, o, w, k, kx⟩ => ⟨G, F, as, ρ, M, _, R, o, w, k.fz, kx⟩⟩
/-- a fresh object, frozen at once -/
def dNew (w : DN) : DE := fun ρ M P R => w ρ M (fun mo ρ1 M1 => match mo.toD with
  | some d => P (.fr d) ρ1 M1
  | none => False) R
theorem ge_new {e : Expr} {w : DN} (h : GN X Wx e w) : GE X Wx e (dNew w) := ⟨PE.imp h.pe fun σ H Q ⟨G, F, as, ρ, M, P, R, o, w, k, kx⟩ => ⟨G, F, as, ρ, M, _, R, o, w, fun mo ρ1 M1 F1 as1 H1 a ho w1 x1 p1 o1 hF hG hH hn hr => by
  cases qd : mo.toD with
  | none => simp only [qd] at w1
  | some d =>
    simp only [qd] at w1
    have x2 : Ex F1 (upd F1 a ho) := Ex.new hF
    refine k _ _ _ (upd F1 a ho) as1 H1 (.ref a) w1 (x1.trans x2) p1 (o1.of ⟨fun b u q => ?_, o1.m.gx, fun b u q => by rw [upd_ne (ne_of_none q hG)]; exact o1.m.gf b u q, o1.m.len, fun i mk ek => ?_, o1.m.inj⟩ x2 (List.prefix_refl _)) (MO.toD_ok qd (hr.mono x2 (List.prefix_refl _)) upd_same)
    · by_cases hb : b = a
      · subst hb; rw [upd_same] at q; cases q; exact hH
      · rw [upd_ne hb] at q; exact o1.m.ex b u q
    · obtain ⟨b, hb, e1, e2, e3, e4⟩ := o1.m.cell i mk ek
      have nb : b ≠ a := fun z => hn i mk ek (z ▸ e1)
      exact ⟨b, hb, e1, ⟨by rw [upd_ne nb]; exact e2.1, e2.2⟩, e3, e4.mono x2 (List.prefix_refl _)⟩, kx⟩⟩
/-- a fresh object, kept by a handle -/
def dKeep (w : DN) : DE := fun ρ M P R => w ρ M (fun mo ρ1 M1 => P (.mt M1.length) ρ1 (M1 ++ [some mo])) R
theorem ge_keep {e : Expr} {w : DN} (h : GN X Wx e w) : GE X Wx e (dKeep w) := ⟨PE.imp h.pe fun σ H Q ⟨G, F, as, ρ, M, P, R, o, w, k, kx⟩ => ⟨G, F, as, ρ, M, _, R, o, w, fun mo ρ1 M1 F1 as1 H1 a ho w1 x1 p1 o1 hF hG hH hn hr => by
  have pr : as1 <+: as1 ++ [a] := List.prefix_append _ _
  exact k _ _ _ F1 (as1 ++ [a]) H1 (.ref a) w1 x1 (p1.trans pr) (o1.of (o1.m.push hF hG hH hr hn) (Ex.refl _) pr) ⟨a, by rw [o1.m.len]; simp, rfl⟩, kx⟩⟩
/-- tuples: frozen items -/
def dTup (wa : DA) : DE := fun ρ M P R => wa ρ M (fun us ρ1 M1 => match toDs us with
  | some ds => ds.length ≤ sizeLine ∧ P (.fr (.tup ds)) ρ1 M1
  | none => False) R
theorem ge_tup {es : List Expr} {x1 : _} {pos : Pos} {wa : DA} (h : GA X Wx es wa) : GE X Wx (.Tuple es x1 pos) (dTup wa) := ⟨PE.imp (pe_tup h.pa) fun σ H Q ⟨G, F, as, ρ, M, P, R, o, w, k, kx⟩ => ⟨G, F, as, ρ, M, _, R, o, w, fun us ρ1 M1 F1 as1 H1 vs w1 x1 p1 o1 r1 => by
  cases qd : toDs us with
  | none => simp only [qd] at w1
  | some ds =>
    simp only [qd] at w1
    have dr := toDs_ok r1 qd
    refine ⟨by rw [dr.length]; exact w1.1, fun p hp => ?_⟩
    have x2 : Ex F1 (upd F1 p (.tup vs)) := Ex.new (o1.m.ex.none hp)
    exact k _ _ _ _ as1 _ (.ref p) w1.2 (x1.trans x2) p1 (o1.of (o1.m.laid hp) x2 (List.prefix_refl _)) (DR.tup upd_same (DRs.mono x2 _ _ dr)), kx⟩⟩
/-- lists -/
def dLst (wa : DA) : DN := fun ρ M P R => wa ρ M (fun us ρ1 M1 => match toDs us with
  | some ds => ds.length ≤ sizeLine ∧ P (.lst ds) ρ1 M1
  | none => False) R
theorem fresh_ne {K : PySem.W.Frag} {F H : Hp} {as : List Addr} {M : Mem} (o : OkM K G F as H M) {p : Addr} (hp : H p = none) : ∀ (h : Nat) (mo' : MO), M[h]? = some (some mo') → as[h]? ≠ some p := fun h mo e z => by
  obtain ⟨b, ho, e1, e2, e3, e4⟩ := o.cell h mo e
  rw [z] at e1; cases e1
  rw [hp] at e3; cases e3
/-- behind a fresh object at p -/
theorem KN.at_new {K : PySem.W.Frag} {F : Hp} {as : List Addr} {σ : L2.St} {P : MO → Sl → Mem → Prop} {Q : VK} (k : KN K G F as σ P Q) {F1 H1 : Hp} {as1 : List Addr} {M1 : Mem} {ρ1 : Sl} (x : Ex F F1) (p : as <+: as1) (o : Ok K G F1 as1 H1 σ M1 ρ1) {mo : MO} {ho : HO} (w : P mo ρ1 M1) (r : MR K F1 as1 mo ho)
    {q : Addr} (hq : H1 q = none) : Q (.ref q) (upd H1 q ho) :=
  k mo ρ1 M1 F1 as1 _ q ho w x p (o.of (o.m.grown hq) (Ex.refl _) (List.prefix_refl _)) (o.m.ex.none hq) (o.m.gx.none hq) upd_same (fresh_ne o.m hq) r
theorem gn_lst {es : List Expr} {pos : Pos} {wa : DA} (h : GA X Wx es wa) : GN X Wx (.List es pos) (dLst wa) := ⟨PE.imp (pe_lst h.pa) fun σ H Q ⟨G, F, as, ρ, M, P, R, o, w, k, kx⟩ => ⟨G, F, as, ρ, M, _, R, o, w, fun us ρ1 M1 F1 as1 H1 vs w1 x1 p1 o1 r1 => by
  cases qd : toDs us with
  | none => simp only [qd] at w1
  | some ds =>
    simp only [qd] at w1
    have dr := toDs_ok r1 qd
    exact ⟨by rw [dr.length]; exact w1.1, fun p hp => k.at_new x1 p1 o1 w1.2 ⟨vs, rfl, dr⟩ hp⟩, kx⟩⟩
/-- a list of handles and data -/
def dLstU (wa : DA) : DN := fun ρ M P R => wa ρ M (fun us ρ1 M1 => us.length ≤ sizeLine ∧ P (.nst us) ρ1 M1) R
theorem gn_lstU {es : List Expr} {pos : Pos} {wa : DA} (h : GA X Wx es wa) : GN X Wx (.List es pos) (dLstU wa) := ⟨PE.imp (pe_lst h.pa) fun σ H Q ⟨G, F, as, ρ, M, P, R, o, w, k, kx⟩ => ⟨G, F, as, ρ, M, _, R, o, w, fun us ρ1 M1 F1 as1 H1 vs w1 x1 p1 o1 r1 =>
  ⟨by rw [r1.length]; exact w1.1, fun p hp => k.at_new x1 p1 o1 w1.2 ⟨vs, rfl, r1⟩ hp⟩, kx⟩⟩
end
end L3
/-! L3C: operators, subscripts, fields, calls of built-ins, methods. -/
namespace L3
open PySem PySem.Spec PyProof.Rows L2
variable {G : Hp}

/-! ### data: equality -/
mutual
def D.toP : D → PyData
  | .non => .none | .bl b => .bool b | .int i => .int i | .str x => .str x
  | .lst ds => .list (toPs ds) | .tup ds => .tuple (toPs ds) | .rol ds => .list (toPs ds) | .rot ds => .tuple (toPs ds) | .ins _ _ => .none
def toPs : List D → List PyData
  | [] => []
  | d :: ds => D.toP d :: toPs ds
end
mutual
/-- depth at most n, texts of code points, no instance -/
def D.okE : Nat → D → Bool
  | _, .non => true | _, .bl _ => true | _, .int _ => true | _, .str x => PyData.strOk x
  | n + 1, .lst ds => okEs n ds | n + 1, .tup ds => okEs n ds | n + 1, .rol ds => okEs n ds | n + 1, .rot ds => okEs n ds
  | 0, .lst _ => false | 0, .tup _ => false | 0, .rol _ => false | 0, .rot _ => false
  | _, .ins _ _ => false
def okEs : Nat → List D → Bool
  | _, [] => true
  | n, d :: ds => D.okE n d && okEs n ds
end
mutual
theorem okE_P : ∀ (n : Nat) (d : D), D.okE n d = true → (D.toP d).canLay0 = true ∧ (D.toP d).depth ≤ n
  | n, .non, _ => ⟨rfl, Nat.zero_le _⟩
  | n, .bl _, _ => ⟨rfl, Nat.zero_le _⟩
  | n, .int _, _ => ⟨rfl, Nat.zero_le _⟩
  | n, .str b, h => ⟨by simpa [D.okE, D.toP, PyData.canLay0] using h, Nat.zero_le _⟩
  | n + 1, .lst ds, h => by
    have q := okE_Ps n ds (by simpa [D.okE] using h)
    exact ⟨by simpa [D.toP, PyData.canLay0] using q.1, by have := q.2; simp only [D.toP, PyData.depth]; omega⟩
  | n + 1, .tup ds, h => by
    have q := okE_Ps n ds (by simpa [D.okE] using h)
    exact ⟨by simpa [D.toP, PyData.canLay0] using q.1, by have := q.2; simp only [D.toP, PyData.depth]; omega⟩
  | n + 1, .rol ds, h => by
    have q := okE_Ps n ds (by simpa [D.okE] using h)
    exact ⟨by simpa [D.toP, PyData.canLay0] using q.1, by have := q.2; simp only [D.toP, PyData.depth]; omega⟩
  | n + 1, .rot ds, h => by
    have q := okE_Ps n ds (by simpa [D.okE] using h)
    exact ⟨by simpa [D.toP, PyData.canLay0] using q.1, by have := q.2; simp only [D.toP, PyData.depth]; omega⟩
  | 0, .lst _, h => by simp [D.okE] at h
  | 0, .tup _, h => by simp [D.okE] at h
  | 0, .rol _, h => by simp [D.okE] at h
  | 0, .rot _, h => by simp [D.okE] at h
  | _, .ins _ _, h => by simp [D.okE] at h
theorem okE_Ps : ∀ (n : Nat) (ds : List D), okEs n ds = true → PyData.canLayAll0 (toPs ds) = true ∧ PyData.depthAll (toPs ds) ≤ n
  | n, [], _ => ⟨rfl, Nat.zero_le _⟩
  | n, d :: ds, h => by
    rw [okEs, Bool.and_eq_true] at h
    have q1 := okE_P n d h.1
    have q2 := okE_Ps n ds h.2
    exact ⟨by rw [toPs, PyData.canLayAll0, q1.1, q2.1]; rfl, by rw [toPs, PyData.depthAll]; exact Nat.max_le.mpr ⟨q1.2, q2.2⟩⟩
end
mutual
theorem okE_le : ∀ (m n : Nat) (d : D), m ≤ n → D.okE m d = true → D.okE n d = true
  | m, n, .non, _, _ => by simp [D.okE]
  | m, n, .bl _, _, _ => by simp [D.okE]
  | m, n, .int _, _, _ => by simp [D.okE]
  | m, n, .str b, _, h => by simpa [D.okE] using h
  | m + 1, n + 1, .lst ds, l, h => by simpa [D.okE] using okEs_le m n ds (by omega) (by simpa [D.okE] using h)
  | m + 1, n + 1, .tup ds, l, h => by simpa [D.okE] using okEs_le m n ds (by omega) (by simpa [D.okE] using h)
  | m + 1, n + 1, .rol ds, l, h => by simpa [D.okE] using okEs_le m n ds (by omega) (by simpa [D.okE] using h)
  | m + 1, n + 1, .rot ds, l, h => by simpa [D.okE] using okEs_le m n ds (by omega) (by simpa [D.okE] using h)
  | m + 1, 0, .lst ds, l, h => by omega
  | m + 1, 0, .tup ds, l, h => by omega
  | m + 1, 0, .rol ds, l, h => by omega
  | m + 1, 0, .rot ds, l, h => by omega
  | 0, n, .lst _, _, h => by simp [D.okE] at h
  | 0, n, .tup _, _, h => by simp [D.okE] at h
  | 0, n, .rol _, _, h => by simp [D.okE] at h
  | 0, n, .rot _, _, h => by simp [D.okE] at h
  | _, n, .ins _ _, _, h => by simp [D.okE] at h
theorem okEs_le : ∀ (m n : Nat) (ds : List D), m ≤ n → okEs m ds = true → okEs n ds = true
  | m, n, [], _, _ => by simp [okEs]
  | m, n, d :: ds, l, h => by
    rw [okEs, Bool.and_eq_true] at h ⊢
    exact ⟨okE_le m n d l h.1, okEs_le m n ds l h.2⟩
end
theorem okE_shaped {d : D} (h : D.okE 64 d = true) : SeqAt.shaped (D.toP d) = true := by
  obtain ⟨a, b⟩ := okE_P 64 d h
  show (_ && decide _) = true
  rw [a, decide_eq_true b]; rfl
mutual
theorem DR.dp {K : PySem.W.Frag} {F : Hp} : ∀ (n : Nat) (d : D) (v : V), D.okE n d = true → DR K F v d → Dp K F v (D.toP d)
  | _, .non, v, _, h => by cases h; exact .non
  | _, .bl b, v, _, h => by cases h; exact .bl _
  | _, .int b, v, _, h => by cases h; exact .int _
  | _, .str b, v, _, h => by cases h; exact .str _
  | n + 1, .lst ds, v, ho, h => by
    cases h with
    | lst h1 h2 => exact .lst (SqL.of h1) (DRs.dp n ds _ ho h2)
  | n + 1, .rol ds, v, ho, h => by
    cases h with
    | rol h1 h2 => exact .lst h1 (DRs.dp n ds _ ho h2)
  | n + 1, .tup ds, v, ho, h => by
    cases h with
    | tup h1 h2 => exact .tup (SqT.of h1) (DRs.dp n ds _ ho h2)
  | n + 1, .rot ds, v, ho, h => by
    cases h with
    | rot h1 h2 => exact .tup h1 (DRs.dp n ds _ ho h2)
  | 0, .lst _, _, ho, _ => by simp [D.okE] at ho
  | 0, .tup _, _, ho, _ => by simp [D.okE] at ho
  | 0, .rol _, _, ho, _ => by simp [D.okE] at ho
  | 0, .rot _, _, ho, _ => by simp [D.okE] at ho
  | _, .ins C fs, v, ho, h => by simp [D.okE] at ho
theorem DRs.dp {K : PySem.W.Frag} {F : Hp} : ∀ (n : Nat) (ds : List D) (vs : List V), okEs n ds = true → DRs K F vs ds → DpAll K F vs (toPs ds)
  | _, [], _, _, h => by cases h; exact .nil
  | n, d :: ds, _, ho, h => by
    cases h with
    | cons h1 h2 =>
      have ho' : D.okE n d = true ∧ okEs n ds = true := by simpa [okEs] using ho
      exact .cons (DR.dp n d _ ho'.1 h1) (DRs.dp n ds _ ho'.2 h2)
end
mutual
theorem Dp.mono {K : PySem.W.Frag} {F H : Hp} (x : Ex F H) : ∀ (d : PyData) (v : V), Dp K F v d → Dp K H v d
  | .none, _, h => by cases h; exact .non
  | .bool _, _, h => by cases h; exact .bl _
  | .int _, _, h => by cases h; exact .int _
  | .str _, _, h => by cases h; exact .str _
  | .list ds, _, h => by
    cases h with
    | lst h1 h2 => exact .lst (x.sql h1) (DpAll.mono x ds _ h2)
  | .tuple ds, _, h => by
    cases h with
    | tup h1 h2 => exact .tup (x.sqt h1) (DpAll.mono x ds _ h2)
  | .dict _, _, h => by cases h
theorem DpAll.mono {K : PySem.W.Frag} {F H : Hp} (x : Ex F H) : ∀ (ds : List PyData) (vs : List V), DpAll K F vs ds → DpAll K H vs ds
  | [], _, h => by cases h; exact .nil
  | d :: ds, _, h => by
    cases h with
    | cons h1 h2 => exact .cons (Dp.mono x d _ h1) (DpAll.mono x ds _ h2)
end
/-- the datum that a value is, mutable lists read -/
def deref : Nat → Mem → U → Option D
  | _, _, .fr d => some d
  | 0, _, .mt _ => none
  | n + 1, M, .mt h => match M[h]? with
    | some (some (.lst ds)) => some (.lst ds)
    | some (some (.nst us)) => (derefs n M us).map .lst
    | _ => none
where derefs (n : Nat) (M : Mem) : List U → Option (List D)
  | [] => some []
  | u :: us => match deref n M u, derefs n M us with
    | some d, some ds => some (d :: ds)
    | _, _ => none
mutual
theorem deref_dp {K : PySem.W.Frag} {F H : Hp} {as : List Addr} {M : Mem} (o : OkM K G F as H M) : ∀ (n : Nat) (u : U) (v : V) (d : D), UR K F as v u → deref n M u = some d → D.okE 64 d = true → Dp K H v (D.toP d)
  | n, .fr d, v, d', r, e, ho => by
    have e' : d = d' := by cases n <;> (simp only [deref] at e; exact Option.some.inj e)
    subst e'
    exact Dp.mono o.ex _ _ (DR.dp 64 d v ho r)
  | 0, .mt _, v, d', r, e, ho => by simp [deref] at e
  | n + 1, .mt h, v, d', r, e, ho => by
    obtain ⟨a, ea, rfl⟩ := r
    simp only [deref] at e
    cases q : M[h]? with
    | none => simp [q] at e
    | some z =>
      cases z with
      | none => simp [q] at e
      | some mo =>
        obtain ⟨ho', hF, hH, hr⟩ := o.here q ea
        cases mo with
        | lst ds =>
          simp [q] at e; subst e
          obtain ⟨vs, rfl, dr⟩ := hr
          exact .lst (SqL.of hH) (DpAll.mono o.ex _ _ (DRs.dp 63 ds _ (by simpa [D.okE] using ho) dr))
        | nst us =>
          simp [q] at e
          obtain ⟨ds, e1, rfl⟩ := e
          obtain ⟨vs, rfl, ur⟩ := hr
          exact .lst (SqL.of hH) (derefs_dp o n us vs ds ur e1 (by simpa [D.okE] using ho))
        | dK _ => simp [q] at e
        | dT _ => simp [q] at e
        | ins _ _ => simp [q] at e
theorem derefs_dp {K : PySem.W.Frag} {F H : Hp} {as : List Addr} {M : Mem} (o : OkM K G F as H M) : ∀ (n : Nat) (us : List U) (vs : List V) (ds : List D), URs K F as vs us → deref.derefs n M us = some ds → okEs 63 ds = true → DpAll K H vs (toPs ds)
  | n, [], _, ds, .nil, e, _ => by simp [deref.derefs] at e; subst e; exact .nil
  | n, u :: us, _, ds, .cons r1 r2, e, ho => by
    simp only [deref.derefs] at e
    cases q1 : deref n M u with
    | none => simp [q1] at e
    | some d =>
      cases q2 : deref.derefs n M us with
      | none => simp [q1, q2] at e
      | some ds' =>
        simp [q1, q2] at e
        subst e
        have ho' : D.okE 63 d = true ∧ okEs 63 ds' = true := by simpa [okEs] using ho
        exact .cons (deref_dp o n u _ d r1 q1 (okE_le 63 64 d (by decide) ho'.1)) (derefs_dp o n us _ ds' r2 q2 ho'.2)
end
end L3
/-! L3D: operators, subscripts, fields, built-ins, methods, by data. -/
namespace L3
open PySem PySem.Spec PyProof.Rows L2
variable {G : Hp}

/-! ### reading lists and tuples -/
def asL (M : Mem) : U → Option (List D)
  | .fr (.lst ds) => some ds
  | .fr (.rol ds) => some ds
  | .mt h => match M[h]? with
    | some (some (.lst ds)) => some ds
    | _ => none
  | _ => none
def asT : U → Option (List D)
  | .fr (.tup ds) => some ds
  | .fr (.rot ds) => some ds
  | _ => none
section
variable {K : PySem.W.Frag} {F H : Hp} {as : List Addr} {M : Mem}
theorem asL_ok (o : OkM K G F as H M) {v : V} {u : U} {ds : List D} (r : UR K F as v u) (e : asL M u = some ds) : ∃ a xs, v = .ref a ∧ SqL K H a xs ∧ DRs K F xs ds := by
  match u, e with
  | .fr (.lst es), e =>
    cases e
    cases r with
    | lst h1 h2 => exact ⟨_, _, rfl, SqL.of (o.ex _ _ h1), h2⟩
  | .fr (.rol es), e =>
    cases e
    cases r with
    | rol h1 h2 => exact ⟨_, _, rfl, o.ex.sql h1, h2⟩
  | .mt h, e =>
    obtain ⟨a, ea, rfl⟩ := r
    simp only [asL] at e
    cases q : M[h]? with
    | none => simp [q] at e
    | some z =>
      cases z with
      | none => simp [q] at e
      | some mo =>
        obtain ⟨ho, hF, hH, hr⟩ := o.here q ea
        cases mo with
        | lst es =>
          simp [q] at e; subst e
          obtain ⟨vs, rfl, dr⟩ := hr
          exact ⟨a, vs, rfl, SqL.of hH, dr⟩
        | _ => simp [q] at e
theorem asT_ok (o : OkM K G F as H M) {v : V} {u : U} {ds : List D} (r : UR K F as v u) (e : asT u = some ds) : ∃ a xs, v = .ref a ∧ SqT K H a xs ∧ DRs K F xs ds := by
  match u, e with
  | .fr (.tup es), e =>
    cases e
    cases r with
    | tup h1 h2 => exact ⟨_, _, rfl, SqT.of (o.ex _ _ h1), h2⟩
  | .fr (.rot es), e =>
    cases e
    cases r with
    | rot h1 h2 => exact ⟨_, _, rfl, o.ex.sqt h1, h2⟩
end
section
variable {X : Cx} {Wx : WX}
/-! ### ints -/
def dI2 (C : Int → Int → Prop) (g : Int → Int → D) : U → U → Mem → (U → Prop) → Prop := fun x y _ P => match x, y with
  | .fr (.int i), .fr (.int j) => C i j ∧ P (.fr (g i j))
  | _, _ => False
def dI0 (g : Int → Int → D) : U → U → Mem → (U → Prop) → Prop := fun x y _ P => match x, y with
  | .fr (.int i), .fr (.int j) => P (.fr (g i j))
  | _, _ => False
theorem opd_I {f : Value → Value → Sem Value} {C : Int → Int → Prop} {gv : Int → Int → V} {g : Int → Int → D} (ho : OpR X f (rI C gv)) (hg : ∀ i j F, DR X.K F (gv i j) (g i j)) : OpD X f (dI2 C g) := ⟨_, ho, fun G F as H M ux uy x y P Q o rx ry d k => by
  match ux, uy, d with
  | .fr (.int i), .fr (.int j), d => cases rx; cases ry; exact ⟨i, j, rfl, rfl, d.1, k _ _ F H d.2 (Ex.refl _) o (hg i j F)⟩⟩
theorem opd_I0 {f : Value → Value → Sem Value} {gv : Int → Int → V} {g : Int → Int → D} (ho : OpR X f (rI0 gv)) (hg : ∀ i j F, DR X.K F (gv i j) (g i j)) : OpD X f (dI0 g) := ⟨_, ho, fun G F as H M ux uy x y P Q o rx ry d k => by
  match ux, uy, d with
  | .fr (.int i), .fr (.int j), d => cases rx; cases ry; exact ⟨i, j, rfl, rfl, k _ _ F H d (Ex.refl _) o (hg i j F)⟩⟩
theorem od_sub : OpD X (binaryOp .Sub) (dI0 fun i j => .int (i - j)) := opd_I0 op_sub fun _ _ _ => .int _
theorem od_mul : OpD X (binaryOp .Mult) (dI2 CMul fun i j => .int (i * j)) := opd_I op_mul fun _ _ _ => .int _
theorem od_fdiv : OpD X (binaryOp .FloorDiv) (dI2 CDiv fun i j => .int (i / j)) := opd_I op_fdiv fun _ _ _ => .int _
theorem od_mod : OpD X (binaryOp .Mod) (dI2 (fun _ j => 0 < j) fun i j => .int (i % j)) := opd_I op_mod fun _ _ _ => .int _
theorem od_pow : OpD X (binaryOp .Pow) (dI2 CPow fun i j => .int (i ^ j.toNat)) := opd_I op_pow fun _ _ _ => .int _
theorem od_shl : OpD X (binaryOp .LShift) (dI2 CPow fun i j => .int (i * 2 ^ j.toNat)) := opd_I op_shl fun _ _ _ => .int _
theorem od_shr : OpD X (binaryOp .RShift) (dI2 (fun _ j => 0 ≤ j) fun i j => .int (i / 2 ^ j.toNat)) := opd_I op_shr fun _ _ _ => .int _
theorem od_band : OpD X (binaryOp .BitAnd) (dI0 fun i j => .int (Builtin.bitAnd i j)) := opd_I0 op_and fun _ _ _ => .int _
theorem od_bor : OpD X (binaryOp .BitOr) (dI0 fun i j => .int (Builtin.bitOr i j)) := opd_I0 op_or fun _ _ _ => .int _
theorem od_lt : OpD X (compareOp .Lt) (dI0 fun i j => .bl (decide (i < j))) := opd_I0 op_lt fun _ _ _ => .bl _
theorem od_le : OpD X (compareOp .LtE) (dI0 fun i j => .bl (decide (i ≤ j))) := opd_I0 op_le fun _ _ _ => .bl _
theorem od_gt : OpD X (compareOp .Gt) (dI0 fun i j => .bl (decide (j < i))) := opd_I0 op_gt fun _ _ _ => .bl _
theorem od_ge : OpD X (compareOp .GtE) (dI0 fun i j => .bl (decide (j ≤ i))) := opd_I0 op_ge fun _ _ _ => .bl _
/-- + of ints, texts, tuples, lists -/
def dAdd : U → U → Mem → (U → Prop) → Prop := fun x y _ P => match x, y with
  | .fr (.int i), .fr (.int j) => P (.fr (.int (i + j)))
  | .fr (.str a), .fr (.str b) => a.length + b.length ≤ sizeLine ∧ P (.fr (.str (a ++ b)))
  | .fr (.tup a), .fr (.tup b) => a.length + b.length ≤ sizeLine ∧ P (.fr (.tup (a ++ b)))
  | .fr (.lst a), .fr (.lst b) => a.length + b.length ≤ sizeLine ∧ P (.fr (.lst (a ++ b)))
  | _, _ => False
theorem od_add : OpD X (binaryOp .Add) dAdd := ⟨_, (op_add.or (op_add_str.or (op_catA.or op_cat))), fun G F as H M ux uy x y P Q o rx ry d k => by
  match ux, uy, d with
  | .fr (.int i), .fr (.int j), d => cases rx; cases ry; exact .inl ⟨i, j, rfl, rfl, k _ _ F H d (Ex.refl _) o (.int _)⟩
  | .fr (.str i), .fr (.str j), d => cases rx; cases ry; exact .inr (.inl ⟨i, j, rfl, rfl, d.1, k _ _ F H d.2 (Ex.refl _) o (.str _)⟩)
  | .fr (.tup i), .fr (.tup j), d =>
    cases rx with
    | tup h1 h2 =>
      cases ry with
      | tup h3 h4 =>
        refine .inr (.inr (.inl ⟨_, _, _, _, rfl, rfl, SqT.of (o.ex _ _ h1), SqT.of (o.ex _ _ h3), by rw [h2.length, h4.length]; exact d.1, fun e => ?_, fun _ e => ?_, fun _ _ p hp => ?_⟩))
        · subst e
          cases h2
          exact k _ _ F H d.2 (Ex.refl _) o (.tup h3 h4)
        · subst e
          cases h4
          refine k _ _ F H d.2 (Ex.refl _) o ?_
          rw [List.append_nil]; exact .tup h1 h2
        · exact k _ _ _ _ d.2 (Ex.new (o.ex.none hp)) (o.laid hp) (.tup upd_same (DRs.mono (Ex.new (o.ex.none hp)) _ _ (h2.append h4)))
  | .fr (.lst i), .fr (.lst j), d =>
    cases rx with
    | lst h1 h2 =>
      cases ry with
      | lst h3 h4 =>
        refine .inr (.inr (.inr ⟨_, _, _, _, rfl, rfl, o.ex _ _ h1, o.ex _ _ h3, by rw [h2.length, h4.length]; exact d.1, fun p hp => ?_⟩))
        exact k _ _ _ _ d.2 (Ex.new (o.ex.none hp)) (o.laid hp) (.lst upd_same (DRs.mono (Ex.new (o.ex.none hp)) _ _ (h2.append h4)))⟩
def dNegI : U → (U → Prop) → Prop := fun x P => match x with
  | .fr (.int i) => P (.fr (.int (-i)))
  | _ => False
def dNeg (wa : DE) : DE := fun ρ M P R => wa ρ M (fun x ρ1 M1 => dNegI x fun u => P u ρ1 M1) R
theorem ge_neg {a : Expr} {pos : Pos} {wa : DE} (ha : GE X Wx a wa) : GE X Wx (.UnaryOp .USub a pos) (dNeg wa) :=
  ⟨PE.imp (pe_un un_neg ha.pe) fun σ H Q ⟨G, F, as, ρ, M, P, R, o, w, k, kx⟩ => ⟨G, F, as, ρ, M, _, R, o, w, fun x ρ1 M1 F1 as1 H1 vx w1 x1 p1 o1 r1 => by
    match x, w1 with
    | .fr (.int i), w1 => cases r1; exact ⟨i, rfl, k _ ρ1 M1 F1 as1 H1 _ w1 x1 p1 o1 (.int _)⟩, kx⟩⟩
/-! ### equality -/
def D.eqv (d e : D) : Bool := PyData.eqv d.toP e.toP
def scalD : U → U → Option Bool
  | .fr (.int i), .fr (.int j) => some (decide (i = j))
  | .fr (.str i), .fr (.str j) => some (decide (i = j))
  | .fr (.bl i), .fr (.bl j) => some (decide (i = j))
  | _, _ => none
def dEq (neg : Bool) : U → U → Mem → (U → Prop) → Prop := fun x y M P => match scalD x y with
  | some b => P (.fr (.bl (neg != b)))
  | none => ∃ d e, deref 3 M x = some d ∧ deref 3 M y = some e ∧ D.okE 64 d = true ∧ D.okE 64 e = true ∧ P (.fr (.bl (neg != D.eqv d e)))
theorem bne_f (b : Bool) : (false != b) = b := by cases b <;> rfl
theorem bne_t (b : Bool) : (true != b) = !b := by cases b <;> rfl
theorem scalD_ok {K : PySem.W.Frag} {F : Hp} {as : List Addr} {x y : V} {ux uy : U} {b : Bool} (rx : UR K F as x ux) (ry : UR K F as y uy) (e : scalD ux uy = some b) : scal x y = true ∧ decide (x = y) = b := by
  unfold scalD at e
  split at e
  · cases rx; cases ry; cases e; exact ⟨rfl, by simp⟩
  · cases rx; cases ry; cases e; exact ⟨rfl, by simp⟩
  · cases rx; cases ry; cases e; exact ⟨rfl, by simp⟩
  · cases e
theorem od_eq (hu : X.A.units + 64 < cLine) : OpD X (compareOp .Eq) (dEq false) := ⟨_, op_eq.or (op_eqD hu), fun G F as H M ux uy x y P Q o rx ry d k => by
  unfold dEq at d
  cases e : scalD ux uy with
  | some b =>
    simp only [e] at d
    obtain ⟨h1, h2⟩ := scalD_ok rx ry e
    rw [bne_f] at d
    exact .inl ⟨h1, by rw [h2]; exact k _ _ F H d (Ex.refl _) o (.bl _)⟩
  | none =>
    simp only [e] at d
    obtain ⟨d, e, h1, h2, h3, h4, h5⟩ := d
    rw [bne_f] at h5
    exact .inr ⟨_, _, deref_dp o 3 ux x d rx h1 h3, deref_dp o 3 uy y e ry h2 h4, okE_shaped h3, okE_shaped h4, k _ _ F H h5 (Ex.refl _) o (.bl _)⟩⟩
theorem od_ne (hu : X.A.units + 64 < cLine) : OpD X (compareOp .NotEq) (dEq true) := ⟨_, op_ne.or (op_neD hu), fun G F as H M ux uy x y P Q o rx ry d k => by
  unfold dEq at d
  cases e : scalD ux uy with
  | some b =>
    simp only [e] at d
    obtain ⟨h1, h2⟩ := scalD_ok rx ry e
    rw [bne_t] at d
    exact .inl ⟨h1, by rw [h2]; exact k _ _ F H d (Ex.refl _) o (.bl _)⟩
  | none =>
    simp only [e] at d
    obtain ⟨d, e, h1, h2, h3, h4, h5⟩ := d
    rw [bne_t] at h5
    exact .inr ⟨_, _, deref_dp o 3 ux x d rx h1 h3, deref_dp o 3 uy y e ry h2 h4, okE_shaped h3, okE_shaped h4, k _ _ F H h5 (Ex.refl _) o (.bl _)⟩⟩
/-! ### is None -/
def isN : U → Bool
  | .fr .non => true
  | _ => false
def dIs (neg : Bool) : U → U → Mem → (U → Prop) → Prop := fun x y _ P => match y with
  | .fr .non => P (.fr (.bl (neg != isN x)))
  | _ => False
theorem isNon {K : PySem.W.Frag} {F : Hp} {as : List Addr} {x : V} {ux : U} (rx : UR K F as x ux) : decide (x = .non) = isN ux := by
  match ux with
  | .fr .non => cases rx; rfl
  | .fr (.bl _) => cases rx; rfl
  | .fr (.int _) => cases rx; rfl
  | .fr (.str _) => cases rx; rfl
  | .fr (.lst _) => cases rx; rfl
  | .fr (.tup _) => cases rx; rfl
  | .fr (.rol _) => cases rx; rfl
  | .fr (.rot _) => cases rx; rfl
  | .fr (.ins _ _) => cases rx; rfl
  | .mt _ => obtain ⟨a, _, rfl⟩ := rx; rfl
theorem od_is : OpD X (compareOp .Is) (dIs false) := ⟨_, op_isN, fun G F as H M ux uy x y P Q o rx ry d k => by
  match uy, d with
  | .fr .non, d =>
    cases ry
    refine ⟨rfl, k _ _ F H d (Ex.refl _) o ?_⟩
    rw [bne_f, isNon rx]; exact .bl _⟩
theorem od_isnot : OpD X (compareOp .IsNot) (dIs true) := ⟨_, op_notN, fun G F as H M ux uy x y P Q o rx ry d k => by
  match uy, d with
  | .fr .non, d =>
    cases ry
    refine ⟨rfl, k _ _ F H d (Ex.refl _) o ?_⟩
    rw [bne_t, isNon rx]; exact .bl _⟩
/-! ### in -/
def flatD : D → Bool
  | .non => true | .bl _ => true | .int _ => true | .str _ => true | _ => false
/-- x in a text (one sign), in a tuple of flat items, in a list of data -/
def dIn (neg : Bool) : U → U → Mem → (U → Prop) → Prop := fun x y M P => match y with
  | .fr (.str t) => ∃ c, x = .fr (.str ⟨#[c]⟩) ∧ P (.fr (.bl (neg != decide (c ∈ t.cps.toList))))
  | y => match asT y with
    | some es => ∃ d, x = .fr d ∧ flatD d = true ∧ es.all flatD = true ∧ P (.fr (.bl (neg != es.any fun z => D.eqv z d)))
    | none => ∃ d e, deref 3 M x = some d ∧ deref 3 M y = some (.lst e) ∧ D.okE 64 d = true ∧ D.okE 64 (.lst e) = true ∧ P (.fr (.bl (neg != e.any fun z => D.eqv z d)))
theorem toPs_map : ∀ ds : List D, toPs ds = ds.map D.toP
  | [] => rfl
  | d :: ds => by rw [toPs, toPs_map ds]; rfl
theorem any_eqv (e : List D) (d : D) : ((toPs e).any fun z => PyData.eqv z d.toP) = e.any fun z => D.eqv z d := by
  rw [toPs_map, List.any_map]; rfl
theorem flat_V {K : PySem.W.Frag} {F : Hp} {v : V} {d : D} (r : DR K F v d) (h : flatD d = true) : flatV v = true := by
  cases r <;> first | rfl | (simp [flatD] at h)
theorem flat_Vs {K : PySem.W.Frag} {F : Hp} : ∀ {vs : List V} {ds : List D}, DRs K F vs ds → ds.all flatD = true → vs.all flatV = true
  | _, _, .nil, _ => rfl
  | _, _, .cons h t, e => by
    rw [List.all_cons, Bool.and_eq_true] at e
    rw [List.all_cons, flat_V h e.1, flat_Vs t e.2]; rfl
theorem eqV_flat {K : PySem.W.Frag} {F : Hp} {v w : V} {d e : D} (r : DR K F v d) (q : DR K F w e) (hd : flatD d = true) (he : flatD e = true) : eqV v w = D.eqv d e := by
  cases r <;> first | (simp [flatD] at hd; done) | (cases q <;> first | (simp [flatD] at he; done) | simp [eqV, D.eqv, D.toP, PyData.eqv, b2i])
theorem inV_flat {K : PySem.W.Frag} {F : Hp} {v : V} {d : D} (r : DR K F v d) (hd : flatD d = true) : ∀ {vs : List V} {ds : List D}, DRs K F vs ds → ds.all flatD = true → inV v vs = ds.any fun z => D.eqv z d
  | _, _, .nil, _ => rfl
  | _, _, .cons h t, e => by
    rw [List.all_cons, Bool.and_eq_true] at e
    show (eqV _ v || _) = _
    rw [eqV_flat h r e.1 hd, List.any_cons]
    exact congrArg _ (inV_flat r hd t e.2)
theorem od_in (hu : X.A.units + 65 < cLine) : OpD X (compareOp .In) (dIn false) := ⟨_, op_in_sign.or (op_in_seq.or (op_inD hu)), fun G F as H M ux uy x y P Q o rx ry d k => by
  unfold dIn at d
  split at d
  · obtain ⟨c, rfl, d⟩ := d
    cases rx; cases ry
    rw [bne_f] at d
    exact .inl ⟨c, _, rfl, rfl, k _ _ F H d (Ex.refl _) o (.bl _)⟩
  · split at d
    · rename_i es e
      obtain ⟨d, rfl, h1, h2, h3⟩ := d
      obtain ⟨a, xs, rfl, h4, h5⟩ := asT_ok o ry e
      rw [bne_f] at h3
      refine .inr (.inl ⟨a, xs, rfl, .inr h4, flat_V rx h1, flat_Vs h5 h2, ?_⟩)
      refine k _ _ F H h3 (Ex.refl _) o ?_
      rw [inV_flat rx h1 h5 h2]; exact .bl _
    · obtain ⟨d, e, h1, h2, h3, h4, h5⟩ := d
      rw [bne_f] at h5
      refine .inr (.inr ⟨_, _, deref_dp o 3 ux x d rx h1 h3, deref_dp o 3 uy y _ ry h2 h4, okE_shaped h3, okE_shaped h4, k _ _ F H h5 (Ex.refl _) o ?_⟩)
      rw [any_eqv]; exact .bl _⟩
theorem od_notin (hu : X.A.units + 65 < cLine) : OpD X (compareOp .NotIn) (dIn true) := ⟨_, op_notIn_sign.or (op_notIn_seq.or (op_notInD hu)), fun G F as H M ux uy x y P Q o rx ry d k => by
  unfold dIn at d
  split at d
  · obtain ⟨c, rfl, d⟩ := d
    cases rx; cases ry
    rw [bne_t] at d
    exact .inl ⟨c, _, rfl, rfl, k _ _ F H d (Ex.refl _) o (.bl _)⟩
  · split at d
    · rename_i es e
      obtain ⟨d, rfl, h1, h2, h3⟩ := d
      obtain ⟨a, xs, rfl, h4, h5⟩ := asT_ok o ry e
      rw [bne_t] at h3
      refine .inr (.inl ⟨a, xs, rfl, .inr h4, flat_V rx h1, flat_Vs h5 h2, ?_⟩)
      refine k _ _ F H h3 (Ex.refl _) o ?_
      rw [inV_flat rx h1 h5 h2]; exact .bl _
    · obtain ⟨d, e, h1, h2, h3, h4, h5⟩ := d
      rw [bne_t] at h5
      refine .inr (.inr ⟨_, _, deref_dp o 3 ux x d rx h1 h3, deref_dp o 3 uy y _ ry h2 h4, okE_shaped h3, okE_shaped h4, k _ _ F H h5 (Ex.refl _) o ?_⟩)
      rw [any_eqv]; exact .bl _⟩

/-! ### subscripts -/
def IxD (X : Cx) (d : U → U → Mem → (U → Prop) → Prop) : Prop := ∃ r : R2, IxR X r ∧ ∀ (G F : Hp) (as : List Addr) (H : Hp) (M : Mem) (ux uy : U) (x y : V) (P : U → Prop) (Q : VK), OkM X.K G F as H M → UR X.K F as x ux → UR X.K F as y uy → d ux uy M P →
    (∀ (u : U) (v : V) (F' H' : Hp), P u → Ex F F' → OkM X.K G F' as H' M → UR X.K F' as v u → Q v H') → r x y H Q
/-- o[i] of a list, a tuple, a text -/
def dIx : U → U → Mem → (U → Prop) → Prop := fun x y M P => match y with
  | .fr (.int i) => (match asL M x with
    | some ds => ∃ d, atI ds i = some d ∧ P (.fr d)
    | none => match asT x with
      | some ds => ∃ d, atI ds i = some d ∧ P (.fr d)
      | none => match x with
        | .fr (.str z) => z.length ≤ sizeLine ∧ ∃ c, atI z.cps.toList i = some c ∧ P (.fr (.str ⟨#[c]⟩))
        | .mt h => (match M[h]? with
          | some (some (.nst us)) => ∃ u, atI us i = some u ∧ P u
          | _ => False)
        | _ => False)
  | _ => False
theorem atI_rel {α β : Type} {xs : List α} {ys : List β} {i : Int} {y : β} (hl : xs.length = ys.length) (h : atI ys i = some y) : ∃ (j : Nat) (x : α), ys[j]? = some y ∧ xs[j]? = some x ∧ atI xs i = some x := by
  unfold atI at h ⊢
  rw [hl]
  cases q : ixN ys.length i with
  | none => rw [q] at h; cases h
  | some j =>
    rw [q] at h
    have hj : j < xs.length := by rw [hl]; exact (List.getElem?_eq_some_iff.mp h).1
    exact ⟨j, xs[j], h, List.getElem?_eq_getElem hj, List.getElem?_eq_getElem hj⟩
theorem ix_any : IxD X dIx := ⟨_, ix_seq, fun G F as H M ux uy x y P Q o rx ry d k => by
  match uy, d with
  | .fr (.int i), d =>
    cases ry
    unfold dIx at d
    cases e : asL M ux with
    | some ds =>
      simp only [e] at d
      obtain ⟨d, h1, h2⟩ := d
      obtain ⟨a, xs, rfl, h3, h4⟩ := asL_ok o rx e
      obtain ⟨j, v, q1, q2, q3⟩ := atI_rel h4.length h1
      obtain ⟨v', q4, q5⟩ := h4.get q1
      rw [q2] at q4; cases q4
      exact .inl ⟨a, xs, i, v, rfl, rfl, h3, q3, k _ _ F H h2 (Ex.refl _) o q5⟩
    | none =>
      simp only [e] at d
      cases e2 : asT ux with
      | some ds =>
        simp only [e2] at d
        obtain ⟨d, h1, h2⟩ := d
        obtain ⟨a, xs, rfl, h3, h4⟩ := asT_ok o rx e2
        obtain ⟨j, v, q1, q2, q3⟩ := atI_rel h4.length h1
        obtain ⟨v', q4, q5⟩ := h4.get q1
        rw [q2] at q4; cases q4
        exact .inr (.inl ⟨a, xs, i, v, rfl, rfl, h3, q3, k _ _ F H h2 (Ex.refl _) o q5⟩)
      | none =>
        simp only [e2] at d
        match ux, d with
        | .fr (.str z), d =>
          cases rx
          obtain ⟨hz, c, h1, h2⟩ := d
          exact .inr (.inr ⟨z, i, c, rfl, rfl, hz, h1, k _ _ F H h2 (Ex.refl _) o (.str _)⟩)
        | .mt h, d =>
          simp only at d
          obtain ⟨a, ea, rfl⟩ := rx
          cases q : M[h]? with
          | none => simp [q] at d
          | some z =>
            cases z with
            | none => simp [q] at d
            | some mo =>
              obtain ⟨ho, hF, hH, hr⟩ := o.here q ea
              cases mo with
              | nst us =>
                simp [q] at d
                obtain ⟨u, h1, h2⟩ := d
                obtain ⟨vs, rfl, ur⟩ := hr
                obtain ⟨j, v, q1, q2, q3⟩ := atI_rel ur.length h1
                obtain ⟨v', q4, q5⟩ := ur.get q1
                rw [q2] at q4; cases q4
                exact .inl ⟨a, vs, i, v, rfl, rfl, SqL.of hH, q3, k _ _ F H h2 (Ex.refl _) o q5⟩
              | _ => simp [q] at d⟩
theorem ge_ix {a b : Expr} {pos : Pos} {wa wb : DE} (ha : GE X Wx a wa) (hb : GE X Wx b wb) (hs : PlainIx b := by exact fun _ _ => rfl) : GE X Wx (.Subscript a b pos) (dOp dIx wa wb) := by
  obtain ⟨r, h1, hr⟩ := (ix_any : IxD X dIx)
  exact ⟨PE.imp (pe_ix h1 ha.pe hb.pe hs) (op_core hr)⟩

/-! ### slices -/
abbrev DO := Sl → Mem → (Option Int → Sl → Mem → Prop) → RX → Prop
def KO (K : PySem.W.Frag) (G F : Hp) (as : List Addr) (σ : L2.St) (P : Option Int → Sl → Mem → Prop) (Q : Option Int → Hp → Prop) : Prop :=
  ∀ (b : Option Int) (ρ' : Sl) (M' : Mem) (F' : Hp) (as' : List Addr) (H' : Hp), P b ρ' M' → Ex F F' → as <+: as' → Ok K G F' as' H' σ M' ρ' → Q b H'
def cO (K : PySem.W.Frag) (Wx : WX) (W : DO) : TO := fun σ H Q => ∃ G F as ρ M P R, Ok K G F as H σ M ρ ∧ W ρ M P R ∧ KO K G F as σ P Q ∧ KX K G F as R Wx
structure GO (X : Cx) (Wx : WX) (e : Option Expr) (W : DO) : Prop where
  po : PO X e (cO X.K Wx W)
theorem PO.imp {e : Option Expr} {t t' : TO} (h : PO X e t) (i : ∀ σ H Q, t' σ H Q → t σ H Q) : PO X e t' := ⟨fun pins s σ H Q I w => h.run pins s σ H Q I (i _ _ _ w)⟩
def dNoP : DO := fun ρ M P _ => P none ρ M
def dPart (w : DE) : DO := fun ρ M P R => w ρ M (fun x ρ1 M1 => match x with
  | .fr (.int i) => P (some i) ρ1 M1
  | _ => False) R
theorem go_none : GO X Wx none dNoP := ⟨PO.imp po_none fun σ H Q ⟨G, F, as, ρ, M, P, R, o, w, k, kx⟩ => k _ _ _ _ _ _ w (Ex.refl _) (List.prefix_refl _) o⟩
theorem go_some {e : Expr} {w : DE} (h : GE X Wx e w) : GO X Wx (some e) (dPart w) := ⟨PO.imp (po_some h.pe) fun σ H Q ⟨G, F, as, ρ, M, P, R, o, w, k, kx⟩ => ⟨G, F, as, ρ, M, _, R, o, w, fun x ρ1 M1 F1 as1 H1 vx w1 x1 p1 o1 r1 => by
  match x, w1 with
  | .fr (.int i), w1 => cases r1; exact ⟨i, rfl, k _ _ _ _ _ _ w1 x1 p1 o1⟩, kx⟩⟩
def cutD {α : Type} (xs : List α) (lo hi : Option Int) : List α := (xs.drop (HT.sIx xs.length 0 lo)).take (HT.sIx xs.length xs.length hi - HT.sIx xs.length 0 lo)
theorem DRs.cut {K : PySem.W.Frag} {F : Hp} {vs : List V} {ds : List D} (h : DRs K F vs ds) (lo hi : Option Int) : DRs K F (cutV vs lo hi) (cutD ds lo hi) := by
  unfold cutV cutD
  rw [h.length]
  exact DRs.take _ (h.drop _)
def dSlV : U → Option Int → Option Int → Mem → (U → Prop) → Prop := fun x lo hi M P => match asL M x with
  | some ds => P (.fr (.lst (cutD ds lo hi)))
  | none => match x with
    | .fr (.tup ds) => P (.fr (.tup (cutD ds lo hi)))
    | .fr (.str z) => z.length ≤ sizeLine ∧ P (.fr (.str (cutS z lo hi)))
    | _ => False
def dSl (wa : DE) (wl wh : DO) : DE := fun ρ M P R => wa ρ M (fun x ρ1 M1 => wl ρ1 M1 (fun lo ρ2 M2 => wh ρ2 M2 (fun hi ρ3 M3 => dSlV x lo hi M3 fun u => P u ρ3 M3) R) R) R
theorem cutV_all {α : Type} (xs : List α) (lo hi : Option Int) (h : HT.sIx xs.length 0 lo = 0 ∧ HT.sIx xs.length xs.length hi = xs.length) : cutD xs lo hi = xs := by
  unfold cutD
  rw [h.1, h.2]
  simp
theorem ge_sl {e : Expr} {lo hi : Option Expr} {p2 pos : Pos} {wa : DE} {wl wh : DO} (he : GE X Wx e wa) (hl : GO X Wx lo wl) (hu : GO X Wx hi wh) : GE X Wx (.Subscript e (.Slice lo hi none p2) pos) (dSl wa wl wh) :=
  ⟨PE.imp (pe_slice (sl_list.or (sl_tupA.or sl_str)) he.pe hl.po hu.po) fun σ H Q ⟨G, F, as, ρ, M, P, R, o, w, k, kx⟩ => by
    refine ⟨G, F, as, ρ, M, _, R, o, w, fun x ρ1 M1 F1 as1 H1 vx w1 x1 p1 o1 r1 => ?_, kx⟩
    refine ⟨G, F1, as1, ρ1, M1, _, R, o1, w1, fun lo ρ2 M2 F2 as2 H2 w2 x2 p2 o2 => ?_, kx.up x1 p1⟩
    refine ⟨G, F2, as2, ρ2, M2, _, R, o2, w2, fun hi ρ3 M3 F3 as3 H3 w3 x3 p3 o3 => ?_, kx.up (x1.trans x2) (p1.trans p2)⟩
    have rx := r1.mono (x2.trans x3) (p2.trans p3)
    have x13 := (x1.trans x2).trans x3
    have p13 := (p1.trans p2).trans p3
    unfold dSlV at w3
    cases e : asL M3 x with
    | some ds =>
      simp only [e] at w3
      obtain ⟨a, xs, rfl, h3, h4⟩ := asL_ok o3.m rx e
      refine .inl ⟨a, xs, rfl, h3, fun p hp => ?_⟩
      have xn := Ex.new (o := .lst (cutV xs lo hi)) (o3.m.ex.none hp)
      exact k _ _ _ _ as3 _ _ w3 (x13.trans xn) p13 (o3.of (o3.m.laid hp) xn (List.prefix_refl _)) (DR.lst upd_same (DRs.mono xn _ _ (h4.cut lo hi)))
    | none =>
      simp only [e] at w3
      match x, w3 with
      | .fr (.tup ds), w3 =>
        cases rx with
        | tup h1 h2 =>
          rename_i a xs
          refine .inr (.inl ⟨a, xs, rfl, SqT.of (o3.m.ex _ _ h1), fun hw => ?_, fun hw p hp => ?_⟩)
          · refine k _ _ _ _ as3 _ _ w3 x13 p13 o3 ?_
            rw [h2.length] at hw
            rw [cutV_all ds lo hi hw]
            exact DR.tup h1 h2
          · have xn := Ex.new (o := .tup (cutV xs lo hi)) (o3.m.ex.none hp)
            exact k _ _ _ _ as3 _ _ w3 (x13.trans xn) p13 (o3.of (o3.m.laid hp) xn (List.prefix_refl _)) (DR.tup upd_same (DRs.mono xn _ _ (h2.cut lo hi)))
      | .fr (.str z), w3 =>
        cases rx
        exact .inr (.inr ⟨z, rfl, w3.1, k _ _ _ _ as3 _ _ w3.2 x13 p13 o3 (DR.str _)⟩)⟩
end
end L3
/-! L3F: fields, built-ins by name, methods of built-ins. -/
namespace L3
open PySem PySem.Spec PyProof.Rows L2
variable {G : Hp}
section
variable {X : Cx} {Wx : WX}
/-! ### fields: the class C has the fields names, in this order -/
def fldAt {α : Type} (names : List Str) (j : Nat) (fs : List (Str × α)) : Option α := if fs.map (·.1) = names.take fs.length then (fs[j]?).map (·.2) else none
theorem lookup_at {α : Type} : ∀ {fs : List (Str × α)} {names : List Str} {j : Nat} {f : Str} {x : Str × α}, names.Nodup → names[j]? = some f → fs.map (·.1) = names.take fs.length → fs[j]? = some x → fs.lookup f = some x.2
  | [], _, j, _, _, _, _, _, e => by simp at e
  | p :: fs, [], j, _, _, _, e, _, _ => by simp at e
  | p :: fs, n :: names, 0, f, x, nd, e1, e2, e3 => by
    simp at e1 e3
    subst e1 e3
    simp at e2
    rw [List.lookup_cons, show (n == p.1) = true by rw [e2.1]; simp]
  | p :: fs, n :: names, j + 1, f, x, nd, e1, e2, e3 => by
    rw [List.nodup_cons] at nd
    simp at e1 e2 e3
    have hne : ¬ f = p.1 := fun z => nd.1 (by rw [← e2.1, ← z]; exact List.mem_iff_getElem?.mpr ⟨j, e1⟩)
    rw [List.lookup_cons, show (f == p.1) = false by simpa using hne]
    exact lookup_at nd.2 e1 e2.2 e3
theorem lookup_out {α : Type} : ∀ {fs : List (Str × α)} {f : Str}, f ∉ fs.map (·.1) → fs.lookup f = none
  | [], _, _ => rfl
  | p :: fs, f, h => by
    simp only [List.map_cons, List.mem_cons, not_or] at h
    rw [List.lookup_cons, show (f == p.1) = false by simpa using h.1]
    exact lookup_out h.2
theorem URf.names {K : PySem.W.Frag} {F : Hp} {as : List Addr} : ∀ {vs : List (Str × V)} {us : List (Str × U)}, URf K F as vs us → vs.map (·.1) = us.map (·.1)
  | _, _, .nil => rfl
  | _, _, .cons h t => by rw [List.map_cons, List.map_cons, URf.names t]
theorem URf.length {K : PySem.W.Frag} {F : Hp} {as : List Addr} : ∀ {vs : List (Str × V)} {us : List (Str × U)}, URf K F as vs us → vs.length = us.length
  | _, _, .nil => rfl
  | _, _, .cons _ t => congrArg (· + 1) (URf.length t)
theorem DRf.length {K : PySem.W.Frag} {F : Hp} : ∀ {vs : List (Str × V)} {us : List (Str × D)}, DRf K F vs us → vs.length = us.length
  | _, _, .nil => rfl
  | _, _, .cons _ t => congrArg (· + 1) (DRf.length t)
theorem URf.get {K : PySem.W.Frag} {F : Hp} {as : List Addr} : ∀ {vs : List (Str × V)} {us : List (Str × U)} {j : Nat} {p : Str × U}, URf K F as vs us → us[j]? = some p → ∃ v, vs[j]? = some (p.1, v) ∧ UR K F as v p.2
  | _, _, j, p, .nil, e => by simp at e
  | _, _, 0, p, .cons h _, e => by simp at e; subst e; exact ⟨_, rfl, h⟩
  | _, _, j + 1, p, .cons _ t, e => by
    obtain ⟨v, h1, h2⟩ := URf.get (j := j) (p := p) t (by simpa using e)
    exact ⟨v, by simpa using h1, h2⟩
theorem DRf.get {K : PySem.W.Frag} {F : Hp} : ∀ {vs : List (Str × V)} {us : List (Str × D)} {j : Nat} {p : Str × D}, DRf K F vs us → us[j]? = some p → ∃ v, vs[j]? = some (p.1, v) ∧ DR K F v p.2
  | _, _, j, p, .nil, e => by simp at e
  | _, _, 0, p, .cons h _, e => by simp at e; subst e; exact ⟨_, rfl, h⟩
  | _, _, j + 1, p, .cons _ t, e => by
    obtain ⟨v, h1, h2⟩ := DRf.get (j := j) (p := p) t (by simpa using e)
    exact ⟨v, by simpa using h1, h2⟩
/-- the j-th field of an instance of C -/
def dFldV (C : Addr) (names : List Str) (j : Nat) : U → Mem → (U → Prop) → Prop := fun x M P => match x with
  | .fr (.ins C' fs) => C' = C ∧ (match fldAt names j fs with | some d => P (.fr d) | none => False)
  | .mt h => (match M[h]? with
    | some (some (.ins C' fs)) => C' = C ∧ (match fldAt names j fs with | some u => P u | none => False)
    | _ => False)
  | _ => False
def dFld (C : Addr) (names : List Str) (j : Nat) (wa : DE) : DE := fun ρ M P R => wa ρ M (fun x ρ1 M1 => dFldV C names j x M1 fun u => P u ρ1 M1) R
theorem ge_fld {e : Expr} {f : Str} {pos : Pos} {wa : DE} {C : Addr} {names : List Str} {j : Nat} (he : GE X Wx e wa) (cl : Cls X.K C) (nd : names.Nodup) (hn : NoAttr X.K C f) (hj : names[j]? = some f := by rfl)
    (hb : attributeBase e f X.env (eval e X.env) = eval e X.env := by rfl) : GE X Wx (.Attribute e f pos) (dFld C names j wa) :=
  ⟨PE.imp (pe_fld he.pe hb) fun σ H Q ⟨G, F, as, ρ, M, P, R, o, w, k, kx⟩ => ⟨G, F, as, ρ, M, _, R, o, w, fun x ρ1 M1 F1 as1 H1 vx w1 x1 p1 o1 r1 => by
    match x, w1, r1 with
    | .fr (.ins C' fs), w5, r5 =>
      simp only [dFldV] at w5
      obtain ⟨e5, w6⟩ := w5
      subst e5
      cases r5 with
      | ins h1 h2 =>
        rename_i a dx fvs
        unfold fldAt at w6
        by_cases hm : fs.map (·.1) = names.take fs.length
        · rw [if_pos hm] at w6
          cases q : fs[j]? with
          | none => simp [q] at w6
          | some p =>
            simp [q] at w6
            obtain ⟨v, h3, h4⟩ := h2.get q
            refine ⟨a, C', dx, fvs, v, rfl, o1.m.ex _ _ h1, cl, hn, ?_, k _ _ _ _ as1 _ _ w6 x1 p1 o1 h4⟩
            exact lookup_at (x := (p.1, v)) nd hj (by rw [h2.names, h2.length]; exact hm) h3
        · rw [if_neg hm] at w6; exact w6.elim
    | .mt h, w5, r5 =>
      obtain ⟨a, ea, rfl⟩ := r5
      simp only [dFldV] at w5
      cases q : M1[h]? with
      | none => simp [q] at w5
      | some z =>
        cases z with
        | none => simp [q] at w5
        | some mo =>
          obtain ⟨ho, hF, hH, hr⟩ := o1.m.here q ea
          cases mo with
          | ins C' fs =>
            simp only [q] at w5
            obtain ⟨e5, w6⟩ := w5
            subst e5
            obtain ⟨dx, fvs, rfl, h2⟩ := hr
            unfold fldAt at w6
            by_cases hm : fs.map (·.1) = names.take fs.length
            · rw [if_pos hm] at w6
              cases q2 : fs[j]? with
              | none => simp [q2] at w6
              | some p =>
                simp [q2] at w6
                obtain ⟨v, h3, h4⟩ := h2.get q2
                refine ⟨a, C', dx, fvs, v, rfl, hH, cl, hn, ?_, k _ _ _ _ as1 _ _ w6 x1 p1 o1 h4⟩
                exact lookup_at (x := (p.1, v)) nd hj (by rw [h2.names, h2.length]; exact hm) h3
            · rw [if_neg hm] at w6; exact w6.elim
          | _ => simp [q] at w5, kx⟩⟩

/-! ### built-ins called by name -/
def CallD (X : Cx) (f : Value) (d : List U → Mem → (U → Prop) → Prop) : Prop := ∃ r, CallR X f r ∧ ∀ (G F : Hp) (as : List Addr) (H : Hp) (M : Mem) (us : List U) (vs : List V) (P : U → Prop) (Q : VK), OkM X.K G F as H M → URs X.K F as vs us → d us M P →
  (∀ (u : U) (v : V) (F' H' : Hp), P u → Ex F F' → OkM X.K G F' as H' M → UR X.K F' as v u → Q v H') → r vs H Q
def CallN (X : Cx) (f : Value) (d : List U → Mem → (MO → Prop) → Prop) : Prop := ∃ r, CallR X f r ∧ ∀ (G F : Hp) (as : List Addr) (H : Hp) (M : Mem) (us : List U) (vs : List V) (P : MO → Prop) (Q : VK), OkM X.K G F as H M → URs X.K F as vs us → d us M P →
  (∀ (mo : MO) (q : Addr) (ho : HO), P mo → H q = none → MR X.K F as mo ho → Q (.ref q) (upd H q ho)) → r vs H Q
def dCB (d : List U → Mem → (U → Prop) → Prop) (wa : DA) : DE := fun ρ M P R => wa ρ M (fun us ρ1 M1 => d us M1 fun u => P u ρ1 M1) R
def dCBN (d : List U → Mem → (MO → Prop) → Prop) (wa : DA) : DN := fun ρ M P R => wa ρ M (fun us ρ1 M1 => d us M1 fun mo => P mo ρ1 M1) R
theorem cb_core {d : List U → Mem → (U → Prop) → Prop} {r : List V → Hp → VK → Prop} {wa : DA} (hr : ∀ (G F : Hp) (as : List Addr) (H : Hp) (M : Mem) (us : List U) (vs : List V) (P : U → Prop) (Q : VK), OkM X.K G F as H M → URs X.K F as vs us → d us M P →
  (∀ (u : U) (v : V) (F' H' : Hp), P u → Ex F F' → OkM X.K G F' as H' M → UR X.K F' as v u → Q v H') → r vs H Q) (σ : L2.St) (H : Hp) (Q : VK) (h : cE X.K Wx (dCB d wa) σ H Q) : tCB r (cA X.K Wx wa) σ H Q := by
  obtain ⟨G, F, as, ρ, M, P, R, o, w, k, kx⟩ := h
  exact ⟨G, F, as, ρ, M, _, R, o, w, fun us ρ1 M1 F1 as1 H1 vs w1 x1 p1 o1 r1 => hr G F1 as1 H1 M1 us vs _ Q o1.m r1 w1 fun u v F2 H2 pu x2 o2 r2 => k u ρ1 M1 F2 as1 H2 v pu (x1.trans x2) p1 (o1.of o2 x2 (List.prefix_refl _)) r2, kx⟩
theorem cbn_core {d : List U → Mem → (MO → Prop) → Prop} {r : List V → Hp → VK → Prop} {wa : DA} (hr : ∀ (G F : Hp) (as : List Addr) (H : Hp) (M : Mem) (us : List U) (vs : List V) (P : MO → Prop) (Q : VK), OkM X.K G F as H M → URs X.K F as vs us → d us M P →
  (∀ (mo : MO) (q : Addr) (ho : HO), P mo → H q = none → MR X.K F as mo ho → Q (.ref q) (upd H q ho)) → r vs H Q) (σ : L2.St) (H : Hp) (Q : VK) (h : cN X.K Wx (dCBN d wa) σ H Q) : tCB r (cA X.K Wx wa) σ H Q := by
  obtain ⟨G, F, as, ρ, M, P, R, o, w, k, kx⟩ := h
  exact ⟨G, F, as, ρ, M, _, R, o, w, fun us ρ1 M1 F1 as1 H1 vs w1 x1 p1 o1 r1 => hr G F1 as1 H1 M1 us vs _ Q o1.m r1 w1 fun mo q ho pu hq hr2 => k.at_new x1 p1 o1 pu hr2 hq, kx⟩
variable {x : Str} {p pos : Pos} {e : Expr} {es : List Expr} {wa : DA}
theorem ge_callB {id : String} {d : List U → Mem → (U → Prop) → Prop} (hc : CallD X (.builtin id) d) (hm : X.mg x = none) (hv : bootBuiltins x = some (.builtin id)) (ha : GA X Wx (e :: es) wa) (hg : Gl X x := by rfl) (hn : x ≠ "__name__" := by decide) (hdb : (x == ("__debug__" : Str)) = false := by decide)
    (he : starEach (e :: es) X.env = (false, eval e X.env) :: starEach es X.env := by rfl) (hpl : (backTo pos (starEach es X.env)).any (·.1) = false := by rfl) : GE X Wx (.Call (.Name x p) (e :: es) [] pos) (dCB d wa) := by
  obtain ⟨r, h1, hr⟩ := hc
  exact ⟨PE.imp (pe_callB h1 hg hm hv ha.pa hn hdb he hpl) (cb_core hr)⟩
theorem ge_callTy {T : String} {d : List U → Mem → (U → Prop) → Prop} (hc : CallD X (.type T) d) (hm : X.mg x = none) (hv : bootBuiltins x = some (.type T)) (ha : GA X Wx (e :: es) wa) (hg : Gl X x := by rfl) (hn : x ≠ "__name__" := by decide) (hdb : (x == ("__debug__" : Str)) = false := by decide)
    (he : starEach (e :: es) X.env = (false, eval e X.env) :: starEach es X.env := by rfl) (hpl : (backTo pos (starEach es X.env)).any (·.1) = false := by rfl) : GE X Wx (.Call (.Name x p) (e :: es) [] pos) (dCB d wa) := by
  obtain ⟨r, h1, hr⟩ := hc
  exact ⟨PE.imp (pe_callTy h1 hg hm hv ha.pa hn hdb he hpl) (cb_core hr)⟩
theorem gn_callB {id : String} {d : List U → Mem → (MO → Prop) → Prop} (hc : CallN X (.builtin id) d) (hm : X.mg x = none) (hv : bootBuiltins x = some (.builtin id)) (ha : GA X Wx (e :: es) wa) (hg : Gl X x := by rfl) (hn : x ≠ "__name__" := by decide) (hdb : (x == ("__debug__" : Str)) = false := by decide)
    (he : starEach (e :: es) X.env = (false, eval e X.env) :: starEach es X.env := by rfl) (hpl : (backTo pos (starEach es X.env)).any (·.1) = false := by rfl) : GN X Wx (.Call (.Name x p) (e :: es) [] pos) (dCBN d wa) := by
  obtain ⟨r, h1, hr⟩ := hc
  exact ⟨PE.imp (pe_callB h1 hg hm hv ha.pa hn hdb he hpl) (cbn_core hr)⟩
theorem gn_callTy {T : String} {d : List U → Mem → (MO → Prop) → Prop} (hc : CallN X (.type T) d) (hm : X.mg x = none) (hv : bootBuiltins x = some (.type T)) (ha : GA X Wx (e :: es) wa) (hg : Gl X x := by rfl) (hn : x ≠ "__name__" := by decide) (hdb : (x == ("__debug__" : Str)) = false := by decide)
    (he : starEach (e :: es) X.env = (false, eval e X.env) :: starEach es X.env := by rfl) (hpl : (backTo pos (starEach es X.env)).any (·.1) = false := by rfl) : GN X Wx (.Call (.Name x p) (e :: es) [] pos) (dCBN d wa) := by
  obtain ⟨r, h1, hr⟩ := hc
  exact ⟨PE.imp (pe_callTy h1 hg hm hv ha.pa hn hdb he hpl) (cbn_core hr)⟩
/-- len -/
def dLen : List U → Mem → (U → Prop) → Prop := fun us M P => match us with
  | [u] => (match asL M u with
    | some ds => P (.fr (.int ds.length))
    | none => match asT u with
      | some ds => P (.fr (.int ds.length))
      | none => match u with
        | .fr (.str z) => z.length ≤ sizeLine ∧ P (.fr (.int z.length))
        | _ => False)
  | _ => False
theorem cd_len : CallD X (.builtin "len") dLen := ⟨_, call_len_seq.or call_len_str, fun G F as H M us vs P Q o rs d k => by
  match us, rs, d with
  | [u], .cons r .nil, d =>
    unfold dLen at d
    cases e : asL M u with
    | some ds =>
      simp only [e] at d
      obtain ⟨a, xs, rfl, h3, h4⟩ := asL_ok o r e
      exact .inl ⟨a, xs, rfl, .inl h3, by rw [h4.length]; exact k _ _ F H d (Ex.refl _) o (.int _)⟩
    | none =>
      simp only [e] at d
      cases e2 : asT u with
      | some ds =>
        simp only [e2] at d
        obtain ⟨a, xs, rfl, h3, h4⟩ := asT_ok o r e2
        exact .inl ⟨a, xs, rfl, .inr h3, by rw [h4.length]; exact k _ _ F H d (Ex.refl _) o (.int _)⟩
      | none =>
        simp only [e2] at d
        match u, d with
        | .fr (.str z), d => cases r; exact .inr ⟨z, rfl, d.1, k _ _ F H d.2 (Ex.refl _) o (.int _)⟩⟩
def dMax2 : List U → Mem → (U → Prop) → Prop := fun us _ P => match us with
  | [.fr (.int i), .fr (.int j)] => P (.fr (.int (if j > i then j else i)))
  | _ => False
theorem cd_max2 (hc : X.calm = true) : CallD X (.builtin "max") dMax2 := ⟨_, call_max2 hc, fun G F as H M us vs P Q o rs d k => by
  match us, rs, d with
  | [.fr (.int i), .fr (.int j)], .cons r (.cons q .nil), d => cases r; cases q; exact ⟨i, j, rfl, k _ _ F H d (Ex.refl _) o (.int _)⟩⟩
def dMin2 : List U → Mem → (U → Prop) → Prop := fun us _ P => match us with
  | [.fr (.int i), .fr (.int j)] => P (.fr (.int (if j < i then j else i)))
  | _ => False
theorem cd_min2 (hc : X.calm = true) : CallD X (.builtin "min") dMin2 := ⟨_, call_min2 hc, fun G F as H M us vs P Q o rs d k => by
  match us, rs, d with
  | [.fr (.int i), .fr (.int j)], .cons r (.cons q .nil), d => cases r; cases q; exact ⟨i, j, rfl, k _ _ F H d (Ex.refl _) o (.int _)⟩⟩
/-- int of an int, a bool -/
def dInt : List U → Mem → (U → Prop) → Prop := fun us _ P => match us with
  | [.fr (.int i)] => P (.fr (.int i))
  | [.fr (.bl b)] => P (.fr (.int (if b then 1 else 0)))
  | _ => False
theorem cd_int : CallD X (.type "int") dInt := ⟨_, call_int1, fun G F as H M us vs P Q o rs d k => by
  match us, rs, d with
  | [.fr (.int i)], .cons r .nil, d => cases r; exact .inl ⟨i, rfl, k _ _ F H d (Ex.refl _) o (.int _)⟩
  | [.fr (.bl b)], .cons r .nil, d => cases r; exact .inr ⟨b, rfl, k _ _ F H d (Ex.refl _) o (.int _)⟩⟩
/-- list of a list or tuple; tuple of a list or tuple -/
def dList : List U → Mem → (MO → Prop) → Prop := fun us M P => match us with
  | [u] => (match asL M u with
    | some ds => P (.lst ds)
    | none => match asT u with
      | some ds => P (.lst ds)
      | none => False)
  | _ => False
theorem cn_list : CallN X (.type "list") dList := ⟨_, call_list_of, fun G F as H M us vs P Q o rs d k => by
  match us, rs, d with
  | [u], .cons r .nil, d =>
    unfold dList at d
    cases e : asL M u with
    | some ds =>
      simp only [e] at d
      obtain ⟨a, xs, rfl, h3, h4⟩ := asL_ok o r e
      exact ⟨a, xs, rfl, .inl h3, fun l hl => k _ _ _ d hl ⟨_, rfl, h4⟩⟩
    | none =>
      simp only [e] at d
      cases e2 : asT u with
      | some ds =>
        simp only [e2] at d
        obtain ⟨a, xs, rfl, h3, h4⟩ := asT_ok o r e2
        exact ⟨a, xs, rfl, .inr h3, fun l hl => k _ _ _ d hl ⟨_, rfl, h4⟩⟩
      | none => simp only [e2] at d⟩
def dTuple : List U → Mem → (U → Prop) → Prop := fun us M P => match us with
  | [u] => (match asL M u with
    | some ds => P (.fr (.tup ds))
    | none => match u with
      | .fr (.tup ds) => P (.fr (.tup ds))
      | _ => False)
  | _ => False
theorem cd_tuple : CallD X (.type "tuple") dTuple := ⟨_, call_tuple_of, fun G F as H M us vs P Q o rs d k => by
  match us, rs, d with
  | [u], .cons r .nil, d =>
    unfold dTuple at d
    cases e : asL M u with
    | some ds =>
      simp only [e] at d
      obtain ⟨a, xs, rfl, h3, h4⟩ := asL_ok o r e
      exact ⟨a, xs, rfl, .inl ⟨h3, fun l hl => k _ _ _ _ d (Ex.new (o.ex.none hl)) (o.laid hl) (.tup upd_same (DRs.mono (Ex.new (o.ex.none hl)) _ _ h4))⟩⟩
    | none =>
      simp only [e] at d
      match u, d with
      | .fr (.tup ds), d =>
        cases r with
        | tup h1 h2 => exact ⟨_, _, rfl, .inr ⟨SqT.of (o.ex _ _ h1), k _ _ F H d (Ex.refl _) o (.tup h1 h2)⟩⟩⟩
/-- str of an int -/
def dStrI : List U → Mem → (U → Prop) → Prop := fun us _ P => match us with
  | [.fr (.int i)] => i.natAbs.log2 < 1920 ∧ P (.fr (.str (toString i)))
  | _ => False
theorem cd_strI : CallD X (.type "str") dStrI := ⟨_, call_str_int, fun G F as H M us vs P Q o rs d k => by
  match us, rs, d with
  | [.fr (.int i)], .cons r .nil, d => cases r; exact ⟨i, rfl, d.1, k _ _ F H d.2 (Ex.refl _) o (.str _)⟩⟩
/-- int of a text -/
def dIntS : List U → Mem → (U → Prop) → Prop := fun us _ P => match us with
  | [.fr (.str z)] => ∃ n, PySem.intText? z = some n ∧ z.length ≤ 640 ∧ P (.fr (.int n))
  | _ => False
theorem cd_intS : CallD X (.type "int") dIntS := ⟨_, call_int_str, fun G F as H M us vs P Q o rs d k => by
  match us, rs, d with
  | [.fr (.str z)], .cons r .nil, d =>
    cases r
    obtain ⟨n, h1, h2, h3⟩ := d
    exact ⟨z, n, rfl, h1, h2, k _ _ F H h3 (Ex.refl _) o (.int _)⟩⟩

/-! ### isinstance -/
def tyN (M : Mem) : U → Option String
  | .fr .non => some "NoneType" | .fr (.bl _) => some "bool" | .fr (.int _) => some "int" | .fr (.str _) => some "str"
  | .fr (.lst _) => some "list" | .fr (.tup _) => some "tuple"
  | .mt h => match M[h]? with
    | some (some (.lst _)) => some "list"
    | some (some (.nst _)) => some "list"
    | some (some (.dK _)) => some "dict"
    | some (some (.dT _)) => some "dict"
    | _ => none
  | _ => none
theorem tyN_ok {K : PySem.W.Frag} {F H : Hp} {as : List Addr} {M : Mem} (o : OkM K G F as H M) {v : V} {u : U} {n : String} (r : UR K F as v u) (e : tyN M u = some n) : TyX K H v (.type n) := by
  match u, e with
  | .fr .non, e => cases e; cases r; exact .base .non
  | .fr (.bl _), e => cases e; cases r; exact .base (.bl _)
  | .fr (.int _), e => cases e; cases r; exact .base (.int _)
  | .fr (.str _), e => cases e; cases r; exact .base (.str _)
  | .fr (.lst _), e => cases e; cases r with | lst h1 h2 => exact .base (.lst (o.ex _ _ h1))
  | .fr (.tup _), e => cases e; cases r with | tup h1 h2 => exact .base (.tup (o.ex _ _ h1))
  | .mt h, e =>
    obtain ⟨a, ea, rfl⟩ := r
    simp only [tyN] at e
    cases q : M[h]? with
    | none => simp [q] at e
    | some z =>
      cases z with
      | none => simp [q] at e
      | some mo =>
        obtain ⟨ho, hF, hH, hr⟩ := o.here q ea
        cases mo with
        | lst es => simp [q] at e; subst e; obtain ⟨vs, rfl, dr⟩ := hr; exact .base (.lst hH)
        | nst es => simp [q] at e; subst e; obtain ⟨vs, rfl, dr⟩ := hr; exact .base (.lst hH)
        | dK es => simp [q] at e; subst e; obtain ⟨vs, rfl, dr⟩ := hr; exact .base (.dK hH)
        | dT es => simp [q] at e; subst e; obtain ⟨vs, rfl, dr⟩ := hr; exact .base (.dT hH)
        | ins _ _ => simp [q] at e
/-- isinstance(x, n), n a built-in class -/
def dIsTy (n : String) (wa : DE) : DE := fun ρ M P R => wa ρ M (fun u ρ1 M1 => ∃ m b, tyN M1 u = some m ∧ kitB m n = some b ∧ P (.fr (.bl b)) ρ1 M1) R
theorem ge_isTy {a : Expr} {x2 : Str} {p2 : Pos} {n : String} {wa : DE} (ha : GE X Wx a wa) (hm : X.mg "isinstance" = none) (hm2 : X.mg x2 = none) (hv2 : bootBuiltins x2 = some (.type n)) (hg : Gl X "isinstance" := by rfl) (hg2 : Gl X x2 := by rfl)
    (hn2 : x2 ≠ "__name__" := by decide) (hd2 : (x2 == ("__debug__" : Str)) = false := by decide)
    (h1 : starEach [a, .Name x2 p2] X.env = (false, eval a X.env) :: starEach [.Name x2 p2] X.env := by rfl) (h2 : starEach [.Name x2 p2] X.env = (false, eval (.Name x2 p2) X.env) :: starEach [] X.env := by rfl)
    (hpl : (backTo pos (starEach [.Name x2 p2] X.env)).any (·.1) = false := by rfl) : GE X Wx (.Call (.Name "isinstance" p) [a, .Name x2 p2] [] pos) (dIsTy n wa) :=
  ⟨PE.imp (pe_callB (x := "isinstance") call_isi hg hm (by decide +kernel) (pa_cons ha.pe (pa_cons (pe_bltn (v := .ty n) hg2 hm2 hv2 rfl hn2 hd2) pa_nil h2) h1) (by decide) (by decide) h1 hpl) fun σ H Q ⟨G, F, as, ρ, M, P, R, o, w, k, kx⟩ => by
    refine ⟨G, F, as, ρ, M, _, R, o, w, fun u ρ1 M1 F1 as1 H1 vx w1 x1 p1 o1 r1 => ?_, kx⟩
    obtain ⟨m, b, e1, e2, w2⟩ := w1
    exact ⟨vx, .ty n, .type m, .type n, b, rfl, .ty n, tyN_ok o1.m r1 e1, kit_ty e2, k _ _ _ _ as1 _ _ w2 x1 p1 o1 (.bl _)⟩⟩

/-! ### methods of built-ins -/
def isTy (T : String) (u : U) (M : Mem) : Prop := match u with
  | .fr (.str _) => T = "str"
  | .fr (.lst _) => T = "list"
  | .fr (.rol _) => T = "list"
  | .mt h => (match M[h]? with
    | some (some (.lst _)) => T = "list"
    | some (some (.dK _)) => T = "dict"
    | some (some (.dT _)) => T = "dict"
    | _ => False)
  | _ => False
theorem isTy_ok {K : PySem.W.Frag} {F H : Hp} {as : List Addr} {M : Mem} (o : OkM K G F as H M) {v : V} {u : U} {T : String} (r : UR K F as v u) (e : isTy T u M) : tyV K T v H := by
  match u, e with
  | .fr (.str _), e => cases r; exact e
  | .fr (.lst _), e => cases r with | lst h1 h2 => exact .inl ⟨e, _, SqL.of (o.ex _ _ h1)⟩
  | .fr (.rol _), e => cases r with | rol h1 h2 => exact .inl ⟨e, _, o.ex.sql h1⟩
  | .mt h, e =>
    obtain ⟨a, ea, rfl⟩ := r
    simp only [isTy] at e
    cases q : M[h]? with
    | none => simp [q] at e
    | some z =>
      cases z with
      | none => simp [q] at e
      | some mo =>
        obtain ⟨ho, hF, hH, hr⟩ := o.here q ea
        cases mo with
        | lst es => simp [q] at e; obtain ⟨vs, rfl, dr⟩ := hr; exact .inl ⟨e, _, SqL.of hH⟩
        | dK es => simp [q] at e; obtain ⟨vs, rfl, dr⟩ := hr; exact .inr (.inr (.inl ⟨e, .inl ⟨_, hH⟩⟩))
        | dT es => simp [q] at e; obtain ⟨vs, rfl, dr⟩ := hr; exact .inr (.inr (.inl ⟨e, .inr ⟨_, hH⟩⟩))
        | nst es => simp [q] at e
        | ins _ _ => simp [q] at e
def MtD (X : Cx) (id : String) (d : U → List U → Mem → (U → Mem → Prop) → Prop) : Prop := ∃ r, MtR X id r ∧ ∀ (G F : Hp) (as : List Addr) (H : Hp) (M : Mem) (u : U) (us : List U) (v : V) (vs : List V) (P : U → Mem → Prop) (Q : VK), OkM X.K G F as H M → UR X.K F as v u → URs X.K F as vs us → d u us M P →
  (∀ (w : U) (M' : Mem) (y : V) (F' H' : Hp), P w M' → Ex F F' → OkM X.K G F' as H' M' → UR X.K F' as y w → Q y H') → r v vs H Q
def dMt (T : String) (d : U → List U → Mem → (U → Mem → Prop) → Prop) (wo : DE) (wa : DA) : DE := fun ρ M P R => wo ρ M (fun u ρ1 M1 => isTy T u M1 ∧ wa ρ1 M1 (fun us ρ2 M2 => d u us M2 fun w M3 => P w ρ2 M3) R) R
variable {o : Expr} {wo : DE} {name : Str} {apos cpos : Pos} {T id : String}
theorem ge_mt {d : U → List U → Mem → (U → Mem → Prop) → Prop} (pa : PlainAttrs T) (slot : Slot T name id) (hty : typeOf (.builtin id) = pure (.type "method_descriptor")) (hm : MtD X id d) (ho : GE X Wx o wo) (ha : GA X Wx (e :: es) wa)
    (hbase : attributeBase o name X.env (eval o X.env) = eval o X.env := by rfl)
    (hfew : ((backTo cpos (starEach (e :: es) X.env)).all (fun x => !x.1) && (backToKw cpos (keywordEach [] X.env)).all (fun x => x.1.isSome)
      && decide ((e :: es).length + ([] : List Keyword).length + (if ([] : List Keyword).isEmpty then 0 else 1) < 30)) = true := by rfl)
    (hline : (apos.endLine == cpos.line) = true := by rfl) (hs : starEach (e :: es) X.env = (false, eval e X.env) :: starEach es X.env := by rfl) (hplain : (backTo cpos (starEach es X.env)).any (·.1) = false := by rfl) :
    GE X Wx (.Call (.Attribute o name apos) (e :: es) [] cpos) (dMt T d wo wa) := by
  obtain ⟨r, h1, hr⟩ := hm
  exact ⟨PE.imp (pe_bm pa slot hty h1 ho.pe ha.pa hbase hfew hline hs hplain) fun σ H Q ⟨G, F, as, ρ, M, P, R, o, w, k, kx⟩ => ⟨G, F, as, ρ, M, _, R, o, w, fun u ρ1 M1 F1 as1 H1 v w1 x1 p1 o1 r1 =>
    ⟨isTy_ok o1.m r1 w1.1, ⟨G, F1, as1, ρ1, M1, _, R, o1, w1.2, fun us ρ2 M2 F2 as2 H2 vs w2 x2 p2 o2 r2 => hr G F2 as2 H2 M2 u us v vs _ Q o2.m (r1.mono x2 p2) r2 w2 fun z M3 y F3 H3 pz x3 o3 r3 =>
      k z ρ2 M3 F3 as2 H3 y pz ((x1.trans x2).trans x3) (p1.trans p2) (o2.of o3 x3 (List.prefix_refl _)) r3, kx.up x1 p1⟩⟩, kx⟩⟩
theorem ge_mt0 {d : U → List U → Mem → (U → Mem → Prop) → Prop} (pa : PlainAttrs T) (slot : Slot T name id) (hty : typeOf (.builtin id) = pure (.type "method_descriptor")) (hm : MtD X id d) (ho : GE X Wx o wo)
    (hbase : attributeBase o name X.env (eval o X.env) = eval o X.env := by rfl) (hline : (apos.endLine == cpos.line) = true := by rfl) :
    GE X Wx (.Call (.Attribute o name apos) [] [] cpos) (dMt T d wo dNil) := by
  obtain ⟨r, h1, hr⟩ := hm
  exact ⟨PE.imp (pe_bm0 pa slot hty h1 ho.pe hbase hline) fun σ H Q ⟨G, F, as, ρ, M, P, R, o, w, k, kx⟩ => ⟨G, F, as, ρ, M, _, R, o, w, fun u ρ1 M1 F1 as1 H1 v w1 x1 p1 o1 r1 =>
    ⟨isTy_ok o1.m r1 w1.1, hr G F1 as1 H1 M1 u [] v [] _ Q o1.m r1 .nil w1.2 fun z M3 y F3 H3 pz x3 o3 r3 => k z ρ1 M3 F3 as1 H3 y pz (x1.trans x3) p1 (o1.of o3 x3 (List.prefix_refl _)) r3⟩, kx⟩⟩
/-- a mutable list -/
def onLst (u : U) (M : Mem) (k : Nat → List D → Prop) : Prop := match u with
  | .mt h => (match M[h]? with
    | some (some (.lst ds)) => k h ds
    | _ => False)
  | _ => False
theorem onLst_ok {K : PySem.W.Frag} {F H : Hp} {as : List Addr} {M : Mem} (o : OkM K G F as H M) {v : V} {u : U} {k : Nat → List D → Prop} (r : UR K F as v u) (e : onLst u M k) :
    ∃ h a vs ds, v = .ref a ∧ H a = some (.lst vs) ∧ DRs K F vs ds ∧ k h ds ∧ ∀ vs' ds', DRs K F vs' ds' → OkM K G F as (upd H a (.lst vs')) (M.set h (some (.lst ds'))) := by
  match u, e with
  | .mt h, e =>
    obtain ⟨a, ea, rfl⟩ := r
    simp only [onLst] at e
    cases q : M[h]? with
    | none => simp [q] at e
    | some z =>
      cases z with
      | none => simp [q] at e
      | some mo =>
        obtain ⟨ho, hF, hH, hr⟩ := o.here q ea
        cases mo with
        | lst es =>
          simp [q] at e
          obtain ⟨vs, rfl, dr⟩ := hr
          exact ⟨h, a, vs, es, rfl, hH, dr, e, fun vs' ds' dr' => o.write q ea ⟨vs', rfl, dr'⟩⟩
        | _ => simp [q] at e
def dAppend : U → List U → Mem → (U → Mem → Prop) → Prop := fun u us M P => match us with
  | [.fr d] => onLst u M fun h ds => ds.length < sizeLine ∧ P (.fr .non) (M.set h (some (.lst (ds ++ [d]))))
  | _ => False
theorem md_append : MtD X "list.append" dAppend := ⟨_, mt_append, fun G F as H M u us v vs P Q o ru rs d k => by
  match us, rs, d with
  | [.fr d], .cons r .nil, d' =>
    obtain ⟨h, a, vs, ds, rfl, hH, dr, ⟨hl, hp⟩, wr⟩ := onLst_ok o ru d'
    exact ⟨a, vs, _, rfl, rfl, hH, by rw [dr.length]; exact hl, k _ _ _ F _ hp (Ex.refl _) (wr _ _ (dr.append (.cons r .nil))) .non⟩⟩
def dPop : U → List U → Mem → (U → Mem → Prop) → Prop := fun u us M P => match us with
  | [] => onLst u M fun h ds => ∃ d, ds.getLast? = some d ∧ P (.fr d) (M.set h (some (.lst ds.dropLast)))
  | _ => False
theorem md_pop : MtD X "list.pop" dPop := ⟨_, mt_pop, fun G F as H M u us v vs P Q o ru rs d k => by
  match us, rs, d with
  | [], .nil, d' =>
    obtain ⟨h, a, vs, ds, rfl, hH, dr, ⟨d, hd, hp⟩, wr⟩ := onLst_ok o ru d'
    rw [List.getLast?_eq_getElem?] at hd
    obtain ⟨y, hy, ry⟩ := dr.get hd
    exact ⟨a, vs, y, rfl, rfl, hH, by rw [dr.length]; exact hy, k _ _ _ F _ hp (Ex.refl _) (wr _ _ dr.dropLast) ry⟩⟩
def dRev : U → List U → Mem → (U → Mem → Prop) → Prop := fun u us M P => match us with
  | [] => onLst u M fun h ds => P (.fr .non) (M.set h (some (.lst ds.reverse)))
  | _ => False
theorem md_reverse : MtD X "list.reverse" dRev := ⟨_, mt_reverse, fun G F as H M u us v vs P Q o ru rs d k => by
  match us, rs, d with
  | [], .nil, d' =>
    obtain ⟨h, a, vs, ds, rfl, hH, dr, hp, wr⟩ := onLst_ok o ru d'
    exact ⟨a, vs, rfl, rfl, hH, k _ _ _ F _ hp (Ex.refl _) (wr _ _ dr.reverse) .non⟩⟩
end
end L3
/-! L3G: statements, loops, comprehensions. -/
namespace L3
open PySem PySem.Spec PyProof.Rows L2
variable {G : Hp}

structure DEnds where
  nx : Sl → Mem → Prop
  rt : U → Mem → Prop
  bk : Sl → Mem → Prop := fun _ _ => False
  ct : Sl → Mem → Prop := fun _ _ => False
  ex : RX := fun _ _ _ _ => False
abbrev DS := Sl → Mem → DEnds → Prop
/-- what is left, not looked into -/
@[irreducible] def Lk (w : DS) (P : DEnds) (ρ : Sl) (M : Mem) : Prop := w ρ M P
theorem lk {w : DS} {P : DEnds} {ρ : Sl} {M : Mem} (h : w ρ M P) : Lk w P ρ M := by unfold Lk; exact h
theorem unlk {w : DS} {P : DEnds} {ρ : Sl} {M : Mem} (h : Lk w P ρ M) : w ρ M P := by unfold Lk at h; exact h

def KS (K : PySem.W.Frag) (G F : Hp) (as : List Addr) (p : Sl → Mem → Prop) (q : L2.St → Hp → Prop) : Prop :=
  ∀ (ρ' : Sl) (M' : Mem) (F' : Hp) (as' : List Addr) (H' : Hp) (σ' : L2.St), p ρ' M' → Ex F F' → as <+: as' → Ok K G F' as' H' σ' M' ρ' → q σ' H'
def KR (K : PySem.W.Frag) (G F : Hp) (as : List Addr) (p : U → Mem → Prop) (q : VK) : Prop :=
  ∀ (u : U) (M' : Mem) (F' : Hp) (as' : List Addr) (H' : Hp) (v : V), p u M' → Ex F F' → as <+: as' → OkM K G F' as' H' M' → UR K F' as' v u → q v H'
structure KD (K : PySem.W.Frag) (Wx : WX) (G F : Hp) (as : List Addr) (P : DEnds) (D : Ends) : Prop where
  nx : KS K G F as P.nx D.nx
  rt : KR K G F as P.rt D.rt
  bk : KS K G F as P.bk D.bk
  ct : KS K G F as P.ct D.ct
  ex : KX K G F as P.ex Wx
section
variable {K : PySem.W.Frag} {Wx : WX} {F F1 : Hp} {as as1 : List Addr} {P : DEnds} {D : Ends}
theorem KS.up {p : Sl → Mem → Prop} {q : L2.St → Hp → Prop} (k : KS K G F as p q) (x : Ex F F1) (e : as <+: as1) : KS K G F1 as1 p q := fun ρ' M' F' as' H' σ' h x' p' o => k ρ' M' F' as' H' σ' h (x.trans x') (e.trans p') o
theorem KR.up {p : U → Mem → Prop} {q : VK} (k : KR K G F as p q) (x : Ex F F1) (e : as <+: as1) : KR K G F1 as1 p q := fun ρ' M' F' as' H' σ' h x' p' o => k ρ' M' F' as' H' σ' h (x.trans x') (e.trans p') o
theorem KD.up (k : KD K Wx G F as P D) (x : Ex F F1) (e : as <+: as1) : KD K Wx G F1 as1 P D := ⟨k.nx.up x e, k.rt.up x e, k.bk.up x e, k.ct.up x e, k.ex.up x e⟩
theorem KD.with_nx (k : KD K Wx G F as P D) {p : Sl → Mem → Prop} {q : L2.St → Hp → Prop} (h : KS K G F as p q) : KD K Wx G F as { P with nx := p } { D with nx := q } := ⟨h, k.rt, k.bk, k.ct, k.ex⟩
end
def cS (K : PySem.W.Frag) (Wx : WX) (W : DS) : TS := fun D σ H => ∃ G F as ρ M P, Ok K G F as H σ M ρ ∧ W ρ M P ∧ KD K Wx G F as P D
structure GS (X : Cx) (Wx : WX) (st : Stmt) (W : DS) : Prop where
  ps : PS X st (cS X.K Wx W)
structure GSs (X : Cx) (Wx : WX) (sts : List Stmt) (W : DS) : Prop where
  pss : PSs X sts (cS X.K Wx W)
section
variable {X : Cx} {Wx : WX}
theorem PS.imp {e : Stmt} {t t' : TS} (h : PS X e t) (i : ∀ D σ H, t' D σ H → t D σ H) : PS X e t' := ⟨fun pins s σ H D I w => h.run pins s σ H D I (i _ _ _ w)⟩
theorem PSs.imp {e : List Stmt} {t t' : TS} (h : PSs X e t) (i : ∀ D σ H, t' D σ H → t D σ H) : PSs X e t' := ⟨fun pins s σ H D I w => h.run pins s σ H D I (i _ _ _ w)⟩
def dNext : DS := fun ρ M P => P.nx ρ M
def dSeq (w1 w2 : DS) : DS := fun ρ M P => w1 ρ M { P with nx := Lk w2 P }
theorem gss_nil : GSs X Wx [] dNext := ⟨PSs.imp pss_nil fun D σ H ⟨G, F, as, ρ, M, P, o, w, k⟩ => k.nx ρ M F as H σ w (Ex.refl _) (List.prefix_refl _) o⟩
theorem gss_one {st : Stmt} {w : DS} (h : GS X Wx st w) : GSs X Wx [st] w := ⟨pss_one h.ps⟩
theorem gss_cons {st : Stmt} {rest : List Stmt} {w1 w2 : DS} (h1 : GS X Wx st w1) (h2 : GSs X Wx rest w2) : GSs X Wx (st :: rest) (dSeq w1 w2) :=
  ⟨PSs.imp (pss_cons h1.ps h2.pss) fun D σ H ⟨G, F, as, ρ, M, P, o, w, k⟩ => ⟨G, F, as, ρ, M, _, o, w, k.with_nx fun ρ' M' F' as' H' σ' h x p o' => ⟨G, F', as', ρ', M', P, o', unlk h, k.up x p⟩⟩⟩
def dBrk : DS := fun ρ M P => P.bk ρ M
def dCont : DS := fun ρ M P => P.ct ρ M
theorem gs_pass {pos} : GS X Wx (.Pass pos) dNext := ⟨PS.imp ps_pass fun D σ H ⟨G, F, as, ρ, M, P, o, w, k⟩ => k.nx ρ M F as H σ w (Ex.refl _) (List.prefix_refl _) o⟩
theorem gs_doc {x j pos pos'} : GS X Wx (.Expr (.Constant (.str x) j pos) pos') dNext := ⟨PS.imp ps_doc fun D σ H ⟨G, F, as, ρ, M, P, o, w, k⟩ => k.nx ρ M F as H σ w (Ex.refl _) (List.prefix_refl _) o⟩
theorem gs_break {pos} : GS X Wx (.Break pos) dBrk := ⟨PS.imp ps_break fun D σ H ⟨G, F, as, ρ, M, P, o, w, k⟩ => k.bk ρ M F as H σ w (Ex.refl _) (List.prefix_refl _) o⟩
theorem gs_continue {pos} : GS X Wx (.Continue pos) dCont := ⟨PS.imp ps_continue fun D σ H ⟨G, F, as, ρ, M, P, o, w, k⟩ => k.ct ρ M F as H σ w (Ex.refl _) (List.prefix_refl _) o⟩
def dExpr (w : DE) : DS := fun ρ M P => w ρ M (fun _ ρ' M' => P.nx ρ' M') P.ex
theorem gs_expr {e : Expr} {pos : Pos} {w : DE} (h : GE X Wx e w) (hs : swapsWith e none pos.line X.env = pure false := by rfl) : GS X Wx (.Expr e pos) (dExpr w) :=
  ⟨PS.imp (ps_expr h.pe hs) fun D σ H ⟨G, F, as, ρ, M, P, o, w, k⟩ => ⟨G, F, as, ρ, M, _, P.ex, o, w, fun u ρ' M' F' as' H' v h x p o' r => k.nx _ _ _ _ _ _ h x p o', k.ex⟩⟩
def dRet (w : DE) : DS := fun ρ M P => w ρ M (fun u _ M' => P.rt u M') P.ex
theorem gs_ret {e : Expr} {pos : Pos} {w : DE} (h : GE X Wx e w) : GS X Wx (.Return (some e) pos) (dRet w) :=
  ⟨PS.imp (ps_ret h.pe) fun D σ H ⟨G, F, as, ρ, M, P, o, w, k⟩ => ⟨G, F, as, ρ, M, _, P.ex, o, w, fun u ρ' M' F' as' H' v h x p o' r => k.rt _ _ _ _ _ _ h x p o'.m r, k.ex⟩⟩
def dRetN : DS := fun _ M P => P.rt (.fr .non) M
theorem gs_retN {pos : Pos} : GS X Wx (.Return none pos) dRetN :=
  ⟨PS.imp ps_retN fun D σ H ⟨G, F, as, ρ, M, P, o, w, k⟩ => k.rt _ _ _ _ _ _ w (Ex.refl _) (List.prefix_refl _) o.m .non⟩
def dIf (wt : DT) (w1 w2 : DS) : DS := fun ρ M P => wt ρ M (fun b ρ' M' => ifB b (w1 ρ' M' P) (w2 ρ' M' P)) P.ex
theorem gs_if {c : Expr} {a b : List Stmt} {pos : Pos} {wt : DT} {w1 w2 : DS} (hc : GT X Wx c wt) (ha : GSs X Wx a w1) (hb : GSs X Wx b w2) : GS X Wx (.If c a b pos) (dIf wt w1 w2) :=
  ⟨PS.imp (ps_if hc.pt ha.pss hb.pss) fun D σ H ⟨G, F, as, ρ, M, P, o, w, k⟩ => ⟨G, F, as, ρ, M, _, P.ex, o, w, fun b ρ' M' F' as' H' h x p o' => by
    cases b with
    | true => exact ⟨G, F', as', ρ', M', P, o', h.1 rfl, k.up x p⟩
    | false => exact ⟨G, F', as', ρ', M', P, o', h.2 rfl, k.up x p⟩, k.ex⟩⟩
/-- a statement, then a word, then what follows -/
def dMid (w : DS) : DS := fun ρ M P => ∃ Q : Sl → Mem → Prop, w ρ M { P with nx := Q } ∧ ∀ ρ' M', Q ρ' M' → P.nx ρ' M'
theorem gs_mid {st : Stmt} {w : DS} (h : GS X Wx st w) : GS X Wx st (dMid w) :=
  ⟨PS.imp h.ps fun D σ H ⟨G, F, as, ρ, M, P, o, ⟨Q, w, h⟩, k⟩ => ⟨G, F, as, ρ, M, _, o, w, (k.with_nx (q := D.nx) fun ρ' M' F' as' H' σ' q x p o' => k.nx _ _ _ _ _ _ (h _ _ q) x p o')⟩⟩

/-! ### targets -/
abbrev DG := U → Sl → (Sl → Prop) → Prop
def cG (K : PySem.W.Frag) (js : List Nat) (g : DG) : TG := fun v σ H Q => ∃ (G F : Hp) (as : List Addr) (ρ : Sl) (M : Mem) (u : U) (P : Sl → Prop), Ok K G F as H σ M ρ ∧ UR K F as v u ∧ g u ρ P ∧
  ∀ ρ' σ', P ρ' → Ok K G F as H σ' M ρ' → (∀ vs : List Nat, (∀ j ∈ js, j ∈ vs) → wipe σ' vs = wipe σ vs) → Q σ' H
structure GG (X : Cx) (tg : Expr) (js : List Nat) (g : DG) : Prop where
  pg : PG X tg (cG X.K js g)
theorem PG.imp {e : Expr} {t t' : TG} (h : PG X e t) (i : ∀ v σ H Q, t' v σ H Q → t v σ H Q) : PG X e t' := ⟨fun pins s σ H v u Q I r w => h.run pins s σ H v u Q I r (i _ _ _ _ w)⟩
theorem Ok.set {K : PySem.W.Frag} {F H : Hp} {as : List Addr} {M : Mem} {ρ : Sl} {σ : L2.St} (o : Ok K G F as H σ M ρ) {v : V} {u : U} (i : Nat) (r : UR K F as v u) : Ok K G F as H (σ.set i (some v)) M (ρ.set i (some u)) :=
  ⟨o.m, by simp [o.slen], fun j w e => by
    by_cases hj : i = j
    · subst hj
      have hi : i < ρ.length := by have := (List.getElem?_eq_some_iff.mp e).1; simpa using this
      rw [List.getElem?_set_self hi] at e
      simp at e; subst e
      exact ⟨v, by rw [List.getElem?_set_self (by rw [← o.slen]; exact hi)], r⟩
    · rw [List.getElem?_set_ne hj] at e
      obtain ⟨y, h1, h2⟩ := o.slot j w e
      exact ⟨y, by rw [List.getElem?_set_ne hj]; exact h1, h2⟩⟩
theorem wipe_set {σ : L2.St} {j : Nat} {x : Option V} : ∀ {vs : List Nat}, j ∈ vs → wipe (σ.set j x) vs = wipe σ vs
  | [], h => by cases h
  | v :: vs, h => by
    unfold wipe
    by_cases hv : j ∈ vs
    · rw [wipe_set hv]
    · have e : j = v := by rcases List.mem_cons.mp h with e | e; exact e; exact absurd e hv
      subst e
      have key : ∀ (τ : L2.St) (ws : List Nat), (wipe (τ.set j x) ws).set j none = (wipe τ ws).set j none := fun τ ws => by
        induction ws with
        | nil => show ((τ.set j x)).set j none = τ.set j none; rw [List.set_set]
        | cons a ws ih =>
          show ((wipe (τ.set j x) ws).set a none).set j none = ((wipe τ ws).set a none).set j none
          by_cases ha : a = j
          · subst ha; rw [List.set_set, List.set_set, ih]
          · rw [List.set_comm _ _ ha, ih, List.set_comm _ _ (fun z => ha z.symm)]
      exact key σ vs
def gNm (i : Nat) : DG := fun u ρ P => P (ρ.set i (some u))
theorem gg_name (i : Nat) {x : Str} {pos : Pos} (hN : X.N.Nodup) (hi : X.N[i]? = some x := by rfl) (hx : Loc X.env.scope x := by first | exact .inl rfl | exact .inr rfl) (hf : X.fn x = true ∨ X.env.scope.names.lookup x = some .local := by first | exact .inl rfl | exact .inr rfl) : GG X (.Name x pos) [i] (gNm i) :=
  ⟨PG.imp (pg_name hN hi hx hf) fun v σ H Q ⟨G, F, as, ρ, M, u, P, o, r, g, k⟩ => k _ _ g (o.set i r) fun vs h => wipe_set (h i (by simp))⟩
abbrev DGs := List D → Sl → (Sl → Prop) → Prop
def cGs (K : PySem.W.Frag) (js : List Nat) (g : DGs) : TGs := fun vs σ H Q => ∃ (G F : Hp) (as : List Addr) (ρ : Sl) (M : Mem) (ds : List D) (P : Sl → Prop), Ok K G F as H σ M ρ ∧ DRs K F vs ds ∧ g ds ρ P ∧
  ∀ ρ' σ', P ρ' → Ok K G F as H σ' M ρ' → (∀ vs : List Nat, (∀ j ∈ js, j ∈ vs) → wipe σ' vs = wipe σ vs) → Q σ' H
structure GGs (X : Cx) (tgs : List Expr) (n : Nat) (js : List Nat) (g : DGs) : Prop where
  pgs : PGs X tgs (cGs X.K js g)
  len : tgs.length = n
theorem PGs.imp {e : List Expr} {t t' : TGs} (h : PGs X e t) (i : ∀ v σ H Q, t' v σ H Q → t v σ H Q) : PGs X e t' := ⟨fun pins s σ H v u Q I r w => h.run pins s σ H v u Q I r (i _ _ _ _ w)⟩
def gNil : DGs := fun ds ρ P => ds = [] ∧ P ρ
def gCons (g : DG) (gs : DGs) : DGs := fun ds ρ P => match ds with
  | d :: r => g (.fr d) ρ fun ρ' => gs r ρ' P
  | [] => False
theorem ggs_nil : GGs X [] 0 [] gNil := ⟨PGs.imp pgs_nil fun vs σ H Q ⟨G, F, as, ρ, M, ds, P, o, r, ⟨e, g⟩, k⟩ => by
  subst e
  cases r
  exact ⟨rfl, k _ _ g o fun _ _ => rfl⟩, rfl⟩
theorem ggs_cons {e : Expr} {es : List Expr} {n : Nat} {js js' : List Nat} {g : DG} {gs : DGs} (h1 : GG X e js g) (h2 : GGs X es n js' gs)
    (hs : (assignEach (e :: es) X.env).map (·.2) = assign e X.env :: (assignEach es X.env).map (·.2) := by rfl) : GGs X (e :: es) (n + 1) (js ++ js') (gCons g gs) := ⟨PGs.imp (pgs_cons h1.pg h2.pgs hs) fun vs σ H Q ⟨G, F, as, ρ, M, ds, P, o, r, g, k⟩ => by
  match ds, vs, r, g with
  | d :: ds, v :: vs, .cons h t, g =>
    refine ⟨v, vs, rfl, G, F, as, ρ, M, .fr d, _, o, h, g, fun ρ1 σ1 g1 o1 w1 => ?_⟩
    exact ⟨G, F, as, ρ1, M, ds, P, o1, t, g1, fun ρ2 σ2 g2 o2 w2 => k ρ2 σ2 g2 o2 fun vs hv => (w2 vs fun j hj => hv j (by simp [hj])).trans (w1 vs fun j hj => hv j (by simp [hj]))⟩, by rw [List.length_cons, h2.len]⟩
def gTp (n : Nat) (gs : DGs) : DG := fun u ρ P => match asT u with
  | some ds => ds.length = n ∧ gs ds ρ P
  | none => False
theorem gg_tup {es : List Expr} {kk : Nat} {pos : Pos} {n : Nat} {js : List Nat} {gs : DGs} (hc : X.calm = true) (h : GGs X es n js gs) (hr : ∀ (es' : TGs), PGs X es es' → PG X (.Tuple es kk pos) (gTup X.K n es')) : GG X (.Tuple es kk pos) js (gTp n gs) :=
  ⟨PG.imp (hr _ h.pgs) fun v σ H Q ⟨G, F, as, ρ, M, u, P, o, r, g, k⟩ => by
    unfold gTp at g
    cases e : asT u with
    | none => simp only [e] at g
    | some ds =>
      simp only [e] at g
      obtain ⟨a, xs, rfl, h3, h4⟩ := asT_ok o.m r e
      exact ⟨a, xs, rfl, h3, by rw [h4.length]; exact g.1, G, F, as, ρ, M, ds, P, o, h4, g.2, k⟩⟩
/-! ### assignments -/
def dAsg (w : DE) (g : DG) : DS := fun ρ M P => w ρ M (fun u ρ' M' => g u ρ' fun ρ2 => P.nx ρ2 M') P.ex
theorem asg_core {w : DE} {js : List Nat} {g : DG} (D : Ends) (σ : L2.St) (H : Hp) (h : cS X.K Wx (dAsg w g) D σ H) : tAsg (cE X.K Wx w) (cG X.K js g) D σ H := by
  obtain ⟨G, F, as, ρ, M, P, o, w, k⟩ := h
  exact ⟨G, F, as, ρ, M, _, P.ex, o, w, fun u ρ' M' F' as' H' v h x p o' r => ⟨G, F', as', ρ', M', u, _, o', r, h, fun ρ2 σ2 g2 o2 _ => k.nx _ _ _ _ _ _ g2 x p o2⟩, k.ex⟩
theorem gs_asg {tg e : Expr} {pos : Pos} {w : DE} {js : List Nat} {g : DG} (he : GE X Wx e w) (hg : GG X tg js g) (hs : swapsWithSole [tg] e pos.line X.env = pure false := by rfl) (hw : swappedStores [tg] e X.env = pure none := by rfl) (h1 : (assignEach [tg] X.env).map (·.2) = [assign tg X.env] := by rfl) : GS X Wx (.Assign [tg] e pos) (dAsg w g) :=
  ⟨PS.imp (ps_asg he.pe hg.pg hs hw h1) asg_core⟩
theorem gs_set (i : Nat) {x : Str} {e : Expr} {pos pos' : Pos} {w : DE} (hN : X.N.Nodup) (he : GE X Wx e w) (hi : X.N[i]? = some x := by rfl) (hx : Loc X.env.scope x := by first | exact .inl rfl | exact .inr rfl)
    (hs : swapsWith e (some (.Name x pos')) pos.line X.env = pure false := by rfl) (hf : X.fn x = true ∨ X.env.scope.names.lookup x = some .local := by first | exact .inl rfl | exact .inr rfl) : GS X Wx (.Assign [.Name x pos'] e pos) (dAsg w (gNm i)) :=
  ⟨PS.imp (ps_set hN hi hx he.pe hs hf) fun D σ H h => by
    obtain ⟨G, F, as, ρ, M, P, o, w, k⟩ := h
    exact ⟨G, F, as, ρ, M, _, P.ex, o, w, fun u ρ' M' F' as' H' v h x p o' r => k.nx _ _ _ _ _ _ h x p (o'.set i r), k.ex⟩⟩
/-! ### o[i] = v -/
def dSetIx (wv wo wi : DE) : DS := fun ρ M P => wv ρ M (fun v ρ1 M1 => wo ρ1 M1 (fun u ρ2 M2 => wi ρ2 M2 (fun i ρ3 M3 => match v, i with
  | .fr d, .fr (.int k) => onLst u M3 fun h ds => ∃ j, ixN ds.length k = some j ∧ P.nx ρ3 (M3.set h (some (.lst (ds.set j d))))
  | _, _ => False) P.ex) P.ex) P.ex
theorem gs_setIx {a b e : Expr} {pos pos' : Pos} {wv wo wi : DE} (hv : GE X Wx e wv) (ho : GE X Wx a wo) (hi : GE X Wx b wi) (hg : ∀ {to ti : TE} {t : TSet}, PE X a to → PE X b ti → PSet X t → PG X (.Subscript a b pos') (gSub to ti t))
    (hs : swapsWithSole [.Subscript a b pos'] e pos.line X.env = pure false := by rfl) (hw : swappedStores [.Subscript a b pos'] e X.env = pure none := by rfl) (h1 : (assignEach [.Subscript a b pos'] X.env).map (·.2) = [assign (.Subscript a b pos') X.env] := by rfl) : GS X Wx (.Assign [.Subscript a b pos'] e pos) (dSetIx wv wo wi) :=
  ⟨PS.imp (ps_asg hv.pe (hg ho.pe hi.pe set_list) hs hw h1) fun D σ H ⟨G, F, as, ρ, M, P, o, w, k⟩ => ⟨G, F, as, ρ, M, _, P.ex, o, w, fun v ρ1 M1 F1 as1 H1 vv w1 x1 p1 o1 r1 =>
    ⟨G, F1, as1, ρ1, M1, _, P.ex, o1, w1, fun u ρ2 M2 F2 as2 H2 vo w2 x2 p2 o2 r2 => ⟨G, F2, as2, ρ2, M2, _, P.ex, o2, w2, fun i ρ3 M3 F3 as3 H3 vi w3 x3 p3 o3 r3 => by
      match v, i, w3, r3, r1 with
      | .fr d, .fr (.int kk), w3, r3, r1 =>
        cases r3
        obtain ⟨h, a, vs, ds, rfl, hH, dr, ⟨j, hj, hn⟩, wr⟩ := onLst_ok o3.m (r2.mono x3 p3) w3
        refine ⟨a, vs, kk, j, rfl, rfl, hH, by rw [dr.length]; exact hj, ?_⟩
        have rv : DR X.K F3 vv d := DR.mono (x2.trans x3) d vv r1
        exact k.nx _ _ F3 as3 _ _ hn ((x1.trans x2).trans x3) ((p1.trans p2).trans p3) (o3.of (wr _ _ (dr.set rv)) (Ex.refl _) (List.prefix_refl _)), k.ex.up (x1.trans x2) (p1.trans p2)⟩, k.ex.up x1 p1⟩, k.ex⟩⟩
/-- x op= e, x a name -/
def dAug (i : Nat) (d : U → U → Mem → (U → Prop) → Prop) (w : DE) : DS := fun ρ M P => match ρ[i]? with
  | some (some u) => w ρ M (fun y ρ1 M1 => d u y M1 fun z => P.nx (ρ1.set i (some z)) M1) P.ex
  | _ => False
theorem gs_aug (i : Nat) {x : Str} {e : Expr} {op : Operator} {pos pos' : Pos} {d : U → U → Mem → (U → Prop) → Prop} {w : DE} (hN : X.N.Nodup) (he : GE X Wx e w) (ho : OpD X (inplaceOp op) d) (hi : X.N[i]? = some x := by rfl) (hx : Loc X.env.scope x := by first | exact .inl rfl | exact .inr rfl)
    (hr : ∀ {te : TE} {ti : TIp}, PE X e te → PIp X op ti → PS X (.AugAssign (.Name x pos') op e pos) (tAug i te ti)) : GS X Wx (.AugAssign (.Name x pos') op e pos) (dAug i d w) := by
  obtain ⟨r, h1, h2⟩ := ho.ex
  exact ⟨PS.imp (hr he.pe (fun pins s σ H x y v u Q I rx ry h => h1 pins s σ H x y v u Q I rx ry h)) fun D σ H ⟨G, F, as, ρ, M, P, o, w, k⟩ => by
    unfold dAug at w
    cases q : ρ[i]? with
    | none => simp only [q] at w
    | some z =>
      cases z with
      | none => simp only [q] at w
      | some u =>
        simp only [q] at w
        obtain ⟨v, hv, rv⟩ := o.slot i u q
        exact ⟨v, hv, G, F, as, ρ, M, _, P.ex, o, w, fun y ρ1 M1 F1 as1 H1 vy w1 x1 p1 o1 r1 => h2 G F1 as1 H1 M1 u y v vy _ _ o1.m (rv.mono x1 p1) r1 w1 fun z vz F2 H2 pz x2 o2 r2 =>
          k.nx _ _ F2 as1 H2 _ pz (x1.trans x2) p1 ((o1.of o2 x2 (List.prefix_refl _)).set i r2), k.ex⟩⟩
theorem oi_add : OpD X (inplaceOp .Add) (fun x y _ P => match x, y with
  | .fr (.int i), .fr (.int j) => P (.fr (.int (i + j)))
  | .fr (.str a), .fr (.str b) => a.length + b.length ≤ sizeLine ∧ P (.fr (.str (a ++ b)))
  | _, _ => False) := ⟨_, (iop_add.or iop_add_str), fun G F as H M ux uy x y P Q o rx ry d k => by
  match ux, uy, d with
  | .fr (.int i), .fr (.int j), d => cases rx; cases ry; exact .inl ⟨i, j, rfl, rfl, k _ _ F H d (Ex.refl _) o (.int _)⟩
  | .fr (.str i), .fr (.str j), d => cases rx; cases ry; exact .inr ⟨i, j, rfl, rfl, d.1, k _ _ F H d.2 (Ex.refl _) o (.str _)⟩⟩
theorem oi_sub : OpD X (inplaceOp .Sub) (dI0 fun i j => .int (i - j)) := opd_I0 iop_sub fun _ _ _ => .int _
end
end L3
/-! L3H: loops and comprehensions. -/
namespace L3
open PySem PySem.Spec PyProof.Rows L2
variable {G : Hp}

/-! ### what is dropped at a turn's end -/
def forget : List Nat → Sl → Sl
  | [], ρ => ρ
  | i :: r, ρ => (forget r ρ).set i none
def hlt (m : Nat) : U → Bool
  | .mt h => decide (h < m)
  | .fr _ => true
def cl (m : Nat) : MO → Bool
  | .nst us => us.all (hlt m)
  | .ins _ fs => fs.all fun p => hlt m p.2
  | _ => true
def clO (m : Nat) : Option MO → Bool
  | some mo => cl m mo
  | none => true
def clM (m : Nat) (M : Mem) : Bool := M.all (clO m)
def keepU (m : Nat) : Option U → Option U
  | some u => if hlt m u = true then some u else none
  | none => none
def Tr (m : Nat) (tmp : List Nat) (p : Sl → Mem → Prop) : Sl → Mem → Prop := fun ρ M => clM m (M.take m) = true ∧ p ((forget tmp ρ).map (keepU m)) (M.take m)
theorem forget_len (ρ : Sl) : ∀ vs : List Nat, (forget vs ρ).length = ρ.length
  | [] => rfl
  | v :: vs => by unfold forget; rw [List.length_set, forget_len ρ vs]
theorem forget_some {ρ : Sl} {i : Nat} {u : U} : ∀ {vs : List Nat}, (forget vs ρ)[i]? = some (some u) → ρ[i]? = some (some u) ∧ i ∉ vs
  | [], h => ⟨h, by simp⟩
  | v :: vs, h => by
    unfold forget at h
    by_cases hi : v = i
    · subst hi
      by_cases hv : v < (forget vs ρ).length
      · rw [List.getElem?_set_self hv] at h; cases h
      · rw [List.getElem?_eq_none (by simpa using hv)] at h; cases h
    · rw [List.getElem?_set_ne hi] at h
      obtain ⟨h1, h2⟩ := forget_some h
      exact ⟨h1, by simp only [List.mem_cons, not_or]; exact ⟨fun e => hi e.symm, h2⟩⟩
section
variable {K : PySem.W.Frag} {F H : Hp} {as : List Addr} {M : Mem} {ρ : Sl} {σ : L2.St}
theorem UR.cut {v : V} {u : U} {m : Nat} (r : UR K F as v u) (h : hlt m u = true) : UR K F (as.take m) v u := by
  cases u with
  | fr d => exact r
  | mt i =>
    obtain ⟨a, e, q⟩ := r
    have hi : i < m := by simpa [hlt] using h
    exact ⟨a, by rw [List.getElem?_take_of_lt hi]; exact e, q⟩
theorem URs.cut {m : Nat} : ∀ {vs : List V} {us : List U}, URs K F as vs us → us.all (hlt m) = true → URs K F (as.take m) vs us
  | _, _, .nil, _ => .nil
  | _, _, .cons h t, e => by
    rw [List.all_cons, Bool.and_eq_true] at e
    exact .cons (h.cut e.1) (URs.cut t e.2)
theorem URf.cut {m : Nat} : ∀ {vs : List (Str × V)} {us : List (Str × U)}, URf K F as vs us → (us.all fun p => hlt m p.2) = true → URf K F (as.take m) vs us
  | _, _, .nil, _ => .nil
  | _, _, .cons h t, e => by
    rw [List.all_cons, Bool.and_eq_true] at e
    exact .cons (h.cut e.1) (URf.cut t e.2)
theorem MR.cut {m : Nat} {mo : MO} {ho : HO} (r : MR K F as mo ho) (h : cl m mo = true) : MR K F (as.take m) mo ho := by
  cases mo with
  | lst ds => exact r
  | nst ds => obtain ⟨vs, e, q⟩ := r; exact ⟨vs, e, q.cut h⟩
  | dK ds => exact r
  | dT ds => exact r
  | ins C ds => obtain ⟨dx, vs, e, q⟩ := r; exact ⟨dx, vs, e, q.cut h⟩
theorem OkM.cut (o : OkM K G F as H M) {m : Nat} (h : clM m (M.take m) = true) : OkM K G F (as.take m) H (M.take m) where
  ex := o.ex
  gx := o.gx
  gf := o.gf
  len := by simp [o.len]
  cell := fun i mo e => by
    have hi : i < m := by have := (List.getElem?_eq_some_iff.mp e).1; simp at this; omega
    have e' := e
    rw [List.getElem?_take_of_lt hi] at e'
    obtain ⟨a, ho, e1, e2, e3, e4⟩ := o.cell i mo e'
    refine ⟨a, ho, by rw [List.getElem?_take_of_lt hi]; exact e1, e2, e3, e4.cut ?_⟩
    have := List.all_eq_true.mp h (some mo) (List.mem_iff_getElem?.mpr ⟨i, e⟩)
    exact this
  inj := fun i j mo mo' a e1 e2 a1 a2 => by
    have hi : i < m := by have := (List.getElem?_eq_some_iff.mp e1).1; simp at this; omega
    have hj : j < m := by have := (List.getElem?_eq_some_iff.mp e2).1; simp at this; omega
    rw [List.getElem?_take_of_lt hi] at e1 a1
    rw [List.getElem?_take_of_lt hj] at e2 a2
    exact o.inj i j mo mo' a e1 e2 a1 a2
theorem Ok.forget (o : Ok K G F as H σ M ρ) (tmp : List Nat) : Ok K G F as H σ M (forget tmp ρ) :=
  ⟨o.m, by rw [forget_len]; exact o.slen, fun i u e => o.slot i u (forget_some e).1⟩
theorem Ok.cut (o : Ok K G F as H σ M ρ) {m : Nat} (h : clM m (M.take m) = true) : Ok K G F (as.take m) H σ (M.take m) (ρ.map (keepU m)) :=
  ⟨o.m.cut h, by simp [o.slen], fun i u e => by
    rw [List.getElem?_map] at e
    cases q : ρ[i]? with
    | none => rw [q] at e; cases e
    | some z =>
      rw [q] at e
      cases z with
      | none => cases e
      | some w =>
        simp only [Option.map, keepU] at e
        by_cases hw : hlt m w = true
        · rw [if_pos hw] at e
          cases e
          obtain ⟨v, h1, h2⟩ := o.slot i u q
          exact ⟨v, h1, h2.cut hw⟩
        · rw [if_neg hw] at e; cases e⟩
theorem pre_take {as as' : List Addr} (p : as <+: as') : as'.take as.length = as := by
  obtain ⟨t, rfl⟩ := p; simp
theorem KS.tr {p : Sl → Mem → Prop} {q : L2.St → Hp → Prop} {m : Nat} {tmp : List Nat} (hm : as.length = m) (k : KS K G F as p q) : KS K G F as (Tr m tmp p) q := fun ρ' M' F' as' H' σ' ⟨h1, h2⟩ x e o => by
  subst hm
  have o2 := (o.forget tmp).cut h1
  rw [pre_take e] at o2
  exact k _ _ F' as H' σ' h2 x (List.prefix_refl _) o2
end

/-! ### what is walked -/
inductive ItD where
  | seq (ds : List D) | rng (lo : Int) (n : Nat)
def ItD.n : ItD → Nat
  | .seq ds => ds.length
  | .rng _ n => n
def ItD.yld : ItD → Nat → D → Prop
  | .seq ds, k, d => ds[k]? = some d
  | .rng lo _, k, d => d = .int (lo + k)
structure ItR (K : PySem.W.Frag) (F : Hp) (J : It) (it : ItD) : Prop where
  go : ∀ i H, Ex F H → i < it.n → J.go i H
  stop : ∀ i H, Ex F H → it.n ≤ i → J.stop i H
  yld : ∀ (G F1 : Hp) (as : List Addr) (M : Mem) (i : Nat) (H : Hp) (x : V) (H' : Hp), OkM K G F1 as H M → Ex F F1 → i < it.n → J.yld i H x H' → ∃ F2 d, Ex F1 F2 ∧ OkM K G F2 as H' M ∧ DR K F2 x d ∧ it.yld i d
abbrev DI := Sl → Mem → (ItD → Sl → Mem → Prop) → RX → Prop
def KI (K : PySem.W.Frag) (G F : Hp) (as : List Addr) (σ : L2.St) (P : ItD → Sl → Mem → Prop) (R : It → Hp → Prop) : Prop :=
  ∀ (it : ItD) (ρ' : Sl) (M' : Mem) (F' : Hp) (as' : List Addr) (H' : Hp) (J : It), P it ρ' M' → Ex F F' → as <+: as' → Ok K G F' as' H' σ M' ρ' → ItR K F' J it → R J H'
def cI (K : PySem.W.Frag) (Wx : WX) (W : DI) : TI := fun σ H R => ∃ G F as ρ M P Rx, Ok K G F as H σ M ρ ∧ W ρ M P Rx ∧ KI K G F as σ P R ∧ KX K G F as Rx Wx
structure GI (X : Cx) (Wx : WX) (tg iter : Expr) (W : DI) : Prop where
  pi : PI X tg iter (cI X.K Wx W)
section
variable {X : Cx} {Wx : WX} {tg : Expr}
theorem PI.imp {e : Expr} {t t' : TI} (h : PI X tg e t) (i : ∀ σ H R, t' σ H R → t σ H R) : PI X tg e t' := ⟨fun pins s σ H R I w => h.run pins s σ H R I (i _ _ _ w)⟩
def iSeq (K : PySem.W.Frag) (tl : TE) : TI := fun σ H R => tl σ H fun x H1 => ∃ a xs, x = .ref a ∧ ((SqL K H1 a xs ∧ R (Itl K a) H1) ∨ (SqT K H1 a xs ∧ R (Itt K a) H1))
theorem pi_seq {l : Expr} {tl : TE} (hl : PE X l tl) : PI X tg l (iSeq X.K tl) := ⟨fun pins s σ H R I h => thn (hl.run pins s σ H _ I h) fun v s1 ⟨x, H1, I1, r1, a, xs, e, q⟩ => by
  subst e
  cases r1
  have fpk : ∀ b ∈ [s1.heap.objs.size], FpOk X pins H1 b := fun b hb => by
    rw [List.mem_singleton.mp hb]
    exact I1.fpOk (Nat.le_refl _) (I1.hok.fresh (Nat.le_refl _))
  rcases q with ⟨hq, q⟩ | ⟨hq, q⟩
  · obtain ⟨its, rv, pl, hz⟩ := I1.list hq
    exact wpAny_pyIter_list pl.isList ⟨s1.heap.objs.size, [s1.heap.objs.size], _, _, H1, rfl, I1.kept (t' := s1.toks) (fun b o e => Heap.get?_push_of_some _ e), turn_list a _, ⟨_, Heap.get?_push_size _ rfl, rfl, rfl⟩, fpk, q⟩
  · obtain ⟨its, rv, pl, hz⟩ := I1.tuple hq
    exact wpAny_pyIter_tuple (show s1.heap.IsTuple a its.toArray from pl) ⟨s1.heap.objs.size, [s1.heap.objs.size], _, _, H1, rfl, I1.kept (t' := s1.toks) (fun b o e => Heap.get?_push_of_some _ e), turn_tuple a _, ⟨_, Heap.get?_push_size _ rfl, rfl, rfl⟩, fpk, q⟩⟩
/-- a frozen list or tuple -/
def dSeqI (w : DE) : DI := fun ρ M P R => w ρ M (fun u ρ1 M1 => match u with
  | .fr (.lst ds) => P (.seq ds) ρ1 M1
  | .fr (.tup ds) => P (.seq ds) ρ1 M1
  | .fr (.rol ds) => P (.seq ds) ρ1 M1
  | .fr (.rot ds) => P (.seq ds) ρ1 M1
  | _ => False) R
theorem itr_t {K : PySem.W.Frag} {F : Hp} {a : Addr} {xs : List V} {ds : List D} (h : SqT K F a xs) (r : DRs K F xs ds) : ItR K F (Itt K a) (.seq ds) where
  go := fun i H x hi => ⟨xs, xs[i]'(by rw [r.length]; exact hi), x.sqt h, List.getElem?_eq_getElem _⟩
  stop := fun i H x hi => ⟨xs, x.sqt h, by rw [r.length]; exact hi⟩
  yld := fun G F1 as M i H x H' o x1 hi ⟨e, y⟩ => by
    subst e
    have hx := y xs ((x1.trans o.ex).sqt h)
    obtain ⟨d, h1, h2⟩ := r.getV hx
    exact ⟨F1, d, Ex.refl _, o, DR.mono x1 d x h2, h1⟩
theorem itr_l' {K : PySem.W.Frag} {F : Hp} {a : Addr} {xs : List V} {ds : List D} (h : SqL K F a xs) (r : DRs K F xs ds) : ItR K F (Itl K a) (.seq ds) where
  go := fun i H x hi => ⟨xs, xs[i]'(by rw [r.length]; exact hi), x.sql h, List.getElem?_eq_getElem _⟩
  stop := fun i H x hi => ⟨xs, x.sql h, by rw [r.length]; exact hi⟩
  yld := fun G F1 as M i H x H' o x1 hi ⟨e, y⟩ => by
    subst e
    have hx := y xs ((x1.trans o.ex).sql h)
    obtain ⟨d, h1, h2⟩ := r.getV hx
    exact ⟨F1, d, Ex.refl _, o, DR.mono x1 d x h2, h1⟩
theorem itr_r {K : PySem.W.Frag} {F : Hp} (lo : Int) (n : Nat) : ItR K F (Itr lo n) (.rng lo n) where
  go := fun i H x hi => hi
  stop := fun i H x hi => hi
  yld := fun G F1 as M i H x H' o x1 hi ⟨e, y⟩ => by
    subst e y
    exact ⟨F1, _, Ex.refl _, o, .int _, rfl⟩
theorem gi_seq {l : Expr} {w : DE} (hl : GE X Wx l w) : GI X Wx tg l (dSeqI w) := ⟨PI.imp (pi_seq hl.pe) fun σ H R ⟨G, F, as, ρ, M, P, Rx, o, w, k, kx⟩ => ⟨G, F, as, ρ, M, _, Rx, o, w, fun u ρ1 M1 F1 as1 H1 v w1 x1 p1 o1 r1 => by
  match u, w1, r1 with
  | .fr (.lst ds), w1, r1 =>
    cases (show DR X.K F1 v (.lst ds) from r1) with
    | lst h1 h2 => exact ⟨_, _, rfl, .inl ⟨SqL.of (o1.m.ex _ _ h1), k _ _ _ F1 as1 H1 _ w1 x1 p1 o1 (itr_l' (SqL.of h1) h2)⟩⟩
  | .fr (.rol ds), w1, r1 =>
    cases (show DR X.K F1 v (.rol ds) from r1) with
    | rol h1 h2 => exact ⟨_, _, rfl, .inl ⟨o1.m.ex.sql h1, k _ _ _ F1 as1 H1 _ w1 x1 p1 o1 (itr_l' h1 h2)⟩⟩
  | .fr (.tup ds), w1, r1 =>
    cases (show DR X.K F1 v (.tup ds) from r1) with
    | tup h1 h2 => exact ⟨_, _, rfl, .inr ⟨SqT.of (o1.m.ex _ _ h1), k _ _ _ F1 as1 H1 _ w1 x1 p1 o1 (itr_t (SqT.of h1) h2)⟩⟩
  | .fr (.rot ds), w1, r1 =>
    cases (show DR X.K F1 v (.rot ds) from r1) with
    | rot h1 h2 => exact ⟨_, _, rfl, .inr ⟨o1.m.ex.sqt h1, k _ _ _ F1 as1 H1 _ w1 x1 p1 o1 (itr_t h1 h2)⟩⟩, kx⟩⟩
def dRng1 (wa : DA) : DI := fun ρ M P R => wa ρ M (fun us ρ1 M1 => match us with
  | [.fr (.int j)] => (-(2 ^ 62) ≤ j ∧ j < 2 ^ 62) ∧ P (.rng 0 j.toNat) ρ1 M1
  | _ => False) R
theorem gi_rng1 {a : Expr} {wa : DA} {p pos : Pos} (hm : X.mg "range" = none) (ha : GA X Wx [a] wa) (hg : Gl X "range" := by rfl) (hs : starEach [a] X.env = [(false, eval a X.env)] := by rfl) : GI X Wx tg (.Call (.Name "range" p) [a] [] pos) (dRng1 wa) :=
  ⟨PI.imp (pi_range1 hg hm ha.pa hs) fun σ H R ⟨G, F, as, ρ, M, P, Rx, o, w, k, kx⟩ => ⟨G, F, as, ρ, M, _, Rx, o, w, fun us ρ1 M1 F1 as1 H1 vs w1 x1 p1 o1 r1 => by
    match us, w1, r1 with
    | [.fr (.int j)], w1, .cons r .nil => cases r; exact ⟨j, rfl, w1.1.1, w1.1.2, k _ _ _ F1 as1 H1 _ w1.2 x1 p1 o1 (itr_r _ _)⟩, kx⟩⟩
def dRng2 (wa : DA) : DI := fun ρ M P R => wa ρ M (fun us ρ1 M1 => match us with
  | [.fr (.int i), .fr (.int j)] => (-(2 ^ 62) ≤ i ∧ i < 2 ^ 62 ∧ -(2 ^ 62) ≤ j ∧ j < 2 ^ 62) ∧ P (.rng i (j - i).toNat) ρ1 M1
  | _ => False) R
theorem gi_rng2 {a b : Expr} {wa : DA} {p pos : Pos} (hm : X.mg "range" = none) (ha : GA X Wx [a, b] wa) (hg : Gl X "range" := by rfl) (hs : starEach [a, b] X.env = [(false, eval a X.env), (false, eval b X.env)] := by rfl) (hs2 : starEach [b] X.env = [(false, eval b X.env)] := by rfl) : GI X Wx tg (.Call (.Name "range" p) [a, b] [] pos) (dRng2 wa) :=
  ⟨PI.imp (pi_range2 hg hm ha.pa hs hs2) fun σ H R ⟨G, F, as, ρ, M, P, Rx, o, w, k, kx⟩ => ⟨G, F, as, ρ, M, _, Rx, o, w, fun us ρ1 M1 F1 as1 H1 vs w1 x1 p1 o1 r1 => by
    match us, w1, r1 with
    | [.fr (.int i), .fr (.int j)], w1, .cons r (.cons r2 .nil) => cases r; cases r2; exact ⟨i, j, rfl, w1.1, k _ _ _ F1 as1 H1 _ w1.2 x1 p1 o1 (itr_r _ _)⟩, kx⟩⟩

/-! ### for -/
def dFor (tmp : List Nat) (wi : DI) (g : DG) (wb : DS) : DS := fun ρ M P => wi ρ M (fun it ρ1 M1 => ∃ Iv : Nat → Sl → Mem → Prop, Tr M1.length tmp (Iv 0) ρ1 M1 ∧
  (∀ k d ρ2 M2, k < it.n → it.yld k d → Iv k ρ2 M2 → g (.fr d) ρ2 fun ρ3 => wb ρ3 M2 { P with nx := Tr M1.length tmp (Iv (k + 1)), ct := Tr M1.length tmp (Iv (k + 1)), bk := Tr M1.length tmp P.nx }) ∧
  ∀ ρ2 M2, Iv it.n ρ2 M2 → P.nx ρ2 M2) P.ex
theorem gs_for (tmp : List Nat) {iter : Expr} {body : List Stmt} {pos : Pos} {wi : DI} {js : List Nat} {g : DG} {wb : DS} (hp : PassesOwn (model X.prog X.w) X.A X.env X.xe) (hc : X.calm = true) (hi : GI X Wx tg iter wi) (hg : GG X tg js g) (hb : GSs X Wx body wb)
    (hs : ∀ x, foldedSetIterable iter X.env x = pure x := by intro _; rfl) : GS X Wx (.For tg iter body [] pos) (dFor tmp wi g wb) :=
  ⟨PS.imp (ps_for hp hc hi.pi hg.pg hb.pss hs) fun D σ H ⟨G, F, as, ρ, M, P, o, w, k⟩ => by
    refine ⟨G, F, as, ρ, M, _, P.ex, o, w, fun it ρ1 M1 F1 as1 H1 J w1 x1 p1 o1 ir => ?_, k.ex⟩
    obtain ⟨Iv, h0, hs, hd⟩ := w1
    have k1 := k.up x1 p1
    refine ⟨fun i m σ H => m = it.n - i ∧ i ≤ it.n ∧ ∃ F2 ρ2 M2, Ex F1 F2 ∧ Ok X.K G F2 as1 H σ M2 ρ2 ∧ Iv i ρ2 M2, ⟨it.n, by simp, Nat.zero_le _, ?_⟩, ?_⟩
    · obtain ⟨h1, h2⟩ := h0
      have o2 := (o1.forget tmp).cut h1
      rw [o1.m.len, pre_take (List.prefix_refl _)] at o2
      rw [o1.m.len] at h2
      exact ⟨F1, _, _, Ex.refl _, o2, h2⟩
    · rintro i m σ2 H2 ⟨rfl, hi, F2, ρ2, M2, x2, o2, hI⟩
      by_cases hlt : i < it.n
      · refine .inr ⟨ir.go i H2 (x2.trans o2.m.ex) hlt, fun σ' H' => ∃ F3 ρ3 M3, Ex F1 F3 ∧ Ok X.K G F3 as1 H' σ' M3 ρ3 ∧ Iv (i + 1) ρ3 M3, fun σ' H' ⟨F3, ρ3, M3, x3, o3, h3⟩ => ⟨it.n - (i + 1), by omega, rfl, hlt, F3, ρ3, M3, x3, o3, h3⟩, fun x H3 hy => ?_⟩
        obtain ⟨F3, d, x3, om, dr, yd⟩ := ir.yld G F2 as1 M2 i H2 x H3 o2.m x2 hlt hy
        refine ⟨G, F3, as1, ρ2, M2, .fr d, _, o2.of om x3 (List.prefix_refl _), dr, hs i d ρ2 M2 hlt yd hI, fun ρ4 σ4 h4 o4 _ => ?_⟩
        have kk := k1.up (x2.trans x3) (List.prefix_refl _)
        have nxt : KS X.K G F3 as1 (Tr M1.length tmp (Iv (i + 1))) fun σ' H' => ∃ F3 ρ3 M3, Ex F1 F3 ∧ Ok X.K G F3 as1 H' σ' M3 ρ3 ∧ Iv (i + 1) ρ3 M3 := fun ρ5 M5 F5 as5 H5 σ5 h5 x5 p5 o5 => by
          obtain ⟨h6, h7⟩ := h5
          have o6 := (o5.forget tmp).cut h6
          rw [o1.m.len, pre_take p5] at o6
          rw [o1.m.len] at h7
          exact ⟨F5, _, _, (x2.trans x3).trans x5, o6, h7⟩
        exact ⟨G, F3, as1, ρ4, M2, _, o4, h4, ⟨nxt, kk.rt, kk.nx.tr o1.m.len.symm, nxt, kk.ex⟩⟩
      · have e : i = it.n := by omega
        subst e
        exact .inl ⟨ir.stop _ H2 (x2.trans o2.m.ex) (Nat.le_refl _), k1.nx ρ2 M2 F2 as1 H2 σ2 (hd _ _ hI) x2 (List.prefix_refl _) o2⟩⟩

/-! ### while -/
def dWhile (tmp : List Nat) (wt : DT) (wb : DS) : DS := fun ρ M P => ∃ Iv : Nat → Sl → Mem → Prop, Tr M.length tmp (fun ρ M => ∃ n, Iv n ρ M) ρ M ∧
  ∀ n ρ2 M2, Iv n ρ2 M2 → wt ρ2 M2 (fun b ρ3 M3 => ifB b (wb ρ3 M3 { P with nx := Tr M.length tmp (fun ρ M => ∃ n', n' < n ∧ Iv n' ρ M), ct := Tr M.length tmp (fun ρ M => ∃ n', n' < n ∧ Iv n' ρ M), bk := Tr M.length tmp P.nx }) (P.nx ρ3 M3)) P.ex
theorem gs_while (tmp : List Nat) {c : Expr} {body : List Stmt} {pos : Pos} {wt : DT} {wb : DS} (hp : PassesOwn (model X.prog X.w) X.A X.env X.xe) (hc : GT X Wx c wt) (hb : GSs X Wx body wb) : GS X Wx (.While c body [] pos) (dWhile tmp wt wb) :=
  ⟨PS.imp (ps_while hp hc.pt hb.pss) fun D σ H ⟨G, F, as, ρ, M, P, o, ⟨Iv, h0, hs⟩, k⟩ => by
    refine ⟨fun n σ H => ∃ F2 ρ2 M2, Ex F F2 ∧ Ok X.K G F2 as H σ M2 ρ2 ∧ Iv n ρ2 M2, ?_, ?_⟩
    · obtain ⟨h1, n, h2⟩ := h0
      have o2 := (o.forget tmp).cut h1
      rw [o.m.len, pre_take (List.prefix_refl _)] at o2
      rw [o.m.len] at h2
      exact ⟨n, F, _, _, Ex.refl _, o2, h2⟩
    · rintro n σ2 H2 ⟨F2, ρ2, M2, x2, o2, hI⟩
      refine ⟨G, F2, as, ρ2, M2, _, P.ex, o2, hs n ρ2 M2 hI, fun b ρ3 M3 F3 as3 H3 h3 x3 p3 o3 => ?_, k.ex.up x2 (List.prefix_refl _)⟩
      cases b with
      | false => exact k.nx ρ3 M3 F3 as3 H3 σ2 (h3.2 rfl) (x2.trans x3) p3 o3
      | true =>
        have kk := k.up (x2.trans x3) p3
        have nxt : KS X.K G F3 as3 (Tr M.length tmp (fun ρ M => ∃ n', n' < n ∧ Iv n' ρ M)) fun σ' H' => ∃ n', n' < n ∧ ∃ F2 ρ2 M2, Ex F F2 ∧ Ok X.K G F2 as H' σ' M2 ρ2 ∧ Iv n' ρ2 M2 := fun ρ5 M5 F5 as5 H5 σ5 h5 x5 p5 o5 => by
          obtain ⟨h6, n', hn, h7⟩ := h5
          have o6 := (o5.forget tmp).cut h6
          rw [o.m.len, pre_take (p3.trans p5)] at o6
          rw [o.m.len] at h7
          exact ⟨n', hn, F5, _, _, (x2.trans x3).trans x5, o6, h7⟩
        have brk : KS X.K G F3 as3 (Tr M.length tmp P.nx) D.nx := fun ρ5 M5 F5 as5 H5 σ5 h5 x5 p5 o5 => by
          obtain ⟨h6, h7⟩ := h5
          have o6 := (o5.forget tmp).cut h6
          rw [o.m.len, pre_take (p3.trans p5)] at o6
          rw [o.m.len] at h7
          exact k.nx _ _ F5 as H5 σ5 h7 ((x2.trans x3).trans x5) (List.prefix_refl _) o6
        exact ⟨_, fun σ' H' h => h, G, F3, as3, ρ3, M3, _, o3, h3.1 rfl, ⟨nxt, kk.rt, brk, nxt, kk.ex⟩⟩⟩
end
end L3
/-! L3I: list comprehensions. -/
namespace L3
open PySem PySem.Spec PyProof.Rows L2
variable {G : Hp}
section
variable {K : PySem.W.Frag} {F H : Hp} {as : List Addr} {M : Mem} {ρ : Sl} {σ : L2.St}
/-- an object that nobody knows is protected -/
theorem OkM.guard (o : OkM K G F as H M) {a : Addr} {ho : HO} (hF : F a = none) (hH : H a = some ho) (hn : ∀ (h : Nat) (mo' : MO), M[h]? = some (some mo') → as[h]? ≠ some a) : OkM K (upd G a ho) F as H M where
  ex := o.ex
  gx := fun b u q => by
    by_cases hb : b = a
    · subst hb; rw [upd_same] at q; cases q; exact hH
    · rw [upd_ne hb] at q; exact o.gx b u q
  gf := fun b u q => by
    by_cases hb : b = a
    · subst hb; exact hF
    · rw [upd_ne hb] at q; exact o.gf b u q
  len := o.len
  cell := fun h mo e => by
    obtain ⟨b, ho', e1, e2, e3, e4⟩ := o.cell h mo e
    have nb : b ≠ a := fun z => hn h mo e (z ▸ e1)
    exact ⟨b, ho', e1, ⟨e2.1, by rw [upd_ne nb]; exact e2.2⟩, e3, e4⟩
  inj := o.inj
theorem OkM.unguard {a : Addr} {ho : HO} (o : OkM K (upd G a ho) F as H M) (hG : G a = none) : OkM K G F as H M where
  ex := o.ex
  gx := fun b u q => o.gx b u (Ex.new hG b u q)
  gf := fun b u q => o.gf b u (Ex.new hG b u q)
  len := o.len
  cell := fun h mo e => by
    obtain ⟨b, ho', e1, e2, e3, e4⟩ := o.cell h mo e
    refine ⟨b, ho', e1, ⟨e2.1, ?_⟩, e3, e4⟩
    cases q : G b with
    | none => rfl
    | some u => rw [Ex.new hG b u q] at e2; cases e2.2
  inj := o.inj
theorem OkM.other (o : OkM K G F as H M) {a : Addr} {ho : HO} (hF : F a = none) (hG : G a = none) (hn : ∀ (h : Nat) (mo' : MO), M[h]? = some (some mo') → as[h]? ≠ some a) : OkM K G F as (upd H a ho) M where
  ex := o.ex.mut hF
  gx := o.gx.mut hG
  gf := o.gf
  len := o.len
  cell := fun h mo e => by
    obtain ⟨b, ho', e1, e2, e3, e4⟩ := o.cell h mo e
    have nb : b ≠ a := fun z => hn h mo e (z ▸ e1)
    exact ⟨b, ho', e1, e2, by rw [upd_ne nb]; exact e3, e4⟩
  inj := o.inj
theorem ok_wipe (o : Ok K G F as H σ M ρ) (vs : List Nat) : Ok K G F as H (L2.wipe σ vs) M (forget vs ρ) :=
  ⟨o.m, by rw [forget_len, wipe_length]; exact o.slen, fun i u e => by
    obtain ⟨h1, h2⟩ := forget_some e
    obtain ⟨v, h3, h4⟩ := o.slot i u h1
    exact ⟨v, by rw [wipe_out h2]; exact h3, h4⟩⟩
theorem wipe_id {σ : L2.St} : ∀ vs : List Nat, L2.wipe (L2.wipe σ vs) vs = L2.wipe σ vs
  | [] => rfl
  | v :: vs => by
    have e : L2.wipe (σ.set v none) vs = (L2.wipe σ vs).set v none := by
      have key : ∀ (τ : L2.St) (ws : List Nat), L2.wipe (τ.set v none) ws = (L2.wipe τ ws).set v none := fun τ ws => by
        induction ws with
        | nil => rfl
        | cons a ws ih =>
          show (L2.wipe (τ.set v none) ws).set a none = ((L2.wipe τ ws).set a none).set v none
          rw [ih]
          by_cases ha : a = v
          · subst ha; rfl
          · rw [List.set_comm _ _ (fun z => ha z.symm)]
      exact key σ vs
    show (L2.wipe ((L2.wipe σ vs).set v none) vs).set v none = (L2.wipe σ vs).set v none
    have e2 : L2.wipe ((L2.wipe σ vs).set v none) vs = (L2.wipe (L2.wipe σ vs) vs).set v none := by
      have key : ∀ (τ : L2.St) (ws : List Nat), L2.wipe (τ.set v none) ws = (L2.wipe τ ws).set v none := fun τ ws => by
        induction ws with
        | nil => rfl
        | cons a ws ih =>
          show (L2.wipe (τ.set v none) ws).set a none = ((L2.wipe τ ws).set a none).set v none
          rw [ih]
          by_cases ha : a = v
          · subst ha; rfl
          · rw [List.set_comm _ _ (fun z => ha z.symm)]
      exact key _ vs
    rw [e2, wipe_id vs, List.set_set]
end
def dYes : DT := fun ρ M P _ => P true ρ M
def WF : WX := fun _ _ _ _ => False
def RF : RX := fun _ _ _ _ => False
def trM (m : Nat) (p : Mem → Prop) : Mem → Prop := fun M => clM m (M.take m) = true ∧ p (M.take m)
@[irreducible] def dLc (tmp : List Nat) (wi : DI) (g : DG) (wt : DT) (we : DE) : DN := fun ρ M P R => wi ρ M (fun it ρ1 M1 => ∃ Iv : Nat → List D → Mem → Prop, Iv 0 [] M1 ∧
  (∀ k d acc M2, k < it.n → it.yld k d → Iv k acc M2 → g (.fr d) (forget tmp ρ1) fun ρ3 => wt ρ3 M2 (fun b ρ4 M4 => ifB b (we ρ4 M4 (fun u _ M5 => match u with
      | .fr d' => acc.length < sizeLine ∧ trM M1.length (Iv (k + 1) (acc ++ [d'])) M5
      | _ => False) RF) (trM M1.length (Iv (k + 1) acc) M4)) RF) ∧
  ∀ acc M2, Iv it.n acc M2 → P (.lst acc) ρ1 M2) R
section
variable {X : Cx} {Wx : WX}
structure GTs (X : Cx) (Wx : WX) (ifs : List Expr) (W : DT) : Prop where
  pts : PTs X ifs (cT X.K Wx W)
theorem gts_nil : GTs X Wx [] dYes := ⟨⟨fun pins s σ H Q I ⟨G, F, as, ρ, M, P, R, o, w, k, kx⟩ => pts_nil.run pins s σ H Q I (k _ _ _ _ _ _ w (Ex.refl _) (List.prefix_refl _) o)⟩⟩
theorem gts_one {c : Expr} {w : DT} (h : GT X Wx c w) : GTs X Wx [c] w := ⟨pts_one h.pt⟩
theorem KXF {K : PySem.W.Frag} {F : Hp} {as : List Addr} {Wx : WX} : KX K G F as RF Wx := fun _ _ _ _ _ _ _ _ _ h => h.elim
theorem lc_core3 {tmp js : List Nat} {wi : DI} {g : DG} {wt : DT} {we : DE} (hjs : ∀ j ∈ js, j ∈ tmp) (σ : L2.St) (H : Hp) (Q : VK) (h : cN X.K Wx (dLc tmp wi g wt we) σ H Q) : tLc (cI X.K Wx wi) (cG X.K js g) (cT X.K WF wt) (cE X.K WF we) tmp σ H Q := by
  obtain ⟨G, F, as, ρ, M, P, R, o, w, k, kx⟩ := h
  unfold dLc at w
  refine ⟨G, F, as, ρ, M, _, R, o, w, fun it ρ1 M1 F1 as1 H1 J w1 x1 p1 o1 ir => fun L hL => ?_, kx⟩
  obtain ⟨Iv, h0, hs, hd⟩ := w1
  have k1 := k.up x1 p1
  have hGL : G L = none := o1.m.gx.none hL
  refine ⟨fun i m H => m = it.n - i ∧ i ≤ it.n ∧ ∃ F2 M2 vs acc, Ex F1 F2 ∧ OkM X.K G F2 as1 H M2 ∧ F2 L = none ∧ (∀ (h : Nat) (mo' : MO), M2[h]? = some (some mo') → as1[h]? ≠ some L) ∧ H L = some (.lst vs) ∧ DRs X.K F2 vs acc ∧ Iv i acc M2,
    ⟨it.n, by simp, Nat.zero_le _, F1, M1, [], [], Ex.refl _, o1.m.grown hL, o1.m.ex.none hL, fresh_ne o1.m hL, upd_same, .nil, h0⟩, ?_⟩
  rintro i m H2 ⟨rfl, hi, F2, M2, vs, acc, x2, o2, hF2, hn2, hH2, dr, hI⟩
  by_cases hlt : i < it.n
  · refine .inr ⟨ir.go i H2 (x2.trans o2.ex) hlt, fun H' => ∃ F2 M2 vs acc, Ex F1 F2 ∧ OkM X.K G F2 as1 H' M2 ∧ F2 L = none ∧ (∀ (h : Nat) (mo' : MO), M2[h]? = some (some mo') → as1[h]? ≠ some L) ∧ H' L = some (.lst vs) ∧ DRs X.K F2 vs acc ∧ Iv (i + 1) acc M2,
      fun H' h => ⟨it.n - (i + 1), by omega, rfl, hlt, h⟩, fun x H3 hy => ?_⟩
    obtain ⟨F3, d, x3, om, dx, yd⟩ := ir.yld (upd G L (.lst vs)) F2 as1 M2 i H2 x H3 (o2.guard hF2 hH2 hn2) x2 hlt hy
    have os : Ok X.K (upd G L (.lst vs)) F3 as1 H3 (L2.wipe σ tmp) M2 (forget tmp ρ1) := by
      refine ⟨om, ?_, ?_⟩
      · rw [forget_len, wipe_length]; exact o1.slen
      · intro j u e
        obtain ⟨h1, h2⟩ := forget_some e
        obtain ⟨v, h3, h4⟩ := o1.slot j u h1
        exact ⟨v, by rw [wipe_out h2]; exact h3, h4.mono (x2.trans x3) (List.prefix_refl _)⟩
    -- behind a turn: from a state of the block
    have back : ∀ {F5 : Hp} {as5 : List Addr} {H5 : Hp} {M5 : Mem}, Ex F3 F5 → as1 <+: as5 → OkM X.K (upd G L (.lst vs)) F5 as5 H5 M5 → clM M1.length (M5.take M1.length) = true →
        H5 L = some (.lst vs) ∧ F5 L = none ∧ OkM X.K G F5 as1 H5 (M5.take M1.length) ∧ (∀ (h : Nat) (mo' : MO), (M5.take M1.length)[h]? = some (some mo') → as1[h]? ≠ some L) := fun {F5 as5 H5 M5} x5 p5 o5 hc => by
      have oc := o5.cut hc
      rw [o1.m.len, pre_take p5] at oc
      rw [← o1.m.len] at oc
      refine ⟨o5.gx L _ upd_same, o5.gf L _ upd_same, oc.unguard hGL, fun h mo' e z => ?_⟩
      obtain ⟨b, ho', e1, e2, e3, e4⟩ := oc.cell h mo' e
      rw [z] at e1; cases e1
      rw [upd_same] at e2; cases e2.2
    refine ⟨_, F3, as1, _, M2, .fr d, _, os, dx, hs i d acc M2 hlt yd hI, fun ρ4 σ4 h4 o4 hw => ⟨by rw [hw tmp hjs, wipe_id], ?_⟩⟩
    refine ⟨_, F3, as1, ρ4, M2, _, RF, o4, h4, fun b ρ5 M5 F5 as5 H5 h5 x5 p5 o5 => ?_, KXF⟩
    cases b with
    | false =>
      obtain ⟨c1, c2⟩ := h5.2 rfl
      obtain ⟨b1, b2, b3, b4⟩ := back x5 p5 o5.m c1
      exact ⟨F5, _, vs, acc, (x2.trans x3).trans x5, b3, b2, b4, b1, DRs.mono (x3.trans x5) _ _ dr, c2⟩
    | true =>
      refine ⟨_, F5, as5, ρ5, M5, _, RF, o5, h5.1 rfl, fun u ρ6 M6 F6 as6 H6 y h6 x6 p6 o6 r6 => ?_, KXF⟩
      match u, h6 with
      | .fr d', h6 =>
        obtain ⟨c0, c1, c2⟩ := h6
        obtain ⟨b1, b2, b3, b4⟩ := back (x5.trans x6) (p5.trans p6) o6.m c1
        refine ⟨vs, b1, by rw [dr.length]; exact c0, F6, _, vs ++ [y], acc ++ [d'], ((x2.trans x3).trans x5).trans x6, b3.other b2 hGL b4, b2, b4, upd_same, ?_, c2⟩
        exact (DRs.mono ((x3.trans x5).trans x6) _ _ dr).append (.cons r6 .nil)
  · have e : i = it.n := by omega
    subst e
    exact .inl ⟨ir.stop _ H2 (x2.trans o2.ex) (Nat.le_refl _), k1 (.lst acc) ρ1 M2 F2 as1 H2 L _ (hd _ _ hI) x2 (List.prefix_refl _) (o1.of o2 x2 (List.prefix_refl _)) hF2 hGL hH2 hn2 ⟨vs, rfl, dr⟩⟩
theorem gn_lc {elt tg iter : Expr} {ifs : List Expr} {scope : Scope} {own : List (Str × Nat)} {pos : Pos} {wi : DI} {js : List Nat} {g : DG} {wt : DT} {we : DE} (hc : X.calm = true) (hN : X.N.Nodup) (hi : GI X Wx tg iter wi) (ok : BlkOk X.N X.env.scope scope own)
    (hg : ∀ (s : Shared) (H : Hp) (C : Addr) (cl : List (Str × Addr)) (fp : List Addr), GG (X.blk s H scope (compEnvC scope cl C X.env) fp) tg js g)
    (ht : ∀ (s : Shared) (H : Hp) (C : Addr) (cl : List (Str × Addr)) (fp : List Addr), GTs (X.blk s H scope (compEnvC scope cl C X.env) fp) WF ifs wt)
    (he : ∀ (s : Shared) (H : Hp) (C : Addr) (cl : List (Str × Addr)) (fp : List Addr), GE (X.blk s H scope (compEnvC scope cl C X.env) fp) WF elt we)
    (hjs : ∀ j ∈ js, j ∈ own.map (·.2) := by decide) (hs : ∀ x, foldedSetIterable iter X.env x = pure x := by intro _; rfl) : GN X Wx (.ListComp elt [⟨tg, iter, ifs, 0⟩] scope pos) (dLc (own.map (·.2)) wi g wt we) :=
  ⟨PE.imp (pe_lc hc hN hi.pi ok (fun s H C cl fp => (hg s H C cl fp).pg) (fun s H C cl fp => (ht s H C cl fp).pts) (fun s H C cl fp => (he s H C cl fp).pe) hs) (lc_core3 hjs)⟩
/-- y = [..] -/
def dSetN (w : DN) (keep : Bool) (i : Nat) : DS := fun ρ M P => w ρ M (fun mo ρ1 M1 => if keep = true then P.nx (ρ1.set i (some (.mt M1.length))) (M1 ++ [some mo]) else match mo.toD with
  | some d => P.nx (ρ1.set i (some (.fr d))) M1
  | none => False) P.ex
theorem setN_core {w : DN} {keep : Bool} {i : Nat} (D : Ends) (σ : L2.St) (H : Hp) (h : cS X.K Wx (dSetN w keep i) D σ H) : tAsg (cN X.K Wx w) (gName i) D σ H := by
  obtain ⟨G, F, as, ρ, M, P, o, w, k⟩ := h
  refine ⟨G, F, as, ρ, M, _, P.ex, o, w, fun mo ρ1 M1 F1 as1 H1 a ho w1 x1 p1 o1 hF hG hH hn hr => ?_, k.ex⟩
  cases keep with
  | true =>
    have w2 : P.nx (ρ1.set i (some (.mt M1.length))) (M1 ++ [some mo]) := by simpa using w1
    have pr : as1 <+: as1 ++ [a] := List.prefix_append _ _
    exact k.nx _ _ F1 (as1 ++ [a]) H1 _ w2 x1 (p1.trans pr) ((o1.of (o1.m.push hF hG hH hr hn) (Ex.refl _) pr).set i ⟨a, by rw [o1.m.len]; simp, rfl⟩)
  | false =>
    have w2 : (match mo.toD with
      | some d => P.nx (ρ1.set i (some (.fr d))) M1
      | none => False) := by simpa using w1
    cases qd : mo.toD with
    | none => simp only [qd] at w2
    | some d =>
      simp only [qd] at w2
      have x2 : Ex F1 (upd F1 a ho) := Ex.new hF
      have dr : DR X.K (upd F1 a ho) (.ref a) d := MO.toD_ok qd (hr.mono x2 (List.prefix_refl _)) upd_same
      refine k.nx _ _ (upd F1 a ho) as1 H1 _ w2 (x1.trans x2) p1 (Ok.set (o1.of ⟨fun b u q => ?_, o1.m.gx, fun b u q => ?_, o1.m.len, fun j mk ek => ?_, o1.m.inj⟩ x2 (List.prefix_refl _)) i dr)
      · by_cases hb : b = a
        · subst hb; rw [upd_same] at q; cases q; exact hH
        · rw [upd_ne hb] at q; exact o1.m.ex b u q
      · rw [upd_ne (ne_of_none q hG)]; exact o1.m.gf b u q
      · obtain ⟨b, hb, e1, e2, e3, e4⟩ := o1.m.cell j mk ek
        have nb : b ≠ a := fun z => hn j mk ek (z ▸ e1)
        exact ⟨b, hb, e1, ⟨by rw [upd_ne nb]; exact e2.1, e2.2⟩, e3, e4.mono x2 (List.prefix_refl _)⟩
theorem gs_setLc (keep : Bool) (i : Nat) {y : Str} {py : Pos} {elt tg iter : Expr} {ifs : List Expr} {scope : Scope} {own : List (Str × Nat)} {pos spos : Pos} {wi : DI} {js : List Nat} {g : DG} {wt : DT} {we : DE} (hc : X.calm = true) (hN : X.N.Nodup)
    (hsw : swapsWith (.ListComp elt [⟨tg, iter, ifs, 0⟩] scope pos) (some (.Name y py)) spos.line X.env = pure true) (hi : GI X Wx tg iter wi) (ok : BlkOk X.N X.env.scope scope own)
    (hg : ∀ (s : Shared) (H : Hp) (C : Addr) (cl : List (Str × Addr)) (fp : List Addr), GG (X.blk s H scope (compEnvC scope cl C X.env) fp) tg js g)
    (ht : ∀ (s : Shared) (H : Hp) (C : Addr) (cl : List (Str × Addr)) (fp : List Addr), GTs (X.blk s H scope (compEnvC scope cl C X.env) fp) WF ifs wt)
    (he : ∀ (s : Shared) (H : Hp) (C : Addr) (cl : List (Str × Addr)) (fp : List Addr), GE (X.blk s H scope (compEnvC scope cl C X.env) fp) WF elt we)
    (hy : X.N[i]? = some y := by rfl) (hyl : X.env.scope.names.lookup y = some .local := by rfl) (hjs : ∀ j ∈ js, j ∈ own.map (·.2) := by decide) (hs : ∀ x, foldedSetIterable iter X.env x = pure x := by intro _; rfl) :
    GS X Wx (.Assign [.Name y py] (.ListComp elt [⟨tg, iter, ifs, 0⟩] scope pos) spos) (dSetN (dLc (own.map (·.2)) wi g wt we) keep i) :=
  ⟨PS.imp (ps_setLc hc hN hy hyl hsw hi.pi ok (fun s H C cl fp => (hg s H C cl fp).pg) (fun s H C cl fp => (ht s H C cl fp).pts) (fun s H C cl fp => (he s H C cl fp).pe) hs) fun D σ H h => by
    obtain ⟨G, F, as, ρ, M, P, o, w, k⟩ := setN_core D σ H h
    exact lc_core3 hjs σ H _ ⟨G, F, as, ρ, M, P, o, w, k⟩⟩
end
end L3
/-! L3J: defs and their calls. -/
namespace L3
open PySem PySem.Spec PyProof.Rows L2
variable {G : Hp}

/-! ### the caller's handles and the callee's -/
def idxN : List Nat → Nat → Option Nat
  | [], _ => none
  | a :: r, h => if a = h then some 0 else (idxN r h).map (· + 1)
theorem idxN_some : ∀ {hs : List Nat} {h i : Nat}, idxN hs h = some i → hs[i]? = some h
  | [], h, i, e => by simp [idxN] at e
  | a :: r, h, i, e => by
    unfold idxN at e
    by_cases ha : a = h
    · rw [if_pos ha] at e; cases e; simp [ha]
    · rw [if_neg ha] at e
      cases q : idxN r h with
      | none => rw [q] at e; cases e
      | some j => rw [q] at e; cases e; simpa using idxN_some q
def U.into (hs : List Nat) : U → Option U
  | .fr d => some (.fr d)
  | .mt h => (idxN hs h).map .mt
def intoL (hs : List Nat) : List U → Option (List U)
  | [] => some []
  | u :: us => match u.into hs, intoL hs us with
    | some x, some xs => some (x :: xs)
    | _, _ => none
def intoF (hs : List Nat) : List (Str × U) → Option (List (Str × U))
  | [] => some []
  | (f, u) :: us => match u.into hs, intoF hs us with
    | some x, some xs => some ((f, x) :: xs)
    | _, _ => none
def MO.into (hs : List Nat) : MO → Option MO
  | .nst us => (intoL hs us).map .nst
  | .ins C fs => (intoF hs fs).map (.ins C)
  | mo => some mo
def memIn (all : List Nat) (M : Mem) : List Nat → Option Mem
  | [] => some []
  | h :: r => match M[h]? with
    | some (some mo) => match mo.into all, memIn all M r with
      | some x, some xs => some (some x :: xs)
      | _, _ => none
    | _ => none
def outN (hs : List Nat) (n i : Nat) : Nat := match hs[i]? with
  | some h => h
  | none => n + (i - hs.length)
def U.out (hs : List Nat) (n : Nat) : U → U
  | .fr d => .fr d
  | .mt i => .mt (outN hs n i)
def MO.out (hs : List Nat) (n : Nat) : MO → MO
  | .nst us => .nst (us.map (U.out hs n))
  | .ins C fs => .ins C (fs.map fun p => (p.1, p.2.out hs n))
  | mo => mo
def outO (hs : List Nat) (n : Nat) : Option MO → Option MO
  | some mo => some (mo.out hs n)
  | none => none
def setAll : List Nat → Mem → Mem → Mem
  | h :: r, x :: xs, M => setAll r xs (M.set h x)
  | _, _, M => M
def memOut (hs : List Nat) (M mc : Mem) : Mem := setAll hs ((mc.take hs.length).map (outO hs M.length)) M ++ (mc.drop hs.length).map (outO hs M.length)
theorem setAll_len : ∀ (hs : List Nat) (xs M : Mem), (setAll hs xs M).length = M.length
  | [], _, _ => by simp [setAll]
  | _ :: _, [], _ => by simp [setAll]
  | h :: r, x :: xs, M => by rw [setAll, setAll_len r xs]; simp
theorem setAll_out : ∀ {hs : List Nat} {xs M : Mem} {h : Nat}, h ∉ hs → (setAll hs xs M)[h]? = M[h]?
  | [], _, _, _, _ => by simp [setAll]
  | _ :: _, [], _, _, _ => by simp [setAll]
  | a :: r, x :: xs, M, h, hn => by
    simp only [List.mem_cons, not_or] at hn
    rw [setAll, setAll_out hn.2, List.getElem?_set_ne (fun z => hn.1 z.symm)]
theorem setAll_in : ∀ {hs : List Nat} {xs M : Mem} {h i : Nat} {x : Option MO}, hs.Nodup → hs[i]? = some h → xs[i]? = some x → h < M.length → (setAll hs xs M)[h]? = some x
  | [], _, _, _, _, _, _, e, _, _ => by simp at e
  | _ :: _, [], _, _, _, _, _, _, e, _ => by simp at e
  | a :: r, y :: xs, M, h, 0, x, nd, e1, e2, hl => by
    simp at e1 e2
    subst e1 e2
    rw [List.nodup_cons] at nd
    rw [setAll, setAll_out nd.1, List.getElem?_set_self hl]
  | a :: r, y :: xs, M, h, i + 1, x, nd, e1, e2, hl => by
    simp at e1 e2
    rw [List.nodup_cons] at nd
    rw [setAll]
    exact setAll_in nd.2 e1 e2 (by simpa using hl)
section
variable {K : PySem.W.Frag} {F H : Hp} {as bs : List Addr} {M : Mem}
/-- bs[i] is as[hs[i]] -/
theorem into_ok {hs : List Nat} (hb : ∀ (i h : Nat), hs[i]? = some h → ∀ a, as[h]? = some a → bs[i]? = some a) {v : V} {u u' : U} (r : UR K F as v u) (e : u.into hs = some u') : UR K F bs v u' := by
  cases u with
  | fr d => cases e; exact r
  | mt h =>
    obtain ⟨a, ea, q⟩ := r
    simp only [U.into, Option.map_eq_some_iff] at e
    obtain ⟨i, e1, rfl⟩ := e
    exact ⟨a, hb i h (idxN_some e1) a ea, q⟩
theorem intoL_ok {hs : List Nat} (hb : ∀ (i h : Nat), hs[i]? = some h → ∀ a, as[h]? = some a → bs[i]? = some a) : ∀ {vs : List V} {us us' : List U}, URs K F as vs us → intoL hs us = some us' → URs K F bs vs us'
  | _, [], _, .nil, e => by cases e; exact .nil
  | _, u :: us, us', .cons h t, e => by
    simp only [intoL] at e
    cases q1 : u.into hs with
    | none => simp [q1] at e
    | some x =>
      cases q2 : intoL hs us with
      | none => simp [q1, q2] at e
      | some xs => simp [q1, q2] at e; subst e; exact .cons (into_ok hb h q1) (intoL_ok hb t q2)
theorem intoF_ok {hs : List Nat} (hb : ∀ (i h : Nat), hs[i]? = some h → ∀ a, as[h]? = some a → bs[i]? = some a) : ∀ {vs : List (Str × V)} {us us' : List (Str × U)}, URf K F as vs us → intoF hs us = some us' → URf K F bs vs us'
  | _, [], _, .nil, e => by cases e; exact .nil
  | _, (f, u) :: us, us', .cons h t, e => by
    simp only [intoF] at e
    cases q1 : u.into hs with
    | none => simp [q1] at e
    | some x =>
      cases q2 : intoF hs us with
      | none => simp [q1, q2] at e
      | some xs => simp [q1, q2] at e; subst e; exact .cons (into_ok hb h q1) (intoF_ok hb t q2)
theorem MO.into_ok {hs : List Nat} (hb : ∀ (i h : Nat), hs[i]? = some h → ∀ a, as[h]? = some a → bs[i]? = some a) {mo mo' : MO} {ho : HO} (r : MR K F as mo ho) (e : mo.into hs = some mo') : MR K F bs mo' ho := by
  cases mo with
  | lst ds => cases e; exact r
  | dK ds => cases e; exact r
  | dT ds => cases e; exact r
  | nst us =>
    simp only [MO.into, Option.map_eq_some_iff] at e
    obtain ⟨us', e1, rfl⟩ := e
    obtain ⟨vs, rfl, q⟩ := r
    exact ⟨vs, rfl, intoL_ok hb q e1⟩
  | ins C fs =>
    simp only [MO.into, Option.map_eq_some_iff] at e
    obtain ⟨us', e1, rfl⟩ := e
    obtain ⟨dx, vs, rfl, q⟩ := r
    exact ⟨dx, vs, rfl, intoF_ok hb q e1⟩
theorem out_ok {hs : List Nat} {n : Nat} (hb : ∀ (i : Nat) a, bs[i]? = some a → as[outN hs n i]? = some a) {v : V} {u : U} (r : UR K F bs v u) : UR K F as v (u.out hs n) := by
  cases u with
  | fr d => exact r
  | mt i => obtain ⟨a, ea, q⟩ := r; exact ⟨a, hb i a ea, q⟩
theorem outs_ok {hs : List Nat} {n : Nat} (hb : ∀ (i : Nat) a, bs[i]? = some a → as[outN hs n i]? = some a) : ∀ {vs : List V} {us : List U}, URs K F bs vs us → URs K F as vs (us.map (U.out hs n))
  | _, _, .nil => .nil
  | _, _, .cons h t => .cons (out_ok hb h) (outs_ok hb t)
theorem outf_ok {hs : List Nat} {n : Nat} (hb : ∀ (i : Nat) a, bs[i]? = some a → as[outN hs n i]? = some a) : ∀ {vs : List (Str × V)} {us : List (Str × U)}, URf K F bs vs us → URf K F as vs (us.map fun p => (p.1, p.2.out hs n))
  | _, _, .nil => .nil
  | _, _, .cons h t => .cons (out_ok hb h) (outf_ok hb t)
theorem MO.out_ok {hs : List Nat} {n : Nat} (hb : ∀ (i : Nat) a, bs[i]? = some a → as[outN hs n i]? = some a) {mo : MO} {ho : HO} (r : MR K F bs mo ho) : MR K F as (mo.out hs n) ho := by
  cases mo with
  | lst ds => exact r
  | dK ds => exact r
  | dT ds => exact r
  | nst us => obtain ⟨vs, rfl, q⟩ := r; exact ⟨vs, rfl, outs_ok hb q⟩
  | ins C fs => obtain ⟨dx, vs, rfl, q⟩ := r; exact ⟨dx, vs, rfl, outf_ok hb q⟩
theorem memIn_len {all : List Nat} : ∀ {hs : List Nat} {mc : Mem}, memIn all M hs = some mc → mc.length = hs.length
  | [], _, e => by cases e; rfl
  | h :: r, mc, e => by
    simp only [memIn] at e
    split at e
    · split at e
      · cases e; rename_i q; simp [memIn_len q]
      · cases e
    · cases e
theorem memIn_get {all : List Nat} : ∀ {hs : List Nat} {mc : Mem} {i h : Nat}, memIn all M hs = some mc → hs[i]? = some h → ∃ mo mo', M[h]? = some (some mo) ∧ mo.into all = some mo' ∧ mc[i]? = some (some mo')
  | [], _, _, _, _, e => by simp at e
  | a :: r, mc, i, h, e, ei => by
    simp only [memIn] at e
    split at e
    · rename_i mo q0
      split at e
      · rename_i x xs q1 q2
        cases e
        cases i with
        | zero => simp at ei; subst ei; exact ⟨mo, x, q0, q1, rfl⟩
        | succ i => simp at ei; simpa using memIn_get q2 ei
      · cases e
    · cases e
/-- the addresses of the passed objects -/
def pick (as : List Addr) (hs : List Nat) : List Addr := hs.map fun h => as.getD h 0
theorem pick_get {hs : List Nat} {i h : Nat} (e : hs[i]? = some h) {a : Addr} (ea : as[h]? = some a) : (pick as hs)[i]? = some a := by
  unfold pick
  rw [List.getElem?_map, e]
  simp [List.getD, ea]
/-- what the callee must leave alone: the caller's other objects -/
noncomputable def frame (G H : Hp) (as : List Addr) (M : Mem) (hs : List Nat) : Hp := fun a =>
  open Classical in if ∃ (h : Nat) (mo : MO), M[h]? = some (some mo) ∧ as[h]? = some a ∧ h ∉ hs then H a else G a
theorem frame_in {hs : List Nat} {a : Addr} (h : ∃ (h : Nat) (mo : MO), M[h]? = some (some mo) ∧ as[h]? = some a ∧ h ∉ hs) : frame G H as M hs a = H a := by unfold frame; rw [if_pos h]
theorem frame_out {hs : List Nat} {a : Addr} (h : ¬ ∃ (h : Nat) (mo : MO), M[h]? = some (some mo) ∧ as[h]? = some a ∧ h ∉ hs) : frame G H as M hs a = G a := by unfold frame; rw [if_neg h]
theorem OkM.enter (o : OkM K G F as H M) {hs : List Nat} {mc : Mem} (nd : hs.Nodup) (e : memIn hs M hs = some mc) : OkM K (frame G H as M hs) F (pick as hs) H mc where
  ex := o.ex
  gx := fun a u q => by
    by_cases c : ∃ (h : Nat) (mo : MO), M[h]? = some (some mo) ∧ as[h]? = some a ∧ h ∉ hs
    · rw [frame_in c] at q; exact q
    · rw [frame_out c] at q; exact o.gx a u q
  gf := fun a u q => by
    by_cases c : ∃ (h : Nat) (mo : MO), M[h]? = some (some mo) ∧ as[h]? = some a ∧ h ∉ hs
    · obtain ⟨h, mo, e1, e2, _⟩ := c
      exact (o.here e1 e2).choose_spec.1.1
    · rw [frame_out c] at q; exact o.gf a u q
  len := by rw [memIn_len e]; simp [pick]
  cell := fun i mo' ei => by
    have hi : i < hs.length := by rw [← memIn_len e]; exact (List.getElem?_eq_some_iff.mp ei).1
    obtain ⟨mo, mo2, e1, e2, e3⟩ := memIn_get e (List.getElem?_eq_getElem hi)
    rw [ei] at e3
    cases e3
    obtain ⟨a, ho, a1, a2, a3, a4⟩ := o.cell _ mo e1
    refine ⟨a, ho, pick_get (List.getElem?_eq_getElem hi) a1, ⟨a2.1, ?_⟩, a3, MO.into_ok (fun j h ej b eb => pick_get ej eb) a4 e2⟩
    rw [frame_out]
    · exact a2.2
    · rintro ⟨h, mo3, c1, c2, c3⟩
      have := o.inj h _ _ _ a c1 e1 c2 a1
      exact c3 (by rw [this]; exact List.getElem_mem hi)
  inj := fun i j mo1 mo2 a e1 e2 a1 a2 => by
    have hi : i < hs.length := by rw [← memIn_len e]; exact (List.getElem?_eq_some_iff.mp e1).1
    have hj : j < hs.length := by rw [← memIn_len e]; exact (List.getElem?_eq_some_iff.mp e2).1
    obtain ⟨m1, _, f1, _, _⟩ := memIn_get e (List.getElem?_eq_getElem hi)
    obtain ⟨m2, _, f2, _, _⟩ := memIn_get e (List.getElem?_eq_getElem hj)
    obtain ⟨b1, _, g1, _⟩ := o.cell _ m1 f1
    obtain ⟨b2, _, g2, _⟩ := o.cell _ m2 f2
    rw [pick_get (List.getElem?_eq_getElem hi) g1] at a1
    rw [pick_get (List.getElem?_eq_getElem hj) g2] at a2
    cases a1; cases a2
    exact (List.getElem_inj nd).mp (o.inj _ _ _ _ _ f1 f2 g1 g2)
theorem drop_get {α : Type} {l : List α} {n i : Nat} (h : n ≤ i) : (l.drop n)[i - n]? = l[i]? := by
  rw [List.getElem?_drop]; congr 1; omega
/-- behind the call -/
theorem OkM.leave (o : OkM K G F as H M) {hs : List Nat} {mc mc' : Mem} (nd : hs.Nodup) (e : memIn hs M hs = some mc) {F' H' : Hp} {bs : List Addr} (x : Ex F F') (p : pick as hs <+: bs) (o' : OkM K (frame G H as M hs) F' bs H' mc') (hl : hs.length ≤ mc'.length) :
    OkM K G F' (as ++ bs.drop hs.length) H' (memOut hs M mc') ∧ ∀ (i : Nat) a, bs[i]? = some a → (as ++ bs.drop hs.length)[outN hs M.length i]? = some a := by
  have pk : (pick as hs).length = hs.length := by simp [pick]
  -- the callee's i-th object at the caller's place
  have adr : ∀ (i : Nat) a, bs[i]? = some a → (as ++ bs.drop hs.length)[outN hs M.length i]? = some a := fun i a ea => by
    unfold outN
    by_cases hi : i < hs.length
    · rw [List.getElem?_eq_getElem hi]
      obtain ⟨mo, _, e1, _, _⟩ := memIn_get e (List.getElem?_eq_getElem hi)
      obtain ⟨b, _, b1, _⟩ := o.cell _ mo e1
      have q := pre_get p (pick_get (List.getElem?_eq_getElem hi) b1)
      rw [ea] at q; cases q
      exact pre_get (List.prefix_append _ _) b1
    · rw [show hs[i]? = none from List.getElem?_eq_none (by omega)]
      show (as ++ bs.drop hs.length)[M.length + (i - hs.length)]? = some a
      rw [List.getElem?_append_right (by rw [o.len]; omega), show M.length + (i - hs.length) - as.length = i - hs.length by rw [o.len]; omega, drop_get (by omega)]
      exact ea
  -- what stands at h
  have look : ∀ (h : Nat) (mo : MO), (memOut hs M mc')[h]? = some (some mo) → (M[h]? = some (some mo) ∧ h ∉ hs) ∨ ∃ i mo', mc'[i]? = some (some mo') ∧ mo = mo'.out hs M.length ∧ outN hs M.length i = h := fun h mo eh => by
    unfold memOut at eh
    by_cases hh : h < M.length
    · rw [List.getElem?_append_left (by rw [setAll_len]; exact hh)] at eh
      by_cases hm : h ∈ hs
      · obtain ⟨i, hi⟩ := List.mem_iff_getElem?.mp hm
        have hil := (List.getElem?_eq_some_iff.mp hi).1
        have hic : i < mc'.length := by omega
        have ex1 : ((mc'.take hs.length).map (outO hs M.length))[i]? = some (outO hs M.length mc'[i]) := by
          rw [List.getElem?_map, List.getElem?_take_of_lt hil, List.getElem?_eq_getElem hic]; rfl
        rw [setAll_in nd hi ex1 hh] at eh
        right
        cases q : mc'[i] with
        | none => rw [q] at eh; cases eh
        | some mo' =>
          rw [q] at eh
          cases eh
          exact ⟨i, mo', by rw [List.getElem?_eq_getElem hic, q], rfl, by unfold outN; rw [hi]⟩
      · rw [setAll_out hm] at eh
        exact .inl ⟨eh, hm⟩
    · rw [List.getElem?_append_right (by rw [setAll_len]; omega), setAll_len, List.getElem?_map] at eh
      right
      cases q : (mc'.drop hs.length)[h - M.length]? with
      | none => rw [q] at eh; cases eh
      | some z =>
        rw [q] at eh
        cases z with
        | none => cases eh
        | some mo' =>
          cases eh
          rw [List.getElem?_drop] at q
          refine ⟨hs.length + (h - M.length), mo', q, rfl, ?_⟩
          unfold outN
          rw [show hs[hs.length + (h - M.length)]? = none from List.getElem?_eq_none (by omega)]
          show M.length + (hs.length + (h - M.length) - hs.length) = h
          omega
  have live : ∀ {h : Nat} {mo : MO} {a : Addr}, M[h]? = some (some mo) → as[h]? = some a → h ∉ hs → frame G H as M hs a = H a := fun {h mo a} e1 e2 e3 => frame_in ⟨h, mo, e1, e2, e3⟩
  refine ⟨⟨o'.ex, fun a u q => ?_, fun a u q => ?_, ?_, fun h mo eh => ?_, fun h h' mo mo' a e1 e2 a1 a2 => ?_⟩, adr⟩
  · refine o'.gx a u ?_
    rw [frame_out]
    · exact q
    · rintro ⟨h, mo, c1, c2, c3⟩
      have z := (o.here c1 c2).choose_spec.1.2
      rw [q] at z; cases z
  · refine o'.gf a u ?_
    rw [frame_out]
    · exact q
    · rintro ⟨h, mo, c1, c2, c3⟩
      have z := (o.here c1 c2).choose_spec.1.2
      rw [q] at z; cases z
  · unfold memOut
    have := o'.len
    have := o.len
    simp only [List.length_append, setAll_len, List.length_map, List.length_drop]
    omega
  · rcases look h mo eh with ⟨e1, e2⟩ | ⟨i, mo', e1, rfl, e3⟩
    · obtain ⟨a, ho, a1, a2, a3, a4⟩ := o.cell h mo e1
      have hf := live e1 a1 e2
      refine ⟨a, ho, pre_get (List.prefix_append _ _) a1, ⟨?_, a2.2⟩, ?_, a4.mono x (List.prefix_append _ _)⟩
      · exact o'.gf a ho (by rw [hf]; exact a3)
      · exact o'.gx a ho (by rw [hf]; exact a3)
    · obtain ⟨a, ho, a1, a2, a3, a4⟩ := o'.cell i mo' e1
      refine ⟨a, ho, by rw [← e3]; exact adr i a a1, ⟨a2.1, ?_⟩, a3, MO.out_ok adr a4⟩
      by_cases c : ∃ (h : Nat) (mo : MO), M[h]? = some (some mo) ∧ as[h]? = some a ∧ h ∉ hs
      · obtain ⟨h2, mo2, c1, c2, c3⟩ := c
        exact (o.here c1 c2).choose_spec.1.2
      · rw [← frame_out (G := G) (H := H) c]; exact a2.2
  · have alen : ∀ {h : Nat} {mo : MO}, M[h]? = some (some mo) → ∀ {a : Addr}, (as ++ bs.drop hs.length)[h]? = some a → as[h]? = some a := fun {h mo} q {a} z => by
      have hh := (List.getElem?_eq_some_iff.mp q).1
      rw [List.getElem?_append_left (by rw [← o.len]; exact hh)] at z
      exact z
    have badr : ∀ {i : Nat} {mo' : MO}, mc'[i]? = some (some mo') → ∀ {a : Addr}, (as ++ bs.drop hs.length)[outN hs M.length i]? = some a → bs[i]? = some a := fun {i mo'} q {a} z => by
      obtain ⟨b, _, b1, _⟩ := o'.cell i mo' q
      rw [adr i b b1] at z; cases z
      exact b1
    have mix : ∀ {h i : Nat} {mo mo' : MO} {a : Addr}, M[h]? = some (some mo) → h ∉ hs → as[h]? = some a → mc'[i]? = some (some mo') → bs[i]? = some a → False := fun {h i mo mo' a} q1 q2 q3 q4 q5 => by
      obtain ⟨ho, z, _⟩ := o'.here q4 q5
      obtain ⟨_, _, w1, _, w3, _⟩ := o.cell h mo q1
      rw [q3] at w1; cases w1
      rw [live q1 q3 q2, w3] at z
      cases z.2
    rcases look h mo e1 with ⟨q1, q2⟩ | ⟨i, m1, q1, _, q3⟩ <;> rcases look h' mo' e2 with ⟨r1, r2⟩ | ⟨j, m2, r1, _, r3⟩
    · exact o.inj h h' _ _ a q1 r1 (alen q1 a1) (alen r1 a2)
    · rw [← r3] at a2
      exact (mix q1 q2 (alen q1 a1) r1 (badr r1 a2)).elim
    · rw [← q3] at a1
      exact (mix r1 r2 (alen r1 a2) q1 (badr q1 a1)).elim
    · rw [← q3] at a1
      rw [← r3] at a2
      have := o'.inj i j _ _ a q1 r1 (badr q1 a1) (badr r1 a2)
      rw [← q3, ← r3, this]
end
end L3
/-! L3K: defs, calls, instances, exceptions. -/
namespace L3
open PySem PySem.Spec PyProof.Rows L2
variable {G : Hp}

abbrev DX := Addr → List (Str × D) → Mem → Prop
abbrev DSp := List U → Mem → (U → Mem → Prop) → DX → Prop
def KXd (K : PySem.W.Frag) (G F : Hp) (as : List Addr) (R : DX) (E : XK) : Prop :=
  ∀ (C : Addr) (fs : List (Str × D)) (M' : Mem) (F' : Hp) (as' : List Addr) (H' : Hp) (d : Option Addr), R C fs M' → Ex F F' → as <+: as' → OkM K G F' as' H' M' → XR K F' H' d fs → E (.ref C) d H'
/-- a def's promise by data -/
def spOf (K : PySem.W.Frag) (W : DSp) : Sp := fun vs H Q E => ∃ (G F : Hp) (as : List Addr) (args : List U) (M : Mem) (P : U → Mem → Prop) (R : DX), OkM K G F as H M ∧ URs K F as vs args ∧ W args M P R ∧ KR K G F as P Q ∧ KXd K G F as R E
/-- what a def hands back: its caller's objects, and a fresh one -/
def fin (k : Nat) (P : U → Mem → Prop) : U → Mem → Prop := fun u M => clM k (M.take k) = true ∧ match u with
  | .fr d => P (.fr d) (M.take k)
  | .mt h => if h < k then P (.mt h) (M.take k) else match M[h]? with
    | some (some mo) => cl k mo = true ∧ P (.mt k) (M.take k ++ [some mo])
    | _ => False
def finX (k : Nat) (R : DX) : RX := fun C fs _ M => clM k (M.take k) = true ∧ R C fs (M.take k)
def start3 (N : List Str) (args : List U) : Sl := args.map some ++ List.replicate (N.length - args.length) none
theorem start3_get {args : List U} {n i : Nat} {u : U} (e : (args.map some ++ List.replicate n none)[i]? = some (some u)) : args[i]? = some u := by
  by_cases hi : i < args.length
  · rw [List.getElem?_append_left (by simpa using hi), List.getElem?_map] at e
    cases q : args[i]? with
    | none => rw [q] at e; cases e
    | some z => rw [q] at e; cases e; rfl
  · rw [List.getElem?_append_right (by simpa using hi)] at e
    obtain ⟨h1, h2⟩ := List.getElem?_eq_some_iff.mp e
    simp at h2
theorem start_get {vs : List V} {n i : Nat} {v : V} (e : vs[i]? = some v) : (vs.map some ++ List.replicate n none)[i]? = some (some v) := by
  have hi := (List.getElem?_eq_some_iff.mp e).1
  rw [List.getElem?_append_left (by simpa using hi), List.getElem?_map, e]; rfl
section
variable {P : Program} {w : World} {K : PySem.W.Frag} {mg : Str → Option Value} {base : Heap}
theorem KR.fin_ok {G F : Hp} {as : List Addr} {Pd : U → Mem → Prop} {Q : VK} {k : Nat} (hk : as.length = k) (kr : KR K G F as Pd Q) : KR K G F as (fin k Pd) Q := fun u M' F' as' H' v hu x p o r => by
  subst hk
  obtain ⟨hc, hu⟩ := hu
  have oc := o.cut hc
  rw [pre_take p] at oc
  match u, hu, r with
  | .fr d, hu, r => exact kr _ _ F' as H' v hu x (List.prefix_refl _) oc r
  | .mt h, hu, r =>
    by_cases hh : h < as.length
    · simp only [if_pos hh] at hu
      obtain ⟨a, ea, rfl⟩ := r
      have ea2 : as[h]? = some a := by rw [← pre_take p, List.getElem?_take_of_lt hh]; exact ea
      exact kr _ _ F' as H' _ hu x (List.prefix_refl _) oc ⟨a, ea2, rfl⟩
    · simp only [if_neg hh] at hu
      cases q : M'[h]? with
      | none => simp [q] at hu
      | some z =>
        cases z with
        | none => simp [q] at hu
        | some mo =>
          simp only [q] at hu
          obtain ⟨a, ea, rfl⟩ := r
          obtain ⟨ho, hF, hH, hr⟩ := o.here q ea
          have hr2 := hr.cut hu.1
          rw [pre_take p] at hr2
          have hn : ∀ (i : Nat) (mo' : MO), (M'.take as.length)[i]? = some (some mo') → as[i]? ≠ some a := fun i mo' ei z => by
            have hi : i < as.length := (List.getElem?_eq_some_iff.mp z).1
            rw [List.getElem?_take_of_lt hi] at ei
            have e3 : as'[i]? = some a := pre_get p z
            have := o.inj i h _ _ a ei q e3 ea
            omega
          have oc2 := oc.push hF.1 hF.2 hH hr2 hn
          exact kr _ _ F' (as ++ [a]) H' _ hu.2 x (List.prefix_append _ _) oc2 ⟨a, by simp, rfl⟩
/-- a def's body by its data -/
theorem fn_ok {x qual : Str} {st : Stmt} {f : Addr} {fd : FuncData} {N ps : List Str} {k : Nat} {W : DSp} {wb : DS} (F : Fun K x qual st f fd) (S : FnScope N ps (defScope st)) (hn : ps.length ≤ N.length) (len : ∀ args M Pd R, W args M Pd R → args.length = ps.length)
    (hb : ∀ (cdv : Value) (A : Around) (outer : List Env) (s : Shared) (H : Hp) (E : XK), Room k (A.deeper (envOfC qual (defScope st) s.heap.objs.size f cdv)) →
      GSs (cxOf (L2.CX P w) P w K mg base N qual (defScope st) f cdv A outer s H E) (fun cls d _ H => E cls d H) (defBody st) wb)
    (hW : ∀ args M Pd R, W args M Pd R → wb (start3 N args) M { nx := fun _ M' => fin M.length Pd (.fr .non) M', rt := fin M.length Pd, ex := finX M.length R }) : FnOk P w K mg base (L2.CX P w) (k + 1) f fd ps (spOf K W) := by
  refine F.okX S (fun vs H Q E h => ?_) (fun cdv A outer s H vs Q E hr h => ⟨_, (hb cdv A outer s H E hr).pss, ?_⟩)
  · obtain ⟨G, F', as, args, M, Pd, R, o, r, hw, _⟩ := h
    rw [r.length]; exact len _ _ _ _ hw
  · obtain ⟨G, F', as, args, M, Pd, R, o, r, hw, kr, kx⟩ := h
    have hl := r.length
    refine ⟨G, F', as, start3 N args, M, _, ⟨o, ?_, fun i u e => ?_⟩, hW _ _ _ _ hw, ⟨fun ρ' M' F1 as1 H1 σ1 h x p o1 => ?_, kr.fin_ok o.len.symm, fun _ _ _ _ _ _ h => h.elim, fun _ _ _ _ _ _ h => h.elim, fun C fs ρ' M' F1 as1 H1 σ1 d h x p o1 xr => ?_⟩⟩
    · unfold start3 L2.start
      simp [hl]
    · unfold start3 at e
      obtain ⟨v, h1, h2⟩ := r.get (start3_get e)
      exact ⟨v, start_get h1, h2⟩
    · exact (kr.fin_ok o.len.symm) (.fr .non) M' F1 as1 H1 .non h x p o1.m .non
    · obtain ⟨h1, h2⟩ := h
      have oc := o1.m.cut h1
      rw [o.len, pre_take p] at oc
      rw [o.len] at h2
      exact kx C fs _ F1 as H1 d h2 x (List.prefix_refl _) oc xr
end
section
variable {X : Cx} {Wx : WX}
/-! ### calls -/
def dCall (hs : List Nat) (W : DSp) (wa : DA) : DE := fun ρ M P R => wa ρ M (fun us ρ1 M1 => match intoL hs us, memIn hs M1 hs with
  | some args, some mc => W args mc (fun u mc' => hs.length ≤ mc'.length ∧ P (u.out hs M1.length) ρ1 (memOut hs M1 mc')) (fun C fs mc' => hs.length ≤ mc'.length ∧ R C fs ρ1 (memOut hs M1 mc'))
  | _, _ => False) R
/-- the promise at a call -/
theorem sp_call {hs : List Nat} {W : DSp} (nd : hs.Nodup) {F : Hp} {as : List Addr} {H : Hp} {σ : L2.St} {M : Mem} {ρ : Sl} {us args : List U} {vs : List V} {mc : Mem} {P : U → Sl → Mem → Prop} {R : RX} {Q : VK} (o : Ok X.K G F as H σ M ρ) (r : URs X.K F as vs us) (e1 : intoL hs us = some args) (e2 : memIn hs M hs = some mc)
    (w : W args mc (fun u mc' => hs.length ≤ mc'.length ∧ P (u.out hs M.length) ρ (memOut hs M mc')) (fun C fs mc' => hs.length ≤ mc'.length ∧ R C fs ρ (memOut hs M mc'))) (k : KE X.K G F as σ P Q) (kx : KX X.K G F as R Wx) : spOf X.K W vs H Q (WE Wx σ) := by
  refine ⟨_, F, pick as hs, args, mc, _, _, o.m.enter nd e2, intoL_ok (fun i h ei a ea => pick_get ei ea) r e1, w, fun u mc' F' bs H' v ⟨hl, hp⟩ x p o' ru => ?_, fun C fs mc' F' bs H' d ⟨hl, hp⟩ x p o' xr => ?_⟩
  · obtain ⟨o2, adr⟩ := o.m.leave nd e2 x p o' hl
    exact k _ _ _ F' _ H' v hp x (List.prefix_append _ _) (o.of o2 x (List.prefix_append _ _)) (out_ok adr ru)
  · obtain ⟨o2, adr⟩ := o.m.leave nd e2 x p o' hl
    exact kx C fs _ _ F' _ H' σ d hp x (List.prefix_append _ _) (o.of o2 x (List.prefix_append _ _)) xr
theorem ge_call (hs : List Nat) {k : Nat} {f : Addr} {fd : FuncData} {ps : List Str} {W : DSp} {x : Str} {p pos : Pos} {e : Expr} {es : List Expr} {wa : DA} (Fo : FnOk X.prog X.w X.K X.mg X.base (L2.CX X.prog X.w) k f fd ps (spOf X.K W)) (hr : Room k X.A) (hm : X.mg x = some (.ref f)) (hk : PySem.W.keepIn X.K (.ref f) = true) (hb : Binds X.K fd ps [])
    (tk : Takes X Wx) (ha : GA X Wx (e :: es) wa) (nd : hs.Nodup := by decide) (hg : Gl X x := by rfl) (hdb : (x == ("__debug__" : Str)) = false := by decide) (he : starEach (e :: es) X.env = (false, eval e X.env) :: starEach es X.env := by rfl) (hpl : (backTo pos (starEach es X.env)).any (·.1) = false := by rfl) :
    GE X Wx (.Call (.Name x p) (e :: es) [] pos) (dCall hs W wa) :=
  ⟨PE.imp (pe_callS Fo hr hg hm hk hb (fun σ => passAt tk σ) ha.pa hdb he hpl) fun σ H Q ⟨G, F, as, ρ, M, P, R, o, w, k, kx⟩ => ⟨G, F, as, ρ, M, _, R, o, w, fun us ρ1 M1 F1 as1 H1 vs w1 x1 p1 o1 r1 => by
    cases q1 : intoL hs us with
    | none => simp [q1] at w1
    | some args =>
      cases q2 : memIn hs M1 hs with
      | none => simp [q1, q2] at w1
      | some mc =>
        simp only [q1, q2] at w1
        exact sp_call nd o1 r1 q1 q2 w1 (k.up x1 p1) (kx.up x1 p1), kx⟩⟩
/-! ### C(..) -/
theorem made_run {CXx : CXT} {k : Nat} {C f : Addr} {fd : FuncData} {ps : List Str} {sp : Sp} {E : XK} {pins : List (Addr × Obj)} {σ : L2.St} {H : Hp} {s : Shared} {Q : VK} {us : List Value} {vs : List V} (M : Mk X.K C f) (Fo : FnOk X.prog X.w X.K X.mg X.base CXx k f fd ps sp) (hr : Room (k + 1) X.A) (hb : Binds X.K fd ps [])
    (hx : PassesAt CXx X σ E) (I : L2.Inv X pins σ H s) (r : Vals vs us) (h : ∀ x dx, H x = none → H dx = none → dx ≠ x → sp (.ref x :: vs) (upd (upd H dx (.own x)) x (.ins C dx [])) (fun v H2 => v = .non ∧ Q (.ref x) H2) E) :
    wpAny (model X.prog X.w) X.A (call (.ref C) us) (EP X pins σ Q) X.xe s := by
  have J := L2.Inv.made (C := C) I
  have hsp := h (s.heap.objs.size + 1) s.heap.objs.size (I.hok.fresh (Nat.le_succ _)) (I.hok.fresh (Nat.le_refl _)) (Nat.ne_of_lt (Nat.lt_succ_self _))
  have rr : Vals (V.ref (s.heap.objs.size + 1) :: vs) (Value.ref (s.heap.objs.size + 1) :: us) := .cons rfl r
  have bb := hb _ (Value.ref (s.heap.objs.size + 1) :: us) J.kIn (by rw [List.append_nil, ← rr.length]; exact Fo.len _ _ _ _ hsp)
  rw [List.append_nil] at bb
  refine wpAny_call (make_map (f := f) I.kIn M.makes M.init (beq_iff_eq.mp M.fn) (codeAny_mono (Fo.run _ X.stack _ _ _ _ _ _ E (hr.make C us []) (J.env0.make C us []) bb rr hsp) fun res s' hq => ?_))
  match res, hq with
  | .error e, hq => exact hx pins _ _ e s' J hq
  | .ok (.ret u), hq =>
    obtain ⟨v, H', I3, rv, rfl, q3⟩ := J.after hq
    exact ⟨rv, V.ref (s.heap.objs.size + 1), H', I3, rfl, q3⟩
  | .ok .next, hq => exact hq.elim
  | .ok .brk, hq => exact hq.elim
  | .ok .cont, hq => exact hq.elim
def tMakeS (C : Addr) (sp : Sp) (E : L2.St → XK) (t : TA) : TE := fun σ H Q => t σ H fun vs H1 => ∀ x dx, H1 x = none → H1 dx = none → dx ≠ x → sp (.ref x :: vs) (upd (upd H1 dx (.own x)) x (.ins C dx [])) (fun v H2 => v = .non ∧ Q (.ref x) H2) (E σ)
theorem pe_makeS {CXx : CXT} {k : Nat} {C f : Addr} {fd : FuncData} {ps : List Str} {sp : Sp} {E : L2.St → XK} {x : Str} {p pos : Pos} {e : Expr} {es : List Expr} {t : TA} (M : Mk X.K C f) (Fo : FnOk X.prog X.w X.K X.mg X.base CXx k f fd ps sp) (hr : Room (k + 1) X.A) (hg : Gl X x) (hm : X.mg x = some (.ref C)) (hb : Binds X.K fd ps [])
    (hx : ∀ σ, PassesAt CXx X σ (E σ)) (ha : PA X (e :: es) t) (hdb : (x == ("__debug__" : Str)) = false := by decide) (he : starEach (e :: es) X.env = (false, eval e X.env) :: starEach es X.env := by rfl) (hpl : (backTo pos (starEach es X.env)).any (·.1) = false := by rfl) :
    PE X (.Call (.Name x p) (e :: es) [] pos) (tMakeS C sp E t) :=
  ⟨fun pins s σ H Q I h => wpAny_Call_Name_kw (ld_glob I hg hm (PySem.W.callWith_K (h₀ := X.base) I.ok.mod.kin M.kp (thn (ha.run pos pins s σ H _ I h) fun us s1 ⟨vs, H1, I1, r, q⟩ => ⟨I1.kIn, made_run M Fo hr hb (hx σ) I1 r q⟩) he hpl) hdb)⟩
def dMake (C : Addr) (hs : List Nat) (W : DSp) (wa : DA) : DE := fun ρ M P R => wa ρ M (fun us ρ1 M1 => (hs ++ [M1.length]).Nodup ∧ match intoL (hs ++ [M1.length]) (.mt M1.length :: us), memIn (hs ++ [M1.length]) (M1 ++ [some (MO.ins C [])]) (hs ++ [M1.length]) with
  | some args, some mc => W args mc (fun u mc' => (hs ++ [M1.length]).length ≤ mc'.length ∧ u.out (hs ++ [M1.length]) (M1 ++ [some (MO.ins C [])]).length = .fr .non ∧ P (.mt M1.length) ρ1 (memOut (hs ++ [M1.length]) (M1 ++ [some (MO.ins C [])]) mc')) (fun C' fs mc' => (hs ++ [M1.length]).length ≤ mc'.length ∧ R C' fs ρ1 (memOut (hs ++ [M1.length]) (M1 ++ [some (MO.ins C [])]) mc'))
  | _, _ => False) R
/-- for an __init__: it hands back None -/
theorem ge_make (hs : List Nat) {k : Nat} {C f : Addr} {fd : FuncData} {ps : List Str} {W : DSp} {x : Str} {p pos : Pos} {e : Expr} {es : List Expr} {wa : DA} (M : Mk X.K C f) (Fo : FnOk X.prog X.w X.K X.mg X.base (L2.CX X.prog X.w) k f fd ps (spOf X.K W)) (hr : Room (k + 1) X.A) (hm : X.mg x = some (.ref C)) (hb : Binds X.K fd ps [])
    (tk : Takes X Wx) (ha : GA X Wx (e :: es) wa) (hg : Gl X x := by rfl) (hdb : (x == ("__debug__" : Str)) = false := by decide) (he : starEach (e :: es) X.env = (false, eval e X.env) :: starEach es X.env := by rfl) (hpl : (backTo pos (starEach es X.env)).any (·.1) = false := by rfl) :
    GE X Wx (.Call (.Name x p) (e :: es) [] pos) (dMake C hs W wa) :=
  ⟨PE.imp (pe_makeS M Fo hr hg hm hb (fun σ => passAt tk σ) ha.pa hdb he hpl) fun σ H Q ⟨G, F, as, ρ, M, P, R, o, w, k, kx⟩ => ⟨G, F, as, ρ, M, _, R, o, w, fun us ρ1 M1 F1 as1 H1 vs w1 x1 p1 o1 r1 => fun y dx hy hdx hne => by
    have hy2 : (upd H1 dx (.own y)) y = none := by rw [upd_ne (fun z => hne z.symm)]; exact hy
    have og : OkM X.K G F1 as1 (upd (upd H1 dx (.own y)) y (.ins C dx [])) M1 := (o1.m.grown hdx).grown hy2
    have on : OkM X.K G F1 (as1 ++ [y]) (upd (upd H1 dx (.own y)) y (.ins C dx [])) (M1 ++ [some (MO.ins C [])]) := og.push (o1.m.ex.none hy) (o1.m.gx.none hy) upd_same ⟨dx, [], rfl, .nil⟩ (fresh_ne o1.m hy)
    have pr : as1 <+: as1 ++ [y] := List.prefix_append _ _
    have oo := o1.of on (Ex.refl _) pr
    have rr : URs X.K F1 (as1 ++ [y]) (.ref y :: vs) (.mt M1.length :: us) := .cons ⟨y, by rw [o1.m.len]; simp, rfl⟩ (r1.mono (Ex.refl _) pr)
    obtain ⟨nd2, w1⟩ := w1
    cases q1 : intoL (hs ++ [M1.length]) (.mt M1.length :: us) with
    | none => simp [q1] at w1
    | some args =>
      cases q2 : memIn (hs ++ [M1.length]) (M1 ++ [some (MO.ins C [])]) (hs ++ [M1.length]) with
      | none => simp only [q1, q2] at w1
      | some mc =>
        simp only [q1, q2] at w1
        refine sp_call (G := G) (P := fun u ρ' M' => u = .fr .non ∧ P (.mt M1.length) ρ' M') nd2 oo rr q1 q2 w1 (fun u ρ' M' F' as' H' v hp x p o' ru => ?_) (kx.up x1 (p1.trans pr))
        · obtain ⟨rfl, hp⟩ := hp
          cases ru
          exact ⟨rfl, k.up x1 (p1.trans pr) _ _ _ F' as' H' _ hp x p o' ⟨y, pre_get p (by rw [o1.m.len]; simp), rfl⟩⟩, kx⟩⟩
end
end L3
/-! L3L: fields stored, exceptions, dicts. -/
namespace L3
open PySem PySem.Spec PyProof.Rows L2
variable {G : Hp}
section
variable {X : Cx} {Wx : WX}
/-! ### o.f = v -/
def putJ {α : Type} : Nat → Str → α → List (Str × α) → List (Str × α)
  | 0, f, u, [] => [(f, u)]
  | 0, f, u, _ :: r => (f, u) :: r
  | j + 1, f, u, p :: r => p :: putJ j f u r
  | _ + 1, _, _, [] => []
theorem putF_J : ∀ {vs : List (Str × V)} {names : List Str} {j : Nat} {f : Str} {v : V}, names.Nodup → names[j]? = some f → vs.map (·.1) = names.take vs.length → j ≤ vs.length → putF f v vs = putJ j f v vs
  | [], _, 0, f, v, _, _, _, _ => rfl
  | [], _, j + 1, f, v, _, _, _, h => by simp at h
  | p :: r, [], _, _, _, _, _, e, _ => by simp at e
  | p :: r, n :: names, 0, f, v, nd, e1, e2, _ => by
    simp at e1 e2
    subst e1
    show (if p.1 = n then (p.1, v) :: r else p :: putF n v r) = _
    rw [if_pos e2.1, e2.1]; rfl
  | p :: r, n :: names, j + 1, f, v, nd, e1, e2, h => by
    rw [List.nodup_cons] at nd
    simp at e1 e2 h
    have hne : ¬ p.1 = f := fun z => nd.1 (by rw [← e2.1, z]; exact List.mem_iff_getElem?.mpr ⟨j, e1⟩)
    show (if p.1 = f then (p.1, v) :: r else p :: putF f v r) = _
    rw [if_neg hne, putF_J nd.2 e1 e2.2 h]; rfl
theorem URf.putJ {K : PySem.W.Frag} {F : Hp} {as : List Addr} : ∀ {vs : List (Str × V)} {us : List (Str × U)} {f : Str} {v : V} {u : U} (j : Nat), URf K F as vs us → UR K F as v u → URf K F as (putJ j f v vs) (putJ j f u us)
  | _, _, _, _, _, 0, .nil, h => .cons h .nil
  | _, _, _, _, _, 0, .cons _ t, h => .cons h t
  | _, _, _, _, _, j + 1, .cons q t, h => .cons q (URf.putJ j t h)
  | _, _, _, _, _, _ + 1, .nil, h => .nil
def dSetF (C : Addr) (names : List Str) (j : Nat) (f : Str) (wv wo : DE) : DS := fun ρ M P => wv ρ M (fun v ρ1 M1 => wo ρ1 M1 (fun u ρ2 M2 => match u with
  | .mt h => (match M2[h]? with
    | some (some (.ins C' fs)) => C' = C ∧ fs.map (·.1) = names.take fs.length ∧ j ≤ fs.length ∧ fs.length < 1000 ∧ P.nx ρ2 (M2.set h (some (.ins C (putJ j f v fs))))
    | _ => False)
  | _ => False) P.ex) P.ex
theorem gs_setF {o value : Expr} {f : Str} {pos pos' : Pos} {wv wo : DE} {C : Addr} {names : List Str} {j : Nat} (hv : GE X Wx value wv) (ho : GE X Wx o wo) (cl : Cls X.K C) (nd : names.Nodup) (hn : NoAttr X.K C f) (hj : names[j]? = some f := by rfl)
    (hs : swapsWith value (some (.Attribute o f pos')) pos.line X.env = pure false := by rfl) : GS X Wx (.Assign [.Attribute o f pos'] value pos) (dSetF C names j f wv wo) :=
  ⟨PS.imp (ps_fld ho.pe hv.pe hs) fun D σ H ⟨G, F, as, ρ, M, P, o, w, k⟩ => ⟨G, F, as, ρ, M, _, P.ex, o, w, fun v ρ1 M1 F1 as1 H1 vv w1 x1 p1 o1 r1 =>
    ⟨G, F1, as1, ρ1, M1, _, P.ex, o1, w1, fun u ρ2 M2 F2 as2 H2 vu w2 x2 p2 o2 r2 => by
      match u, w2, r2 with
      | .mt h, w2, r2 =>
        obtain ⟨a, ea, rfl⟩ := r2
        cases q : M2[h]? with
        | none => simp [q] at w2
        | some z =>
          cases z with
          | none => simp [q] at w2
          | some mo =>
            obtain ⟨ho, hF, hH, hr⟩ := o2.m.here q ea
            cases mo with
            | ins C' fs =>
              simp only [q] at w2
              obtain ⟨e1, e2, e3, e4, w2⟩ := w2
              subst e1
              obtain ⟨dx, fvs, rfl, h2⟩ := hr
              refine ⟨a, C', dx, fvs, rfl, hH, cl, hn, by rw [h2.length]; exact e4, ?_⟩
              have ur := r1.mono x2 p2
              rw [putF_J nd hj (by rw [h2.names, h2.length]; exact e2) (by rw [h2.length]; exact e3)]
              exact k.nx _ _ F2 as2 _ _ w2 (x1.trans x2) (p1.trans p2) (o2.of (o2.m.write q ea ⟨dx, _, rfl, URf.putJ j h2 ur⟩) (Ex.refl _) (List.prefix_refl _))
            | _ => simp [q] at w2, k.ex.up x1 p1⟩, k.ex⟩⟩
/-! ### raise, try -/
def dRaise (C : Addr) : DS := fun ρ M P => P.ex C [] ρ M
theorem gs_raise {x m : Str} {j : Nat} {p p2 pos pos' : Pos} {C : Addr} {B newId initId : String} {bmB : List Value} (tk : Takes X Wx) (hc : X.calm = true) (Fb : ExcBaseFacts B newId initId bmB) (q : PySem.W.excIn X.K C bmB newId = true) (gC : X.mg x = some (.ref C)) (kC : PySem.W.keepIn X.K (.ref C) = true) (r : Raises X (.ref C))
    (hg : Gl X x := by rfl) (hdb : (x == ("__debug__" : Str)) = false := by decide) : GS X Wx (.Raise (some (.Call (.Name x p) [.Constant (.str m) j p2] [] pos)) none pos') (dRaise C) :=
  ⟨PS.imp (ps_raise hc tk (pmk_own Fb q gC kC r hg hdb)) fun D σ H ⟨G, F, as, ρ, M, P, o, w, k⟩ => k.ex C [] ρ M F as H σ none w (Ex.refl _) (List.prefix_refl _) o (.inl ⟨rfl, rfl⟩)⟩
def dTry (K : PySem.W.Frag) (S : Addr) (wb ws : DS) : DS := fun ρ M P => wb ρ M { P with ex := fun C fs ρ' M' => ∃ b, PySem.W.exmOne K (.ref C) (.ref S) = some b ∧ ifB b (ws ρ' M' { P with ex := RF }) (P.ex C fs ρ' M') }
theorem gs_try (K : PySem.W.Frag) {x : Str} {S : Addr} {body suite : List Stmt} {b₀ : Stmt} {np pos pos' : Pos} {wb ws : DS} (hK : X.K = K) (hs : X.stack = X.env :: X.outer) (hf : X.env.frame = some X.env.locals) (hc : Names X x (.ref S)) (tk : Takes X Wx)
    (hb : ∀ (W : WX) (pn : List (Addr × Obj)) (xe : Value → Shared → Prop), Takes (X.tr pn xe) W → PassesOwn (model X.prog X.w) X.A X.env xe → GSs (X.tr pn xe) W body wb)
    (hsu : ∀ (a : Addr) (oe : Obj) (cls : Value) (d : Option Addr) (pn : List (Addr × Obj)), Zc cls d oe → (∃ vs, oe.data = .fields vs) → GSs (X.suite a ((a, oe) :: pn)) WF (b₀ :: suite) ws) :
    GS X Wx (.Try body [.ExceptHandler (some (.Name x np)) none (b₀ :: suite) pos'] [] [] pos) (dTry K S wb ws) := by
  subst hK
  exact ⟨PS.imp (ps_try_only (tb := fun W => cS X.K W wb) (ts := fun _ _ _ => cS X.K WF ws) hs hf hc tk (fun W pn xe t1 t2 => (hb W pn xe t1 t2).pss) (fun a oe cls d pn z f => (hsu a oe cls d pn z f).pss)) fun D σ H ⟨G, F, as, ρ, M, P, o, w, k⟩ =>
    ⟨G, F, as, ρ, M, _, o, w, ⟨k.nx, k.rt, k.bk, k.ct, fun C fs ρ' M' F' as' H' σ' d ⟨b, e, h⟩ x p o' xr => ⟨b, e, fun eb a _ => ⟨G, F', as', ρ', M', _, o', h.1 eb, ⟨k.nx.up x p, k.rt.up x p, k.bk.up x p, k.ct.up x p, KXF⟩⟩, fun eb => k.ex C fs ρ' M' F' as' H' σ' d (h.2 eb) x p o' xr⟩⟩⟩⟩
/-! ### dicts -/
def keyD : D → Option Key
  | .int i => some (.inl i)
  | .str x => some (.inr x)
  | _ => none
def keysD : List D → Option (List Key)
  | [] => some []
  | d :: r => match keyD d, keysD r with
    | some k, some ks => some (k :: ks)
    | _, _ => none
def valD {κ : Type} [DecidableEq κ] (kvs : List (κ × D)) (k : κ) : Option D := (kvs.find? fun kv => decide (kv.1 = k)).map (·.2)
def putD {κ : Type} [DecidableEq κ] (kvs : List (κ × D)) (k : κ) (d : D) : List (κ × D) := if (kvs.any fun kv => decide (kv.1 = k)) = true then kvs.map fun kv => if kv.1 = k then (kv.1, d) else kv else kvs ++ [(k, d)]
theorem keyD_ok {K : PySem.W.Frag} {F : Hp} {v : V} {d : D} {k : Key} (r : DR K F v d) (e : keyD d = some k) : v = kV k := by
  cases r <;> first | (simp [keyD] at e; done) | (simp [keyD] at e; subst e; rfl)
theorem keysD_ok {K : PySem.W.Frag} {F : Hp} : ∀ {vs : List V} {ds : List D} {ks : List Key}, DRs K F vs ds → keysD ds = some ks → vs = ks.map kV
  | _, _, ks, .nil, e => by cases e; rfl
  | _, d :: ds, ks, .cons h t, e => by
    simp only [keysD] at e
    cases q1 : keyD d with
    | none => simp [q1] at e
    | some k =>
      cases q2 : keysD ds with
      | none => simp [q1, q2] at e
      | some ks' => simp [q1, q2] at e; subst e; rw [List.map_cons, keyD_ok h q1, keysD_ok t q2]
theorem valD_ok {κ : Type} [DecidableEq κ] {K : PySem.W.Frag} {F : Hp} {k : κ} : ∀ {vs : List (κ × V)} {ds : List (κ × D)}, DRk K F vs ds → (valV vs k).isSome = (valD ds k).isSome ∧ ∀ d, valD ds k = some d → ∃ v, valV vs k = some v ∧ DR K F v d
  | _, _, .nil => ⟨rfl, fun d e => by cases e⟩
  | _, _, .cons (k := j) h t => by
    by_cases hj : j = k
    · subst hj
      refine ⟨by simp [valV, valD, List.find?_cons], fun d e => ?_⟩
      simp [valD, List.find?_cons] at e
      subst e
      exact ⟨_, by simp [valV, List.find?_cons], h⟩
    · obtain ⟨h1, h2⟩ := valD_ok (k := k) t
      refine ⟨?_, fun d e => ?_⟩
      · rw [show valV ((j, _) :: _) k = valV _ k from valV_neg (p := (j, _)) hj]
        rw [h1]
        simp [valD, List.find?_cons, hj]
      · rw [show valV ((j, _) :: _) k = valV _ k from valV_neg (p := (j, _)) hj]
        exact h2 d (by simpa [valD, List.find?_cons, hj] using e)
theorem DRk.any {κ : Type} [DecidableEq κ] {K : PySem.W.Frag} {F : Hp} {k : κ} : ∀ {vs : List (κ × V)} {ds : List (κ × D)}, DRk K F vs ds → (vs.any fun kv => decide (kv.1 = k)) = ds.any fun kv => decide (kv.1 = k)
  | _, _, .nil => rfl
  | _, _, .cons h t => by rw [List.any_cons, List.any_cons, DRk.any t]
theorem DRk.append {κ : Type} {K : PySem.W.Frag} {F : Hp} : ∀ {vs ws : List (κ × V)} {ds es : List (κ × D)}, DRk K F vs ds → DRk K F ws es → DRk K F (vs ++ ws) (ds ++ es)
  | _, _, _, _, .nil, s => s
  | _, _, _, _, .cons h t, s => .cons h (DRk.append t s)
theorem DRk.upd {κ : Type} [DecidableEq κ] {K : PySem.W.Frag} {F : Hp} {k : κ} {v : V} {d : D} (hv : DR K F v d) : ∀ {vs : List (κ × V)} {ds : List (κ × D)}, DRk K F vs ds → DRk K F (vs.map fun kv => if kv.1 = k then (kv.1, v) else kv) (ds.map fun kv => if kv.1 = k then (kv.1, d) else kv)
  | _, _, .nil => .nil
  | _, _, .cons (k := j) h t => by
    rw [List.map_cons, List.map_cons]
    by_cases hj : j = k
    · rw [if_pos (show (j, _).1 = k from hj), if_pos (show (j, _).1 = k from hj)]; exact .cons hv (DRk.upd hv t)
    · rw [if_neg (show ¬ (j, _).1 = k from hj), if_neg (show ¬ (j, _).1 = k from hj)]; exact .cons h (DRk.upd hv t)
theorem DRk.put {κ : Type} [DecidableEq κ] {K : PySem.W.Frag} {F : Hp} {k : κ} {v : V} {d : D} {vs : List (κ × V)} {ds : List (κ × D)} (r : DRk K F vs ds) (hv : DR K F v d) : DRk K F (putK vs k v) (putD ds k d) := by
  unfold putK putD
  rw [r.any]
  split
  · exact r.upd hv
  · exact r.append (.cons hv .nil)
/-- what the dict u holds at the key y -/
def onDict (u y : U) (M : Mem) (k : Option D → Prop) : Prop := match u, y with
  | .mt h, .fr d => (match M[h]? with
    | some (some (.dK kvs)) => (match keyD d with
      | some key => k (valD kvs key)
      | none => False)
    | some (some (.dT kvs)) => (match d with
      | .tup ds => (match keysD ds with
        | some ks => k (valD kvs ks)
        | none => False)
      | _ => False)
    | _ => False)
  | _, _ => False
theorem onDict_ok {K : PySem.W.Frag} {F H : Hp} {as : List Addr} {M : Mem} (o : OkM K G F as H M) {vu vy : V} {u y : U} {k : Option D → Prop} (ru : UR K F as vu u) (ry : UR K F as vy y) (e : onDict u y M k) :
    ∃ a ov od, vu = .ref a ∧ DGet H a vy ov ∧ k od ∧ ov.isSome = od.isSome ∧ ∀ d, od = some d → ∃ v, ov = some v ∧ DR K F v d := by
  match u, y, e with
  | .mt h, .fr d, e =>
    obtain ⟨a, ea, rfl⟩ := ru
    simp only [onDict] at e
    cases q : M[h]? with
    | none => simp [q] at e
    | some z =>
      cases z with
      | none => simp [q] at e
      | some mo =>
        obtain ⟨ho, hF, hH, hr⟩ := o.here q ea
        cases mo with
        | dK kvs =>
          simp only [q] at e
          obtain ⟨vs, rfl, dr⟩ := hr
          cases qk : keyD d with
          | none => simp [qk] at e
          | some key =>
            simp only [qk] at e
            obtain ⟨h1, h2⟩ := valD_ok (k := key) dr
            exact ⟨a, valV vs key, _, rfl, .inl ⟨vs, key, .inl hH, keyD_ok ry qk, rfl⟩, e, h1, h2⟩
        | dT kvs =>
          simp only [q] at e
          obtain ⟨vs, rfl, dr⟩ := hr
          cases d with
          | tup ds =>
            simp only at e
            cases qk : keysD ds with
            | none => simp [qk] at e
            | some ks =>
              simp only [qk] at e
              obtain ⟨h1, h2⟩ := valD_ok (k := ks) dr
              cases (show DR K F vy (.tup ds) from ry) with
              | tup t1 t2 =>
                rename_i b xs
                exact ⟨a, valV vs ks, _, rfl, .inr ⟨vs, ks, b, .inl hH, rfl, by rw [← keysD_ok t2 qk]; exact o.ex _ _ t1, rfl⟩, e, h1, h2⟩
          | _ => simp at e
        | _ => simp [q] at e
def dDIn (neg : Bool) (wi wo : DE) : DE := fun ρ M P R => wi ρ M (fun y ρ1 M1 => wo ρ1 M1 (fun u ρ2 M2 => onDict u y M2 fun o => P (.fr (.bl (neg != o.isSome))) ρ2 M2) R) R
theorem din_core {wi wo : DE} (σ : L2.St) (H : Hp) (Q : VK) (h : cE X.K Wx (dDIn false wi wo) σ H Q) : tDIn (cE X.K Wx wi) (cE X.K Wx wo) σ H Q := by
  obtain ⟨G, F, as, ρ, M, P, R, o, w, k, kx⟩ := h
  refine ⟨G, F, as, ρ, M, _, R, o, w, fun y ρ1 M1 F1 as1 H1 vy w1 x1 p1 o1 r1 => ?_, kx⟩
  refine ⟨G, F1, as1, ρ1, M1, _, R, o1, w1, fun u ρ2 M2 F2 as2 H2 vu w2 x2 p2 o2 r2 => ?_, kx.up x1 p1⟩
  obtain ⟨a, ov, od, rfl, g, kk, e, _⟩ := onDict_ok o2.m r2 (r1.mono x2 p2) w2
  refine ⟨a, ov, rfl, g, k _ _ _ F2 as2 H2 _ kk (x1.trans x2) (p1.trans p2) o2 ?_⟩
  rw [e, bne_f]; exact .bl _
theorem dnotin_core {wi wo : DE} (σ : L2.St) (H : Hp) (Q : VK) (h : cE X.K Wx (dDIn true wi wo) σ H Q) : tDNotIn (cE X.K Wx wi) (cE X.K Wx wo) σ H Q := by
  obtain ⟨G, F, as, ρ, M, P, R, o, w, k, kx⟩ := h
  refine ⟨G, F, as, ρ, M, _, R, o, w, fun y ρ1 M1 F1 as1 H1 vy w1 x1 p1 o1 r1 => ?_, kx⟩
  refine ⟨G, F1, as1, ρ1, M1, _, R, o1, w1, fun u ρ2 M2 F2 as2 H2 vu w2 x2 p2 o2 r2 => ?_, kx.up x1 p1⟩
  obtain ⟨a, ov, od, rfl, g, kk, e, _⟩ := onDict_ok o2.m r2 (r1.mono x2 p2) w2
  refine ⟨a, ov, rfl, g, k _ _ _ F2 as2 H2 _ kk (x1.trans x2) (p1.trans p2) o2 ?_⟩
  rw [e, bne_t]; exact .bl _
variable {i o : Expr} {pos : Pos} {wi wo : DE}
theorem ge_din (hu : X.A.units + 1 < cLine) (hi : GE X Wx i wi) (ho : GE X Wx o wo) (h1 : behindInMarks .In o = false := by rfl) : GE X Wx (.Compare i [.In] [o] pos) (dDIn false wi wo) := ⟨PE.imp (pe_cmp (pc_din hu hi.pe ho.pe) h1) din_core⟩
theorem ge_dnotin (hu : X.A.units + 1 < cLine) (hi : GE X Wx i wi) (ho : GE X Wx o wo) (h1 : behindInMarks .NotIn o = false := by rfl) : GE X Wx (.Compare i [.NotIn] [o] pos) (dDIn true wi wo) := ⟨PE.imp (pe_cmp (pc_dnotin hu hi.pe ho.pe) h1) dnotin_core⟩
theorem gt_din (hu : X.A.units + 1 < cLine) (hi : GE X Wx i wi) (ho : GE X Wx o wo) (h1 : behindInMarks .In o = false := by rfl) : GT X Wx (.Compare i [.In] [o] pos) (dTest (dDIn false wi wo)) :=
  ⟨PT.imp (pt_cmp (pc_din hu hi.pe ho.pe) h1) fun σ H Q h => test_core (t := tDIn _ _) din_core σ H Q h⟩
theorem gt_dnotin (hu : X.A.units + 1 < cLine) (hi : GE X Wx i wi) (ho : GE X Wx o wo) (h1 : behindInMarks .NotIn o = false := by rfl) : GT X Wx (.Compare i [.NotIn] [o] pos) (dTest (dDIn true wi wo)) :=
  ⟨PT.imp (pt_cmp (pc_dnotin hu hi.pe ho.pe) h1) fun σ H Q h => test_core (t := tDNotIn _ _) dnotin_core σ H Q h⟩
def dDGet (wo wi : DE) : DE := fun ρ M P R => wo ρ M (fun u ρ1 M1 => wi ρ1 M1 (fun y ρ2 M2 => onDict u y M2 fun o => match o with
  | some d => P (.fr d) ρ2 M2
  | none => False) R) R
theorem ge_dget (hu : X.A.units + 1 < cLine) (ho : GE X Wx o wo) (hi : GE X Wx i wi) (hs : NoSl i := by exact fun _ _ => rfl) : GE X Wx (.Subscript o i pos) (dDGet wo wi) := ⟨PE.imp (pe_dget hu ho.pe hi.pe hs) fun σ H Q ⟨G, F, as, ρ, M, P, R, o, w, k, kx⟩ => by
  refine ⟨G, F, as, ρ, M, _, R, o, w, fun u ρ1 M1 F1 as1 H1 vu w1 x1 p1 o1 r1 => ?_, kx⟩
  refine ⟨G, F1, as1, ρ1, M1, _, R, o1, w1, fun y ρ2 M2 F2 as2 H2 vy w2 x2 p2 o2 r2 => ?_, kx.up x1 p1⟩
  obtain ⟨a, ov, od, rfl, g, kk, e, f⟩ := onDict_ok o2.m (r1.mono x2 p2) r2 w2
  cases od with
  | none => exact kk.elim
  | some d =>
    obtain ⟨v, rfl, dv⟩ := f d rfl
    exact ⟨a, v, rfl, g, k _ _ _ F2 as2 H2 _ kk (x1.trans x2) (p1.trans p2) o2 dv⟩⟩
/-- d[k] = v -/
def dDPut (wv wo wi : DE) : DS := fun ρ M P => wv ρ M (fun v ρ1 M1 => wo ρ1 M1 (fun u ρ2 M2 => wi ρ2 M2 (fun y ρ3 M3 => match v, u, y with
  | .fr dv, .mt h, .fr d => (match M3[h]? with
    | some (some (.dK kvs)) => (match keyD d with
      | some key => kvs.length < sizeLine ∧ P.nx ρ3 (M3.set h (some (.dK (putD kvs key dv))))
      | none => False)
    | some (some (.dT kvs)) => (match d with
      | .tup ds => (match keysD ds with
        | some ks => kvs.length < sizeLine ∧ P.nx ρ3 (M3.set h (some (.dT (putD kvs ks dv))))
        | none => False)
      | _ => False)
    | _ => False)
  | _, _, _ => False) P.ex) P.ex) P.ex
theorem gs_dput {value : Expr} {pos' : Pos} {wv : DE} (hu : X.A.units + 1 < cLine) (hv : GE X Wx value wv) (ho : GE X Wx o wo) (hi : GE X Wx i wi) (hs : swapsWith value (some (.Subscript o i pos')) pos.line X.env = pure false := by rfl) : GS X Wx (.Assign [.Subscript o i pos'] value pos) (dDPut wv wo wi) :=
  ⟨PS.imp (ps_dput hu ho.pe hi.pe hv.pe hs) fun D σ H ⟨G, F, as, ρ, M, P, o, w, k⟩ => by
    refine ⟨G, F, as, ρ, M, _, P.ex, o, w, fun v ρ1 M1 F1 as1 H1 vv w1 x1 p1 o1 r1 => ?_, k.ex⟩
    refine ⟨G, F1, as1, ρ1, M1, _, P.ex, o1, w1, fun u ρ2 M2 F2 as2 H2 vu w2 x2 p2 o2 r2 => ?_, k.ex.up x1 p1⟩
    refine ⟨G, F2, as2, ρ2, M2, _, P.ex, o2, w2, fun y ρ3 M3 F3 as3 H3 vy w3 x3 p3 o3 r3 => ?_, k.ex.up (x1.trans x2) (p1.trans p2)⟩
    match v, u, y, w3, r1, r2, r3 with
    | .fr dv, .mt h, .fr d, w3, r1, r2, r3 =>
      obtain ⟨a, ea, rfl⟩ := r2.mono x3 p3
      have rv : DR X.K F3 vv dv := DR.mono (x2.trans x3) dv vv r1
      cases q : M3[h]? with
      | none => simp [q] at w3
      | some z =>
        cases z with
        | none => simp [q] at w3
        | some mo =>
          obtain ⟨ho, hF, hH, hr⟩ := o3.m.here q ea
          cases mo with
          | dK kvs =>
            simp only [q] at w3
            obtain ⟨vs, rfl, dr⟩ := hr
            cases qk : keyD d with
            | none => simp [qk] at w3
            | some key =>
              simp only [qk] at w3
              exact ⟨a, _, rfl, .inl ⟨vs, key, hH, keyD_ok r3 qk, by rw [dr.length]; exact w3.1, rfl⟩, k.nx _ _ F3 as3 _ _ w3.2 ((x1.trans x2).trans x3) ((p1.trans p2).trans p3) (o3.of (o3.m.write q ea ⟨_, rfl, dr.put rv⟩) (Ex.refl _) (List.prefix_refl _))⟩
          | dT kvs =>
            simp only [q] at w3
            obtain ⟨vs, rfl, dr⟩ := hr
            cases d with
            | tup ds =>
              simp only at w3
              cases qk : keysD ds with
              | none => simp [qk] at w3
              | some ks =>
                simp only [qk] at w3
                cases (show DR X.K F3 vy (.tup ds) from r3) with
                | @tup b xs _ t1 t2 =>
                  exact ⟨a, _, rfl, .inr ⟨vs, ks, b, hH, rfl, by rw [← keysD_ok t2 qk]; exact o3.m.ex _ _ t1, by rw [dr.length]; exact w3.1, rfl⟩, k.nx _ _ F3 as3 _ _ w3.2 ((x1.trans x2).trans x3) ((p1.trans p2).trans p3) (o3.of (o3.m.write q ea ⟨_, rfl, dr.put rv⟩) (Ex.refl _) (List.prefix_refl _))⟩
            | _ => simp at w3
          | _ => simp [q] at w3⟩
def dNewK : DN := fun ρ M P _ => P (.dK []) ρ M
def dNewT : DN := fun ρ M P _ => P (.dT []) ρ M
theorem gn_newK : GN X Wx (.Dict [] [] pos) dNewK := ⟨PE.imp pe_dnewK fun σ H Q ⟨G, F, as, ρ, M, P, R, o, w, k, kx⟩ => fun p hp => k.at_new (Ex.refl _) (List.prefix_refl _) o w ⟨[], rfl, .nil⟩ hp⟩
theorem gn_newT : GN X Wx (.Dict [] [] pos) dNewT := ⟨PE.imp pe_dnewT fun σ H Q ⟨G, F, as, ρ, M, P, R, o, w, k, kx⟩ => fun p hp => k.at_new (Ex.refl _) (List.prefix_refl _) o w ⟨[], rfl, .nil⟩ hp⟩
/-- {k: v}, k a tuple -/
def tDisp1T (tk tv : TE) : TE := fun σ H Q => ∀ p, H p = none → tk σ (upd H p (.dT [])) fun x H1 => tv σ H1 fun y H2 => ∃ ks b, x = .ref b ∧ H2 b = some (.tup (ks.map kV)) ∧ H2 p = some (.dT []) ∧ Q (.ref p) (upd H2 p (.dT [(ks, y)]))
theorem pe_disp1T {k v : Expr} {tk tv : TE} (hu : X.A.units + 1 < cLine) (hk : PE X k tk) (hv : PE X v tv) : PE X (.Dict [some k] [v] pos) (tDisp1T tk tv) := ⟨fun pins s σ H Q I q => by
  have hn := I.hok.fresh (Nat.le_refl s.heap.objs.size)
  have J := I.laid (a := s.heap.objs.size) (o := .dT []) (h' := s.heap.push { cls := .type "dict", data := .dict #[] }) (t' := s.toks) (fun _ _ z => Heap.get?_push_of_some _ z) (Nat.le_refl _) (dt_empty s.heap I.big)
  refine wpAny_Dict_any rfl rfl (by simp) (by simp) (pairTrees_cons_walk (thn (hk.run pins _ σ _ _ J (q _ hn)) fun u s1 ⟨x, H1, I1, rx, q1⟩ => thn (hv.run pins s1 σ H1 _ I1 q1) fun u2 s2 ⟨y, H2, I2, ry, q2⟩ => pairTrees_nil_walk ?_))
  obtain ⟨ks, b, rfl, eb, ep, q3⟩ := q2
  obtain rfl : u = Value.ref b := rx
  obtain ⟨z, hd, xs, rel, dd⟩ := dt_of I2.hok ep
  cases rel
  show wpAny _ _ (storeAll s.heap.objs.size [(Value.ref b, u2)]) _ _ s2
  unfold storeAll
  rw [List.forIn_cons]
  refine wpAny_bind (wpAny_bind (wpAny_dictSet_heap (knd := tupleKind (mixKind X.prog X.w)) (show X.A.units < cLine by omega) (key_of I2.hok eb) dd (fun h1 dd1 hs1 => wpAny_pure ?_) (Nat.zero_le _)))
  dsimp only
  rw [List.forIn_nil]
  refine wpAny_pure ⟨.ref s.heap.objs.size, _, ?_, rfl, q3⟩
  obtain ⟨q, es, epp, hq, g2, g3, g4, _, g5⟩ := dd1
  refine d_write I2 (by rw [ep]; exact True.intro) hs1 ⟨q, hq⟩ ⟨by show 1 ≤ sizeLine; decide, hd, _, .cons ⟨rfl, ?_, ry⟩ .nil, q, es, epp, hq, g2, g3, g4, g5⟩
  rw [upd_ne (ne_of eb ep (fun z => nomatch z))]
  exact eb⟩
def dDisp1T (wk wv : DE) : DN := fun ρ M P R => wk ρ M (fun x ρ1 M1 => wv ρ1 M1 (fun y ρ2 M2 => match x, y with
  | .fr (.tup ds), .fr d => (match keysD ds with
    | some ks => P (.dT [(ks, d)]) ρ2 M2
    | none => False)
  | _, _ => False) R) R
theorem gn_disp1T {k v : Expr} {wk wv : DE} (hu : X.A.units + 1 < cLine) (hk : GE X Wx k wk) (hv : GE X Wx v wv) : GN X Wx (.Dict [some k] [v] pos) (dDisp1T wk wv) := ⟨PE.imp (pe_disp1T hu hk.pe hv.pe) fun σ H Q ⟨G, F, as, ρ, M, P, R, o, w, kk, kx⟩ => fun p hp => by
  have hFp := o.m.ex.none hp
  have hGp := o.m.gx.none hp
  have og : Ok X.K (upd G p (.dT [])) F as (upd H p (.dT [])) σ M ρ := ⟨(o.m.grown hp).guard hFp upd_same (fresh_ne o.m hp), o.slen, o.slot⟩
  have kxg : KX X.K (upd G p (.dT [])) F as R Wx := fun C fs ρ' M' F' as' H' σ' d hr x e o' xr => kx C fs ρ' M' F' as' H' σ' d hr x e ⟨o'.m.unguard hGp, o'.slen, o'.slot⟩ xr
  refine ⟨_, F, as, ρ, M, _, R, og, w, fun x ρ1 M1 F1 as1 H1 vx w1 x1 p1 o1 r1 => ?_, kxg⟩
  refine ⟨_, F1, as1, ρ1, M1, _, R, o1, w1, fun y ρ2 M2 F2 as2 H2 vy w2 x2 p2 o2 r2 => ?_, kxg.up x1 p1⟩
  match x, y, w2, r1, r2 with
  | .fr (.tup ds), .fr d, w2, r1, r2 =>
    cases qk : keysD ds with
    | none => simp [qk] at w2
    | some ks =>
      simp only [qk] at w2
      cases (show DR X.K F1 vx (.tup ds) from r1) with
      | @tup b xs _ t1 t2 =>
        have hp2 : H2 p = some (.dT []) := o2.m.gx p _ upd_same
        have hF2 : F2 p = none := o2.m.gf p _ upd_same
        have hn2 : ∀ (h : Nat) (mo' : MO), M2[h]? = some (some mo') → as2[h]? ≠ some p := fun h mo e z => by
          obtain ⟨c, _, e1, e2, _, _⟩ := o2.m.cell h mo e
          rw [z] at e1; cases e1
          rw [upd_same] at e2; cases e2.2
        have om : OkM X.K G F2 as2 H2 M2 := o2.m.unguard hGp
        refine ⟨ks, b, rfl, by rw [← keysD_ok t2 qk]; exact o2.m.ex _ _ (x2 _ _ t1), hp2, ?_⟩
        exact kk _ ρ2 M2 F2 as2 _ p _ w2 (x1.trans x2) (p1.trans p2) ⟨om.other hF2 hGp hn2, o2.slen, o2.slot⟩ hF2 hGp upd_same hn2 ⟨_, rfl, .cons r2 .nil⟩⟩
end
end L3
/-! L3M: small facts, chains, the end. -/
namespace L3
open PySem PySem.Spec PyProof.Rows L2
variable {G : Hp}
theorem room65 {k : Nat} {A : Around} (hr : Room k A) : A.units + 65 < cLine := by have := hr.un; omega
theorem room1 {k : Nat} {A : Around} (hr : Room k A) : A.units + 1 < cLine := by have := hr.un; omega
theorem b_len : bootBuiltins "len" = some (.builtin "len") := by decide +kernel
theorem b_max : bootBuiltins "max" = some (.builtin "max") := by decide +kernel
theorem b_min : bootBuiltins "min" = some (.builtin "min") := by decide +kernel
theorem b_sum : bootBuiltins "sum" = some (.builtin "sum") := by decide +kernel
theorem b_sorted : bootBuiltins "sorted" = some (.builtin "sorted") := by decide +kernel
theorem b_int : bootBuiltins "int" = some (.type "int") := by decide +kernel
theorem b_str : bootBuiltins "str" = some (.type "str") := by decide +kernel
theorem b_list : bootBuiltins "list" = some (.type "list") := by decide +kernel
theorem b_tuple : bootBuiltins "tuple" = some (.type "tuple") := by decide +kernel
theorem b_dict : bootBuiltins "dict" = some (.type "dict") := by decide +kernel
theorem b_bool : bootBuiltins "bool" = some (.type "bool") := by decide +kernel
section
variable {X : Cx} {Wx : WX}
theorem chain_core {r r' : R2} {d d' : U → U → Mem → (U → Prop) → Prop} {wa wb wc : DE}
    (hr : ∀ (G F : Hp) (as : List Addr) (H : Hp) (M : Mem) (ux uy : U) (x y : V) (P : U → Prop) (Q : VK), OkM X.K G F as H M → UR X.K F as x ux → UR X.K F as y uy → d ux uy M P → (∀ (u : U) (v : V) (F' H' : Hp), P u → Ex F F' → OkM X.K G F' as H' M → UR X.K F' as v u → Q v H') → r x y H Q)
    (hr' : ∀ (G F : Hp) (as : List Addr) (H : Hp) (M : Mem) (ux uy : U) (x y : V) (P : U → Prop) (Q : VK), OkM X.K G F as H M → UR X.K F as x ux → UR X.K F as y uy → d' ux uy M P → (∀ (u : U) (v : V) (F' H' : Hp), P u → Ex F F' → OkM X.K G F' as H' M → UR X.K F' as v u → Q v H') → r' x y H Q)
    (σ : L2.St) (H : Hp) (Q : VK) (h : cE X.K Wx (dChain d d' wa wb wc) σ H Q) : tChain r r' (cE X.K Wx wa) (cE X.K Wx wb) (cE X.K Wx wc) σ H Q := by
  obtain ⟨G, F, as, ρ, M, P, R, o, w, k, kx⟩ := h
  refine ⟨G, F, as, ρ, M, _, R, o, w, fun x ρ1 M1 F1 as1 H1 vx w1 x1 p1 o1 r1 => ?_, kx⟩
  refine ⟨G, F1, as1, ρ1, M1, _, R, o1, w1, fun y ρ2 M2 F2 as2 H2 vy w2 x2 p2 o2 r2 => ?_, kx.up x1 p1⟩
  refine hr G F2 as2 H2 M2 x y vx vy _ _ o2.m (r1.mono x2 p2) r2 w2 fun u v F3 H3 pu x3 o3 r3 => ?_
  have o3' := o2.of o3 x3 (List.prefix_refl _)
  match u, pu, r3 with
  | .fr (.bl kk), pu, r3 =>
    cases r3
    refine ⟨kk, rfl, ?_⟩
    cases kk with
    | true =>
      refine ⟨G, F3, as2, ρ2, M2, _, R, o3', pu.1 rfl, fun z ρ4 M4 F4 as4 H4 vz w4 x4 p4 o4 r4 => ?_, kx.up ((x1.trans x2).trans x3) (p1.trans p2)⟩
      refine hr' G F4 as4 H4 M4 y z vy vz _ Q o4.m (r2.mono (x3.trans x4) p4) r4 w4 fun u5 v5 F5 H5 p5 x5 o5 r5 => ?_
      exact k u5 ρ4 M4 F5 as4 H5 v5 p5 ((((x1.trans x2).trans x3).trans x4).trans x5) ((p1.trans p2).trans p4) (o4.of o5 x5 (List.prefix_refl _)) r5
    | false => exact k _ ρ2 M2 F3 as2 H3 _ (pu.2 rfl) ((x1.trans x2).trans x3) (p1.trans p2) o3' (.bl _)
theorem ge_chain {op op' : CmpOp} {a b c : Expr} {pos : Pos} {d d' : U → U → Mem → (U → Prop) → Prop} {wa wb wc : DE} (ho : OpD X (compareOp op) d) (ho' : OpD X (compareOp op') d') (ha : GE X Wx a wa) (hb : GE X Wx b wb) (hc : GE X Wx c wc)
    (hm : lastMarks [op, op'] [b, c] = false := by with_unfolding_all rfl) : GE X Wx (.Compare a [op, op'] [b, c] pos) (dChain d d' wa wb wc) := by
  obtain ⟨r, h1, hr⟩ := ho.ex
  obtain ⟨r', h2, hr'⟩ := ho'.ex
  exact ⟨PE.imp (pe_chain h1 h2 ha.pe hb.pe hc.pe hm) (chain_core hr hr')⟩
theorem gt_chain {op op' : CmpOp} {a b c : Expr} {pos : Pos} {d d' : U → U → Mem → (U → Prop) → Prop} {wa wb wc : DE} (ho : OpD X (compareOp op) d) (ho' : OpD X (compareOp op') d') (ha : GE X Wx a wa) (hb : GE X Wx b wb) (hc : GE X Wx c wc)
    (hm : lastMarks [op, op'] [b, c] = false := by with_unfolding_all rfl) : GT X Wx (.Compare a [op, op'] [b, c] pos) (dTest (dChain d d' wa wb wc)) := by
  obtain ⟨r, h1, hr⟩ := ho.ex
  obtain ⟨r', h2, hr'⟩ := ho'.ex
  exact ⟨PT.imp (pt_chain h1 h2 ha.pe hb.pe hc.pe hm) fun σ H Q h => test_core (t := tChain _ _ _ _ _) (chain_core hr hr') σ H Q h⟩
/-- [x] * n -/
def dRepN (wa wb : DE) : DN := fun ρ M P R => wa ρ M (fun x ρ1 M1 => wb ρ1 M1 (fun y ρ2 M2 => match x, y with
  | .fr (.lst ds), .fr (.int k) => (-(2 ^ 63) ≤ k ∧ k < 2 ^ 63 ∧ ds.length * k.toNat ≤ sizeLine) ∧ P (.lst (List.replicate k.toNat ds).flatten) ρ2 M2
  | _, _ => False) R) R
theorem DRs.rep {K : PySem.W.Frag} {F : Hp} {vs : List V} {ds : List D} (h : DRs K F vs ds) : ∀ k : Nat, DRs K F (List.replicate k vs).flatten (List.replicate k ds).flatten
  | 0 => .nil
  | k + 1 => by rw [List.replicate_succ, List.replicate_succ, List.flatten_cons, List.flatten_cons]; exact h.append (DRs.rep h k)
theorem gn_rep {a b : Expr} {pos : Pos} {wa wb : DE} (ha : GE X Wx a wa) (hb : GE X Wx b wb) : GN X Wx (.BinOp a .Mult b pos) (dRepN wa wb) := ⟨PE.imp (pe_op op_rep ha.pe hb.pe) fun σ H Q ⟨G, F, as, ρ, M, P, R, o, w, k, kx⟩ => by
  refine ⟨G, F, as, ρ, M, _, R, o, w, fun x ρ1 M1 F1 as1 H1 vx w1 x1 p1 o1 r1 => ?_, kx⟩
  refine ⟨G, F1, as1, ρ1, M1, _, R, o1, w1, fun y ρ2 M2 F2 as2 H2 vy w2 x2 p2 o2 r2 => ?_, kx.up x1 p1⟩
  match x, y, w2, r1, r2 with
  | .fr (.lst ds), .fr (.int kk), w2, r1, r2 =>
    cases (show DR X.K F1 vx (.lst ds) from r1) with
    | @lst a xs _ h1 h2 =>
      cases (show DR X.K F2 vy (.int kk) from r2)
      refine ⟨a, kk, xs, rfl, rfl, o2.m.ex _ _ (x2 _ _ h1), w2.1.1, w2.1.2.1, by rw [h2.length]; exact w2.1.2.2, fun p hp => ?_⟩
      exact k.at_new (x1.trans x2) (p1.trans p2) o2 w2.2 ⟨_, rfl, DRs.rep (DRs.mono x2 _ _ h2) _⟩ hp⟩
end
/-- an exception of the class C, a clause that names S -/
theorem exm_of {K : PySem.W.Frag} {C S : Addr} {b : Bool} (h1 : PySem.W.subIn K (.ref S) (.type "BaseException") = some true) (h2 : PySem.W.isClsIn K S = true) (h3 : PySem.W.typeIn K (.ref S) = some (.type "type")) (h4 : PySem.W.subIn K (.ref C) (.ref S) = some b) :
    PySem.W.exmOne K (.ref C) (.ref S) = some b := by
  have e1 : (PySem.W.subIn K (.ref S) (.type "BaseException") == some true) = true := by rw [h1]; rfl
  have e2 : ((PySem.W.clsIn K S).isSome && PySem.W.typeIn K (.ref S) == some (.type "type")) = true := by
    have h2' : (PySem.W.clsIn K S).isSome = true := h2
    rw [h2', h3]; rfl
  show (if (PySem.W.subIn K (.ref S) (.type "BaseException") == some true) = true then (if ((PySem.W.clsIn K S).isSome && PySem.W.typeIn K (.ref S) == some (.type "type")) = true then PySem.W.subIn K (.ref C) (.ref S) else none) else none) = some b
  rw [if_pos e1, if_pos e2]; exact h4
theorem cx_none {P : Program} {w : World} {H : Hp} {s : Shared} {e : Value} {s' : Shared} (h : L2.CX P w [] H s (fun _ _ _ => False) e s') : False := by
  obtain ⟨_, _, _, _, _, _, _, _, _, _, _, _, z⟩ := h
  exact z
/-- the law's promise from the script -/
def LawSp : DSp := fun args M P _ => ∃ ns : List Int, args = [.fr (.rol (ns.map D.int))] ∧ M = [] ∧ ns.length ≤ 63 ∧ P (.fr (.bl true)) []
theorem law_start {K : PySem.W.Frag} {H : Hp} {a : Addr} {ns : List Int} (hl : ns.length ≤ 63) (hS : SqL K H a (ns.map V.int)) : spOf K LawSp [.ref a] H (fun v _ => v = .bl true) fun _ _ _ => False := by
  refine ⟨fun _ => none, H, [], [.fr (.rol (ns.map D.int))], [], fun u M => u = .fr (.bl true), fun _ _ _ => False, ⟨Ex.refl _, (fun _ _ h => by cases h), (fun _ _ h => by cases h), rfl, (fun _ _ h => by simp at h), (fun _ _ _ _ _ h => by simp at h)⟩, .cons (.rol hS (DRs.ints ns)) .nil, ⟨ns, rfl, rfl, hl, rfl⟩, fun u M' F' as' H' v hu x p o r => ?_, fun _ _ _ _ _ _ _ h => h.elim⟩
  subst hu
  cases (show DR K F' v (.bl true) from r)
  rfl
end L3
/-! L3N: texts, own classes, dead statements. -/
namespace L3
open PySem PySem.Spec PyProof.Rows L2
variable {G : Hp}
theorem DRs.strs {K : PySem.W.Frag} {F : Hp} : ∀ (ys : List Str), DRs K F (ys.map V.str) (ys.map D.str)
  | [] => .nil
  | y :: ys => .cons (.str y) (DRs.strs ys)
theorem DRs.of_strs {K : PySem.W.Frag} {F : Hp} : ∀ {vs : List V} {ys : List Str}, DRs K F vs (ys.map D.str) → vs = ys.map V.str
  | _, [], h => by cases h; rfl
  | _, n :: ns, h => by
    cases h with
    | cons h1 h2 => cases h1; rw [DRs.of_strs h2]; rfl
theorem kit_self {K : PySem.W.Frag} {c : Addr} : PySem.W.kitOne K (.ref c) (.ref c) = some true := by
  unfold PySem.W.kitOne
  rw [if_pos (by simp)]
section
variable {X : Cx} {Wx : WX}
def dJoin : U → List U → Mem → (U → Mem → Prop) → Prop := fun u us M P => match u, us with
  | .fr (.str a), [x] => ∃ ys : List Str, asL M x = some (ys.map D.str) ∧ (ys.map (·.length)).sum + ys.length * a.length ≤ 16777216 ∧ P (.fr (.str (Txt.join a ys))) M
  | _, _ => False
theorem md_join : MtD X "str.join" dJoin := ⟨_, mt_join, fun G F as H M u us v vs P Q o ru rs d k => by
  match u, us, ru, rs, d with
  | .fr (.str a), [x], ru, .cons r .nil, d' =>
    cases ru
    obtain ⟨ys, e, h, hp⟩ := d'
    obtain ⟨p, xs, rfl, sq, dr⟩ := asL_ok o r e
    rw [dr.of_strs] at sq
    exact ⟨a, p, ys, rfl, rfl, .inl sq, h, k _ _ _ F H hp (Ex.refl _) o (.str _)⟩⟩
def dSplit : U → List U → Mem → (U → Mem → Prop) → Prop := fun u us M P => match u, us with
  | .fr (.str a), [.fr (.str b)] => (b.length == 0) = false ∧ a.length + 2 ≤ sizeLine ∧ P (.fr (.lst ((Txt.split a b).map D.str))) M
  | _, _ => False
theorem md_split : MtD X "str.split" dSplit := ⟨_, mt_split, fun G F as H M u us v vs P Q o ru rs d k => by
  match u, us, ru, rs, d with
  | .fr (.str a), [.fr (.str b)], ru, .cons r .nil, d' =>
    cases ru; cases r
    obtain ⟨h1, h2, hp⟩ := d'
    exact ⟨a, b, rfl, rfl, h1, h2, fun p hp0 => k _ _ _ (upd F p (.lst _)) _ hp (Ex.new (o.ex.none hp0)) (o.laid hp0) (.lst upd_same (DRs.strs _))⟩⟩
theorem ge_globS {x z : Str} {pos : Pos} (h : ∃ t, X.mg x = some (.str z t)) (hg : Gl X x := by rfl) (hx : (x == ("__debug__" : Str)) = false := by decide) : GE X Wx (.Name x pos) (dC (.str z)) := by
  obtain ⟨t, h⟩ := h
  exact ge_glob (v := .str z) h ⟨t, rfl⟩ (fun F => .str z) hg hx
def dDead : DS := fun _ _ _ => False
theorem gs_dead {st : Stmt} : GS X Wx st dDead := ⟨⟨fun pins s σ H D I ⟨_, _, _, _, _, _, _, w, _⟩ => w.elim⟩⟩
theorem gss_dead {st : List Stmt} : GSs X Wx st dDead := ⟨⟨fun pins s σ H D I ⟨_, _, _, _, _, _, _, w, _⟩ => w.elim⟩⟩
def dIsOwn (C : Addr) (wa : DE) : DE := fun ρ M P R => wa ρ M (fun u ρ1 M1 => match u with
  | .fr (.ins C' _) => C' = C ∧ P (.fr (.bl true)) ρ1 M1
  | _ => False) R
theorem ge_isOwn {C : Addr} {a : Expr} {x2 : Str} {p2 p pos : Pos} {wa : DE} (ha : GE X Wx a wa) (hm : X.mg "isinstance" = none) (hm2 : X.mg x2 = some (.ref C)) (ic : C8.InsC X.K C) (hg : Gl X "isinstance" := by rfl) (hg2 : Gl X x2 := by rfl)
    (hd2 : (x2 == ("__debug__" : Str)) = false := by decide)
    (h1 : starEach [a, .Name x2 p2] X.env = (false, eval a X.env) :: starEach [.Name x2 p2] X.env := by rfl) (h2 : starEach [.Name x2 p2] X.env = (false, eval (.Name x2 p2) X.env) :: starEach [] X.env := by rfl)
    (hpl : (backTo pos (starEach [.Name x2 p2] X.env)).any (·.1) = false := by rfl) : GE X Wx (.Call (.Name "isinstance" p) [a, .Name x2 p2] [] pos) (dIsOwn C wa) :=
  ⟨PE.imp (pe_callB (x := "isinstance") (C8.call_isC ic) hg hm (by decide +kernel) (pa_cons ha.pe (pa_cons (pe_glob (v := .ref C) hg2 hm2 rfl hd2) pa_nil h2) h1) (by decide) (by decide) h1 hpl) fun σ H Q ⟨G, F, as, ρ, M, P, R, o, w, k, kx⟩ => by
    refine ⟨G, F, as, ρ, M, _, R, o, w, fun u ρ1 M1 F1 as1 H1 vx w1 x1 p1 o1 r1 => ?_, kx⟩
    match u, w1, r1 with
    | .fr (.ins C' fs), w1, r1 =>
      have e := w1.1
      have w2 := w1.2
      subst e
      cases r1 with
      | ins e1 e2 => exact ⟨_, _, _, rfl, o1.m.ex _ _ e1, k (.fr (.bl true)) ρ1 M1 F1 as1 H1 (.bl true) w2 x1 p1 o1 (DR.bl true)⟩⟩
end
/-! ### a text, sign by sign -/
def dStrI' (w : DE) : DI := fun ρ M P R => w ρ M (fun u ρ1 M1 => match u with
  | .fr (.str z) => P (.seq (z.cps.toList.map fun c => D.str ⟨#[c]⟩)) ρ1 M1
  | _ => False) R
theorem itr_s {K : PySem.W.Frag} {F : Hp} (z : Str) : ItR K F (Its z) (.seq (z.cps.toList.map fun c => D.str ⟨#[c]⟩)) where
  go := fun i H x hi => by
    have hi : i < z.cps.size := by simpa [ItD.n] using hi
    exact hi
  stop := fun i H x hi => by
    have hi : z.cps.size ≤ i := by simpa [ItD.n] using hi
    exact hi
  yld := fun G F1 as M i H x H' o x1 hi hy => by
    obtain ⟨e, c, h1, h2⟩ := hy
    subst e
    subst h2
    refine ⟨F1, _, Ex.refl _, o, .str _, ?_⟩
    show (z.cps.toList.map fun c => D.str ⟨#[c]⟩)[i]? = _
    rw [List.getElem?_map, Array.getElem?_toList, h1]; rfl
theorem gi_str {X : Cx} {Wx : WX} {tg l : Expr} {w : DE} (hl : GE X Wx l w) : GI X Wx tg l (dStrI' w) := ⟨PI.imp (pi_str hl.pe) fun σ H R ⟨G, F, as, ρ, M, P, Rx, o, w, k, kx⟩ => ⟨G, F, as, ρ, M, _, Rx, o, w, fun u ρ1 M1 F1 as1 H1 v w1 x1 p1 o1 r1 => by
  match u, w1, r1 with
  | .fr (.str z), w1, r1 =>
    cases (show DR X.K F1 v (.str z) from r1)
    exact ⟨z, rfl, k _ _ _ F1 as1 H1 _ w1 x1 p1 o1 (itr_s z)⟩, kx⟩⟩
/-! ### comprehensions -/
theorem lc_gen {tmp : List Nat} {wi : DI} {g : DG} {wt : DT} {we : DE} {ρ : Sl} {M : Mem} {P : MO → Sl → Mem → Prop} {R : RX} (it : ItD) (ρ1 : Sl) (M1 : Mem) (Iv : Nat → List D → Mem → Prop) (h0 : ∀ Q : ItD → Sl → Mem → Prop, Q it ρ1 M1 → wi ρ M Q R) (i0 : Iv 0 [] M1)
    (turn : ∀ k d acc M2, k < it.n → it.yld k d → Iv k acc M2 → g (.fr d) (forget tmp ρ1) fun ρ3 => wt ρ3 M2 (fun b ρ4 M4 => ifB b (we ρ4 M4 (fun u _ M5 => match u with
      | .fr d' => acc.length < sizeLine ∧ trM M1.length (Iv (k + 1) (acc ++ [d'])) M5
      | _ => False) RF) (trM M1.length (Iv (k + 1) acc) M4)) RF)
    (e : ∀ acc M2, Iv it.n acc M2 → P (.lst acc) ρ1 M2) : dLc tmp wi g wt we ρ M P R := by
  unfold dLc
  exact h0 _ ⟨Iv, i0, turn, e⟩
theorem iT {b : Bool} {A B : Prop} (h : b = true) (a : A) : ifB b A B := ⟨fun _ => a, fun e => (by rw [h] at e; cases e)⟩
theorem iF {b : Bool} {A B : Prop} (h : b = false) (a : B) : ifB b A B := ⟨fun e => (by rw [h] at e; cases e), fun _ => a⟩
theorem take_snoc {α : Type} {es : List α} {k : Nat} {e : α} (h : es[k]? = some e) : es.take k ++ [e] = es.take (k + 1) := by
  rw [List.take_add_one, h]; rfl
def LcQ (k : Nat) (es : List D) (M1 : Mem) (u : U) (M5 : Mem) : Prop := match u with
  | .fr d' => (es.take k).length < sizeLine ∧ trM M1.length (fun M => M = M1 ∧ es.take k ++ [d'] = es.take (k + 1)) M5
  | _ => False
theorem lcq {k : Nat} {es : List D} {M1 : Mem} {e : D} (h : es[k]? = some e) (hs : es.length < 100000) (hc : clM M1.length M1 = true) : LcQ k es M1 (.fr e) M1 :=
  ⟨Nat.lt_of_le_of_lt (List.length_take_le' _ _) (Nat.lt_of_lt_of_le hs (by decide)), by rw [List.take_length]; exact hc, by rw [List.take_length], take_snoc h⟩
/-- a comprehension over a sequence that maps and leaves the memory -/
theorem lc_map {tmp : List Nat} {wi : DI} {g : DG} {we : DE} {ρ : Sl} {M : Mem} {P : MO → Sl → Mem → Prop} {R : RX} {ds : List D} (es : List D) {ρ1 : Sl} {M1 : Mem} (h0 : ∀ Q : ItD → Sl → Mem → Prop, Q (.seq ds) ρ1 M1 → wi ρ M Q R) (hl : ds.length = es.length)
    (turn : ∀ k d e, ds[k]? = some d → es[k]? = some e → g (.fr d) (forget tmp ρ1) fun ρ3 => dYes ρ3 M1 (fun b ρ4 M4 => ifB b (we ρ4 M4 (fun u _ M5 => LcQ k es M1 u M5) RF) (trM M1.length (fun M => M = M1 ∧ es.take k = es.take (k + 1)) M4)) RF) (h : P (.lst es) ρ1 M1) :
    dLc tmp wi g dYes we ρ M P R := by
  refine lc_gen (.seq ds) ρ1 M1 (fun k acc M2 => M2 = M1 ∧ acc = es.take k) h0 ⟨rfl, rfl⟩ ?_ ?_
  · rintro k d acc M2 hk hy ⟨rfl, rfl⟩
    have hk2 : k < es.length := by rw [← hl]; exact hk
    exact turn k d es[k] hy (List.getElem?_eq_getElem hk2)
  · rintro acc M2 ⟨rfl, rfl⟩
    have : es.take (ItD.seq ds).n = es := by
      show es.take ds.length = es
      rw [hl, List.take_length]
    rw [this]; exact h
end L3
/-! L3O: lists of mutable lists: kept in a comprehension, handed back, frozen at will. -/
namespace L3
open PySem PySem.Spec PyProof.Rows L2
variable {G : Hp}
section
variable {X : Cx} {Wx : WX}
/-- a comprehension whose items may be handles; the memory grows -/
@[irreducible] def dLcU (tmp : List Nat) (wi : DI) (g : DG) (wt : DT) (we : DE) : DN := fun ρ M P R => wi ρ M (fun it ρ1 M1 => ∃ Iv : Nat → List U → Mem → Prop, Iv 0 [] M1 ∧
  (∀ k d acc M2, k < it.n → it.yld k d → Iv k acc M2 → g (.fr d) (forget tmp ρ1) fun ρ3 => wt ρ3 M2 (fun b ρ4 M4 => ifB b (we ρ4 M4 (fun u _ M5 => acc.length < sizeLine ∧ Iv (k + 1) (acc ++ [u]) M5) RF) (Iv (k + 1) acc M4)) RF) ∧
  ∀ acc M2, Iv it.n acc M2 → P (.nst acc) ρ1 M2) R
theorem URs.append {K : PySem.W.Frag} {F : Hp} {as : List Addr} : ∀ {vs : List V} {us : List U} {v : V} {u : U}, URs K F as vs us → UR K F as v u → URs K F as (vs ++ [v]) (us ++ [u])
  | _, _, _, _, .nil, h => .cons h .nil
  | _, _, _, _, .cons q t, h => .cons q (URs.append t h)
theorem lc_core3U {tmp js : List Nat} {wi : DI} {g : DG} {wt : DT} {we : DE} (hjs : ∀ j ∈ js, j ∈ tmp) (σ : L2.St) (H : Hp) (Q : VK) (h : cN X.K Wx (dLcU tmp wi g wt we) σ H Q) : tLc (cI X.K Wx wi) (cG X.K js g) (cT X.K WF wt) (cE X.K WF we) tmp σ H Q := by
  obtain ⟨G, F, as, ρ, M, P, R, o, w, k, kx⟩ := h
  unfold dLcU at w
  refine ⟨G, F, as, ρ, M, _, R, o, w, fun it ρ1 M1 F1 as1 H1 J w1 x1 p1 o1 ir => fun L hL => ?_, kx⟩
  obtain ⟨Iv, h0, hs, hd⟩ := w1
  have k1 := k.up x1 p1
  have hGL : G L = none := o1.m.gx.none hL
  refine ⟨fun i m H => m = it.n - i ∧ i ≤ it.n ∧ ∃ F2 as2 M2 vs acc, Ex F1 F2 ∧ as1 <+: as2 ∧ OkM X.K G F2 as2 H M2 ∧ F2 L = none ∧ (∀ (h : Nat) (mo' : MO), M2[h]? = some (some mo') → as2[h]? ≠ some L) ∧ H L = some (.lst vs) ∧ URs X.K F2 as2 vs acc ∧ Iv i acc M2,
    ⟨it.n, by simp, Nat.zero_le _, F1, as1, M1, [], [], Ex.refl _, List.prefix_refl _, o1.m.grown hL, o1.m.ex.none hL, fresh_ne o1.m hL, upd_same, .nil, h0⟩, ?_⟩
  rintro i m H2 ⟨rfl, hi, F2, as2, M2, vs, acc, x2, p2, o2, hF2, hn2, hH2, dr, hI⟩
  by_cases hlt : i < it.n
  · refine .inr ⟨ir.go i H2 (x2.trans o2.ex) hlt, fun H' => ∃ F2 as2 M2 vs acc, Ex F1 F2 ∧ as1 <+: as2 ∧ OkM X.K G F2 as2 H' M2 ∧ F2 L = none ∧ (∀ (h : Nat) (mo' : MO), M2[h]? = some (some mo') → as2[h]? ≠ some L) ∧ H' L = some (.lst vs) ∧ URs X.K F2 as2 vs acc ∧ Iv (i + 1) acc M2,
      fun H' h => ⟨it.n - (i + 1), by omega, rfl, hlt, h⟩, fun x H3 hy => ?_⟩
    obtain ⟨F3, d, x3, om, dx, yd⟩ := ir.yld (upd G L (.lst vs)) F2 as2 M2 i H2 x H3 (o2.guard hF2 hH2 hn2) x2 hlt hy
    have os : Ok X.K (upd G L (.lst vs)) F3 as2 H3 (L2.wipe σ tmp) M2 (forget tmp ρ1) := by
      refine ⟨om, ?_, ?_⟩
      · rw [forget_len, wipe_length]; exact o1.slen
      · intro j u e
        obtain ⟨h1, h2⟩ := forget_some e
        obtain ⟨v, h3, h4⟩ := o1.slot j u h1
        exact ⟨v, by rw [wipe_out h2]; exact h3, h4.mono (x2.trans x3) p2⟩
    have back : ∀ {F5 : Hp} {as5 : List Addr} {H5 : Hp} {M5 : Mem}, OkM X.K (upd G L (.lst vs)) F5 as5 H5 M5 →
        H5 L = some (.lst vs) ∧ F5 L = none ∧ OkM X.K G F5 as5 H5 M5 ∧ (∀ (h : Nat) (mo' : MO), M5[h]? = some (some mo') → as5[h]? ≠ some L) := fun {F5 as5 H5 M5} o5 => by
      refine ⟨o5.gx L _ upd_same, o5.gf L _ upd_same, o5.unguard hGL, fun h mo' e z => ?_⟩
      obtain ⟨b, ho', e1, e2, e3, e4⟩ := o5.cell h mo' e
      rw [z] at e1; cases e1
      rw [upd_same] at e2; cases e2.2
    refine ⟨_, F3, as2, _, M2, .fr d, _, os, dx, hs i d acc M2 hlt yd hI, fun ρ4 σ4 h4 o4 hw => ⟨by rw [hw tmp hjs, wipe_id], ?_⟩⟩
    refine ⟨_, F3, as2, ρ4, M2, _, RF, o4, h4, fun b ρ5 M5 F5 as5 H5 h5 x5 p5 o5 => ?_, KXF⟩
    cases b with
    | false =>
      have c2 := h5.2 rfl
      obtain ⟨b1, b2, b3, b4⟩ := back o5.m
      exact ⟨F5, as5, _, vs, acc, (x2.trans x3).trans x5, p2.trans p5, b3, b2, b4, b1, dr.mono (x3.trans x5) p5, c2⟩
    | true =>
      refine ⟨_, F5, as5, ρ5, M5, _, RF, o5, h5.1 rfl, fun u ρ6 M6 F6 as6 H6 y h6 x6 p6 o6 r6 => ?_, KXF⟩
      obtain ⟨c0, c2⟩ := h6
      obtain ⟨b1, b2, b3, b4⟩ := back o6.m
      refine ⟨vs, b1, by rw [dr.length]; exact c0, F6, as6, _, vs ++ [y], acc ++ [u], ((x2.trans x3).trans x5).trans x6, p2.trans (p5.trans p6), b3.other b2 hGL b4, b2, b4, upd_same, ?_, c2⟩
      exact (dr.mono ((x3.trans x5).trans x6) (p5.trans p6)).append r6
  · have e : i = it.n := by omega
    subst e
    exact .inl ⟨ir.stop _ H2 (x2.trans o2.ex) (Nat.le_refl _), k1 (.nst acc) ρ1 M2 F2 as2 H2 L _ (hd _ _ hI) x2 p2 (o1.of o2 x2 p2) hF2 hGL hH2 hn2 ⟨vs, rfl, dr⟩⟩
theorem gn_lcU {elt tg iter : Expr} {ifs : List Expr} {scope : Scope} {own : List (Str × Nat)} {pos : Pos} {wi : DI} {js : List Nat} {g : DG} {wt : DT} {we : DE} (hc : X.calm = true) (hN : X.N.Nodup) (hi : GI X Wx tg iter wi) (ok : BlkOk X.N X.env.scope scope own)
    (hg : ∀ (s : Shared) (H : Hp) (C : Addr) (cl : List (Str × Addr)) (fp : List Addr), GG (X.blk s H scope (compEnvC scope cl C X.env) fp) tg js g)
    (ht : ∀ (s : Shared) (H : Hp) (C : Addr) (cl : List (Str × Addr)) (fp : List Addr), GTs (X.blk s H scope (compEnvC scope cl C X.env) fp) WF ifs wt)
    (he : ∀ (s : Shared) (H : Hp) (C : Addr) (cl : List (Str × Addr)) (fp : List Addr), GE (X.blk s H scope (compEnvC scope cl C X.env) fp) WF elt we)
    (hjs : ∀ j ∈ js, j ∈ own.map (·.2) := by decide) (hs : ∀ x, foldedSetIterable iter X.env x = pure x := by intro _; rfl) : GN X Wx (.ListComp elt [⟨tg, iter, ifs, 0⟩] scope pos) (dLcU (own.map (·.2)) wi g wt we) :=
  ⟨PE.imp (pe_lc hc hN hi.pi ok (fun s H C cl fp => (hg s H C cl fp).pg) (fun s H C cl fp => (ht s H C cl fp).pts) (fun s H C cl fp => (he s H C cl fp).pe) hs) (lc_core3U hjs)⟩
theorem gs_setLcU (keep : Bool) (i : Nat) {y : Str} {py : Pos} {elt tg iter : Expr} {ifs : List Expr} {scope : Scope} {own : List (Str × Nat)} {pos spos : Pos} {wi : DI} {js : List Nat} {g : DG} {wt : DT} {we : DE} (hc : X.calm = true) (hN : X.N.Nodup)
    (hsw : swapsWith (.ListComp elt [⟨tg, iter, ifs, 0⟩] scope pos) (some (.Name y py)) spos.line X.env = pure true) (hi : GI X Wx tg iter wi) (ok : BlkOk X.N X.env.scope scope own)
    (hg : ∀ (s : Shared) (H : Hp) (C : Addr) (cl : List (Str × Addr)) (fp : List Addr), GG (X.blk s H scope (compEnvC scope cl C X.env) fp) tg js g)
    (ht : ∀ (s : Shared) (H : Hp) (C : Addr) (cl : List (Str × Addr)) (fp : List Addr), GTs (X.blk s H scope (compEnvC scope cl C X.env) fp) WF ifs wt)
    (he : ∀ (s : Shared) (H : Hp) (C : Addr) (cl : List (Str × Addr)) (fp : List Addr), GE (X.blk s H scope (compEnvC scope cl C X.env) fp) WF elt we)
    (hy : X.N[i]? = some y := by rfl) (hyl : X.env.scope.names.lookup y = some .local := by rfl) (hjs : ∀ j ∈ js, j ∈ own.map (·.2) := by decide) (hs : ∀ x, foldedSetIterable iter X.env x = pure x := by intro _; rfl) :
    GS X Wx (.Assign [.Name y py] (.ListComp elt [⟨tg, iter, ifs, 0⟩] scope pos) spos) (dSetN (dLcU (own.map (·.2)) wi g wt we) keep i) :=
  ⟨PS.imp (ps_setLc hc hN hy hyl hsw hi.pi ok (fun s H C cl fp => (hg s H C cl fp).pg) (fun s H C cl fp => (ht s H C cl fp).pts) (fun s H C cl fp => (he s H C cl fp).pe) hs) fun D σ H h => by
    obtain ⟨G, F, as, ρ, M, P, o, w, k⟩ := setN_core D σ H h
    exact lc_core3U hjs σ H _ ⟨G, F, as, ρ, M, P, o, w, k⟩⟩
theorem lcU_gen {tmp : List Nat} {wi : DI} {g : DG} {wt : DT} {we : DE} {ρ : Sl} {M : Mem} {P : MO → Sl → Mem → Prop} {R : RX} (it : ItD) (ρ1 : Sl) (M1 : Mem) (Iv : Nat → List U → Mem → Prop) (h0 : ∀ Q : ItD → Sl → Mem → Prop, Q it ρ1 M1 → wi ρ M Q R) (i0 : Iv 0 [] M1)
    (turn : ∀ k d acc M2, k < it.n → it.yld k d → Iv k acc M2 → g (.fr d) (forget tmp ρ1) fun ρ3 => wt ρ3 M2 (fun b ρ4 M4 => ifB b (we ρ4 M4 (fun u _ M5 => acc.length < sizeLine ∧ Iv (k + 1) (acc ++ [u]) M5) RF) (Iv (k + 1) acc M4)) RF)
    (e : ∀ acc M2, Iv it.n acc M2 → P (.nst acc) ρ1 M2) : dLcU tmp wi g wt we ρ M P R := by
  unfold dLcU
  exact h0 _ ⟨Iv, i0, turn, e⟩
end
/-! ### freezing at will -/
/-- the state ρ M may be seen as ρ' M' -/
def Cvt (ρ : Sl) (M : Mem) (ρ' : Sl) (M' : Mem) : Prop := ∀ (K : PySem.W.Frag) (G F : Hp) (as : List Addr) (H : Hp) (σ : L2.St), Ok K G F as H σ M ρ → ∃ F', Ex F F' ∧ Ok K G F' as H σ M' ρ'
theorem Cvt.refl (ρ : Sl) (M : Mem) : Cvt ρ M ρ M := fun K G F as H σ o => ⟨F, Ex.refl _, o⟩
theorem Cvt.trans {ρ ρ1 ρ2 : Sl} {M M1 M2 : Mem} (h : Cvt ρ M ρ1 M1) (q : Cvt ρ1 M1 ρ2 M2) : Cvt ρ M ρ2 M2 := fun K G F as H σ o => by
  obtain ⟨F1, x1, o1⟩ := h K G F as H σ o
  obtain ⟨F2, x2, o2⟩ := q K G F1 as H σ o1
  exact ⟨F2, x1.trans x2, o2⟩
def frzU (h : Nat) (d : D) : U → U
  | .mt k => if k = h then .fr d else .mt k
  | x => x
def frzM (h : Nat) (d : D) : Option MO → Option MO
  | some (.nst us) => some (.nst (us.map (frzU h d)))
  | x => x
theorem frzU_ok {K : PySem.W.Frag} {F : Hp} {as : List Addr} {h : Nat} {d : D} {a : Addr} (ea : as[h]? = some a) (dr : DR K F (.ref a) d) {v : V} {u : U} (r : UR K F as v u) : UR K F as v (frzU h d u) := by
  cases u with
  | fr d' => exact r
  | mt k =>
    unfold frzU
    by_cases hk : k = h
    · subst hk
      obtain ⟨b, eb, rfl⟩ := r
      rw [ea] at eb; cases eb
      show UR K F as (.ref a) (if k = k then U.fr d else U.mt k)
      rw [if_pos rfl]; exact dr
    · simp only [if_neg hk]; exact r
theorem frzUs_ok {K : PySem.W.Frag} {F : Hp} {as : List Addr} {h : Nat} {d : D} {a : Addr} (ea : as[h]? = some a) (dr : DR K F (.ref a) d) : ∀ {vs : List V} {us : List U}, URs K F as vs us → URs K F as vs (us.map (frzU h d))
  | _, _, .nil => .nil
  | _, _, .cons q t => .cons (frzU_ok ea dr q) (frzUs_ok ea dr t)
/-- a mutable object is frozen, wherever it is known -/
theorem Cvt.freeze {ρ : Sl} {M : Mem} {h : Nat} {mo : MO} {d : D} (e : M[h]? = some (some mo)) (ed : mo.toD = some d) : Cvt ρ M (ρ.map (frz h d)) ((M.set h none).map (frzM h d)) := fun K G F as H σ o => by
  obtain ⟨a, ho, ea, e2, hH, hr⟩ := o.m.cell h mo e
  obtain ⟨F', x, o', dr⟩ := o.freeze (v := .ref a) e ed ⟨a, ea, rfl⟩
  refine ⟨F', x, ⟨o'.m.ex, o'.m.gx, o'.m.gf, by rw [List.length_map]; exact o'.m.len, fun k mk ek => ?_, fun i j m1 m2 b e1 e2 a1 a2 => ?_⟩, o'.slen, o'.slot⟩
  · rw [List.getElem?_map] at ek
    cases q : (M.set h none)[k]? with
    | none => rw [q] at ek; cases ek
    | some z =>
      rw [q] at ek
      cases z with
      | none => cases ek
      | some m =>
        obtain ⟨b, ho', c1, c2, c3, c4⟩ := o'.m.cell k m q
        refine ⟨b, ho', c1, c2, c3, ?_⟩
        cases m with
        | nst us =>
          cases ek
          obtain ⟨vs, rfl, r⟩ := c4
          exact ⟨vs, rfl, frzUs_ok ea dr r⟩
        | _ => cases ek; exact c4
  · have key : ∀ {i : Nat} {m : MO}, ((M.set h none).map (frzM h d))[i]? = some (some m) → ∃ m', (M.set h none)[i]? = some (some m') := fun {i m} e => by
      rw [List.getElem?_map] at e
      cases q : (M.set h none)[i]? with
      | none => rw [q] at e; cases e
      | some z =>
        rw [q] at e
        cases z with
        | none => cases e
        | some m => exact ⟨m, rfl⟩
    obtain ⟨m1', q1⟩ := key e1
    obtain ⟨m2', q2⟩ := key e2
    exact o'.m.inj i j m1' m2' b q1 q2 a1 a2
section
variable {X : Cx} {Wx : WX}
/-- before these statements the state is seen otherwise -/
def dGh (w : DS) : DS := fun ρ M P => ∃ ρ' M', Cvt ρ M ρ' M' ∧ w ρ' M' P
theorem gss_gh {sts : List Stmt} {w : DS} (h : GSs X Wx sts w) : GSs X Wx sts (dGh w) := ⟨PSs.imp h.pss fun D σ H ⟨G, F, as, ρ, M, P, o, ⟨ρ', M', c, w⟩, k⟩ => by
  obtain ⟨F1, x1, o1⟩ := c X.K G F as H σ o
  exact ⟨G, F1, as, ρ', M', P, o1, w, k.up x1 (List.prefix_refl _)⟩⟩
/-! ### o[i] = v, the list of mutable items -/
theorem URs.set {K : PySem.W.Frag} {F : Hp} {as : List Addr} : ∀ {vs : List V} {us : List U} {i : Nat} {v : V} {u : U}, URs K F as vs us → UR K F as v u → URs K F as (vs.set i v) (us.set i u)
  | _, _, i, _, _, .nil, _ => .nil
  | _, _, 0, _, _, .cons _ t, h => .cons h t
  | _, _, i + 1, _, _, .cons q t, h => .cons q (URs.set (i := i) t h)
def dSetIxU (wv wo wi : DE) : DS := fun ρ M P => wv ρ M (fun v ρ1 M1 => wo ρ1 M1 (fun u ρ2 M2 => wi ρ2 M2 (fun i ρ3 M3 => match i, u with
  | .fr (.int k), .mt h => (match M3[h]? with
    | some (some (.nst us)) => ∃ j, ixN us.length k = some j ∧ P.nx ρ3 (M3.set h (some (.nst (us.set j v))))
    | _ => False)
  | _, _ => False) P.ex) P.ex) P.ex
theorem gs_setIxU {a b e : Expr} {pos pos' : Pos} {wv wo wi : DE} (hv : GE X Wx e wv) (ho : GE X Wx a wo) (hi : GE X Wx b wi) (hg : ∀ {to ti : TE} {t : TSet}, PE X a to → PE X b ti → PSet X t → PG X (.Subscript a b pos') (gSub to ti t))
    (hs : swapsWithSole [.Subscript a b pos'] e pos.line X.env = pure false := by rfl) (hw : swappedStores [.Subscript a b pos'] e X.env = pure none := by rfl) (h1 : (assignEach [.Subscript a b pos'] X.env).map (·.2) = [assign (.Subscript a b pos') X.env] := by rfl) : GS X Wx (.Assign [.Subscript a b pos'] e pos) (dSetIxU wv wo wi) :=
  ⟨PS.imp (ps_asg hv.pe (hg ho.pe hi.pe set_list) hs hw h1) fun D σ H ⟨G, F, as, ρ, M, P, o, w, k⟩ => ⟨G, F, as, ρ, M, _, P.ex, o, w, fun v ρ1 M1 F1 as1 H1 vv w1 x1 p1 o1 r1 =>
    ⟨G, F1, as1, ρ1, M1, _, P.ex, o1, w1, fun u ρ2 M2 F2 as2 H2 vo w2 x2 p2 o2 r2 => ⟨G, F2, as2, ρ2, M2, _, P.ex, o2, w2, fun i ρ3 M3 F3 as3 H3 vi w3 x3 p3 o3 r3 => by
      match i, u, w3, r3, r2 with
      | .fr (.int kk), .mt h, w3, r3, r2 =>
        cases r3
        cases q : M3[h]? with
        | none => simp [q] at w3
        | some z =>
          cases z with
          | none => simp [q] at w3
          | some mo =>
            cases mo with
            | nst us =>
              simp only [q] at w3
              obtain ⟨j, hj, hn⟩ := w3
              obtain ⟨a, ea, rfl⟩ := r2.mono x3 p3
              obtain ⟨ho, hF, hH, vs, rfl, dr⟩ := o3.m.here q ea
              have rv : UR X.K F3 as3 vv v := r1.mono (x2.trans x3) (p2.trans p3)
              refine ⟨a, vs, kk, j, rfl, rfl, hH, by rw [dr.length]; exact hj, ?_⟩
              exact k.nx _ _ F3 as3 _ _ hn ((x1.trans x2).trans x3) ((p1.trans p2).trans p3) (o3.of (o3.m.write q ea ⟨_, rfl, dr.set rv⟩) (Ex.refl _) (List.prefix_refl _))
            | _ => simp [q] at w3, k.ex.up (x1.trans x2) (p1.trans p2)⟩, k.ex.up x1 p1⟩, k.ex⟩⟩
end
/-! ### a def that hands back more than one fresh object -/
section
variable {P : Program} {w : World} {K : PySem.W.Frag} {mg : Str → Option Value} {base : Heap}
theorem fn_okU {x qual : Str} {st : Stmt} {f : Addr} {fd : FuncData} {N ps : List Str} {k : Nat} {W : DSp} {wb : DS} (F : Fun K x qual st f fd) (S : FnScope N ps (defScope st)) (hn : ps.length ≤ N.length) (len : ∀ args M Pd R, W args M Pd R → args.length = ps.length)
    (hb : ∀ (cdv : Value) (A : Around) (outer : List Env) (s : Shared) (H : Hp) (E : XK), Room k (A.deeper (envOfC qual (defScope st) s.heap.objs.size f cdv)) →
      GSs (cxOf (L2.CX P w) P w K mg base N qual (defScope st) f cdv A outer s H E) (fun cls d _ H => E cls d H) (defBody st) wb)
    (hW : ∀ args M Pd R, W args M Pd R → wb (start3 N args) M { nx := fun _ M' => Pd (.fr .non) M', rt := Pd, ex := finX M.length R }) : FnOk P w K mg base (L2.CX P w) (k + 1) f fd ps (spOf K W) := by
  refine F.okX S (fun vs H Q E h => ?_) (fun cdv A outer s H vs Q E hr h => ⟨_, (hb cdv A outer s H E hr).pss, ?_⟩)
  · obtain ⟨G, F', as, args, M, Pd, R, o, r, hw, _⟩ := h
    rw [r.length]; exact len _ _ _ _ hw
  · obtain ⟨G, F', as, args, M, Pd, R, o, r, hw, kr, kx⟩ := h
    have hl := r.length
    refine ⟨G, F', as, start3 N args, M, _, ⟨o, ?_, fun i u e => ?_⟩, hW _ _ _ _ hw, ⟨fun ρ' M' F1 as1 H1 σ1 h x p o1 => ?_, kr, fun _ _ _ _ _ _ h => h.elim, fun _ _ _ _ _ _ h => h.elim, fun C fs ρ' M' F1 as1 H1 σ1 d h x p o1 xr => ?_⟩⟩
    · unfold start3 L2.start
      simp [hl]
    · unfold start3 at e
      obtain ⟨v, h1, h2⟩ := r.get (start3_get e)
      exact ⟨v, start_get h1, h2⟩
    · exact kr (.fr .non) M' F1 as1 H1 .non h x p o1.m .non
    · obtain ⟨h1, h2⟩ := h
      have oc := o1.m.cut h1
      rw [o.len, pre_take p] at oc
      rw [o.len] at h2
      exact kx C fs _ F1 as H1 d h2 x (List.prefix_refl _) oc xr
end
end L3
/-! L3P: a fresh object, kept or frozen as the proof likes. -/
namespace L3
open PySem PySem.Spec PyProof.Rows L2
variable {G : Hp}
section
variable {X : Cx} {Wx : WX}
def dEither (w : DN) : DE := fun ρ M P R => w ρ M (fun mo ρ1 M1 => P (.mt M1.length) ρ1 (M1 ++ [some mo]) ∨ ∃ d, mo.toD = some d ∧ P (.fr d) ρ1 M1) R
theorem ge_either {e : Expr} {w : DN} (h : GN X Wx e w) : GE X Wx e (dEither w) := ⟨PE.imp h.pe fun σ H Q ⟨G, F, as, ρ, M, P, R, o, w, k, kx⟩ => ⟨G, F, as, ρ, M, _, R, o, w, fun mo ρ1 M1 F1 as1 H1 a ho w1 x1 p1 o1 hF hG hH hn hr => by
  rcases w1 with w1 | ⟨d, qd, w1⟩
  · have pr : as1 <+: as1 ++ [a] := List.prefix_append _ _
    exact k _ _ _ F1 (as1 ++ [a]) H1 _ w1 x1 (p1.trans pr) (o1.of (o1.m.push hF hG hH hr hn) (Ex.refl _) pr) ⟨a, by rw [o1.m.len]; simp, rfl⟩
  · have x2 : Ex F1 (upd F1 a ho) := Ex.new hF
    have dr : DR X.K (upd F1 a ho) (.ref a) d := MO.toD_ok qd (hr.mono x2 (List.prefix_refl _)) upd_same
    refine k _ _ _ (upd F1 a ho) as1 H1 _ w1 (x1.trans x2) p1 (o1.of ⟨fun b u q => ?_, o1.m.gx, fun b u q => ?_, o1.m.len, fun j mk ek => ?_, o1.m.inj⟩ x2 (List.prefix_refl _)) dr
    · by_cases hb : b = a
      · subst hb; rw [upd_same] at q; cases q; exact hH
      · rw [upd_ne hb] at q; exact o1.m.ex b u q
    · rw [upd_ne (ne_of_none q hG)]; exact o1.m.gf b u q
    · obtain ⟨b, hb, e1, e2, e3, e4⟩ := o1.m.cell j mk ek
      have nb : b ≠ a := fun z => hn j mk ek (z ▸ e1)
      exact ⟨b, hb, e1, ⟨by rw [upd_ne nb]; exact e2.1, e2.2⟩, e3, e4.mono x2 (List.prefix_refl _)⟩, kx⟩⟩
end
end L3
namespace LAW
open PySem PySem.Spec PyProof.Rows L2 L3
def topS (i : Nat) : Stmt := PySem.Challenge.pw_reactivesynth_k42_separating_word.main.body.getD i (.Pass ⟨0, 0, 0, 0⟩)
abbrev s_all_below : Stmt := topS 6
abbrev N_all_below : List Str := ["numbers", "limit", "number"]
theorem sc_all_below : FnScope N_all_below ["numbers", "limit"] (defScope s_all_below) := ⟨rfl, rfl, rfl, by decide +kernel, rfl, by decide +kernel, by decide +kernel⟩
abbrev s_MachineU_initU : Stmt := inClass (topS 8) 0
abbrev N_MachineU_initU : List Str := ["self", "inputs", "outputs", "lead", "opening", "rows", "valid", "row", "pair"]
theorem sc_MachineU_initU : FnScope N_MachineU_initU ["self", "inputs", "outputs", "lead", "opening", "rows"] (defScope s_MachineU_initU) := ⟨rfl, rfl, rfl, by decide +kernel, rfl, by decide +kernel, by decide +kernel⟩
abbrev s_separating_word : Stmt := topS 11
abbrev N_separating_word : List Str := ["first", "second", "queue", "seen", "at", "one", "two", "letters", "letter", "pair"]
theorem sc_separating_word : FnScope N_separating_word ["first", "second"] (defScope s_separating_word) := ⟨rfl, rfl, rfl, by decide +kernel, rfl, by decide +kernel, by decide +kernel⟩
abbrev s_l_draws : Stmt := topS 13
abbrev N_l_draws : List Str := ["_law_script", "_law_count", "_law_cells", "_law_found", "_law_mixed", "_law_k", "_law_j", "_law_cell", "_law_again"]
theorem sc_l_draws : FnScope N_l_draws ["_law_script", "_law_count"] (defScope s_l_draws) := ⟨rfl, rfl, rfl, by decide +kernel, rfl, by decide +kernel, by decide +kernel⟩
abbrev s_l_take : Stmt := topS 14
abbrev N_l_take : List Str := ["_law_draws_here", "_law_limit"]
theorem sc_l_take : FnScope N_l_take ["_law_draws_here", "_law_limit"] (defScope s_l_take) := ⟨rfl, rfl, rfl, by decide +kernel, rfl, by decide +kernel, by decide +kernel⟩
abbrev s_l_flat : Stmt := topS 15
abbrev N_l_flat : List Str := ["_law_rows", "_law_row"]
theorem sc_l_flat : FnScope N_l_flat ["_law_rows"] (defScope s_l_flat) := ⟨rfl, rfl, rfl, by decide +kernel, rfl, by decide +kernel, by decide +kernel⟩
abbrev s_l_machine : Stmt := topS 16
abbrev N_l_machine : List Str := ["_law_draws_here", "_law_inputs", "_law_outputs", "_law_lead", "_law_most", "_law_count", "_law_opening", "_law_rows", "_law_state", "_law_row", "_law_letter", "_law_target", "_law_k"]
theorem sc_l_machine : FnScope N_l_machine ["_law_draws_here", "_law_inputs", "_law_outputs", "_law_lead", "_law_most"] (defScope s_l_machine) := ⟨rfl, rfl, rfl, by decide +kernel, rfl, by decide +kernel, by decide +kernel⟩
abbrev s_l_outcome : Stmt := topS 17
abbrev N_l_outcome : List Str := ["_law_one", "_law_two"]
theorem sc_l_outcome : FnScope N_l_outcome ["_law_one", "_law_two"] (defScope s_l_outcome) := ⟨rfl, rfl, rfl, by decide +kernel, rfl, by decide +kernel, by decide +kernel⟩
abbrev s_l_expected : Stmt := topS 18
abbrev N_l_expected : List Str := ["_law_first", "_law_second", "_law_words", "_law_seen", "_law_turn", "_law_longer", "_law_word", "_law_letter", "_law_one", "_law_two"]
theorem sc_l_expected : FnScope N_l_expected ["_law_first", "_law_second"] (defScope s_l_expected) := ⟨rfl, rfl, rfl, by decide +kernel, rfl, by decide +kernel, by decide +kernel⟩
abbrev s_law : Stmt := topS 19
abbrev N_law : List Str := ["_law_script", "_law_draws_here", "_law_inputs", "_law_outputs", "_law_lead", "_law_opening", "_law_rows", "_law_sizes", "_law_other", "_law_kind", "_law_drawn", "_law_row", "_law_first", "_law_double", "_law_k", "_law_one", "_law_two", "_law_found", "_law_expected_here", "_law_pair"]
theorem sc_law : FnScope N_law ["_law_script"] (defScope s_law) := ⟨rfl, rfl, rfl, by decide +kernel, rfl, by decide +kernel, by decide +kernel⟩
abbrev N_Machine : List Str := ["inputs", "outputs", "lead", "opening", "rows"]
theorem nd_Machine : N_Machine.Nodup := by decide +kernel
structure Ad where
  f_all_below : Addr
  d_all_below : FuncData
  f_MachineU_initU : Addr
  d_MachineU_initU : FuncData
  f_separating_word : Addr
  d_separating_word : FuncData
  f_l_draws : Addr
  d_l_draws : FuncData
  f_l_take : Addr
  d_l_take : FuncData
  f_l_flat : Addr
  d_l_flat : FuncData
  f_l_machine : Addr
  d_l_machine : FuncData
  f_l_outcome : Addr
  d_l_outcome : FuncData
  f_l_expected : Addr
  d_l_expected : FuncData
  f_law : Addr
  d_law : FuncData
  Machine : Addr
  Mismatch : Addr
structure Txt (K : PySem.W.Frag) (mg : Str → Option Value) (A : Ad) : Prop where
  F_all_below : Fun K "all_below" "all_below" s_all_below A.f_all_below A.d_all_below
  b_all_below : Binds K A.d_all_below ["numbers", "limit"] []
  g_all_below : mg "all_below" = some (.ref A.f_all_below)
  k_all_below : PySem.W.keepIn K (.ref A.f_all_below) = true
  F_MachineU_initU : Fun K "__init__" "Machine.__init__" s_MachineU_initU A.f_MachineU_initU A.d_MachineU_initU
  b_MachineU_initU : Binds K A.d_MachineU_initU ["self", "inputs", "outputs", "lead", "opening", "rows"] []
  k_MachineU_initU : PySem.W.keepIn K (.ref A.f_MachineU_initU) = true
  F_separating_word : Fun K "separating_word" "separating_word" s_separating_word A.f_separating_word A.d_separating_word
  b_separating_word : Binds K A.d_separating_word ["first", "second"] []
  g_separating_word : mg "separating_word" = some (.ref A.f_separating_word)
  k_separating_word : PySem.W.keepIn K (.ref A.f_separating_word) = true
  F_l_draws : Fun K "_law_draws" "_law_draws" s_l_draws A.f_l_draws A.d_l_draws
  b_l_draws : Binds K A.d_l_draws ["_law_script", "_law_count"] []
  g_l_draws : mg "_law_draws" = some (.ref A.f_l_draws)
  k_l_draws : PySem.W.keepIn K (.ref A.f_l_draws) = true
  F_l_take : Fun K "_law_take" "_law_take" s_l_take A.f_l_take A.d_l_take
  b_l_take : Binds K A.d_l_take ["_law_draws_here", "_law_limit"] []
  g_l_take : mg "_law_take" = some (.ref A.f_l_take)
  k_l_take : PySem.W.keepIn K (.ref A.f_l_take) = true
  F_l_flat : Fun K "_law_flat" "_law_flat" s_l_flat A.f_l_flat A.d_l_flat
  b_l_flat : Binds K A.d_l_flat ["_law_rows"] []
  g_l_flat : mg "_law_flat" = some (.ref A.f_l_flat)
  k_l_flat : PySem.W.keepIn K (.ref A.f_l_flat) = true
  F_l_machine : Fun K "_law_machine" "_law_machine" s_l_machine A.f_l_machine A.d_l_machine
  b_l_machine : Binds K A.d_l_machine ["_law_draws_here", "_law_inputs", "_law_outputs", "_law_lead", "_law_most"] []
  g_l_machine : mg "_law_machine" = some (.ref A.f_l_machine)
  k_l_machine : PySem.W.keepIn K (.ref A.f_l_machine) = true
  F_l_outcome : Fun K "_law_outcome" "_law_outcome" s_l_outcome A.f_l_outcome A.d_l_outcome
  b_l_outcome : Binds K A.d_l_outcome ["_law_one", "_law_two"] []
  g_l_outcome : mg "_law_outcome" = some (.ref A.f_l_outcome)
  k_l_outcome : PySem.W.keepIn K (.ref A.f_l_outcome) = true
  F_l_expected : Fun K "_law_expected" "_law_expected" s_l_expected A.f_l_expected A.d_l_expected
  b_l_expected : Binds K A.d_l_expected ["_law_first", "_law_second"] []
  g_l_expected : mg "_law_expected" = some (.ref A.f_l_expected)
  k_l_expected : PySem.W.keepIn K (.ref A.f_l_expected) = true
  F_law : Fun K "law" "law" s_law A.f_law A.d_law
  b_law : Binds K A.d_law ["_law_script"] []
  g_law : mg "law" = some (.ref A.f_law)
  k_law : PySem.W.keepIn K (.ref A.f_law) = true
  cl_Machine : Cls K A.Machine
  g_Machine : mg "Machine" = some (.ref A.Machine)
  g_Mismatch : mg "Mismatch" = some (.ref A.Mismatch)
  mk_Machine : Mk K A.Machine A.f_MachineU_initU
  na_Machine_inputs : NoAttr K A.Machine "inputs"
  na_Machine_lead : NoAttr K A.Machine "lead"
  na_Machine_opening : NoAttr K A.Machine "opening"
  na_Machine_outputs : NoAttr K A.Machine "outputs"
  na_Machine_rows : NoAttr K A.Machine "rows"
  x_Mismatch : PySem.W.excIn K A.Mismatch [.type "ValueError", .type "Exception", .type "BaseException", .type "object"] "ValueError.__new__" = true
  k_Mismatch : PySem.W.keepIn K (.ref A.Mismatch) = true
  xb_Mismatch : PySem.W.subIn K (.ref A.Mismatch) (.type "BaseException") = some true
  xt_Mismatch : PySem.W.typeIn K (.ref A.Mismatch) = some (.type "type")
  em_Mismatch_Mismatch : PySem.W.exmOne K (.ref A.Mismatch) (.ref A.Mismatch) = some true
  n_int : mg "int" = none
  n_isinstance : mg "isinstance" = none
  n_len : mg "len" = none
  n_list : mg "list" = none
  n_max : mg "max" = none
  n_range : mg "range" = none
  n_tuple : mg "tuple" = none
/-! ### draws -/
abbrev LI (ds : List Int) : MO := .lst (ds.map D.int)
def tk (ds : List Int) (k : Int) : Int := match ds.getLast? with
  | some d => d % k
  | none => 0
def sp_take : DSp := fun args M P _ => ∃ (ds : List Int) (k : Int), args = [.mt 0, .fr (.int k)] ∧ M = [some (LI ds)] ∧ 0 < k ∧ (∀ d ∈ ds, 0 ≤ d) ∧
  ((∀ (r : Int) (ds' : List Int), 0 ≤ r → r < k → (∀ d ∈ ds', 0 ≤ d) → P (.fr (.int r)) [some (LI ds')]) ∨ P (.fr (.int (tk ds k))) [some (LI ds.dropLast)])
theorem tk_rng (ds : List Int) {k : Int} (hk : 0 < k) : 0 ≤ tk ds k ∧ tk ds k < k := by
  unfold tk
  cases ds.getLast? with
  | none => exact ⟨Int.le_refl 0, hk⟩
  | some d => exact ⟨Int.emod_nonneg _ (by omega), Int.emod_lt_of_pos _ hk⟩
theorem ok_l_take {P : Program} {w : World} {K : PySem.W.Frag} {mg : Str → Option Value} {base : Heap} {A : Ad} (T : Txt K mg A) : FnOk P w K mg base (L2.CX P w) 1 A.f_l_take A.d_l_take ["_law_draws_here", "_law_limit"] (spOf K sp_take) := by
  refine fn_ok T.F_l_take sc_l_take (by decide) ?len (fun cdv Ar outer s H E hr =>
  (gss_cons (gs_if (gt_cmp (od_eq hr.units) (ge_callB cd_len T.n_len b_len (ga_cons (ge_var 0) ga_nil)) ge_int)
    (gss_one (gs_ret ge_int))
    gss_nil)
  (gss_one (gs_ret (ge_op od_mod (ge_callTy cd_int T.n_int b_int (ga_cons (ge_mt0 PySem.F.plainAttrs_list PySem.F.slot_list_pop PySem.F.type_list_pop md_pop (ge_var 0)) ga_nil)) (ge_var 1)))))) ?body
  case len => rintro args M Pd R ⟨ds, k, rfl, _⟩; rfl
  case body =>
    rintro args M Pd R ⟨ds, k, rfl, rfl, hk, hds, q⟩
    have key : Pd (.fr (.int (tk ds k))) [some (LI ds.dropLast)] := by
      rcases q with q | q
      · exact q _ _ (tk_rng ds hk).1 (tk_rng ds hk).2 fun d hd => hds d (List.dropLast_subset _ hd)
      · exact q
    refine ⟨fun h => ?_, fun h => ?_⟩
    · have e : ds = [] := by
        cases ds with
        | nil => rfl
        | cons a r => revert h; simp; omega
      subst e
      exact ⟨rfl, key⟩
    · have hne : ds ≠ [] := fun e => by subst e; cases h
      refine lk ⟨rfl, D.int (ds.getLast hne), ?_, hk, rfl, ?_⟩
      · rw [List.getLast?_map, List.getLast?_eq_some_getLast hne]; rfl
      · show Pd (.fr (.int (ds.getLast hne % k))) [some (MO.lst (ds.map D.int).dropLast)]
        rw [← List.map_dropLast]
        have e : tk ds k = ds.getLast hne % k := by unfold tk; rw [List.getLast?_eq_some_getLast hne]
        rw [← e]; exact key
def sp_draws : DSp := fun args M P _ => ∃ (ns : List Int) (c : Int), args = [.fr (.rol (ns.map D.int)), .fr (.int c)] ∧ M = [] ∧ 0 ≤ c ∧ c ≤ 1000 ∧
  ∀ (ds : List Int), (∀ d ∈ ds, 0 ≤ d) → P (.mt 0) [some (LI ds)]
theorem mem_snoc {ds : List Int} {x : Int} (h : ∀ d ∈ ds, 0 ≤ d) (hx : 0 ≤ x) : ∀ d ∈ ds ++ [x], 0 ≤ d := fun d hd => by
  rcases List.mem_append.mp hd with e | e
  · exact h d e
  · rw [List.mem_singleton.mp e]; exact hx
theorem at_mod {cs : List Int} (h : cs ≠ []) (k : Nat) : ∃ x, ixN (cs.map D.int).length (((0 : Int) + (k : Nat)) % ((cs.map D.int).length : Int)) = some (k % cs.length) ∧ atI (cs.map D.int) (((0 : Int) + (k : Nat)) % ((cs.map D.int).length : Int)) = some (.int x) := by
  have hl : 0 < cs.length := List.length_pos_iff.mpr h
  have hk : k % cs.length < cs.length := Nat.mod_lt _ hl
  have e : ((0 : Int) + (k : Nat)) % ((cs.map D.int).length : Int) = ((k % cs.length : Nat) : Int) := by rw [List.length_map, Int.zero_add]; exact (Int.natCast_emod _ _).symm
  have e1 : (cs.map D.int)[k % cs.length]? = some (.int cs[k % cs.length]) := by rw [List.getElem?_map, List.getElem?_eq_getElem hk]; rfl
  refine ⟨cs[k % cs.length], ?_, ?_⟩
  · rw [e]; unfold ixN
    rw [if_pos (by omega), if_pos (by rw [List.length_map]; omega)]
    rfl
  · rw [e]; exact atI_nat e1
theorem set_int {cs : List Int} (j : Nat) (x : Int) : (cs.map D.int).set j (.int x) = (cs.set j x).map D.int := by rw [List.map_set]
theorem szl {n : Nat} (h : n < 100000) : n < sizeLine := Nat.lt_of_lt_of_le h (by decide)
theorem szL {n : Nat} (h : n ≤ 100000) : n ≤ sizeLine := Nat.le_trans h (by decide)
theorem snoc_map (fs : List Int) (y : Int) : fs.map D.int ++ [.int y] = (fs ++ [y]).map D.int := by simp
theorem mod_rng (a : Int) : 0 ≤ a % 2147483647 ∧ a % 2147483647 < 2147483647 := ⟨Int.emod_nonneg _ (by decide), Int.emod_lt_of_pos _ (by decide)⟩
theorem ok_l_draws {P : Program} {w : World} {K : PySem.W.Frag} {mg : Str → Option Value} {base : Heap} {A : Ad} (T : Txt K mg A) : FnOk P w K mg base (L2.CX P w) 1 A.f_l_draws A.d_l_draws ["_law_script", "_law_count"] (spOf K sp_draws) := by
  refine fn_ok T.F_l_draws sc_l_draws (by decide) ?len (fun cdv Ar outer s H E hr =>
  (gss_cons (gs_set 2 sc_l_draws.nd (ge_keep (gn_callTy cn_list T.n_list b_list (ga_cons (ge_var 0) ga_nil))))
  (gss_cons (gs_mid (gs_if (gt_cmp (od_eq hr.units) (ge_callB cd_len T.n_len b_len (ga_cons (ge_var 2) ga_nil)) ge_int)
    (gss_one (gs_set 2 sc_l_draws.nd (ge_keep (gn_lst (ga_cons ge_int ga_nil)))))
    gss_nil))
  (gss_cons (gs_set 3 sc_l_draws.nd (ge_keep (gn_lst ga_nil)))
  (gss_cons (gs_set 4 sc_l_draws.nd ge_int)
  (gss_cons (gs_for [0, 1, 5, 6, 7, 8] (passes_of rfl) rfl (gi_rng1 T.n_range (ga_cons (ge_var 1) ga_nil)) (gg_name 5 sc_l_draws.nd)
    (gss_cons (gs_set 6 sc_l_draws.nd (ge_op od_mod (ge_var 5) (ge_callB cd_len T.n_len b_len (ga_cons (ge_var 2) ga_nil))))
  (gss_cons (gs_set 7 sc_l_draws.nd (ge_ix (ge_var 2) (ge_var 6)))
  (gss_cons (gs_set 4 sc_l_draws.nd (ge_op od_mod (ge_callTy cd_int T.n_int b_int (ga_cons (ge_op od_add (ge_op od_add (ge_op od_add (ge_op od_mul (ge_var 4) ge_int) (ge_op od_mul (ge_op od_mod (ge_callTy cd_int T.n_int b_int (ga_cons (ge_var 7) ga_nil)) ge_int) ge_int)) (ge_op od_mul (ge_var 5) ge_int)) ge_int) ga_nil)) ge_int))
  (gss_cons (gs_set 8 sc_l_draws.nd (ge_op od_mod (ge_callTy cd_int T.n_int b_int (ga_cons (ge_op od_add (ge_op od_add (ge_op od_mul (ge_var 4) (ge_var 4)) (ge_op od_mul ge_int (ge_var 4))) (ge_var 5)) ga_nil)) ge_int))
  (gss_one (gs_if (gt_cmp od_ge (ge_var 7) (ge_op od_pow ge_int ge_int))
    (gss_cons (gs_expr (ge_mt PySem.F.plainAttrs_list PySem.F.slot_list_append PySem.F.type_list_append md_append (ge_var 3) (ga_cons (ge_op od_mod (ge_callTy cd_int T.n_int b_int (ga_cons (ge_var 7) ga_nil)) ge_int) ga_nil)))
  (gss_one (gs_setIx (ge_op od_fdiv (ge_var 7) ge_int) (ge_var 2) (ge_var 6) (fun h1 h2 h3 => pg_sub h1 h2 h3))))
    (gss_one (gs_expr (ge_mt PySem.F.plainAttrs_list PySem.F.slot_list_append PySem.F.type_list_append md_append (ge_var 3) (ga_cons (ge_op od_mod (ge_callTy cd_int T.n_int b_int (ga_cons (ge_var 8) ga_nil)) ge_int) ga_nil)))))))))))
  (gss_cons (gs_expr (ge_mt0 PySem.F.plainAttrs_list PySem.F.slot_list_reverse PySem.F.type_list_reverse md_reverse (ge_var 3)))
  (gss_one (gs_ret (ge_var 3)))))))))) ?body
  case len => rintro args M Pd R ⟨ds, k, rfl, _⟩; rfl
  case body =>
    rintro args M Pd R ⟨ns, c, rfl, rfl, hc0, hc1, q⟩
    refine lk ⟨fun ρ M => ∃ (pre : Mem) (cs : List Int), (pre = [] ∨ ∃ x, pre = [some (.lst x)]) ∧ cs ≠ [] ∧ M = pre ++ [some (LI cs)] ∧ ρ = (start3 N_l_draws [U.fr (D.rol (List.map D.int ns)), U.fr (D.int c)]).set 2 (some (U.mt pre.length)), ⟨fun h => ?_, fun h => ?_⟩, ?_⟩
    · exact ⟨Nat.le_of_ble_eq_true rfl, [some (.lst _)], [7], .inr ⟨_, rfl⟩, by simp, rfl, rfl⟩
    · exact ⟨[], ns, .inl rfl, fun e => (by subst e; cases h), rfl, rfl⟩
    · rintro ρ M ⟨pre, cs, hp, hcs, rfl, rfl⟩
      rcases hp with rfl | ⟨x0, rfl⟩
      · refine lk ⟨Nat.zero_le _, lk (lk ⟨⟨by omega, by omega⟩, fun k ρ M => ∃ (cs fs : List Int) (m : Int), cs ≠ [] ∧ (∀ d ∈ fs, 0 ≤ d) ∧ fs.length ≤ k ∧ 0 ≤ m ∧ m < 2147483647 ∧ M = [] ++ [some (LI cs), some (LI fs)] ∧ ρ = [none, none, some (.mt 0), some (.mt 1), some (.fr (.int m)), none, none, none, none], ⟨rfl, cs, [], _, hcs, by simp, Nat.le_refl _, by decide, by decide, rfl, rfl⟩, ?_, ?_⟩)⟩
        · rintro k d ρ2 M2 hk rfl ⟨cs, fs, m, hcs, hfs, hlen, hm0, hm1, rfl, rfl⟩
          have hk1 : k < c.toNat := hk
          have hl : 0 < ((cs.map D.int).length : Int) := by
            rw [List.length_map]; have := List.length_pos_iff.mpr hcs; omega
          obtain ⟨x, e1, e2⟩ := at_mod hcs k
          have hsz : (fs.map D.int).length < sizeLine := szl (by rw [List.length_map]; omega)
          have hm' := mod_rng (m * 48271 + x % 1000003 * 69621 + (0 + (k:Int)) * 7919 + 11)
          have hcs' : ∀ z, cs.set (k % cs.length) z ≠ [] := fun z e => hcs (by rw [← List.length_eq_zero_iff] at e ⊢; simpa using e)
          refine ⟨hl, lk ⟨_, e2, lk ⟨.inr (by decide), (by decide : (0:Int) < 1000003), .inr (by decide), .inr (by decide), (by decide : (0:Int) < 2147483647), lk ⟨.inl ?b1, .inr ?b2, (by decide : (0:Int) < 1000003), lk ⟨⟨by decide, by decide, by decide⟩, ?_, ?_⟩⟩⟩⟩⟩
          case b1 => exact ⟨by omega, by omega⟩
          case b2 => exact ⟨by omega, by omega⟩
          · intro hb
            refine ⟨rfl, (by decide : (0:Int) < 1000), hsz, lk ⟨⟨by decide, by decide⟩, _, e1, rfl, cs.set (k % cs.length) (x / 1000), fs ++ [x % 1000], _, hcs' _, mem_snoc hfs (Int.emod_nonneg _ (by decide)), ?_, hm'.1, hm'.2, ?_, rfl⟩⟩
            · rw [List.length_append]; show fs.length + 1 ≤ k + 1; omega
            · simp [LI]
          · intro hb
            refine ⟨rfl, (by decide : (0:Int) < 1000), hsz, rfl, cs, fs ++ [_ % 1000], _, hcs, mem_snoc hfs (Int.emod_nonneg _ (by decide)), ?_, hm'.1, hm'.2, congrArg (fun l => [some (LI cs), some (MO.lst l)]) (snoc_map fs _), rfl⟩
            · rw [List.length_append]; show fs.length + 1 ≤ k + 1; omega
        · rintro ρ2 M2 ⟨cs, fs, m, hcs, hfs, hlen, hm0, hm1, rfl, rfl⟩
          refine lk ⟨rfl, lk ⟨rfl, rfl, ?_⟩⟩
          have := q fs.reverse fun d hd => hfs d (List.mem_reverse.mp hd)
          simpa [LI, List.map_reverse] using this
      · refine lk ⟨Nat.zero_le _, lk (lk ⟨⟨by omega, by omega⟩, fun k ρ M => ∃ (cs fs : List Int) (m : Int), cs ≠ [] ∧ (∀ d ∈ fs, 0 ≤ d) ∧ fs.length ≤ k ∧ 0 ≤ m ∧ m < 2147483647 ∧ M = [some (.lst x0)] ++ [some (LI cs), some (LI fs)] ∧ ρ = [none, none, some (.mt 1), some (.mt 2), some (.fr (.int m)), none, none, none, none], ⟨rfl, cs, [], _, hcs, by simp, Nat.le_refl _, by decide, by decide, rfl, rfl⟩, ?_, ?_⟩)⟩
        · rintro k d ρ2 M2 hk rfl ⟨cs, fs, m, hcs, hfs, hlen, hm0, hm1, rfl, rfl⟩
          have hk1 : k < c.toNat := hk
          have hl : 0 < ((cs.map D.int).length : Int) := by
            rw [List.length_map]; have := List.length_pos_iff.mpr hcs; omega
          obtain ⟨x, e1, e2⟩ := at_mod hcs k
          have hsz : (fs.map D.int).length < sizeLine := szl (by rw [List.length_map]; omega)
          have hm' := mod_rng (m * 48271 + x % 1000003 * 69621 + (0 + (k:Int)) * 7919 + 11)
          have hcs' : ∀ z, cs.set (k % cs.length) z ≠ [] := fun z e => hcs (by rw [← List.length_eq_zero_iff] at e ⊢; simpa using e)
          refine ⟨hl, lk ⟨_, e2, lk ⟨.inr (by decide), (by decide : (0:Int) < 1000003), .inr (by decide), .inr (by decide), (by decide : (0:Int) < 2147483647), lk ⟨.inl ?b1, .inr ?b2, (by decide : (0:Int) < 1000003), lk ⟨⟨by decide, by decide, by decide⟩, ?_, ?_⟩⟩⟩⟩⟩
          case b1 => exact ⟨by omega, by omega⟩
          case b2 => exact ⟨by omega, by omega⟩
          · intro hb
            refine ⟨rfl, (by decide : (0:Int) < 1000), hsz, lk ⟨⟨by decide, by decide⟩, _, e1, rfl, cs.set (k % cs.length) (x / 1000), fs ++ [x % 1000], _, hcs' _, mem_snoc hfs (Int.emod_nonneg _ (by decide)), ?_, hm'.1, hm'.2, ?_, rfl⟩⟩
            · rw [List.length_append]; show fs.length + 1 ≤ k + 1; omega
            · simp [LI]
          · intro hb
            refine ⟨rfl, (by decide : (0:Int) < 1000), hsz, rfl, cs, fs ++ [_ % 1000], _, hcs, mem_snoc hfs (Int.emod_nonneg _ (by decide)), ?_, hm'.1, hm'.2, congrArg (fun l => [some (MO.lst x0), some (LI cs), some (MO.lst l)]) (snoc_map fs _), rfl⟩
            · rw [List.length_append]; show fs.length + 1 ≤ k + 1; omega
        · rintro ρ2 M2 ⟨cs, fs, m, hcs, hfs, hlen, hm0, hm1, rfl, rfl⟩
          refine lk ⟨rfl, lk ⟨rfl, rfl, ?_⟩⟩
          have := q fs.reverse fun d hd => hfs d (List.mem_reverse.mp hd)
          simpa [LI, List.map_reverse] using this
end LAW
namespace LAW
open PySem PySem.Spec PyProof.Rows L2 L3
/-! ### data -/
theorem dT {p : Prop} [Decidable p] (h : p) : decide p = true := decide_eq_true h
theorem dF {p : Prop} [Decidable p] (h : ¬ p) : decide p = false := decide_eq_false h
theorem eqT {p : Prop} [Decidable p] (h : p) : (false != decide p) = true := by rw [dT h]; rfl
theorem eqF {p : Prop} [Decidable p] (h : ¬ p) : (false != decide p) = false := by rw [dF h]; rfl
theorem neT {p : Prop} [Decidable p] (h : ¬ p) : (true != decide p) = true := by rw [dF h]; rfl
theorem neF {p : Prop} [Decidable p] (h : p) : (true != decide p) = false := by rw [dT h]; rfl
theorem get_map {α : Type} {f : α → D} {xs : List α} {k : Nat} {d : D} (h : (xs.map f)[k]? = some d) : ∃ x, x ∈ xs ∧ xs[k]? = some x ∧ d = f x := by
  rw [List.getElem?_map] at h
  cases e : xs[k]? with
  | none => rw [e] at h; cases h
  | some x => rw [e] at h; cases h; exact ⟨x, List.mem_of_getElem? e, rfl, rfl⟩
theorem ble {a b : Nat} (h : Nat.ble a b = true) : a ≤ b := Nat.le_of_ble_eq_true h
abbrev IP := Int × Int
def dP (p : IP) : D := .tup [.int p.1, .int p.2]
def dRowsT (rows : List (List IP)) : D := .tup (rows.map fun r => .tup (r.map dP))
def dRowsL (rows : List (List IP)) : D := .lst (rows.map fun r => .lst (r.map dP))
structure OkMc (i o l : Int) (ops : List Int) (rows : List (List IP)) : Prop where
  i1 : 1 ≤ i
  i2 : i ≤ 4
  o1 : 1 ≤ o
  o2 : o ≤ 12
  l1 : -3 ≤ l
  l2 : l ≤ 2
  ol : (ops.length : Int) = max 0 (-l)
  ob : ∀ x ∈ ops, 0 ≤ x ∧ x < o
  rl : 1 ≤ rows.length
  rl2 : rows.length ≤ 12
  rw : ∀ r ∈ rows, (r.length : Int) = i
  rp : ∀ r ∈ rows, ∀ p ∈ r, (0 ≤ p.1 ∧ p.1 < rows.length) ∧ (0 ≤ p.2 ∧ p.2 < o)
def dMc (C : Addr) (i o l : Int) (ops : List Int) (rows : List (List IP)) : D := .ins C [("inputs", .int i), ("outputs", .int o), ("lead", .int l), ("opening", .tup (ops.map .int)), ("rows", dRowsT rows)]
/-! ### all_below -/
def sp_ab : DSp := fun args M P _ => ∃ (s : D) (ns : List Int) (lim : Int), args = [.fr s, .fr (.int lim)] ∧ (s = .lst (ns.map .int) ∨ s = .tup (ns.map .int)) ∧ M = [] ∧ (∀ n ∈ ns, 0 ≤ n ∧ n < lim) ∧ P (.fr (.bl true)) []
theorem ok_all_below {P : Program} {w : World} {K : PySem.W.Frag} {mg : Str → Option Value} {base : Heap} {A : Ad} (T : Txt K mg A) : FnOk P w K mg base (L2.CX P w) 1 A.f_all_below A.d_all_below ["numbers", "limit"] (spOf K sp_ab) := by
  refine fn_ok T.F_all_below sc_all_below (by decide) ?len (fun cdv Ar outer s H E hr =>
  (gss_cons (gs_for [0, 2] (passes_of rfl) rfl (gi_seq (ge_var 0)) (gg_name 2 sc_all_below.nd)
    (gss_one (gs_if (gt_w (gw_or (gt_cmp od_lt (ge_var 2) ge_int) (gw_or1 (gt_cmp od_ge (ge_var 2) (ge_var 1)))))
    (gss_one (gs_ret ge_bl))
    gss_nil)))
  (gss_one (gs_ret ge_bl)))) ?body
  case len => rintro args M Pd R ⟨s, ns, lim, rfl, _⟩; rfl
  case body =>
    rintro args M Pd R ⟨s, ns, lim, rfl, hs, rfl, hb, q⟩
    rcases hs with rfl | rfl
    all_goals
      refine ⟨fun k ρ M => M = [] ∧ ρ = [none, some (.fr (.int lim)), none], ⟨rfl, rfl, rfl⟩, ?_, ?_⟩
      · rintro k d ρ2 M2 hk hy ⟨rfl, rfl⟩
        obtain ⟨n, hn, _, rfl⟩ := get_map hy
        have := hb n hn
        exact iF (dF (by omega)) (iF (dF (by omega)) ⟨rfl, rfl, rfl⟩)
      · rintro ρ2 M2 ⟨rfl, rfl⟩
        exact lk ⟨rfl, q⟩
/-! ### Machine(..) -/
def sp_mi (A : Ad) : DSp := fun args M P _ => ∃ (i o l : Int) (ops : List Int) (rows : List (List IP)), args = [.mt 0, .fr (.int i), .fr (.int o), .fr (.int l), .fr (.lst (ops.map .int)), .fr (dRowsL rows)] ∧ M = [some (.ins A.Machine [])] ∧ OkMc i o l ops rows ∧
  P (.fr .non) [some (.ins A.Machine [("inputs", .fr (.int i)), ("outputs", .fr (.int o)), ("lead", .fr (.int l)), ("opening", .fr (.tup (ops.map .int))), ("rows", .fr (dRowsT rows))])]
theorem ok_MachineU_initU {P : Program} {w : World} {K : PySem.W.Frag} {mg : Str → Option Value} {base : Heap} {A : Ad} (T : Txt K mg A) : FnOk P w K mg base (L2.CX P w) 2 A.f_MachineU_initU A.d_MachineU_initU ["self", "inputs", "outputs", "lead", "opening", "rows"] (spOf K (sp_mi A)) := by
  refine fn_ok T.F_MachineU_initU sc_MachineU_initU (by decide) ?len (fun cdv Ar outer s H E hr =>
  (gss_cons (gs_set 6 sc_MachineU_initU.nd (ge_and (ge_cmp od_ge (ge_var 1) ge_int) (ge_and (ge_cmp od_ge (ge_var 2) ge_int) (ge_one (ge_chain od_le od_le (ge_neg ge_int) (ge_var 3) ge_int)))))
  (gss_cons (gs_set 6 sc_MachineU_initU.nd (ge_and (ge_var 6) (ge_and (ge_cmp (od_eq hr.units) (ge_callB cd_len T.n_len b_len (ga_cons (ge_var 4) ga_nil)) (ge_callB (cd_max2 rfl) T.n_max b_max (ga_cons ge_int (ga_cons (ge_neg (ge_var 3)) ga_nil)))) (ge_one (ge_cmp od_ge (ge_callB cd_len T.n_len b_len (ga_cons (ge_var 5) ga_nil)) ge_int)))))
  (gss_cons (gs_set 6 sc_MachineU_initU.nd (ge_and (ge_var 6) (ge_one (ge_call [] (ok_all_below T) (hr.mono (by decide)) T.g_all_below T.k_all_below T.b_all_below (takes_of rfl rfl rfl rfl) (ga_cons (ge_var 4) (ga_cons (ge_var 2) ga_nil))))))
  (gss_cons (gs_for [7] (passes_of rfl) rfl (gi_seq (ge_var 5)) (gg_name 7 sc_MachineU_initU.nd)
    (gss_cons (gs_set 6 sc_MachineU_initU.nd (ge_and (ge_var 6) (ge_one (ge_cmp (od_eq hr.units) (ge_callB cd_len T.n_len b_len (ga_cons (ge_var 7) ga_nil)) (ge_var 1)))))
  (gss_cons (gs_set 6 sc_MachineU_initU.nd (ge_and (ge_var 6) (ge_one (ge_call [] (ok_all_below T) (hr.mono (by decide)) T.g_all_below T.k_all_below T.b_all_below (takes_of rfl rfl rfl rfl) (ga_cons (ge_new (gn_lc (own := [("pair", 8)]) rfl sc_MachineU_initU.nd (gi_seq (ge_var 7)) (blkOk_by (own := [("pair", 8)]) (N := N_MachineU_initU) (sc := defScope s_MachineU_initU) (by decide +kernel)) (fun _ _ _ _ _ => (gg_name 8 sc_MachineU_initU.nd)) (fun _ _ _ _ _ => gts_nil) (fun _ _ _ _ _ => (ge_ix (ge_var 8) ge_int)))) (ga_cons (ge_callB cd_len T.n_len b_len (ga_cons (ge_var 5) ga_nil)) ga_nil))))))
  (gss_one (gs_set 6 sc_MachineU_initU.nd (ge_and (ge_var 6) (ge_one (ge_call [] (ok_all_below T) (hr.mono (by decide)) T.g_all_below T.k_all_below T.b_all_below (takes_of rfl rfl rfl rfl) (ga_cons (ge_new (gn_lc (own := [("pair", 8)]) rfl sc_MachineU_initU.nd (gi_seq (ge_var 7)) (blkOk_by (own := [("pair", 8)]) (N := N_MachineU_initU) (sc := defScope s_MachineU_initU) (by decide +kernel)) (fun _ _ _ _ _ => (gg_name 8 sc_MachineU_initU.nd)) (fun _ _ _ _ _ => gts_nil) (fun _ _ _ _ _ => (ge_ix (ge_var 8) ge_int)))) (ga_cons (ge_var 2) ga_nil))))))))))
  (gss_cons (gs_if (gt_not (gt_val (ge_var 6)))
    (gss_one gs_dead)
    gss_nil)
  (gss_cons (gs_setF (names := N_Machine) (j := 0) (ge_var 1) (ge_var 0) T.cl_Machine nd_Machine T.na_Machine_inputs)
  (gss_cons (gs_setF (names := N_Machine) (j := 1) (ge_var 2) (ge_var 0) T.cl_Machine nd_Machine T.na_Machine_outputs)
  (gss_cons (gs_setF (names := N_Machine) (j := 2) (ge_var 3) (ge_var 0) T.cl_Machine nd_Machine T.na_Machine_lead)
  (gss_cons (gs_setF (names := N_Machine) (j := 3) (ge_callTy cd_tuple T.n_tuple b_tuple (ga_cons (ge_var 4) ga_nil)) (ge_var 0) T.cl_Machine nd_Machine T.na_Machine_opening)
  (gss_one (gs_setF (names := N_Machine) (j := 4) (ge_callTy cd_tuple T.n_tuple b_tuple (ga_cons (ge_new (gn_lc (own := [("row", 7)]) rfl sc_MachineU_initU.nd (gi_seq (ge_var 5)) (blkOk_by (own := [("row", 7)]) (N := N_MachineU_initU) (sc := defScope s_MachineU_initU) (by decide +kernel)) (fun _ _ _ _ _ => (gg_name 7 sc_MachineU_initU.nd)) (fun _ _ _ _ _ => gts_nil) (fun _ _ _ _ _ => (ge_callTy cd_tuple T.n_tuple b_tuple (ga_cons (ge_new (gn_lc (own := [("pair", 8)]) rfl sc_MachineU_initU.nd (gi_seq (ge_var 7)) (blkOk_by (own := [("pair", 8)]) (N := N_MachineU_initU) (sc := ⟨.function, [(".0", .local), ("row", .local), ("tuple", .globalImplicit)], false, false, []⟩) (by decide +kernel)) (fun _ _ _ _ _ => (gg_name 8 sc_MachineU_initU.nd)) (fun _ _ _ _ _ => gts_nil) (fun _ _ _ _ _ => (ge_tup (ga_cons (ge_ix (ge_var 8) ge_int) (ga_cons (ge_ix (ge_var 8) ge_int) ga_nil)))))) ga_nil))))) ga_nil)) (ge_var 0) T.cl_Machine nd_Machine T.na_Machine_rows)))))))))))) ?body
  case len => rintro args M Pd R ⟨i, o, l, ops, rows, rfl, _⟩; rfl
  case body =>
    rintro args M Pd R ⟨i, o, l, ops, rows, rfl, rfl, h, q⟩
    have h1 := h.i1
    have h2 := h.o1
    have h3 := h.l1
    have h4 := h.l2
    have hl := h.ol
    have hr := h.rl
    refine iT (dT (by omega)) (iT (dT (by omega)) (iT (dT (by omega)) (lk (iT (dT (by omega)) (iT (eqT ?_) (lk (iT (dT ?_) ⟨_, ops, o, rfl, .inl rfl, rfl, h.ob, Nat.le_refl _, lk ?_⟩)))))))
    · rw [List.length_map, hl]; split <;> omega
    · rw [List.length_map]; omega
    refine ⟨fun k ρ M => M = [some (.ins A.Machine [])] ∧ ∃ b, b = true ∧ ρ = [some (.mt 0), some (.fr (.int i)), some (.fr (.int o)), some (.fr (.int l)), some (.fr (.lst (ops.map .int))), some (.fr (dRowsL rows)), some (.fr (.bl b)), none, none], ⟨rfl, rfl, true, rfl, rfl⟩, ?_, ?_⟩
    · rintro k d ρ2 M2 hk hy ⟨rfl, b, hb, rfl⟩
      obtain ⟨row, hrow, _, rfl⟩ := get_map hy
      have hlen := h.rw row hrow
      have hp := h.rp row hrow
      have hbig : row.length < 100000 := by have := h.i2; omega
      refine iT hb (lk (iT (eqT (by rw [List.length_map]; exact hlen)) ?_))
      refine lc_map (row.map fun p => D.int p.1) (fun _ h => h) ?l1 ?t1 ?g1
      case l1 => simp
      case t1 =>
        intro k d e hd he
        obtain ⟨p, _, hp1, rfl⟩ := get_map hd
        obtain ⟨p', _, hp2, rfl⟩ := get_map he
        rw [hp1] at hp2; cases hp2
        exact iT rfl ⟨_, rfl, lcq he (by simpa using hbig) rfl⟩
      case g1 =>
        refine ⟨_, row.map (fun p => p.1), rows.length, congrArg (fun z => [U.fr (D.lst (row.map fun p => .int p.1)), U.fr (D.int z)]) (by simp), .inl (by simp), rfl, fun n hn => ?f1, Nat.le_refl _, lk (iT rfl ?_)⟩
        case f1 =>
          obtain ⟨p, hp1, rfl⟩ := List.mem_map.mp hn
          exact (hp p hp1).1
        refine lc_map (row.map fun p => D.int p.2) (fun _ h => h) ?l2 ?t2 ?g2
        case l2 => simp
        case t2 =>
          intro k d e hd he
          obtain ⟨p, _, hp1, rfl⟩ := get_map hd
          obtain ⟨p', _, hp2, rfl⟩ := get_map he
          rw [hp1] at hp2; cases hp2
          exact iT rfl ⟨_, rfl, lcq he (by simpa using hbig) rfl⟩
        case g2 =>
          refine ⟨_, row.map (fun p => p.2), o, rfl, .inl (by simp), rfl, fun n hn => ?f2, Nat.le_refl _, rfl, rfl, true, rfl, rfl⟩
          obtain ⟨p, hp1, rfl⟩ := List.mem_map.mp hn
          exact (hp p hp1).2
    · rintro ρ2 M2 ⟨rfl, b, hb, rfl⟩
      refine lk (iF (by rw [hb]; rfl) (lk ⟨rfl, rfl, Nat.le_refl _, ble rfl, lk ⟨rfl, rfl, Nat.le_refl _, ble rfl, lk ⟨rfl, rfl, Nat.le_refl _, ble rfl, lk ⟨rfl, rfl, Nat.le_refl _, ble rfl, lk ?_⟩⟩⟩⟩))
      refine lc_map (rows.map fun r => D.tup (r.map dP)) (fun _ h => h) ?l1 ?t1 ?g1
      case l1 => simp
      case g1 => exact ⟨rfl, rfl, Nat.le_refl _, ble rfl, rfl, q⟩
      case t1 =>
        intro k d e hd he
        obtain ⟨row, hrow, hp1, rfl⟩ := get_map hd
        obtain ⟨row', _, hp2, rfl⟩ := get_map he
        rw [hp1] at hp2; cases hp2
        have hlen := h.rw row hrow
        have hbig : row.length < 100000 := by have := h.i2; omega
        refine iT rfl ?_
        refine lc_map (row.map dP) (fun _ h => h) rfl ?t2 ?g2
        case g2 => exact lcq he (by have := h.rl2; simp; omega) rfl
        case t2 =>
          intro k d e hd he
          obtain ⟨p, _, hp1, rfl⟩ := get_map hd
          obtain ⟨p', _, hp2, rfl⟩ := get_map he
          rw [hp1] at hp2; cases hp2
          exact iT rfl ⟨_, rfl, _, rfl, ble rfl, lcq he (by simpa using hbig) rfl⟩
end LAW
namespace LAW
open PySem PySem.Spec PyProof.Rows L2 L3
def nn (ds : List Int) : Prop := ∀ d ∈ ds, 0 ≤ d
def sp_mach : DSp := fun args M P _ => ∃ (ds : List Int) (i o l m : Int), args = [.mt 0, .fr (.int i), .fr (.int o), .fr (.int l), .fr (.int m)] ∧ M = [some (LI ds)] ∧ nn ds ∧ 1 ≤ i ∧ i ≤ 4 ∧ 1 ≤ o ∧ o ≤ 12 ∧ -3 ≤ l ∧ l ≤ 2 ∧ 1 ≤ m ∧ m ≤ 12 ∧
  ∀ (ops : List Int) (rows : List (List IP)) (ds' : List Int), OkMc i o l ops rows → (rows.length : Int) ≤ m → nn ds' → P (.fr (.tup [.lst (ops.map .int), dRowsL rows])) [some (LI ds')]
theorem ok_l_machine {P : Program} {w : World} {K : PySem.W.Frag} {mg : Str → Option Value} {base : Heap} {A : Ad} (T : Txt K mg A) : FnOk P w K mg base (L2.CX P w) 2 A.f_l_machine A.d_l_machine ["_law_draws_here", "_law_inputs", "_law_outputs", "_law_lead", "_law_most"] (spOf K sp_mach) := by
  refine fn_ok T.F_l_machine sc_l_machine (by decide) ?len (fun cdv Ar outer s H E hr =>
  (gss_cons (gs_set 5 sc_l_machine.nd (ge_op od_add ge_int (ge_call [0] (ok_l_take T) (hr.mono (by decide)) T.g_l_take T.k_l_take T.b_l_take (takes_of rfl rfl rfl rfl) (ga_cons (ge_var 0) (ga_cons (ge_var 4) ga_nil)))))
  (gss_cons (gs_setLc false 6 (own := [("_law_k", 12)]) rfl sc_l_machine.nd (sw_true rfl rfl rfl (by decide +kernel)) (gi_rng1 T.n_range (ga_cons (ge_callB (cd_max2 rfl) T.n_max b_max (ga_cons ge_int (ga_cons (ge_neg (ge_var 3)) ga_nil))) ga_nil)) (blkOk_by (own := [("_law_k", 12)]) (N := N_l_machine) (sc := defScope s_l_machine) (by decide +kernel)) (fun _ _ _ _ _ => (gg_name 12 sc_l_machine.nd)) (fun _ _ _ _ _ => gts_nil) (fun _ _ _ _ _ => (ge_call [0] (ok_l_take T) (hr.mono (by decide)) T.g_l_take T.k_l_take T.b_l_take takes0 (ga_cons (ge_var 0) (ga_cons (ge_var 2) ga_nil)))))
  (gss_cons (gs_set 7 sc_l_machine.nd (ge_keep (gn_lst ga_nil)))
  (gss_cons (gs_for [3, 4, 8, 9, 10, 11] (passes_of rfl) rfl (gi_rng1 T.n_range (ga_cons (ge_var 5) ga_nil)) (gg_name 8 sc_l_machine.nd)
    (gss_cons (gs_set 9 sc_l_machine.nd (ge_keep (gn_lst ga_nil)))
  (gss_cons (gs_for [3, 4, 8, 10, 11] (passes_of rfl) rfl (gi_rng1 T.n_range (ga_cons (ge_var 1) ga_nil)) (gg_name 10 sc_l_machine.nd)
    (gss_cons (gs_set 11 sc_l_machine.nd (ge_call [0] (ok_l_take T) (hr.mono (by decide)) T.g_l_take T.k_l_take T.b_l_take (takes_of rfl rfl rfl rfl) (ga_cons (ge_var 0) (ga_cons (ge_var 5) ga_nil))))
  (gss_one (gs_expr (ge_mt PySem.F.plainAttrs_list PySem.F.slot_list_append PySem.F.type_list_append md_append (ge_var 9) (ga_cons (ge_tup (ga_cons (ge_var 11) (ga_cons (ge_call [0] (ok_l_take T) (hr.mono (by decide)) T.g_l_take T.k_l_take T.b_l_take (takes_of rfl rfl rfl rfl) (ga_cons (ge_var 0) (ga_cons (ge_var 2) ga_nil))) ga_nil))) ga_nil))))))
  (gss_one (gs_expr (ge_mt PySem.F.plainAttrs_list PySem.F.slot_list_append PySem.F.type_list_append md_append (ge_var 7) (ga_cons (ge_fz (ge_var 9)) ga_nil)))))))
  (gss_one (gs_ret (ge_tup (ga_cons (ge_var 6) (ga_cons (ge_fz (ge_var 7)) ga_nil)))))))))) ?body
  case len => rintro args M Pd R ⟨ds, i, o, l, m, rfl, _⟩; rfl
  case body =>
    rintro args M Pd R ⟨ds, i, o, l, m, rfl, rfl, hd, i1, i2, o1, o2, l1, l2, m1, m2, q⟩
    refine ⟨ds, m, rfl, rfl, by omega, hd, .inl fun r ds hr0 hr1 hd => ⟨Nat.le_refl _, lk ?_⟩⟩
    refine lc_gen (.rng 0 _) _ _ (fun k acc M => ∃ ops ds : List Int, acc = ops.map .int ∧ ops.length = k ∧ (∀ x ∈ ops, 0 ≤ x ∧ x < o) ∧ nn ds ∧ M = [some (LI ds)]) (fun _ h => ⟨⟨?b1, ?b2⟩, h⟩) ⟨[], ds, rfl, rfl, by simp, hd, rfl⟩ ?turn ?endd
    case b1 => split <;> omega
    case b2 => split <;> omega
    case turn =>
      rintro k d acc M2 hk rfl ⟨ops, ds, rfl, hk2, hop, hds, rfl⟩
      have hk3 : k < (if -l > 0 then -l else 0).toNat := hk
      refine iT rfl ⟨ds, o, rfl, rfl, by omega, hds, .inl fun x ds' x0 x1 hds' => ⟨Nat.le_refl _, szl ?_, rfl, ops ++ [x], ds', snoc_map _ _, by simp [hk2], ?_, hds', rfl⟩⟩
      · rw [List.length_map]; split at hk3 <;> omega
      · intro y hy
        rcases List.mem_append.mp hy with e | e
        · exact hop y e
        · rw [List.mem_singleton.mp e]; exact ⟨x0, x1⟩
    case endd =>
      rintro acc M2 ⟨ops, ds, rfl, hk2, hop, hds, rfl⟩
      have hol : (ops.length : Int) = max 0 (-l) := by
        have : ops.length = (if -l > 0 then -l else 0).toNat := hk2
        rw [this]; split <;> omega
      refine lk ⟨Nat.zero_le _, lk ⟨⟨by omega, by omega⟩, fun k ρ M => ∃ (rows : List (List IP)) (ds : List Int), rows.length = k ∧ (∀ r ∈ rows, (r.length : Int) = i) ∧ (∀ r' ∈ rows, ∀ p ∈ r', (0 ≤ p.1 ∧ p.1 < 1 + r) ∧ (0 ≤ p.2 ∧ p.2 < o)) ∧ nn ds ∧
        M = [some (LI ds), some (.lst (rows.map fun r => D.lst (r.map dP)))] ∧ ρ = [some (.mt 0), some (.fr (.int i)), some (.fr (.int o)), none, none, some (.fr (.int (1 + r))), some (.fr (.lst (ops.map .int))), some (.mt 1), none, none, none, none, none], ⟨rfl, [], ds, rfl, by simp, by simp, hds, rfl, rfl⟩, ?_, ?_⟩⟩
      · rintro k d ρ2 M2 hk rfl ⟨rows, ds, hlen, hr1, hr2, hds, rfl, rfl⟩
        have hk3 : k < (1 + r).toNat := hk
        refine ⟨Nat.zero_le _, lk ⟨⟨by omega, by omega⟩, fun k ρ M => ∃ (row : List IP) (ds : List Int), row.length = k ∧ (∀ p ∈ row, (0 ≤ p.1 ∧ p.1 < 1 + r) ∧ (0 ≤ p.2 ∧ p.2 < o)) ∧ nn ds ∧
          M = [some (LI ds), some (.lst (rows.map fun r => D.lst (r.map dP))), some (.lst (row.map dP))] ∧ ρ = [some (.mt 0), some (.fr (.int i)), some (.fr (.int o)), none, none, some (.fr (.int (1 + r))), some (.fr (.lst (ops.map .int))), some (.mt 1), none, some (.mt 2), none, none, none], ⟨rfl, [], ds, rfl, by simp, hds, rfl, rfl⟩, ?_, ?_⟩⟩
        · rintro k' d ρ2 M2 hk rfl ⟨row, ds, hlen', hp, hds, rfl, rfl⟩
          have hk4 : k' < i.toNat := hk
          refine ⟨ds, 1 + r, rfl, rfl, by omega, hds, .inl fun x ds x0 x1 hds => ⟨Nat.le_refl _, lk ⟨rfl, ds, o, rfl, rfl, by omega, hds, .inl fun y ds' y0 y1 hds' => ⟨Nat.le_refl _, ble rfl, szl ?_, rfl, row ++ [(x, y)], ds', by simp [hlen'], ?_, hds', ?_, rfl⟩⟩⟩⟩
          · rw [List.length_map]; omega
          · intro p hp'
            rcases List.mem_append.mp hp' with e | e
            · exact hp p e
            · rw [List.mem_singleton.mp e]; exact ⟨⟨x0, x1⟩, ⟨y0, y1⟩⟩
          · simp [memOut, setAll, outO, MO.out, dP]
        · rintro ρ2 M2 ⟨row, ds, hlen', hp, hds, rfl, rfl⟩
          refine lk ⟨rfl, szl ?_, rfl, rows ++ [row], ds, by simp [hlen], ?_, ?_, hds, ?_, rfl⟩
          · rw [List.length_map]; omega
          · intro r' hr'
            rcases List.mem_append.mp hr' with e | e
            · exact hr1 r' e
            · rw [List.mem_singleton.mp e]
              have : row.length = i.toNat := hlen'
              omega
          · intro r' hr'
            rcases List.mem_append.mp hr' with e | e
            · exact hr2 r' e
            · rw [List.mem_singleton.mp e]; exact hp
          · simp
      · rintro ρ2 M2 ⟨rows, ds, hlen, hr1', hr2, hds, rfl, rfl⟩
        have hlen2 : rows.length = (1 + r).toNat := hlen
        refine lk ⟨ble rfl, rfl, q ops rows ds ⟨i1, i2, o1, o2, l1, l2, hol, hop, by omega, by omega, hr1', ?_⟩ (by omega) hds⟩
        intro r' h1 p h2
        have := hr2 r' h1 p h2
        exact ⟨⟨this.1.1, by omega⟩, this.2⟩
def sp_flat : DSp := fun args M P _ => ∃ (rows : List (List IP)), args = [.fr (dRowsL rows)] ∧ M = [] ∧ rows.length < 100000 ∧
  (P (.fr (dRowsL rows)) [] ∨ ∃ (t : Nat) (row : List IP), rows[t]? = some row ∧ P (.mt 1) [some (.lst (row.map dP)), some (.nst ((rows.map fun r => U.fr (.lst (r.map dP))).set t (.mt 0)))])
theorem toDs_fr : ∀ ds : List D, toDs (ds.map U.fr) = some ds
  | [] => rfl
  | d :: ds => by
    show (toDs (ds.map U.fr)).map (d :: ·) = _
    rw [toDs_fr ds]; rfl
theorem ok_l_flat {P : Program} {w : World} {K : PySem.W.Frag} {mg : Str → Option Value} {base : Heap} {A : Ad} (T : Txt K mg A) : FnOk P w K mg base (L2.CX P w) 1 A.f_l_flat A.d_l_flat ["_law_rows"] (spOf K sp_flat) := by
  refine fn_okU T.F_l_flat sc_l_flat (by decide) ?len (fun cdv Ar outer s H E hr =>
  (gss_one (gs_ret (ge_either (gn_lcU (own := [("_law_row", 1)]) rfl sc_l_flat.nd (gi_seq (ge_var 0)) (blkOk_by (own := [("_law_row", 1)]) (N := N_l_flat) (sc := defScope s_l_flat) (by decide +kernel)) (fun _ _ _ _ _ => (gg_name 1 sc_l_flat.nd)) (fun _ _ _ _ _ => gts_nil) (fun _ _ _ _ _ => (ge_either (gn_callTy cn_list T.n_list b_list (ga_cons (ge_var 1) ga_nil))))))))) ?body
  case len => rintro args M Pd R ⟨rows, rfl, _⟩; rfl
  case body =>
    rintro args M Pd R ⟨rows, rfl, rfl, hr, q⟩
    rcases q with q | ⟨t, row, ht, q⟩
    · refine lcU_gen (.seq (rows.map fun (r : List IP) => D.lst (r.map dP))) (start3 N_l_flat [U.fr (dRowsL rows)]) [] (fun k acc M => M = [] ∧ acc = ((rows.take k).map fun r => D.lst (r.map dP)).map U.fr) (fun _ h => h) ⟨rfl, rfl⟩ ?_ ?_
      · rintro k d acc M2 hk hy ⟨rfl, rfl⟩
        obtain ⟨r, hr2, hp1, rfl⟩ := get_map hy
        refine iT rfl (.inr ⟨_, rfl, szl ?_, rfl, ?_⟩)
        · simp; omega
        · rw [← take_snoc hp1]; simp
      · rintro acc M2 ⟨rfl, rfl⟩
        refine .inr ⟨dRowsL rows, ?_, q⟩
        show (toDs (((rows.take (rows.map _).length).map fun r => D.lst (r.map dP)).map U.fr)).map D.lst = _
        rw [toDs_fr, List.length_map, List.take_length]; rfl
    · have htl := (List.getElem?_eq_some_iff.mp ht).1
      refine lcU_gen (.seq (rows.map fun (r : List IP) => D.lst (r.map dP))) (start3 N_l_flat [U.fr (dRowsL rows)]) [] (fun k acc M => M = (if t < k then [some (.lst (row.map dP))] else []) ∧ acc = ((rows.map fun r => U.fr (.lst (r.map dP))).set t (.mt 0)).take k) (fun _ h => h) ⟨rfl, rfl⟩ ?_ ?_
      · rintro k d acc M2 hk hy ⟨rfl, rfl⟩
        obtain ⟨r, hr2, hp1, rfl⟩ := get_map hy
        have hkl := (List.getElem?_eq_some_iff.mp hp1).1
        by_cases e : t = k
        · subst e
          rw [ht] at hp1; cases hp1
          refine iT rfl (.inl ⟨szl ?_, ?_, ?_⟩)
          · simp; omega
          · simp
          · rw [if_neg (Nat.lt_irrefl _)]
            exact take_snoc (by rw [List.getElem?_set_self (by simpa using htl)]; rfl)
        · refine iT rfl (.inr ⟨_, rfl, szl ?_, ?_, ?_⟩)
          · simp; omega
          · by_cases g : t < k
            · rw [if_pos g, if_pos (by omega)]
            · rw [if_neg g, if_neg (by omega)]
          · exact take_snoc (by rw [List.getElem?_set_ne e, List.getElem?_map, hp1]; rfl)
      · rintro acc M2 ⟨rfl, rfl⟩
        refine .inl ?_
        have en : (ItD.seq (rows.map fun r => D.lst (r.map dP))).n = rows.length := by show (rows.map _).length = _; rw [List.length_map]
        rw [en, if_pos htl, List.take_of_length_le (by simp)]
        exact q
end LAW
namespace LAW
open PySem PySem.Spec PyProof.Rows L2 L3
/-! ### the search -/
def tr (rows : List (List IP)) (s a : Int) : IP := ((rows[s.toNat]?.getD [])[a.toNat]?).getD (0, 0)
abbrev Node := Int × Int × List Int
def nxt (r1 r2 : List (List IP)) (n : Node) (a : Int) : Int × Int := ((tr r1 n.1 a).1, (tr r2 n.2.1 a).1)
def dif (r1 r2 : List (List IP)) (n : Node) (a : Int) : Prop := (tr r1 n.1 a).2 ≠ (tr r2 n.2.1 a).2
def letters (k : Int) : List Int := (List.range k.toNat).map fun (j : Nat) => (0 : Int) + j
theorem letters_len (k : Int) : (letters k).length = k.toNat := by simp [letters]
theorem letters_drop {k : Int} {j : Nat} (h : j < k.toNat) : (letters k).drop j = (0 + (j : Int)) :: (letters k).drop (j + 1) := by
  have h' : j < (letters k).length := by rw [letters_len]; exact h
  rw [List.drop_eq_getElem_cons h']
  congr 1
  simp [letters]
theorem letters_end {k : Int} : (letters k).drop k.toNat = [] := List.drop_eq_nil_of_le (by rw [letters_len]; exact Nat.le_refl _)
inductive Go (r1 r2 : List (List IP)) (k : Int) : List Int → Node → List Node → List (Int × Int) → Option (List Int) → Prop
  | hit {a : Int} {as : List Int} {n : Node} {todo : List Node} {seen : List (Int × Int)} : dif r1 r2 n a → Go r1 r2 k (a :: as) n todo seen (some (n.2.2 ++ [a]))
  | old {a : Int} {as : List Int} {n : Node} {todo : List Node} {seen : List (Int × Int)} {r : Option (List Int)} : ¬ dif r1 r2 n a → nxt r1 r2 n a ∈ seen → Go r1 r2 k as n todo seen r → Go r1 r2 k (a :: as) n todo seen r
  | new {a : Int} {as : List Int} {n : Node} {todo : List Node} {seen : List (Int × Int)} {r : Option (List Int)} : ¬ dif r1 r2 n a → nxt r1 r2 n a ∉ seen → Go r1 r2 k as n (todo ++ [((nxt r1 r2 n a).1, (nxt r1 r2 n a).2, n.2.2 ++ [a])]) (seen ++ [nxt r1 r2 n a]) r → Go r1 r2 k (a :: as) n todo seen r
  | next {n m : Node} {todo : List Node} {seen : List (Int × Int)} {r : Option (List Int)} : Go r1 r2 k (letters k) m todo seen r → Go r1 r2 k [] n (m :: todo) seen r
  | done {n : Node} {seen : List (Int × Int)} : Go r1 r2 k [] n [] seen none
theorem Go.det {r1 r2 : List (List IP)} {k : Int} {as : List Int} {n : Node} {todo : List Node} {seen : List (Int × Int)} {r r' : Option (List Int)} (h : Go r1 r2 k as n todo seen r) : Go r1 r2 k as n todo seen r' → r = r' := by
  induction h with
  | hit d => intro q; cases q with
    | hit _ => rfl
    | old e _ _ => exact absurd d e
    | new e _ _ => exact absurd d e
  | old e i _ ih => intro q; cases q with
    | hit d => exact absurd d e
    | old _ _ q => exact ih q
    | new _ i' _ => exact absurd i i'
  | new e i _ ih => intro q; cases q with
    | hit d => exact absurd d e
    | old _ i' _ => exact absurd i' i
    | new _ _ q => exact ih q
  | next _ ih => intro q; cases q with
    | next q => exact ih q
  | done => intro q; cases q; rfl
def sw (n : Node) : Node := (n.2.1, n.1, n.2.2)
def swp (p : Int × Int) : Int × Int := (p.2, p.1)
theorem swp_mem {p : Int × Int} {s : List (Int × Int)} : swp p ∈ s.map swp ↔ p ∈ s := by
  constructor
  · intro h
    obtain ⟨q, hq, e⟩ := List.mem_map.mp h
    have : q = p := by
      cases q; cases p
      simp only [swp, Prod.mk.injEq] at e
      rw [e.1, e.2]
    rw [← this]; exact hq
  · exact fun h => List.mem_map_of_mem h
theorem Go.swap {r1 r2 : List (List IP)} {k : Int} {as : List Int} {n : Node} {todo : List Node} {seen : List (Int × Int)} {r : Option (List Int)} (h : Go r1 r2 k as n todo seen r) : Go r2 r1 k as (sw n) (todo.map sw) (seen.map swp) r := by
  induction h with
  | hit d => exact .hit (n := sw _) (fun e => d e.symm)
  | old e i _ ih => exact .old (fun d => e fun q => d q.symm) (swp_mem (p := nxt r1 r2 _ _).mpr i) ih
  | new e i _ ih =>
    rw [List.map_append, List.map_append] at ih
    exact .new (fun d => e fun q => d q.symm) (fun q => i (swp_mem (p := nxt r1 r2 _ _).mp q)) ih
  | next _ ih => exact .next ih
  | done => exact .done
def Ans (r1 r2 : List (List IP)) (k : Int) (r : Option (List Int)) : Prop := Go r1 r2 k [] (0, 0, []) [(0, 0, [])] [(0, 0)] r
theorem Ans.swap {r1 r2 : List (List IP)} {k : Int} {r : Option (List Int)} (h : Ans r1 r2 k r) : Ans r2 r1 k r := Go.swap h
/-! ### how many -/
theorem nat_pig : ∀ (N : Nat) (l : List Nat), l.Nodup → (∀ x ∈ l, x < N) → l.length ≤ N
  | 0, [], _, _ => Nat.le_refl _
  | 0, x :: _, _, h => absurd (h x (by simp)) (Nat.not_lt_zero _)
  | N + 1, l, nd, h => by
    have e := nat_pig N (l.erase N) (nd.erase N) fun x hx => by
      have h1 := (nd.mem_erase_iff).mp hx
      have h2 := h x h1.2
      have h3 := h1.1
      omega
    have f : l.length ≤ (l.erase N).length + 1 := by
      rw [List.length_erase]; split <;> omega
    omega
theorem pig {n1 n2 : Nat} {s : List (Int × Int)} (nd : s.Nodup) (h : ∀ p ∈ s, (0 ≤ p.1 ∧ p.1 < n1) ∧ (0 ≤ p.2 ∧ p.2 < n2)) : s.length ≤ n1 * n2 := by
  have key : ∀ p ∈ s, p.1.toNat * n2 + p.2.toNat < n1 * n2 := fun p hp => by
    obtain ⟨⟨a, b⟩, c, d⟩ := h p hp
    have h1 : p.1.toNat + 1 ≤ n1 := by omega
    have h2 : (p.1.toNat + 1) * n2 ≤ n1 * n2 := Nat.mul_le_mul_right _ h1
    rw [Nat.add_mul, Nat.one_mul] at h2
    omega
  have inj : ∀ p ∈ s, ∀ q ∈ s, p.1.toNat * n2 + p.2.toNat = q.1.toNat * n2 + q.2.toNat → p = q := fun p hp q hq e => by
    obtain ⟨⟨a, b⟩, c, d⟩ := h p hp
    obtain ⟨⟨a', b'⟩, c', d'⟩ := h q hq
    have z1 : p.2.toNat < n2 := by omega
    have z2 : q.2.toNat < n2 := by omega
    have e1 : p.1.toNat = q.1.toNat := by
      rcases Nat.lt_trichotomy p.1.toNat q.1.toNat with g | g | g
      · have : (p.1.toNat + 1) * n2 ≤ q.1.toNat * n2 := Nat.mul_le_mul_right _ g
        rw [Nat.add_mul, Nat.one_mul] at this; omega
      · exact g
      · have : (q.1.toNat + 1) * n2 ≤ p.1.toNat * n2 := Nat.mul_le_mul_right _ g
        rw [Nat.add_mul, Nat.one_mul] at this; omega
    rw [e1] at e
    have e2 : p.2.toNat = q.2.toNat := by omega
    exact Prod.ext (by omega) (by omega)
  have nd2 : (s.map fun p => p.1.toNat * n2 + p.2.toNat).Nodup := by
    clear h key
    induction s with
    | nil => simp
    | cons p s ih =>
      rw [List.nodup_cons] at nd
      rw [List.map_cons, List.nodup_cons]
      refine ⟨fun q => ?_, ih nd.2 fun a ha b hb => inj a (List.mem_cons_of_mem _ ha) b (List.mem_cons_of_mem _ hb)⟩
      obtain ⟨z, hz, e⟩ := List.mem_map.mp q
      have := inj z (List.mem_cons_of_mem _ hz) p (by simp) e
      exact nd.1 (this ▸ hz)
  have := nat_pig (n1 * n2) _ nd2 fun x hx => by
    obtain ⟨p, hp, rfl⟩ := List.mem_map.mp hx
    exact key p hp
  simpa using this
theorem tr_at {rows : List (List IP)} {i s a : Int} (hr : ∀ r ∈ rows, (r.length : Int) = i) (s0 : 0 ≤ s) (s1 : s < rows.length) (a0 : 0 ≤ a) (a1 : a < i) :
    ∃ row, row ∈ rows ∧ (∀ f : List IP → D, atI (rows.map f) s = some (f row)) ∧ atI (row.map dP) a = some (dP (tr rows s a)) ∧ tr rows s a ∈ row := by
  have hs : s.toNat < rows.length := by omega
  have hrow := List.getElem_mem hs
  have hl := hr _ hrow
  have ha : a.toNat < rows[s.toNat].length := by omega
  have e : tr rows s a = rows[s.toNat][a.toNat] := by
    unfold tr
    rw [List.getElem?_eq_getElem hs, Option.getD_some, List.getElem?_eq_getElem ha, Option.getD_some]
  refine ⟨rows[s.toNat], hrow, fun f => ?_, ?_, by rw [e]; exact List.getElem_mem ha⟩
  · have := atI_nat (xs := rows.map f) (j := s.toNat) (v := f rows[s.toNat]) (by rw [List.getElem?_map, List.getElem?_eq_getElem hs]; rfl)
    rw [show ((s.toNat : Nat) : Int) = s by omega] at this
    exact this
  · have := atI_nat (xs := rows[s.toNat].map dP) (j := a.toNat) (v := dP rows[s.toNat][a.toNat]) (by rw [List.getElem?_map, List.getElem?_eq_getElem ha]; rfl)
    rw [show ((a.toNat : Nat) : Int) = a by omega] at this
    rw [e]; exact this
end LAW
namespace LAW
open PySem PySem.Spec PyProof.Rows L2 L3
def dN (n : Node) : D := .tup [.int n.1, .int n.2.1, .tup (n.2.2.map .int)]
def kvs (seen : List (Int × Int)) : List (List Key × D) := seen.map fun p => ([.inl p.1, .inl p.2], .bl true)
def outR : Option (List Int) → D
  | none => .non
  | some w => .lst (w.map .int)
theorem key_eq {p q : Int × Int} : (([.inl p.1, .inl p.2] : List Key) = [.inl q.1, .inl q.2]) ↔ p = q := by
  constructor
  · intro e
    cases p; cases q
    simp only [List.cons.injEq, Sum.inl.injEq, and_true] at e
    rw [e.1, e.2]
  · rintro rfl; rfl
theorem kvs_val (p : Int × Int) : ∀ s : List (Int × Int), (valD (kvs s) [.inl p.1, .inl p.2]).isSome = decide (p ∈ s)
  | [] => rfl
  | q :: s => by
    have ih := kvs_val p s
    unfold valD kvs at ih ⊢
    rw [List.map_cons, List.find?_cons]
    by_cases e : q = p
    · subst e
      simp
    · have e1 : decide (([.inl q.1, .inl q.2] : List Key) = [.inl p.1, .inl p.2]) = false := decide_eq_false fun z => e (key_eq.mp z)
      simp only [e1]
      rw [ih]
      simp only [List.mem_cons, decide_eq_decide]
      constructor
      · exact fun h => .inr h
      · rintro (h | h)
        · exact absurd h.symm e
        · exact h
theorem kvs_put {p : Int × Int} {s : List (Int × Int)} (h : p ∉ s) : putD (kvs s) [.inl p.1, .inl p.2] (.bl true) = kvs (s ++ [p]) := by
  unfold putD
  rw [if_neg]
  · simp [kvs]
  · intro e
    obtain ⟨kv, h1, h2⟩ := List.any_eq_true.mp e
    obtain ⟨q, hq, rfl⟩ := List.mem_map.mp h1
    have := key_eq.mp (of_decide_eq_true h2)
    exact h (this ▸ hq)
structure Good (n1 n2 : Nat) (q : List Node) (seen : List (Int × Int)) : Prop where
  len : q.length = seen.length
  nd : seen.Nodup
  sb : ∀ p ∈ seen, (0 ≤ p.1 ∧ p.1 < n1) ∧ (0 ≤ p.2 ∧ p.2 < n2)
  qb : ∀ n ∈ q, (0 ≤ n.1 ∧ n.1 < n1) ∧ (0 ≤ n.2.1 ∧ n.2.1 < n2)
  ql : ∀ (j : Nat) (n : Node), q[j]? = some n → n.2.2.length ≤ j
theorem Good.start {n1 n2 : Nat} (h1 : 1 ≤ n1) (h2 : 1 ≤ n2) : Good n1 n2 [(0, 0, [])] [(0, 0)] where
  len := rfl
  nd := by simp
  sb := fun p hp => by rw [List.mem_singleton.mp hp]; exact ⟨⟨by decide, by show (0 : Int) < n1; omega⟩, by decide, by show (0 : Int) < n2; omega⟩
  qb := fun p hp => by rw [List.mem_singleton.mp hp]; exact ⟨⟨by decide, by show (0 : Int) < n1; omega⟩, by decide, by show (0 : Int) < n2; omega⟩
  ql := fun j n e => by
    cases j with
    | zero => simp at e; subst e; simp
    | succ j => simp at e
theorem Good.new {n1 n2 : Nat} {q : List Node} {seen : List (Int × Int)} (g : Good n1 n2 q seen) {j : Nat} {m : Node} (hm : q[j]? = some m) {p : Int × Int} (hp : (0 ≤ p.1 ∧ p.1 < n1) ∧ (0 ≤ p.2 ∧ p.2 < n2)) (hn : p ∉ seen) (a : Int) : Good n1 n2 (q ++ [(p.1, p.2, m.2.2 ++ [a])]) (seen ++ [p]) where
  len := by simp [g.len]
  nd := by
    rw [List.nodup_append]
    exact ⟨g.nd, by simp, fun x hx y hy e => hn (by rw [List.mem_singleton.mp hy] at e; exact e ▸ hx)⟩
  sb := fun x hx => by
    rcases List.mem_append.mp hx with h | h
    · exact g.sb x h
    · rw [List.mem_singleton.mp h]; exact hp
  qb := fun x hx => by
    rcases List.mem_append.mp hx with h | h
    · exact g.qb x h
    · rw [List.mem_singleton.mp h]; exact hp
  ql := fun i x e => by
    have hj := (List.getElem?_eq_some_iff.mp hm).1
    have := g.ql j m hm
    by_cases hi : i < q.length
    · rw [List.getElem?_append_left hi] at e; exact g.ql i x e
    · rw [List.getElem?_append_right (by omega)] at e
      cases z : i - q.length with
      | zero =>
        rw [z] at e
        simp at e; subst e
        simp; omega
      | succ y => rw [z] at e; simp at e
theorem toPs_ints : ∀ a : List Int, toPs (a.map D.int) = a.map PyData.int
  | [] => rfl
  | x :: a => by
    show D.toP (.int x) :: toPs (a.map D.int) = _
    rw [toPs_ints a]; rfl
theorem eqv_all_ints : ∀ a b : List Int, PyData.eqvAll (a.map PyData.int) (b.map PyData.int) = decide (a = b)
  | [], [] => by simp [PyData.eqvAll]
  | [], _ :: _ => by simp [PyData.eqvAll]
  | _ :: _, [] => by simp [PyData.eqvAll]
  | x :: a, y :: b => by
    have ih := eqv_all_ints a b
    rw [List.map_cons, List.map_cons, PyData.eqvAll, ih]
    by_cases h : x = y <;> by_cases g : a = b <;> simp [PyData.eqv, h, g]
theorem eqv_ints (a b : List Int) : D.eqv (.tup (a.map .int)) (.tup (b.map .int)) = decide (a = b) := by
  show PyData.eqv (.tuple (toPs _)) (.tuple (toPs _)) = _
  rw [toPs_ints, toPs_ints, ← eqv_all_ints, PyData.eqv]
theorem eqv_intsL (a b : List Int) : D.eqv (.lst (a.map .int)) (.lst (b.map .int)) = decide (a = b) := by
  show PyData.eqv (.list (toPs _)) (.list (toPs _)) = _
  rw [toPs_ints, toPs_ints, ← eqv_all_ints, PyData.eqv]
theorem okEs_all {n : Nat} : ∀ {ds : List D}, (∀ d ∈ ds, D.okE n d = true) → okEs n ds = true
  | [], _ => rfl
  | d :: ds, h => by
    show (D.okE n d && okEs n ds) = true
    rw [h d (by simp), okEs_all fun z hz => h z (List.mem_cons_of_mem _ hz)]; rfl
theorem ok_intsT (ns : List Int) : D.okE 64 (.tup (ns.map D.int)) = true := okEs_all fun d hd => by
  obtain ⟨x, _, rfl⟩ := List.mem_map.mp hd
  rfl
theorem ok_intsL (ns : List Int) : D.okE 64 (.lst (ns.map D.int)) = true := okEs_all fun d hd => by
  obtain ⟨x, _, rfl⟩ := List.mem_map.mp hd
  rfl
theorem dr_fr {n : Nat} {M : Mem} {d : D} : deref n M (.fr d) = some d := by cases n <;> simp only [deref]
theorem lkA {w : DS} {P : DEnds} {ρ : Sl} {M : Mem} (ρ' : Sl) (M' : Mem) (e1 : ρ = ρ') (e2 : M = M') (h : w ρ' M' P) : Lk w P ρ M := by subst e1; subst e2; exact lk h
def sp_sep (A : Ad) : DSp := fun args M P R => ∃ (i o l : Int) (ops : List Int) (r1 : List (List IP)) (i' o' l' : Int) (ops' : List Int) (r2 : List (List IP)), OkMc i o l ops r1 ∧ OkMc i' o' l' ops' r2 ∧ args = [.fr (dMc A.Machine i o l ops r1), .fr (dMc A.Machine i' o' l' ops' r2)] ∧ M = [] ∧
  (¬ (i = i' ∧ o = o' ∧ l = l') → R A.Mismatch [] []) ∧ (i = i' ∧ o = o' ∧ l = l' → ops ≠ ops' → P (.fr (.lst [])) []) ∧ (i = i' ∧ o = o' ∧ l = l' → ops = ops' → ∀ r, Ans r1 r2 i r → P (.fr (outR r)) [])
theorem ok_separating_word {P : Program} {w : World} {K : PySem.W.Frag} {mg : Str → Option Value} {base : Heap} {A : Ad} (T : Txt K mg A) : FnOk P w K mg base (L2.CX P w) 1 A.f_separating_word A.d_separating_word ["first", "second"] (spOf K (sp_sep A)) := by
  refine fn_ok T.F_separating_word sc_separating_word (by decide) ?len (fun cdv Ar outer s H E hr =>
  (gss_cons (gs_if (gt_w (gw_or (gt_cmp (od_ne hr.units) (ge_fld (names := N_Machine) (j := 0) (ge_var 0) T.cl_Machine nd_Machine T.na_Machine_inputs) (ge_fld (names := N_Machine) (j := 0) (ge_var 1) T.cl_Machine nd_Machine T.na_Machine_inputs)) (gw_or (gt_cmp (od_ne hr.units) (ge_fld (names := N_Machine) (j := 1) (ge_var 0) T.cl_Machine nd_Machine T.na_Machine_outputs) (ge_fld (names := N_Machine) (j := 1) (ge_var 1) T.cl_Machine nd_Machine T.na_Machine_outputs)) (gw_or1 (gt_cmp (od_ne hr.units) (ge_fld (names := N_Machine) (j := 2) (ge_var 0) T.cl_Machine nd_Machine T.na_Machine_lead) (ge_fld (names := N_Machine) (j := 2) (ge_var 1) T.cl_Machine nd_Machine T.na_Machine_lead))))))
    (gss_one (gs_raise (takes_of rfl rfl rfl rfl) rfl PySem.F.excBase_ValueError T.x_Mismatch T.g_Mismatch T.k_Mismatch (raises_own T.xb_Mismatch T.xt_Mismatch)))
    gss_nil)
  (gss_cons (gs_if (gt_cmp (od_ne hr.units) (ge_fld (names := N_Machine) (j := 3) (ge_var 0) T.cl_Machine nd_Machine T.na_Machine_opening) (ge_fld (names := N_Machine) (j := 3) (ge_var 1) T.cl_Machine nd_Machine T.na_Machine_opening))
    (gss_one (gs_ret (ge_new (gn_lst ga_nil))))
    gss_nil)
  (gss_cons (gs_set 2 sc_separating_word.nd (ge_keep (gn_lst (ga_cons (ge_tup (ga_cons ge_int (ga_cons ge_int (ga_cons (ge_tup ga_nil) ga_nil)))) ga_nil))))
  (gss_cons (gs_set 3 sc_separating_word.nd (ge_keep (gn_disp1T (room1 hr) (ge_tup (ga_cons ge_int (ga_cons ge_int ga_nil))) ge_bl)))
  (gss_cons (gs_set 4 sc_separating_word.nd ge_int)
  (gss_cons (gs_while [5, 6, 7, 8, 9] (passes_of rfl) (gt_cmp od_lt (ge_var 4) (ge_callB cd_len T.n_len b_len (ga_cons (ge_var 2) ga_nil)))
    (gss_cons (gs_asg (ge_ix (ge_var 2) (ge_var 4)) (gg_tup rfl (ggs_cons (gg_name 5 sc_separating_word.nd) (ggs_cons (gg_name 6 sc_separating_word.nd) (ggs_cons (gg_name 7 sc_separating_word.nd) ggs_nil))) (fun _ h => pg_tup rfl h)))
  (gss_cons (gs_aug 4 sc_separating_word.nd ge_int oi_add (hr := fun h1 h2 => ps_aug sc_separating_word.nd rfl (by first | exact .inl rfl | exact .inr rfl) h1 h2))
  (gss_one (gs_for [8, 9] (passes_of rfl) rfl (gi_rng1 T.n_range (ga_cons (ge_fld (names := N_Machine) (j := 0) (ge_var 0) T.cl_Machine nd_Machine T.na_Machine_inputs) ga_nil)) (gg_name 8 sc_separating_word.nd)
    (gss_cons (gs_if (gt_cmp (od_ne hr.units) (ge_ix (ge_ix (ge_ix (ge_fld (names := N_Machine) (j := 4) (ge_var 0) T.cl_Machine nd_Machine T.na_Machine_rows) (ge_var 5)) (ge_var 8)) ge_int) (ge_ix (ge_ix (ge_ix (ge_fld (names := N_Machine) (j := 4) (ge_var 1) T.cl_Machine nd_Machine T.na_Machine_rows) (ge_var 6)) (ge_var 8)) ge_int))
    (gss_one (gs_ret (ge_new (gn_callTy cn_list T.n_list b_list (ga_cons (ge_op od_add (ge_var 7) (ge_tup (ga_cons (ge_var 8) ga_nil))) ga_nil)))))
    gss_nil)
  (gss_cons (gs_set 9 sc_separating_word.nd (ge_tup (ga_cons (ge_ix (ge_ix (ge_ix (ge_fld (names := N_Machine) (j := 4) (ge_var 0) T.cl_Machine nd_Machine T.na_Machine_rows) (ge_var 5)) (ge_var 8)) ge_int) (ga_cons (ge_ix (ge_ix (ge_ix (ge_fld (names := N_Machine) (j := 4) (ge_var 1) T.cl_Machine nd_Machine T.na_Machine_rows) (ge_var 6)) (ge_var 8)) ge_int) ga_nil))))
  (gss_one (gs_if (gt_dnotin (room1 hr) (ge_var 9) (ge_var 3))
    (gss_cons (gs_dput (room1 hr) ge_bl (ge_var 3) (ge_var 9))
  (gss_one (gs_expr (ge_mt PySem.F.plainAttrs_list PySem.F.slot_list_append PySem.F.type_list_append md_append (ge_var 2) (ga_cons (ge_tup (ga_cons (ge_ix (ge_var 9) ge_int) (ga_cons (ge_ix (ge_var 9) ge_int) (ga_cons (ge_op od_add (ge_var 7) (ge_tup (ga_cons (ge_var 8) ga_nil))) ga_nil)))) ga_nil)))))
    gss_nil)))))))))
  (gss_one (gs_ret ge_non))))))))) ?body
  case len => rintro args M Pd R ⟨_, _, _, _, _, _, _, _, _, _, _, _, rfl, _⟩; rfl
  case body =>
    rintro args M Pd R ⟨i, o, l, ops, r1, i', o', l', ops', r2, h, h', rfl, rfl, q1, q2, q3⟩
    refine ⟨rfl, rfl, ?_⟩
    by_cases hi : i = i'
    · refine iF (neF hi) ⟨rfl, rfl, ?_⟩
      by_cases ho : o = o'
      · refine iF (neF ho) ⟨rfl, rfl, ?_⟩
        by_cases hl : l = l'
        · refine iF (neF hl) (lk ⟨rfl, rfl, .tup (ops.map .int), .tup (ops'.map .int), dr_fr, dr_fr, ok_intsT ops, ok_intsT ops', ?_⟩)
          rw [eqv_ints]
          by_cases hops : ops = ops'
          · refine iF (neF hops) (lk ⟨ble rfl, ble rfl, ble rfl, lk ⟨ble rfl, lk (lk ?_)⟩⟩)
            subst hi ho hl hops
            have q := q3 ⟨rfl, rfl, rfl⟩ rfl
            have hb1 := h.rl2
            have hb2 := h'.rl2
            have hi1 := h.i1
            have hi2 := h.i2
            refine ⟨fun n ρ M => ∃ (q : List Node) (seen : List (Int × Int)) (at' : Nat) (n0 : Node), Good r1.length r2.length q seen ∧ at' ≤ q.length ∧ n = r1.length * r2.length - at' ∧ (∀ r, Go r1 r2 i [] n0 (q.drop at') seen r → Ans r1 r2 i r) ∧
              M = [some (.lst (q.map dN)), some (.dT (kvs seen))] ∧ ρ = [some (.fr (dMc A.Machine i o l ops r1)), some (.fr (dMc A.Machine i o l ops r2)), some (.mt 0), some (.mt 1), some (.fr (.int (at' : Int))), none, none, none, none, none],
              ⟨rfl, _, [(0, 0, [])], [(0, 0)], 0, (0, 0, []), Good.start h.rl h'.rl, by simp, rfl, fun r hr => hr, rfl, rfl⟩, ?_⟩
            rintro n ρ2 M2 ⟨qu, seen, at', n0, g, hat, rfl, J, rfl, rfl⟩
            have hpig : qu.length ≤ r1.length * r2.length := by rw [g.len]; exact pig g.nd g.sb
            have hsm : r1.length * r2.length ≤ 12 * 12 := Nat.mul_le_mul hb1 hb2
            by_cases hlt : at' < qu.length
            · refine iT (dT (by rw [List.length_map]; omega)) ?_
              have hm0 : qu[at']? = some qu[at'] := List.getElem?_eq_getElem hlt
              generalize hme : qu[at'] = m at hm0
              have hdr : qu.drop at' = m :: qu.drop (at' + 1) := by rw [List.drop_eq_getElem_cons hlt, hme]
              refine ⟨dN m, atI_nat (by rw [List.getElem?_map, hm0]; rfl), rfl, rfl, lk (lk ⟨rfl, ⟨by omega, by omega⟩, fun k ρ M => ∃ (q : List Node) (seen : List (Int × Int)), Good r1.length r2.length q seen ∧ q[at']? = some m ∧ (∀ r, Go r1 r2 i ((letters i).drop k) m (q.drop (at' + 1)) seen r → Ans r1 r2 i r) ∧
                M = [some (.lst (q.map dN)), some (.dT (kvs seen))] ∧ ρ = [some (.fr (dMc A.Machine i o l ops r1)), some (.fr (dMc A.Machine i o l ops r2)), some (.mt 0), some (.mt 1), some (.fr (.int ((at' + 1 : Nat) : Int))), some (.fr (.int m.1)), some (.fr (.int m.2.1)), some (.fr (.tup (m.2.2.map .int))), none, none],
                ⟨rfl, qu, seen, g, hm0, fun r hr => J r (by rw [hdr]; exact .next hr), rfl, rfl⟩, ?_, ?_⟩)⟩
              · rintro k d ρ3 M3 hk rfl ⟨q4, s4, g, hm, J, rfl, rfl⟩
                have hk2 : k < i.toNat := hk
                have hmm := List.mem_of_getElem? hm
                have hmb := g.qb m hmm
                have hml := g.ql _ _ hm
                have hql : q4.length ≤ r1.length * r2.length := by rw [g.len]; exact pig g.nd g.sb
                have hmi := (List.getElem?_eq_some_iff.mp hm).1
                obtain ⟨w1, hw1, e1, c1, t1⟩ := tr_at h.rw hmb.1.1 hmb.1.2 (a := 0 + (k : Int)) (by omega) (by omega)
                obtain ⟨w2, hw2, e2, c2, t2⟩ := tr_at h'.rw hmb.2.1 hmb.2.2 (a := 0 + (k : Int)) (by omega) (by omega)
                have b1 := h.rp w1 hw1 _ t1
                have b2 := h'.rp w2 hw2 _ t2
                rw [letters_drop hk2] at J
                refine ⟨rfl, _, e1 (fun r => D.tup (r.map dP)), _, c1, _, rfl, rfl, _, e2 (fun r => D.tup (r.map dP)), _, c2, _, rfl, ?_⟩
                by_cases hd : dif r1 r2 m (0 + (k : Int))
                · refine iT (neT hd) ⟨ble rfl, szL (by simp; omega), rfl, ?_⟩
                  have := q _ (J _ (.hit hd))
                  simpa [outR] using this
                · refine iF (neF (Decidable.not_not.mp hd)) (lk ⟨rfl, _, e1 (fun r => D.tup (r.map dP)), _, c1, _, rfl, rfl, _, e2 (fun r => D.tup (r.map dP)), _, c2, _, rfl, ble rfl, lk ?_⟩)
                  have kv := kvs_val (nxt r1 r2 m (0 + (k : Int))) s4
                  by_cases hs : nxt r1 r2 m (0 + (k : Int)) ∈ s4
                  · refine iF ?_ ⟨rfl, q4, s4, g, hm, fun r hr => J r (.old hd hs hr), rfl, rfl⟩
                    show (true != (valD (kvs s4) [.inl (nxt r1 r2 m (0 + (k : Int))).1, .inl (nxt r1 r2 m (0 + (k : Int))).2]).isSome) = false
                    rw [kv, dT hs]; rfl
                  · refine iT ?_ ⟨szl ?_, lk ⟨rfl, _, rfl, _, rfl, ble rfl, szL (by simp; omega), ble rfl, szl ?_, rfl, q4 ++ [((nxt r1 r2 m (0 + (k : Int))).1, (nxt r1 r2 m (0 + (k : Int))).2, m.2.2 ++ [0 + (k : Int)])], s4 ++ [nxt r1 r2 m (0 + (k : Int))], g.new (p := nxt r1 r2 m (0 + (k : Int))) hm ⟨b1.1, b2.1⟩ hs _, ?_, fun r hr => J r (.new hd hs ?_), ?_, rfl⟩⟩
                    · show (true != (valD (kvs s4) [.inl (nxt r1 r2 m (0 + (k : Int))).1, .inl (nxt r1 r2 m (0 + (k : Int))).2]).isSome) = true
                      rw [kv, dF hs]; rfl
                    · rw [kvs, List.length_map, ← g.len]; omega
                    · rw [List.length_map]; omega
                    · rw [List.getElem?_append_left hmi]; exact hm
                    · rw [List.drop_append_of_le_length (by omega)] at hr
                      exact hr
                    · show [some (MO.lst (q4.map dN ++ [.tup [.int (nxt r1 r2 m (0 + (k : Int))).1, .int (nxt r1 r2 m (0 + (k : Int))).2, .tup (m.2.2.map .int ++ [.int (0 + (k : Int))])]])), some (MO.dT (putD (kvs s4) [.inl (nxt r1 r2 m (0 + (k : Int))).1, .inl (nxt r1 r2 m (0 + (k : Int))).2] (.bl true)))] = _
                      rw [kvs_put hs]; simp [dN]
              · rintro ρ3 M3 ⟨q4, s4, g, hm, J, rfl, rfl⟩
                have hmi := (List.getElem?_eq_some_iff.mp hm).1
                refine ⟨rfl, r1.length * r2.length - (at' + 1), by omega, q4, s4, at' + 1, m, g, by omega, rfl, fun r hr => J r ?_, rfl, rfl⟩
                rw [show (ItD.rng 0 i.toNat).n = i.toNat from rfl, letters_end]
                exact hr
            · refine iF (dF (by rw [List.length_map]; omega)) (lk ⟨rfl, q none (J none ?_)⟩)
              rw [List.drop_eq_nil_of_le (by omega)]
              exact .done
          · exact iT (neT hops) ⟨ble rfl, rfl, q2 ⟨hi, ho, hl⟩ hops⟩
        · exact iT (neT hl) ⟨rfl, q1 fun e => hl e.2.2⟩
      · exact iT (neT ho) (iT rfl ⟨rfl, q1 fun e => ho e.2.1⟩)
    · exact iT (neT hi) (iT rfl ⟨rfl, q1 fun e => hi e.1⟩)
end LAW
namespace LAW
open PySem PySem.Spec PyProof.Rows L2 L3
def dRef : D := .tup [.str "refused", .str "mismatch"]
def sp_out (A : Ad) : DSp := fun args M P R => ∃ (i o l : Int) (ops : List Int) (r1 : List (List IP)) (i' o' l' : Int) (ops' : List Int) (r2 : List (List IP)), OkMc i o l ops r1 ∧ OkMc i' o' l' ops' r2 ∧ args = [.fr (dMc A.Machine i o l ops r1), .fr (dMc A.Machine i' o' l' ops' r2)] ∧ M = [] ∧
  (¬ (i = i' ∧ o = o' ∧ l = l') → P (.fr dRef) []) ∧ (i = i' ∧ o = o' ∧ l = l' → ops ≠ ops' → P (.fr (.lst [])) []) ∧ (i = i' ∧ o = o' ∧ l = l' → ops = ops' → ∀ r, Ans r1 r2 i r → P (.fr (outR r)) [])
theorem ok_l_outcome {P : Program} {w : World} {K : PySem.W.Frag} {mg : Str → Option Value} {base : Heap} {A : Ad} (T : Txt K mg A) : FnOk P w K mg base (L2.CX P w) 2 A.f_l_outcome A.d_l_outcome ["_law_one", "_law_two"] (spOf K (sp_out A)) := by
  refine fn_ok T.F_l_outcome sc_l_outcome (by decide) ?len (fun cdv Ar outer s H E hr =>
  (gss_one (gs_try K rfl rfl rfl ⟨rfl, by decide, .inl T.g_Mismatch⟩ (takes_of rfl rfl rfl rfl) (fun _ _ _ tk po => (gss_one (gs_ret (ge_call [] (ok_separating_word T) (hr.mono (by decide)) T.g_separating_word T.k_separating_word T.b_separating_word tk (ga_cons (ge_var 0) (ga_cons (ge_var 1) ga_nil)))))) (fun _ _ _ _ _ _ _ => (gss_one (gs_ret (ge_tup (ga_cons ge_str (ga_cons ge_str ga_nil))))))))) ?body
  case len => rintro args M Pd R ⟨_, _, _, _, _, _, _, _, _, _, _, _, rfl, _⟩; rfl
  case body =>
    rintro args M Pd R ⟨i, o, l, ops, r1, i', o', l', ops', r2, h, h', rfl, rfl, q1, q2, q3⟩
    exact ⟨i, o, l, ops, r1, i', o', l', ops', r2, h, h', rfl, rfl, fun e => ⟨Nat.le_refl _, true, T.em_Mismatch_Mismatch, iT rfl ⟨ble rfl, rfl, q1 e⟩⟩, fun e1 e2 => ⟨Nat.le_refl _, rfl, q2 e1 e2⟩, fun e1 e2 r hr => ⟨Nat.le_refl _, rfl, q3 e1 e2 r hr⟩⟩
def dN' (n : Node) : D := .tup [.int n.1, .int n.2.1, .lst (n.2.2.map .int)]
theorem eqv_dP (p q : IP) : D.eqv (dP p) (dP q) = decide (p = q) := by
  have := eqv_ints [p.1, p.2] [q.1, q.2]
  rw [show D.eqv (dP p) (dP q) = _ from this]
  cases p; cases q
  simp
theorem any_dP (p : IP) : ∀ s : List IP, ((s.map dP).any fun z => D.eqv z (dP p)) = decide (p ∈ s)
  | [] => rfl
  | q :: s => by
    rw [List.map_cons, List.any_cons, any_dP p s, eqv_dP]
    by_cases h : q = p
    · subst h; simp
    · have h' : ¬ p = q := fun e => h e.symm
      by_cases g : p ∈ s <;> simp [h, h', g]
theorem ok_dPs (s : List IP) : D.okE 64 (.lst (s.map dP)) = true := okEs_all fun d hd => by
  obtain ⟨x, _, rfl⟩ := List.mem_map.mp hd
  rfl
structure Lev (n1 n2 t : Nat) (words : List Node) (seen : List (Int × Int)) : Prop where
  nd : seen.Nodup
  sb : ∀ p ∈ seen, (0 ≤ p.1 ∧ p.1 < n1) ∧ (0 ≤ p.2 ∧ p.2 < n2)
  wb : ∀ n ∈ words, (0 ≤ n.1 ∧ n.1 < n1) ∧ (0 ≤ n.2.1 ∧ n.2.1 < n2)
  wl : ∀ n ∈ words, n.2.2.length ≤ t
theorem Lev.new {n1 n2 t : Nat} {w : List Node} {seen : List (Int × Int)} (g : Lev n1 n2 (t + 1) w seen) {m : Node} (hm : m.2.2.length ≤ t) {p : Int × Int} (hp : (0 ≤ p.1 ∧ p.1 < n1) ∧ (0 ≤ p.2 ∧ p.2 < n2)) (hn : p ∉ seen) (a : Int) : Lev n1 n2 (t + 1) (w ++ [(p.1, p.2, m.2.2 ++ [a])]) (seen ++ [p]) where
  nd := by
    rw [List.nodup_append]
    exact ⟨g.nd, by simp, fun x hx y hy e => hn (by rw [List.mem_singleton.mp hy] at e; exact e ▸ hx)⟩
  sb := fun x hx => by
    rcases List.mem_append.mp hx with h | h
    · exact g.sb x h
    · rw [List.mem_singleton.mp h]; exact hp
  wb := fun x hx => by
    rcases List.mem_append.mp hx with h | h
    · exact g.wb x h
    · rw [List.mem_singleton.mp h]; exact hp
  wl := fun x hx => by
    rcases List.mem_append.mp hx with h | h
    · exact g.wl x h
    · rw [List.mem_singleton.mp h]; simp; exact hm
def sp_exp : DSp := fun args M P R => ∃ (i o l i' o' l' : Int) (ops ops' : List Int) (r1 r2 : List (List IP)), OkMc i o l ops r1 ∧ OkMc i' o' l' ops' r2 ∧ i = i' ∧ args = [.fr (dRowsL r1), .fr (dRowsL r2)] ∧ M = [] ∧ ∀ r, Ans r1 r2 i r → P (.fr (outR r)) []
theorem ok_l_expected {P : Program} {w : World} {K : PySem.W.Frag} {mg : Str → Option Value} {base : Heap} {A : Ad} (T : Txt K mg A) : FnOk P w K mg base (L2.CX P w) 1 A.f_l_expected A.d_l_expected ["_law_first", "_law_second"] (spOf K sp_exp) := by
  refine fn_ok T.F_l_expected sc_l_expected (by decide) ?len (fun cdv Ar outer s H E hr =>
  (gss_cons (gs_set 2 sc_l_expected.nd (ge_new (gn_lst (ga_cons (ge_tup (ga_cons ge_int (ga_cons ge_int (ga_cons (ge_new (gn_lst ga_nil)) ga_nil)))) ga_nil))))
  (gss_cons (gs_set 3 sc_l_expected.nd (ge_keep (gn_lst (ga_cons (ge_tup (ga_cons ge_int (ga_cons ge_int ga_nil))) ga_nil))))
  (gss_cons (gs_for [4, 5, 6, 7, 8, 9] (passes_of rfl) rfl (gi_rng1 T.n_range (ga_cons (ge_op od_add (ge_op od_mul (ge_callB cd_len T.n_len b_len (ga_cons (ge_var 0) ga_nil)) (ge_callB cd_len T.n_len b_len (ga_cons (ge_var 1) ga_nil))) ge_int) ga_nil)) (gg_name 4 sc_l_expected.nd)
    (gss_cons (gs_set 5 sc_l_expected.nd (ge_keep (gn_lst ga_nil)))
  (gss_cons (gs_for [2, 4, 6, 7, 8, 9] (passes_of rfl) rfl (gi_seq (ge_var 2)) (gg_name 6 sc_l_expected.nd)
    (gss_one (gs_for [2, 4, 7, 8, 9] (passes_of rfl) rfl (gi_rng1 T.n_range (ga_cons (ge_callB cd_len T.n_len b_len (ga_cons (ge_ix (ge_var 0) ge_int) ga_nil)) ga_nil)) (gg_name 7 sc_l_expected.nd)
    (gss_cons (gs_set 8 sc_l_expected.nd (ge_ix (ge_ix (ge_var 0) (ge_ix (ge_var 6) ge_int)) (ge_var 7)))
  (gss_cons (gs_set 9 sc_l_expected.nd (ge_ix (ge_ix (ge_var 1) (ge_ix (ge_var 6) ge_int)) (ge_var 7)))
  (gss_cons (gs_if (gt_cmp (od_ne hr.units) (ge_ix (ge_var 8) ge_int) (ge_ix (ge_var 9) ge_int))
    (gss_one (gs_ret (ge_op od_add (ge_ix (ge_var 6) ge_int) (ge_new (gn_lst (ga_cons (ge_var 7) ga_nil))))))
    gss_nil)
  (gss_one (gs_if (gt_cmp (od_notin (room65 hr)) (ge_tup (ga_cons (ge_ix (ge_var 8) ge_int) (ga_cons (ge_ix (ge_var 9) ge_int) ga_nil))) (ge_var 3))
    (gss_cons (gs_expr (ge_mt PySem.F.plainAttrs_list PySem.F.slot_list_append PySem.F.type_list_append md_append (ge_var 3) (ga_cons (ge_tup (ga_cons (ge_ix (ge_var 8) ge_int) (ga_cons (ge_ix (ge_var 9) ge_int) ga_nil))) ga_nil)))
  (gss_one (gs_expr (ge_mt PySem.F.plainAttrs_list PySem.F.slot_list_append PySem.F.type_list_append md_append (ge_var 5) (ga_cons (ge_tup (ga_cons (ge_ix (ge_var 8) ge_int) (ga_cons (ge_ix (ge_var 9) ge_int) (ga_cons (ge_op od_add (ge_ix (ge_var 6) ge_int) (ge_new (gn_lst (ga_cons (ge_var 7) ga_nil)))) ga_nil)))) ga_nil)))))
    gss_nil))))))))
  (gss_one (gs_set 2 sc_l_expected.nd (ge_fz (ge_var 5)))))))
  (gss_one (gs_ret ge_non)))))) ?body
  case len => rintro args M Pd R ⟨_, _, _, _, _, _, _, _, _, _, _, _, _, rfl, _⟩; rfl
  case body =>
    rintro args M Pd R ⟨i, o, l, i', o', l', ops, ops', r1, r2, h, h', rfl, rfl, rfl, q⟩
    have hb1 := h.rl2
    have hb2 := h'.rl2
    have hl1 := h.rl
    have hl2 := h'.rl
    have hi1 := h.i1
    have hi2 := h.i2
    have hsm : r1.length * r2.length ≤ 12 * 12 := Nat.mul_le_mul hb1 hb2
    have hci : ((r1.length : Int) * (r2.length : Int)) = ((r1.length * r2.length : Nat) : Int) := (Int.natCast_mul _ _).symm
    refine ⟨ble rfl, ble rfl, ble rfl, lk ⟨ble rfl, ble rfl, lk ⟨.inl ⟨?c1, ?c2⟩, ⟨?c3, ?c4⟩, fun t ρ M => ∃ (words : List Node) (seen : List (Int × Int)) (n0 : Node), Lev r1.length r2.length t words seen ∧ (words = [] ∨ t + words.length ≤ seen.length) ∧ (∀ r, Go r1 r2 i [] n0 words seen r → Ans r1 r2 i r) ∧
      M = [some (.lst (seen.map dP))] ∧ ρ = [some (.fr (dRowsL r1)), some (.fr (dRowsL r2)), some (.fr (.lst (words.map dN'))), some (.mt 0), none, none, none, none, none, none],
      ⟨rfl, [(0, 0, [])], [(0, 0)], (0, 0, []), ?st, .inr (by simp), fun r hr => hr, rfl, rfl⟩, ?_, ?_⟩⟩⟩
    case c1 => rw [List.length_map]; omega
    case c2 => rw [List.length_map]; omega
    case c3 => rw [List.length_map, List.length_map, hci]; omega
    case c4 => rw [List.length_map, List.length_map, hci]; omega
    case st =>
      have g := Good.start hl1 hl2
      exact ⟨g.nd, g.sb, g.qb, fun n hn => by rw [List.mem_singleton.mp hn]; simp⟩
    · rintro t d ρ2 M2 ht rfl ⟨words, seen, n0, g, hc, J, rfl, rfl⟩
      have htn : t < ((((r1.map fun r => D.lst (r.map dP)).length : Int) * ((r2.map fun r => D.lst (r.map dP)).length : Int)) + 1).toNat := ht
      rw [List.length_map, List.length_map, hci] at htn
      have hS0 : seen.length ≤ r1.length * r2.length := pig g.nd g.sb
      refine ⟨Nat.zero_le _, lk ⟨fun j ρ M => ∃ (longer : List Node) (s2 : List (Int × Int)) (n0 : Node), Lev r1.length r2.length (t + 1) longer s2 ∧ s2.length = seen.length + longer.length ∧ (j = 0 → longer = []) ∧ (∀ r, Go r1 r2 i [] n0 (words.drop j ++ longer) s2 r → Ans r1 r2 i r) ∧
        M = [some (.lst (s2.map dP)), some (.lst (longer.map dN'))] ∧ ρ = [some (.fr (dRowsL r1)), some (.fr (dRowsL r2)), none, some (.mt 0), none, some (.mt 1), none, none, none, none],
        ⟨rfl, [], seen, n0, ⟨g.nd, g.sb, by simp, by simp⟩, rfl, fun _ => rfl, fun r hr => J r (by simpa using hr), rfl, rfl⟩, ?_, ?_⟩⟩
      · rintro j d ρ3 M3 hj hy ⟨longer, s2, n1, g2, hcount, hj0, J, rfl, rfl⟩
        obtain ⟨m, hm, hjm, rfl⟩ := get_map hy
        have hmb := g.wb m hm
        have hml := g.wl m hm
        have hjl := (List.getElem?_eq_some_iff.mp hjm)
        obtain ⟨hj1, hj2⟩ := hjl
        have hdr : words.drop j = m :: words.drop (j + 1) := by rw [List.drop_eq_getElem_cons hj1, hj2]
        obtain ⟨w0, hw0, e0, _, _⟩ := tr_at h.rw (Int.le_refl 0) (by omega) (Int.le_refl 0) (by omega)
        have hw0l := h.rw w0 hw0
        refine ⟨_, e0 (fun r => D.lst (r.map dP)), ⟨?d1, ?d2⟩, fun k ρ M => ∃ (longer : List Node) (s2 : List (Int × Int)), Lev r1.length r2.length (t + 1) longer s2 ∧ s2.length = seen.length + longer.length ∧ (∀ r, Go r1 r2 i ((letters i).drop k) m (words.drop (j + 1) ++ longer) s2 r → Ans r1 r2 i r) ∧
          M = [some (.lst (s2.map dP)), some (.lst (longer.map dN'))] ∧ ρ = [some (.fr (dRowsL r1)), some (.fr (dRowsL r2)), none, some (.mt 0), none, some (.mt 1), some (.fr (dN' m)), none, none, none],
          ⟨rfl, longer, s2, g2, hcount, fun r hr => J r (by rw [hdr]; exact .next hr), rfl, rfl⟩, ?_, ?_⟩
        case d1 => rw [List.length_map]; omega
        case d2 => rw [List.length_map]; omega
        · rintro k d ρ4 M4 hk rfl ⟨lo, s4, g4, hc4, J, rfl, rfl⟩
          have hk2 : k < i.toNat := by
            have : k < (((w0.map dP).length : Int)).toNat := hk
            rw [List.length_map] at this; omega
          have hs4 : s4.length ≤ r1.length * r2.length := pig g4.nd g4.sb
          obtain ⟨w1, hw1, e1, c1, t1⟩ := tr_at h.rw hmb.1.1 hmb.1.2 (a := 0 + (k : Int)) (by omega) (by omega)
          obtain ⟨w2, hw2, e2, c2, t2⟩ := tr_at h'.rw hmb.2.1 hmb.2.2 (a := 0 + (k : Int)) (by omega) (by omega)
          have b1 := h.rp w1 hw1 _ t1
          have b2 := h'.rp w2 hw2 _ t2
          rw [letters_drop hk2] at J
          refine ⟨_, rfl, _, e1 (fun r => D.lst (r.map dP)), _, c1, lk ⟨_, rfl, _, e2 (fun r => D.lst (r.map dP)), _, c2, lk ⟨_, rfl, _, rfl, ?_⟩⟩⟩
          by_cases hd : dif r1 r2 m (0 + (k : Int))
          · refine iT (neT hd) ⟨_, rfl, ble rfl, szL (by simp; omega), rfl, ?_⟩
            have := q _ (J _ (.hit hd))
            simpa [outR] using this
          · refine iF (neF (Decidable.not_not.mp hd)) (lk ⟨_, rfl, _, rfl, ble rfl, dP (nxt r1 r2 m (0 + (k : Int))), s4.map dP, dr_fr, by simp [deref], rfl, ok_dPs s4, ?_⟩)
            rw [any_dP]
            by_cases hs : nxt r1 r2 m (0 + (k : Int)) ∈ s4
            · exact iF (by rw [dT hs]; rfl) ⟨rfl, lo, s4, g4, hc4, fun r hr => J r (.old hd hs hr), rfl, rfl⟩
            · refine iT (by rw [dF hs]; rfl) ⟨rfl, _, rfl, _, rfl, ble rfl, szl ?_, lk ⟨rfl, _, rfl, _, rfl, _, rfl, ble rfl, szL (by simp; omega), ble rfl, szl ?_, rfl, lo ++ [((nxt r1 r2 m (0 + (k : Int))).1, (nxt r1 r2 m (0 + (k : Int))).2, m.2.2 ++ [0 + (k : Int)])], s4 ++ [nxt r1 r2 m (0 + (k : Int))], g4.new (p := nxt r1 r2 m (0 + (k : Int))) hml ⟨b1.1, b2.1⟩ hs _, ?_, fun r hr => J r (.new hd hs ?_), ?_, rfl⟩⟩
              · rw [List.length_map]; omega
              · rw [List.length_map]; omega
              · simp; omega
              · rw [List.append_assoc]; exact hr
              · show [some (MO.lst (s4.map dP ++ [dP (nxt r1 r2 m (0 + (k : Int)))])), some (MO.lst (lo.map dN' ++ [.tup [.int (nxt r1 r2 m (0 + (k : Int))).1, .int (nxt r1 r2 m (0 + (k : Int))).2, .lst (m.2.2.map .int ++ [.int (0 + (k : Int))])]]))] = _
                simp [dN']
        · rintro ρ4 M4 ⟨lo, s4, g4, hc4, J, rfl, rfl⟩
          refine ⟨rfl, lo, s4, m, g4, hc4, fun e => by omega, fun r hr => J r ?_, rfl, rfl⟩
          have : (ItD.rng 0 (((w0.map dP).length : Int)).toNat).n = i.toNat := by
            show (((w0.map dP).length : Int)).toNat = i.toNat
            rw [List.length_map, hw0l]
          rw [this, letters_end]
          exact hr
      · rintro ρ3 M3 ⟨longer, s2, n1, g2, hcount, hj0, J, rfl, rfl⟩
        have en : (ItD.seq (words.map dN')).n = words.length := by show (words.map dN').length = _; rw [List.length_map]
        rw [en] at J hj0
        refine lk ⟨rfl, longer, s2, n1, g2, ?_, fun r hr => J r (by rw [List.drop_length]; exact hr), rfl, rfl⟩
        by_cases hw : words.length = 0
        · exact .inl (hj0 hw)
        · rcases hc with e | e
          · rw [e] at hw; exact absurd rfl hw
          · right; omega
    · rintro ρ2 M2 ⟨words, seen, n0, g, hc, J, rfl, rfl⟩
      have hS0 : seen.length ≤ r1.length * r2.length := pig g.nd g.sb
      have en : (ItD.rng 0 ((((r1.map fun r => D.lst (r.map dP)).length : Int) * ((r2.map fun r => D.lst (r.map dP)).length : Int)) + 1).toNat).n = r1.length * r2.length + 1 := by
        show ((((r1.map fun r => D.lst (r.map dP)).length : Int) * ((r2.map fun r => D.lst (r.map dP)).length : Int)) + 1).toNat = _
        rw [List.length_map, List.length_map, hci]; omega
      have hw : words = [] := by
        rcases hc with e | e
        · exact e
        · have e2 : (ItD.rng 0 ((((r1.map fun r => D.lst (r.map dP)).length : Int) * ((r2.map fun r => D.lst (r.map dP)).length : Int)) + 1).toNat).n + words.length ≤ seen.length := e
          rw [en] at e2; omega
      subst hw
      exact lk ⟨rfl, q none (J none .done)⟩
end LAW
namespace LAW
open PySem PySem.Spec PyProof.Rows L2 L3
theorem Cvt.forget (tmp : List Nat) (ρ : Sl) (M : Mem) : Cvt ρ M (L3.forget tmp ρ) M := fun K G F as H σ o => ⟨F, Ex.refl _, o.forget tmp⟩
def fMc (i o l : Int) (ops : List Int) (rows : List (List IP)) : List (Str × U) := [("inputs", .fr (.int i)), ("outputs", .fr (.int o)), ("lead", .fr (.int l)), ("opening", .fr (.tup (ops.map .int))), ("rows", .fr (dRowsT rows))]
theorem eqv_self {d : D} {n : Nat} (h : D.okE n d = true) : D.eqv d d = true := PySem.SeqAt.eqv_refl _ (okE_P n d h).1
theorem ok_ref : D.okE 64 dRef = true := by decide +kernel
theorem ixN_ok {n : Nat} {z : Int} (h0 : 0 ≤ z) (h1 : z < n) : ixN n z = some z.toNat := by
  unfold ixN
  rw [if_pos h0, if_pos (by omega)]
theorem hs_frz {rows : List (List IP)} {t : Nat} {d2 : D} {row : List IP} : ((((rows.map fun r => U.fr (.lst (r.map dP))).set t (.mt 3)).map (frzU 2 d2)).map (frzU 3 (.lst (row.map dP)))) = ((rows.set t row).map fun r => U.fr (.lst (r.map dP))) := by
  rw [List.map_set, List.map_set, List.map_map, List.map_map, List.map_set]
  rfl
abbrev sp_law : DSp := LawSp
def dSz (i o l : Int) : MO := .lst [.int i, .int o, .int l]
theorem ok_law {P : Program} {w : World} {K : PySem.W.Frag} {mg : Str → Option Value} {base : Heap} {A : Ad} (T : Txt K mg A) : FnOk P w K mg base (L2.CX P w) 4 A.f_law A.d_law ["_law_script"] (spOf K sp_law) := by
  refine fn_ok T.F_law sc_law (by decide) ?len (fun cdv Ar outer s H E hr =>
  (gss_cons (gs_set 1 sc_law.nd (ge_call [] (ok_l_draws T) (hr.mono (by decide)) T.g_l_draws T.k_l_draws T.b_l_draws (takes_of rfl rfl rfl rfl) (ga_cons (ge_var 0) (ga_cons ge_int ga_nil))))
  (gss_cons (gs_set 2 sc_law.nd (ge_op od_add ge_int (ge_call [0] (ok_l_take T) (hr.mono (by decide)) T.g_l_take T.k_l_take T.b_l_take (takes_of rfl rfl rfl rfl) (ga_cons (ge_var 1) (ga_cons ge_int ga_nil)))))
  (gss_cons (gs_set 3 sc_law.nd (ge_op od_add ge_int (ge_call [0] (ok_l_take T) (hr.mono (by decide)) T.g_l_take T.k_l_take T.b_l_take (takes_of rfl rfl rfl rfl) (ga_cons (ge_var 1) (ga_cons ge_int ga_nil)))))
  (gss_cons (gs_set 4 sc_law.nd (ge_op od_sub (ge_call [0] (ok_l_take T) (hr.mono (by decide)) T.g_l_take T.k_l_take T.b_l_take (takes_of rfl rfl rfl rfl) (ga_cons (ge_var 1) (ga_cons ge_int ga_nil))) ge_int))
  (gss_cons (gs_asg (ge_call [0] (ok_l_machine T) (hr.mono (by decide)) T.g_l_machine T.k_l_machine T.b_l_machine (takes_of rfl rfl rfl rfl) (ga_cons (ge_var 1) (ga_cons (ge_var 2) (ga_cons (ge_var 3) (ga_cons (ge_var 4) (ga_cons ge_int ga_nil)))))) (gg_tup rfl (ggs_cons (gg_name 5 sc_law.nd) (ggs_cons (gg_name 6 sc_law.nd) ggs_nil)) (fun _ h => pg_tup rfl h)))
  (gss_cons (gs_set 7 sc_law.nd (ge_keep (gn_lst (ga_cons (ge_var 2) (ga_cons (ge_var 3) (ga_cons (ge_var 4) ga_nil))))))
  (gss_cons (gs_set 8 sc_law.nd (ge_keep (gn_lstU (ga_cons (ge_keep (gn_callTy cn_list T.n_list b_list (ga_cons (ge_var 5) ga_nil))) (ga_cons (ge_call [] (ok_l_flat T) (hr.mono (by decide)) T.g_l_flat T.k_l_flat T.b_l_flat (takes_of rfl rfl rfl rfl) (ga_cons (ge_var 6) ga_nil)) ga_nil)))))
  (gss_cons (gs_set 9 sc_law.nd (ge_call [0] (ok_l_take T) (hr.mono (by decide)) T.g_l_take T.k_l_take T.b_l_take (takes_of rfl rfl rfl rfl) (ga_cons (ge_var 1) (ga_cons ge_int ga_nil))))
  (gss_cons (gs_mid (gs_if (gt_cmp (od_eq hr.units) (ge_var 9) ge_int)
    (gss_one (gs_setIx ge_int (ge_var 7) (ge_call [0] (ok_l_take T) (hr.mono (by decide)) T.g_l_take T.k_l_take T.b_l_take (takes_of rfl rfl rfl rfl) (ga_cons (ge_var 1) (ga_cons ge_int ga_nil))) (fun h1 h2 h3 => pg_sub h1 h2 h3)))
    gss_nil))
  (gss_cons (gs_mid (gs_if (gt_w (gw_and (gt_cmp (od_eq hr.units) (ge_var 9) ge_int) (gw_and1 (gt_cmp od_gt (ge_var 4) (ge_neg ge_int)))))
    (gss_one (gs_setIx (ge_op od_sub (ge_var 4) ge_int) (ge_var 7) ge_int (fun h1 h2 h3 => pg_sub h1 h2 h3)))
    gss_nil))
  (gss_cons (gs_if (gt_cmp od_lt (ge_var 9) ge_int)
    (gss_cons (gs_set 10 sc_law.nd (ge_call [0] (ok_l_machine T) (hr.mono (by decide)) T.g_l_machine T.k_l_machine T.b_l_machine (takes_of rfl rfl rfl rfl) (ga_cons (ge_var 1) (ga_cons (ge_ix (ge_var 7) ge_int) (ga_cons (ge_ix (ge_var 7) ge_int) (ga_cons (ge_ix (ge_var 7) ge_int) (ga_cons ge_int ga_nil)))))))
  (gss_one (gs_set 8 sc_law.nd (ge_keep (gn_lstU (ga_cons (ge_ix (ge_var 10) ge_int) (ga_cons (ge_ix (ge_var 10) ge_int) ga_nil)))))))
    gss_nil)
  (gss_cons (gs_mid (gs_if (gt_cmp (od_eq hr.units) (ge_var 9) ge_int)
    (gss_cons (gs_set 11 sc_law.nd (ge_ix (ge_ix (ge_var 8) ge_int) (ge_call [0] (ok_l_take T) (hr.mono (by decide)) T.g_l_take T.k_l_take T.b_l_take (takes_of rfl rfl rfl rfl) (ga_cons (ge_var 1) (ga_cons (ge_callB cd_len T.n_len b_len (ga_cons (ge_var 6) ga_nil)) ga_nil)))))
  (gss_cons (gs_setIx (ge_tup (ga_cons (ge_call [0] (ok_l_take T) (hr.mono (by decide)) T.g_l_take T.k_l_take T.b_l_take (takes_of rfl rfl rfl rfl) (ga_cons (ge_var 1) (ga_cons (ge_callB cd_len T.n_len b_len (ga_cons (ge_var 6) ga_nil)) ga_nil))) (ga_cons (ge_call [0] (ok_l_take T) (hr.mono (by decide)) T.g_l_take T.k_l_take T.b_l_take (takes_of rfl rfl rfl rfl) (ga_cons (ge_var 1) (ga_cons (ge_var 3) ga_nil))) ga_nil))) (ge_var 11) (ge_call [0] (ok_l_take T) (hr.mono (by decide)) T.g_l_take T.k_l_take T.b_l_take (takes_of rfl rfl rfl rfl) (ga_cons (ge_var 1) (ga_cons (ge_var 2) ga_nil))) (fun h1 h2 h3 => pg_sub h1 h2 h3))
  (gss_one (gs_if (gt_w (gw_and (gt_cmp od_lt (ge_var 4) ge_int) (gw_and1 (gt_cmp (od_eq hr.units) (ge_call [0] (ok_l_take T) (hr.mono (by decide)) T.g_l_take T.k_l_take T.b_l_take (takes_of rfl rfl rfl rfl) (ga_cons (ge_var 1) (ga_cons ge_int ga_nil))) ge_int))))
    (gss_cons (gs_set 12 sc_law.nd (ge_ix (ge_var 8) ge_int))
  (gss_one (gs_setIx (ge_call [0] (ok_l_take T) (hr.mono (by decide)) T.g_l_take T.k_l_take T.b_l_take (takes_of rfl rfl rfl rfl) (ga_cons (ge_var 1) (ga_cons (ge_var 3) ga_nil))) (ge_var 12) (ge_call [0] (ok_l_take T) (hr.mono (by decide)) T.g_l_take T.k_l_take T.b_l_take (takes_of rfl rfl rfl rfl) (ga_cons (ge_var 1) (ga_cons (ge_callB cd_len T.n_len b_len (ga_cons (ge_var 12) ga_nil)) ga_nil))) (fun h1 h2 h3 => pg_sub h1 h2 h3))))
    gss_nil))))
    gss_nil))
  (gss_gh (gss_cons (gs_mid (gs_if (gt_cmp od_gt (ge_var 9) ge_int)
    (gss_cons (gs_set 13 sc_law.nd (ge_keep (gn_lst ga_nil)))
  (gss_cons (gs_for [0, 9, 10, 11, 12, 14, 15, 16, 17, 18] (passes_of rfl) rfl (gi_rng1 T.n_range (ga_cons ge_int ga_nil)) (gg_name 14 sc_law.nd)
    (gss_one (gs_for [0, 9, 10, 11, 12, 14, 15, 16, 17, 18] (passes_of rfl) rfl (gi_seq (ge_var 6)) (gg_name 11 sc_law.nd)
    (gss_one (gs_expr (ge_mt PySem.F.plainAttrs_list PySem.F.slot_list_append PySem.F.type_list_append md_append (ge_var 13) (ga_cons (ge_new (gn_lc (own := [("_law_pair", 19)]) rfl sc_law.nd (gi_seq (ge_fz (ge_var 11))) (blkOk_by (own := [("_law_pair", 19)]) (N := N_law) (sc := defScope s_law) (by decide +kernel)) (fun _ _ _ _ _ => (gg_name 19 sc_law.nd)) (fun _ _ _ _ _ => gts_nil) (fun _ _ _ _ _ => (ge_tup (ga_cons (ge_op od_add (ge_ix (ge_var 19) ge_int) (ge_op od_mul (ge_callB cd_len T.n_len b_len (ga_cons (ge_var 6) ga_nil)) (ge_call [0] (ok_l_take T) (hr.mono (by decide)) T.g_l_take T.k_l_take T.b_l_take takes0 (ga_cons (ge_var 1) (ga_cons ge_int ga_nil))))) (ga_cons (ge_ix (ge_var 19) ge_int) ga_nil)))))) ga_nil)))))))
  (gss_one (gs_setIxU (ge_var 13) (ge_var 8) ge_int (fun h1 h2 h3 => pg_sub h1 h2 h3)))))
    gss_nil))
  (gss_gh (gss_cons (gs_set 15 sc_law.nd (ge_make [] T.mk_Machine (ok_MachineU_initU T) (hr.mono (by decide)) T.g_Machine T.b_MachineU_initU (takes_of rfl rfl rfl rfl) (ga_cons (ge_var 2) (ga_cons (ge_var 3) (ga_cons (ge_var 4) (ga_cons (ge_new (gn_callTy cn_list T.n_list b_list (ga_cons (ge_var 5) ga_nil))) (ga_cons (ge_call [] (ok_l_flat T) (hr.mono (by decide)) T.g_l_flat T.k_l_flat T.b_l_flat (takes_of rfl rfl rfl rfl) (ga_cons (ge_var 6) ga_nil)) ga_nil)))))))
  (gss_cons (gs_set 16 sc_law.nd (ge_make [] T.mk_Machine (ok_MachineU_initU T) (hr.mono (by decide)) T.g_Machine T.b_MachineU_initU (takes_of rfl rfl rfl rfl) (ga_cons (ge_ix (ge_var 7) ge_int) (ga_cons (ge_ix (ge_var 7) ge_int) (ga_cons (ge_ix (ge_var 7) ge_int) (ga_cons (ge_new (gn_callTy cn_list T.n_list b_list (ga_cons (ge_ix (ge_var 8) ge_int) ga_nil))) (ga_cons (ge_call [] (ok_l_flat T) (hr.mono (by decide)) T.g_l_flat T.k_l_flat T.b_l_flat (takes_of rfl rfl rfl rfl) (ga_cons (ge_ix (ge_var 8) ge_int) ga_nil)) ga_nil)))))))
  (gss_cons (gs_set 17 sc_law.nd (ge_call [] (ok_l_outcome T) (hr.mono (by decide)) T.g_l_outcome T.k_l_outcome T.b_l_outcome (takes_of rfl rfl rfl rfl) (ga_cons (ge_fz (ge_var 15)) (ga_cons (ge_fz (ge_var 16)) ga_nil))))
  (gss_cons (gs_if (gt_cmp (od_ne hr.units) (ge_var 7) (ge_new (gn_lst (ga_cons (ge_var 2) (ga_cons (ge_var 3) (ga_cons (ge_var 4) ga_nil))))))
    (gss_one (gs_ret (ge_cmp (od_eq hr.units) (ge_var 17) (ge_tup (ga_cons ge_str (ga_cons ge_str ga_nil))))))
    gss_nil)
  (gss_cons (gs_if (gt_cmp (od_ne hr.units) (ge_ix (ge_var 8) ge_int) (ge_var 5))
    (gss_one (gs_ret (ge_cmp (od_eq hr.units) (ge_var 17) (ge_new (gn_lst ga_nil)))))
    gss_nil)
  (gss_cons (gs_set 18 sc_law.nd (ge_call [] (ok_l_expected T) (hr.mono (by decide)) T.g_l_expected T.k_l_expected T.b_l_expected (takes_of rfl rfl rfl rfl) (ga_cons (ge_var 6) (ga_cons (ge_ix (ge_var 8) ge_int) ga_nil))))
  (gss_cons (gs_if (gt_cmp od_is (ge_var 18) ge_non)
    (gss_one (gs_ret (ge_cmp od_is (ge_var 17) ge_non)))
    gss_nil)
  (gss_one (gs_ret (ge_and (ge_isTy (ge_var 17) T.n_isinstance T.n_list b_list) (ge_and (ge_cmp (od_eq hr.units) (ge_var 17) (ge_var 18)) (ge_one (ge_cmp (od_eq hr.units) (ge_call [] (ok_l_outcome T) (hr.mono (by decide)) T.g_l_outcome T.k_l_outcome T.b_l_outcome (takes_of rfl rfl rfl rfl) (ga_cons (ge_fz (ge_var 16)) (ga_cons (ge_fz (ge_var 15)) ga_nil))) (ge_var 18)))))))))))))))))))))))))))))) ?body
  case len => rintro args M Pd R ⟨ns, rfl, _⟩; rfl
  case body =>
    rintro args M Pd R ⟨ns, rfl, rfl, hns, q⟩
    refine ⟨ns, 150, rfl, rfl, by decide, by decide, fun ds hd => ⟨Nat.zero_le _, lk ?_⟩⟩
    refine ⟨ds, 3, rfl, rfl, by decide, hd, .inl fun r1 ds a0 a1 hd => ⟨Nat.le_refl _, lk ⟨ds, 2, rfl, rfl, by decide, hd, .inl fun r2 ds b0 b1 hd => ⟨Nat.le_refl _, lk ⟨ds, 6, rfl, rfl, by decide, hd, .inl fun r3 ds c0 c1 hd => ⟨Nat.le_refl _, lk ?_⟩⟩⟩⟩⟩⟩
    refine ⟨ds, 1 + r1, 1 + r2, r3 - 3, 4, rfl, rfl, hd, by omega, by omega, by omega, by omega, by omega, by omega, by decide, by decide, fun ops rows ds ok hrs hd => ⟨Nat.le_refl _, rfl, rfl, ?_⟩⟩
    generalize hie : 1 + r1 = i at ok ⊢
    generalize hoe : 1 + r2 = o at ok ⊢
    refine lkA [some (.fr (.rol (ns.map .int))), some (.mt 0), some (.fr (.int i)), some (.fr (.int o)), some (.fr (.int (r3 - 3))), some (.fr (.lst (ops.map .int))), some (.fr (dRowsL rows)), none, none, none, none, none, none, none, none, none, none, none, none, none] [some (LI ds)] rfl rfl ?_
    generalize hle : r3 - 3 = l at ok ⊢
    have hr1 := ok.rl
    have hr2 := ok.rl2
    have i1 := ok.i1
    have i2 := ok.i2
    have o1 := ok.o1
    have o2 := ok.o2
    have l1 := ok.l1
    have l2 := ok.l2
    refine ⟨ble rfl, lk ?_⟩
    by_cases h3 : tk ds 6 = 3
    · have hT := tk_rng ds.dropLast (k := (rows.length : Int)) (by omega)
      have hd1 : nn ds.dropLast := fun d h => hd d (List.dropLast_subset _ h)
      obtain ⟨t, ht⟩ : ∃ t : Nat, tk ds.dropLast (rows.length : Int) = (t : Int) := ⟨_, (Int.toNat_of_nonneg hT.1).symm⟩
      have htl : t < rows.length := by omega
      obtain ⟨row, hrow⟩ : ∃ row, rows[t]? = some row := ⟨_, List.getElem?_eq_getElem htl⟩
      have hrm := List.mem_of_getElem? hrow
      have hrl := ok.rw row hrm
      have hrp := ok.rp row hrm
      refine ⟨rows, rfl, rfl, by omega, .inr ⟨t, row, hrow, Nat.zero_le _, ble rfl, ?_⟩⟩
      refine lkA [some (.fr (.rol (ns.map .int))), some (.mt 0), some (.fr (.int i)), some (.fr (.int o)), some (.fr (.int l)), some (.fr (.lst (ops.map .int))), some (.fr (dRowsL rows)), some (.mt 1), some (.mt 5), none, none, none, none, none, none, none, none, none, none, none] [some (LI ds), some (dSz i o l), some (.lst (ops.map .int)), some (.lst (row.map dP)), some (.nst ((rows.map fun r => U.fr (.lst (r.map dP))).set t (.mt 3))), some (.nst [.mt 2, .mt 4])] rfl ?_ ?_
      · have e : ((rows.map fun r => U.fr (.lst (r.map dP))).set t (.mt 0)).map (U.out [] 3) = ((rows.map fun r => U.fr (.lst (r.map dP))).set t (.mt 3)) := by
          rw [List.map_set, List.map_map]; rfl
        rw [← e]; rfl
      refine ⟨ds, 6, rfl, rfl, by decide, hd, .inr ⟨Nat.le_refl _, ?_⟩⟩
      rw [h3]
      generalize ds.dropLast = ds1 at hd1 ht ⊢
      refine lkA [some (.fr (.rol (ns.map .int))), some (.mt 0), some (.fr (.int i)), some (.fr (.int o)), some (.fr (.int l)), some (.fr (.lst (ops.map .int))), some (.fr (dRowsL rows)), some (.mt 1), some (.mt 5), some (.fr (.int 3)), none, none, none, none, none, none, none, none, none, none] [some (LI ds1), some (dSz i o l), some (.lst (ops.map .int)), some (.lst (row.map dP)), some (.nst ((rows.map fun r => U.fr (.lst (r.map dP))).set t (.mt 3))), some (.nst [.mt 2, .mt 4])] rfl rfl ?_
      refine ⟨fun ρ M => ρ = [some (.fr (.rol (ns.map .int))), some (.mt 0), some (.fr (.int i)), some (.fr (.int o)), some (.fr (.int l)), some (.fr (.lst (ops.map .int))), some (.fr (dRowsL rows)), some (.mt 1), some (.mt 5), some (.fr (.int 3)), none, none, none, none, none, none, none, none, none, none] ∧ M = [some (LI ds1), some (dSz i o l), some (.lst (ops.map .int)), some (.lst (row.map dP)), some (.nst ((rows.map fun r => U.fr (.lst (r.map dP))).set t (.mt 3))), some (.nst [.mt 2, .mt 4])], iF rfl ⟨rfl, rfl⟩, ?_⟩
      rintro ρ M ⟨rfl, rfl⟩
      refine lk ⟨fun ρ M => ρ = [some (.fr (.rol (ns.map .int))), some (.mt 0), some (.fr (.int i)), some (.fr (.int o)), some (.fr (.int l)), some (.fr (.lst (ops.map .int))), some (.fr (dRowsL rows)), some (.mt 1), some (.mt 5), some (.fr (.int 3)), none, none, none, none, none, none, none, none, none, none] ∧ M = [some (LI ds1), some (dSz i o l), some (.lst (ops.map .int)), some (.lst (row.map dP)), some (.nst ((rows.map fun r => U.fr (.lst (r.map dP))).set t (.mt 3))), some (.nst [.mt 2, .mt 4])], iF rfl (iF rfl ⟨rfl, rfl⟩), ?_⟩
      rintro ρ M ⟨rfl, rfl⟩
      refine lk (iF rfl (lk ⟨fun ρ M => ∃ (ops' : List Int) (row' : List IP) (ds : List Int) (u11 u12 : Option U), ops'.length = ops.length ∧ (∀ x ∈ ops', 0 ≤ x ∧ x < o) ∧ (row'.length : Int) = i ∧ (∀ p ∈ row', (0 ≤ p.1 ∧ p.1 < (rows.length : Int)) ∧ (0 ≤ p.2 ∧ p.2 < o)) ∧ nn ds ∧ ρ = [some (.fr (.rol (ns.map .int))), some (.mt 0), some (.fr (.int i)), some (.fr (.int o)), some (.fr (.int l)), some (.fr (.lst (ops.map .int))), some (.fr (dRowsL rows)), some (.mt 1), some (.mt 5), some (.fr (.int 3)), none, u11, u12, none, none, none, none, none, none, none] ∧ M = [some (LI ds), some (dSz i o l), some (.lst (ops'.map .int)), some (.lst (row'.map dP)), some (.nst ((rows.map fun r => U.fr (.lst (r.map dP))).set t (.mt 3))), some (.nst [.mt 2, .mt 4])], iT rfl ?_, ?_⟩))
      · refine ⟨_, rfl, ds1, (rows.length : Int), ?_, rfl, by omega, hd1, .inr ⟨Nat.le_refl _, .mt 3, ?_, ?_⟩⟩
        · exact congrArg (fun z : Nat => [U.mt 0, U.fr (D.int (z : Int))]) (List.length_map ..)
        · rw [ht]
          exact atI_nat (by rw [List.getElem?_set_self (by simpa using htl)])
        · have hd2 : nn ds1.dropLast := fun d h => hd1 d (List.dropLast_subset _ h)
          refine lk ⟨ds1.dropLast, (rows.length : Int), congrArg (fun z : Nat => [U.mt 0, U.fr (D.int (z : Int))]) (List.length_map ..), rfl, by omega, hd2, .inl fun x ds x0 x1 hds => ⟨Nat.le_refl _, ds, o, rfl, rfl, by omega, hds, .inl fun y ds y0 y1 hds => ⟨Nat.le_refl _, ble rfl, ds, i, rfl, rfl, by omega, hds, .inl fun z ds z0 z1 hds => ⟨Nat.le_refl _, z.toNat, ixN_ok z0 (by rw [List.length_map]; omega), lk ?_⟩⟩⟩⟩
          have hb' : ∀ p ∈ row.set z.toNat (x, y), (0 ≤ p.1 ∧ p.1 < (rows.length : Int)) ∧ (0 ≤ p.2 ∧ p.2 < o) := fun p hp => by
            rcases List.mem_or_eq_of_mem_set hp with e | e
            · exact hrp p e
            · rw [e]; exact ⟨⟨x0, x1⟩, ⟨y0, y1⟩⟩
          have hl' : ((row.set z.toNat (x, y)).length : Int) = i := by rw [List.length_set]; exact hrl
          have hm' : (row.map dP).set z.toNat (.tup [.int x, .int y]) = (row.set z.toNat (x, y)).map dP := by rw [List.map_set]; rfl
          refine ⟨fun hneg => ⟨ds, 4, rfl, rfl, by decide, hds, .inl fun c ds c0 c1 hds => ⟨Nat.le_refl _, ⟨fun h0 => ?_, fun h0 => ?_⟩⟩⟩, fun hneg => iF rfl ?_⟩
          · have hol := ok.ol
            have hneg2 : l < 0 := of_decide_eq_true hneg
            refine ⟨_, rfl, lk ⟨ds, o, rfl, rfl, by omega, hds, .inl fun y2 ds w0 w1 hds => ⟨Nat.le_refl _, ds, (ops.length : Int), congrArg (fun z : Nat => [U.mt 0, U.fr (D.int (z : Int))]) (List.length_map ..), rfl, by omega, hds, .inl fun z2 ds v0 v1 hds => ⟨Nat.le_refl _, z2.toNat, ixN_ok v0 (by rw [List.length_map]; exact v1), ops.set z2.toNat y2, row.set z.toNat (x, y), ds, _, _, by rw [List.length_set], ?_, hl', hb', hds, rfl, ?_⟩⟩⟩⟩
            · intro u hu
              rcases List.mem_or_eq_of_mem_set hu with e | e
              · exact ok.ob u e
              · rw [e]; exact ⟨w0, w1⟩
            · rw [← hm', ← set_int]; rfl
          · refine ⟨ops, row.set z.toNat (x, y), ds, _, _, rfl, ok.ob, hl', hb', hds, rfl, ?_⟩
            rw [← hm']; rfl
          · refine ⟨ops, row.set z.toNat (x, y), ds, _, _, rfl, ok.ob, hl', hb', hds, rfl, ?_⟩
            rw [← hm']; rfl
      · rintro ρ M ⟨ops', row', ds, u11, u12, hol', hob', hl', hb', hds, rfl, rfl⟩
        refine lk ⟨_, _, Cvt.refl _ _, fun ρ M => ρ = [some (.fr (.rol (ns.map .int))), some (.mt 0), some (.fr (.int i)), some (.fr (.int o)), some (.fr (.int l)), some (.fr (.lst (ops.map .int))), some (.fr (dRowsL rows)), some (.mt 1), some (.mt 5), some (.fr (.int 3)), none, u11, u12, none, none, none, none, none, none, none] ∧ M = [some (LI ds), some (dSz i o l), some (.lst (ops'.map .int)), some (.lst (row'.map dP)), some (.nst ((rows.map fun r => U.fr (.lst (r.map dP))).set t (.mt 3))), some (.nst [.mt 2, .mt 4])], iF rfl ⟨rfl, rfl⟩, ?_⟩
        rintro ρ M ⟨rfl, rfl⟩
        have okd : OkMc i o l ops' (rows.set t row') := ⟨i1, i2, o1, o2, l1, l2, by rw [hol']; exact ok.ol, hob', by rw [List.length_set]; exact ok.rl, by rw [List.length_set]; exact ok.rl2, fun r hr => by
          rcases List.mem_or_eq_of_mem_set hr with e | e
          · exact ok.rw r e
          · rw [e]; exact hl', fun r hr p hp => by
          rw [List.length_set]
          rcases List.mem_or_eq_of_mem_set hr with e | e
          · exact ok.rp r e p hp
          · rw [e] at hp; exact hb' p hp⟩
        refine lk ?_
        refine ⟨[none, some (.mt 0), some (.fr (.int i)), some (.fr (.int o)), some (.fr (.int l)), some (.fr (.lst (ops.map .int))), some (.fr (dRowsL rows)), some (.mt 1), some (.mt 5), none, none, none, none, none, none, none, none, none, none, none], [some (LI ds), some (dSz i o l), none, none, none, some (.nst [.fr (.lst (ops'.map .int)), .fr (dRowsL (rows.set t row'))])], (by
          refine Cvt.trans (Cvt.freeze (h := 2) (mo := .lst (ops'.map .int)) (d := .lst (ops'.map .int)) rfl rfl) ?_
          refine Cvt.trans (Cvt.freeze (h := 3) (mo := .lst (row'.map dP)) (d := .lst (row'.map dP)) rfl rfl) ?_
          show Cvt _ [some (LI ds), some (dSz i o l), none, none, some (.nst ((((rows.map fun r => U.fr (.lst (r.map dP))).set t (.mt 3)).map (frzU 2 (.lst (ops'.map .int)))).map (frzU 3 (.lst (row'.map dP))))), some (.nst [.fr (.lst (ops'.map .int)), .mt 4])] _ _
          rw [hs_frz]
          refine Cvt.trans (Cvt.freeze (h := 4) (mo := .nst ((rows.set t row').map fun r => U.fr (.lst (r.map dP)))) (d := dRowsL (rows.set t row')) rfl ?_) ?_
          · show (toDs ((rows.set t row').map fun r => U.fr (.lst (r.map dP)))).map D.lst = _
            rw [show ((rows.set t row').map fun r => U.fr (.lst (r.map dP))) = ((rows.set t row').map fun r => D.lst (r.map dP)).map U.fr by rw [List.map_map]; rfl, toDs_fr]; rfl
          · exact Cvt.forget [0, 9, 10, 11, 12, 13, 14, 19] _ _), ?_⟩
        have s1 := okd.rl2
        refine ⟨rows, rfl, rfl, by omega, .inl ⟨Nat.le_refl _, by simp [memOut], i, o, l, ops, rows, rfl, rfl, ok, ble rfl, rfl, ?_⟩⟩
        refine lkA [none, some (.mt 0), some (.fr (.int i)), some (.fr (.int o)), some (.fr (.int l)), some (.fr (.lst (ops.map .int))), some (.fr (dRowsL rows)), some (.mt 1), some (.mt 5), none, none, none, none, none, none, some (.mt 6), none, none, none, none] [some (LI ds), some (dSz i o l), none, none, none, some (.nst [.fr (.lst (ops'.map .int)), .fr (dRowsL (rows.set t row'))]), some (.ins A.Machine (fMc i o l ops rows))] rfl rfl ?_
        refine ⟨_, rfl, _, rfl, _, rfl, _, rfl, _, rfl, (rows.set t row'), rfl, rfl, by omega, .inl ⟨Nat.le_refl _, by simp [memOut], i, o, l, ops', (rows.set t row'), rfl, rfl, okd, ble rfl, rfl, ?_⟩⟩
        refine lkA [none, some (.mt 0), some (.fr (.int i)), some (.fr (.int o)), some (.fr (.int l)), some (.fr (.lst (ops.map .int))), some (.fr (dRowsL rows)), some (.mt 1), some (.mt 5), none, none, none, none, none, none, some (.mt 6), some (.mt 7), none, none, none] [some (LI ds), some (dSz i o l), none, none, none, some (.nst [.fr (.lst (ops'.map .int)), .fr (dRowsL (rows.set t row'))]), some (.ins A.Machine (fMc i o l ops rows)), some (.ins A.Machine (fMc i o l ops' (rows.set t row')))] rfl rfl ?_
        have es : D.eqv (.lst [.int i, .int o, .int l]) (.lst [.int i, .int o, .int l]) = decide ([i, o, l] = [i, o, l]) := eqv_intsL [i, o, l] [i, o, l]
        have os : ∀ a b c : Int, D.okE 64 (.lst [.int a, .int b, .int c]) = true := fun a b c => ok_intsL [a, b, c]
        refine ⟨i, o, l, ops, rows, i, o, l, ops', (rows.set t row'), ok, okd, rfl, rfl, fun e => ⟨Nat.zero_le _, ?_⟩, fun e1 e2 => ⟨Nat.zero_le _, ?_⟩, fun e1 e2 r hr => ⟨Nat.zero_le _, ?_⟩⟩
        · refine lkA [none, some (.mt 0), some (.fr (.int i)), some (.fr (.int o)), some (.fr (.int l)), some (.fr (.lst (ops.map .int))), some (.fr (dRowsL rows)), some (.mt 1), some (.mt 5), none, none, none, none, none, none, some (.fr (dMc A.Machine i o l ops rows)), some (.fr (dMc A.Machine i o l ops' (rows.set t row'))), some (.fr dRef), none, none] [some (LI ds), some (dSz i o l), none, none, none, some (.nst [.fr (.lst (ops'.map .int)), .fr (dRowsL (rows.set t row'))]), none, none] rfl rfl ?_
          refine ⟨ble rfl, .lst [.int i, .int o, .int l], .lst [.int i, .int o, .int l], by simp [deref, dSz], dr_fr, os _ _ _, os _ _ _, ?_⟩
          rw [es]
          refine iT (neT fun z => e ?_) ⟨ble rfl, dRef, dRef, dr_fr, dr_fr, ok_ref, ok_ref, ?_⟩
          · exact ⟨(List.cons.inj z).1.symm, (List.cons.inj (List.cons.inj z).2).1.symm, (List.cons.inj (List.cons.inj (List.cons.inj z).2).2).1.symm⟩
          · rw [eqv_self ok_ref]; exact ⟨rfl, q⟩
        · obtain ⟨z1, z2, z3⟩ := e1
          refine lkA [none, some (.mt 0), some (.fr (.int i)), some (.fr (.int o)), some (.fr (.int l)), some (.fr (.lst (ops.map .int))), some (.fr (dRowsL rows)), some (.mt 1), some (.mt 5), none, none, none, none, none, none, some (.fr (dMc A.Machine i o l ops rows)), some (.fr (dMc A.Machine i o l ops' (rows.set t row'))), some (.fr (.lst [])), none, none] [some (LI ds), some (dSz i o l), none, none, none, some (.nst [.fr (.lst (ops'.map .int)), .fr (dRowsL (rows.set t row'))]), none, none] rfl rfl ?_
          refine ⟨ble rfl, .lst [.int i, .int o, .int l], .lst [.int i, .int o, .int l], by simp [deref, dSz], dr_fr, os _ _ _, os _ _ _, ?_⟩
          rw [es]
          refine iF (neF (by simp [z1, z2, z3])) (lk ⟨_, rfl, .lst (ops'.map .int), .lst (ops.map .int), dr_fr, dr_fr, ok_intsL _, ok_intsL _, ?_⟩)
          rw [eqv_intsL]
          refine iT (neT fun z => e2 z.symm) ⟨ble rfl, .lst [], .lst [], dr_fr, dr_fr, rfl, rfl, ?_⟩
          rw [show D.eqv (.lst []) (.lst []) = true from eqv_intsL [] []]; exact ⟨rfl, q⟩
        · obtain ⟨z1, z2, z3⟩ := e1
          refine lkA [none, some (.mt 0), some (.fr (.int i)), some (.fr (.int o)), some (.fr (.int l)), some (.fr (.lst (ops.map .int))), some (.fr (dRowsL rows)), some (.mt 1), some (.mt 5), none, none, none, none, none, none, some (.fr (dMc A.Machine i o l ops rows)), some (.fr (dMc A.Machine i o l ops' (rows.set t row'))), some (.fr (outR r)), none, none] [some (LI ds), some (dSz i o l), none, none, none, some (.nst [.fr (.lst (ops'.map .int)), .fr (dRowsL (rows.set t row'))]), none, none] rfl rfl ?_
          refine ⟨ble rfl, .lst [.int i, .int o, .int l], .lst [.int i, .int o, .int l], by simp [deref, dSz], dr_fr, os _ _ _, os _ _ _, ?_⟩
          rw [es]
          refine iF (neF (by simp [z1, z2, z3])) (lk ⟨_, rfl, .lst (ops'.map .int), .lst (ops.map .int), dr_fr, dr_fr, ok_intsL _, ok_intsL _, ?_⟩)
          rw [eqv_intsL]
          refine iF (neF e2.symm) (lk ⟨_, rfl, i, o, l, i, o, l, ops, ops', rows, (rows.set t row'), ok, okd, z1, rfl, rfl, fun r' hr' => ⟨Nat.zero_le _, ?_⟩⟩)
          have er : r' = r := hr'.det hr
          subst er
          cases r' with
          | none =>
            refine lkA [none, some (.mt 0), some (.fr (.int i)), some (.fr (.int o)), some (.fr (.int l)), some (.fr (.lst (ops.map .int))), some (.fr (dRowsL rows)), some (.mt 1), some (.mt 5), none, none, none, none, none, none, some (.fr (dMc A.Machine i o l ops rows)), some (.fr (dMc A.Machine i o l ops' (rows.set t row'))), some (.fr .non), some (.fr .non), none] [some (LI ds), some (dSz i o l), none, none, none, some (.nst [.fr (.lst (ops'.map .int)), .fr (dRowsL (rows.set t row'))]), none, none] rfl rfl ?_
            exact iT rfl ⟨rfl, q⟩
          | some w =>
            refine lkA [none, some (.mt 0), some (.fr (.int i)), some (.fr (.int o)), some (.fr (.int l)), some (.fr (.lst (ops.map .int))), some (.fr (dRowsL rows)), some (.mt 1), some (.mt 5), none, none, none, none, none, none, some (.fr (dMc A.Machine i o l ops rows)), some (.fr (dMc A.Machine i o l ops' (rows.set t row'))), some (.fr (.lst (w.map .int))), some (.fr (.lst (w.map .int))), none] [some (LI ds), some (dSz i o l), none, none, none, some (.nst [.fr (.lst (ops'.map .int)), .fr (dRowsL (rows.set t row'))]), none, none] rfl rfl ?_
            refine iF rfl (lk ⟨"list", true, rfl, rfl, iT rfl ⟨.lst (w.map .int), .lst (w.map .int), dr_fr, dr_fr, ok_intsL _, ok_intsL _, ?_⟩⟩)
            rw [eqv_intsL]
            refine iT (eqT rfl) ⟨i, o, l, ops', (rows.set t row'), i, o, l, ops, rows, okd, ok, rfl, rfl, fun e => absurd ⟨z1.symm, z2.symm, z3.symm⟩ e, fun _ e => absurd e2.symm e, fun _ _ r2 hr2 => ⟨Nat.zero_le _, ?_⟩⟩
            rw [← z1] at hr2
            have er : r2 = some w := hr2.det (Ans.swap hr)
            subst er
            refine ⟨.lst (w.map .int), .lst (w.map .int), dr_fr, dr_fr, ok_intsL _, ok_intsL _, rfl, ?_⟩
            rw [eqv_intsL, eqT rfl]; exact q
    · refine ⟨rows, rfl, rfl, by omega, .inl ⟨Nat.le_refl _, ble rfl, ?_⟩⟩
      refine lkA [some (.fr (.rol (ns.map .int))), some (.mt 0), some (.fr (.int i)), some (.fr (.int o)), some (.fr (.int l)), some (.fr (.lst (ops.map .int))), some (.fr (dRowsL rows)), some (.mt 1), some (.mt 3), none, none, none, none, none, none, none, none, none, none, none] [some (LI ds), some (dSz i o l), some (.lst (ops.map .int)), some (.nst [.mt 2, .fr (dRowsL rows)])] rfl rfl ?_
      refine ⟨ds, 6, rfl, rfl, by decide, hd, .inr ⟨Nat.le_refl _, ?_⟩⟩
      have hK := tk_rng ds (k := 6) (by decide)
      generalize tk ds 6 = K at h3 hK ⊢
      have hd1 : nn ds.dropLast := fun d h => hd d (List.dropLast_subset _ h)
      generalize ds.dropLast = ds1 at hd1 ⊢
      refine lkA [some (.fr (.rol (ns.map .int))), some (.mt 0), some (.fr (.int i)), some (.fr (.int o)), some (.fr (.int l)), some (.fr (.lst (ops.map .int))), some (.fr (dRowsL rows)), some (.mt 1), some (.mt 3), some (.fr (.int K)), none, none, none, none, none, none, none, none, none, none] [some (LI ds1), some (dSz i o l), some (.lst (ops.map .int)), some (.nst [.mt 2, .fr (dRowsL rows)])] rfl rfl ?_
      by_cases h2 : K < 3
      · refine ⟨fun ρ M => ∃ (i' o' l' : Int) (ds : List Int), 1 ≤ i' ∧ i' ≤ 4 ∧ 1 ≤ o' ∧ o' ≤ 12 ∧ -3 ≤ l' ∧ l' ≤ 2 ∧ l' = l ∧ nn ds ∧ M = [some (LI ds), some (dSz i' o' l'), some (.lst (ops.map .int)), some (.nst [.mt 2, .fr (dRowsL rows)])] ∧
          ρ = [some (.fr (.rol (ns.map .int))), some (.mt 0), some (.fr (.int i)), some (.fr (.int o)), some (.fr (.int l)), some (.fr (.lst (ops.map .int))), some (.fr (dRowsL rows)), some (.mt 1), some (.mt 3), some (.fr (.int K)), none, none, none, none, none, none, none, none, none, none], ⟨fun h0 => ?_, fun h0 => ?_⟩, ?_⟩
        · refine ⟨ds1, 2, rfl, rfl, by decide, hd1, .inl fun r ds x0 x1 hd => ⟨Nat.le_refl _, ?_⟩⟩
          rcases (by omega : r = 0 ∨ r = 1) with rfl | rfl
          · exact ⟨0, rfl, 4, o, l, ds, by decide, by decide, o1, o2, l1, l2, rfl, hd, rfl, rfl⟩
          · exact ⟨1, rfl, i, 4, l, ds, i1, i2, by decide, by decide, l1, l2, rfl, hd, rfl, rfl⟩
        · exact ⟨i, o, l, ds1, i1, i2, o1, o2, l1, l2, rfl, hd1, rfl, rfl⟩
        · rintro ρ M ⟨i', o', l', ds, j1, j2, j3, j4, j5, j6, hll, hds, rfl, rfl⟩
          have hll2 := hll.symm
          subst hll2
          clear hll
          refine lk ⟨fun ρ M => ∃ (i'' o'' l'' : Int) (ds : List Int), 1 ≤ i'' ∧ i'' ≤ 4 ∧ 1 ≤ o'' ∧ o'' ≤ 12 ∧ -3 ≤ l'' ∧ l'' ≤ 2 ∧ nn ds ∧ M = [some (LI ds), some (dSz i'' o'' l''), some (.lst (ops.map .int)), some (.nst [.mt 2, .fr (dRowsL rows)])] ∧
            ρ = [some (.fr (.rol (ns.map .int))), some (.mt 0), some (.fr (.int i)), some (.fr (.int o)), some (.fr (.int l)), some (.fr (.lst (ops.map .int))), some (.fr (dRowsL rows)), some (.mt 1), some (.mt 3), some (.fr (.int K)), none, none, none, none, none, none, none, none, none, none], ⟨fun h1 => ?_, fun h1 => ?_⟩, ?_⟩
          · refine ⟨fun hl => ?_, fun hl => ?_⟩
            · have : -3 < l := of_decide_eq_true hl
              exact ⟨2, rfl, i', o', l - 1, ds, j1, j2, j3, j4, by omega, by omega, hds, rfl, rfl⟩
            · exact ⟨i', o', l, ds, j1, j2, j3, j4, j5, j6, hds, rfl, rfl⟩
          · exact iF rfl ⟨i', o', l, ds, j1, j2, j3, j4, j5, j6, hds, rfl, rfl⟩
          · rintro ρ M ⟨i', o', l'', ds, j1, j2, j3, j4, j5, j6, hds, rfl, rfl⟩
            refine lk (iT (dT h2) ⟨_, rfl, _, rfl, _, rfl, ds, i', o', l'', 4, rfl, rfl, hds, j1, j2, j3, j4, j5, j6, by decide, by decide, fun ops' rows' ds' ok' _ hd' => ⟨Nat.le_refl _, lk ⟨_, rfl, _, rfl, ble rfl, ?_⟩⟩⟩)
            generalize l'' = l' at ok' ⊢
            clear hds
            generalize ds' = ds at hd' ⊢
            refine lkA [some (.fr (.rol (ns.map .int))), some (.mt 0), some (.fr (.int i)), some (.fr (.int o)), some (.fr (.int l)), some (.fr (.lst (ops.map .int))), some (.fr (dRowsL rows)), some (.mt 1), some (.mt 4), some (.fr (.int K)), some (.fr (.tup [.lst (ops'.map .int), dRowsL rows'])), none, none, none, none, none, none, none, none, none] [some (LI ds), some (dSz i' o' l'), some (.lst (ops.map .int)), some (.nst [.mt 2, .fr (dRowsL rows)]), some (.nst [.fr (.lst (ops'.map .int)), .fr (dRowsL rows')])] rfl rfl ?_
            refine ⟨fun ρ M => ρ = [some (.fr (.rol (ns.map .int))), some (.mt 0), some (.fr (.int i)), some (.fr (.int o)), some (.fr (.int l)), some (.fr (.lst (ops.map .int))), some (.fr (dRowsL rows)), some (.mt 1), some (.mt 4), some (.fr (.int K)), some (.fr (.tup [.lst (ops'.map .int), dRowsL rows'])), none, none, none, none, none, none, none, none, none] ∧ M = [some (LI ds), some (dSz i' o' l'), some (.lst (ops.map .int)), some (.nst [.mt 2, .fr (dRowsL rows)]), some (.nst [.fr (.lst (ops'.map .int)), .fr (dRowsL rows')])], iF (eqF h3) ⟨rfl, rfl⟩, ?_⟩
            rintro ρ M ⟨rfl, rfl⟩
            refine lk ⟨_, _, Cvt.refl _ _, fun ρ M => ρ = [some (.fr (.rol (ns.map .int))), some (.mt 0), some (.fr (.int i)), some (.fr (.int o)), some (.fr (.int l)), some (.fr (.lst (ops.map .int))), some (.fr (dRowsL rows)), some (.mt 1), some (.mt 4), some (.fr (.int K)), some (.fr (.tup [.lst (ops'.map .int), dRowsL rows'])), none, none, none, none, none, none, none, none, none] ∧ M = [some (LI ds), some (dSz i' o' l'), some (.lst (ops.map .int)), some (.nst [.mt 2, .fr (dRowsL rows)]), some (.nst [.fr (.lst (ops'.map .int)), .fr (dRowsL rows')])], iF (dF (by omega)) ⟨rfl, rfl⟩, ?_⟩
            rintro ρ M ⟨rfl, rfl⟩
            refine lk ?_
            refine ⟨[none, some (.mt 0), some (.fr (.int i)), some (.fr (.int o)), some (.fr (.int l)), some (.fr (.lst (ops.map .int))), some (.fr (dRowsL rows)), some (.mt 1), some (.mt 4), none, none, none, none, none, none, none, none, none, none, none], [some (LI ds), some (dSz i' o' l'), some (.lst (ops.map .int)), some (.nst [.mt 2, .fr (dRowsL rows)]), some (.nst [.fr (.lst (ops'.map .int)), .fr (dRowsL rows')])], Cvt.forget [0, 9, 10, 11, 12, 13, 14, 19] _ _, ?_⟩
            have s1 := ok'.rl2
            refine ⟨rows, rfl, rfl, by omega, .inl ⟨Nat.le_refl _, by simp [memOut], i, o, l, ops, rows, rfl, rfl, ok, ble rfl, rfl, ?_⟩⟩
            refine lkA [none, some (.mt 0), some (.fr (.int i)), some (.fr (.int o)), some (.fr (.int l)), some (.fr (.lst (ops.map .int))), some (.fr (dRowsL rows)), some (.mt 1), some (.mt 4), none, none, none, none, none, none, some (.mt 5), none, none, none, none] [some (LI ds), some (dSz i' o' l'), some (.lst (ops.map .int)), some (.nst [.mt 2, .fr (dRowsL rows)]), some (.nst [.fr (.lst (ops'.map .int)), .fr (dRowsL rows')]), some (.ins A.Machine (fMc i o l ops rows))] rfl rfl ?_
            refine ⟨_, rfl, _, rfl, _, rfl, _, rfl, _, rfl, rows', rfl, rfl, by omega, .inl ⟨Nat.le_refl _, by simp [memOut], i', o', l', ops', rows', rfl, rfl, ok', ble rfl, rfl, ?_⟩⟩
            refine lkA [none, some (.mt 0), some (.fr (.int i)), some (.fr (.int o)), some (.fr (.int l)), some (.fr (.lst (ops.map .int))), some (.fr (dRowsL rows)), some (.mt 1), some (.mt 4), none, none, none, none, none, none, some (.mt 5), some (.mt 6), none, none, none] [some (LI ds), some (dSz i' o' l'), some (.lst (ops.map .int)), some (.nst [.mt 2, .fr (dRowsL rows)]), some (.nst [.fr (.lst (ops'.map .int)), .fr (dRowsL rows')]), some (.ins A.Machine (fMc i o l ops rows)), some (.ins A.Machine (fMc i' o' l' ops' rows'))] rfl rfl ?_
            have es : D.eqv (.lst [.int i', .int o', .int l']) (.lst [.int i, .int o, .int l]) = decide ([i', o', l'] = [i, o, l]) := eqv_intsL [i', o', l'] [i, o, l]
            have os : ∀ a b c : Int, D.okE 64 (.lst [.int a, .int b, .int c]) = true := fun a b c => ok_intsL [a, b, c]
            refine ⟨i, o, l, ops, rows, i', o', l', ops', rows', ok, ok', rfl, rfl, fun e => ⟨Nat.zero_le _, ?_⟩, fun e1 e2 => ⟨Nat.zero_le _, ?_⟩, fun e1 e2 r hr => ⟨Nat.zero_le _, ?_⟩⟩
            · refine lkA [none, some (.mt 0), some (.fr (.int i)), some (.fr (.int o)), some (.fr (.int l)), some (.fr (.lst (ops.map .int))), some (.fr (dRowsL rows)), some (.mt 1), some (.mt 4), none, none, none, none, none, none, some (.fr (dMc A.Machine i o l ops rows)), some (.fr (dMc A.Machine i' o' l' ops' rows')), some (.fr dRef), none, none] [some (LI ds), some (dSz i' o' l'), some (.lst (ops.map .int)), some (.nst [.mt 2, .fr (dRowsL rows)]), some (.nst [.fr (.lst (ops'.map .int)), .fr (dRowsL rows')]), none, none] rfl rfl ?_
              refine ⟨ble rfl, .lst [.int i', .int o', .int l'], .lst [.int i, .int o, .int l], by simp [deref, dSz], dr_fr, os _ _ _, os _ _ _, ?_⟩
              rw [es]
              refine iT (neT fun z => e ?_) ⟨ble rfl, dRef, dRef, dr_fr, dr_fr, ok_ref, ok_ref, ?_⟩
              · exact ⟨(List.cons.inj z).1.symm, (List.cons.inj (List.cons.inj z).2).1.symm, (List.cons.inj (List.cons.inj (List.cons.inj z).2).2).1.symm⟩
              · rw [eqv_self ok_ref]; exact ⟨rfl, q⟩
            · obtain ⟨z1, z2, z3⟩ := e1
              refine lkA [none, some (.mt 0), some (.fr (.int i)), some (.fr (.int o)), some (.fr (.int l)), some (.fr (.lst (ops.map .int))), some (.fr (dRowsL rows)), some (.mt 1), some (.mt 4), none, none, none, none, none, none, some (.fr (dMc A.Machine i o l ops rows)), some (.fr (dMc A.Machine i' o' l' ops' rows')), some (.fr (.lst [])), none, none] [some (LI ds), some (dSz i' o' l'), some (.lst (ops.map .int)), some (.nst [.mt 2, .fr (dRowsL rows)]), some (.nst [.fr (.lst (ops'.map .int)), .fr (dRowsL rows')]), none, none] rfl rfl ?_
              refine ⟨ble rfl, .lst [.int i', .int o', .int l'], .lst [.int i, .int o, .int l], by simp [deref, dSz], dr_fr, os _ _ _, os _ _ _, ?_⟩
              rw [es]
              refine iF (neF (by simp [z1, z2, z3])) (lk ⟨_, rfl, .lst (ops'.map .int), .lst (ops.map .int), dr_fr, dr_fr, ok_intsL _, ok_intsL _, ?_⟩)
              rw [eqv_intsL]
              refine iT (neT fun z => e2 z.symm) ⟨ble rfl, .lst [], .lst [], dr_fr, dr_fr, rfl, rfl, ?_⟩
              rw [show D.eqv (.lst []) (.lst []) = true from eqv_intsL [] []]; exact ⟨rfl, q⟩
            · obtain ⟨z1, z2, z3⟩ := e1
              refine lkA [none, some (.mt 0), some (.fr (.int i)), some (.fr (.int o)), some (.fr (.int l)), some (.fr (.lst (ops.map .int))), some (.fr (dRowsL rows)), some (.mt 1), some (.mt 4), none, none, none, none, none, none, some (.fr (dMc A.Machine i o l ops rows)), some (.fr (dMc A.Machine i' o' l' ops' rows')), some (.fr (outR r)), none, none] [some (LI ds), some (dSz i' o' l'), some (.lst (ops.map .int)), some (.nst [.mt 2, .fr (dRowsL rows)]), some (.nst [.fr (.lst (ops'.map .int)), .fr (dRowsL rows')]), none, none] rfl rfl ?_
              refine ⟨ble rfl, .lst [.int i', .int o', .int l'], .lst [.int i, .int o, .int l], by simp [deref, dSz], dr_fr, os _ _ _, os _ _ _, ?_⟩
              rw [es]
              refine iF (neF (by simp [z1, z2, z3])) (lk ⟨_, rfl, .lst (ops'.map .int), .lst (ops.map .int), dr_fr, dr_fr, ok_intsL _, ok_intsL _, ?_⟩)
              rw [eqv_intsL]
              refine iF (neF e2.symm) (lk ⟨_, rfl, i, o, l, i', o', l', ops, ops', rows, rows', ok, ok', z1, rfl, rfl, fun r' hr' => ⟨Nat.zero_le _, ?_⟩⟩)
              have er : r' = r := hr'.det hr
              subst er
              cases r' with
              | none =>
                refine lkA [none, some (.mt 0), some (.fr (.int i)), some (.fr (.int o)), some (.fr (.int l)), some (.fr (.lst (ops.map .int))), some (.fr (dRowsL rows)), some (.mt 1), some (.mt 4), none, none, none, none, none, none, some (.fr (dMc A.Machine i o l ops rows)), some (.fr (dMc A.Machine i' o' l' ops' rows')), some (.fr .non), some (.fr .non), none] [some (LI ds), some (dSz i' o' l'), some (.lst (ops.map .int)), some (.nst [.mt 2, .fr (dRowsL rows)]), some (.nst [.fr (.lst (ops'.map .int)), .fr (dRowsL rows')]), none, none] rfl rfl ?_
                exact iT rfl ⟨rfl, q⟩
              | some w =>
                refine lkA [none, some (.mt 0), some (.fr (.int i)), some (.fr (.int o)), some (.fr (.int l)), some (.fr (.lst (ops.map .int))), some (.fr (dRowsL rows)), some (.mt 1), some (.mt 4), none, none, none, none, none, none, some (.fr (dMc A.Machine i o l ops rows)), some (.fr (dMc A.Machine i' o' l' ops' rows')), some (.fr (.lst (w.map .int))), some (.fr (.lst (w.map .int))), none] [some (LI ds), some (dSz i' o' l'), some (.lst (ops.map .int)), some (.nst [.mt 2, .fr (dRowsL rows)]), some (.nst [.fr (.lst (ops'.map .int)), .fr (dRowsL rows')]), none, none] rfl rfl ?_
                refine iF rfl (lk ⟨"list", true, rfl, rfl, iT rfl ⟨.lst (w.map .int), .lst (w.map .int), dr_fr, dr_fr, ok_intsL _, ok_intsL _, ?_⟩⟩)
                rw [eqv_intsL]
                refine iT (eqT rfl) ⟨i', o', l', ops', rows', i, o, l, ops, rows, ok', ok, rfl, rfl, fun e => absurd ⟨z1.symm, z2.symm, z3.symm⟩ e, fun _ e => absurd e2.symm e, fun _ _ r2 hr2 => ⟨Nat.zero_le _, ?_⟩⟩
                rw [← z1] at hr2
                have er : r2 = some w := hr2.det (Ans.swap hr)
                subst er
                refine ⟨.lst (w.map .int), .lst (w.map .int), dr_fr, dr_fr, ok_intsL _, ok_intsL _, rfl, ?_⟩
                rw [eqv_intsL, eqT rfl]; exact q
      · have hr4 : rows.length ≤ 4 := by omega
        refine ⟨fun ρ M => ρ = [some (.fr (.rol (ns.map .int))), some (.mt 0), some (.fr (.int i)), some (.fr (.int o)), some (.fr (.int l)), some (.fr (.lst (ops.map .int))), some (.fr (dRowsL rows)), some (.mt 1), some (.mt 3), some (.fr (.int K)), none, none, none, none, none, none, none, none, none, none] ∧ M = [some (LI ds1), some (dSz i o l), some (.lst (ops.map .int)), some (.nst [.mt 2, .fr (dRowsL rows)])], iF (eqF (by omega)) ⟨rfl, rfl⟩, ?_⟩
        rintro ρ M ⟨rfl, rfl⟩
        refine lk ⟨fun ρ M => ρ = [some (.fr (.rol (ns.map .int))), some (.mt 0), some (.fr (.int i)), some (.fr (.int o)), some (.fr (.int l)), some (.fr (.lst (ops.map .int))), some (.fr (dRowsL rows)), some (.mt 1), some (.mt 3), some (.fr (.int K)), none, none, none, none, none, none, none, none, none, none] ∧ M = [some (LI ds1), some (dSz i o l), some (.lst (ops.map .int)), some (.nst [.mt 2, .fr (dRowsL rows)])], iF (eqF (by omega)) (iF rfl ⟨rfl, rfl⟩), ?_⟩
        rintro ρ M ⟨rfl, rfl⟩
        refine lk (iF (dF h2) (lk ⟨fun ρ M => ρ = [some (.fr (.rol (ns.map .int))), some (.mt 0), some (.fr (.int i)), some (.fr (.int o)), some (.fr (.int l)), some (.fr (.lst (ops.map .int))), some (.fr (dRowsL rows)), some (.mt 1), some (.mt 3), some (.fr (.int K)), none, none, none, none, none, none, none, none, none, none] ∧ M = [some (LI ds1), some (dSz i o l), some (.lst (ops.map .int)), some (.nst [.mt 2, .fr (dRowsL rows)])], iF (eqF h3) ⟨rfl, rfl⟩, ?_⟩))
        rintro ρ M ⟨rfl, rfl⟩
        refine lk ⟨_, _, Cvt.refl _ _, fun ρ M => ∃ (dbl : List (List IP)) (ds : List Int), dbl.length = 2 * rows.length ∧ (∀ r ∈ dbl, (r.length : Int) = i) ∧ (∀ r ∈ dbl, ∀ p ∈ r, (0 ≤ p.1 ∧ p.1 < 2 * (rows.length : Int)) ∧ (0 ≤ p.2 ∧ p.2 < o)) ∧ nn ds ∧ ρ = [none, some (.mt 0), some (.fr (.int i)), some (.fr (.int o)), some (.fr (.int l)), some (.fr (.lst (ops.map .int))), some (.fr (dRowsL rows)), some (.mt 1), some (.mt 3), none, none, none, none, some (.mt 4), none, none, none, none, none, none] ∧ M = [some (LI ds), some (dSz i o l), some (.lst (ops.map .int)), some (.nst [.mt 2, .mt 4]), some (.lst (dbl.map fun r => D.lst (r.map dP)))], iT (dT (by omega)) ⟨Nat.zero_le _, lk ⟨⟨by decide, by decide⟩, fun k ρ M => ∃ (dbl : List (List IP)) (ds : List Int), dbl.length = k * rows.length ∧ (∀ r ∈ dbl, (r.length : Int) = i) ∧ (∀ r ∈ dbl, ∀ p ∈ r, (0 ≤ p.1 ∧ p.1 < 2 * (rows.length : Int)) ∧ (0 ≤ p.2 ∧ p.2 < o)) ∧ nn ds ∧ M = [some (LI ds), some (dSz i o l), some (.lst (ops.map .int)), some (.nst [.mt 2, .fr (dRowsL rows)]), some (.lst (dbl.map fun r => D.lst (r.map dP)))] ∧ ρ = [none, some (.mt 0), some (.fr (.int i)), some (.fr (.int o)), some (.fr (.int l)), some (.fr (.lst (ops.map .int))), some (.fr (dRowsL rows)), some (.mt 1), some (.mt 3), none, none, none, none, some (.mt 4), none, none, none, none, none, none], ⟨rfl, [], ds1, by simp, by simp, by simp, hd1, rfl, rfl⟩, ?_, ?_⟩⟩, ?_⟩
        · rintro k d ρ2 M2 hk rfl ⟨dbl, ds, hlen, hb1, hb2, hds, rfl, rfl⟩
          refine ⟨fun j ρ M => ∃ (dbl : List (List IP)) (ds : List Int), dbl.length = k * rows.length + j ∧ (∀ r ∈ dbl, (r.length : Int) = i) ∧ (∀ r ∈ dbl, ∀ p ∈ r, (0 ≤ p.1 ∧ p.1 < 2 * (rows.length : Int)) ∧ (0 ≤ p.2 ∧ p.2 < o)) ∧ nn ds ∧ M = [some (LI ds), some (dSz i o l), some (.lst (ops.map .int)), some (.nst [.mt 2, .fr (dRowsL rows)]), some (.lst (dbl.map fun r => D.lst (r.map dP)))] ∧ ρ = [none, some (.mt 0), some (.fr (.int i)), some (.fr (.int o)), some (.fr (.int l)), some (.fr (.lst (ops.map .int))), some (.fr (dRowsL rows)), some (.mt 1), some (.mt 3), none, none, none, none, some (.mt 4), none, none, none, none, none, none], ⟨rfl, dbl, ds, hlen, hb1, hb2, hds, rfl, rfl⟩, ?_, ?_⟩
          · rintro j d ρ2 M2 hj hy ⟨dbl, ds, hlen, hb1, hb2, hds, rfl, rfl⟩
            obtain ⟨row, hrow, hjr, rfl⟩ := get_map hy
            have hrl := ok.rw row hrow
            have hrp := ok.rp row hrow
            have hjl := (List.getElem?_eq_some_iff.mp hjr).1
            have hk2 : k < 2 := hk
            refine ⟨rfl, lc_gen (.seq (row.map dP)) _ _ (fun m acc M => ∃ (r' : List IP) (ds : List Int), acc = r'.map dP ∧ r'.length = m ∧ (∀ p ∈ r', (0 ≤ p.1 ∧ p.1 < 2 * (rows.length : Int)) ∧ (0 ≤ p.2 ∧ p.2 < o)) ∧ nn ds ∧ M = [some (LI ds), some (dSz i o l), some (.lst (ops.map .int)), some (.nst [.mt 2, .fr (dRowsL rows)]), some (.lst (dbl.map fun r => D.lst (r.map dP)))]) (fun _ h => h) ⟨[], ds, rfl, rfl, by simp, hds, rfl⟩ ?t ?e⟩
            case t =>
              rintro m d acc M2 hm hy ⟨r', ds, rfl, hrm, hrb, hds, rfl⟩
              obtain ⟨p, hp, hmp, rfl⟩ := get_map hy
              have hp2 := hrp p hp
              have hml := (List.getElem?_eq_some_iff.mp hmp).1
              refine iT rfl ⟨_, rfl, ds, 2, rfl, rfl, by decide, hds, .inl fun x ds x0 x1 hds => ⟨Nat.le_refl _, .inr ⟨by omega, by omega⟩, _, rfl, ble rfl, szl ?_, rfl, r' ++ [(p.1 + (rows.length : Int) * x, p.2)], ds, ?_, by simp [hrm], ?_, hds, rfl⟩⟩
              · rw [List.length_map]; omega
              · rw [List.length_map]; simp [dP]
              · intro z hz
                rcases List.mem_append.mp hz with e | e
                · exact hrb z e
                · rw [List.mem_singleton.mp e]
                  rcases (by omega : x = 0 ∨ x = 1) with rfl | rfl
                  · exact ⟨⟨by simp; omega, by simp; omega⟩, hp2.2⟩
                  · exact ⟨⟨by simp; omega, by simp; omega⟩, hp2.2⟩
            case e =>
              rintro acc M2 ⟨r', ds, rfl, hrm, hrb, hds, rfl⟩
              have hrm2 : r'.length = row.length := by rw [hrm]; show (row.map dP).length = _; rw [List.length_map]
              refine ⟨szl ?_, rfl, dbl ++ [r'], ds, by simp [hlen]; omega, ?_, ?_, hds, ?_, rfl⟩
              · rw [List.length_map, hlen]
                have : k * rows.length ≤ 1 * 4 := Nat.mul_le_mul (by omega) hr4
                omega
              · intro r hr
                rcases List.mem_append.mp hr with e | e
                · exact hb1 r e
                · rw [List.mem_singleton.mp e, hrm2]; exact hrl
              · intro r hr
                rcases List.mem_append.mp hr with e | e
                · exact hb2 r e
                · rw [List.mem_singleton.mp e]; exact hrb
              · simp
          · rintro ρ2 M2 ⟨dbl, ds, hlen, hb1, hb2, hds, rfl, rfl⟩
            refine ⟨rfl, dbl, ds, ?_, hb1, hb2, hds, rfl, rfl⟩
            rw [hlen, Nat.add_mul, Nat.one_mul]
            show k * rows.length + (rows.map _).length = _
            rw [List.length_map]
        · rintro ρ2 M2 ⟨dbl, ds, hlen, hb1, hb2, hds, rfl, rfl⟩
          exact lk ⟨1, rfl, dbl, ds, hlen, hb1, hb2, hds, rfl, rfl⟩
        · rintro ρ M ⟨dbl, ds, hlen, hb1, hb2, hds, rfl, rfl⟩
          have okd : OkMc i o l ops dbl := ⟨i1, i2, o1, o2, l1, l2, ok.ol, ok.ob, by omega, by omega, hb1, fun r hr p hp => ⟨⟨(hb2 r hr p hp).1.1, by have := (hb2 r hr p hp).1.2; omega⟩, (hb2 r hr p hp).2⟩⟩
          refine lk ?_
          refine ⟨[none, some (.mt 0), some (.fr (.int i)), some (.fr (.int o)), some (.fr (.int l)), some (.fr (.lst (ops.map .int))), some (.fr (dRowsL rows)), some (.mt 1), some (.mt 3), none, none, none, none, none, none, none, none, none, none, none], [some (LI ds), some (dSz i o l), none, some (.nst [.fr (.lst (ops.map .int)), .fr (dRowsL dbl)]), none], Cvt.trans (Cvt.freeze (h := 2) (mo := .lst (ops.map .int)) (d := .lst (ops.map .int)) rfl rfl) (Cvt.trans (Cvt.freeze (h := 4) (mo := .lst (dbl.map fun r => D.lst (r.map dP))) (d := dRowsL dbl) rfl rfl) (Cvt.forget [0, 9, 10, 11, 12, 13, 14, 19] _ _)), ?_⟩
          have s1 := okd.rl2
          refine ⟨rows, rfl, rfl, by omega, .inl ⟨Nat.le_refl _, by simp [memOut], i, o, l, ops, rows, rfl, rfl, ok, ble rfl, rfl, ?_⟩⟩
          refine lkA [none, some (.mt 0), some (.fr (.int i)), some (.fr (.int o)), some (.fr (.int l)), some (.fr (.lst (ops.map .int))), some (.fr (dRowsL rows)), some (.mt 1), some (.mt 3), none, none, none, none, none, none, some (.mt 5), none, none, none, none] [some (LI ds), some (dSz i o l), none, some (.nst [.fr (.lst (ops.map .int)), .fr (dRowsL dbl)]), none, some (.ins A.Machine (fMc i o l ops rows))] rfl rfl ?_
          refine ⟨_, rfl, _, rfl, _, rfl, _, rfl, _, rfl, dbl, rfl, rfl, by omega, .inl ⟨Nat.le_refl _, by simp [memOut], i, o, l, ops, dbl, rfl, rfl, okd, ble rfl, rfl, ?_⟩⟩
          refine lkA [none, some (.mt 0), some (.fr (.int i)), some (.fr (.int o)), some (.fr (.int l)), some (.fr (.lst (ops.map .int))), some (.fr (dRowsL rows)), some (.mt 1), some (.mt 3), none, none, none, none, none, none, some (.mt 5), some (.mt 6), none, none, none] [some (LI ds), some (dSz i o l), none, some (.nst [.fr (.lst (ops.map .int)), .fr (dRowsL dbl)]), none, some (.ins A.Machine (fMc i o l ops rows)), some (.ins A.Machine (fMc i o l ops dbl))] rfl rfl ?_
          have es : D.eqv (.lst [.int i, .int o, .int l]) (.lst [.int i, .int o, .int l]) = decide ([i, o, l] = [i, o, l]) := eqv_intsL [i, o, l] [i, o, l]
          have os : ∀ a b c : Int, D.okE 64 (.lst [.int a, .int b, .int c]) = true := fun a b c => ok_intsL [a, b, c]
          refine ⟨i, o, l, ops, rows, i, o, l, ops, dbl, ok, okd, rfl, rfl, fun e => ⟨Nat.zero_le _, ?_⟩, fun e1 e2 => ⟨Nat.zero_le _, ?_⟩, fun e1 e2 r hr => ⟨Nat.zero_le _, ?_⟩⟩
          · refine lkA [none, some (.mt 0), some (.fr (.int i)), some (.fr (.int o)), some (.fr (.int l)), some (.fr (.lst (ops.map .int))), some (.fr (dRowsL rows)), some (.mt 1), some (.mt 3), none, none, none, none, none, none, some (.fr (dMc A.Machine i o l ops rows)), some (.fr (dMc A.Machine i o l ops dbl)), some (.fr dRef), none, none] [some (LI ds), some (dSz i o l), none, some (.nst [.fr (.lst (ops.map .int)), .fr (dRowsL dbl)]), none, none, none] rfl rfl ?_
            refine ⟨ble rfl, .lst [.int i, .int o, .int l], .lst [.int i, .int o, .int l], by simp [deref, dSz], dr_fr, os _ _ _, os _ _ _, ?_⟩
            rw [es]
            refine iT (neT fun z => e ?_) ⟨ble rfl, dRef, dRef, dr_fr, dr_fr, ok_ref, ok_ref, ?_⟩
            · exact ⟨(List.cons.inj z).1.symm, (List.cons.inj (List.cons.inj z).2).1.symm, (List.cons.inj (List.cons.inj (List.cons.inj z).2).2).1.symm⟩
            · rw [eqv_self ok_ref]; exact ⟨rfl, q⟩
          · obtain ⟨z1, z2, z3⟩ := e1
            refine lkA [none, some (.mt 0), some (.fr (.int i)), some (.fr (.int o)), some (.fr (.int l)), some (.fr (.lst (ops.map .int))), some (.fr (dRowsL rows)), some (.mt 1), some (.mt 3), none, none, none, none, none, none, some (.fr (dMc A.Machine i o l ops rows)), some (.fr (dMc A.Machine i o l ops dbl)), some (.fr (.lst [])), none, none] [some (LI ds), some (dSz i o l), none, some (.nst [.fr (.lst (ops.map .int)), .fr (dRowsL dbl)]), none, none, none] rfl rfl ?_
            refine ⟨ble rfl, .lst [.int i, .int o, .int l], .lst [.int i, .int o, .int l], by simp [deref, dSz], dr_fr, os _ _ _, os _ _ _, ?_⟩
            rw [es]
            refine iF (neF (by simp [z1, z2, z3])) (lk ⟨_, rfl, .lst (ops.map .int), .lst (ops.map .int), dr_fr, dr_fr, ok_intsL _, ok_intsL _, ?_⟩)
            rw [eqv_intsL]
            refine iT (neT fun z => e2 z.symm) ⟨ble rfl, .lst [], .lst [], dr_fr, dr_fr, rfl, rfl, ?_⟩
            rw [show D.eqv (.lst []) (.lst []) = true from eqv_intsL [] []]; exact ⟨rfl, q⟩
          · obtain ⟨z1, z2, z3⟩ := e1
            refine lkA [none, some (.mt 0), some (.fr (.int i)), some (.fr (.int o)), some (.fr (.int l)), some (.fr (.lst (ops.map .int))), some (.fr (dRowsL rows)), some (.mt 1), some (.mt 3), none, none, none, none, none, none, some (.fr (dMc A.Machine i o l ops rows)), some (.fr (dMc A.Machine i o l ops dbl)), some (.fr (outR r)), none, none] [some (LI ds), some (dSz i o l), none, some (.nst [.fr (.lst (ops.map .int)), .fr (dRowsL dbl)]), none, none, none] rfl rfl ?_
            refine ⟨ble rfl, .lst [.int i, .int o, .int l], .lst [.int i, .int o, .int l], by simp [deref, dSz], dr_fr, os _ _ _, os _ _ _, ?_⟩
            rw [es]
            refine iF (neF (by simp [z1, z2, z3])) (lk ⟨_, rfl, .lst (ops.map .int), .lst (ops.map .int), dr_fr, dr_fr, ok_intsL _, ok_intsL _, ?_⟩)
            rw [eqv_intsL]
            refine iF (neF e2.symm) (lk ⟨_, rfl, i, o, l, i, o, l, ops, ops, rows, dbl, ok, okd, z1, rfl, rfl, fun r' hr' => ⟨Nat.zero_le _, ?_⟩⟩)
            have er : r' = r := hr'.det hr
            subst er
            cases r' with
            | none =>
              refine lkA [none, some (.mt 0), some (.fr (.int i)), some (.fr (.int o)), some (.fr (.int l)), some (.fr (.lst (ops.map .int))), some (.fr (dRowsL rows)), some (.mt 1), some (.mt 3), none, none, none, none, none, none, some (.fr (dMc A.Machine i o l ops rows)), some (.fr (dMc A.Machine i o l ops dbl)), some (.fr .non), some (.fr .non), none] [some (LI ds), some (dSz i o l), none, some (.nst [.fr (.lst (ops.map .int)), .fr (dRowsL dbl)]), none, none, none] rfl rfl ?_
              exact iT rfl ⟨rfl, q⟩
            | some w =>
              refine lkA [none, some (.mt 0), some (.fr (.int i)), some (.fr (.int o)), some (.fr (.int l)), some (.fr (.lst (ops.map .int))), some (.fr (dRowsL rows)), some (.mt 1), some (.mt 3), none, none, none, none, none, none, some (.fr (dMc A.Machine i o l ops rows)), some (.fr (dMc A.Machine i o l ops dbl)), some (.fr (.lst (w.map .int))), some (.fr (.lst (w.map .int))), none] [some (LI ds), some (dSz i o l), none, some (.nst [.fr (.lst (ops.map .int)), .fr (dRowsL dbl)]), none, none, none] rfl rfl ?_
              refine iF rfl (lk ⟨"list", true, rfl, rfl, iT rfl ⟨.lst (w.map .int), .lst (w.map .int), dr_fr, dr_fr, ok_intsL _, ok_intsL _, ?_⟩⟩)
              rw [eqv_intsL]
              refine iT (eqT rfl) ⟨i, o, l, ops, dbl, i, o, l, ops, rows, okd, ok, rfl, rfl, fun e => absurd ⟨z1.symm, z2.symm, z3.symm⟩ e, fun _ e => absurd e2.symm e, fun _ _ r2 hr2 => ⟨Nat.zero_le _, ?_⟩⟩
              rw [← z1] at hr2
              have er : r2 = some w := hr2.det (Ans.swap hr)
              subst er
              refine ⟨.lst (w.map .int), .lst (w.map .int), dr_fr, dr_fr, ok_intsL _, ok_intsL _, rfl, ?_⟩
              rw [eqv_intsL, eqT rfl]; exact q
theorem all_mk {P : Program} {w : World} {K : PySem.W.Frag} {h : Heap} {mg : Str → Option Value} {fa : Addr} (X : K.In h) (G : h.Ns mainGlobals mg) (hfa : mg "law" = some (.ref fa))
    {f0 : Addr} {od0 an0 : Option Addr} {sl0 : Array (Option Value)} {oc0 kV0 dc0 pm0 cd0 ct0 : Value}
    {f1 : Addr} {od1 an1 : Option Addr} {sl1 : Array (Option Value)} {oc1 kV1 dc1 pm1 cd1 ct1 : Value}
    {f2 : Addr} {od2 an2 : Option Addr} {sl2 : Array (Option Value)} {oc2 kV2 dc2 pm2 cd2 ct2 : Value}
    {f3 : Addr} {od3 an3 : Option Addr} {sl3 : Array (Option Value)} {oc3 kV3 dc3 pm3 cd3 ct3 : Value}
    {f4 : Addr} {od4 an4 : Option Addr} {sl4 : Array (Option Value)} {oc4 kV4 dc4 pm4 cd4 ct4 : Value}
    {f5 : Addr} {od5 an5 : Option Addr} {sl5 : Array (Option Value)} {oc5 kV5 dc5 pm5 cd5 ct5 : Value}
    {f6 : Addr} {od6 an6 : Option Addr} {sl6 : Array (Option Value)} {oc6 kV6 dc6 pm6 cd6 ct6 : Value}
    {f7 : Addr} {od7 an7 : Option Addr} {sl7 : Array (Option Value)} {oc7 kV7 dc7 pm7 cd7 ct7 : Value}
    {f8 : Addr} {od8 an8 : Option Addr} {sl8 : Array (Option Value)} {oc8 kV8 dc8 pm8 cd8 ct8 : Value}
    {f9 : Addr} {od9 an9 : Option Addr} {sl9 : Array (Option Value)} {oc9 kV9 dc9 pm9 cd9 ct9 : Value}
    {c_Machine : Addr}
    {c_Mismatch : Addr}
    (g_Machine : PySem.W.nsIn K mainGlobals "Machine" = some (some (.ref c_Machine)))
    (g_Mismatch : PySem.W.nsIn K mainGlobals "Mismatch" = some (some (.ref c_Mismatch)))
    (a0 : PySem.W.nsIn K mainGlobals "all_below" = some (some (.ref f0)))
    (l0 : K.lookup f0 = some ⟨oc0, od0, .func (PySem.W.fnOf "all_below" "all_below" (defArgs s_all_below) (defBody s_all_below) (defScope s_all_below) .none kV0 dc0 pm0 an0 cd0 ct0), sl0⟩)
    (c0 : PySem.W.codeIn K cd0 "all_below" = true)
    (k0 : PySem.W.keepIn K (.ref f0) = true)
    (a1 : PySem.W.findIn K (.ref c_Machine) "__init__" = some (some (.ref f1)))
    (i1 : PySem.W.isFn K (.ref f1) = true)
    (l1 : K.lookup f1 = some ⟨oc1, od1, .func (PySem.W.fnOf "__init__" "Machine.__init__" (defArgs s_MachineU_initU) (defBody s_MachineU_initU) (defScope s_MachineU_initU) .none kV1 dc1 pm1 an1 cd1 ct1), sl1⟩)
    (c1 : PySem.W.codeIn K cd1 "Machine.__init__" = true)
    (k1 : PySem.W.keepIn K (.ref f1) = true)
    (a2 : PySem.W.nsIn K mainGlobals "separating_word" = some (some (.ref f2)))
    (l2 : K.lookup f2 = some ⟨oc2, od2, .func (PySem.W.fnOf "separating_word" "separating_word" (defArgs s_separating_word) (defBody s_separating_word) (defScope s_separating_word) .none kV2 dc2 pm2 an2 cd2 ct2), sl2⟩)
    (c2 : PySem.W.codeIn K cd2 "separating_word" = true)
    (k2 : PySem.W.keepIn K (.ref f2) = true)
    (a3 : PySem.W.nsIn K mainGlobals "_law_draws" = some (some (.ref f3)))
    (l3 : K.lookup f3 = some ⟨oc3, od3, .func (PySem.W.fnOf "_law_draws" "_law_draws" (defArgs s_l_draws) (defBody s_l_draws) (defScope s_l_draws) .none kV3 dc3 pm3 an3 cd3 ct3), sl3⟩)
    (c3 : PySem.W.codeIn K cd3 "_law_draws" = true)
    (k3 : PySem.W.keepIn K (.ref f3) = true)
    (a4 : PySem.W.nsIn K mainGlobals "_law_take" = some (some (.ref f4)))
    (l4 : K.lookup f4 = some ⟨oc4, od4, .func (PySem.W.fnOf "_law_take" "_law_take" (defArgs s_l_take) (defBody s_l_take) (defScope s_l_take) .none kV4 dc4 pm4 an4 cd4 ct4), sl4⟩)
    (c4 : PySem.W.codeIn K cd4 "_law_take" = true)
    (k4 : PySem.W.keepIn K (.ref f4) = true)
    (a5 : PySem.W.nsIn K mainGlobals "_law_flat" = some (some (.ref f5)))
    (l5 : K.lookup f5 = some ⟨oc5, od5, .func (PySem.W.fnOf "_law_flat" "_law_flat" (defArgs s_l_flat) (defBody s_l_flat) (defScope s_l_flat) .none kV5 dc5 pm5 an5 cd5 ct5), sl5⟩)
    (c5 : PySem.W.codeIn K cd5 "_law_flat" = true)
    (k5 : PySem.W.keepIn K (.ref f5) = true)
    (a6 : PySem.W.nsIn K mainGlobals "_law_machine" = some (some (.ref f6)))
    (l6 : K.lookup f6 = some ⟨oc6, od6, .func (PySem.W.fnOf "_law_machine" "_law_machine" (defArgs s_l_machine) (defBody s_l_machine) (defScope s_l_machine) .none kV6 dc6 pm6 an6 cd6 ct6), sl6⟩)
    (c6 : PySem.W.codeIn K cd6 "_law_machine" = true)
    (k6 : PySem.W.keepIn K (.ref f6) = true)
    (a7 : PySem.W.nsIn K mainGlobals "_law_outcome" = some (some (.ref f7)))
    (l7 : K.lookup f7 = some ⟨oc7, od7, .func (PySem.W.fnOf "_law_outcome" "_law_outcome" (defArgs s_l_outcome) (defBody s_l_outcome) (defScope s_l_outcome) .none kV7 dc7 pm7 an7 cd7 ct7), sl7⟩)
    (c7 : PySem.W.codeIn K cd7 "_law_outcome" = true)
    (k7 : PySem.W.keepIn K (.ref f7) = true)
    (a8 : PySem.W.nsIn K mainGlobals "_law_expected" = some (some (.ref f8)))
    (l8 : K.lookup f8 = some ⟨oc8, od8, .func (PySem.W.fnOf "_law_expected" "_law_expected" (defArgs s_l_expected) (defBody s_l_expected) (defScope s_l_expected) .none kV8 dc8 pm8 an8 cd8 ct8), sl8⟩)
    (c8 : PySem.W.codeIn K cd8 "_law_expected" = true)
    (k8 : PySem.W.keepIn K (.ref f8) = true)
    (a9 : PySem.W.nsIn K mainGlobals "law" = some (some (.ref f9)))
    (l9 : K.lookup f9 = some ⟨oc9, od9, .func (PySem.W.fnOf "law" "law" (defArgs s_law) (defBody s_law) (defScope s_law) .none kV9 dc9 pm9 an9 cd9 ct9), sl9⟩)
    (c9 : PySem.W.codeIn K cd9 "law" = true)
    (k9 : PySem.W.keepIn K (.ref f9) = true)
    (pg_Machine : PySem.W.plainGet K c_Machine Str.empty = true)
    (hd_Machine : PySem.W.hasDictIn K c_Machine = true)
    (po_Machine : PySem.W.plainOver K c_Machine = true)
    (sa_Machine : PySem.W.findIn K (.ref c_Machine) "__setattr__" = some (some (.builtin "object.__setattr__")))
    (mm_Machine : PySem.W.makesIn K c_Machine = true)
    (mk_Machine : PySem.W.keepIn K (.ref c_Machine) = true)
    (na_Machine_inputs : PySem.W.findIn K (.ref c_Machine) "inputs" = some none)
    (na_Machine_lead : PySem.W.findIn K (.ref c_Machine) "lead" = some none)
    (na_Machine_opening : PySem.W.findIn K (.ref c_Machine) "opening" = some none)
    (na_Machine_outputs : PySem.W.findIn K (.ref c_Machine) "outputs" = some none)
    (na_Machine_rows : PySem.W.findIn K (.ref c_Machine) "rows" = some none)
    (x_Mismatch : PySem.W.excIn K c_Mismatch [.type "ValueError", .type "Exception", .type "BaseException", .type "object"] "ValueError.__new__" = true)
    (xk_Mismatch : PySem.W.keepIn K (.ref c_Mismatch) = true)
    (xb_Mismatch : PySem.W.subIn K (.ref c_Mismatch) (.type "BaseException") = some true)
    (xt_Mismatch : PySem.W.typeIn K (.ref c_Mismatch) = some (.type "type"))
    (xi_Mismatch : PySem.W.isClsIn K c_Mismatch = true)
    (es_Mismatch_Mismatch : PySem.W.subIn K (.ref c_Mismatch) (.ref c_Mismatch) = some true)
    (n_int : PySem.W.nsIn K mainGlobals "int" = some none)
    (n_isinstance : PySem.W.nsIn K mainGlobals "isinstance" = some none)
    (n_len : PySem.W.nsIn K mainGlobals "len" = some none)
    (n_list : PySem.W.nsIn K mainGlobals "list" = some none)
    (n_max : PySem.W.nsIn K mainGlobals "max" = some none)
    (n_range : PySem.W.nsIn K mainGlobals "range" = some none)
    (n_tuple : PySem.W.nsIn K mainGlobals "tuple" = some none)
    : ∃ fd : FuncData, (∀ (s : Shared) (v : Value), BindsTo s fd ⟨[v], []⟩ [("_law_script", v)]) ∧ ∀ base : Heap, K.In base → base.Ns mainGlobals mg → FnOk P w K mg base (L2.CX P w) 4 fa fd ["_law_script"] (spOf K sp_law) := by
  have e := hfa.symm.trans (PySem.W.mg_of X G a9)
  cases e
  have F0 := fun_mk (st := s_all_below) l0 c0 k0
  have b0 := F0.binds (ps := ["numbers", "limit"]) fun _ _ _ _ _ _ us hl => match us, hl with | [_, _], _ => rfl
  have F1 := fun_mk (st := s_MachineU_initU) l1 c1 k1
  have b1 := F1.binds (ps := ["self", "inputs", "outputs", "lead", "opening", "rows"]) fun _ _ _ _ _ _ us hl => match us, hl with | [_, _, _, _, _, _], _ => rfl
  have F2 := fun_mk (st := s_separating_word) l2 c2 k2
  have b2 := F2.binds (ps := ["first", "second"]) fun _ _ _ _ _ _ us hl => match us, hl with | [_, _], _ => rfl
  have F3 := fun_mk (st := s_l_draws) l3 c3 k3
  have b3 := F3.binds (ps := ["_law_script", "_law_count"]) fun _ _ _ _ _ _ us hl => match us, hl with | [_, _], _ => rfl
  have F4 := fun_mk (st := s_l_take) l4 c4 k4
  have b4 := F4.binds (ps := ["_law_draws_here", "_law_limit"]) fun _ _ _ _ _ _ us hl => match us, hl with | [_, _], _ => rfl
  have F5 := fun_mk (st := s_l_flat) l5 c5 k5
  have b5 := F5.binds (ps := ["_law_rows"]) fun _ _ _ _ _ _ us hl => match us, hl with | [_], _ => rfl
  have F6 := fun_mk (st := s_l_machine) l6 c6 k6
  have b6 := F6.binds (ps := ["_law_draws_here", "_law_inputs", "_law_outputs", "_law_lead", "_law_most"]) fun _ _ _ _ _ _ us hl => match us, hl with | [_, _, _, _, _], _ => rfl
  have F7 := fun_mk (st := s_l_outcome) l7 c7 k7
  have b7 := F7.binds (ps := ["_law_one", "_law_two"]) fun _ _ _ _ _ _ us hl => match us, hl with | [_, _], _ => rfl
  have F8 := fun_mk (st := s_l_expected) l8 c8 k8
  have b8 := F8.binds (ps := ["_law_first", "_law_second"]) fun _ _ _ _ _ _ us hl => match us, hl with | [_, _], _ => rfl
  have F9 := fun_mk (st := s_law) l9 c9 k9
  have b9 := F9.binds (ps := ["_law_script"]) fun _ _ _ _ _ _ us hl => match us, hl with | [_], _ => rfl
  have T : Txt K mg { f_all_below := f0, d_all_below := PySem.W.fnOf "all_below" "all_below" (defArgs s_all_below) (defBody s_all_below) (defScope s_all_below) .none kV0 dc0 pm0 an0 cd0 ct0, f_MachineU_initU := f1, d_MachineU_initU := PySem.W.fnOf "__init__" "Machine.__init__" (defArgs s_MachineU_initU) (defBody s_MachineU_initU) (defScope s_MachineU_initU) .none kV1 dc1 pm1 an1 cd1 ct1, f_separating_word := f2, d_separating_word := PySem.W.fnOf "separating_word" "separating_word" (defArgs s_separating_word) (defBody s_separating_word) (defScope s_separating_word) .none kV2 dc2 pm2 an2 cd2 ct2, f_l_draws := f3, d_l_draws := PySem.W.fnOf "_law_draws" "_law_draws" (defArgs s_l_draws) (defBody s_l_draws) (defScope s_l_draws) .none kV3 dc3 pm3 an3 cd3 ct3, f_l_take := f4, d_l_take := PySem.W.fnOf "_law_take" "_law_take" (defArgs s_l_take) (defBody s_l_take) (defScope s_l_take) .none kV4 dc4 pm4 an4 cd4 ct4, f_l_flat := f5, d_l_flat := PySem.W.fnOf "_law_flat" "_law_flat" (defArgs s_l_flat) (defBody s_l_flat) (defScope s_l_flat) .none kV5 dc5 pm5 an5 cd5 ct5, f_l_machine := f6, d_l_machine := PySem.W.fnOf "_law_machine" "_law_machine" (defArgs s_l_machine) (defBody s_l_machine) (defScope s_l_machine) .none kV6 dc6 pm6 an6 cd6 ct6, f_l_outcome := f7, d_l_outcome := PySem.W.fnOf "_law_outcome" "_law_outcome" (defArgs s_l_outcome) (defBody s_l_outcome) (defScope s_l_outcome) .none kV7 dc7 pm7 an7 cd7 ct7, f_l_expected := f8, d_l_expected := PySem.W.fnOf "_law_expected" "_law_expected" (defArgs s_l_expected) (defBody s_l_expected) (defScope s_l_expected) .none kV8 dc8 pm8 an8 cd8 ct8, f_law := fa, d_law := PySem.W.fnOf "law" "law" (defArgs s_law) (defBody s_law) (defScope s_law) .none kV9 dc9 pm9 an9 cd9 ct9, Machine := c_Machine, Mismatch := c_Mismatch } :=
    { F_all_below := F0,
      b_all_below := b0,
      g_all_below := PySem.W.mg_of X G a0,
      k_all_below := k0,
      F_MachineU_initU := F1,
      b_MachineU_initU := b1,
      k_MachineU_initU := k1,
      F_separating_word := F2,
      b_separating_word := b2,
      g_separating_word := PySem.W.mg_of X G a2,
      k_separating_word := k2,
      F_l_draws := F3,
      b_l_draws := b3,
      g_l_draws := PySem.W.mg_of X G a3,
      k_l_draws := k3,
      F_l_take := F4,
      b_l_take := b4,
      g_l_take := PySem.W.mg_of X G a4,
      k_l_take := k4,
      F_l_flat := F5,
      b_l_flat := b5,
      g_l_flat := PySem.W.mg_of X G a5,
      k_l_flat := k5,
      F_l_machine := F6,
      b_l_machine := b6,
      g_l_machine := PySem.W.mg_of X G a6,
      k_l_machine := k6,
      F_l_outcome := F7,
      b_l_outcome := b7,
      g_l_outcome := PySem.W.mg_of X G a7,
      k_l_outcome := k7,
      F_l_expected := F8,
      b_l_expected := b8,
      g_l_expected := PySem.W.mg_of X G a8,
      k_l_expected := k8,
      F_law := F9,
      b_law := b9,
      g_law := PySem.W.mg_of X G a9,
      k_law := k9,
      cl_Machine := ⟨pg_Machine, hd_Machine, po_Machine, sa_Machine⟩,
      g_Machine := PySem.W.mg_of X G g_Machine,
      g_Mismatch := PySem.W.mg_of X G g_Mismatch,
      mk_Machine := ⟨mm_Machine, a1, i1, mk_Machine⟩,
      na_Machine_inputs := na_Machine_inputs,
      na_Machine_lead := na_Machine_lead,
      na_Machine_opening := na_Machine_opening,
      na_Machine_outputs := na_Machine_outputs,
      na_Machine_rows := na_Machine_rows,
      x_Mismatch := x_Mismatch,
      k_Mismatch := xk_Mismatch,
      xb_Mismatch := xb_Mismatch,
      xt_Mismatch := xt_Mismatch,
      em_Mismatch_Mismatch := exm_of xb_Mismatch xi_Mismatch xt_Mismatch es_Mismatch_Mismatch,
      n_int := PySem.W.mg_none_of X G n_int,
      n_isinstance := PySem.W.mg_none_of X G n_isinstance,
      n_len := PySem.W.mg_none_of X G n_len,
      n_list := PySem.W.mg_none_of X G n_list,
      n_max := PySem.W.mg_none_of X G n_max,
      n_range := PySem.W.mg_none_of X G n_range,
      n_tuple := PySem.W.mg_none_of X G n_tuple }
  exact ⟨PySem.W.fnOf "law" "law" (defArgs s_law) (defBody s_law) (defScope s_law) .none kV9 dc9 pm9 an9 cd9 ct9, fun s v => .of_eq rfl, fun base _ _ => ok_law T⟩
end LAW
open PySem PySem.W PyProof.Rows
theorem PySem.Challenge.cw_reactivesynth_k42_separating_word_holds : PySem.Challenge.rw_reactivesynth_k42_separating_word.Holds := by
  w_on; o_law; k_head; (case hw => w_witness2)
  k_fill
  refine L2.walk_of (l := PySem.Challenge.rw_reactivesynth_k42_separating_word) (n := 63) (k := 4) (x := "_law_script") (CX := fun w => L2.CX PySem.Challenge.pw_reactivesynth_k42_separating_word w) (sp := fun w => L3.spOf _ LAW.sp_law) rfl (by decide) rfl ⟨rfl, by decide, by decide⟩ (fun w h Y => PySem.W.kIn_of Y) ?F (fun _ _ _ _ hl _ hS => L3.law_start hl hS) (fun _ _ _ _ _ h => L3.cx_none h)
  case F =>
    intro w mg fa h KX G hmg
    refine' LAW.all_mk KX G hmg ?g_Machine ?g_Mismatch ?a0 ?l0 ?c0 ?k0 ?a1 ?i1 ?l1 ?c1 ?k1 ?a2 ?l2 ?c2 ?k2 ?a3 ?l3 ?c3 ?k3 ?a4 ?l4 ?c4 ?k4 ?a5 ?l5 ?c5 ?k5 ?a6 ?l6 ?c6 ?k6 ?a7 ?l7 ?c7 ?k7 ?a8 ?l8 ?c8 ?k8 ?a9 ?l9 ?c9 ?k9 ?pg_Machine ?hd_Machine ?po_Machine ?sa_Machine ?mm_Machine ?mk_Machine ?na_Machine_inputs ?na_Machine_lead ?na_Machine_opening ?na_Machine_outputs ?na_Machine_rows ?x_Mismatch ?xk_Mismatch ?xb_Mismatch ?xt_Mismatch ?xi_Mismatch ?es_Mismatch_Mismatch ?n_int ?n_isinstance ?n_len ?n_list ?n_max ?n_range ?n_tuple
    (case g_Machine => k_is)
    (case g_Mismatch => k_is)
    (case a0 => k_is)
    (case l0 => k_is)
    (case c0 => k_is)
    (case k0 => k_is)
    (case a1 => k_is)
    (case i1 => k_is)
    (case l1 => k_is)
    (case c1 => k_is)
    (case k1 => k_is)
    (case a2 => k_is)
    (case l2 => k_is)
    (case c2 => k_is)
    (case k2 => k_is)
    (case a3 => k_is)
    (case l3 => k_is)
    (case c3 => k_is)
    (case k3 => k_is)
    (case a4 => k_is)
    (case l4 => k_is)
    (case c4 => k_is)
    (case k4 => k_is)
    (case a5 => k_is)
    (case l5 => k_is)
    (case c5 => k_is)
    (case k5 => k_is)
    (case a6 => k_is)
    (case l6 => k_is)
    (case c6 => k_is)
    (case k6 => k_is)
    (case a7 => k_is)
    (case l7 => k_is)
    (case c7 => k_is)
    (case k7 => k_is)
    (case a8 => k_is)
    (case l8 => k_is)
    (case c8 => k_is)
    (case k8 => k_is)
    (case a9 => k_is)
    (case l9 => k_is)
    (case c9 => k_is)
    (case k9 => k_is)
    (case pg_Machine => k_is)
    (case hd_Machine => k_is)
    (case po_Machine => k_is)
    (case sa_Machine => k_is)
    (case mm_Machine => k_is)
    (case mk_Machine => k_is)
    (case na_Machine_inputs => k_is)
    (case na_Machine_lead => k_is)
    (case na_Machine_opening => k_is)
    (case na_Machine_outputs => k_is)
    (case na_Machine_rows => k_is)
    (case x_Mismatch => k_exc)
    (case xk_Mismatch => k_is)
    (case xb_Mismatch => k_is)
    (case xt_Mismatch => k_is)
    (case xi_Mismatch => k_is)
    (case es_Mismatch_Mismatch => k_is)
    (case n_int => k_is)
    (case n_isinstance => k_is)
    (case n_len => k_is)
    (case n_list => k_is)
    (case n_max => k_is)
    (case n_range => k_is)
    (case n_tuple => k_is)
