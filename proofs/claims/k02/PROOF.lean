import PyProof.Rows.All
import Wide.All
import OpenK.AllK
import Wide.FinOn
import HandS.ForMost
import HandS.ForExc
import HandS.Wide
import HandS.WideMore
import HandS.WideBits
import HandS.Style
import HandS.Flow
import HandS.SortInts
import HandS.SortRule
import HandS.Zip
import HandS.Conv
import HandS.Defaults
import HandS.IsInst
import HandS.TupAny
import HandS.TupMul
import HandS.HeadHook2
import HandS.Head2
import HandS.HeadEnd
import PySem.Challenge.RW_duetickers_k02_what_any_value_is
set_option Elab.async false
set_option linter.all false
set_option maxRecDepth 100000
set_option maxHeartbeats 4000000
namespace Z
open PySem L2

/-! ### 1. data without addresses -/
inductive D where
  | non | bl (b : Bool) | int (i : Int) | str (s : Str) | tup (ds : List D) | lst (ds : List D)
  | frl (ds : List D) | dic (ks : List Key) (ds : List D) | ins (C : Addr) (ks : List Str) (ds : List D) | ref (a : Addr) | ty (n : String)

def Ex (F G : Hp) : Prop := ∀ a o, F a = some o → G a = some o
theorem Ex.refl (F : Hp) : Ex F F := fun _ _ h => h
theorem Ex.trans {F G I : Hp} (a : Ex F G) (b : Ex G I) : Ex F I := fun x o h => b x o (a x o h)
theorem Ex.new {F : Hp} {p : Addr} {o : HO} (h : F p = none) : Ex F (upd F p o) := fun a u e => by
  rw [upd_ne (ne_of_none e h)]; exact e
theorem Ex.upd2 {F G : Hp} {p : Addr} {o : HO} (e : Ex F G) (h : F p = none) : Ex (upd F p o) (upd G p o) := fun a u q => by
  by_cases z : a = p
  · subst z; rw [upd_same] at q ⊢; exact q
  · rw [upd_ne z] at q ⊢; exact e a u q
theorem Ex.fresh {F G : Hp} {p : Addr} (e : Ex F G) (h : G p = none) : F p = none := by
  cases q : F p with
  | none => rfl
  | some o => rw [e p o q] at h; cases h
theorem Ex.mut {F G : Hp} {p : Addr} {o : HO} (e : Ex F G) (h : F p = none) : Ex F (upd G p o) := fun a u q => by
  rw [upd_ne (ne_of_none q h)]; exact e a u q
theorem ex_rd {F G : Hp} {a : Addr} {u : HO} (e : Ex F G) (h : Rd F a u) : Rd G a u := by
  rcases h with h | ⟨o, h⟩
  · exact Or.inl (e a _ h)
  · exact Or.inr ⟨o, e a _ h⟩
theorem ex_l {K : PySem.W.Frag} {F G : Hp} {a : Addr} {xs : List V} (e : Ex F G) (h : SqL K F a xs) : SqL K G a xs := by
  rcases h with h | h
  · exact Or.inl (ex_rd e h)
  · exact Or.inr h
theorem ex_t {K : PySem.W.Frag} {F G : Hp} {a : Addr} {xs : List V} (e : Ex F G) (h : SqT K F a xs) : SqT K G a xs := by
  rcases h with h | h
  · exact Or.inl (ex_rd e h)
  · exact Or.inr h

/-- a tuple that was made, or stands in the module -/
def TupIn (K : PySem.W.Frag) (F : Hp) (a : Addr) (xs : List V) : Prop := F a = some (.tup xs) ∨
  ∃ (o : Obj) (its : Array Value) (n : Nat), K.lookup a = some o ∧ o.cls = .type "tuple" ∧ o.data = .seq its n ∧ its.size ≤ sizeLine ∧ Vals xs its.toList
theorem TupIn.of {K : PySem.W.Frag} {F : Hp} {a : Addr} {xs : List V} (h : F a = some (.tup xs)) : TupIn K F a xs := .inl h
theorem TupIn.sq {K : PySem.W.Frag} {F : Hp} {a : Addr} {xs : List V} (h : TupIn K F a xs) : SqT K F a xs := h.elim (fun h => .inl (.inl h)) .inr
theorem TupIn.ex {K : PySem.W.Frag} {F G : Hp} {a : Addr} {xs : List V} (e : Ex F G) (h : TupIn K F a xs) : TupIn K G a xs := h.elim (fun h => .inl (e _ _ h)) .inr
mutual
inductive Rep (K : PySem.W.Frag) (F : Hp) : V → D → Prop
  | non : Rep K F .non .non
  | bl (b : Bool) : Rep K F (.bl b) (.bl b)
  | int (i : Int) : Rep K F (.int i) (.int i)
  | str (x : Str) : Rep K F (.str x) (.str x)
  | tup {a : Addr} {xs : List V} {ds : List D} : TupIn K F a xs → RepL K F xs ds → Rep K F (.ref a) (.tup ds)
  | lst {a : Addr} {xs : List V} {ds : List D} : F a = some (.lst xs) → RepL K F xs ds → Rep K F (.ref a) (.lst ds)
  | frl {a : Addr} {xs : List V} {ds : List D} : SqL K F a xs → RepL K F xs ds → Rep K F (.ref a) (.frl ds)
  | dic {a : Addr} {kvs : List (Key × V)} {ds : List D} : F a = some (.dK kvs) → RepL K F (kvs.map Prod.snd) ds → Rep K F (.ref a) (.dic (kvs.map Prod.fst) ds)
  | ins {a C dx : Addr} {fs : List (Str × V)} {ds : List D} : F a = some (.ins C dx fs) → RepL K F (fs.map Prod.snd) ds → Rep K F (.ref a) (.ins C (fs.map Prod.fst) ds)
  | ref (a : Addr) : Rep K F (.ref a) (.ref a)
  | ty (n : String) : Rep K F (.ty n) (.ty n)
inductive RepL (K : PySem.W.Frag) (F : Hp) : List V → List D → Prop
  | nil : RepL K F [] []
  | cons {v : V} {d : D} {xs : List V} {ds : List D} : Rep K F v d → RepL K F xs ds → RepL K F (v :: xs) (d :: ds)
end

section
variable {K : PySem.W.Frag} {F G : Hp}
mutual
theorem Rep.mono (e : Ex F G) : ∀ {v : V} {d : D}, Rep K F v d → Rep K G v d
  | _, _, .non => .non
  | _, _, .bl b => .bl b
  | _, _, .int i => .int i
  | _, _, .str x => .str x
  | _, _, .tup h r => .tup (h.ex e) (RepL.mono e r)
  | _, _, .lst h r => .lst (e _ _ h) (RepL.mono e r)
  | _, _, .frl h r => .frl (ex_l e h) (RepL.mono e r)
  | _, _, .dic h r => .dic (e _ _ h) (RepL.mono e r)
  | _, _, .ins h r => .ins (e _ _ h) (RepL.mono e r)
  | _, _, .ref a => .ref a
  | _, _, .ty n => .ty n
theorem RepL.mono (e : Ex F G) : ∀ {xs : List V} {ds : List D}, RepL K F xs ds → RepL K G xs ds
  | _, _, .nil => .nil
  | _, _, .cons h r => .cons (Rep.mono e h) (RepL.mono e r)
end
theorem RepL.len : ∀ {xs : List V} {ds : List D}, RepL K F xs ds → xs.length = ds.length
  | _, _, .nil => rfl
  | _, _, .cons _ r => by rw [List.length_cons, List.length_cons, RepL.len r]
theorem RepL.app : ∀ {xs ys : List V} {ds es : List D}, RepL K F xs ds → RepL K F ys es → RepL K F (xs ++ ys) (ds ++ es)
  | _, _, _, _, .nil, s => s
  | _, _, _, _, .cons h r, s => .cons h (RepL.app r s)
theorem RepL.get : ∀ {xs : List V} {ds : List D} {i : Nat} {d : D}, RepL K F xs ds → ds[i]? = some d → ∃ v, xs[i]? = some v ∧ Rep K F v d
  | _, _, _, _, .nil, e => by simp at e
  | _, _, 0, _, .cons h _, e => by simp at e; subst e; exact ⟨_, rfl, h⟩
  | _, _, i + 1, d, .cons _ r, e => by
    obtain ⟨v, h1, h2⟩ := RepL.get (i := i) (d := d) r (by simpa using e)
    exact ⟨v, by simpa using h1, h2⟩
theorem RepL.getV : ∀ {xs : List V} {ds : List D} {i : Nat} {v : V}, RepL K F xs ds → xs[i]? = some v → ∃ d, ds[i]? = some d ∧ Rep K F v d
  | _, _, _, _, .nil, e => by simp at e
  | _, _, 0, _, .cons h _, e => by simp at e; subst e; exact ⟨_, rfl, h⟩
  | _, _, i + 1, d, .cons _ r, e => by
    obtain ⟨v, h1, h2⟩ := RepL.getV (i := i) (v := d) r (by simpa using e)
    exact ⟨v, by simpa using h1, h2⟩
theorem RepL.set {v : V} {d : D} (h : Rep K F v d) : ∀ {xs : List V} {ds : List D} (i : Nat), RepL K F xs ds → RepL K F (xs.set i v) (ds.set i d)
  | _, _, _, .nil => .nil
  | _, _, 0, .cons _ r => .cons h r
  | _, _, i + 1, .cons q r => .cons q (RepL.set h i r)
theorem RepL.take : ∀ {xs : List V} {ds : List D} (n : Nat), RepL K F xs ds → RepL K F (xs.take n) (ds.take n)
  | _, _, 0, _ => .nil
  | _, _, _ + 1, .nil => .nil
  | _, _, n + 1, .cons h r => .cons h (RepL.take n r)
theorem RepL.drop : ∀ {xs : List V} {ds : List D} (n : Nat), RepL K F xs ds → RepL K F (xs.drop n) (ds.drop n)
  | _, _, 0, r => r
  | _, _, _ + 1, .nil => .nil
  | _, _, n + 1, .cons _ r => RepL.drop n r
theorem RepL.rev : ∀ {xs : List V} {ds : List D}, RepL K F xs ds → RepL K F xs.reverse ds.reverse
  | _, _, .nil => .nil
  | _, _, .cons h r => by
    rw [List.reverse_cons, List.reverse_cons]; exact (RepL.rev r).app (.cons h .nil)
theorem RepL.rep : ∀ {xs : List V} {ds : List D} (n : Nat), RepL K F xs ds → RepL K F (List.replicate n xs).flatten (List.replicate n ds).flatten
  | _, _, 0, _ => .nil
  | _, _, n + 1, r => by
    rw [List.replicate_succ, List.replicate_succ, List.flatten_cons, List.flatten_cons]; exact r.app (RepL.rep n r)
theorem RepL.ints : ∀ {ns : List Int}, RepL K F (ns.map V.int) (ns.map D.int)
  | [] => .nil
  | n :: ns => .cons (.int n) RepL.ints
theorem RepL.intsV : ∀ {xs : List V} {ns : List Int}, RepL K F xs (ns.map D.int) → xs = ns.map V.int
  | [], [], _ => rfl
  | _, _ :: _, .cons h r => by
    cases h
    rw [RepL.intsV r]; rfl
theorem RepL.blsV : ∀ {xs : List V} {ns : List Bool}, RepL K F xs (ns.map D.bl) → xs = ns.map V.bl
  | [], [], _ => rfl
  | _, _ :: _, .cons h r => by
    cases h
    rw [RepL.blsV r]; rfl
theorem RepL.strsV : ∀ {xs : List V} {ns : List Str}, RepL K F xs (ns.map D.str) → xs = ns.map V.str
  | [], [], _ => rfl
  | _, _ :: _, .cons h r => by
    cases h
    rw [RepL.strsV r]; rfl
end

/-! ### 2. states: slots hold data, lists (dicts, objects) of one's own that may change, or such that the caller owns -/
inductive Sl where
  | un | pu (d : D) | ow (d : D) | io (k : Nat) (d : D)
abbrev Pst := List Sl
def Sl.ownd : Sl → Option D
  | .ow d => some d
  | .io _ d => some d
  | _ => none
def Sl.put (e : D) : Sl → Sl
  | .ow _ => .ow e
  | .io k _ => .io k e
  | s => s
theorem Sl.ownd_put {s : Sl} {d e : D} (h : s.ownd = some d) : (s.put e).ownd = some e := by
  cases s <;> first | rfl | cases h

inductive Own (K : PySem.W.Frag) (F H : Hp) (l : Addr) : D → Prop
  | lst {xs : List V} {ds : List D} : H l = some (.lst xs) → RepL K F xs ds → Own K F H l (.lst ds)
  | dic {kvs : List (Key × V)} {ds : List D} : H l = some (.dK kvs) → RepL K F (kvs.map Prod.snd) ds → Own K F H l (.dic (kvs.map Prod.fst) ds)
  | ins {C dx : Addr} {fs : List (Str × V)} {ds : List D} : H l = some (.ins C dx fs) → RepL K F (fs.map Prod.snd) ds → Own K F H l (.ins C (fs.map Prod.fst) ds)

/-- the entry of a def: what may be changed, the data's heap, the heap -/
structure Fz where
  io : List Addr
  F0 : Hp
  H0 : Hp
  P : Hp
def Sl.lok (c : Fz) (l : Addr) : Sl → Prop
  | .ow _ => c.H0 l = none
  | .io k _ => c.io[k]? = some l
  | _ => False
theorem Sl.lok_put {c : Fz} {l : Addr} {s : Sl} {e : D} (h : s.lok c l) : (s.put e).lok c l := by
  cases s <;> exact h

structure Gr (io : List Addr) (F H F' H' : Hp) : Prop where
  ff : Ex F F'
  fr : ∀ a, F a = none → H a ≠ none → F' a = none
  hh : ∀ a o, H a = some o → a ∉ io → H' a = some o
  ht : ∀ a, H a ≠ none → H' a ≠ none
theorem Gr.refl {io : List Addr} {F H : Hp} : Gr io F H F H := ⟨Ex.refl F, fun _ h _ => h, fun _ _ h _ => h, fun _ h => h⟩

/-- the state of a body -/
structure SR (K : PySem.W.Frag) (c : Fz) (ps : Pst) (σ : St) (F H : Hp) : Prop where
  g : Gr c.io c.F0 c.H0 F H
  fh : Ex F H
  len : ps.length = σ.length
  pu : ∀ (i : Nat) (d : D), ps[i]? = some (.pu d) → ∃ v, σ[i]? = some (some v) ∧ Rep K F v d
  on : ∀ (i : Nat) (s : Sl) (d : D), ps[i]? = some s → s.ownd = some d → ∃ l, σ[i]? = some (some (.ref l)) ∧ Own K F H l d ∧ F l = none ∧ s.lok c l
  ds : ∀ (i j : Nat) (si sj : Sl) (di dj : D) (l : Addr), i ≠ j → ps[i]? = some si → ps[j]? = some sj → si.ownd = some di → sj.ownd = some dj → σ[i]? = some (some (.ref l)) → σ[j]? = some (some (.ref l)) → False
  pr : ∀ a o, c.P a = some o → H a = some o ∧ F a = none ∧ ∀ (j : Nat) (s' : Sl) (d : D), ps[j]? = some s' → s'.ownd = some d → σ[j]? ≠ some (some (.ref a))

theorem Own.tracked {K : PySem.W.Frag} {F H : Hp} {l : Addr} {d : D} (o : Own K F H l d) : ∃ u, H l = some u := by
  cases o with
  | lst h _ => exact ⟨_, h⟩
  | dic h _ => exact ⟨_, h⟩
  | ins h _ => exact ⟨_, h⟩
theorem Own.ff {K : PySem.W.Frag} {F F' H H' : Hp} {l : Addr} {d : D} (o : Own K F H l d) (e : Ex F F')
    (hh : ∀ u, H l = some u → H' l = some u) : Own K F' H' l d := by
  cases o with
  | lst h r => exact .lst (hh _ h) (r.mono e)
  | dic h r => exact .dic (hh _ h) (r.mono e)
  | ins h r => exact .ins (hh _ h) (r.mono e)

theorem none_iff {F : Hp} {a : Addr} : F a ≠ none ↔ ∃ o, F a = some o := by
  cases q : F a with
  | none => simp
  | some o => simp

section
variable {K : PySem.W.Frag} {c : Fz} {ps : Pst} {σ : St} {F H : Hp}
theorem SR.h0 (s : SR K c ps σ F H) {p : Addr} (hp : H p = none) : c.H0 p = none := by
  cases q : c.H0 p with
  | none => rfl
  | some u => exact absurd hp (s.g.ht p (by rw [q]; simp))
theorem SR.p0 (s : SR K c ps σ F H) {p : Addr} (hp : H p = none) : c.P p = none := by
  cases q : c.P p with
  | none => rfl
  | some u => rw [(s.pr p u q).1] at hp; cases hp
/-- what is new is in no owned slot -/
theorem SR.nw (s : SR K c ps σ F H) {p : Addr} (hp : H p = none) : ∀ (j : Nat) (s' : Sl) (d : D), ps[j]? = some s' → s'.ownd = some d → σ[j]? ≠ some (some (.ref p)) := fun j s' d e o z => by
  obtain ⟨l, h1, h2, _⟩ := s.on j s' d e o
  rw [z] at h1; cases h1
  obtain ⟨u, hu⟩ := h2.tracked
  rw [hp] at hu; cases hu
/-- a new object that is data -/
theorem SR.alloc (s : SR K c ps σ F H) {p : Addr} {o : HO} (hp : H p = none) : SR K c ps σ (upd F p o) (upd H p o) := by
  have fp : F p = none := s.fh.fresh hp
  have p0 := s.h0 hp
  refine ⟨⟨s.g.ff.trans (Ex.new fp), fun a h1 h2 => ?_, fun a u h1 h2 => ?_, fun a h1 => ?_⟩, s.fh.upd2 fp, s.len, fun i d e => ?_, fun i s' d e n => ?_, s.ds, fun a u q => ?_⟩
  · have na : a ≠ p := fun z => h2 (by rw [z]; exact p0)
    rw [upd_ne na]; exact s.g.fr a h1 h2
  · rw [upd_ne (ne_of_none h1 p0)]; exact s.g.hh a u h1 h2
  · have na : a ≠ p := fun z => h1 (by rw [z]; exact p0)
    rw [upd_ne na]; exact s.g.ht a h1
  · obtain ⟨v, h1, h2⟩ := s.pu i d e
    exact ⟨v, h1, h2.mono (Ex.new fp)⟩
  · obtain ⟨l, h1, h2, h3, h4⟩ := s.on i s' d e n
    obtain ⟨u, hu⟩ := h2.tracked
    have nl : l ≠ p := ne_of_none hu hp
    refine ⟨l, h1, h2.ff (Ex.new fp) (fun w q => by rw [upd_ne (ne_of_none q hp)]; exact q), by rw [upd_ne nl]; exact h3, h4⟩
  · obtain ⟨h1, h2, h3⟩ := s.pr a u q
    have na : a ≠ p := ne_of_none h1 hp
    exact ⟨by rw [upd_ne na]; exact h1, by rw [upd_ne na]; exact h2, h3⟩
/-- a new object that is no data -/
theorem SR.laid (s : SR K c ps σ F H) {p : Addr} {o : HO} (hp : H p = none) : SR K c ps σ F (upd H p o) := by
  have fp : F p = none := s.fh.fresh hp
  have p0 := s.h0 hp
  refine ⟨⟨s.g.ff, s.g.fr, fun a u h1 h2 => ?_, fun a h1 => ?_⟩, s.fh.mut fp, s.len, s.pu, fun i s' d e n => ?_, s.ds, fun a u q => ?_⟩
  · rw [upd_ne (ne_of_none h1 p0)]; exact s.g.hh a u h1 h2
  · have na : a ≠ p := fun z => h1 (by rw [z]; exact p0)
    rw [upd_ne na]; exact s.g.ht a h1
  · obtain ⟨l, h1, h2, h3, h4⟩ := s.on i s' d e n
    exact ⟨l, h1, h2.ff (Ex.refl F) (fun w q => by rw [upd_ne (ne_of_none q hp)]; exact q), h3, h4⟩
  · obtain ⟨h1, h2, h3⟩ := s.pr a u q
    have na : a ≠ p := ne_of_none h1 hp
    exact ⟨by rw [upd_ne na]; exact h1, h2, h3⟩
/-- a free object of the heap becomes data -/
theorem SR.frozen (s : SR K c ps σ F H) {l : Addr} {o : HO} (hl : H l = some o) (fl : F l = none) (l0 : c.H0 l = none) (lp : c.P l = none)
    (nw : ∀ (j : Nat) (s' : Sl) (d : D), ps[j]? = some s' → s'.ownd = some d → σ[j]? ≠ some (some (.ref l))) : SR K c ps σ (upd F l o) H := by
  refine ⟨⟨s.g.ff.trans (Ex.new fl), fun a h1 h2 => ?_, s.g.hh, s.g.ht⟩, fun a u q => ?_, s.len, fun i d e => ?_, fun i s' d e n => ?_, s.ds, fun a u q => ?_⟩
  · have na : a ≠ l := fun z => h2 (by rw [z]; exact l0)
    rw [upd_ne na]; exact s.g.fr a h1 h2
  · by_cases z : a = l
    · subst z; rw [upd_same] at q; rw [hl]; exact q
    · rw [upd_ne z] at q; exact s.fh a u q
  · obtain ⟨v, h1, h2⟩ := s.pu i d e
    exact ⟨v, h1, h2.mono (Ex.new fl)⟩
  · obtain ⟨m, h1, h2, h3, h4⟩ := s.on i s' d e n
    have nm : m ≠ l := fun z => nw i s' d e n (by rw [h1, z])
    refine ⟨m, h1, h2.ff (Ex.new fl) (fun _ q => q), by rw [upd_ne nm]; exact h3, h4⟩
  · obtain ⟨h1, h2, h3⟩ := s.pr a u q
    have na : a ≠ l := ne_of_none q lp
    exact ⟨h1, by rw [upd_ne na]; exact h2, h3⟩
theorem getE_set_self {α : Type} {l : List α} {i : Nat} {x y : α} (h : (l.set i x)[i]? = some y) : i < l.length ∧ y = x := by
  have hl : i < l.length := by
    have := (List.getElem?_eq_some_iff.mp h).1
    rwa [List.length_set] at this
  rw [List.getElem?_set_self hl] at h
  exact ⟨hl, (Option.some.inj h).symm⟩
/-- a slot is forgotten -/
theorem SR.drop (s : SR K c ps σ F H) (i : Nat) : SR K c (ps.set i .un) σ F H := by
  refine ⟨s.g, s.fh, by rw [List.length_set]; exact s.len, fun j d q => ?_, fun j s' d q n => ?_, fun j k sj sk dj dk l n1 q1 q2 o1 o2 e1 e2 => ?_, fun a u q => ?_⟩
  · by_cases z : i = j
    · subst z; cases (getE_set_self q).2
    · rw [List.getElem?_set_ne z] at q; exact s.pu j d q
  · by_cases z : i = j
    · subst z; rw [(getE_set_self q).2] at n; cases n
    · rw [List.getElem?_set_ne z] at q; exact s.on j s' d q n
  · have z1 : i ≠ j := fun z => by subst z; rw [(getE_set_self q1).2] at o1; cases o1
    have z2 : i ≠ k := fun z => by subst z; rw [(getE_set_self q2).2] at o2; cases o2
    rw [List.getElem?_set_ne z1] at q1
    rw [List.getElem?_set_ne z2] at q2
    exact s.ds j k sj sk dj dk l n1 q1 q2 o1 o2 e1 e2
  · obtain ⟨h1, h2, h3⟩ := s.pr a u q
    refine ⟨h1, h2, fun j s' d q n => ?_⟩
    have z : i ≠ j := fun z => by subst z; rw [(getE_set_self q).2] at n; cases n
    rw [List.getElem?_set_ne z] at q
    exact h3 j s' d q n
/-- a slot gets data -/
theorem SR.set (s : SR K c ps σ F H) {i : Nat} {v : V} {d : D} (r : Rep K F v d) : SR K c (ps.set i (.pu d)) (σ.set i (some v)) F H := by
  refine ⟨s.g, s.fh, by rw [List.length_set, List.length_set]; exact s.len, fun j e q => ?_, fun j s' e q n => ?_, fun j k sj sk dj dk l n1 q1 q2 o1 o2 e1 e2 => ?_, fun a u q => ?_⟩
  · by_cases z : i = j
    · subst z
      obtain ⟨hl, h⟩ := getE_set_self q
      cases h
      exact ⟨v, List.getElem?_set_self (by rw [← s.len]; exact hl), r⟩
    · rw [List.getElem?_set_ne z] at q ⊢
      exact s.pu j e q
  · have z : i ≠ j := fun z => by subst z; rw [(getE_set_self q).2] at n; cases n
    rw [List.getElem?_set_ne z] at q ⊢
    exact s.on j s' e q n
  · have z1 : i ≠ j := fun z => by subst z; rw [(getE_set_self q1).2] at o1; cases o1
    have z2 : i ≠ k := fun z => by subst z; rw [(getE_set_self q2).2] at o2; cases o2
    rw [List.getElem?_set_ne z1] at q1 e1
    rw [List.getElem?_set_ne z2] at q2 e2
    exact s.ds j k sj sk dj dk l n1 q1 q2 o1 o2 e1 e2
  · obtain ⟨h1, h2, h3⟩ := s.pr a u q
    refine ⟨h1, h2, fun j s' d q n => ?_⟩
    have z : i ≠ j := fun z => by subst z; rw [(getE_set_self q).2] at n; cases n
    rw [List.getElem?_set_ne z] at q ⊢
    exact h3 j s' d q n
/-- a slot gets an object of its own -/
theorem SR.setO (s : SR K c ps σ F H) {i : Nat} {l : Addr} {d : D} {t : Sl} (ht : t.ownd = some d) (o : Own K F H l d) (fl : F l = none) (l0 : t.lok c l) (lp : c.P l = none)
    (nw : ∀ (j : Nat) (s' : Sl) (dj : D), ps[j]? = some s' → s'.ownd = some dj → j ≠ i → σ[j]? ≠ some (some (.ref l))) : SR K c (ps.set i t) (σ.set i (some (.ref l))) F H := by
  refine ⟨s.g, s.fh, by rw [List.length_set, List.length_set]; exact s.len, fun j e q => ?_, fun j s' e q n => ?_, fun j k sj sk dj dk m n1 q1 q2 o1 o2 e1 e2 => ?_, fun a u q => ?_⟩
  · have z : i ≠ j := fun z => by subst z; rw [← (getE_set_self q).2] at ht; cases ht
    rw [List.getElem?_set_ne z] at q ⊢
    exact s.pu j e q
  · by_cases z : i = j
    · subst z
      obtain ⟨hl, h⟩ := getE_set_self q
      subst h
      rw [ht] at n; cases n
      exact ⟨l, List.getElem?_set_self (by rw [← s.len]; exact hl), o, fl, l0⟩
    · rw [List.getElem?_set_ne z] at q ⊢
      exact s.on j s' e q n
  · by_cases z1 : i = j
    · subst z1
      obtain ⟨hl, _⟩ := getE_set_self q1
      rw [List.getElem?_set_self (by rw [← s.len]; exact hl)] at e1
      cases e1
      rw [List.getElem?_set_ne n1] at q2 e2
      exact nw k sk dk q2 o2 (Ne.symm n1) e2
    · by_cases z2 : i = k
      · subst z2
        obtain ⟨hl, _⟩ := getE_set_self q2
        rw [List.getElem?_set_self (by rw [← s.len]; exact hl)] at e2
        cases e2
        rw [List.getElem?_set_ne z1] at q1 e1
        exact nw j sj dj q1 o1 n1 e1
      · rw [List.getElem?_set_ne z1] at q1 e1
        rw [List.getElem?_set_ne z2] at q2 e2
        exact s.ds j k sj sk dj dk m n1 q1 q2 o1 o2 e1 e2
  · obtain ⟨h1, h2, h3⟩ := s.pr a u q
    refine ⟨h1, h2, fun j s' d q n => ?_⟩
    by_cases z : i = j
    · subst z
      obtain ⟨hl, _⟩ := getE_set_self q
      rw [List.getElem?_set_self (by rw [← s.len]; exact hl)]
      intro w
      cases w
      rw [lp] at *
      contradiction
    · rw [List.getElem?_set_ne z] at q ⊢
      exact h3 j s' d q n
/-- an owned object changes -/
theorem SR.change (s : SR K c ps σ F H) {i : Nat} {l : Addr} {d d' : D} {t : Sl} {o : HO} (e : ps[i]? = some t) (ht : t.ownd = some d) (el : σ[i]? = some (some (.ref l)))
    (ne : Own K F (upd H l o) l d') : SR K c (ps.set i (t.put d')) σ F (upd H l o) := by
  obtain ⟨l', h1, h2, h3, h4⟩ := s.on i t d e ht
  rw [el] at h1; cases h1
  obtain ⟨u0, hu0⟩ := h2.tracked
  have hl : i < ps.length := (List.getElem?_eq_some_iff.mp e).1
  have un : ∀ {k : Nat} {sk : Sl} {dk : D}, (ps.set i (t.put d'))[k]? = some sk → sk.ownd = some dk → ∃ sk' dk', ps[k]? = some sk' ∧ sk'.ownd = some dk' := fun {k sk dk} q n => by
    by_cases z : i = k
    · subst z; exact ⟨t, d, e, ht⟩
    · rw [List.getElem?_set_ne z] at q; exact ⟨_, _, q, n⟩
  refine ⟨⟨s.g.ff, s.g.fr, fun a u q1 q2 => ?_, fun a q1 => ?_⟩, s.fh.mut h3, by rw [List.length_set]; exact s.len, fun j dj q => ?_, fun j s' dj q n => ?_, fun j k sj sk dj dk m n1 q1 q2 o1 o2 e1 e2 => ?_, fun a u q => ?_⟩
  · have na : a ≠ l := fun z => by
      subst z
      cases t with
      | un => cases ht
      | pu _ => cases ht
      | ow _ => rw [show c.H0 a = none from h4] at q1; cases q1
      | io k _ => exact q2 (List.mem_of_getElem? (show c.io[k]? = some a from h4))
    rw [upd_ne na]; exact s.g.hh a u q1 q2
  · by_cases z : a = l
    · rw [z, upd_same]; simp
    · rw [upd_ne z]; exact s.g.ht a q1
  · have z : i ≠ j := fun z => by
      subst z
      have := (getE_set_self q).2
      cases t <;> first | (cases ht; done) | exact Sl.noConfusion this
    rw [List.getElem?_set_ne z] at q
    exact s.pu j dj q
  · by_cases z : i = j
    · subst z
      have h := (getE_set_self q).2
      subst h
      rw [Sl.ownd_put ht] at n; cases n
      exact ⟨l, el, ne, h3, Sl.lok_put h4⟩
    · rw [List.getElem?_set_ne z] at q
      obtain ⟨m, g1, g2, g3, g4⟩ := s.on j s' dj q n
      have nm : m ≠ l := fun w => by
        subst w
        exact s.ds i j t s' d dj m z e q ht n el g1
      refine ⟨m, g1, g2.ff (Ex.refl F) (fun w q => by rw [upd_ne nm]; exact q), g3, g4⟩
  · obtain ⟨sj', dj', q1', o1'⟩ := un q1 o1
    obtain ⟨sk', dk', q2', o2'⟩ := un q2 o2
    exact s.ds j k sj' sk' dj' dk' m n1 q1' q2' o1' o2' e1 e2
  · obtain ⟨g1, g2, g3⟩ := s.pr a u q
    have na : a ≠ l := fun z => by subst z; exact g3 i t d e ht el
    refine ⟨by rw [upd_ne na]; exact g1, g2, fun j s' dj q n => ?_⟩
    obtain ⟨sj, dj', q', o'⟩ := un q n
    exact g3 j sj dj' q' o'
/-- an owned slot's list becomes data -/
theorem SR.freeze (s : SR K c ps σ F H) {i : Nat} {l : Addr} {d : D} (e : ps[i]? = some (.ow d)) (el : σ[i]? = some (some (.ref l))) : ∃ F', SR K c (ps.set i (.pu d)) σ F' H ∧ Ex F F' ∧ Rep K F' (.ref l) d := by
  obtain ⟨l', h1, h2, h3, h4⟩ := s.on i _ d e rfl
  rw [el] at h1; cases h1
  have s1 := s.drop i
  have lp : c.P l = none := by
    cases q : c.P l with
    | none => rfl
    | some u => exact absurd el ((s.pr l u q).2.2 i _ d e rfl)
  have hl : i < ps.length := (List.getElem?_eq_some_iff.mp e).1
  have nw : ∀ (j : Nat) (s' : Sl) (dj : D), (ps.set i .un)[j]? = some s' → s'.ownd = some dj → σ[j]? ≠ some (some (.ref l)) := fun j s' dj q n z => by
    by_cases w : i = j
    · subst w; rw [(getE_set_self q).2] at n; cases n
    · rw [List.getElem?_set_ne w] at q
      exact s.ds i j _ s' d dj l w e q rfl n el z
  have done : ∀ F', SR K c (ps.set i .un) σ F' H → Rep K F' (.ref l) d → SR K c (ps.set i (.pu d)) σ F' H := fun F' s2 r => by
    have q := s2.set (i := i) r
    rw [List.set_set] at q
    have es : σ.set i (some (.ref l)) = σ := by
      apply List.ext_getElem?
      intro j
      by_cases w : i = j
      · subst w
        have hi : i < σ.length := by rw [← s.len]; exact hl
        rw [List.getElem?_set_self hi, el]
      · rw [List.getElem?_set_ne w]
    rw [es] at q
    exact q
  cases h2 with
  | lst h r =>
    have s2 := s1.frozen h h3 h4 lp nw
    have rr : Rep K (upd F l (.lst _)) (.ref l) (.lst _) := .lst upd_same (r.mono (Ex.new h3))
    exact ⟨_, done _ s2 rr, Ex.new h3, rr⟩
  | dic h r =>
    have s2 := s1.frozen h h3 h4 lp nw
    have rr : Rep K (upd F l (.dK _)) (.ref l) (.dic _ _) := .dic upd_same (r.mono (Ex.new h3))
    exact ⟨_, done _ s2 rr, Ex.new h3, rr⟩
  | @ins C dx fs ds h r =>
    have s2 := s1.frozen h h3 h4 lp nw
    have rr : Rep K (upd F l (.ins C dx fs)) (.ref l) (.ins C (fs.map Prod.fst) ds) := .ins upd_same (r.mono (Ex.new h3))
    exact ⟨_, done _ s2 rr, Ex.new h3, rr⟩
end
end Z

set_option Elab.async false
set_option linter.all false
set_option maxRecDepth 100000
set_option maxHeartbeats 4000000
namespace Z
open PySem L2

/-! ### 3. what a reading computes on data -/
inductive Hd where
  | p (d : D) | s (i : Nat)
def slD : Sl → Option D
  | .pu d => some d
  | .ow d => some d
  | .io _ d => some d
  | .un => none
def look (ps : Pst) : Hd → Option D
  | .p d => some d
  | .s i => match ps[i]? with
    | some s => slD s
    | none => none
def RepH (K : PySem.W.Frag) (σ : St) (F : Hp) (v : V) : Hd → Prop
  | .p d => Rep K F v d
  | .s i => σ[i]? = some (some v)
/-- may be read as d at this moment -/
def Now (K : PySem.W.Frag) (F H : Hp) (v : V) (d : D) : Prop := Rep K F v d ∨ ∃ l, v = .ref l ∧ Own K F H l d

abbrev DTE := Pst → (Hd → Pst → Prop) → Prop
abbrev DTN := Pst → (D → Pst → Prop) → Prop
abbrev DTT := Pst → (Bool → Pst → Prop) → Prop
abbrev DTA := Pst → (List D → Pst → Prop) → Prop
abbrev DTH := Pst → (List Hd → Pst → Prop) → Prop

section
variable (K : PySem.W.Frag)
structure RV (te : TE) (td : DTE) : Prop where
  run : ∀ (c : Fz) (ps : Pst) (σ : St) (F H : Hp) (Q : Hd → Pst → Prop) (QV : VK), SR K c ps σ F H → td ps Q →
    (∀ v h ps' F' H', SR K c ps' σ F' H' → Ex F F' → RepH K σ F' v h → Q h ps' → QV v H') → te σ H QV
/-- a value that goes elsewhere: it is data from then on -/
structure RE (te : TE) (td : DTN) : Prop where
  run : ∀ (c : Fz) (ps : Pst) (σ : St) (F H : Hp) (Q : D → Pst → Prop) (QV : VK), SR K c ps σ F H → td ps Q →
    (∀ v d ps' F' H', SR K c ps' σ F' H' → Ex F F' → Rep K F' v d → Q d ps' → QV v H') → te σ H QV
/-- a new object that nobody else holds -/
structure RN (te : TE) (td : DTN) : Prop where
  run : ∀ (c : Fz) (ps : Pst) (σ : St) (F H : Hp) (Q : D → Pst → Prop) (QV : VK), SR K c ps σ F H → td ps Q →
    (∀ l d ps' F' H', SR K c ps' σ F' H' → Ex F F' → Own K F' H' l d → F' l = none → c.H0 l = none → c.P l = none →
      (∀ (j : Nat) (s' : Sl) (dj : D), ps'[j]? = some s' → s'.ownd = some dj → σ[j]? ≠ some (some (.ref l))) → Q d ps' → QV (.ref l) H') → te σ H QV
structure RT (tt : TT) (td : DTT) : Prop where
  run : ∀ (c : Fz) (ps : Pst) (σ : St) (F H : Hp) (Q : Bool → Pst → Prop) (QV : Bool → Hp → Prop), SR K c ps σ F H → td ps Q →
    (∀ b ps' F' H', SR K c ps' σ F' H' → Ex F F' → Q b ps' → QV b H') → tt σ H QV
structure RA (ta : TA) (td : DTA) : Prop where
  run : ∀ (c : Fz) (ps : Pst) (σ : St) (F H : Hp) (Q : List D → Pst → Prop) (QV : List V → Hp → Prop), SR K c ps σ F H → td ps Q →
    (∀ vs ds ps' F' H', SR K c ps' σ F' H' → Ex F F' → RepL K F' vs ds → Q ds ps' → QV vs H') → ta σ H QV
inductive RepHL (σ : St) (F : Hp) : List V → List Hd → Prop
  | nil : RepHL σ F [] []
  | cons {v : V} {h : Hd} {vs : List V} {hs : List Hd} : RepH K σ F v h → RepHL σ F vs hs → RepHL σ F (v :: vs) (h :: hs)
/-- arguments that are only looked at -/
structure RH (ta : TA) (td : DTH) : Prop where
  run : ∀ (c : Fz) (ps : Pst) (σ : St) (F H : Hp) (Q : List Hd → Pst → Prop) (QV : List V → Hp → Prop), SR K c ps σ F H → td ps Q →
    (∀ vs hs ps' F' H', SR K c ps' σ F' H' → Ex F F' → RepHL K σ F' vs hs → Q hs ps' → QV vs H') → ta σ H QV
end

section
variable {K : PySem.W.Frag} {c : Fz} {ps : Pst} {σ : St} {F F' H : Hp}
theorem RepH.mono (e : Ex F F') {v : V} {h : Hd} (r : RepH K σ F v h) : RepH K σ F' v h := by
  cases h with
  | p d => exact Rep.mono e r
  | s i => exact r
theorem Now.of_own {l : Addr} {d : D} (o : Own K F H l d) : Now K F H (.ref l) d := .inr ⟨l, rfl, o⟩
theorem SR.now (s : SR K c ps σ F H) {v : V} {h : Hd} {d : D} (r : RepH K σ F v h) (e : look ps h = some d) : Now K F H v d := by
  cases h with
  | p d' =>
    have e' : d' = d := Option.some.inj e
    subst e'
    exact .inl r
  | s i =>
    have r' : σ[i]? = some (some v) := r
    dsimp only [look] at e
    cases q : ps[i]? with
    | none => rw [q] at e; cases e
    | some t =>
      rw [q] at e
      have own : t.ownd = some d → Now K F H v d := fun ht => by
        obtain ⟨l, h1, h2, _⟩ := s.on i t d q ht
        rw [r'] at h1; cases h1
        exact .inr ⟨l, rfl, h2⟩
      cases t with
      | un => cases e
      | pu d' =>
        have e' : d' = d := Option.some.inj e
        subst e'
        obtain ⟨v', h1, h2⟩ := s.pu i d' q
        rw [r'] at h1; cases h1
        exact .inl h2
      | ow d' => exact own e
      | io k d' => exact own e
theorem Now.lst {v : V} {ds : List D} (e : Ex F H) (n : Now K F H v (.lst ds)) : ∃ a xs, v = .ref a ∧ H a = some (.lst xs) ∧ RepL K F xs ds := by
  rcases n with n | ⟨l, rfl, o⟩
  · cases n with
    | lst h r => exact ⟨_, _, rfl, e _ _ h, r⟩
  · cases o with
    | lst h r => exact ⟨l, _, rfl, h, r⟩
theorem Now.frl {v : V} {ds : List D} (e : Ex F H) (n : Now K F H v (.frl ds)) : ∃ a xs, v = .ref a ∧ SqL K H a xs ∧ RepL K F xs ds := by
  rcases n with n | ⟨l, rfl, o⟩
  · cases n with
    | frl h r => exact ⟨_, _, rfl, ex_l e h, r⟩
  · cases o
theorem Now.tup {v : V} {ds : List D} (e : Ex F H) (n : Now K F H v (.tup ds)) : ∃ a xs, v = .ref a ∧ SqT K H a xs ∧ RepL K F xs ds := by
  rcases n with n | ⟨l, rfl, o⟩
  · cases n with
    | tup h r => exact ⟨_, _, rfl, ex_t e h.sq, r⟩
  · cases o
theorem Now.int {v : V} {i : Int} (n : Now K F H v (.int i)) : v = .int i := by
  rcases n with n | ⟨l, rfl, o⟩
  · cases n; rfl
  · cases o
theorem Now.str {v : V} {i : Str} (n : Now K F H v (.str i)) : v = .str i := by
  rcases n with n | ⟨l, rfl, o⟩
  · cases n; rfl
  · cases o
theorem Now.bl {v : V} {i : Bool} (n : Now K F H v (.bl i)) : v = .bl i := by
  rcases n with n | ⟨l, rfl, o⟩
  · cases n; rfl
  · cases o
theorem Now.non {v : V} (n : Now K F H v .non) : v = .non := by
  rcases n with n | ⟨l, rfl, o⟩
  · cases n; rfl
  · cases o

/-! names, constants -/
def dVar (i : Nat) : DTE := fun ps Q => match ps[i]? with
  | some (.pu d) => Q (.p d) ps
  | some (.ow _) => Q (.s i) ps
  | some (.io _ _) => Q (.s i) ps
  | _ => False
theorem rv_var (i : Nat) : RV K (tVar i) (dVar i) := ⟨fun c ps σ F H Q QV s h k => by
  unfold dVar at h
  cases q : ps[i]? with
  | none => rw [q] at h; exact h.elim
  | some t =>
    rw [q] at h
    have own : ∀ d, t.ownd = some d → Q (.s i) ps → tVar i σ H QV := fun d ht h => by
      obtain ⟨l, h1, _⟩ := s.on i t d q ht
      exact ⟨_, h1, k _ (.s i) ps F H s (Ex.refl F) h1 h⟩
    cases t with
    | un => exact h.elim
    | pu d =>
      obtain ⟨v, h1, h2⟩ := s.pu i d q
      exact ⟨v, h1, k v (.p d) ps F H s (Ex.refl F) h2 h⟩
    | ow d => exact own d rfl h
    | io n d => exact own d rfl h⟩
def dC (d : D) : DTE := fun ps Q => Q (.p d) ps
theorem rv_c {v : V} {d : D} (r : ∀ F, Rep K F v d) : RV K (tC v) (dC d) := ⟨fun c ps σ F H Q QV s h k => k v (.p d) ps F H s (Ex.refl F) (r F) h⟩
theorem rv_int (i : Int) : RV K (tC (.int i)) (dC (.int i)) := rv_c fun _ => .int i
theorem rv_str (i : Str) : RV K (tC (.str i)) (dC (.str i)) := rv_c fun _ => .str i
theorem rv_bl (i : Bool) : RV K (tC (.bl i)) (dC (.bl i)) := rv_c fun _ => .bl i
theorem rv_non : RV K (tC .non) (dC .non) := rv_c fun _ => .non
theorem rv_refc (a : Addr) : RV K (tC (.ref a)) (dC (.ref a)) := rv_c fun _ => .ref a

/-! a value goes elsewhere -/
def dEsc (t : DTE) : DTN := fun ps Q => t ps fun h ps' => match h with
  | .p d => Q d ps'
  | .s i => match ps'[i]? with
    | some (.ow d) => Q d (ps'.set i (.pu d))
    | some (.pu d) => Q d ps'
    | _ => False
theorem re_esc {te : TE} {td : DTE} (h : RV K te td) : RE K te (dEsc td) := ⟨fun c ps σ F H Q QV s q k => h.run c ps σ F H _ QV s q fun v hd ps' F' H' s' e r q => by
  cases hd with
  | p d => exact k v d ps' F' H' s' e r q
  | s i =>
    have r' : σ[i]? = some (some v) := r
    cases w : ps'[i]? with
    | none => simp only [w] at q
    | some t =>
      simp only [w] at q
      cases t with
      | un => exact q.elim
      | io n d => exact q.elim
      | pu d =>
        obtain ⟨v', h1, h2⟩ := s'.pu i d w
        rw [r'] at h1; cases h1
        exact k v d ps' F' H' s' e h2 q
      | ow d =>
        obtain ⟨l, h1, _⟩ := s'.on i _ d w rfl
        obtain ⟨F2, s2, e2, r2⟩ := s'.freeze w h1
        rw [r'] at h1; cases h1
        exact k _ d _ F2 H' s2 (e.trans e2) r2 q⟩
def dPure (t : DTN) : DTE := fun ps Q => t ps fun d ps' => Q (.p d) ps'
theorem rv_re {te : TE} {td : DTN} (h : RE K te td) : RV K te (dPure td) := ⟨fun c ps σ F H Q QV s q k => h.run c ps σ F H _ QV s q fun v d ps' F' H' s' e r q => k v (.p d) ps' F' H' s' e r q⟩
/-- a new object that becomes data at once -/
theorem re_rn {te : TE} {td : DTN} (h : RN K te td) : RE K te td := ⟨fun c ps σ F H Q QV s q k => h.run c ps σ F H _ QV s q fun l d ps' F' H' s' e o f0 h0 p0 nw q => by
  have fin : ∀ {u : HO}, H' l = some u → Rep K (upd F' l u) (.ref l) d → QV (.ref l) H' := fun {u} hu r =>
    k _ d ps' _ H' (s'.frozen hu f0 h0 p0 nw) (e.trans (Ex.new f0)) r q
  cases o with
  | lst h r => exact fin h (.lst upd_same (r.mono (Ex.new f0)))
  | dic h r => exact fin h (.dic upd_same (r.mono (Ex.new f0)))
  | @ins C dx fs ds h r => exact fin h (.ins upd_same (r.mono (Ex.new f0)))⟩
theorem rv_rn {te : TE} {td : DTN} (h : RN K te td) : RV K te (dPure td) := rv_re (re_rn h)

/-! operators by data -/
section
variable (K : PySem.W.Frag)
/-- r on x, y is rd on what they are now -/
structure RO (r : R2) (rd : D → D → (D → Prop) → Prop) : Prop where
  run : ∀ (c : Fz) (ps : Pst) (σ : St) (F H : Hp) (x y : V) (dx dy : D) (Q : D → Prop) (QV : VK), SR K c ps σ F H → Now K F H x dx → Now K F H y dy → rd dx dy Q →
    (∀ v d F' H', SR K c ps σ F' H' → Ex F F' → Rep K F' v d → Q d → QV v H') → r x y H QV
structure RU (r : V → Hp → VK → Prop) (rd : D → (D → Prop) → Prop) : Prop where
  run : ∀ (c : Fz) (ps : Pst) (σ : St) (F H : Hp) (x : V) (dx : D) (Q : D → Prop) (QV : VK), SR K c ps σ F H → Now K F H x dx → rd dx Q →
    (∀ v d F' H', SR K c ps σ F' H' → Ex F F' → Rep K F' v d → Q d → QV v H') → r x H QV
inductive NowL (F H : Hp) : List V → List D → Prop
  | nil : NowL F H [] []
  | cons {v : V} {d : D} {vs : List V} {ds : List D} : Now K F H v d → NowL F H vs ds → NowL F H (v :: vs) (d :: ds)
structure RC (r : List V → Hp → VK → Prop) (rd : List D → (D → Prop) → Prop) : Prop where
  run : ∀ (c : Fz) (ps : Pst) (σ : St) (F H : Hp) (xs : List V) (ds : List D) (Q : D → Prop) (QV : VK), SR K c ps σ F H → NowL K F H xs ds → rd ds Q →
    (∀ v d F' H', SR K c ps σ F' H' → Ex F F' → Rep K F' v d → Q d → QV v H') → r xs H QV
end
def dOp (rd : D → D → (D → Prop) → Prop) (ta tb : DTE) : DTE := fun ps Q => ta ps fun h1 ps1 => tb ps1 fun h2 ps2 => match look ps2 h1, look ps2 h2 with
  | some x, some y => rd x y fun d => Q (.p d) ps2
  | _, _ => False
theorem rv_op {r : R2} {rd : D → D → (D → Prop) → Prop} {ta tb : TE} {da db : DTE} (ho : RO K r rd) (ha : RV K ta da) (hb : RV K tb db) : RV K (tOp r ta tb) (dOp rd da db) := ⟨fun c ps σ F H Q QV s q k =>
  ha.run c ps σ F H _ _ s q fun x h1 ps1 F1 H1 s1 e1 r1 q => hb.run c ps1 σ F1 H1 _ _ s1 q fun y h2 ps2 F2 H2 s2 e2 r2 q => by
    cases w1 : look ps2 h1 with
    | none => simp only [w1] at q
    | some dx =>
      cases w2 : look ps2 h2 with
      | none => simp only [w1, w2] at q
      | some dy =>
        simp only [w1, w2] at q
        exact ho.run c ps2 σ F2 H2 x y dx dy _ QV s2 (s2.now (r1.mono e2) w1) (s2.now r2 w2) q fun v d F' H' s' e r q => k v (.p d) ps2 F' H' s' ((e1.trans e2).trans e) r q⟩
def dUn (rd : D → (D → Prop) → Prop) (ta : DTE) : DTE := fun ps Q => ta ps fun h1 ps1 => match look ps1 h1 with
  | some x => rd x fun d => Q (.p d) ps1
  | _ => False
theorem rv_un {r : V → Hp → VK → Prop} {rd : D → (D → Prop) → Prop} {ta : TE} {da : DTE} (ho : RU K r rd) (ha : RV K ta da) : RV K (tUn r ta) (dUn rd da) := ⟨fun c ps σ F H Q QV s q k =>
  ha.run c ps σ F H _ _ s q fun x h1 ps1 F1 H1 s1 e1 r1 q => by
    cases w1 : look ps1 h1 with
    | none => simp only [w1] at q
    | some dx =>
      simp only [w1] at q
      exact ho.run c ps1 σ F1 H1 x dx _ QV s1 (s1.now r1 w1) q fun v d F' H' s' e r q => k v (.p d) ps1 F' H' s' (e1.trans e) r q⟩

/-! arguments -/
def dNil : DTA := fun ps Q => Q [] ps
def dCons (ta : DTN) (tr : DTA) : DTA := fun ps Q => ta ps fun d ps1 => tr ps1 fun ds ps2 => Q (d :: ds) ps2
theorem ra_nil : RA K tNil dNil := ⟨fun c ps σ F H Q QV s q k => k [] [] ps F H s (Ex.refl F) .nil q⟩
theorem ra_cons {ta : TE} {tr : TA} {da : DTN} {dr : DTA} (ha : RE K ta da) (hr : RA K tr dr) : RA K (tCons ta tr) (dCons da dr) := ⟨fun c ps σ F H Q QV s q k =>
  ha.run c ps σ F H _ _ s q fun x d ps1 F1 H1 s1 e1 r1 q => hr.run c ps1 σ F1 H1 _ _ s1 q fun xs ds ps2 F2 H2 s2 e2 r2 q => k (x :: xs) (d :: ds) ps2 F2 H2 s2 (e1.trans e2) (.cons (r1.mono e2) r2) q⟩
def hNil : DTH := fun ps Q => Q [] ps
def hCons (ta : DTE) (tr : DTH) : DTH := fun ps Q => ta ps fun d ps1 => tr ps1 fun ds ps2 => Q (d :: ds) ps2
theorem rh_nil : RH K tNil hNil := ⟨fun c ps σ F H Q QV s q k => k [] [] ps F H s (Ex.refl F) .nil q⟩
theorem RepHL.mono (e : Ex F F') : ∀ {vs : List V} {hs : List Hd}, RepHL K σ F vs hs → RepHL K σ F' vs hs
  | _, _, .nil => .nil
  | _, _, .cons h r => .cons (h.mono e) (RepHL.mono e r)
theorem rh_cons {ta : TE} {tr : TA} {da : DTE} {dr : DTH} (ha : RV K ta da) (hr : RH K tr dr) : RH K (tCons ta tr) (hCons da dr) := ⟨fun c ps σ F H Q QV s q k =>
  ha.run c ps σ F H _ _ s q fun x d ps1 F1 H1 s1 e1 r1 q => hr.run c ps1 σ F1 H1 _ _ s1 q fun xs ds ps2 F2 H2 s2 e2 r2 q => k (x :: xs) (d :: ds) ps2 F2 H2 s2 (e1.trans e2) (.cons (r1.mono e2) r2) q⟩
def looks (ps : Pst) : List Hd → Option (List D)
  | [] => some []
  | h :: hs => match look ps h, looks ps hs with
    | some d, some ds => some (d :: ds)
    | _, _ => none
theorem SR.nows (s : SR K c ps σ F H) : ∀ {vs : List V} {hs : List Hd} {ds : List D}, RepHL K σ F vs hs → looks ps hs = some ds → NowL K F H vs ds
  | _, _, _, .nil, e => by cases e; exact .nil
  | _, _, _, .cons (h := h) (hs := hs) r rr, e => by
    unfold looks at e
    cases w1 : look ps h with
    | none => simp only [w1] at e; cases e
    | some d =>
      cases w2 : looks ps hs with
      | none => simp only [w1, w2] at e; cases e
      | some ds =>
        simp only [w1, w2] at e; cases e
        exact .cons (s.now r w1) (SR.nows s rr w2)
/-- a built-in's call -/
def dCB (rd : List D → (D → Prop) → Prop) (ta : DTH) : DTE := fun ps Q => ta ps fun hs ps1 => match looks ps1 hs with
  | some ds => rd ds fun d => Q (.p d) ps1
  | none => False
theorem rv_cb {r : List V → Hp → VK → Prop} {rd : List D → (D → Prop) → Prop} {ta : TA} {da : DTH} (ho : RC K r rd) (ha : RH K ta da) : RV K (tCB r ta) (dCB rd da) := ⟨fun c ps σ F H Q QV s q k =>
  ha.run c ps σ F H _ _ s q fun vs hs ps1 F1 H1 s1 e1 r1 q => by
    cases w1 : looks ps1 hs with
    | none => simp only [w1] at q
    | some ds =>
      simp only [w1] at q
      exact ho.run c ps1 σ F1 H1 vs ds _ QV s1 (s1.nows r1 w1) q fun v d F' H' s' e r q => k v (.p d) ps1 F' H' s' (e1.trans e) r q⟩
/-- displays -/
def dTup (ta : DTA) : DTN := fun ps Q => ta ps fun ds ps1 => ds.length ≤ sizeLine ∧ Q (.tup ds) ps1
theorem re_tup {ta : TA} {da : DTA} (ha : RA K ta da) : RE K (tTup ta) (dTup da) := ⟨fun c ps σ F H Q QV s q k =>
  ha.run c ps σ F H _ _ s q fun vs ds ps1 F1 H1 s1 e1 r1 q => ⟨by rw [r1.len]; exact q.1, fun p hp => k _ _ ps1 _ _ (s1.alloc hp) (e1.trans (Ex.new (s1.fh.fresh hp))) (.tup (.of upd_same) (r1.mono (Ex.new (s1.fh.fresh hp)))) q.2⟩⟩
def dLst (ta : DTA) : DTN := fun ps Q => ta ps fun ds ps1 => ds.length ≤ sizeLine ∧ Q (.lst ds) ps1
theorem rn_lst {ta : TA} {da : DTA} (ha : RA K ta da) : RN K (tLst ta) (dLst da) := ⟨fun c ps σ F H Q QV s q k =>
  ha.run c ps σ F H _ _ s q fun vs ds ps1 F1 H1 s1 e1 r1 q => ⟨by rw [r1.len]; exact q.1, fun p hp => k p _ ps1 F1 _ (s1.laid hp) e1 (.lst upd_same r1) (s1.fh.fresh hp) (s1.h0 hp) (s1.p0 hp) (s1.nw hp) q.2⟩⟩

/-! tests -/
def dTest (t : DTE) : DTT := fun ps Q => t ps fun h ps' => match look ps' h with
  | some (.bl b) => Q b ps'
  | _ => False
theorem rt_test {te : TE} {td : DTE} (h : RV K te td) : RT K (tTest te) (dTest td) := ⟨fun c ps σ F H Q QV s q k => h.run c ps σ F H _ _ s q fun v hd ps' F' H' s' e r q => by
  cases w : look ps' hd with
  | none => simp only [w] at q
  | some d =>
    simp only [w] at q
    have n := s'.now r w
    cases d with
    | bl b => exact ⟨b, n.bl, k b ps' F' H' s' e q⟩
    | _ => exact q.elim⟩
theorem rt_B {te : TE} {td : DTE} (h : RV K te td) : RT K (tB te) (dTest td) := rt_test h
/-- the truth of data -/
def truD : D → Option Bool
  | .non => some false
  | .bl b => some b
  | .int i => some (i != 0)
  | .str s => if s.length ≤ sizeLine then some ((s.length : Int) != 0) else none
  | .lst ds => some (!ds.isEmpty)
  | .tup ds => some (!ds.isEmpty)
  | _ => none
def tTru (K : PySem.W.Frag) (te : TE) : TT := fun σ H Q => te σ H fun x H' => ∃ k, TruV K x H' k ∧ Q k H'
def dTru (t : DTE) : DTT := fun ps Q => t ps fun h ps' => match look ps' h with
  | some d => match truD d with
    | some b => Q b ps'
    | none => False
  | none => False
theorem RepL.empty {xs : List V} {ds : List D} (r : RepL K F xs ds) : xs.isEmpty = ds.isEmpty := by cases r <;> rfl
theorem rt_tru {te : TE} {td : DTE} (h : RV K te td) : RT K (tTru K te) (dTru td) := ⟨fun c ps σ F H Q QV s q k => h.run c ps σ F H _ _ s q fun v hd ps' F' H' s' e r q => by
  cases w : look ps' hd with
  | none => simp only [w] at q
  | some d =>
    simp only [w] at q
    have n := s'.now r w
    cases d with
    | non => rw [n.non]; exact ⟨false, rfl, k _ ps' F' H' s' e q⟩
    | bl b => rw [n.bl]; exact ⟨b, rfl, k _ ps' F' H' s' e q⟩
    | int i => rw [n.int]; exact ⟨_, rfl, k _ ps' F' H' s' e q⟩
    | str x =>
      rw [n.str]
      dsimp only [truD] at q
      by_cases hx : x.length ≤ sizeLine
      · rw [if_pos hx] at q; exact ⟨_, ⟨hx, rfl⟩, k _ ps' F' H' s' e q⟩
      · rw [if_neg hx] at q; exact q.elim
    | lst ds =>
      obtain ⟨a, xs, rfl, h1, h2⟩ := n.lst s'.fh
      exact ⟨_, .inl ⟨xs, .of h1, rfl⟩, k _ ps' F' H' s' e (by rw [h2.empty]; exact q)⟩
    | tup ds =>
      obtain ⟨a, xs, rfl, h1, h2⟩ := n.tup s'.fh
      exact ⟨_, .inr (.inl ⟨xs, h1, rfl⟩), k _ ps' F' H' s' e (by rw [h2.empty]; exact q)⟩
    | frl ds => exact q.elim
    | dic ks ds => exact q.elim
    | ins C ks ds => exact q.elim
    | ref a => exact q.elim
    | ty n => exact q.elim⟩
def dAnd (t u : DTT) : DTT := fun ps Q => t ps fun b ps1 => if b = true then u ps1 Q else Q false ps1
def dOr (t u : DTT) : DTT := fun ps Q => t ps fun b ps1 => if b = true then Q true ps1 else u ps1 Q
def dNot (t : DTT) : DTT := fun ps Q => t ps fun b ps1 => Q (!b) ps1
theorem rt_and {t u : TT} {dt du : DTT} (h1 : RT K t dt) (h2 : RT K u du) : RT K (tAnd t u) (dAnd dt du) := ⟨fun c ps σ F H Q QV s q k => h1.run c ps σ F H _ _ s q fun b ps1 F1 H1 s1 e1 q => by
  cases b with
  | true => exact iteT (h2.run c ps1 σ F1 H1 _ _ s1 (by simpa using q) fun b ps2 F2 H2 s2 e2 q => k b ps2 F2 H2 s2 (e1.trans e2) q)
  | false => exact iteF (k false ps1 F1 H1 s1 e1 (by simpa using q))⟩
theorem rt_or {t u : TT} {dt du : DTT} (h1 : RT K t dt) (h2 : RT K u du) : RT K (tOr t u) (dOr dt du) := ⟨fun c ps σ F H Q QV s q k => h1.run c ps σ F H _ _ s q fun b ps1 F1 H1 s1 e1 q => by
  cases b with
  | false => exact iteF (h2.run c ps1 σ F1 H1 _ _ s1 (by simpa using q) fun b ps2 F2 H2 s2 e2 q => k b ps2 F2 H2 s2 (e1.trans e2) q)
  | true => exact iteT (k true ps1 F1 H1 s1 e1 (by simpa using q))⟩
theorem rt_not {t : TT} {dt : DTT} (h1 : RT K t dt) : RT K (tNot t) (dNot dt) := ⟨fun c ps σ F H Q QV s q k => h1.run c ps σ F H _ _ s q fun b ps1 F1 H1 s1 e1 q => k _ ps1 F1 H1 s1 e1 q⟩
/-- and, or, not as values; if .. else -/
def dAndV (t u : DTE) : DTE := fun ps Q => t ps fun h ps1 => match look ps1 h with
  | some (.bl b) => if b = true then u ps1 Q else Q (.p (.bl false)) ps1
  | _ => False
def dOrV (t u : DTE) : DTE := fun ps Q => t ps fun h ps1 => match look ps1 h with
  | some (.bl b) => if b = true then Q (.p (.bl true)) ps1 else u ps1 Q
  | _ => False
def dNotV (t : DTE) : DTE := fun ps Q => t ps fun h ps1 => match look ps1 h with
  | some (.bl b) => Q (.p (.bl (!b))) ps1
  | _ => False
theorem rv_andV {ta tb : TE} {da db : DTE} (ha : RV K ta da) (hb : RV K tb db) : RV K (tAndV ta tb) (dAndV da db) := ⟨fun c ps σ F H Q QV s q k => ha.run c ps σ F H _ _ s q fun v hd ps1 F1 H1 s1 e1 r q => by
  cases w : look ps1 hd with
  | none => simp only [w] at q
  | some d =>
    simp only [w] at q
    have n := s1.now r w
    cases d with
    | bl b =>
      refine ⟨b, n.bl, ?_⟩
      cases b with
      | true => exact iteT (hb.run c ps1 σ F1 H1 _ _ s1 (by simpa using q) fun v h ps2 F2 H2 s2 e2 r2 q => k v h ps2 F2 H2 s2 (e1.trans e2) r2 q)
      | false => exact iteF (k _ (.p (.bl false)) ps1 F1 H1 s1 e1 (Rep.bl false) (by simpa using q))
    | _ => exact q.elim⟩
theorem rv_orV {ta tb : TE} {da db : DTE} (ha : RV K ta da) (hb : RV K tb db) : RV K (tOrV ta tb) (dOrV da db) := ⟨fun c ps σ F H Q QV s q k => ha.run c ps σ F H _ _ s q fun v hd ps1 F1 H1 s1 e1 r q => by
  cases w : look ps1 hd with
  | none => simp only [w] at q
  | some d =>
    simp only [w] at q
    have n := s1.now r w
    cases d with
    | bl b =>
      refine ⟨b, n.bl, ?_⟩
      cases b with
      | false => exact iteF (hb.run c ps1 σ F1 H1 _ _ s1 (by simpa using q) fun v h ps2 F2 H2 s2 e2 r2 q => k v h ps2 F2 H2 s2 (e1.trans e2) r2 q)
      | true => exact iteT (k _ (.p (.bl true)) ps1 F1 H1 s1 e1 (Rep.bl true) (by simpa using q))
    | _ => exact q.elim⟩
theorem rv_notV {ta : TE} {da : DTE} (ha : RV K ta da) : RV K (tNotV ta) (dNotV da) := ⟨fun c ps σ F H Q QV s q k => ha.run c ps σ F H _ _ s q fun v hd ps1 F1 H1 s1 e1 r q => by
  cases w : look ps1 hd with
  | none => simp only [w] at q
  | some d =>
    simp only [w] at q
    have n := s1.now r w
    cases d with
    | bl b => exact ⟨b, n.bl, k _ (.p (.bl (!b))) ps1 F1 H1 s1 e1 (Rep.bl (!b)) q⟩
    | _ => exact q.elim⟩
def dIf (t : DTT) (ta tb : DTE) : DTE := fun ps Q => t ps fun b ps1 => if b = true then ta ps1 Q else tb ps1 Q
theorem rv_if {t : TT} {dt : DTT} {ta tb : TE} {da db : DTE} (h : RT K t dt) (ha : RV K ta da) (hb : RV K tb db) : RV K (tIf t ta tb) (dIf dt da db) := ⟨fun c ps σ F H Q QV s q k => h.run c ps σ F H _ _ s q fun b ps1 F1 H1 s1 e1 q => by
  cases b with
  | true => exact iteT (ha.run c ps1 σ F1 H1 _ _ s1 (by simpa using q) fun v h ps2 F2 H2 s2 e2 r2 q => k v h ps2 F2 H2 s2 (e1.trans e2) r2 q)
  | false => exact iteF (hb.run c ps1 σ F1 H1 _ _ s1 (by simpa using q) fun v h ps2 F2 H2 s2 e2 r2 q => k v h ps2 F2 H2 s2 (e1.trans e2) r2 q)⟩
end
end Z

set_option Elab.async false
set_option linter.all false
set_option maxRecDepth 100000
set_option maxHeartbeats 4000000
namespace Z
open PySem L2

/-! ### 4. arguments of which some are new objects -/
section
variable (K : PySem.W.Frag)
inductive Mix (c : Fz) (ps : Pst) (σ : St) (F H : Hp) : List Addr → List V → List Sl → Prop
  | nil : Mix c ps σ F H [] [] []
  | pu {v : V} {d : D} {as : List Addr} {vs : List V} {ss : List Sl} : Rep K F v d → Mix c ps σ F H as vs ss → Mix c ps σ F H as (v :: vs) (.pu d :: ss)
  | ow {l : Addr} {d : D} {as : List Addr} {vs : List V} {ss : List Sl} : Own K F H l d → F l = none → c.H0 l = none → c.P l = none → l ∉ as →
      (∀ (j : Nat) (s' : Sl) (dj : D), ps[j]? = some s' → s'.ownd = some dj → σ[j]? ≠ some (some (.ref l))) → Mix c ps σ F H as vs ss → Mix c ps σ F H (l :: as) (.ref l :: vs) (.ow d :: ss)
structure RM (ta : TA) (td : Pst → (List Sl → Pst → Prop) → Prop) : Prop where
  run : ∀ (c : Fz) (ps : Pst) (σ : St) (F H : Hp) (Q : List Sl → Pst → Prop) (QV : List V → Hp → Prop), SR K c ps σ F H → td ps Q →
    (∀ vs as ss ps' F' H', SR K c ps' σ F' H' → Ex F F' → Mix K c ps' σ F' H' as vs ss → Q ss ps' → QV vs H') → ta σ H QV
end
section
variable {K : PySem.W.Frag} {c : Fz} {ps : Pst} {σ : St} {F F' H : Hp}
abbrev DTM := Pst → (List Sl → Pst → Prop) → Prop
def mNil : DTM := fun ps Q => Q [] ps
def mPu (ta : DTN) (tr : DTM) : DTM := fun ps Q => ta ps fun d ps1 => tr ps1 fun ss ps2 => Q (.pu d :: ss) ps2
def mOw (ta : DTN) (tr : DTM) : DTM := fun ps Q => ta ps fun d ps1 => tr ps1 fun ss ps2 => Q (.ow d :: ss) ps2
theorem rm_nil : RM K tNil mNil := ⟨fun c ps σ F H Q QV s q k => k [] [] [] ps F H s (Ex.refl F) .nil q⟩
theorem rm_pu {ta : TE} {tr : TA} {da : DTN} {dr : DTM} (ha : RE K ta da) (hr : RM K tr dr) : RM K (tCons ta tr) (mPu da dr) := ⟨fun c ps σ F H Q QV s q k =>
  ha.run c ps σ F H _ _ s q fun x d ps1 F1 H1 s1 e1 r1 q => hr.run c ps1 σ F1 H1 _ _ s1 q fun xs as ss ps2 F2 H2 s2 e2 r2 q => k (x :: xs) as (.pu d :: ss) ps2 F2 H2 s2 (e1.trans e2) (.pu (r1.mono e2) r2) q⟩
/-- an object under protection -/
theorem SR.protect (s : SR K c ps σ F H) {l : Addr} {o : HO} (hl : H l = some o) (fl : F l = none)
    (nw : ∀ (j : Nat) (s' : Sl) (dj : D), ps[j]? = some s' → s'.ownd = some dj → σ[j]? ≠ some (some (.ref l))) : SR K { c with P := upd c.P l o } ps σ F H := by
  refine ⟨s.g, s.fh, s.len, s.pu, fun i s' d e n => ?_, s.ds, fun a u q => ?_⟩
  · obtain ⟨m, h1, h2, h3, h4⟩ := s.on i s' d e n
    exact ⟨m, h1, h2, h3, by cases s' <;> exact h4⟩
  · by_cases z : a = l
    · subst z
      have q : upd c.P a o a = some u := q
      rw [upd_same] at q; cases q
      exact ⟨hl, fl, nw⟩
    · have q : upd c.P l o a = some u := q
      rw [upd_ne z] at q
      exact s.pr a u q
theorem SR.unprotect {P : Hp} (s : SR K { c with P := P } ps σ F H) {P' : Hp} (h : ∀ a o, P' a = some o → P a = some o) : SR K { c with P := P' } ps σ F H :=
  ⟨s.g, s.fh, s.len, s.pu, fun i s' d e n => by
    obtain ⟨m, h1, h2, h3, h4⟩ := s.on i s' d e n
    exact ⟨m, h1, h2, h3, by cases s' <;> exact h4⟩, s.ds, fun a u q => s.pr a u (h a u q)⟩
theorem Mix.unprotect {l : Addr} {o : HO} {as : List Addr} {vs : List V} {ss : List Sl} (lp : c.P l = none) (m : Mix K { c with P := upd c.P l o } ps σ F H as vs ss) : Mix K c ps σ F H as vs ss ∧ l ∉ as := by
  induction m with
  | nil => exact ⟨.nil, by simp⟩
  | pu r _ ih => exact ⟨.pu r ih.1, ih.2⟩
  | @ow l' d as vs ss h f h0 p n w _ ih =>
    have p' : upd c.P l o l' = none := p
    have ne : l' ≠ l := fun z => by rw [z, upd_same] at p'; cases p'
    rw [upd_ne ne] at p'
    refine ⟨.ow h f h0 p' n w ih.1, ?_⟩
    intro hm
    rcases List.mem_cons.mp hm with z | z
    · exact ne z.symm
    · exact ih.2 z
theorem rm_ow {ta : TE} {tr : TA} {da : DTN} {dr : DTM} (ha : RN K ta da) (hr : RM K tr dr) : RM K (tCons ta tr) (mOw da dr) := ⟨fun c ps σ F H Q QV s q k =>
  ha.run c ps σ F H _ _ s q fun l d ps1 F1 H1 s1 e1 o1 f1 h1 p1 nw q => by
    obtain ⟨u, hu⟩ := o1.tracked
    refine hr.run { c with P := upd c.P l u } ps1 σ F1 H1 _ _ (s1.protect hu f1 nw) q fun xs as ss ps2 F2 H2 s2 e2 r2 q => ?_
    obtain ⟨g1, g2, g3⟩ := s2.pr l u upd_same
    obtain ⟨m, nl⟩ := r2.unprotect p1
    have s3 : SR K { c with P := c.P } ps2 σ F2 H2 := s2.unprotect (P' := c.P) fun a o h => by
      by_cases z : a = l
      · rw [z, p1] at h; cases h
      · show upd c.P l u a = some o
        rw [upd_ne z]; exact h
    exact k (.ref l :: xs) (l :: as) (.ow d :: ss) ps2 F2 H2 s3 (e1.trans e2) (.ow (o1.ff e2 fun w q => by rw [hu] at q; cases q; exact g1) g2 h1 p1 nl g3 m) q⟩

/-! ### 5. targets -/
section
variable (K : PySem.W.Frag)
abbrev DTG := D → Pst → (Pst → Prop) → Prop
abbrev DTGs := List D → Pst → (Pst → Prop) → Prop
/-- the slots at js alone are stored -/
def Off (js : List Nat) (σ σ' : St) : Prop := σ'.length = σ.length ∧ ∀ j, j ∉ js → σ'[j]? = σ[j]?
structure RG (js : List Nat) (g : TG) (gd : DTG) : Prop where
  run : ∀ (c : Fz) (v : V) (d : D) (ps : Pst) (σ : St) (F H : Hp) (Q : Pst → Prop) (QV : St → Hp → Prop), SR K c ps σ F H → Rep K F v d → gd d ps Q →
    (∀ ps' σ' F' H', SR K c ps' σ' F' H' → Ex F F' → Off js σ σ' → Q ps' → QV σ' H') → g v σ H QV
structure RGs (js : List Nat) (g : TGs) (gd : DTGs) : Prop where
  run : ∀ (c : Fz) (vs : List V) (ds : List D) (ps : Pst) (σ : St) (F H : Hp) (Q : Pst → Prop) (QV : St → Hp → Prop), SR K c ps σ F H → RepL K F vs ds → gd ds ps Q →
    (∀ ps' σ' F' H', SR K c ps' σ' F' H' → Ex F F' → Off js σ σ' → Q ps' → QV σ' H') → g vs σ H QV
end
theorem Off.refl {js : List Nat} {σ : St} : Off js σ σ := ⟨rfl, fun _ _ => rfl⟩
theorem Off.trans {js ks : List Nat} {σ σ' σ2 : St} (a : Off js σ σ') (b : Off ks σ' σ2) : Off (js ++ ks) σ σ2 :=
  ⟨b.1.trans a.1, fun j n => (b.2 j fun z => n (List.mem_append_right _ z)).trans (a.2 j fun z => n (List.mem_append_left _ z))⟩
theorem Off.set {σ : St} {i : Nat} {x : Option V} : Off [i] σ (σ.set i x) := ⟨List.length_set, fun j n => by rw [List.getElem?_set_ne]; simpa using fun z => n (by simp [z])⟩
def gdName (i : Nat) : DTG := fun d ps Q => Q (ps.set i (.pu d))
theorem rg_name (i : Nat) : RG K [i] (gName i) (gdName i) := ⟨fun c v d ps σ F H Q QV s r q k => k _ _ F H (s.set r) (Ex.refl F) Off.set q⟩
def gdNil : DTGs := fun ds ps Q => ds = [] ∧ Q ps
def gdCons (g : DTG) (gs : DTGs) : DTGs := fun ds ps Q => match ds with
  | d :: r => g d ps fun ps1 => gs r ps1 Q
  | [] => False
theorem rgs_nil : RGs K [] gNil gdNil := ⟨fun c vs ds ps σ F H Q QV s r q k => by
  obtain ⟨rfl, q⟩ := q
  cases r
  exact ⟨rfl, k _ _ F H s (Ex.refl F) Off.refl q⟩⟩
theorem rgs_cons {js ks : List Nat} {g : TG} {gs : TGs} {gd : DTG} {gds : DTGs} (h1 : RG K js g gd) (h2 : RGs K ks gs gds) : RGs K (js ++ ks) (gCons g gs) (gdCons gd gds) := ⟨fun c vs ds ps σ F H Q QV s r q k => by
  cases r with
  | nil => exact q.elim
  | cons r1 r2 => exact ⟨_, _, rfl, h1.run c _ _ ps σ F H _ _ s r1 q fun ps1 σ1 F1 H1 s1 e1 o1 q => h2.run c _ _ ps1 σ1 F1 H1 _ _ s1 (r2.mono e1) q fun ps2 σ2 F2 H2 s2 e2 o2 q => k ps2 σ2 F2 H2 s2 (e1.trans e2) (o1.trans o2) q⟩⟩
/-- a tuple or a list of that length -/
def gSeq (K : PySem.W.Frag) (n : Nat) (t : TGs) : TG := fun v σ H Q => gTup K n t v σ H Q ∨ gLst K n t v σ H Q
def gdSeq (n : Nat) (t : DTGs) : DTG := fun d ps Q => match d with
  | .tup ds => ds.length = n ∧ t ds ps Q
  | .lst ds => ds.length = n ∧ t ds ps Q
  | _ => False
theorem rg_seq {js : List Nat} {n : Nat} {t : TGs} {td : DTGs} (h : RGs K js t td) : RG K js (gSeq K n t) (gdSeq n td) := ⟨fun c v d ps σ F H Q QV s r q k => by
  cases r with
  | tup hq rr => exact .inl ⟨_, _, rfl, ex_t s.fh hq.sq, rr.len.trans q.1, h.run c _ _ ps σ F H _ _ s rr q.2 k⟩
  | lst hq rr => exact .inr ⟨_, _, rfl, .of (s.fh _ _ hq), rr.len.trans q.1, h.run c _ _ ps σ F H _ _ s rr q.2 k⟩
  | _ => exact q.elim⟩
theorem rg_tup {js : List Nat} {n : Nat} {t : TGs} {td : DTGs} (h : RGs K js t td) : RG K js (gTup K n t) (fun d ps Q => match d with | .tup ds => ds.length = n ∧ td ds ps Q | _ => False) := ⟨fun c v d ps σ F H Q QV s r q k => by
  cases r with
  | tup hq rr => exact ⟨_, _, rfl, ex_t s.fh hq.sq, rr.len.trans q.1, h.run c _ _ ps σ F H _ _ s rr q.2 k⟩
  | _ => exact q.elim⟩

/-! ### 6. statements -/
structure DEnds where
  nx : Pst → Prop
  rt : D → Pst → Prop
  bk : Pst → Prop := fun _ => False
  ct : Pst → Prop := fun _ => False
abbrev DTS := DEnds → Pst → Prop
section
variable (K : PySem.W.Frag)
/-- md: the answer is a new object, not yet data -/
structure LF (c : Fz) (md : Bool) (Dd : DEnds) (E : Ends) : Prop where
  nx : ∀ ps σ F H, SR K c ps σ F H → Dd.nx ps → E.nx σ H
  bk : ∀ ps σ F H, SR K c ps σ F H → Dd.bk ps → E.bk σ H
  ct : ∀ ps σ F H, SR K c ps σ F H → Dd.ct ps → E.ct σ H
  rt : md = false → ∀ v d ps σ F H, SR K c ps σ F H → Rep K F v d → Dd.rt d ps → E.rt v H
  rn : md = true → ∀ l d ps σ F H, SR K c ps σ F H → Own K F H l d → F l = none → c.H0 l = none →
    (∀ (j : Nat) (s' : Sl) (dj : D), ps[j]? = some s' → s'.ownd = some dj → σ[j]? ≠ some (some (.ref l))) → Dd.rt d ps → E.rt (.ref l) H
structure RS (md : Bool) (ts : TS) (td : DTS) : Prop where
  run : ∀ (c : Fz) (ps : Pst) (σ : St) (F H : Hp) (Dd : DEnds) (E : Ends), SR K c ps σ F H → td Dd ps → LF K c md Dd E → ts E σ H
end
variable {md : Bool} {ts tu : TS} {ds du : DTS}
def dNext : DTS := fun Dd ps => Dd.nx ps
theorem rs_next : RS K md tNext dNext := ⟨fun c ps σ F H Dd E s q l => l.nx ps σ F H s q⟩
def dSeq (t u : DTS) : DTS := fun Dd ps => t { Dd with nx := u Dd } ps
theorem rs_seq (h1 : RS K md ts ds) (h2 : RS K md tu du) : RS K md (tSeq ts tu) (dSeq ds du) := ⟨fun c ps σ F H Dd E s q l =>
  h1.run c ps σ F H _ _ s q ⟨fun ps' σ' F' H' s' q' => h2.run c ps' σ' F' H' Dd E s' q' l, l.bk, l.ct, l.rt, l.rn⟩⟩
def dBreak : DTS := fun Dd ps => Dd.bk ps
def dCont : DTS := fun Dd ps => Dd.ct ps
theorem rs_break : RS K md tBreak dBreak := ⟨fun c ps σ F H Dd E s q l => l.bk ps σ F H s q⟩
theorem rs_cont : RS K md tCont dCont := ⟨fun c ps σ F H Dd E s q l => l.ct ps σ F H s q⟩
def dNever : DTS := fun _ _ => False
theorem rs_never : RS K md tNever dNever := ⟨fun c ps σ F H Dd E s q l => q.elim⟩
theorem rs_neverA {t : TS} : RS K md t dNever := ⟨fun c ps σ F H Dd E s q l => q.elim⟩
def dDrop (t : DTE) : DTS := fun Dd ps => t ps fun _ ps' => Dd.nx ps'
theorem rs_drop {te : TE} {de : DTE} (h : RV K te de) : RS K md (tDrop te) (dDrop de) := ⟨fun c ps σ F H Dd E s q l => h.run c ps σ F H _ _ s q fun v hd ps' F' H' s' e r q => l.nx ps' σ F' H' s' q⟩
def dRet (t : DTN) : DTS := fun Dd ps => t ps Dd.rt
theorem rs_ret {te : TE} {de : DTN} (h : RE K te de) : RS K false (tRet te) (dRet de) := ⟨fun c ps σ F H Dd E s q l => h.run c ps σ F H _ _ s q fun v d ps' F' H' s' e r q => l.rt rfl v d ps' σ F' H' s' r q⟩
theorem rs_retNew {te : TE} {de : DTN} (h : RN K te de) : RS K true (tRet te) (dRet de) := ⟨fun c ps σ F H Dd E s q l => h.run c ps σ F H _ _ s q fun v d ps' F' H' s' e o f0 h0 p0 nw q => l.rn rfl v d ps' σ F' H' s' o f0 h0 nw q⟩
def dRetN : DTS := fun Dd ps => Dd.rt .non ps
theorem rs_retN : RS K false tRetN dRetN := ⟨fun c ps σ F H Dd E s q l => l.rt rfl .non .non ps σ F H s .non q⟩
/-- an owned local is handed back as it is -/
def dRetV (i : Nat) : DTS := fun Dd ps => match ps[i]? with
  | some (.ow d) => Dd.rt d (ps.set i .un)
  | _ => False
theorem rs_retV (i : Nat) : RS K true (tRet (tVar i)) (dRetV i) := ⟨fun c ps σ F H Dd E s q l => by
  unfold dRetV at q
  cases w : ps[i]? with
  | none => simp only [w] at q
  | some t =>
    simp only [w] at q
    cases t with
    | ow d =>
      obtain ⟨a, h1, h2, h3, h4⟩ := s.on i _ d w rfl
      refine ⟨_, h1, l.rn rfl a d _ σ F H (s.drop i) h2 h3 h4 (fun j s' dj q n z => ?_) q⟩
      by_cases y : i = j
      · subst y; rw [(getE_set_self q).2] at n; cases n
      · rw [List.getElem?_set_ne y] at q
        exact s.ds i j _ s' d dj a y w q rfl n h1 z
    | _ => exact q.elim⟩
def dIfS (t : DTT) (a b : DTS) : DTS := fun Dd ps => t ps fun k ps1 => if k = true then a Dd ps1 else b Dd ps1
theorem rs_if {tt : TT} {dt : DTT} (h : RT K tt dt) (h1 : RS K md ts ds) (h2 : RS K md tu du) : RS K md (tIfS tt ts tu) (dIfS dt ds du) := ⟨fun c ps σ F H Dd E s q l => h.run c ps σ F H _ _ s q fun b ps1 F1 H1 s1 e1 q => by
  cases b with
  | true => exact iteT (h1.run c ps1 σ F1 H1 Dd E s1 (by simpa using q) l)
  | false => exact iteF (h2.run c ps1 σ F1 H1 Dd E s1 (by simpa using q) l)⟩
/-- target = value -/
def dAsg (t : DTN) (g : DTG) : DTS := fun Dd ps => t ps fun d ps1 => g d ps1 Dd.nx
theorem rs_asg {js : List Nat} {te : TE} {de : DTN} {g : TG} {gd : DTG} (h : RE K te de) (hg : RG K js g gd) : RS K md (tAsg te g) (dAsg de gd) := ⟨fun c ps σ F H Dd E s q l =>
  h.run c ps σ F H _ _ s q fun v d ps1 F1 H1 s1 e1 r q => hg.run c v d ps1 σ F1 H1 _ _ s1 r q fun ps2 σ2 F2 H2 s2 e2 o q => l.nx ps2 σ2 F2 H2 s2 q⟩
/-- name = a new object -/
def dAsgN (t : DTN) (i : Nat) : DTS := fun Dd ps => t ps fun d ps1 => Dd.nx (ps1.set i (.ow d))
theorem rs_asgN {te : TE} {de : DTN} (i : Nat) (h : RN K te de) : RS K md (tAsg te (gName i)) (dAsgN de i) := ⟨fun c ps σ F H Dd E s q l =>
  h.run c ps σ F H _ _ s q fun a d ps1 F1 H1 s1 e1 o f0 h0 p0 nw q => l.nx _ _ F1 H1 (s1.setO (t := .ow d) rfl o f0 h0 p0 fun j s' dj q n _ => nw j s' dj q n) q⟩
/-- a, b = x, y -/
theorem SR.setM {t : Sl} {v : V} {as : List Addr} {vs : List V} {ss : List Sl} (s : SR K c ps σ F H) (m : Mix K c ps σ F H as (v :: vs) (t :: ss)) (i : Nat) :
    ∃ bs, SR K c (ps.set i t) (σ.set i (some v)) F H ∧ Mix K c (ps.set i t) (σ.set i (some v)) F H bs vs ss := by
  have step : (∀ k d, t ≠ .io k d) → ∀ {as : List Addr} {vs : List V} {ss : List Sl}, Mix K c ps σ F H as vs ss → (∀ l d, t = .ow d → v = .ref l → l ∉ as) → Mix K c (ps.set i t) (σ.set i (some v)) F H as vs ss := by
    intro nio as vs ss m
    induction m with
    | nil => intro _; exact .nil
    | pu r _ ih => intro h; exact .pu r (ih h)
    | @ow l' d' as vs ss o f h0 p n w _ ih =>
      intro h
      refine .ow o f h0 p n (fun j s' dj q o' z => ?_) (ih fun l d e1 e2 hm => h l d e1 e2 (List.mem_cons_of_mem _ hm))
      by_cases y : i = j
      · subst y
        obtain ⟨hl, e⟩ := getE_set_self q
        have hz := getE_set_self z
        have ev : v = .ref l' := (Option.some.inj hz.2).symm
        rw [e] at o'
        revert o' h nio
        cases t with
        | un => intro _ _ o'; cases o'
        | pu _ => intro _ _ o'; cases o'
        | ow d => intro _ h _; exact h l' d rfl ev List.mem_cons_self
        | io k d => intro nio _ _; exact nio k d rfl
      · rw [List.getElem?_set_ne y] at q z
        exact w j s' dj q o' z
  cases m with
  | pu r m => exact ⟨as, s.set r, step (fun _ _ z => by cases z) m fun l d e _ => by cases e⟩
  | ow o f h0 p n w m => exact ⟨_, s.setO (t := .ow _) rfl o f h0 p fun j s' dj q n _ => w j s' dj q n, step (fun _ _ z => by cases z) m fun l d _ e2 => by cases e2; exact n⟩
def dPar (i j : Nat) (t : DTM) : DTS := fun Dd ps => t ps fun ss ps1 => match ss with
  | [a, b] => Dd.nx ((ps1.set i a).set j b)
  | _ => False
theorem rs_par {ta : TA} {da : DTM} (i j : Nat) (h : RM K ta da) : RS K md (tPar i j ta) (dPar i j da) := ⟨fun c ps σ F H Dd E s q l =>
  h.run c ps σ F H _ _ s q fun vs as ss ps1 F1 H1 s1 e1 m q => by
    match ss, m, q with
    | [a, b], m, q =>
      match vs, m with
      | [v, w], m =>
        obtain ⟨bs, s2, m2⟩ := s1.setM m i
        obtain ⟨cs, s3, _⟩ := s2.setM m2 j
        exact ⟨v, w, rfl, l.nx _ _ F1 H1 s3 q⟩
      | [], m => cases m
      | [_], m => cases m with
        | pu _ m => cases m
        | ow _ _ _ _ _ _ m => cases m
      | _ :: _ :: _ :: _, m => cases m with
        | pu _ m => cases m with
          | pu _ m => cases m
          | ow _ _ _ _ _ _ m => cases m
        | ow _ _ _ _ _ _ m => cases m with
          | pu _ m => cases m
          | ow _ _ _ _ _ _ m => cases m⟩
def dPar3 (i j l : Nat) (t : DTM) : DTS := fun Dd ps => t ps fun ss ps1 => match ss with
  | [a, b, e] => Dd.nx (((ps1.set i a).set j b).set l e)
  | _ => False
theorem Mix.len {as : List Addr} {vs : List V} {ss : List Sl} (m : Mix K c ps σ F H as vs ss) : vs.length = ss.length := by
  induction m with
  | nil => rfl
  | pu _ _ ih => rw [List.length_cons, List.length_cons, ih]
  | ow _ _ _ _ _ _ _ ih => rw [List.length_cons, List.length_cons, ih]
theorem rs_par3 {ta : TA} {da : DTM} (i j k : Nat) (h : RM K ta da) : RS K md (tPar3 i j k ta) (dPar3 i j k da) := ⟨fun c ps σ F H Dd E s q l =>
  h.run c ps σ F H _ _ s q fun vs as ss ps1 F1 H1 s1 e1 m q => by
    match ss, m, q with
    | [a, b, e], m, q =>
      have hl := m.len
      match vs, m, hl with
      | [v, w, u], m, _ =>
        obtain ⟨bs, s2, m2⟩ := s1.setM m i
        obtain ⟨cs, s3, m3⟩ := s2.setM m2 j
        obtain ⟨es, s4, _⟩ := s3.setM m3 k
        exact ⟨v, w, u, rfl, l.nx _ _ F1 H1 s4 q⟩⟩
/-- (a, b, ..) = (x, y, ..) through a tuple, the targets names -/
def gNames : List Nat → TGs
  | [] => gNil
  | i :: r => gCons (gName i) (gNames r)
def setAll : List Nat → List Sl → Pst → Pst
  | i :: r, s :: ss, ps => setAll r ss (ps.set i s)
  | _, _, ps => ps
theorem run_names {Dd : DEnds} {E : Ends} (l : LF K c md Dd E) : ∀ (is : List Nat) {as : List Addr} {vs : List V} {ss : List Sl} {ps : Pst} {σ : St}, SR K c ps σ F H → Mix K c ps σ F H as vs ss → is.length = ss.length → Dd.nx (setAll is ss ps) →
    gNames is vs σ H E.nx
  | [], _, _, _, _, _, s, m, hl, q => by
    cases m with
    | nil => exact ⟨rfl, l.nx _ _ F H s q⟩
    | pu _ _ => cases hl
    | ow _ _ _ _ _ _ _ => cases hl
  | i :: r, as, vs, ss, ps, σ, s, m, hl, q => by
    cases ss with
    | nil => cases hl
    | cons t ss =>
      cases vs with
      | nil => cases m
      | cons v vs =>
        obtain ⟨bs, s2, m2⟩ := s.setM m i
        exact ⟨v, vs, rfl, run_names l r s2 m2 (Nat.succ.inj hl) q⟩
theorem Mix.push {as : List Addr} {vs : List V} {ss : List Sl} (m : Mix K c ps σ F H as vs ss) {p : Addr} {o : HO} (hp : H p = none) : Mix K c ps σ F (upd H p o) as vs ss := by
  induction m with
  | nil => exact .nil
  | pu r _ ih => exact .pu r ih
  | ow o f h0 p n w _ ih => exact .ow (o.ff (Ex.refl F) fun u q => by rw [upd_ne (ne_of_none q hp)]; exact q) f h0 p n w ih
def dParT (is : List Nat) (t : DTM) : DTS := fun Dd ps => t ps fun ss ps1 => is.length = ss.length ∧ ss.length ≤ sizeLine ∧ Dd.nx (setAll is ss ps1)
theorem rs_parT {ta : TA} {da : DTM} (is : List Nat) (n : Nat) (hn : is.length = n) (h : RM K ta da) : RS K md (tAsg (tTup ta) (gTup K n (gNames is))) (dParT is da) := ⟨fun c ps σ F H Dd E s q l =>
  h.run c ps σ F H _ _ s q fun vs as ss ps1 F1 H1 s1 e1 m q =>
    ⟨by rw [m.len]; exact q.2.1, fun p hp => ⟨p, vs, rfl, .of upd_same, by rw [m.len, ← q.1, hn], run_names l is (s1.laid hp) (m.push hp) q.1 q.2.2⟩⟩⟩
end
end Z

set_option Elab.async false
set_option linter.all false
set_option maxRecDepth 100000
set_option maxHeartbeats 4000000
namespace Z
open PySem L2

/-! ### 7. what a loop walks -/
section
variable (K : PySem.W.Frag)
structure WI (c : Fz) (J : It) (ds : List D) (F0 : Hp) : Prop where
  stop : ∀ P ps σ F H, Ex F0 F → SR K { c with P := P } ps σ F H → J.stop ds.length H
  item : ∀ P ps σ F H (i : Nat) d, Ex F0 F → SR K { c with P := P } ps σ F H → ds[i]? = some d → J.go i H ∧ ∀ x H', J.yld i H x H' → ∃ F', SR K { c with P := P } ps σ F' H' ∧ Ex F F' ∧ Rep K F' x d
abbrev DTI := Pst → (List D → Pst → Prop) → Prop
structure RI (wi : TI) (td : DTI) : Prop where
  run : ∀ (c : Fz) (ps : Pst) (σ : St) (F H : Hp) (Q : List D → Pst → Prop) (R : It → Hp → Prop), SR K c ps σ F H → td ps Q →
    (∀ J ds ps' F' H', SR K c ps' σ F' H' → Ex F F' → WI K c J ds F' → Q ds ps' → R J H') → wi σ H R
end
section
variable {K : PySem.W.Frag} {c : Fz} {ps : Pst} {σ : St} {F F' H : Hp} {md : Bool}
theorem wi_list {a : Addr} {xs : List V} {ds : List D} (h : SqL K F a xs) (r : RepL K F xs ds) : WI K c (Itl K a) ds F := by
  refine ⟨fun P ps σ F1 H e s => ⟨xs, ex_l (e.trans s.fh) h, by rw [r.len]; exact Nat.le_refl _⟩, fun P ps σ F1 H i d e s hd => ?_⟩
  obtain ⟨v, h1, h2⟩ := r.get hd
  have hq := ex_l (e.trans s.fh) h
  refine ⟨⟨xs, v, hq, h1⟩, fun x H' ⟨eH, y⟩ => ?_⟩
  subst eH
  have e2 := y xs hq
  rw [h1] at e2; cases e2
  exact ⟨F1, s, Ex.refl _, h2.mono e⟩
theorem wi_tup {a : Addr} {xs : List V} {ds : List D} (h : SqT K F a xs) (r : RepL K F xs ds) : WI K c (Itt K a) ds F := by
  refine ⟨fun P ps σ F1 H e s => ⟨xs, ex_t (e.trans s.fh) h, by rw [r.len]; exact Nat.le_refl _⟩, fun P ps σ F1 H i d e s hd => ?_⟩
  obtain ⟨v, h1, h2⟩ := r.get hd
  have hq := ex_t (e.trans s.fh) h
  refine ⟨⟨xs, v, hq, h1⟩, fun x H' ⟨eH, y⟩ => ?_⟩
  subst eH
  have e2 := y xs hq
  rw [h1] at e2; cases e2
  exact ⟨F1, s, Ex.refl _, h2.mono e⟩
def signs (x : Str) : List D := x.cps.toList.map fun n => D.str ⟨#[n]⟩
theorem wi_str (x : Str) : WI K c (Its x) (signs x) F := by
  refine ⟨fun P ps σ F1 H e s => by show x.cps.size ≤ _; simp [signs], fun P ps σ F1 H i d e s hd => ?_⟩
  have hi : i < x.cps.size := by
    have := (List.getElem?_eq_some_iff.mp hd).1
    simpa [signs] using this
  refine ⟨hi, fun v H' ⟨eH, ch, y, ev⟩ => ?_⟩
  subst eH ev
  have e2 : d = D.str ⟨#[ch]⟩ := by
    unfold signs at hd
    rw [List.getElem?_map, Array.getElem?_toList, y] at hd
    exact (Option.some.inj hd).symm
  subst e2
  exact ⟨F1, s, Ex.refl _, .str _⟩
def rangeD (lo : Int) (n : Nat) : List D := (List.range n).map fun i => D.int (lo + (i : Nat))
theorem wi_range (lo : Int) (n : Nat) : WI K c (Itr lo n) (rangeD lo n) F := by
  refine ⟨fun P ps σ F1 H e s => by show n ≤ _; simp [rangeD], fun P ps σ F1 H i d e s hd => ?_⟩
  have hi : i < n := by
    have := (List.getElem?_eq_some_iff.mp hd).1
    simpa [rangeD] using this
  refine ⟨hi, fun v H' ⟨eH, ev⟩ => ?_⟩
  subst eH ev
  have e2 : d = D.int (lo + (i : Nat)) := by
    unfold rangeD at hd
    rw [List.getElem?_map, List.getElem?_range hi] at hd
    exact (Option.some.inj hd).symm
  subst e2
  exact ⟨F1, s, Ex.refl _, .int _⟩
def rangeC (lo st : Int) (n : Nat) : List D := (List.range n).map fun i => D.int (lo + (i : Nat) * st)
theorem wi_rangeC (lo st : Int) (n : Nat) : WI K c (Itc lo st n) (rangeC lo st n) F := by
  refine ⟨fun P ps σ F1 H e s => by show n ≤ _; simp [rangeC], fun P ps σ F1 H i d e s hd => ?_⟩
  have hi : i < n := by
    have := (List.getElem?_eq_some_iff.mp hd).1
    simpa [rangeC] using this
  refine ⟨hi, fun v H' ⟨eH, ev⟩ => ?_⟩
  subst eH ev
  have e2 : d = D.int (lo + (i : Nat) * st) := by
    unfold rangeC at hd
    rw [List.getElem?_map, List.getElem?_range hi] at hd
    exact (Option.some.inj hd).symm
  subst e2
  exact ⟨F1, s, Ex.refl _, .int _⟩
theorem SR.pairNew {T : Addr} {x y : V} {dx dy : D} (s : SR K c ps σ F H) (hT : H T = none) (rx : Rep K F x dx) (ry : Rep K F y dy) :
    ∃ F', SR K c ps σ F' (upd H T (.tup [x, y])) ∧ Ex F F' ∧ Rep K F' (.ref T) (.tup [dx, dy]) :=
  have e := Ex.new (o := .tup [x, y]) (s.fh.fresh hT)
  ⟨_, s.alloc hT, e, .tup (.of upd_same) (.cons (rx.mono e) (.cons (ry.mono e) .nil))⟩
def enumD (ds : List D) : List D := ds.zipIdx.map fun p => .tup [.int (p.2 : Nat), p.1]
theorem enumD_get {ds : List D} {i : Nat} {d : D} (h : (enumD ds)[i]? = some d) : ∃ e, ds[i]? = some e ∧ d = .tup [.int (i : Nat), e] := by
  unfold enumD at h
  rw [List.getElem?_map, List.getElem?_zipIdx] at h
  cases q : ds[i]? with
  | none => rw [q] at h; cases h
  | some e =>
    rw [q] at h
    have := Option.some.inj h
    exact ⟨e, rfl, by rw [← this]; simp⟩
theorem wi_enum {a : Addr} {xs : List V} {ds : List D} (h : SqL K F a xs) (r : RepL K F xs ds) : WI K c (Ite K a) (enumD ds) F := by
  refine ⟨fun P ps σ F1 H e s => ⟨xs, ex_l (e.trans s.fh) h, by rw [r.len]; simp [enumD]⟩, fun P ps σ F1 H i d e s hd => ?_⟩
  obtain ⟨d1, hd1, rfl⟩ := enumD_get hd
  obtain ⟨v, h1, h2⟩ := r.get hd1
  have hq := ex_l (e.trans s.fh) h
  refine ⟨⟨xs, v, hq, h1⟩, fun x H' ⟨T, y, e1, hT, eH, w⟩ => ?_⟩
  subst eH e1
  have e2 := w xs hq
  rw [h1] at e2; cases e2
  exact s.pairNew hT (.int _) (h2.mono e)
def zipD (ds es : List D) : List D := (ds.zip es).map fun p => .tup [p.1, p.2]
theorem zipD_get {ds es : List D} {i : Nat} {d : D} (h : (zipD ds es)[i]? = some d) : ∃ x y, ds[i]? = some x ∧ es[i]? = some y ∧ d = .tup [x, y] := by
  unfold zipD at h
  rw [List.getElem?_map] at h
  cases q : (ds.zip es)[i]? with
  | none => rw [q] at h; cases h
  | some p =>
    rw [q] at h
    have e := (Option.some.inj h).symm
    obtain ⟨h1, h2⟩ := List.getElem?_zip_eq_some.mp q
    exact ⟨_, _, h1, h2, e⟩
theorem zipD_len {ds es : List D} : (zipD ds es).length = min ds.length es.length := by simp [zipD]
theorem wi_zip {a b : Addr} {xs ys : List V} {ds es : List D} (h : SqL K F a xs) (h' : SqL K F b ys) (r : RepL K F xs ds) (r' : RepL K F ys es) : WI K c (Itz K a b) (zipD ds es) F := by
  refine ⟨fun P ps σ F1 H e s => ⟨xs, ys, ex_l (e.trans s.fh) h, ex_l (e.trans s.fh) h', by rw [r.len, r'.len, zipD_len]; omega⟩, fun P ps σ F1 H i d e s hd => ?_⟩
  obtain ⟨d1, d2, hd1, hd2, rfl⟩ := zipD_get hd
  obtain ⟨v, h1, h2⟩ := r.get hd1
  obtain ⟨v', h1', h2'⟩ := r'.get hd2
  have hq := ex_l (e.trans s.fh) h
  have hq' := ex_l (e.trans s.fh) h'
  refine ⟨⟨xs, ys, v, v', hq, hq', h1, h1'⟩, fun x H' ⟨T, y, z, e1, hT, eH, w, w'⟩ => ?_⟩
  subst eH e1
  have e2 := w xs hq
  have e3 := w' ys hq'
  rw [h1] at e2; cases e2
  rw [h1'] at e3; cases e3
  exact s.pairNew hT (h2.mono e) (h2'.mono e)
theorem wi_zipT {a b : Addr} {xs ys : List V} {ds es : List D} (h : SqT K F a xs) (h' : SqT K F b ys) (r : RepL K F xs ds) (r' : RepL K F ys es) : WI K c (RZ.ItzT K a b) (zipD ds es) F := by
  refine ⟨fun P ps σ F1 H e s => ⟨xs, ys, ex_t (e.trans s.fh) h, ex_t (e.trans s.fh) h', by rw [r.len, r'.len, zipD_len]; omega⟩, fun P ps σ F1 H i d e s hd => ?_⟩
  obtain ⟨d1, d2, hd1, hd2, rfl⟩ := zipD_get hd
  obtain ⟨v, h1, h2⟩ := r.get hd1
  obtain ⟨v', h1', h2'⟩ := r'.get hd2
  have hq := ex_t (e.trans s.fh) h
  have hq' := ex_t (e.trans s.fh) h'
  refine ⟨⟨xs, ys, v, v', hq, hq', h1, h1'⟩, fun x H' ⟨T, y, z, e1, hT, eH, w, w'⟩ => ?_⟩
  subst eH e1
  have e2 := w xs hq
  have e3 := w' ys hq'
  rw [h1] at e2; cases e2
  rw [h1'] at e3; cases e3
  exact s.pairNew hT (h2.mono e) (h2'.mono e)

/-! the forms of iterables -/
theorem PI.or {X : Cx} {tg e : Expr} {w1 w2 : TI} (h1 : PI X tg e w1) (h2 : PI X tg e w2) : PI X tg e (fun σ H R => w1 σ H R ∨ w2 σ H R) :=
  ⟨fun pins s σ H R I h => h.elim (h1.run pins s σ H R I) (h2.run pins s σ H R I)⟩
/-- a list, a tuple, a text -/
def iAny (K : PySem.W.Frag) (te : TE) : TI := fun σ H R => iList K te σ H R ∨ (iTup K te σ H R ∨ iStr te σ H R)
theorem pi_any {X : Cx} {tg e : Expr} {te : TE} (h : PE X e te) : PI X tg e (iAny X.K te) := PI.or (pi_list h) (PI.or (pi_tup h) (pi_str h))
/-- iAny is three readings of one expression: which one it is must be known ahead of it -/
inductive Kd where | l | t | s
def iKd (K : PySem.W.Frag) (te : TE) : Kd → TI
  | .l => iList K te
  | .t => iTup K te
  | .s => iStr te
def itD : Kd → D → Option (List D)
  | .l, .lst ds => some ds
  | .l, .frl ds => some ds
  | .t, .tup ds => some ds
  | .s, .str x => some (signs x)
  | _, _ => none
def dIt (k : Kd) (t : DTN) : DTI := fun ps Q => t ps fun d ps' => match itD k d with
  | some ds => Q ds ps'
  | none => False
theorem ri_kd (k : Kd) {te : TE} {td : DTN} (h : RE K te td) : RI K (iKd K te k) (dIt k td) := by
  refine ⟨fun c ps σ F H Q R s q kk => ?_⟩
  cases k with
  | l =>
    refine h.run c ps σ F H _ _ s q fun v d ps' F' H' s' e r q => ?_
    cases r with
    | lst hq rr => exact ⟨_, rfl, ⟨_, .of (s'.fh _ _ hq)⟩, kk _ _ ps' F' H' s' e (wi_list (.of hq) rr) q⟩
    | frl hq rr => exact ⟨_, rfl, ⟨_, ex_l s'.fh hq⟩, kk _ _ ps' F' H' s' e (wi_list hq rr) q⟩
    | _ => exact q.elim
  | t =>
    refine h.run c ps σ F H _ _ s q fun v d ps' F' H' s' e r q => ?_
    cases r with
    | tup hq rr => exact ⟨_, rfl, ⟨_, ex_t s'.fh hq.sq⟩, kk _ _ ps' F' H' s' e (wi_tup hq.sq rr) q⟩
    | _ => exact q.elim
  | s =>
    refine h.run c ps σ F H _ _ s q fun v d ps' F' H' s' e r q => ?_
    cases r with
    | str x => exact ⟨_, rfl, kk _ _ ps' F' H' s' e (wi_str x) q⟩
    | _ => exact q.elim
theorem ri_or1 {w1 w2 : TI} {d1 : DTI} (h : RI K w1 d1) : RI K (fun σ H R => w1 σ H R ∨ w2 σ H R) d1 := ⟨fun c ps σ F H Q R s q kk => .inl (h.run c ps σ F H Q R s q kk)⟩
theorem ri_or2 {w1 w2 : TI} {d2 : DTI} (h : RI K w2 d2) : RI K (fun σ H R => w1 σ H R ∨ w2 σ H R) d2 := ⟨fun c ps σ F H Q R s q kk => .inr (h.run c ps σ F H Q R s q kk)⟩
/-- any of the three -/
def dItAny (t : DTN) : DTI := fun ps Q => dIt .l t ps Q ∨ dIt .t t ps Q ∨ dIt .s t ps Q
theorem ri_any {te : TE} {td : DTN} (h : RE K te td) : RI K (iAny K te) (dItAny td) := ⟨fun c ps σ F H Q R s q kk =>
  q.elim (fun q => .inl ((ri_kd .l h).run c ps σ F H Q R s q kk)) fun q => q.elim (fun q => .inr (.inl ((ri_kd .t h).run c ps σ F H Q R s q kk))) fun q => .inr (.inr ((ri_kd .s h).run c ps σ F H Q R s q kk))⟩
theorem ri_list {te : TE} {td : DTN} (h : RE K te td) : RI K (iList K te) (dIt .l td) := ri_kd .l h
theorem ri_tup {te : TE} {td : DTN} (h : RE K te td) : RI K (iTup K te) (dIt .t td) := ri_kd .t h
theorem ri_str {te : TE} {td : DTN} (h : RE K te td) : RI K (iStr te) (dIt .s td) := ri_kd .s h
theorem PG.or {X : Cx} {tg : Expr} {g1 g2 : TG} (h1 : PG X tg g1) (h2 : PG X tg g2) : PG X tg (fun v σ H Q => g1 v σ H Q ∨ g2 v σ H Q) :=
  ⟨fun pins s σ H v u Q I r h => h.elim (h1.run pins s σ H v u Q I r) (h2.run pins s σ H v u Q I r)⟩
theorem pg_seq {X : Cx} {es : List Expr} {k : Nat} {t : TGs} {n : Nat} {pos : Pos} (hc : X.calm = true) (h : PGs X es t)
    (hn : (assignEach es X.env).length = n := by rfl) (hst : (assignEach es X.env).findIdx? (·.1) = none := by rfl) : PG X (.Tuple es k pos) (gSeq X.K n t) := PG.or (pg_tup hc h hn hst) (pg_lst hc h hn hst)
/-- any of the three: at a name -/
def dItA (i : Nat) : DTI := fun ps Q => match ps[i]? with
  | some (.pu (.lst ds)) => Q ds ps
  | some (.pu (.frl ds)) => Q ds ps
  | some (.pu (.tup ds)) => Q ds ps
  | some (.pu (.str x)) => Q (signs x) ps
  | some (.ow (.lst ds)) => Q ds (ps.set i (.pu (.lst ds)))
  | _ => False
theorem ri_nameA (i : Nat) : RI K (iAny K (tVar i)) (dItA i) := by
  refine ⟨fun c ps σ F H Q R s q kk => ?_⟩
  have hL := (ri_kd (K := K) .l (re_esc (rv_var i))).run c ps σ F H Q R s
  have hT := (ri_kd (K := K) .t (re_esc (rv_var i))).run c ps σ F H Q R s
  have hS := (ri_kd (K := K) .s (re_esc (rv_var i))).run c ps σ F H Q R s
  unfold dItA at q
  cases w : ps[i]? with
  | none => simp only [w] at q
  | some t =>
    simp only [w] at q
    cases t with
    | un => exact q.elim
    | io n d => exact q.elim
    | ow d =>
      cases d with
      | lst ds => exact .inl (hL (by unfold dIt dEsc dVar; simp only [w]; exact q) kk)
      | _ => exact q.elim
    | pu d =>
      cases d with
      | lst ds => exact .inl (hL (by unfold dIt dEsc dVar; simp only [w]; exact q) kk)
      | frl ds => exact .inl (hL (by unfold dIt dEsc dVar; simp only [w]; exact q) kk)
      | tup ds => exact .inr (.inl (hT (by unfold dIt dEsc dVar; simp only [w]; exact q) kk))
      | str x => exact .inr (.inr (hS (by unfold dIt dEsc dVar; simp only [w]; exact q) kk))
      | _ => exact q.elim
def dRng1 (t : DTH) : DTI := fun ps Q => t ps fun hs ps' => match looks ps' hs with
  | some [.int j] => (-(2 ^ 62) ≤ j ∧ j < 2 ^ 62) ∧ Q (rangeD 0 j.toNat) ps'
  | _ => False
theorem NowL.one {xs : List V} {d : D} (n : NowL K F H xs [d]) : ∃ x, xs = [x] ∧ Now K F H x d := by
  cases n with
  | cons h r => cases r; exact ⟨_, rfl, h⟩
theorem NowL.two {xs : List V} {d e : D} (n : NowL K F H xs [d, e]) : ∃ x y, xs = [x, y] ∧ Now K F H x d ∧ Now K F H y e := by
  cases n with
  | cons h r => obtain ⟨y, rfl, h'⟩ := r.one; exact ⟨_, _, rfl, h, h'⟩
theorem NowL.three {xs : List V} {d e f : D} (n : NowL K F H xs [d, e, f]) : ∃ x y z, xs = [x, y, z] ∧ Now K F H x d ∧ Now K F H y e ∧ Now K F H z f := by
  cases n with
  | cons h r => obtain ⟨y, z, rfl, h', h''⟩ := r.two; exact ⟨_, _, _, rfl, h, h', h''⟩
theorem ri_range1 {ta : TA} {da : DTH} (h : RH K ta da) : RI K (iRng1 ta) (dRng1 da) := ⟨fun c ps σ F H Q R s q kk => h.run c ps σ F H _ _ s q fun vs hs ps' F' H' s' e r q => by
  split at q
  · rename_i j w
    obtain ⟨x, rfl, n⟩ := (s'.nows r w).one
    exact ⟨j, by rw [n.int], q.1.1, q.1.2, kk _ _ ps' F' H' s' e (wi_range 0 _) q.2⟩
  · exact q.elim⟩
def dRng2 (t : DTH) : DTI := fun ps Q => t ps fun hs ps' => match looks ps' hs with
  | some [.int i, .int j] => (-(2 ^ 62) ≤ i ∧ i < 2 ^ 62 ∧ -(2 ^ 62) ≤ j ∧ j < 2 ^ 62) ∧ Q (rangeD i (j - i).toNat) ps'
  | _ => False
theorem ri_range2 {ta : TA} {da : DTH} (h : RH K ta da) : RI K (iRng2 ta) (dRng2 da) := ⟨fun c ps σ F H Q R s q kk => h.run c ps σ F H _ _ s q fun vs hs ps' F' H' s' e r q => by
  split at q
  · rename_i i j w
    obtain ⟨x, y, rfl, n, n'⟩ := (s'.nows r w).two
    exact ⟨i, j, by rw [n.int, n'.int], q.1, kk _ _ ps' F' H' s' e (wi_range i _) q.2⟩
  · exact q.elim⟩
def dEnum (t : DTA) : DTI := fun ps Q => t ps fun ds ps' => match ds with
  | [.lst xs] => Q (enumD xs) ps'
  | _ => False
theorem RepL.one {xs : List V} {d : D} (n : RepL K F xs [d]) : ∃ x, xs = [x] ∧ Rep K F x d := by
  cases n with
  | cons h r => cases r; exact ⟨_, rfl, h⟩
theorem RepL.two {xs : List V} {d e : D} (n : RepL K F xs [d, e]) : ∃ x y, xs = [x, y] ∧ Rep K F x d ∧ Rep K F y e := by
  cases n with
  | cons h r => obtain ⟨y, rfl, h'⟩ := r.one; exact ⟨_, _, rfl, h, h'⟩
theorem ri_enum {ta : TA} {da : DTA} (h : RA K ta da) : RI K (iEnum K ta) (dEnum da) := ⟨fun c ps σ F H Q R s q kk => h.run c ps σ F H _ _ s q fun vs ds ps' F' H' s' e r q => by
  split at q
  · obtain ⟨x, rfl, n⟩ := r.one
    cases n with
    | lst hq rr => exact ⟨_, _, rfl, .of (s'.fh _ _ hq), kk _ _ ps' F' H' s' e (wi_enum (.of hq) rr) q⟩
  · exact q.elim⟩
def dZip (t : DTA) : DTI := fun ps Q => t ps fun ds ps' => match ds with
  | [.lst xs, .lst ys] => Q (zipD xs ys) ps'
  | [.tup xs, .tup ys] => Q (zipD xs ys) ps'
  | _ => False
theorem ri_zip {ta : TA} {da : DTA} (h : RA K ta da) : RI K (RZ.iZipA K ta) (dZip da) := ⟨fun c ps σ F H Q R s q kk => h.run c ps σ F H _ _ s q fun vs ds ps' F' H' s' e r q => by
  split at q
  · obtain ⟨x, y, rfl, n, n'⟩ := r.two
    cases n with
    | lst hq rr => cases n' with
      | lst hq' rr' => exact ⟨_, _, _, _, rfl, .inl ⟨.of (s'.fh _ _ hq), .of (s'.fh _ _ hq'), kk _ _ ps' F' H' s' e (wi_zip (.of hq) (.of hq') rr rr') q⟩⟩
  · obtain ⟨x, y, rfl, n, n'⟩ := r.two
    cases n with
    | tup hq rr => cases n' with
      | tup hq' rr' => exact ⟨_, _, _, _, rfl, .inr ⟨ex_t s'.fh hq.sq, ex_t s'.fh hq'.sq, kk _ _ ps' F' H' s' e (wi_zipT hq.sq hq'.sq rr rr') q⟩⟩
  · exact q.elim⟩

/-! ### 8. for -/
theorem SR.reF {ps1 : Pst} {σ1 : St} {F1 H1 : Hp} (s : SR K c ps σ F H) (s1 : SR K c ps1 σ1 F1 H1) (e : Ex F1 F) : SR K { c with F0 := F1 } ps σ F H :=
  ⟨⟨e, fun a h1 h2 => s.g.fr a (s1.g.ff.fresh h1) h2, s.g.hh, s.g.ht⟩, s.fh, s.len, s.pu, fun i s' d h1 h2 => by
    obtain ⟨m, g1, g2, g3, g4⟩ := s.on i s' d h1 h2
    exact ⟨m, g1, g2, g3, by cases s' <;> exact g4⟩, s.ds, s.pr⟩
theorem SR.unF {ps1 : Pst} {σ1 : St} {F1 H1 : Hp} (s : SR K { c with F0 := F1 } ps σ F H) (s1 : SR K c ps1 σ1 F1 H1) : SR K c ps σ F H :=
  ⟨⟨s1.g.ff.trans s.g.ff, fun a h1 h2 => s.g.fr a (s1.g.fr a h1 h2) h2, s.g.hh, s.g.ht⟩, s.fh, s.len, s.pu, fun i s' d h1 h2 => by
    obtain ⟨m, g1, g2, g3, g4⟩ := s.on i s' d h1 h2
    exact ⟨m, g1, g2, g3, by cases s' <;> exact g4⟩, s.ds, s.pr⟩
/-- a protected object changes -/
theorem SR.reprotect {l : Addr} {o0 o : HO} (s : SR K { c with P := upd c.P l o0 } ps σ F H) (h0 : c.H0 l = none) (p0 : c.P l = none) : SR K { c with P := upd c.P l o } ps σ F (upd H l o) := by
  obtain ⟨g1, g2, g3⟩ := s.pr l _ upd_same
  refine ⟨⟨s.g.ff, s.g.fr, fun a u h1 h2 => ?_, fun a h1 => ?_⟩, s.fh.mut g2, s.len, s.pu, fun i s' d e n => ?_, s.ds, fun a u q => ?_⟩
  · rw [upd_ne (ne_of_none h1 h0)]; exact s.g.hh a u h1 h2
  · by_cases z : a = l
    · rw [z, upd_same]; simp
    · rw [upd_ne z]; exact s.g.ht a h1
  · obtain ⟨m, h1, h2, h3, h4⟩ := s.on i s' d e n
    have nm : m ≠ l := fun z => g3 i s' d e n (by rw [h1, z])
    exact ⟨m, h1, h2.ff (Ex.refl F) (fun u q => by rw [upd_ne nm]; exact q), h3, by cases s' <;> exact h4⟩
  · by_cases z : a = l
    · subst z
      have q : upd c.P a o a = some u := q
      rw [upd_same] at q; cases q
      exact ⟨upd_same, g2, g3⟩
    · have q : upd c.P l o a = some u := q
      rw [upd_ne z] at q
      obtain ⟨h1, h2, h3⟩ := s.pr a u (by show upd c.P l o0 a = some u; rw [upd_ne z]; exact q)
      exact ⟨by rw [upd_ne z]; exact h1, h2, h3⟩

def forW (g : DTG) (tb : DTS) (Dd : DEnds) : List D → Pst → Prop
  | [], ps => Dd.nx ps
  | d :: r, ps => g d ps fun ps2 => tb { Dd with nx := forW g tb Dd r, ct := forW g tb Dd r, bk := Dd.nx } ps2
def dFor (di : DTI) (g : DTG) (tb : DTS) : DTS := fun Dd ps => di ps fun ds ps1 => forW g tb Dd ds ps1
theorem rs_for {js : List Nat} {wi : TI} {di : DTI} {g : TG} {gd : DTG} {tb : TS} {db : DTS} (hi : RI K wi di) (hg : RG K js g gd) (hb : RS K md tb db) : RS K md (tFor wi g tb) (dFor di gd db) := ⟨fun c ps σ F H Dd E s q l =>
  hi.run c ps σ F H _ _ s q fun J ds ps1 F1 H1 s1 e1 w q => by
    refine ⟨fun i m σ' H' => m + i = ds.length ∧ ∃ ps' F', SR K c ps' σ' F' H' ∧ Ex F1 F' ∧ forW gd db Dd (ds.drop i) ps', ⟨ds.length, rfl, ps1, F1, s1, Ex.refl _, q⟩, ?_⟩
    rintro i m σ' H' ⟨hm, ps', F', s', e', q'⟩
    cases hd : ds[i]? with
    | none =>
      have hle : ds.length ≤ i := List.getElem?_eq_none_iff.mp hd
      have hi : i = ds.length := by omega
      subst hi
      rw [List.drop_length] at q'
      exact .inl ⟨w.stop c.P ps' σ' F' H' e' s', l.nx ps' σ' F' H' s' q'⟩
    | some d =>
      have hlt : i < ds.length := (List.getElem?_eq_some_iff.mp hd).1
      have hdr : ds.drop i = d :: ds.drop (i + 1) := by
        rw [List.drop_eq_getElem_cons hlt]
        rw [List.getElem?_eq_getElem hlt] at hd
        rw [Option.some.inj hd]
      rw [hdr] at q'
      obtain ⟨hgo, hy⟩ := w.item c.P ps' σ' F' H' i d e' s' hd
      refine .inr ⟨hgo, fun σ2 H2 => ∃ ps2 F2, SR K c ps2 σ2 F2 H2 ∧ Ex F1 F2 ∧ forW gd db Dd (ds.drop (i + 1)) ps2, fun σ2 H2 h2 => ⟨m - 1, by omega, by omega, h2⟩, fun x H2 hx => ?_⟩
      obtain ⟨F2, s2, e2, r2⟩ := hy x H2 hx
      refine hg.run c x d ps' σ' F2 H2 _ _ s2 r2 q' fun ps3 σ3 F3 H3 s3 e3 o3 q3 => ?_
      have s3' := s3.reF s1 ((e'.trans e2).trans e3)
      exact hb.run { c with F0 := F1 } ps3 σ3 F3 H3 _ _ s3' q3 ⟨fun ps4 σ4 F4 H4 s4 q4 => ⟨ps4, F4, s4.unF s1, s4.g.ff, q4⟩, fun ps4 σ4 F4 H4 s4 q4 => l.nx ps4 σ4 F4 H4 (s4.unF s1) q4,
        fun ps4 σ4 F4 H4 s4 q4 => ⟨ps4, F4, s4.unF s1, s4.g.ff, q4⟩, fun hm v d ps4 σ4 F4 H4 s4 r4 q4 => l.rt hm v d ps4 σ4 F4 H4 (s4.unF s1) r4 q4,
        fun hm a d ps4 σ4 F4 H4 s4 o4 f4 h4 n4 q4 => l.rn hm a d ps4 σ4 F4 H4 (s4.unF s1) o4 f4 h4 n4 q4⟩⟩

/-! ### 9. while: an invariant with a measure -/
def dWhile (t : DTT) (tb : DTS) : DTS := fun Dd ps => ∃ W : Nat → Pst → Prop, (∃ m, W m ps) ∧ ∀ m ps, W m ps →
  t ps fun b ps1 => if b = true then tb { Dd with nx := fun ps2 => ∃ m', m' < m ∧ W m' ps2, ct := fun ps2 => ∃ m', m' < m ∧ W m' ps2, bk := Dd.nx } ps1 else Dd.nx ps1
theorem rs_while {tt : TT} {dt : DTT} {tb : TS} {db : DTS} (ht : RT K tt dt) (hb : RS K md tb db) : RS K md (tWhile tt tb) (dWhile dt db) := ⟨fun c ps σ F H Dd E s q l => by
  obtain ⟨W, ⟨m0, w0⟩, turn⟩ := q
  refine ⟨fun m σ' H' => ∃ ps' F', SR K c ps' σ' F' H' ∧ W m ps', ⟨m0, ps, F, s, w0⟩, ?_⟩
  rintro m σ' H' ⟨ps', F', s', w'⟩
  refine ht.run c ps' σ' F' H' _ _ s' (turn m ps' w') fun b ps1 F1 H1 s1 e1 q => ?_
  cases b with
  | true =>
    refine iteT ⟨fun σ2 H2 => ∃ m', m' < m ∧ ∃ ps2 F2, SR K c ps2 σ2 F2 H2 ∧ W m' ps2, fun σ2 H2 ⟨m', lt, h⟩ => ⟨m', lt, h⟩, ?_⟩
    have q2 := q
    rw [if_pos rfl] at q2
    exact hb.run c ps1 σ' F1 H1 _ _ s1 q2 ⟨fun ps2 σ2 F2 H2 s2 ⟨m', lt, w⟩ => ⟨m', lt, ps2, F2, s2, w⟩, fun ps2 σ2 F2 H2 s2 q => l.nx ps2 σ2 F2 H2 s2 q,
      fun ps2 σ2 F2 H2 s2 ⟨m', lt, w⟩ => ⟨m', lt, ps2, F2, s2, w⟩, l.rt, l.rn⟩
  | false => exact iteF (l.nx ps1 σ' F1 H1 s1 (by simpa using q))⟩

/-! ### 10. comprehensions -/
def wipeP (ps : Pst) : List Nat → Pst
  | [] => ps
  | v :: vs => (wipeP ps vs).set v .un
theorem SR.dropB (s : SR K c ps σ F H) (i : Nat) : SR K c (ps.set i .un) (σ.set i none) F H := by
  have s1 := s.drop i
  have tr : ∀ {j : Nat} {t : Sl} {x : Option (Option V)}, (ps.set i .un)[j]? = some t → t ≠ .un → σ[j]? = x → (σ.set i none)[j]? = x := fun {j t x} q n e => by
    by_cases z : i = j
    · subst z; exact absurd (getE_set_self q).2 n
    · rw [List.getElem?_set_ne z]; exact e
  have rt : ∀ {j : Nat} {y : V}, (σ.set i none)[j]? = some (some y) → σ[j]? = some (some y) := fun {j y} e => by
    by_cases z : i = j
    · subst z; cases (getE_set_self e).2
    · rw [List.getElem?_set_ne z] at e; exact e
  refine ⟨s1.g, s1.fh, by rw [List.length_set, List.length_set]; exact s.len, fun j d q => ?_, fun j s' d q n => ?_, fun j k sj sk dj dk l n1 q1 q2 o1 o2 e1 e2 => s1.ds j k sj sk dj dk l n1 q1 q2 o1 o2 (rt e1) (rt e2), fun a u q => ?_⟩
  · obtain ⟨v, h1, h2⟩ := s1.pu j d q
    exact ⟨v, tr q (fun z => by cases z) h1, h2⟩
  · obtain ⟨l, h1, h2⟩ := s1.on j s' d q n
    exact ⟨l, tr q (fun z => by rw [z] at n; cases n) h1, h2⟩
  · obtain ⟨h1, h2, h3⟩ := s1.pr a u q
    exact ⟨h1, h2, fun j s' d q n z => h3 j s' d q n (rt z)⟩
theorem SR.wipe (s : SR K c ps σ F H) : ∀ vs : List Nat, SR K c (wipeP ps vs) (wipe σ vs) F H
  | [] => s
  | v :: vs => (SR.wipe s vs).dropB v
/-- what was wiped comes back (unknown) -/
theorem SR.unwipe {σ' : St} {vs : List Nat} (s : SR K c (wipeP ps vs) σ' F H) (h : ∀ j, j ∉ vs → σ'[j]? = σ[j]?) (hl : σ'.length = σ.length) : SR K c (wipeP ps vs) σ F H := by
  have wn : ∀ (vs : List Nat) {j : Nat} {t : Sl}, (wipeP ps vs)[j]? = some t → t ≠ .un → j ∉ vs := by
    intro vs
    induction vs with
    | nil => intro j t _ _; simp
    | cons v vs ih =>
      intro j t q n hm
      unfold wipeP at q
      by_cases z : v = j
      · subst z; exact n (getE_set_self q).2
      · rw [List.getElem?_set_ne z] at q
        rcases List.mem_cons.mp hm with w | w
        · exact z w.symm
        · exact ih q n w
  have nun : ∀ {t : Sl} {d : D}, t.ownd = some d → t ≠ .un := fun {t d} e z => by rw [z] at e; cases e
  refine ⟨s.g, s.fh, s.len.trans hl, fun j d q => ?_, fun j s' d q n => ?_, fun j k sj sk dj dk l n1 q1 q2 o1 o2 e1 e2 => ?_, fun a u q => ?_⟩
  · obtain ⟨v, h1, h2⟩ := s.pu j d q
    exact ⟨v, (h j (wn vs q fun z => by cases z)).symm.trans h1, h2⟩
  · obtain ⟨l, h1, h2⟩ := s.on j s' d q n
    exact ⟨l, (h j (wn vs q (nun n))).symm.trans h1, h2⟩
  · exact s.ds j k sj sk dj dk l n1 q1 q2 o1 o2 ((h j (wn vs q1 (nun o1))).trans e1) ((h k (wn vs q2 (nun o2))).trans e2)
  · obtain ⟨h1, h2, h3⟩ := s.pr a u q
    exact ⟨h1, h2, fun j s' d q n z => h3 j s' d q n ((h j (wn vs q (nun n))).trans z)⟩
theorem wipe_off {σ σ' : St} {js : List Nat} : ∀ {vs : List Nat}, Off js σ σ' → (∀ j ∈ js, j ∈ vs) → wipe σ' vs = wipe σ vs := by
  intro vs o hs
  apply List.ext_getElem?
  intro j
  have key : ∀ (vs : List Nat) (τ : St), (wipe τ vs)[j]? = if j ∈ vs ∧ j < τ.length then some none else τ[j]? := by
    intro vs τ
    induction vs with
    | nil => simp [wipe]
    | cons v vs ih =>
      unfold wipe
      by_cases z : v = j
      · subst z
        by_cases hl : v < τ.length
        · rw [List.getElem?_set_self (by rw [wipe_length]; exact hl), if_pos ⟨List.mem_cons_self, hl⟩]
        · rw [List.getElem?_eq_none (by rw [List.length_set, wipe_length]; omega), if_neg (fun h => hl h.2), List.getElem?_eq_none (by omega)]
      · rw [List.getElem?_set_ne z, ih]
        have hiff : (j ∈ v :: vs) ↔ (j ∈ vs) := by
          rw [List.mem_cons]
          exact ⟨fun h => h.elim (fun w => absurd w.symm z) id, .inr⟩
        simp only [hiff]
  rw [key, key, o.1]
  by_cases hm : j ∈ vs
  · by_cases hl : j < σ.length
    · rw [if_pos ⟨hm, hl⟩, if_pos ⟨hm, hl⟩]
    · have hl' : ¬ j < σ'.length := by rw [o.1]; exact hl
      rw [if_neg (fun h => hl h.2), if_neg (fun h => hl h.2), List.getElem?_eq_none (Nat.le_of_not_lt hl), List.getElem?_eq_none (Nat.le_of_not_lt hl')]
  · rw [if_neg (fun h => hm h.1), if_neg (fun h => hm h.1)]
    exact o.2 j fun z => hm (hs j z)
theorem wipe_in (vs : List Nat) {σ : St} {j : Nat} (h : j ∉ vs) : (wipe σ vs)[j]? = σ[j]? := by
  induction vs with
  | nil => rfl
  | cons v vs ih =>
    unfold wipe
    have z : v ≠ j := fun z => h (by simp [z])
    rw [List.getElem?_set_ne z]
    exact ih fun w => h (List.mem_cons_of_mem _ w)
/-- plain data that was wiped comes back -/
def backP (ps0 : Pst) : List Nat → Pst → Pst
  | [], ps => ps
  | v :: vs, ps => backP ps0 vs (match ps0[v]? with
    | some (.pu d) => ps.set v (.pu d)
    | _ => ps)
theorem SR.back {ps0 : Pst} {F0 H0 : Hp} (s0 : SR K c ps0 σ F0 H0) : ∀ (vs : List Nat) {ps : Pst} {F H : Hp}, SR K c ps σ F H → Ex F0 F → SR K c (backP ps0 vs ps) σ F H
  | [], _, _, _, s, _ => s
  | v :: vs, ps, F, H, s, e => by
    refine SR.back s0 vs (ps := _) ?_ e
    split
    · rename_i d w
      obtain ⟨x, h1, h2⟩ := s0.pu v d w
      have q := s.set (i := v) (h2.mono e)
      have es : σ.set v (some x) = σ := by
        apply List.ext_getElem?
        intro j
        by_cases z : v = j
        · subst z
          have hi : v < σ.length := (List.getElem?_eq_some_iff.mp h1).1
          rw [List.getElem?_set_self hi, h1]
        · rw [List.getElem?_set_ne z]
      rw [es] at q
      exact q
    · exact s
def compW (g : DTG) (tt : DTT) (te : DTN) (vs : List Nat) (Q : D → Pst → Prop) : List D → List D → Pst → Prop
  | [], acc, ps => Q (.lst acc) ps
  | d :: r, acc, ps => g d ps fun ps2 => tt ps2 fun b ps3 => if b = true then te ps3 fun y ps4 => acc.length < sizeLine ∧ compW g tt te vs Q r (acc ++ [y]) (wipeP ps4 vs)
    else compW g tt te vs Q r acc (wipeP ps3 vs)
def dLc (di : DTI) (g : DTG) (tt : DTT) (te : DTN) (vs : List Nat) : DTN := fun ps Q => di ps fun ds ps1 => compW g tt te vs (fun d ps2 => Q d (backP ps1 vs ps2)) ds [] (wipeP ps1 vs)
theorem rn_lc {js : List Nat} {wi : TI} {di : DTI} {g : TG} {gd : DTG} {tt : TT} {dt : DTT} {te : TE} {de : DTN} {vs : List Nat} (hi : RI K wi di) (hg : RG K js g gd) (ht : RT K tt dt) (he : RE K te de) (hj : ∀ j ∈ js, j ∈ vs) :
    RN K (tLc wi g tt te vs) (dLc di gd dt de vs) := ⟨fun c ps σ F H Q QV s q k => hi.run c ps σ F H _ _ s q fun J ds ps1 F1 H1 s1 e1 w q => by
  intro L hL
  have f0 : F1 L = none := s1.fh.fresh hL
  have nw0 := s1.nw hL
  -- the state within: the new list at L is protected
  refine ⟨fun i m H' => m + i = ds.length ∧ ∃ ps' F' acc as, SR K { c with P := upd c.P L (.lst acc) } ps' (wipe σ vs) F' H' ∧ Ex F1 F' ∧ RepL K F' acc as ∧ (∃ ps0, ps' = wipeP ps0 vs) ∧ compW gd dt de vs (fun d ps2 => Q d (backP ps1 vs ps2)) (ds.drop i) as ps',
    ⟨ds.length, rfl, wipeP ps1 vs, F1, [], [], ?_, Ex.refl _, .nil, ⟨ps1, rfl⟩, q⟩, ?_⟩
  · exact ((s1.laid hL).protect upd_same f0 nw0).wipe vs
  · rintro i m H' ⟨hm, ps', F', acc, as, s', e', r', ⟨ps0, hps⟩, q'⟩
    obtain ⟨g1, g2, g3⟩ := s'.pr L _ upd_same
    cases hd : ds[i]? with
    | none =>
      have hle : ds.length ≤ i := List.getElem?_eq_none_iff.mp hd
      have hi : i = ds.length := by omega
      subst hi
      rw [List.drop_length] at q'
      refine .inl ⟨w.stop _ ps' _ F' H' e' s', ?_⟩
      have s2 : SR K { c with P := c.P } ps' (wipe σ vs) F' H' := s'.unprotect (P' := c.P) fun a o h => by
        by_cases z : a = L
        · rw [z, s1.p0 hL] at h; cases h
        · show upd c.P L _ a = some o
          rw [upd_ne z]; exact h
      rw [hps] at s2 q'
      have s3 : SR K c (wipeP ps0 vs) σ F' H' := SR.unwipe (σ := σ) s2 (fun j hj => wipe_in vs hj) (wipe_length _ _)
      have s4 : SR K c (backP ps1 vs (wipeP ps0 vs)) σ F' H' := SR.back s1 vs s3 e'
      refine k L (.lst as) _ F' H' s4 (e1.trans e') (.lst g1 r') g2 (s1.h0 hL) (s1.p0 hL) (fun j sj dj h1 h2 h3 => ?_) q'
      -- an owned slot behind was one within
      have bk : ∀ (us : List Nat) (ps : Pst), (backP ps1 us ps)[j]? = some sj → ps[j]? = some sj := by
        intro us
        induction us with
        | nil => intro ps h; exact h
        | cons v us ih =>
          intro ps h
          have h' := ih _ h
          split at h'
          · rename_i d w
            by_cases z : v = j
            · subst z; rw [(getE_set_self h').2] at h2; cases h2
            · rw [List.getElem?_set_ne z] at h'; exact h'
          · exact h'
      have h1' := bk vs _ h1
      have hn : j ∉ vs := fun hm => by
        have wn : ∀ (vs : List Nat), j ∈ vs → (wipeP ps0 vs)[j]? = some sj → False := by
          intro vs
          induction vs with
          | nil => intro h; cases h
          | cons v vs ih =>
            intro hm q
            unfold wipeP at q
            by_cases z : v = j
            · subst z; rw [(getE_set_self q).2] at h2; cases h2
            · rw [List.getElem?_set_ne z] at q
              rcases List.mem_cons.mp hm with x | x
              · exact z x.symm
              · exact ih x q
        exact wn vs hm h1'
      rw [hps] at g3
      exact g3 j sj dj h1' h2 (by rw [wipe_in vs hn]; exact h3)
    | some d =>
      have hlt : i < ds.length := (List.getElem?_eq_some_iff.mp hd).1
      have hdr : ds.drop i = d :: ds.drop (i + 1) := by
        rw [List.drop_eq_getElem_cons hlt]
        rw [List.getElem?_eq_getElem hlt] at hd
        rw [Option.some.inj hd]
      rw [hdr] at q'
      obtain ⟨hgo, hy⟩ := w.item _ ps' _ F' H' i d e' s' hd
      refine .inr ⟨hgo, fun H2 => ∃ ps2 F2 acc as, SR K { c with P := upd c.P L (.lst acc) } ps2 (wipe σ vs) F2 H2 ∧ Ex F1 F2 ∧ RepL K F2 acc as ∧ (∃ ps0, ps2 = wipeP ps0 vs) ∧ compW gd dt de vs (fun d ps2 => Q d (backP ps1 vs ps2)) (ds.drop (i + 1)) as ps2,
        fun H2 h2 => ⟨m - 1, by omega, by omega, h2⟩, fun x H2 hx => ?_⟩
      obtain ⟨F2, s2, e2, r2⟩ := hy x H2 hx
      refine hg.run _ x d ps' _ F2 H2 _ _ s2 r2 q' fun ps3 σ3 F3 H3 s3 e3 o3 q3 => ⟨?_, ?_⟩
      · rw [wipe_off o3 hj]
        exact wipe_off (js := vs) ⟨wipe_length _ _, fun j hj => wipe_in vs hj⟩ fun _ h => h
      · have hw : wipe σ3 vs = wipe σ vs := by
          rw [wipe_off o3 hj]
          exact wipe_off (js := vs) ⟨wipe_length _ _, fun j hj => wipe_in vs hj⟩ fun _ h => h
        refine ht.run _ ps3 σ3 F3 H3 _ _ s3 q3 fun b ps4 F4 H4 s4 e4 q4 => ?_
        have e14 := ((e'.trans e2).trans e3).trans e4
        cases b with
        | false =>
          refine iteF ⟨wipeP ps4 vs, F4, acc, as, ?_, e14, r'.mono ((e2.trans e3).trans e4), ⟨ps4, rfl⟩, by simpa using q4⟩
          have := s4.wipe vs
          rw [hw] at this
          exact this
        | true =>
          refine iteT (he.run _ ps4 σ3 F4 H4 _ _ s4 (by simpa using q4) fun y dy ps5 F5 H5 s5 e5 r5 q5 => ?_)
          obtain ⟨h1, h2, h3⟩ := s5.pr L _ upd_same
          have r'' := r'.mono (((e2.trans e3).trans e4).trans e5)
          refine ⟨acc, h1, by rw [r''.len]; exact q5.1, wipeP ps5 vs, F5, acc ++ [y], as ++ [dy], ?_, e14.trans e5, r''.app (.cons r5 .nil), ⟨ps5, rfl⟩, q5.2⟩
          have s6 := (s5.reprotect (o := .lst (acc ++ [y])) (s1.h0 hL) (s1.p0 hL)).wipe vs
          rw [hw] at s6
          exact s6⟩
end
end Z

set_option Elab.async false
set_option linter.all false
set_option maxRecDepth 100000
set_option maxHeartbeats 4000000
namespace Z
open PySem L2

/-! ### 11. data as PyData: ==, repr -/
mutual
def D.py : D → PyData
  | .non => .none
  | .bl b => .bool b
  | .int i => .int i
  | .str s => .str s
  | .tup ds => .tuple (D.pys ds)
  | .lst ds => .list (D.pys ds)
  | .frl ds => .list (D.pys ds)
  | _ => .none
def D.pys : List D → List PyData
  | [] => []
  | d :: ds => D.py d :: D.pys ds
end
mutual
def D.plain : D → Bool
  | .non => true
  | .bl _ => true
  | .int _ => true
  | .str _ => true
  | .tup ds => D.plains ds
  | .lst ds => D.plains ds
  | .frl ds => D.plains ds
  | _ => false
def D.plains : List D → Bool
  | [] => true
  | d :: ds => D.plain d && D.plains ds
end
section
variable {K : PySem.W.Frag} {c : Fz} {ps : Pst} {σ : St} {F F' H : Hp} {md : Bool}
mutual
theorem Rep.dp (e : Ex F H) : ∀ {v : V} {d : D}, Rep K F v d → d.plain = true → Dp K H v d.py
  | _, _, .non, _ => .non
  | _, _, .bl b, _ => .bl b
  | _, _, .int i, _ => .int i
  | _, _, .str x, _ => .str x
  | _, _, .tup h r, p => .tup (ex_t e h.sq) (RepL.dp e r p)
  | _, _, .lst h r, p => .lst (.of (e _ _ h)) (RepL.dp e r p)
  | _, _, .frl h r, p => .lst (ex_l e h) (RepL.dp e r p)
  | _, _, .dic _ _, p => by cases p
  | _, _, .ins _ _, p => by cases p
  | _, _, .ref _, p => by cases p
  | _, _, .ty _, p => by cases p
theorem RepL.dp (e : Ex F H) : ∀ {xs : List V} {ds : List D}, RepL K F xs ds → D.plains ds = true → DpAll K H xs (D.pys ds)
  | _, _, .nil, _ => .nil
  | _, _, .cons h r, p => by
    have p' := Bool.and_eq_true_iff.mp p
    exact .cons (Rep.dp e h p'.1) (RepL.dp e r p'.2)
end
theorem Now.dp (e : Ex F H) {v : V} {d : D} (n : Now K F H v d) (p : d.plain = true) : Dp K H v d.py := by
  rcases n with n | ⟨l, rfl, o⟩
  · exact n.dp e p
  · cases o with
    | lst h r => exact .lst (.of h) (r.dp e p)
    | dic _ _ => cases p
    | ins _ _ => cases p
/-- == as the program sees it -/
def D.eqv (x y : D) : Bool := PyData.eqv x.py y.py
def D.okEq (x : D) : Prop := x.plain = true ∧ SeqAt.shaped x.py = true
def dEq (x y : D) (Q : D → Prop) : Prop := x.okEq ∧ y.okEq ∧ Q (.bl (D.eqv x y))
def dNe (x y : D) (Q : D → Prop) : Prop := x.okEq ∧ y.okEq ∧ Q (.bl (!D.eqv x y))
theorem ro_eq : RO K (rEqD K) dEq := ⟨fun c ps σ F H x y dx dy Q QV s nx ny q k => ⟨_, _, nx.dp s.fh q.1.1, ny.dp s.fh q.2.1.1, q.1.2, q.2.1.2, k _ _ F H s (Ex.refl F) (.bl _) q.2.2⟩⟩
theorem ro_ne : RO K (rNeD K) dNe := ⟨fun c ps σ F H x y dx dy Q QV s nx ny q k => ⟨_, _, nx.dp s.fh q.1.1, ny.dp s.fh q.2.1.1, q.1.2, q.2.1.2, k _ _ F H s (Ex.refl F) (.bl _) q.2.2⟩⟩

/-! ### 12. operators -/
def rOr (r r' : R2) : R2 := fun x y H Q => r x y H Q ∨ r' x y H Q
theorem OpR.or' {X : Cx} {f : Value → Value → Sem Value} {r r' : R2} (h : OpR X f r) (h' : OpR X f r') : OpR X f (rOr r r') := OpR.or h h'
def rStrCat : R2 := fun x y H Q => ∃ i j, x = .str i ∧ y = .str j ∧ i.length + j.length ≤ sizeLine ∧ Q (.str (i ++ j)) H
def rAddA (K : PySem.W.Frag) : R2 := rOr (rI0 fun i j => .int (i + j)) (rOr rStrCat (rOr rCat (rCatA K)))
theorem op_addA {X : Cx} : OpR X (binaryOp .Add) (rAddA X.K) := OpR.or' op_add (OpR.or' op_add_str (OpR.or' op_cat op_catA))
def dAdd (x y : D) (Q : D → Prop) : Prop := match x, y with
  | .int i, .int j => Q (.int (i + j))
  | .str i, .str j => i.length + j.length ≤ sizeLine ∧ Q (.str (i ++ j))
  | .lst a, .lst b => a.length + b.length ≤ sizeLine ∧ Q (.lst (a ++ b))
  | .tup a, .tup b => a.length + b.length ≤ sizeLine ∧ Q (.tup (a ++ b))
  | _, _ => False
theorem RepL.nilV {xs : List V} {ds : List D} (r : RepL K F xs ds) (h : xs = []) : ds = [] := by subst h; cases r; rfl
theorem ro_add : RO K (rAddA K) dAdd := ⟨fun c ps σ F H x y dx dy Q QV s nx ny q k => by
  unfold dAdd at q
  split at q
  · exact .inl ⟨_, _, nx.int, ny.int, k _ _ F H s (Ex.refl F) (.int _) q⟩
  · exact .inr (.inl ⟨_, _, nx.str, ny.str, q.1, k _ _ F H s (Ex.refl F) (.str _) q.2⟩)
  · obtain ⟨a, xs, rfl, h1, r1⟩ := nx.lst s.fh
    obtain ⟨b, ys, rfl, h2, r2⟩ := ny.lst s.fh
    refine .inr (.inr (.inl ⟨a, b, xs, ys, rfl, rfl, h1, h2, by rw [r1.len, r2.len]; exact q.1, fun p hp => ?_⟩))
    have e := Ex.new (o := .lst (xs ++ ys)) (s.fh.fresh hp)
    exact k _ _ _ _ (s.alloc hp) e (.lst upd_same ((r1.app r2).mono e)) q.2
  · obtain ⟨a, xs, rfl, h1, r1⟩ := nx.tup s.fh
    obtain ⟨b, ys, rfl, h2, r2⟩ := ny.tup s.fh
    -- the one that is empty gives the other itself: then it must be data
    rename_i as bs
    have tupRep : ∀ {v : V} {ds : List D}, Now K F H v (.tup ds) → Rep K F v (.tup ds) := fun {v ds} n => by
      rcases n with n | ⟨l, rfl, o⟩
      · exact n
      · cases o
    refine .inr (.inr (.inr ⟨a, b, xs, ys, rfl, rfl, h1, h2, by rw [r1.len, r2.len]; exact q.1, fun hx => ?_, fun hx hy => ?_, fun hx hy p hp => ?_⟩))
    · have e : as = [] := r1.nilV hx
      subst e
      exact k _ _ F H s (Ex.refl F) (tupRep ny) q.2
    · have e : bs = [] := r2.nilV hy
      subst e
      rw [List.append_nil] at q
      exact k _ _ F H s (Ex.refl F) (tupRep nx) q.2
    · have e := Ex.new (o := .tup (xs ++ ys)) (s.fh.fresh hp)
      exact k _ _ _ _ (s.alloc hp) e (.tup (.of upd_same) ((r1.app r2).mono e)) q.2
  · exact q.elim⟩
/-- two ints -/
def dI (C : Int → Int → Prop) (g : Int → Int → D) (x y : D) (Q : D → Prop) : Prop := match x, y with
  | .int i, .int j => C i j ∧ Q (g i j)
  | _, _ => False
theorem ro_I {C : Int → Int → Prop} {g : Int → Int → V} {gd : Int → Int → D} (h : ∀ F i j, Rep K F (g i j) (gd i j)) : RO K (rI C g) (dI C gd) := ⟨fun c ps σ F H x y dx dy Q QV s nx ny q k => by
  unfold dI at q
  split at q
  · exact ⟨_, _, nx.int, ny.int, q.1, k _ _ F H s (Ex.refl F) (h _ _ _) q.2⟩
  · exact q.elim⟩
def dI0 (g : Int → Int → D) (x y : D) (Q : D → Prop) : Prop := match x, y with
  | .int i, .int j => Q (g i j)
  | _, _ => False
theorem ro_I0 {g : Int → Int → V} {gd : Int → Int → D} (h : ∀ F i j, Rep K F (g i j) (gd i j)) : RO K (rI0 g) (dI0 gd) := ⟨fun c ps σ F H x y dx dy Q QV s nx ny q k => by
  unfold dI0 at q
  split at q
  · exact ⟨_, _, nx.int, ny.int, k _ _ F H s (Ex.refl F) (h _ _ _) q⟩
  · exact q.elim⟩
theorem ro_sub : RO K (rI0 fun i j => .int (i - j)) (dI0 fun i j => .int (i - j)) := ro_I0 fun _ _ _ => .int _
theorem ro_div : RO K (rI CDivW fun i j => .int (i / j)) (dI CDivW fun i j => .int (i / j)) := ro_I fun _ _ _ => .int _
theorem ro_mod : RO K (rI (fun _ j => 0 < j) fun i j => .int (i % j)) (dI (fun _ j => 0 < j) fun i j => .int (i % j)) := ro_I fun _ _ _ => .int _
theorem ro_pow : RO K (rI CPow fun i j => .int (i ^ j.toNat)) (dI CPow fun i j => .int (i ^ j.toNat)) := ro_I fun _ _ _ => .int _
theorem ro_shl : RO K (rI CShl fun i j => .int (i * 2 ^ j.toNat)) (dI CShl fun i j => .int (i * 2 ^ j.toNat)) := ro_I fun _ _ _ => .int _
theorem ro_shr : RO K (rI (fun _ j => 0 ≤ j) fun i j => .int (i / 2 ^ j.toNat)) (dI (fun _ j => 0 ≤ j) fun i j => .int (i / 2 ^ j.toNat)) := ro_I fun _ _ _ => .int _
theorem ro_and : RO K (rI0 fun i j => .int (Builtin.bitAnd i j)) (dI0 fun i j => .int (Builtin.bitAnd i j)) := ro_I0 fun _ _ _ => .int _
theorem ro_lt : RO K (rI0 fun i j => .bl (decide (i < j))) (dI0 fun i j => .bl (decide (i < j))) := ro_I0 fun _ _ _ => .bl _
theorem ro_le : RO K (rI0 fun i j => .bl (decide (i ≤ j))) (dI0 fun i j => .bl (decide (i ≤ j))) := ro_I0 fun _ _ _ => .bl _
theorem ro_gt : RO K (rI0 fun i j => .bl (decide (j < i))) (dI0 fun i j => .bl (decide (j < i))) := ro_I0 fun _ _ _ => .bl _
theorem ro_ge : RO K (rI0 fun i j => .bl (decide (j ≤ i))) (dI0 fun i j => .bl (decide (j ≤ i))) := ro_I0 fun _ _ _ => .bl _
/-- times: ints, a list so many times -/
def CMulA (i j : Int) : Prop := CMul i j ∨ CMulW i j
def rMulA : R2 := rOr (rI CMulA fun i j => .int (i * j)) rRep
theorem op_mulA {X : Cx} : OpR X (binaryOp .Mult) rMulA := OpR.or' (opI fun _ _ _ _ _ _ _ hc q => PyProof.Rows.mul_int q (hc.elim CMul.ok CMulW.ok)) op_rep
def dMul (x y : D) (Q : D → Prop) : Prop := match x, y with
  | .int i, .int j => CMulA i j ∧ Q (.int (i * j))
  | .lst a, .int j => (-(2 ^ 63) ≤ j ∧ j < 2 ^ 63) ∧ a.length * j.toNat ≤ sizeLine ∧ Q (.lst (List.replicate j.toNat a).flatten)
  | _, _ => False
theorem ro_mul : RO K rMulA dMul := ⟨fun c ps σ F H x y dx dy Q QV s nx ny q k => by
  unfold dMul at q
  split at q
  · exact .inl ⟨_, _, nx.int, ny.int, q.1, k _ _ F H s (Ex.refl F) (.int _) q.2⟩
  · obtain ⟨a, xs, rfl, h1, r1⟩ := nx.lst s.fh
    refine .inr ⟨a, _, xs, rfl, ny.int, h1, q.1.1, q.1.2, by rw [r1.len]; exact q.2.1, fun p hp => ?_⟩
    exact k _ _ _ _ (s.alloc hp) (Ex.new (s.fh.fresh hp)) (.lst upd_same ((r1.rep _).mono (Ex.new (s.fh.fresh hp)))) q.2.2
  · exact q.elim⟩
/-- a list so many times, as a new object -/
def dRepN (ta : DTN) (tb : DTE) : DTN := fun ps Q => ta ps fun d ps1 => tb ps1 fun h ps2 => match d, look ps2 h with
  | .lst a, some (.int j) => (-(2 ^ 63) ≤ j ∧ j < 2 ^ 63) ∧ a.length * j.toNat ≤ sizeLine ∧ Q (.lst (List.replicate j.toNat a).flatten) ps2
  | _, _ => False
theorem rn_rep {ta tb : TE} {da : DTN} {db : DTE} (ha : RE K ta da) (hb : RV K tb db) : RN K (tOp rMulA ta tb) (dRepN da db) := ⟨fun c ps σ F H Q QV s q k =>
  ha.run c ps σ F H _ _ s q fun v d ps1 F1 H1 s1 e1 r1 q => hb.run c ps1 σ F1 H1 _ _ s1 q fun w h ps2 F2 H2 s2 e2 r2 q => by
    generalize w1 : look ps2 h = o at q
    split at q
    · have r3 := r1.mono e2
      cases r3 with
      | @lst a' xs _ hq rr =>
        refine .inr ⟨_, _, xs, rfl, (s2.now r2 w1).int, s2.fh _ _ hq, q.1.1, q.1.2, by rw [rr.len]; exact q.2.1, fun p hp => ?_⟩
        exact k p _ ps2 F2 _ (s2.laid hp) (e1.trans e2) (.lst upd_same (rr.rep _)) (s2.fh.fresh hp) (s2.h0 hp) (s2.p0 hp) (s2.nw hp) q.2.2
    · exact q.elim⟩
/-- a list + a list, as a new object -/
def dCatN (ta tb : DTE) : DTN := fun ps Q => ta ps fun h1 ps1 => tb ps1 fun h2 ps2 => match look ps2 h1, look ps2 h2 with
  | some (.lst a), some (.lst b) => a.length + b.length ≤ sizeLine ∧ Q (.lst (a ++ b)) ps2
  | _, _ => False
theorem rn_cat {ta tb : TE} {da db : DTE} (ha : RV K ta da) (hb : RV K tb db) : RN K (tOp (rAddA K) ta tb) (dCatN da db) := ⟨fun c ps σ F H Q QV s q k =>
  ha.run c ps σ F H _ _ s q fun v h1 ps1 F1 H1 s1 e1 r1 q => hb.run c ps1 σ F1 H1 _ _ s1 q fun w h2 ps2 F2 H2 s2 e2 r2 q => by
    split at q
    · rename_i a b w1 w2
      obtain ⟨a', xs, rfl, g1, rr1⟩ := (s2.now (r1.mono e2) w1).lst s2.fh
      obtain ⟨b', ys, rfl, g2, rr2⟩ := (s2.now r2 w2).lst s2.fh
      refine .inr (.inr (.inl ⟨a', b', xs, ys, rfl, rfl, g1, g2, by rw [rr1.len, rr2.len]; exact q.1, fun p hp => ?_⟩))
      exact k p _ ps2 F2 _ (s2.laid hp) (e1.trans e2) (.lst upd_same (rr1.app rr2)) (s2.fh.fresh hp) (s2.h0 hp) (s2.p0 hp) (s2.nw hp) q.2
    · exact q.elim⟩

/-! ### 13. subscripts, slices -/
def dIx (x y : D) (Q : D → Prop) : Prop := match x, y with
  | .lst ds, .int i => match atI ds i with
    | some d => Q d
    | none => False
  | .tup ds, .int i => match atI ds i with
    | some d => Q d
    | none => False
  | .str z, .int i => z.length ≤ sizeLine ∧ match atI z.cps.toList i with
    | some n => Q (.str ⟨#[n]⟩)
    | none => False
  | _, _ => False
theorem RepL.atI {xs : List V} {ds : List D} {i : Int} {d : D} (r : RepL K F xs ds) (h : L2.atI ds i = some d) : ∃ v, L2.atI xs i = some v ∧ Rep K F v d := by
  unfold L2.atI at h ⊢
  rw [r.len]
  cases q : ixN ds.length i with
  | none => rw [q] at h; cases h
  | some j => rw [q] at h; exact r.get h
theorem ro_ix : RO K (rIx K) dIx := ⟨fun c ps σ F H x y dx dy Q QV s nx ny q k => by
  unfold dIx at q
  split at q
  · obtain ⟨a, xs, rfl, h1, r1⟩ := nx.lst s.fh
    split at q
    · rename_i d hd
      obtain ⟨v, h2, r2⟩ := r1.atI hd
      exact .inl ⟨a, xs, _, v, rfl, ny.int, .of h1, h2, k v d F H s (Ex.refl F) r2 q⟩
    · exact q.elim
  · obtain ⟨a, xs, rfl, h1, r1⟩ := nx.tup s.fh
    split at q
    · rename_i d hd
      obtain ⟨v, h2, r2⟩ := r1.atI hd
      exact .inr (.inl ⟨a, xs, _, v, rfl, ny.int, h1, h2, k v d F H s (Ex.refl F) r2 q⟩)
    · exact q.elim
  · obtain ⟨hz, q⟩ := q
    split at q
    · rename_i n hd
      exact .inr (.inr ⟨_, _, n, nx.str, ny.int, hz, hd, k _ _ F H s (Ex.refl F) (.str _) q⟩)
    · exact q.elim
  · exact q.elim⟩
/-- a slice's bounds -/
abbrev DTO := Pst → (Option Int → Pst → Prop) → Prop
structure RQ (K : PySem.W.Frag) (to : TO) (td : DTO) : Prop where
  run : ∀ (c : Fz) (ps : Pst) (σ : St) (F H : Hp) (Q : Option Int → Pst → Prop) (QV : Option Int → Hp → Prop), SR K c ps σ F H → td ps Q →
    (∀ o ps' F' H', SR K c ps' σ F' H' → Ex F F' → Q o ps' → QV o H') → to σ H QV
def dNoPart : DTO := fun ps Q => Q none ps
def dPart (t : DTE) : DTO := fun ps Q => t ps fun h ps1 => match look ps1 h with
  | some (.int i) => Q (some i) ps1
  | _ => False
theorem rq_none : RQ K tNoPart dNoPart := ⟨fun c ps σ F H Q QV s q k => k none ps F H s (Ex.refl F) q⟩
theorem rq_some {te : TE} {td : DTE} (h : RV K te td) : RQ K (tPart te) (dPart td) := ⟨fun c ps σ F H Q QV s q k => h.run c ps σ F H _ _ s q fun v hd ps' F' H' s' e r q => by
  split at q
  · rename_i i w
    exact ⟨i, (s'.now r w).int, k _ ps' F' H' s' e q⟩
  · exact q.elim⟩
def cutD (ds : List D) (lo hi : Option Int) : List D := (ds.drop (HT.sIx ds.length 0 lo)).take (HT.sIx ds.length ds.length hi - HT.sIx ds.length 0 lo)
theorem RepL.cut {xs : List V} {ds : List D} (r : RepL K F xs ds) (lo hi : Option Int) : RepL K F (cutV xs lo hi) (cutD ds lo hi) := by
  unfold cutV cutD; rw [r.len]; exact (r.drop _).take _
def rSlAny (K : PySem.W.Frag) : V → Option Int → Option Int → Hp → VK → Prop := fun x lo hi H Q => rSlL K x lo hi H Q ∨ (rSlA K x lo hi H Q ∨ rSlS x lo hi H Q)
theorem sl_any {X : Cx} : SlR X (rSlAny X.K) := SlR.or sl_list (SlR.or sl_tupA sl_str)
def dSl (te : DTE) (tl th : DTO) : DTE := fun ps Q => te ps fun h ps1 => tl ps1 fun lo ps2 => th ps2 fun hi ps3 => match look ps3 h with
  | some (.lst ds) => Q (.p (.lst (cutD ds lo hi))) ps3
  | some (.frl ds) => Q (.p (.lst (cutD ds lo hi))) ps3
  | some (.tup ds) => Q (.p (.tup (cutD ds lo hi))) ps3
  | some (.str z) => z.length ≤ sizeLine ∧ Q (.p (.str (cutS z lo hi))) ps3
  | _ => False
theorem rv_sl {te : TE} {tl th : TO} {de : DTE} {dl dh : DTO} (he : RV K te de) (hl : RQ K tl dl) (hh : RQ K th dh) : RV K (tSl (rSlAny K) te tl th) (dSl de dl dh) := ⟨fun c ps σ F H Q QV s q k =>
  he.run c ps σ F H _ _ s q fun v h ps1 F1 H1 s1 e1 r1 q => hl.run c ps1 σ F1 H1 _ _ s1 q fun lo ps2 F2 H2 s2 e2 q => hh.run c ps2 σ F2 H2 _ _ s2 q fun hi ps3 F3 H3 s3 e3 q => by
    have e13 := (e1.trans e2).trans e3
    have nr := fun {d} (w : look ps3 h = some d) => s3.now ((r1.mono e2).mono e3) w
    split at q
    · rename_i ds w
      obtain ⟨a, xs, rfl, h1, rr⟩ := (nr w).lst s3.fh
      refine .inl ⟨a, xs, rfl, .of h1, fun p hp => ?_⟩
      have e := Ex.new (o := .lst (cutV xs lo hi)) (s3.fh.fresh hp)
      exact k _ (.p _) ps3 _ _ (s3.alloc hp) (e13.trans e) (Rep.lst upd_same ((rr.cut lo hi).mono e)) q
    · rename_i ds w
      obtain ⟨a, xs, rfl, h1, rr⟩ := (nr w).frl s3.fh
      refine .inl ⟨a, xs, rfl, h1, fun p hp => ?_⟩
      have e := Ex.new (o := .lst (cutV xs lo hi)) (s3.fh.fresh hp)
      exact k _ (.p _) ps3 _ _ (s3.alloc hp) (e13.trans e) (Rep.lst upd_same ((rr.cut lo hi).mono e)) q
    · rename_i ds w
      have n := nr w
      obtain ⟨a, xs, rfl, h1, rr⟩ := n.tup s3.fh
      refine .inr (.inl ⟨a, xs, rfl, h1, fun hw => ?_, fun _ p hp => ?_⟩)
      · have tr : Rep K F3 (.ref a) (.tup ds) := by
          rcases n with n | ⟨l, e, o⟩
          · exact n
          · cases o
        have ec : cutD ds lo hi = ds := by
          unfold cutD
          rw [rr.len] at hw
          rw [hw.1, hw.2, List.drop_zero, Nat.sub_zero, List.take_length]
        rw [ec] at q
        exact k _ (.p _) ps3 F3 H3 s3 e13 tr q
      · have e := Ex.new (o := .tup (cutV xs lo hi)) (s3.fh.fresh hp)
        exact k _ (.p _) ps3 _ _ (s3.alloc hp) (e13.trans e) (Rep.tup (.of upd_same) ((rr.cut lo hi).mono e)) q
    · rename_i z w
      exact .inr (.inr ⟨z, (nr w).str, q.1, k _ (.p _) ps3 F3 H3 s3 e13 (Rep.str _) q.2⟩)
    · exact q.elim⟩
/-- a slice of a list as a new object -/
def dSlN (te : DTE) (tl th : DTO) : DTN := fun ps Q => te ps fun h ps1 => tl ps1 fun lo ps2 => th ps2 fun hi ps3 => match look ps3 h with
  | some (.lst ds) => Q (.lst (cutD ds lo hi)) ps3
  | some (.frl ds) => Q (.lst (cutD ds lo hi)) ps3
  | _ => False
theorem rn_sl {te : TE} {tl th : TO} {de : DTE} {dl dh : DTO} (he : RV K te de) (hl : RQ K tl dl) (hh : RQ K th dh) : RN K (tSl (rSlAny K) te tl th) (dSlN de dl dh) := ⟨fun c ps σ F H Q QV s q k =>
  he.run c ps σ F H _ _ s q fun v h ps1 F1 H1 s1 e1 r1 q => hl.run c ps1 σ F1 H1 _ _ s1 q fun lo ps2 F2 H2 s2 e2 q => hh.run c ps2 σ F2 H2 _ _ s2 q fun hi ps3 F3 H3 s3 e3 q => by
    have e13 := (e1.trans e2).trans e3
    have nr := fun {d} (w : look ps3 h = some d) => s3.now ((r1.mono e2).mono e3) w
    split at q
    · rename_i ds w
      obtain ⟨a, xs, rfl, h1, rr⟩ := (nr w).lst s3.fh
      exact .inl ⟨a, xs, rfl, .of h1, fun p hp => k p _ ps3 F3 _ (s3.laid hp) e13 (.lst upd_same (rr.cut lo hi)) (s3.fh.fresh hp) (s3.h0 hp) (s3.p0 hp) (s3.nw hp) q⟩
    · rename_i ds w
      obtain ⟨a, xs, rfl, h1, rr⟩ := (nr w).frl s3.fh
      exact .inl ⟨a, xs, rfl, h1, fun p hp => k p _ ps3 F3 _ (s3.laid hp) e13 (.lst upd_same (rr.cut lo hi)) (s3.fh.fresh hp) (s3.h0 hp) (s3.p0 hp) (s3.nw hp) q⟩
    · exact q.elim⟩
/-- a < b < c -/
def dChain (r r' : D → D → (D → Prop) → Prop) (ta tb tc : DTE) : DTE := fun ps Q => ta ps fun h1 ps1 => tb ps1 fun h2 ps2 => match look ps2 h1, look ps2 h2 with
  | some x, some y => r x y fun z => match z with
    | .bl true => tc ps2 fun h3 ps3 => match look ps3 h2, look ps3 h3 with
      | some y', some w => r' y' w fun d => Q (.p d) ps3
      | _, _ => False
    | .bl false => Q (.p (.bl false)) ps2
    | _ => False
  | _, _ => False
theorem rv_chain {r r' : R2} {rd rd' : D → D → (D → Prop) → Prop} {ta tb tc : TE} {da db dc : DTE} (ho : RO K r rd) (ho' : RO K r' rd') (ha : RV K ta da) (hb : RV K tb db) (hc : RV K tc dc) : RV K (tChain r r' ta tb tc) (dChain rd rd' da db dc) := ⟨fun c ps σ F H Q QV s q k =>
  ha.run c ps σ F H _ _ s q fun x h1 ps1 F1 H1 s1 e1 r1 q => hb.run c ps1 σ F1 H1 _ _ s1 q fun y h2 ps2 F2 H2 s2 e2 r2 q => by
    split at q
    · rename_i dx dy w1 w2
      refine ho.run c ps2 σ F2 H2 x y dx dy _ _ s2 (s2.now (r1.mono e2) w1) (s2.now r2 w2) q fun v d F3 H3 s3 e3 r3 q => ?_
      split at q
      · cases r3
        refine ⟨true, rfl, ?_⟩
        rw [if_pos rfl]
        refine hc.run c ps2 σ F3 H3 _ _ s3 q fun w h3 ps4 F4 H4 s4 e4 r4 q => ?_
        split at q
        · rename_i dy' dw w3 w4
          exact ho'.run c ps4 σ F4 H4 y w dy' dw _ QV s4 (s4.now ((r2.mono e3).mono e4) w3) (s4.now r4 w4) q fun v d F5 H5 s5 e5 r5 q => k v (.p d) ps4 F5 H5 s5 (((((e1.trans e2).trans e3).trans e4)).trans e5) r5 q
        · exact q.elim
      · cases r3
        refine ⟨false, rfl, ?_⟩
        rw [if_neg (by decide)]
        exact k _ (.p (.bl false)) ps2 F3 H3 s3 ((e1.trans e2).trans e3) (Rep.bl false) q
      · exact q.elim
    · exact q.elim⟩
/-- is None, is not None -/
def rIsN : R2 := fun x y H Q => y = .non ∧ Q (.bl (decide (x = .non))) H
def rNotN : R2 := fun x y H Q => y = .non ∧ Q (.bl (!decide (x = .non))) H
def D.isNon : D → Bool
  | .non => true
  | _ => false
theorem Now.isNon {v : V} {d : D} (n : Now K F H v d) : decide (v = .non) = d.isNon := by
  rcases n with n | ⟨l, rfl, o⟩
  · cases n <;> rfl
  · cases o <;> rfl
def dIsN (x y : D) (Q : D → Prop) : Prop := match y with
  | .non => Q (.bl x.isNon)
  | _ => False
def dNotN (x y : D) (Q : D → Prop) : Prop := match y with
  | .non => Q (.bl (!x.isNon))
  | _ => False
theorem ro_isN : RO K rIsN dIsN := ⟨fun c ps σ F H x y dx dy Q QV s nx ny q k => by
  unfold dIsN at q
  split at q
  · exact ⟨ny.non, by rw [nx.isNon]; exact k _ _ F H s (Ex.refl F) (.bl _) q⟩
  · exact q.elim⟩
theorem ro_notN : RO K rNotN dNotN := ⟨fun c ps σ F H x y dx dy Q QV s nx ny q k => by
  unfold dNotN at q
  split at q
  · exact ⟨ny.non, by rw [nx.isNon]; exact k _ _ F H s (Ex.refl F) (.bl _) q⟩
  · exact q.elim⟩
/-- in, not in a list or tuple of flat things -/
def D.flat : D → Bool
  | .non => true
  | .bl _ => true
  | .int _ => true
  | .str _ => true
  | _ => false
def D.inn (x : D) (xs : List D) : Bool := xs.any fun y => D.eqv y x
theorem flatV_of {v : V} {d : D} (r : Rep K F v d) : flatV v = d.flat := by cases r <;> rfl
theorem eqV_of {v w : V} {d e : D} (r : Rep K F v d) (r' : Rep K F w e) (h : d.flat = true) (h' : e.flat = true) : eqV v w = D.eqv d e := by
  cases r <;> first | (cases h; done) | (cases r' <;> first | (cases h'; done) | (unfold D.eqv; simp [D.py, PyData.eqv, eqV]))
theorem allFlat {xs : List V} {ds : List D} (r : RepL K F xs ds) : xs.all flatV = ds.all D.flat := by
  induction xs generalizing ds with
  | nil => cases r; rfl
  | cons v xs ih => cases r with
    | cons h r => rw [List.all_cons, List.all_cons, flatV_of h, ih r]
theorem inV_of {v : V} {d : D} (rv : Rep K F v d) (hf : d.flat = true) : ∀ {xs : List V} {ds : List D}, RepL K F xs ds → ds.all D.flat = true → inV v xs = D.inn d ds
  | _, _, .nil, _ => rfl
  | _, _, .cons h r, hd => by
    rw [List.all_cons, Bool.and_eq_true] at hd
    have ih := inV_of rv hf r hd.2
    unfold inV at ih ⊢
    unfold D.inn at ih ⊢
    rw [List.any_cons, List.any_cons, ih, eqV_of h rv hd.1 hf]
def dIn (neg : Bool) (x y : D) (Q : D → Prop) : Prop := match y with
  | .lst ds => (x.flat = true ∧ ds.all D.flat = true) ∧ Q (.bl (if neg then !x.inn ds else x.inn ds))
  | .tup ds => (x.flat = true ∧ ds.all D.flat = true) ∧ Q (.bl (if neg then !x.inn ds else x.inn ds))
  | _ => False
theorem Now.flat {v : V} {d : D} (n : Now K F H v d) (h : d.flat = true) : Rep K F v d := by
  rcases n with n | ⟨l, rfl, o⟩
  · exact n
  · cases o <;> cases h
theorem ro_in (neg : Bool) : RO K (rIn K neg) (dIn neg) := ⟨fun c ps σ F H x y dx dy Q QV s nx ny q k => by
  unfold dIn at q
  split at q
  · obtain ⟨a, xs, rfl, h1, r1⟩ := ny.lst s.fh
    have rx := nx.flat q.1.1
    exact ⟨a, xs, rfl, .inl (.of h1), by rw [flatV_of rx]; exact q.1.1, by rw [allFlat r1]; exact q.1.2, by rw [inV_of rx q.1.1 r1 q.1.2]; exact k _ _ F H s (Ex.refl F) (.bl _) q.2⟩
  · obtain ⟨a, xs, rfl, h1, r1⟩ := ny.tup s.fh
    have rx := nx.flat q.1.1
    exact ⟨a, xs, rfl, .inr h1, by rw [flatV_of rx]; exact q.1.1, by rw [allFlat r1]; exact q.1.2, by rw [inV_of rx q.1.1 r1 q.1.2]; exact k _ _ F H s (Ex.refl F) (.bl _) q.2⟩
  · exact q.elim⟩

/-! ### 14. built-ins -/
theorem RC.or1 {r r' : List V → Hp → VK → Prop} {rd : List D → (D → Prop) → Prop} (h : RC K r rd) : RC K (fun xs H Q => r xs H Q ∨ r' xs H Q) rd := ⟨fun c ps σ F H xs ds Q QV s n q k => .inl (h.run c ps σ F H xs ds Q QV s n q k)⟩
def rLen (K : PySem.W.Frag) : List V → Hp → VK → Prop := fun xs H Q => ∃ x n, xs = [x] ∧ LenV K x H n ∧ Q (.int n) H
def dLen (ds : List D) (Q : D → Prop) : Prop := match ds with
  | [.str x] => x.length ≤ sizeLine ∧ Q (.int x.length)
  | [.lst l] => Q (.int l.length)
  | [.tup l] => Q (.int l.length)
  | _ => False
theorem rc_len : RC K (rLen K) dLen := ⟨fun c ps σ F H xs ds Q QV s nl q k => by
  unfold dLen at q
  split at q
  · obtain ⟨x, rfl, n⟩ := nl.one
    rw [n.str]
    exact ⟨_, _, rfl, ⟨q.1, rfl⟩, k _ _ F H s (Ex.refl F) (.int _) q.2⟩
  · obtain ⟨x, rfl, n⟩ := nl.one
    obtain ⟨a, xs, rfl, h1, r1⟩ := n.lst s.fh
    exact ⟨_, _, rfl, .inl ⟨xs, .of h1, rfl⟩, by rw [r1.len]; exact k _ _ F H s (Ex.refl F) (.int _) q⟩
  · obtain ⟨x, rfl, n⟩ := nl.one
    obtain ⟨a, xs, rfl, h1, r1⟩ := n.tup s.fh
    exact ⟨_, _, rfl, .inr ⟨xs, h1, rfl⟩, by rw [r1.len]; exact k _ _ F H s (Ex.refl F) (.int _) q⟩
  · exact q.elim⟩
def rInt1 : List V → Hp → VK → Prop := fun xs H Q => (∃ i, xs = [.int i] ∧ Q (.int i) H) ∨ ∃ k, xs = [.bl k] ∧ Q (.int (if k then 1 else 0)) H
def dInt1 (ds : List D) (Q : D → Prop) : Prop := match ds with
  | [.int i] => Q (.int i)
  | [.bl b] => Q (.int (if b then 1 else 0))
  | _ => False
theorem rc_int1 : RC K rInt1 dInt1 := ⟨fun c ps σ F H xs ds Q QV s nl q k => by
  unfold dInt1 at q
  split at q
  · obtain ⟨x, rfl, n⟩ := nl.one
    rw [n.int]; exact .inl ⟨_, rfl, k _ _ F H s (Ex.refl F) (.int _) q⟩
  · obtain ⟨x, rfl, n⟩ := nl.one
    rw [n.bl]; exact .inr ⟨_, rfl, k _ _ F H s (Ex.refl F) (.int _) q⟩
  · exact q.elim⟩
def rAbs : List V → Hp → VK → Prop := fun xs H Q => ∃ i, xs = [.int i] ∧ Q (.int (if i < 0 then -i else i)) H
def dAbs (ds : List D) (Q : D → Prop) : Prop := match ds with
  | [.int i] => Q (.int (if i < 0 then -i else i))
  | _ => False
theorem rc_abs : RC K rAbs dAbs := ⟨fun c ps σ F H xs ds Q QV s nl q k => by
  unfold dAbs at q
  split at q
  · obtain ⟨x, rfl, n⟩ := nl.one
    rw [n.int]; exact ⟨_, rfl, k _ _ F H s (Ex.refl F) (.int _) q⟩
  · exact q.elim⟩
def rMax2 : List V → Hp → VK → Prop := fun xs H Q => ∃ i j, xs = [.int i, .int j] ∧ Q (.int (if j > i then j else i)) H
def rMin2 : List V → Hp → VK → Prop := fun xs H Q => ∃ i j, xs = [.int i, .int j] ∧ Q (.int (if j < i then j else i)) H
def dMM (g : Int → Int → Int) (ds : List D) (Q : D → Prop) : Prop := match ds with
  | [.int i, .int j] => Q (.int (g i j))
  | _ => False
theorem rc_max2 : RC K rMax2 (dMM fun i j => if j > i then j else i) := ⟨fun c ps σ F H xs ds Q QV s nl q k => by
  unfold dMM at q
  split at q
  · obtain ⟨x, y, rfl, n, n'⟩ := nl.two
    rw [n.int, n'.int]; exact ⟨_, _, rfl, k _ _ F H s (Ex.refl F) (.int _) q⟩
  · exact q.elim⟩
theorem rc_min2 : RC K rMin2 (dMM fun i j => if j < i then j else i) := ⟨fun c ps σ F H xs ds Q QV s nl q k => by
  unfold dMM at q
  split at q
  · obtain ⟨x, y, rfl, n, n'⟩ := nl.two
    rw [n.int, n'.int]; exact ⟨_, _, rfl, k _ _ F H s (Ex.refl F) (.int _) q⟩
  · exact q.elim⟩
def D.ints : List D → Option (List Int)
  | [] => some []
  | .int i :: r => (D.ints r).map (i :: ·)
  | _ => none
theorem D.ints_eq : ∀ {ds : List D} {ns : List Int}, D.ints ds = some ns → ds = ns.map D.int
  | [], ns, h => by cases h; rfl
  | d :: r, ns, h => by
    cases d with
    | int i =>
      unfold D.ints at h
      cases q : D.ints r with
      | none => rw [q] at h; cases h
      | some ms =>
        rw [q] at h; cases h
        rw [D.ints_eq q]; rfl
    | _ => cases h
theorem D.ints_map (ns : List Int) : D.ints (ns.map D.int) = some ns := by
  induction ns with
  | nil => rfl
  | cons n ns ih => show (D.ints (ns.map D.int)).map (n :: ·) = _; rw [ih]; rfl
def D.bls : List D → Option (List Bool)
  | [] => some []
  | .bl i :: r => (D.bls r).map (i :: ·)
  | _ => none
theorem D.bls_eq : ∀ {ds : List D} {ns : List Bool}, D.bls ds = some ns → ds = ns.map D.bl
  | [], ns, h => by cases h; rfl
  | d :: r, ns, h => by
    cases d with
    | bl i =>
      unfold D.bls at h
      cases q : D.bls r with
      | none => rw [q] at h; cases h
      | some ms =>
        rw [q] at h; cases h
        rw [D.bls_eq q]; rfl
    | _ => cases h
theorem D.bls_map (ns : List Bool) : D.bls (ns.map D.bl) = some ns := by
  induction ns with
  | nil => rfl
  | cons n ns ih => show (D.bls (ns.map D.bl)).map (n :: ·) = _; rw [ih]; rfl
theorem Now.ints {v : V} {ds : List D} {ns : List Int} (e : Ex F H) (n : Now K F H v (.lst ds)) (h : D.ints ds = some ns) : ∃ a, v = .ref a ∧ H a = some (.lst (ns.map V.int)) := by
  obtain ⟨a, xs, rfl, h1, r1⟩ := n.lst e
  rw [D.ints_eq h] at r1
  exact ⟨a, rfl, by rw [h1, r1.intsV]⟩
def dSum (ds : List D) (Q : D → Prop) : Prop := match ds with
  | [.lst l] => match D.ints l with
    | some ns => Q (.int ns.sum)
    | none => False
  | _ => False
theorem rc_sum : RC K (rSum K) dSum := ⟨fun c ps σ F H xs ds Q QV s nl q k => by
  unfold dSum at q
  split at q
  · split at q
    · rename_i ns w
      obtain ⟨x, rfl, n⟩ := nl.one
      obtain ⟨a, rfl, h⟩ := n.ints s.fh w
      exact ⟨a, ns, rfl, .of h, k _ _ F H s (Ex.refl F) (.int _) q⟩
    · exact q.elim
  · exact q.elim⟩
def dMaxL (ds : List D) (Q : D → Prop) : Prop := match ds with
  | [.lst l] => match D.ints l with
    | some ns => 0 < ns.length ∧ ∀ m, m ∈ ns → (∀ y, y ∈ ns → y ≤ m) → Q (.int m)
    | none => False
  | _ => False
def dMinL (ds : List D) (Q : D → Prop) : Prop := match ds with
  | [.lst l] => match D.ints l with
    | some ns => 0 < ns.length ∧ ∀ m, m ∈ ns → (∀ y, y ∈ ns → m ≤ y) → Q (.int m)
    | none => False
  | _ => False
theorem rc_maxL : RC K (rMax K) dMaxL := ⟨fun c ps σ F H xs ds Q QV s nl q k => by
  unfold dMaxL at q
  split at q
  · split at q
    · rename_i ns w
      obtain ⟨x, rfl, n⟩ := nl.one
      obtain ⟨a, rfl, h⟩ := n.ints s.fh w
      exact ⟨a, ns, rfl, .of h, q.1, fun m h1 h2 => k _ _ F H s (Ex.refl F) (.int _) (q.2 m h1 h2)⟩
    · exact q.elim
  · exact q.elim⟩
theorem rc_minL : RC K (rMin K) dMinL := ⟨fun c ps σ F H xs ds Q QV s nl q k => by
  unfold dMinL at q
  split at q
  · split at q
    · rename_i ns w
      obtain ⟨x, rfl, n⟩ := nl.one
      obtain ⟨a, rfl, h⟩ := n.ints s.fh w
      exact ⟨a, ns, rfl, .of h, q.1, fun m h1 h2 => k _ _ F H s (Ex.refl F) (.int _) (q.2 m h1 h2)⟩
    · exact q.elim
  · exact q.elim⟩
def dAll (g : List Bool → Bool) (ds : List D) (Q : D → Prop) : Prop := match ds with
  | [.lst l] => match D.bls l with
    | some bs => Q (.bl (g bs))
    | none => False
  | _ => False
theorem Now.bls {v : V} {ds : List D} {ns : List Bool} (e : Ex F H) (n : Now K F H v (.lst ds)) (h : D.bls ds = some ns) : ∃ a, v = .ref a ∧ H a = some (.lst (ns.map V.bl)) := by
  obtain ⟨a, xs, rfl, h1, r1⟩ := n.lst e
  rw [D.bls_eq h] at r1
  exact ⟨a, rfl, by rw [h1, r1.blsV]⟩
theorem rc_all : RC K (rAll K) (dAll fun bs => bs.all id) := ⟨fun c ps σ F H xs ds Q QV s nl q k => by
  unfold dAll at q
  split at q
  · split at q
    · rename_i ns w
      obtain ⟨x, rfl, n⟩ := nl.one
      obtain ⟨a, rfl, h⟩ := n.bls s.fh w
      exact ⟨a, ns, rfl, .of h, k _ _ F H s (Ex.refl F) (.bl _) q⟩
    · exact q.elim
  · exact q.elim⟩
theorem rc_any : RC K (rAny K) (dAll fun bs => bs.any id) := ⟨fun c ps σ F H xs ds Q QV s nl q k => by
  unfold dAll at q
  split at q
  · split at q
    · rename_i ns w
      obtain ⟨x, rfl, n⟩ := nl.one
      obtain ⟨a, rfl, h⟩ := n.bls s.fh w
      exact ⟨a, ns, rfl, .of h, k _ _ F H s (Ex.refl F) (.bl _) q⟩
    · exact q.elim
  · exact q.elim⟩
def rTupOf (K : PySem.W.Frag) : List V → Hp → VK → Prop := fun xs H Q => ∃ p ys, xs = [.ref p] ∧ ((SqL K H p ys ∧ ∀ l, H l = none → Q (.ref l) (upd H l (.tup ys))) ∨ (SqT K H p ys ∧ Q (.ref p) H))
def dTupOf (ds : List D) (Q : D → Prop) : Prop := match ds with
  | [.lst l] => Q (.tup l)
  | [.tup l] => Q (.tup l)
  | _ => False
theorem rc_tuple : RC K (rTupOf K) dTupOf := ⟨fun c ps σ F H xs ds Q QV s nl q k => by
  unfold dTupOf at q
  split at q
  · obtain ⟨x, rfl, n⟩ := nl.one
    obtain ⟨a, xs, rfl, h1, r1⟩ := n.lst s.fh
    refine ⟨a, xs, rfl, .inl ⟨.of h1, fun p hp => ?_⟩⟩
    have e := Ex.new (o := .tup xs) (s.fh.fresh hp)
    exact k _ _ _ _ (s.alloc hp) e (.tup (.of upd_same) (r1.mono e)) q
  · obtain ⟨x, rfl, n⟩ := nl.one
    obtain ⟨a, xs, rfl, h1, r1⟩ := n.tup s.fh
    refine ⟨a, xs, rfl, .inr ⟨h1, ?_⟩⟩
    rcases n with n | ⟨l, e, o⟩
    · exact k _ _ F H s (Ex.refl F) n q
    · cases o
  · exact q.elim⟩
def rListOf (K : PySem.W.Frag) : List V → Hp → VK → Prop := fun xs H Q => ∃ p ys, xs = [.ref p] ∧ (SqL K H p ys ∨ SqT K H p ys) ∧ ∀ l, H l = none → Q (.ref l) (upd H l (.lst ys))
def dListOf (ta : DTH) : DTN := fun ps Q => ta ps fun hs ps1 => match looks ps1 hs with
  | some [.lst l] => Q (.lst l) ps1
  | some [.tup l] => Q (.lst l) ps1
  | _ => False
theorem rn_list {ta : TA} {da : DTH} (h : RH K ta da) : RN K (tCB (rListOf K) ta) (dListOf da) := ⟨fun c ps σ F H Q QV s q k => h.run c ps σ F H _ _ s q fun vs hs ps1 F1 H1 s1 e1 r q => by
  split at q
  · rename_i l w
    obtain ⟨x, rfl, n⟩ := (s1.nows r w).one
    obtain ⟨a, xs, rfl, h1, r1⟩ := n.lst s1.fh
    exact ⟨a, xs, rfl, .inl (.of h1), fun p hp => k p _ ps1 F1 _ (s1.laid hp) e1 (.lst upd_same r1) (s1.fh.fresh hp) (s1.h0 hp) (s1.p0 hp) (s1.nw hp) q⟩
  · rename_i l w
    obtain ⟨x, rfl, n⟩ := (s1.nows r w).one
    obtain ⟨a, xs, rfl, h1, r1⟩ := n.tup s1.fh
    exact ⟨a, xs, rfl, .inr h1, fun p hp => k p _ ps1 F1 _ (s1.laid hp) e1 (.lst upd_same r1) (s1.fh.fresh hp) (s1.h0 hp) (s1.p0 hp) (s1.nw hp) q⟩
  · exact q.elim⟩
/-- sorted, ints -/
def dSortI (ta : DTH) : DTN := fun ps Q => ta ps fun hs ps1 => match looks ps1 hs with
  | some [.lst l] => match D.ints l with
    | some ns => ∀ ns' : List Int, ns'.Perm ns → ns'.Pairwise (· ≤ ·) → Q (.lst (ns'.map D.int)) ps1
    | none => False
  | _ => False
theorem rn_sortI {ta : TA} {da : DTH} (h : RH K ta da) : RN K (tCB (rSortedI K) ta) (dSortI da) := ⟨fun c ps σ F H Q QV s q k => h.run c ps σ F H _ _ s q fun vs hs ps1 F1 H1 s1 e1 r q => by
  split at q
  · rename_i l w
    split at q
    · rename_i ns w2
      obtain ⟨x, rfl, n⟩ := (s1.nows r w).one
      obtain ⟨a, rfl, h⟩ := n.ints s1.fh w2
      exact ⟨a, ns, rfl, .of h, fun ns' p hp1 hp2 hp => k p _ ps1 F1 _ (s1.laid hp) e1 (.lst upd_same RepL.ints) (s1.fh.fresh hp) (s1.h0 hp) (s1.p0 hp) (s1.nw hp) (q ns' hp1 hp2)⟩
    · exact q.elim
  · exact q.elim⟩

/-! ### 15. lists that change -/
def ownL (ps : Pst) (i : Nat) : Option (List D) := match ps[i]? with
  | some (.ow (.lst xs)) => some xs
  | some (.io _ (.lst xs)) => some xs
  | _ => none
def putL (ps : Pst) (i : Nat) (d : D) : Pst := match ps[i]? with
  | some s => ps.set i (s.put d)
  | none => ps
theorem SR.ownL (s : SR K c ps σ F H) {i : Nat} {ds : List D} (h : Z.ownL ps i = some ds) : ∃ l xs, σ[i]? = some (some (.ref l)) ∧ H l = some (.lst xs) ∧ RepL K F xs ds ∧
    ∀ (ys : List V) (es : List D), RepL K F ys es → SR K c (putL ps i (.lst es)) σ F (upd H l (.lst ys)) := by
  unfold Z.ownL at h
  have go : ∀ t, ps[i]? = some t → t.ownd = some (.lst ds) → ∃ l xs, σ[i]? = some (some (.ref l)) ∧ H l = some (.lst xs) ∧ RepL K F xs ds ∧
      ∀ (ys : List V) (es : List D), RepL K F ys es → SR K c (putL ps i (.lst es)) σ F (upd H l (.lst ys)) := fun t w ht => by
    obtain ⟨l, h1, h2, h3, h4⟩ := s.on i t _ w ht
    cases h2 with
    | @lst xs _ hl r =>
      refine ⟨l, xs, h1, hl, r, fun ys es r' => ?_⟩
      unfold putL
      simp only [w]
      exact s.change w ht h1 (.lst upd_same r')
  split at h
  · rename_i xs w
    cases h
    exact go _ w rfl
  · rename_i xs w
    cases h
    exact go _ w rfl
  · cases h
def dApp (i : Nat) (t : DTN) : DTS := fun Dd ps => (ownL ps i).isSome = true ∧ t ps fun d ps1 => match ownL ps1 i with
  | some xs => xs.length < sizeLine ∧ Dd.nx (putL ps1 i (.lst (xs ++ [d])))
  | none => False
theorem rs_app {te : TE} {de : DTN} (i : Nat) (h : RE K te de) : RS K md (tDrop (tBM K "list" rAppend (tVar i) (tCons te tNil))) (dApp i de) := ⟨fun c ps σ F H Dd E s q l => by
  obtain ⟨q1, q2⟩ := q
  obtain ⟨ds0, h0⟩ := Option.isSome_iff_exists.mp q1
  obtain ⟨a, xs0, h1, h2, _⟩ := s.ownL h0
  refine ⟨_, h1, .inl ⟨rfl, xs0, .of h2⟩, h.run c ps σ F H _ _ s q2 fun v d ps1 F1 H1 s1 e1 r1 q => ?_⟩
  split at q
  · rename_i xs w
    obtain ⟨a', xs1, g1, g2, g3, g4⟩ := s1.ownL w
    rw [h1] at g1; cases g1
    exact ⟨a, xs1, v, rfl, rfl, g2, by rw [g3.len]; exact q.1, l.nx _ σ F1 _ (g4 _ _ (g3.app (.cons r1 .nil))) q.2⟩
  · exact q.elim⟩
def dExt (i : Nat) (t : DTE) : DTS := fun Dd ps => (ownL ps i).isSome = true ∧ t ps fun h ps1 => match ownL ps1 i, look ps1 h with
  | some xs, some (.lst ys) => xs.length + ys.length ≤ sizeLine ∧ Dd.nx (putL ps1 i (.lst (xs ++ ys)))
  | _, _ => False
theorem rs_ext {te : TE} {de : DTE} (i : Nat) (h : RV K te de) : RS K md (tDrop (tBM K "list" rExtend (tVar i) (tCons te tNil))) (dExt i de) := ⟨fun c ps σ F H Dd E s q l => by
  obtain ⟨q1, q2⟩ := q
  obtain ⟨ds0, h0⟩ := Option.isSome_iff_exists.mp q1
  obtain ⟨a, xs0, h1, h2, _⟩ := s.ownL h0
  refine ⟨_, h1, .inl ⟨rfl, xs0, .of h2⟩, h.run c ps σ F H _ _ s q2 fun v hd ps1 F1 H1 s1 e1 r1 q => ?_⟩
  split at q
  · rename_i xs ys w w2
    obtain ⟨a', xs1, g1, g2, g3, g4⟩ := s1.ownL w
    rw [h1] at g1; cases g1
    obtain ⟨b, zs, rfl, hb, rb⟩ := (s1.now r1 w2).lst s1.fh
    exact ⟨a, b, xs1, zs, rfl, rfl, g2, hb, by rw [g3.len, rb.len]; exact q.1, l.nx _ σ F1 _ (g4 _ _ (g3.app rb)) q.2⟩
  · exact q.elim⟩
/-- xs[k] = e -/
def dSetI (i : Nat) (ti : DTE) (t : DTN) : DTS := fun Dd ps => t ps fun d ps1 => (ownL ps1 i).isSome = true ∧ ti ps1 fun h ps2 => match ownL ps2 i, look ps2 h with
  | some xs, some (.int k) => match ixN xs.length k with
    | some j => Dd.nx (putL ps2 i (.lst (xs.set j d)))
    | none => False
  | _, _ => False
theorem rs_setI {te ti : TE} {de : DTN} {di : DTE} (i : Nat) (h : RE K te de) (hi : RV K ti di) : RS K md (tAsg te (gSub (tVar i) ti rSetL)) (dSetI i di de) := ⟨fun c ps σ F H Dd E s q l =>
  h.run c ps σ F H _ _ s q fun v d ps1 F1 H1 s1 e1 r1 q => by
    obtain ⟨q1, q2⟩ := q
    obtain ⟨ds0, h0⟩ := Option.isSome_iff_exists.mp q1
    obtain ⟨a, xs0, h1, h2, _⟩ := s1.ownL h0
    refine ⟨_, h1, hi.run c ps1 σ F1 H1 _ _ s1 q2 fun w hd ps2 F2 H2 s2 e2 r2 q => ?_⟩
    split at q
    · rename_i xs k w1 w2
      split at q
      · rename_i j w3
        obtain ⟨a', xs1, g1, g2, g3, g4⟩ := s2.ownL w1
        rw [h1] at g1; cases g1
        exact ⟨a, xs1, k, j, rfl, (s2.now r2 w2).int, g2, by rw [g3.len]; exact w3, l.nx _ σ F2 _ (g4 _ _ (g3.set (r1.mono e2) j)) q⟩
      · exact q.elim
    · exact q.elim⟩
/-- xs.pop(), xs.pop(k) -/
def dPop (i : Nat) : DTE := fun ps Q => match ownL ps i with
  | some xs => match xs[xs.length - 1]? with
    | some d => Q (.p d) (putL ps i (.lst xs.dropLast))
    | none => False
  | none => False
theorem RepL.dropLast {xs : List V} {ds : List D} (r : RepL K F xs ds) : RepL K F xs.dropLast ds.dropLast := by
  rw [List.dropLast_eq_take, List.dropLast_eq_take, r.len]; exact r.take _
theorem rv_pop (i : Nat) : RV K (tBM0 K "list" rPop (tVar i)) (dPop i) := ⟨fun c ps σ F H Q QV s q k => by
  unfold dPop at q
  split at q
  · rename_i xs w
    split at q
    · rename_i d w2
      obtain ⟨a, xs1, g1, g2, g3, g4⟩ := s.ownL w
      obtain ⟨v, hv, rv⟩ := g3.get w2
      exact ⟨_, g1, .inl ⟨rfl, xs1, .of g2⟩, a, xs1, v, rfl, rfl, g2, by rw [g3.len]; exact hv, k v (.p d) _ F _ (g4 _ _ g3.dropLast) (Ex.refl F) rv q⟩
    · exact q.elim
  · exact q.elim⟩
def dPopAt (i : Nat) (t : DTE) : DTE := fun ps Q => (ownL ps i).isSome = true ∧ t ps fun h ps1 => match ownL ps1 i, look ps1 h with
  | some xs, some (.int n) => (-(2 ^ 63) ≤ n ∧ n < 2 ^ 63) ∧ match seqIndex? n xs.length with
    | some j => match xs[j]? with
      | some d => Q (.p d) (putL ps1 i (.lst (xs.eraseIdx j)))
      | none => False
    | none => False
  | _, _ => False
theorem RepL.erase : ∀ {xs : List V} {ds : List D} (j : Nat), RepL K F xs ds → RepL K F (xs.eraseIdx j) (ds.eraseIdx j)
  | _, _, _, .nil => .nil
  | _, _, 0, .cons _ r => r
  | _, _, j + 1, .cons h r => .cons h (RepL.erase j r)
theorem rv_popAt {te : TE} {de : DTE} (i : Nat) (h : RV K te de) : RV K (tBM K "list" rPopAt (tVar i) (tCons te tNil)) (dPopAt i de) := ⟨fun c ps σ F H Q QV s q k => by
  obtain ⟨q1, q2⟩ := q
  obtain ⟨ds0, h0⟩ := Option.isSome_iff_exists.mp q1
  obtain ⟨a, xs0, h1, h2, _⟩ := s.ownL h0
  refine ⟨_, h1, .inl ⟨rfl, xs0, .of h2⟩, h.run c ps σ F H _ _ s q2 fun v hd ps1 F1 H1 s1 e1 r1 q => ?_⟩
  split at q
  · rename_i xs n w w2
    obtain ⟨qn, q⟩ := q
    split at q
    · rename_i j w3
      split at q
      · rename_i d w4
        obtain ⟨a', xs1, g1, g2, g3, g4⟩ := s1.ownL w
        rw [h1] at g1; cases g1
        obtain ⟨y, hy, ry⟩ := g3.get w4
        exact ⟨a, xs1, n, j, y, rfl, by rw [(s1.now r1 w2).int], g2, qn.1, qn.2, by rw [g3.len]; exact w3, hy, k y (.p d) _ F1 _ (g4 _ _ (g3.erase j)) e1 ry q⟩
      · exact q.elim
    · exact q.elim
  · exact q.elim⟩
end
end Z

set_option Elab.async false
set_option linter.all false
set_option maxRecDepth 100000
set_option maxHeartbeats 4000000
namespace Z
open PySem PySem.Spec PyProof.Rows L2

/-! ### 16. defs called where no repr is under way -/
structure FnG (P : Program) (w : World) (K : PySem.W.Frag) (mg : Str → Option Value) (base : Heap) (CX : CXT) (k : Nat) (f : Addr) (fd : FuncData) (ps : List Str) (sp : Sp) : Prop where
  len : ∀ vs H Q E, sp vs H Q E → vs.length = ps.length
  run : ∀ (A : Around) (outer : List Env) (s : Shared) (H : Hp) (args : Args) (us : List Value) (vs : List V) (Q : VK) (E : XK), Room k A → A.guards = some [] → Env0 P w K mg base A outer s H →
    BindsTo s fd args (ps.zip us) → Vals vs us → sp vs H Q E → codeAny (model P w) A (.call (.ref f) args) (CR CX outer P w H s Q E) s
section
variable {P : Program} {w : World} {K : PySem.W.Frag} {mg : Str → Option Value} {base : Heap} {CX : CXT} {j k : Nat} {f : Addr} {fd : FuncData} {ps : List Str} {sp sp' : Sp}
theorem FnG.mono (F : FnG P w K mg base CX j f fd ps sp) (h : j ≤ k) : FnG P w K mg base CX k f fd ps sp :=
  ⟨F.len, fun A o s H a us vs Q E r => F.run A o s H a us vs Q E (r.mono h)⟩
theorem FnG.imp (F : FnG P w K mg base CX k f fd ps sp) (h : ∀ vs H Q E, sp' vs H Q E → sp vs H Q E) : FnG P w K mg base CX k f fd ps sp' :=
  ⟨fun vs H Q E q => F.len vs H Q E (h _ _ _ _ q), fun A o s H a us vs Q E r g e b v q => F.run A o s H a us vs Q E r g e b v (h _ _ _ _ q)⟩
/-- a def of the text, by its body -/
theorem fnG_of {name qual : Str} {params : Arguments} {body : List Stmt} {scope : Scope} {dV kV doc pm cdv ct oc : Value} {an od : Option Addr} {osl : Array (Option Value)} {N : List Str}
    (lk : K.lookup f = some ⟨oc, od, .func (PySem.W.fnOf name qual params body scope dV kV doc pm an cdv ct), osl⟩) (hcd : PySem.W.codeIn K cdv qual = true) (S : FnScope N ps scope)
    (len : ∀ vs H Q E, sp vs H Q E → vs.length = ps.length)
    (hbody : ∀ (A : Around) (outer : List Env) (s : Shared) (H : Hp) (vs : List V) (Q : VK) (E : XK), Room k (A.deeper (envOfC qual scope s.heap.objs.size f cdv)) → A.guards = some [] → sp vs H Q E →
      ∃ t, PSs (cxOf CX P w K mg base N qual scope f cdv A outer s H E) body t ∧ t { nx := fun _ H' => Q .non H', rt := Q } (L2.start N vs) H) :
    FnG P w K mg base CX (k + 1) f (PySem.W.fnOf name qual params body scope dV kV doc pm an cdv ct) ps sp := by
  refine ⟨len, fun A outer s H args us vs Q E hr hg e0 hb r hsp => ?_⟩
  have KX : K.In s.heap := e0.mod.kin.keeps fun b o e => (e0.bs b o e).1
  have par : ∀ y ∈ ps.zip us, scope.names.lookup y.1 = some .local ∨ (scope.names.lookup y.1 = some .cell ∧ ((cellsFrom (s.heap.objs.size + 1) scope.names []).lookup y.1).isSome = true) := by
    intro y hy
    refine (S.par y.1 (List.of_mem_zip hy).1).imp id fun q => ⟨q, ?_⟩
    exact PySem.W.cellsFrom_some _ _ _ (.inl q)
  refine codeAny_call_function hr.depth (KX _ _ lk) rfl S.co S.gen rfl (PySem.W.codeRec_of KX hcd) (hb _ _ _ _ ?_)
  refine wpAny_newFunctionEnv_cells S.kind par fun env he s1 x => ?_
  subst he
  have lim : s.heap.NoLimit := e0.mod.nolimit.keeps fun b o e => (e0.bs b o e).1
  refine ⟨lim.keeps x.toInCall.keep, codeAny_func ?_⟩
  obtain ⟨t, ht, hq⟩ := hbody A outer s H vs Q E (hr.deeper _) hg hsp
  have I := inv_start (CX := CX) (P := P) (w := w) (mg := mg) (base := base) (E := E) S hr.hd e0 (len _ _ _ _ hsp) r x
  refine wpAny_mono (ht.run [] s1 (L2.start N vs) H _ I hq) (fun fl s' hs => ?_) fun e s' hs => hs
  cases fl with
  | ret u => obtain ⟨v, σ', H', J, rv, q⟩ := hs; exact ⟨v, H', J.os, J.bare, J.base, J.hok, rv, q⟩
  | next => obtain ⟨σ', H', J, q⟩ := hs; exact ⟨.non, H', J.os, J.bare, J.base, J.hok, rfl, q⟩
  | brk => obtain ⟨_, _, _, q⟩ := hs; exact q.elim
  | cont => obtain ⟨_, _, _, q⟩ := hs; exact q.elim
/-- a def that lets no exception out -/
theorem Fun.okG {x qual : Str} {st : Stmt} {N : List Str} (F : Fun K x qual st f fd) (S : FnScope N ps (defScope st)) (len : ∀ vs H Q E, sp vs H Q E → vs.length = ps.length)
    (hbody : ∀ (cdv : Value) (A : Around) (outer : List Env) (s : Shared) (H : Hp) (vs : List V) (Q : VK) (E : XK), Room k (A.deeper (envOfC qual (defScope st) s.heap.objs.size f cdv)) → A.guards = some [] → sp vs H Q E →
      ∃ t, PSs (cxOf CX0 P w K mg base N qual (defScope st) f cdv A outer s H E).nox (defBody st) t ∧ t { nx := fun _ H' => Q .non H', rt := Q } (L2.start N vs) H) : FnG P w K mg base CX0 (k + 1) f fd ps sp := by
  obtain ⟨oc, od, kV, doc, pm, an, cdv, ct, osl, rfl, lk, hcd⟩ := F.ex
  refine fnG_of lk hcd S len fun A outer s H vs Q E hr hg hsp => ?_
  obtain ⟨t, h, q⟩ := hbody cdv A outer s H vs Q E hr hg hsp
  exact ⟨t, h.nox, q⟩
/-- a def with defaults -/
theorem FunD.okG {x qual : Str} {params : Arguments} {body : List Stmt} {scope : Scope} {dvs : List V} {kws : List (Str × V)} {N : List Str} (F : FunD K x qual params body scope dvs kws f fd) (S : FnScope N ps scope)
    (len : ∀ vs H Q E, sp vs H Q E → vs.length = ps.length)
    (hbody : ∀ (cdv : Value) (A : Around) (outer : List Env) (s : Shared) (H : Hp) (vs : List V) (Q : VK) (E : XK), Room k (A.deeper (envOfC qual scope s.heap.objs.size f cdv)) → A.guards = some [] → sp vs H Q E →
      ∃ t, PSs (cxOf CX P w K mg base N qual scope f cdv A outer s H E) body t ∧ t { nx := fun _ H' => Q .non H', rt := Q } (L2.start N vs) H) : FnG P w K mg base CX (k + 1) f fd ps sp := by
  obtain ⟨oc, od, dV, kV, doc, pm, an, cdv, ct, osl, rfl, lk, hcd, _⟩ := F.ex
  exact fnG_of lk hcd S len fun A outer s H vs Q E hr hg hsp => hbody cdv A outer s H vs Q E hr hg hsp
end
section
variable {X : Cx} {CX : CXT} {k n : Nat} {f C : Addr} {fd : FuncData} {ps ks : List Str} {sp : Sp} {dvs : List V} {ds : List Value} {E : XK} {x m : Str} {p pos apos : Pos} {e o : Expr} {es : List Expr} {kws : List Keyword} {ta : TE} {t tk : TA}
  {g : List Value → List Value → List Value} {gV : List V → List V → List V}
theorem back_of {pins : List (Addr × Obj)} {σ : L2.St} {H : Hp} {s : Shared} {Q : VK} {args : Args} (I : Inv X pins σ H s) (hx : Passes CX X E)
    (h : codeAny (model X.prog X.w) X.A (.call (.ref f) args) (CR CX X.stack X.prog X.w H s Q E) s) : codeAny (model X.prog X.w) X.A (.call (.ref f) args) (fun r s' => match r with
      | .ok (.ret u) => EP X pins σ Q u s'
      | .ok _ => False
      | .error e => X.xe e s') s := by
  refine codeAny_mono h fun r s' hq => ?_
  match r, hq with
  | .error e, hq => exact hx pins σ H s e s' I hq
  | .ok (.ret u), hq => exact I.after hq
theorem run_fnG {pins : List (Addr × Obj)} {σ : L2.St} {H : Hp} {s : Shared} {Q : VK} {us : List Value} {vs : List V} (F : FnG X.prog X.w X.K X.mg X.base CX k f fd ps sp) (hr : Room k X.A) (hg : X.A.guards = some []) (hb : Binds X.K fd ps ds) (hd : Vals dvs ds) (hx : Passes CX X E)
    (I : Inv X pins σ H s) (r : Vals vs us) (h : sp (vs ++ dvs) H Q E) : wpAny (model X.prog X.w) X.A (call (.ref f) us) (EP X pins σ Q) X.xe s := by
  have r2 : Vals (vs ++ dvs) (us ++ ds) := r.append hd
  have hl : (us ++ ds).length = ps.length := r2.length.symm.trans (F.len _ _ _ _ h)
  refine wpAny_call (codeAny_mono (back_of I hx (F.run X.A X.stack s H ⟨us, []⟩ (us ++ ds) (vs ++ dvs) Q E hr hg I.env0 (hb s us I.kIn hl) r2 h)) fun r s' hq => ?_)
  match r, hq with
  | .error e, hq => exact hq
  | .ok (.ret u), hq => exact hq
theorem peG_call (F : FnG X.prog X.w X.K X.mg X.base CX k f fd ps sp) (hr : Room k X.A) (hgd : X.A.guards = some []) (hg : Gl X x) (hm : X.mg x = some (.ref f)) (hk : PySem.W.keepIn X.K (.ref f) = true) (hb : Binds X.K fd ps ds) (hd : Vals dvs ds) (hx : Passes CX X E)
    (ha : PA X (e :: es) t) (hdb : (x == ("__debug__" : Str)) = false := by decide) (he : starEach (e :: es) X.env = (false, eval e X.env) :: starEach es X.env := by rfl) (hpl : (backTo pos (starEach es X.env)).any (·.1) = false := by rfl) :
    PE X (.Call (.Name x p) (e :: es) [] pos) (tCall sp dvs E t) := ⟨fun pins s σ H Q I h =>
  wpAny_Call_Name_kw (ld_glob I hg hm (PySem.W.callWith_K (h₀ := X.base) I.ok.mod.kin hk (thn (ha.run pos pins s σ H _ I h) fun us s1 ⟨vs, H1, I1, r, q⟩ => ⟨I1.kIn, run_fnG F hr hgd hb hd hx I1 r q⟩) he hpl) hdb)⟩
theorem run_fnGN {pins : List (Addr × Obj)} {σ : L2.St} {H : Hp} {s : Shared} {Q : VK} {us ws : List Value} {vs zs : List V} (F : FnG X.prog X.w X.K X.mg X.base CX k f fd ps sp) (hr : Room k X.A) (hg : X.A.guards = some []) (hb : KBn X.K fd ps n ks g gV) (hx : Passes CX X E)
    (I : Inv X pins σ H s) (r : Vals vs us) (rz : Vals zs ws) (l1 : vs.length = n) (l2 : zs.length = ks.length) (h : sp (gV vs zs) H Q E) : wpAny (model X.prog X.w) X.A (call (.ref f) us (ks.zip ws)) (EP X pins σ Q) X.xe s := by
  refine wpAny_call (codeAny_mono (back_of I hx (F.run X.A X.stack s H ⟨us, ks.zip ws⟩ (g us ws) (gV vs zs) Q E hr hg I.env0 (hb.to s us ws I.kIn (r.length.symm.trans l1) (rz.length.symm.trans l2)) (hb.rel r rz) h)) fun r s' hq => ?_)
  match r, hq with
  | .error e, hq => exact hq
  | .ok (.ret u), hq => exact hq
/-- f(e, .., k = v, ..) -/
theorem peG_callN (F : FnG X.prog X.w X.K X.mg X.base CX k f fd ps sp) (hr : Room k X.A) (hgd : X.A.guards = some []) (hg : Gl X x) (hm : X.mg x = some (.ref f)) (hk : PySem.W.keepIn X.K (.ref f) = true) (hb : KBn X.K fd ps n ks g gV) (hx : Passes CX X E)
    (ha : PA X (e :: es) t) (hkw : PK X kws tk) (hall : (backToKw pos (keywordEach kws X.env)).all (·.1.isSome) = true := by rfl) (hks : (backToKw pos (keywordEach kws X.env)).filterMap (·.1) = ks := by rfl)
    (hdb : (x == ("__debug__" : Str)) = false := by decide) (he : starEach (e :: es) X.env = (false, eval e X.env) :: starEach es X.env := by rfl)
    (hpl : ((backTo pos (starEach (e :: es) X.env)).any (·.1) || (backToKw pos (keywordEach kws X.env)).any (·.1.isNone)) = false := by rfl) :
    PE X (.Call (.Name x p) (e :: es) kws pos) (tCallN n ks.length sp gV E t tk) := ⟨fun pins s σ H Q I h => by
  refine wpAny_Call_Name_kw (ld_glob I hg hm (PySem.W.callWith_KW (h₀ := X.base) I.ok.mod.kin hk hall (thn (ha.run pos pins s σ H _ I h) fun us s1 ⟨vs, H1, I1, r, q⟩ => ?_) hpl he) hdb)
  refine thn (hkw.run pos pins s1 σ H1 _ I1 q) fun ws s2 ⟨zs, H2, I2, rz, l1, l2, q2⟩ => ⟨I2.kIn, ?_⟩
  rw [hks]
  exact run_fnGN F hr hgd hb hx I2 r rz l1 l2 q2⟩
end
end Z

set_option Elab.async false
set_option linter.all false
set_option maxRecDepth 100000
set_option maxHeartbeats 4000000
namespace Z
open PySem L2

/-! ### 17. what a def promises, on data -/
/-- the arguments, what is wanted of the answer and of the in-out arguments behind, what is wanted of an exception -/
abbrev DSp := List D → (D → List D → Prop) → (D → List D → Prop) → Prop
section
variable (K : PySem.W.Frag)
inductive ArgR (F H : Hp) : List Bool → List V → List D → List Addr → Prop
  | nil : ArgR F H [] [] [] []
  | pu {ios : List Bool} {v : V} {d : D} {vs : List V} {ds : List D} {as : List Addr} : Rep K F v d → ArgR F H ios vs ds as → ArgR F H (false :: ios) (v :: vs) (d :: ds) as
  | io {ios : List Bool} {l : Addr} {d : D} {vs : List V} {ds : List D} {as : List Addr} : Own K F H l d → F l = none → ArgR F H ios vs ds as → ArgR F H (true :: ios) (.ref l :: vs) (d :: ds) (l :: as)
inductive OwnL (F H : Hp) : List Addr → List D → Prop
  | nil : OwnL F H [] []
  | cons {l : Addr} {d : D} {as : List Addr} {ds : List D} : Own K F H l d → F l = none → OwnL F H as ds → OwnL F H (l :: as) (d :: ds)
inductive ExcR (F H : Hp) : Value → Option Addr → D → Prop
  | own {C dx : Addr} {fs : List (Str × V)} {ds : List D} : H dx = some (.xd fs) → RepL K F (fs.map Prod.snd) ds → ExcR F H (.ref C) (some dx) (.ins C (fs.map Prod.fst) ds)
def ResR (md : Bool) (H F' H' : Hp) (v : V) (d : D) : Prop := if md = true then ∃ l, v = .ref l ∧ Own K F' H' l d ∧ F' l = none ∧ H l = none else Rep K F' v d
def lift (ios : List Bool) (md : Bool) (sp : DSp) : Sp := fun vs H Q E => ∃ (F : Hp) (ds : List D) (as : List Addr), Ex F H ∧ ArgR K F H ios vs ds as ∧ as.Nodup ∧
  ∃ (Qd Ed : D → List D → Prop), sp ds Qd Ed ∧ (∀ d outs, Qd d outs → ∀ v F' H', Gr as F H F' H' → Ex F' H' → OwnL K F' H' as outs → ResR K md H F' H' v d → Q v H') ∧
    (∀ x outs, Ed x outs → ∀ cls oe F' H', Gr as F H F' H' → Ex F' H' → OwnL K F' H' as outs → ExcR K F' H' cls oe x → E cls oe H')
end
section
variable {K : PySem.W.Frag} {c : Fz} {ps : Pst} {σ : St} {F F' H H' : Hp} {md : Bool}
theorem ArgR.len {ios : List Bool} {vs : List V} {ds : List D} {as : List Addr} (r : ArgR K F H ios vs ds as) : vs.length = ios.length := by
  induction r with
  | nil => rfl
  | pu _ _ ih => rw [List.length_cons, List.length_cons, ih]
  | io _ _ _ ih => rw [List.length_cons, List.length_cons, ih]
theorem lift_len {ios : List Bool} {sp : DSp} {vs : List V} {Q : VK} {E : XK} (h : lift K ios md sp vs H Q E) : vs.length = ios.length := by
  obtain ⟨_, _, _, _, r, _⟩ := h; exact r.len
/-- the slots at the entry -/
def entry : Nat → List Bool → List D → Pst
  | k, true :: ios, d :: ds => .io k d :: entry (k + 1) ios ds
  | k, false :: ios, d :: ds => .pu d :: entry k ios ds
  | _, _, _ => []
def entryN (n : Nat) (ios : List Bool) (ds : List D) : Pst := entry 0 ios ds ++ List.replicate (n - ios.length) .un
def ioIx : Nat → List Bool → List Nat
  | i, true :: ios => i :: ioIx (i + 1) ios
  | i, false :: ios => ioIx (i + 1) ios
  | _, [] => []
def outsF : Nat → List Nat → Pst → Option (List D)
  | _, [], _ => some []
  | k, i :: r, ps => match ps[i]? with
    | some (.io k' d) => if k' = k then (outsF (k + 1) r ps).map (d :: ·) else none
    | _ => none
theorem entry_ix {ios : List Bool} {vs : List V} {ds : List D} {as : List Addr} (r : ArgR K F H ios vs ds as) : ∀ (k : Nat), (entry k ios ds).length = vs.length ∧
    (∀ (i : Nat) (d : D), (entry k ios ds)[i]? = some (.pu d) → ∃ v, vs[i]? = some v ∧ Rep K F v d) ∧
    (∀ (i : Nat) (t : Sl) (d : D), (entry k ios ds)[i]? = some t → t.ownd = some d → ∃ l j, vs[i]? = some (.ref l) ∧ Own K F H l d ∧ F l = none ∧ t = .io (k + j) d ∧ as[j]? = some l) ∧
    (∀ (i : Nat), (entry k ios ds)[i]? ≠ some .un) := by
  induction r with
  | nil => intro k; exact ⟨rfl, fun i d h => by simp [entry] at h, fun i t d h => by simp [entry] at h, fun i h => by simp [entry] at h⟩
  | @pu ios v d vs ds as h r ih =>
    intro k
    obtain ⟨h1, h2, h3, h4⟩ := ih k
    refine ⟨by simp [entry, h1], fun i d' e => ?_, fun i t d' e o => ?_, fun i e => ?_⟩
    · cases i with
      | zero => simp [entry] at e; subst e; exact ⟨v, rfl, h⟩
      | succ i => exact h2 i d' (by simpa [entry] using e)
    · cases i with
      | zero => simp [entry] at e; subst e; cases o
      | succ i => exact h3 i t d' (by simpa [entry] using e) o
    · cases i with
      | zero => simp [entry] at e
      | succ i => exact h4 i (by simpa [entry] using e)
  | @io ios l d vs ds as h f r ih =>
    intro k
    obtain ⟨h1, h2, h3, h4⟩ := ih (k + 1)
    refine ⟨by simp [entry, h1], fun i d' e => ?_, fun i t d' e o => ?_, fun i e => ?_⟩
    · cases i with
      | zero => simp [entry] at e
      | succ i => exact h2 i d' (by simpa [entry] using e)
    · cases i with
      | zero =>
        simp [entry] at e
        subst e
        cases o
        exact ⟨l, 0, rfl, h, f, rfl, rfl⟩
      | succ i =>
        obtain ⟨l', j, g1, g2, g3, g4, g5⟩ := h3 i t d' (by simpa [entry] using e) o
        exact ⟨l', j + 1, by simpa using g1, g2, g3, by rw [g4]; congr 1; omega, by simpa using g5⟩
    · cases i with
      | zero => simp [entry] at e
      | succ i => exact h4 i (by simpa [entry] using e)
theorem nodup_get {α : Type} {l : List α} (h : l.Nodup) {i j : Nat} {x : α} (a : l[i]? = some x) (b : l[j]? = some x) : i = j := nd_ix h a b
/-- the state at a def's entry -/
theorem sr_start {ios : List Bool} {vs : List V} {ds : List D} {as : List Addr} {N : List Str} (e : Ex F H) (r : ArgR K F H ios vs ds as) (nd : as.Nodup) (hn : ios.length ≤ N.length) :
    SR K ⟨as, F, H, fun _ => none⟩ (entryN N.length ios ds) (L2.start N vs) F H := by
  obtain ⟨h1, h2, h3, h4⟩ := entry_ix r 0
  have lv := r.len
  have rest : ∀ (i : Nat) (t : Sl), (entryN N.length ios ds)[i]? = some t → t ≠ .un → (entry 0 ios ds)[i]? = some t ∧ ∀ x, vs[i]? = some x → (L2.start N vs)[i]? = some (some x) := fun i t q n => by
    unfold entryN at q
    by_cases hi : i < (entry 0 ios ds).length
    · rw [List.getElem?_append_left hi] at q
      refine ⟨q, fun x hx => ?_⟩
      unfold L2.start
      rw [List.getElem?_append_left (by rw [List.length_map, ← h1]; exact hi), List.getElem?_map, hx]; rfl
    · rw [List.getElem?_append_right (by omega), List.getElem?_replicate] at q
      split at q
      · cases q; exact absurd rfl n
      · cases q
  refine ⟨Gr.refl, e, ?_, fun i d q => ?_, fun i t d q o => ?_, fun i j si sj di dj l n q1 q2 o1 o2 e1 e2 => ?_, fun a o q => by cases q⟩
  · unfold entryN L2.start
    rw [List.length_append, List.length_append, List.length_replicate, List.length_replicate, List.length_map, h1, lv]
  · obtain ⟨g1, g2⟩ := rest i _ q (fun z => by cases z)
    obtain ⟨v, g3, g4⟩ := h2 i d g1
    exact ⟨v, g2 v g3, g4⟩
  · obtain ⟨g1, g2⟩ := rest i _ q (fun z => by rw [z] at o; cases o)
    obtain ⟨l, j, g3, g4, g5, g6, g7⟩ := h3 i t d g1 o
    exact ⟨l, g2 _ g3, g4, g5, by rw [g6]; show as[0 + j]? = some l; rw [Nat.zero_add]; exact g7⟩
  · obtain ⟨g1, g2⟩ := rest i _ q1 (fun z => by rw [z] at o1; cases o1)
    obtain ⟨g1', g2'⟩ := rest j _ q2 (fun z => by rw [z] at o2; cases o2)
    obtain ⟨l1, j1, a1, _, _, a4, a5⟩ := h3 i si di g1 o1
    obtain ⟨l2, j2, b1, _, _, b4, b5⟩ := h3 j sj dj g1' o2
    rw [g2 _ a1] at e1; cases e1
    rw [g2' _ b1] at e2; cases e2
    have ej := nodup_get nd a5 b5
    subst ej
    -- two slots of one number: the entry numbers them apart
    have ap : ∀ {ios : List Bool} {vs : List V} {ds : List D} {as : List Addr}, ArgR K F H ios vs ds as → ∀ (k i j : Nat) (m : Nat) (d d' : D), (entry k ios ds)[i]? = some (.io m d) → (entry k ios ds)[j]? = some (.io m d') → k ≤ m ∧ i = j := by
      intro ios vs ds as r
      induction r with
      | nil => intro k i j m d d' h; simp [entry] at h
      | pu _ _ ih =>
        intro k i j m d d' h h'
        cases i with
        | zero => simp [entry] at h
        | succ i => cases j with
          | zero => simp [entry] at h'
          | succ j =>
            obtain ⟨x, y⟩ := ih k i j m d d' (by simpa [entry] using h) (by simpa [entry] using h')
            exact ⟨x, by omega⟩
      | io _ _ _ ih =>
        intro k i j m d d' h h'
        cases i with
        | zero =>
          simp [entry] at h
          cases j with
          | zero => exact ⟨by omega, rfl⟩
          | succ j =>
            obtain ⟨x, _⟩ := ih (k + 1) j j m d' d' (by simpa [entry] using h') (by simpa [entry] using h')
            omega
        | succ i => cases j with
          | zero =>
            simp [entry] at h'
            obtain ⟨x, _⟩ := ih (k + 1) i i m d d (by simpa [entry] using h) (by simpa [entry] using h)
            omega
          | succ j =>
            obtain ⟨x, y⟩ := ih (k + 1) i j m d d' (by simpa [entry] using h) (by simpa [entry] using h')
            exact ⟨by omega, by omega⟩
    rw [a4] at g1
    rw [b4] at g1'
    exact n (ap r 0 i j _ _ _ g1 g1').2
theorem outs_own (s : SR K c ps σ F H) : ∀ {k : Nat} {ixs : List Nat} {outs : List D}, outsF k ixs ps = some outs → OwnL K F H (c.io.drop k |>.take ixs.length) outs ∧ k + ixs.length ≤ c.io.length + 0 ∨ ixs = [] ∧ outs = []
  | _, [], _, h => by cases h; exact .inr ⟨rfl, rfl⟩
  | k, i :: r, outs, h => by
    unfold outsF at h
    split at h
    · rename_i k' d w
      split at h
      · rename_i ek
        subst ek
        cases q : outsF (k' + 1) r ps with
        | none => rw [q] at h; cases h
        | some ds =>
          rw [q] at h; cases h
          obtain ⟨l, h1, h2, h3, h4⟩ := s.on i _ d w rfl
          have h4 : c.io[k']? = some l := h4
          have hlt := (List.getElem?_eq_some_iff.mp h4).1
          have hdr : c.io.drop k' = l :: c.io.drop (k' + 1) := by
            rw [List.drop_eq_getElem_cons hlt]
            rw [List.getElem?_eq_getElem hlt] at h4
            rw [Option.some.inj h4]
          rcases outs_own s q with ⟨g1, g2⟩ | ⟨g1, g2⟩
          · refine .inl ⟨?_, by rw [List.length_cons]; omega⟩
            rw [hdr, List.length_cons, List.take_succ_cons]
            exact .cons h2 h3 g1
          · subst g1 g2
            refine .inl ⟨?_, by rw [List.length_cons, List.length_nil]; omega⟩
            rw [hdr, List.length_cons, List.take_succ_cons]
            exact .cons h2 h3 .nil
      · cases h
    · cases h
theorem outs_all (s : SR K c ps σ F H) {ixs : List Nat} {outs : List D} (h : outsF 0 ixs ps = some outs) (hl : ixs.length = c.io.length) : OwnL K F H c.io outs := by
  rcases outs_own s h with ⟨g1, _⟩ | ⟨g1, g2⟩
  · rw [List.drop_zero, hl, List.take_length] at g1; exact g1
  · subst g1 g2
    have : c.io = [] := List.length_eq_zero_iff.mp hl.symm
    rw [this]; exact .nil
theorem ioIx_len {ios : List Bool} {vs : List V} {ds : List D} {as : List Addr} (r : ArgR K F H ios vs ds as) : ∀ i, (ioIx i ios).length = as.length := by
  induction r with
  | nil => intro i; rfl
  | pu _ _ ih => intro i; exact ih (i + 1)
  | io _ _ _ ih => intro i; show (ioIx (i + 1) _).length + 1 = _ + 1; rw [ih (i + 1)]
/-- the ends of a def on data -/
def dEnds (ios : List Bool) (Q : D → List D → Prop) : DEnds where
  nx := fun ps => ∃ outs, outsF 0 (ioIx 0 ios) ps = some outs ∧ Q .non outs
  rt := fun d ps => ∃ outs, outsF 0 (ioIx 0 ios) ps = some outs ∧ Q d outs
/-- a def's body keeps its promise -/
theorem body_ok {ios : List Bool} {sp : DSp} {vs : List V} {Q : VK} {E : XK} {N : List Str} {ts : TS} {td : DTS} (hn : ios.length ≤ N.length) (h : lift K ios false sp vs H Q E) (hs : RS K false ts td)
    (hd : ∀ ds (Qd : D → List D → Prop) (Ed : D → List D → Prop), sp ds Qd Ed → td (dEnds ios Qd) (entryN N.length ios ds)) : ts { nx := fun _ H' => Q .non H', rt := Q } (L2.start N vs) H := by
  obtain ⟨F, ds, as, e, r, nd, Qd, Ed, q, hq, _⟩ := h
  have s := sr_start e r nd hn
  have ix := (ioIx_len r 0)
  refine hs.run _ _ _ F H _ _ s (hd ds _ _ q) ⟨fun ps σ F' H' s' ⟨outs, h1, h2⟩ => ?_, fun _ _ _ _ _ z => z.elim, fun _ _ _ _ _ z => z.elim, fun _ v d ps σ F' H' s' r' ⟨outs, h1, h2⟩ => ?_, fun z => by cases z⟩
  · exact hq _ _ h2 .non F' H' s'.g s'.fh (outs_all s' h1 ix) (by unfold ResR; rw [if_neg (by decide)]; exact Rep.non)
  · exact hq _ _ h2 v F' H' s'.g s'.fh (outs_all s' h1 ix) (by unfold ResR; rw [if_neg (by decide)]; exact r')
theorem body_new {ios : List Bool} {sp : DSp} {vs : List V} {Q : VK} {E : XK} {N : List Str} {ts : TS} {td : DTS} (hn : ios.length ≤ N.length) (h : lift K ios true sp vs H Q E) (hs : RS K true ts td)
    (hd : ∀ ds (Qd : D → List D → Prop) (Ed : D → List D → Prop), sp ds Qd Ed → td { dEnds ios Qd with nx := fun _ => False } (entryN N.length ios ds)) : ts { nx := fun _ H' => Q .non H', rt := Q } (L2.start N vs) H := by
  obtain ⟨F, ds, as, e, r, nd, Qd, Ed, q, hq, _⟩ := h
  have s := sr_start e r nd hn
  have ix := (ioIx_len r 0)
  refine hs.run _ _ _ F H _ _ s (hd ds _ _ q) ⟨fun _ _ _ _ _ z => z.elim, fun _ _ _ _ _ z => z.elim, fun _ _ _ _ _ z => z.elim, fun z => by (cases z), fun _ l d ps σ F' H' s' o f h0 nw ⟨outs, h1, h2⟩ => ?_⟩
  exact hq _ _ h2 _ F' H' s'.g s'.fh (outs_all s' h1 ix) (by unfold ResR; rw [if_pos rfl]; exact ⟨l, rfl, o, f, h0⟩)

/-! ### 18. calls on data -/
inductive Ar where
  | d (d : D) | o (i : Nat)
section
variable (K : PySem.W.Frag)
inductive ArL (σ : St) (F : Hp) : List V → List Ar → Prop
  | nil : ArL σ F [] []
  | d {v : V} {d : D} {vs : List V} {ars : List Ar} : Rep K F v d → ArL σ F vs ars → ArL σ F (v :: vs) (.d d :: ars)
  | o {v : V} {i : Nat} {vs : List V} {ars : List Ar} : σ[i]? = some (some v) → ArL σ F vs ars → ArL σ F (v :: vs) (.o i :: ars)
abbrev DTK := Pst → (List Ar → Pst → Prop) → Prop
structure RK (ta : TA) (td : DTK) : Prop where
  run : ∀ (c : Fz) (ps : Pst) (σ : St) (F H : Hp) (Q : List Ar → Pst → Prop) (QV : List V → Hp → Prop), SR K c ps σ F H → td ps Q →
    (∀ vs ars ps' F' H', SR K c ps' σ F' H' → Ex F F' → ArL K σ F' vs ars → Q ars ps' → QV vs H') → ta σ H QV
end
theorem ArL.mono (e : Ex F F') {vs : List V} {ars : List Ar} (r : ArL K σ F vs ars) : ArL K σ F' vs ars := by
  induction r with
  | nil => exact .nil
  | d h _ ih => exact .d (h.mono e) ih
  | o h _ ih => exact .o h ih
def kNil : DTK := fun ps Q => Q [] ps
def kPu (ta : DTN) (tr : DTK) : DTK := fun ps Q => ta ps fun d ps1 => tr ps1 fun ars ps2 => Q (.d d :: ars) ps2
def kIo (i : Nat) (tr : DTK) : DTK := fun ps Q => ((ps[i]?.bind Sl.ownd).isSome = true) ∧ tr ps fun ars ps2 => Q (.o i :: ars) ps2
theorem rk_nil : RK K tNil kNil := ⟨fun c ps σ F H Q QV s q k => k [] [] ps F H s (Ex.refl F) .nil q⟩
theorem rk_pu {ta : TE} {tr : TA} {da : DTN} {dr : DTK} (ha : RE K ta da) (hr : RK K tr dr) : RK K (tCons ta tr) (kPu da dr) := ⟨fun c ps σ F H Q QV s q k =>
  ha.run c ps σ F H _ _ s q fun x d ps1 F1 H1 s1 e1 r1 q => hr.run c ps1 σ F1 H1 _ _ s1 q fun xs ars ps2 F2 H2 s2 e2 r2 q => k (x :: xs) (.d d :: ars) ps2 F2 H2 s2 (e1.trans e2) (.d (r1.mono e2) r2) q⟩
theorem rk_io {tr : TA} {dr : DTK} (i : Nat) (hr : RK K tr dr) : RK K (tCons (tVar i) tr) (kIo i dr) := ⟨fun c ps σ F H Q QV s q k => by
  obtain ⟨q1, q2⟩ := q
  obtain ⟨d, hd⟩ := Option.isSome_iff_exists.mp q1
  cases w : ps[i]? with
  | none => rw [w] at hd; cases hd
  | some t =>
    rw [w] at hd
    obtain ⟨l, h1, _⟩ := s.on i t d w hd
    exact ⟨_, h1, hr.run c ps σ F H _ _ s q2 fun xs ars ps2 F2 H2 s2 e2 r2 q => k (_ :: xs) (.o i :: ars) ps2 F2 H2 s2 e2 (.o h1 r2) q⟩⟩
def resolve (ps : Pst) : List Bool → List Ar → Option (List D)
  | [], [] => some []
  | false :: ios, .d d :: r => (resolve ps ios r).map (d :: ·)
  | true :: ios, .o i :: r => match ps[i]?.bind Sl.ownd with
    | some d => (resolve ps ios r).map (d :: ·)
    | none => none
  | _, _ => none
def slotsOf : List Ar → List Nat
  | [] => []
  | .d _ :: r => slotsOf r
  | .o i :: r => i :: slotsOf r
def putOuts : List Nat → List D → Pst → Pst
  | i :: is, d :: ds, ps => putOuts is ds (putL ps i d)
  | _, _, ps => ps
theorem resolve_arg (s : SR K c ps σ F H) {vs : List V} {ars : List Ar} (r : ArL K σ F vs ars) : ∀ {ios : List Bool} {ds : List D}, resolve ps ios ars = some ds → (slotsOf ars).Nodup → ∃ as, ArgR K F H ios vs ds as ∧ as.Nodup ∧
    as.length = (slotsOf ars).length ∧ ∀ (j : Nat) (i : Nat), (slotsOf ars)[j]? = some i → ∃ l t d, as[j]? = some l ∧ σ[i]? = some (some (.ref l)) ∧ ps[i]? = some t ∧ t.ownd = some d := by
  induction r with
  | nil =>
    intro ios ds h _
    cases ios with
    | nil => cases h; exact ⟨[], .nil, .nil, rfl, fun j i h => by simp [slotsOf] at h⟩
    | cons b r => cases b <;> cases h
  | @d v d vs ars h _ ih =>
    intro ios ds hr nd
    cases ios with
    | nil => cases hr
    | cons b r => cases b with
      | true => cases hr
      | false =>
        unfold resolve at hr
        cases q : resolve ps r ars with
        | none => rw [q] at hr; cases hr
        | some es =>
          rw [q] at hr; cases hr
          obtain ⟨as, a1, a2, a3, a4⟩ := ih q nd
          exact ⟨as, .pu h a1, a2, a3, a4⟩
  | @o v i vs ars h _ ih =>
    intro ios ds hr nd
    cases ios with
    | nil => cases hr
    | cons b r => cases b with
      | false => cases hr
      | true =>
        unfold resolve at hr
        split at hr
        · rename_i d hd
          cases q : resolve ps r ars with
          | none => rw [q] at hr; cases hr
          | some es =>
            rw [q] at hr; cases hr
            obtain ⟨nd1, nd2⟩ := List.nodup_cons.mp (show (i :: slotsOf ars).Nodup from nd)
            obtain ⟨as, a1, a2, a3, a4⟩ := ih q nd2
            cases w : ps[i]? with
            | none => rw [w] at hd; cases hd
            | some t =>
              rw [w] at hd
              have hd : t.ownd = some d := hd
              obtain ⟨l, g1, g2, g3, g4⟩ := s.on i t d w hd
              rw [h] at g1; cases g1
              have nl : l ∉ as := fun hm => by
                obtain ⟨j, hj⟩ := List.mem_iff_getElem?.mp hm
                have hjl := (List.getElem?_eq_some_iff.mp hj).1
                obtain ⟨i', hi'⟩ : ∃ i', (slotsOf ars)[j]? = some i' := ⟨_, List.getElem?_eq_getElem (by rw [← a3]; exact hjl)⟩
                obtain ⟨l', t', d', b1, b2, b3, b4⟩ := a4 j i' hi'
                rw [hj] at b1; cases b1
                have ne : i ≠ i' := fun z => nd1 (by rw [z]; exact List.mem_of_getElem? hi')
                exact s.ds i i' t t' d d' l ne w b3 hd b4 h b2
              refine ⟨l :: as, .io g2 g3 a1, List.nodup_cons.mpr ⟨nl, a2⟩, by show as.length + 1 = (slotsOf ars).length + 1; rw [a3], fun j i' hj => ?_⟩
              cases j with
              | zero =>
                have : i = i' := Option.some.inj (show some i = some i' from hj)
                subst this
                exact ⟨l, t, d, rfl, h, w, hd⟩
              | succ j => exact a4 j i' hj
        · cases hr
theorem OwnL.get {as : List Addr} {ds : List D} (o : OwnL K F H as ds) : as.length = ds.length ∧ ∀ (j : Nat) (l : Addr), as[j]? = some l → ∃ d, ds[j]? = some d ∧ Own K F H l d ∧ F l = none := by
  induction o with
  | nil => exact ⟨rfl, fun j l h => by simp at h⟩
  | cons h f _ ih =>
    refine ⟨by rw [List.length_cons, List.length_cons, ih.1], fun j l hj => ?_⟩
    cases j with
    | zero => simp at hj; subst hj; exact ⟨_, rfl, h, f⟩
    | succ j => obtain ⟨d, a, b⟩ := ih.2 j l (by simpa using hj); exact ⟨d, by simpa using a, b⟩
theorem putL_get {i j : Nat} {d : D} : (putL ps i d)[j]? = if i = j then (ps[j]?).map (Sl.put d) else ps[j]? := by
  unfold putL
  by_cases z : i = j
  · subst z
    rw [if_pos rfl]
    cases w : ps[i]? with
    | none => simp [w]
    | some t =>
      have hl := (List.getElem?_eq_some_iff.mp w).1
      simp [hl]
  · rw [if_neg z]
    split
    · rw [List.getElem?_set_ne z]
    · rfl
theorem putL_len {i : Nat} {d : D} : (putL ps i d).length = ps.length := by
  unfold putL; split <;> simp
theorem putOuts_len : ∀ {is : List Nat} {ds : List D} {ps : Pst}, (putOuts is ds ps).length = ps.length
  | [], _, _ => by simp [putOuts]
  | i :: is, [], _ => by simp [putOuts]
  | i :: is, d :: ds, ps => by show (putOuts is ds (putL ps i d)).length = _; rw [putOuts_len, putL_len]
theorem putOuts_out : ∀ {is : List Nat} {ds : List D} {ps : Pst} {j : Nat}, j ∉ is → (putOuts is ds ps)[j]? = ps[j]?
  | [], _, _, _, _ => by simp [putOuts]
  | i :: is, [], _, _, _ => by simp [putOuts]
  | i :: is, d :: ds, ps, j, h => by
    show (putOuts is ds (putL ps i d))[j]? = _
    rw [putOuts_out fun z => h (List.mem_cons_of_mem _ z), putL_get, if_neg fun z => h (by simp [z])]
theorem putOuts_in : ∀ {is : List Nat} {ds : List D} {ps : Pst} {m j : Nat} {d : D}, is.Nodup → is[m]? = some j → ds[m]? = some d → (putOuts is ds ps)[j]? = (ps[j]?).map (Sl.put d)
  | [], _, _, _, _, _, _, h, _ => by simp at h
  | i :: is, [], _, _, _, _, _, _, h => by simp at h
  | i :: is, e :: ds, ps, 0, j, d, nd, h1, h2 => by
    simp at h1 h2
    subst h1 h2
    show (putOuts is ds (putL ps i e))[i]? = _
    rw [putOuts_out (List.nodup_cons.mp nd).1, putL_get, if_pos rfl]
  | i :: is, e :: ds, ps, m + 1, j, d, nd, h1, h2 => by
    show (putOuts is ds (putL ps i e))[j]? = _
    have hj : is[m]? = some j := by simpa using h1
    have ne : i ≠ j := fun z => (List.nodup_cons.mp nd).1 (by rw [z]; exact List.mem_of_getElem? hj)
    rw [putOuts_in (List.nodup_cons.mp nd).2 hj (by simpa using h2), putL_get, if_neg ne]
/-- behind a call -/
theorem SR.called (s : SR K c ps σ F H) {is : List Nat} {as : List Addr} {outs : List D} (nd : is.Nodup) (hl : as.length = is.length) (hat : ∀ (j : Nat) (i : Nat), is[j]? = some i → ∃ l t d, as[j]? = some l ∧ σ[i]? = some (some (.ref l)) ∧ ps[i]? = some t ∧ t.ownd = some d)
    (g : Gr as F H F' H') (fh : Ex F' H') (o : OwnL K F' H' as outs) : SR K c (putOuts is outs ps) σ F' H' := by
  obtain ⟨ol, og⟩ := o.get
  -- the addresses: of owned slots
  have inas : ∀ a, a ∈ as → ∃ i t d, i ∈ is ∧ σ[i]? = some (some (.ref a)) ∧ ps[i]? = some t ∧ t.ownd = some d := fun a ha => by
    obtain ⟨j, hj⟩ := List.mem_iff_getElem?.mp ha
    have hjl := (List.getElem?_eq_some_iff.mp hj).1
    obtain ⟨i, hi⟩ : ∃ i, is[j]? = some i := ⟨_, List.getElem?_eq_getElem (by rw [← hl]; exact hjl)⟩
    obtain ⟨l, t, d, b1, b2, b3, b4⟩ := hat j i hi
    rw [hj] at b1; cases b1
    exact ⟨i, t, d, List.mem_of_getElem? hi, b2, b3, b4⟩
  have kind : ∀ (j : Nat) (t' : Sl), (putOuts is outs ps)[j]? = some t' → (j ∉ is ∧ ps[j]? = some t') ∨ ∃ t d l, ps[j]? = some t ∧ t' = t.put d ∧ σ[j]? = some (some (.ref l)) ∧ l ∈ as ∧ (t.ownd.isSome = true) ∧ Own K F' H' l d ∧ F' l = none := fun j t' q => by
    by_cases hj : j ∈ is
    · obtain ⟨m, hm⟩ := List.mem_iff_getElem?.mp hj
      obtain ⟨l, t, d, b1, b2, b3, b4⟩ := hat m j hm
      obtain ⟨e, c1, c2, c3⟩ := og m l b1
      rw [putOuts_in nd hm c1, b3] at q
      exact .inr ⟨t, e, l, b3, (Option.some.inj q).symm, b2, List.mem_of_getElem? b1, by rw [b4]; rfl, c2, c3⟩
    · rw [putOuts_out hj] at q; exact .inl ⟨hj, q⟩
  have back : ∀ (j : Nat) (t' : Sl) (d : D), (putOuts is outs ps)[j]? = some t' → t'.ownd = some d → ∃ t d0, ps[j]? = some t ∧ t.ownd = some d0 := fun j t' d q n => by
    rcases kind j t' q with ⟨_, h⟩ | ⟨t, e, l, h1, h2, h3, h4, h5, _⟩
    · exact ⟨t', d, h, n⟩
    · obtain ⟨d0, hd0⟩ := Option.isSome_iff_exists.mp h5
      exact ⟨t, d0, h1, hd0⟩
  refine ⟨⟨s.g.ff.trans g.ff, fun a h1 h2 => g.fr a (s.g.fr a h1 h2) (s.g.ht a h2), fun a u h1 h2 => g.hh a u (s.g.hh a u h1 h2) fun ha => ?_, fun a h1 => g.ht a (s.g.ht a h1)⟩, fh, by rw [putOuts_len]; exact s.len,
    fun j d q => ?_, fun j t' d q n => ?_, fun i j si sj di dj l n q1 q2 o1 o2 e1 e2 => ?_, fun a u q => ?_⟩
  · obtain ⟨i, t, d, _, b2, b3, b4⟩ := inas a ha
    obtain ⟨l, g1, g2, g3, g4⟩ := s.on i t d b3 b4
    rw [b2] at g1; cases g1
    cases t with
    | un => cases b4
    | pu _ => cases b4
    | ow _ => rw [show c.H0 a = none from g4] at h1; cases h1
    | io k _ => exact h2 (List.mem_of_getElem? (show c.io[k]? = some a from g4))
  · rcases kind j _ q with ⟨_, h⟩ | ⟨t, e, l, h1, h2, h3, h4, h5, _⟩
    · obtain ⟨v, a, b⟩ := s.pu j d h
      exact ⟨v, a, b.mono g.ff⟩
    · cases t <;> first | (cases h5; done) | (cases h2; done)
  · rcases kind j t' q with ⟨hj, h⟩ | ⟨t, e, l, h1, h2, h3, h4, h5, h6, h7⟩
    · obtain ⟨l, a1, a2, a3, a4⟩ := s.on j t' d h n
      have nl : l ∉ as := fun ha => by
        obtain ⟨i, t, d2, b1, b2, b3, b4⟩ := inas l ha
        have ne : j ≠ i := fun z => hj (by rw [z]; exact b1)
        exact s.ds j i t' t d d2 l ne h b3 n b4 a1 b2
      obtain ⟨u, hu⟩ := a2.tracked
      exact ⟨l, a1, a2.ff g.ff (fun w q => g.hh l w q nl), g.fr l a3 (by rw [hu]; simp), a4⟩
    · obtain ⟨d0, hd0⟩ := Option.isSome_iff_exists.mp h5
      obtain ⟨l', a1, a2, a3, a4⟩ := s.on j t d0 h1 hd0
      rw [h3] at a1; cases a1
      subst h2
      rw [Sl.ownd_put hd0] at n; cases n
      exact ⟨l, h3, h6, h7, Sl.lok_put a4⟩
  · obtain ⟨t1, d1, x1, y1⟩ := back i si di q1 o1
    obtain ⟨t2, d2, x2, y2⟩ := back j sj dj q2 o2
    exact s.ds i j t1 t2 d1 d2 l n x1 x2 y1 y2 e1 e2
  · obtain ⟨a1, a2, a3⟩ := s.pr a u q
    have na : a ∉ as := fun ha => by
      obtain ⟨i, t, d, _, b2, b3, b4⟩ := inas a ha
      exact a3 i t d b3 b4 b2
    refine ⟨g.hh a u a1 na, g.fr a a2 (by rw [a1]; simp), fun j t' d q n => ?_⟩
    obtain ⟨t1, d1, x1, y1⟩ := back j t' d q n
    exact a3 j t1 d1 x1 y1
def dCallG (ios : List Bool) (sp : DSp) (tk : DTK) (Q : D → Pst → Prop) (Ed : D → List D → Prop) : Pst → Prop := fun ps => tk ps fun ars ps1 => match resolve ps1 ios ars with
  | some ds => (slotsOf ars).Nodup ∧ sp ds (fun d outs => Q d (putOuts (slotsOf ars) outs ps1)) Ed
  | none => False
/-- a def is called; no exception -/
def dCall (ios : List Bool) (sp : DSp) (tk : DTK) : DTN := fun ps Q => dCallG ios sp tk Q (fun _ _ => False) ps
theorem call_core {ios : List Bool} {sp : DSp} {ta : TA} {da : DTK} (h : RK K ta da) {Q : D → Pst → Prop} {E : XK} (s : SR K c ps σ F H) (q : dCallG ios sp da Q (fun _ _ => False) ps) {QV : VK}
    (k : ∀ v d ps' F' H' H1, SR K c ps' σ F' H' → Ex F F' → (∀ l, H1 l = none → c.H0 l = none ∧ c.P l = none ∧ ∀ (j : Nat) (s' : Sl) (dj : D), ps'[j]? = some s' → s'.ownd = some dj → σ[j]? ≠ some (some (.ref l))) → ResR K md H1 F' H' v d → Q d ps' → QV v H') :
    ta σ H fun vs H1 => lift K ios md sp vs H1 QV E := by
  refine h.run c ps σ F H _ _ s q fun vs ars ps1 F1 H1 s1 e1 r q => ?_
  split at q
  · rename_i ds w
    obtain ⟨as, a1, a2, a3, a4⟩ := resolve_arg s1 r w q.1
    refine ⟨F1, ds, as, s1.fh, a1, a2, _, _, q.2, fun d outs hq v F' H' g fh o rr => ?_, fun _ _ z => z.elim⟩
    have s2 := s1.called q.1 a3 a4 g fh o
    refine k v d _ F' H' H1 s2 (e1.trans g.ff) (fun l hl => ⟨s1.h0 hl, s1.p0 hl, fun j t' dj hj hn hz => ?_⟩) rr hq
    -- a new object is in no slot
    obtain ⟨ol, og⟩ := o.get
    have : ∃ t d0, ps1[j]? = some t ∧ t.ownd = some d0 := by
      by_cases hm : j ∈ slotsOf ars
      · obtain ⟨m, hm⟩ := List.mem_iff_getElem?.mp hm
        obtain ⟨l', t, d', b1, b2, b3, b4⟩ := a4 m j hm
        exact ⟨t, d', b3, b4⟩
      · rw [putOuts_out hm] at hj; exact ⟨t', dj, hj, hn⟩
    obtain ⟨t, d0, x, y⟩ := this
    exact s1.nw hl j t d0 x y hz
  · exact q.elim
theorem re_call {ios : List Bool} {sp : DSp} {ta : TA} {da : DTK} {E : XK} (h : RK K ta da) : RE K (tCall (lift K ios false sp) [] E ta) (dCall ios sp da) := ⟨fun c ps σ F H Q QV s q k => by
  have := call_core (md := false) (E := E) h s q (QV := QV) fun v d ps' F' H' H1 s' e' nw rr hq => k v d ps' F' H' s' e' (by unfold ResR at rr; rw [if_neg (by decide)] at rr; exact rr) hq
  unfold tCall
  simpa using this⟩
theorem rn_call {ios : List Bool} {sp : DSp} {ta : TA} {da : DTK} {E : XK} (h : RK K ta da) : RN K (tCall (lift K ios true sp) [] E ta) (dCall ios sp da) := ⟨fun c ps σ F H Q QV s q k => by
  have := call_core (md := true) (E := E) h s q (QV := QV) fun v d ps' F' H' H1 s' e' nw rr hq => by
    unfold ResR at rr
    rw [if_pos rfl] at rr
    obtain ⟨l, rfl, o, f, hl⟩ := rr
    obtain ⟨n1, n2, n3⟩ := nw l hl
    exact k l d ps' F' H' s' e' o f n1 n2 n3 hq
  unfold tCall
  simpa using this⟩
/-- with the values of defaults -/
theorem RepL.consts {dvs : List V} {dds : List D} (h : ∀ F, RepL K F dvs dds) : RepL K F dvs dds := h F
theorem ArL.app {vs ws : List V} {as bs : List Ar} (r : ArL K σ F vs as) (r' : ArL K σ F ws bs) : ArL K σ F (vs ++ ws) (as ++ bs) := by
  induction r with
  | nil => exact r'
  | d h _ ih => exact .d h ih
  | o h _ ih => exact .o h ih
theorem ArL.consts {vs : List V} {ds : List D} (r : RepL K F vs ds) : ArL K σ F vs (ds.map Ar.d) := by
  induction vs generalizing ds with
  | nil => cases r; exact .nil
  | cons v vs ih => cases r with
    | cons h r => exact .d h (ih r)
def tApp (ta : TA) (dvs : List V) : TA := fun σ H Q => ta σ H fun vs H1 => Q (vs ++ dvs) H1
def kApp (tk : DTK) (dds : List D) : DTK := fun ps Q => tk ps fun ars ps1 => Q (ars ++ dds.map Ar.d) ps1
theorem rk_app {ta : TA} {da : DTK} {dvs : List V} {dds : List D} (h : RK K ta da) (hd : ∀ F, RepL K F dvs dds) : RK K (tApp ta dvs) (kApp da dds) := ⟨fun c ps σ F H Q QV s q k =>
  h.run c ps σ F H _ _ s q fun vs ars ps1 F1 H1 s1 e1 r q => k _ _ ps1 F1 H1 s1 e1 (r.app (ArL.consts (hd F1))) q⟩
theorem re_callD {ios : List Bool} {sp : DSp} {ta : TA} {da : DTK} {E : XK} {dvs : List V} {dds : List D} (h : RK K ta da) (hd : ∀ F, RepL K F dvs dds) : RE K (tCall (lift K ios false sp) dvs E ta) (dCall ios sp (kApp da dds)) := ⟨fun c ps σ F H Q QV s q k => by
  have := (re_call (E := E) (rk_app h hd)).run c ps σ F H Q QV s q k
  unfold tCall tApp at this
  simpa [tCall] using this⟩
/-- with keywords: gV puts the values in the parameters' order -/
def tPerm (gV : List V → List V → List V) (n m : Nat) (t tk : TA) : TA := fun σ H Q => t σ H fun vs H1 => tk σ H1 fun zs H2 => vs.length = n ∧ zs.length = m ∧ Q (gV vs zs) H2
def kPerm (gA : List Ar → List Ar → List Ar) (n m : Nat) (t tk : DTK) : DTK := fun ps Q => t ps fun as ps1 => tk ps1 fun bs ps2 => as.length = n ∧ bs.length = m ∧ Q (gA as bs) ps2
theorem ArL.len {vs : List V} {as : List Ar} (r : ArL K σ F vs as) : vs.length = as.length := by
  induction r with
  | nil => rfl
  | d _ _ ih => rw [List.length_cons, List.length_cons, ih]
  | o _ _ ih => rw [List.length_cons, List.length_cons, ih]
theorem rk_perm {gV : List V → List V → List V} {gA : List Ar → List Ar → List Ar} {n m : Nat} {t tk : TA} {d dk : DTK} (h : RK K t d) (hk : RK K tk dk)
    (hg : ∀ σ F vs zs as bs, vs.length = n → zs.length = m → ArL K σ F vs as → ArL K σ F zs bs → ArL K σ F (gV vs zs) (gA as bs)) : RK K (tPerm gV n m t tk) (kPerm gA n m d dk) := ⟨fun c ps σ F H Q QV s q k =>
  h.run c ps σ F H _ _ s q fun vs as ps1 F1 H1 s1 e1 r1 q => hk.run c ps1 σ F1 H1 _ _ s1 q fun zs bs ps2 F2 H2 s2 e2 r2 q => by
    have l1 : vs.length = n := r1.len.trans q.1
    have l2 : zs.length = m := r2.len.trans q.2.1
    exact ⟨l1, l2, k _ _ ps2 F2 H2 s2 (e1.trans e2) (hg σ F2 vs zs as bs l1 l2 (r1.mono e2) r2) q.2.2⟩⟩
theorem re_callN {ios : List Bool} {sp : DSp} {gV : List V → List V → List V} {n m : Nat} {t tk : TA} {da : DTK} {E : XK} (h : RK K (tPerm gV n m t tk) da) : RE K (tCallN n m (lift K ios false sp) gV E t tk) (dCall ios sp da) := ⟨fun c ps σ F H Q QV s q k => by
  have := (re_call (E := E) h).run c ps σ F H Q QV s q k
  unfold tCall tPerm at this
  simpa [tCallN] using this⟩
end
end Z

set_option Elab.async false
set_option linter.all false
set_option maxRecDepth 100000
set_option maxHeartbeats 4000000
namespace Z
open PySem PySem.Spec PyProof.Rows L2

/-! ### 19. the end of a law -/
section
variable {P : Program} {w : World} {K : PySem.W.Frag} {mg : Str → Option Value} {CX : CXT} {k : Nat} {fa a : Addr} {fd : FuncData} {x : Str} {sp : Sp} {s₁ : Shared} {vs : List Value} {ns : List Int}
/-- what is tracked at the law's entry: the script, or nothing (where it is one of the module's) -/
structure At0 (P : Program) (w : World) (K : PySem.W.Frag) (s : Shared) (a : Addr) (ns : List Int) (H : Hp) : Prop where
  ok : HOk P w H s.heap
  one : ∀ b, H b = none ∨ (b = a ∧ ∃ o, H b = some (.frz o (.lst (ns.map V.int))))
  sq : SqL K H a (ns.map V.int)
  apart : H a ≠ none → K.lookup a = none
theorem at0 (ha : s₁.heap.get? a = some { cls := .type "list", data := .seq vs.toArray }) (KX : K.In s₁.heap) (hi : IntsAre vs ns) (hl : ns.length ≤ sizeLine) : ∃ H, At0 P w K s₁ a ns H := by
  have rv := vals_ints hi
  cases hk : K.lookup a with
  | some o =>
    have e := KX a o hk
    rw [ha] at e; cases e
    refine ⟨fun _ => none, fun b u z => by (cases z), fun b => .inl rfl, .inr ⟨_, vs.toArray, _, hk, rfl, rfl, rfl, ?_, by simpa using rv⟩, fun z => absurd rfl z⟩
    rw [List.size_toArray, hi.length]; exact hl
  | none =>
    let o : HO := .frz { cls := .type "list", data := .seq vs.toArray } (.lst (ns.map V.int))
    have self : upd (fun _ => none) a o a = some o := upd_same
    refine ⟨upd (fun _ => none) a o, fun b u z => ?_, fun b => ?_, .inl (.inr ⟨_, self⟩), fun _ => hk⟩
    · by_cases hb : b = a
      · subst hb
        rw [self] at z; cases z
        exact ⟨ha, by rw [List.length_map]; exact hl, vs, _, rv, ha⟩
      · rw [upd_ne hb] at z; cases z
    · by_cases hb : b = a
      · exact .inr ⟨hb, _, by rw [hb]; exact self⟩
      · exact .inl (upd_ne hb)
theorem law_callG (KX : K.In s₁.heap) (hns : s₁.heap.Ns mainGlobals mg) {mb : Str → Option Value} (hb : s₁.heap.Ns builtinsNs mb) (hbb : ∀ x : Str, x ≠ "__name__" → mb x = bootBuiltins x) (hlim : s₁.heap.NoLimit) (hg : s₁.gens = #[])
    (ha : s₁.heap.get? a = some { cls := .type "list", data := .seq vs.toArray }) (hi : IntsAre vs ns) (hl : ns.length ≤ sizeLine) (hr : Room k callerA)
    (F : ∀ base : Heap, K.In base → base.Ns mainGlobals mg → FnG P w K mg base CX k fa fd [x] sp) (hbind : ∀ (s : Shared) (u : Value), BindsTo s fd ⟨[u], []⟩ [(x, u)])
    (hsp : ∀ H : Hp, SqL K H a (ns.map V.int) → sp [.ref a] H (fun v _ => v = .bl true) fun _ _ _ => False)
    (hCX : ∀ H e s', CX [] H s₁ (fun _ _ _ => False) e s' → False) :
    codeAny (model P w) callerA (.call (.ref fa) ⟨[.ref a], []⟩) (fun r s' => r = .ok (.ret (.bool true)) ∧ OldK s₁.heap s'.heap ∧ s'.os = s₁.os ∧ AllBare s'.gens) s₁ := by
  obtain ⟨H, t⟩ := at0 (P := P) (w := w) ha KX hi hl
  -- whatever is no list stands untracked
  have free : ∀ {b : Addr} {o : Obj}, s₁.heap.get? b = some o → (∀ x n, o.data = .seq x n → b ≠ a) → H b = none := fun {b o} e d => by
    rcases t.one b with z | ⟨z, _⟩
    · exact z
    · subst z
      rw [ha] at e; cases e
      exact absurd rfl (d _ _ rfl)
  have nsK : ∀ {b : Addr} {m : Str → Option Value}, s₁.heap.Ns b m → (hidT s₁.heap H).Ns b m := fun {b m} ⟨o, es, ep, e, d, r⟩ =>
    ⟨o, es, ep, hidT_get e (free e fun x n q => by rw [d] at q; cases q), d, r⟩
  have hKb : K.In (hidT s₁.heap H) := fun b o e => hidT_get (KX b o e) (by
    rcases t.one b with z | ⟨z, o', h'⟩
    · exact z
    · subst z
      rw [t.apart (by rw [h']; simp)] at e; cases e)
  have hM : Mod K mg (hidT s₁.heap H) := ⟨hKb, nsK hns, ⟨mb, nsK hb, hbb⟩, let ⟨mc, h1, h2⟩ := hlim; ⟨mc, nsK h1, h2⟩⟩
  have e0 : Env0 P w K mg (hidT s₁.heap H) callerA [] s₁ H := by
    refine ⟨rfl, hM, fun b o e => of_hidT e, Nat.le_of_eq (hidT_size _ _), trivial, fun b hb => ?_, t.ok, .of_eq hg⟩
    cases (show b ∈ ([] : List Addr) from hb)
  have run := (F _ hKb (nsK hns)).run callerA [] s₁ H ⟨[.ref a], []⟩ [.ref a] [.ref a] _ _ hr rfl e0 (hbind s₁ (.ref a)) (.cons rfl .nil) (hsp H t.sq)
  refine codeAny_mono run fun r s' h => ?_
  match r, h with
  | .error e, h => exact (hCX H e s' h).elim
  | .ok (.ret u), ⟨v, H', os, bare, un, hok', r', q⟩ =>
    have q' : v = .bl true := q
    subst q'
    obtain rfl : u = Value.bool true := r'
    refine ⟨rfl, OldK.of_keep fun b o e => ?_, os, bare⟩
    rcases t.one b with z | ⟨z, ob, h'⟩
    · exact un.keep b o e z (fun hm => by cases (show b ∈ ([] : List Addr) from hm)) (by simp)
    · have z2 := un.frzs b ob _ h'
      have e1 := (t.ok b _ h').1
      have e2 := (hok' b _ z2).1
      rw [e] at e1; cases e1
      exact e2
theorem walk_ofG {l : PySem.W.OpenLaw} {n k : Nat} {q : Program} {loose : List Str} {XP : (Str → Option Value) → Heap → Prop} {YP : World → Heap → Prop} {d : DefRec} {K : Params → PySem.W.Frag} {CX : World → CXT} {sp : World → Sp} {x : Str}
    (hn : l.most = some n) (hn2 : n ≤ sizeLine) (hdf : d.params.defaults = []) (hr : Room k callerA)
    (hY : ∀ (w : World) (h : Heap), YP w h → (K w.params).In h)
    (F : ∀ (w : World) (mg : Str → Option Value) (fa : Addr) (h : Heap), (K w.params).In h → h.Ns mainGlobals mg → mg d.name = some (.ref fa) →
      ∃ fd : FuncData, (∀ (s : Shared) (u : Value), BindsTo s fd ⟨[u], []⟩ [(x, u)]) ∧
        ∀ base : Heap, (K w.params).In base → base.Ns mainGlobals mg → FnG l.prog w (K w.params) mg base (CX w) k fa fd [x] (sp w))
    (hsp : ∀ (w : World) (H : Hp) (a : Addr) (ns : List Int), ns.length ≤ n → SqL (K w.params) H a (ns.map V.int) → sp w [.ref a] H (fun v _ => v = .bl true) fun _ _ _ => False)
    (hCX : ∀ (w : World) (H : Hp) (s : Shared) (e : Value) (s' : Shared), CX w [] H s (fun _ _ _ => False) e s' → False) :
    PySem.W.WalkO q loose XP YP l.row.toRowW d [] (fun f vs => PySem.call f vs) := by
  refine Att.attach_call hn hdf fun w s₀ s₁ mg mb fa o pm cd doc a vs ns G Y ho hd hcd hmg hobj hints hlen hg => ?_
  obtain ⟨fd, hb, hF⟩ := F w mg fa _ (hY w _ Y) G.T.g hmg
  exact law_callG (hY w _ Y) G.T.g G.T.b G.T.builtins G.T.nolimit hg hobj hints (Nat.le_trans hlen hn2) hr hF hb (fun H hS => hsp w H a ns hlen hS) fun H e s' => hCX w H s₁ e s'
end
/-- a law on data: for every script it answers True -/
def spLaw : DSp := fun ds Q _ => ∃ ns : List Int, ds = [.frl (ns.map D.int)] ∧ ns.length ≤ 63 ∧ Q (.bl true) []
theorem law_lift {K : PySem.W.Frag} {H : Hp} {a : Addr} {ns : List Int} (hl : ns.length ≤ 63) (h : SqL K H a (ns.map V.int)) :
    lift K [false] false spLaw [.ref a] H (fun v _ => v = .bl true) fun _ _ _ => False := by
  refine ⟨H, [.frl (ns.map D.int)], [], Ex.refl H, .pu (.frl h RepL.ints) .nil, .nil, fun d outs => d = .bl true, fun _ _ => False, ⟨ns, rfl, hl, rfl⟩, fun d outs e v F' H' _ _ _ r => ?_, fun _ _ z => z.elim⟩
  subst e
  unfold ResR at r
  rw [if_neg (by decide)] at r
  cases r; rfl
end Z

set_option Elab.async false
set_option linter.all false
set_option maxRecDepth 100000
set_option maxHeartbeats 4000000
namespace Z
open PySem PySem.Spec PyProof.Rows L2

/-! ### 20. a def that stands in the module, with its promise -/
structure Cal (P : Program) (w : World) (K : PySem.W.Frag) (mg : Str → Option Value) (base : Heap) (CX : CXT) (x : Str) (st : Stmt) (k : Nat) (ps : List Str) (sp : Sp) : Prop where
  ex : ∃ f fd, FnG P w K mg base CX k f fd ps sp ∧ Fun K x x st f fd ∧ Binds K fd ps [] ∧ mg x = some (.ref f)
section
variable {X : Cx} {CX : CXT} {k n : Nat} {st : Stmt} {ps ks : List Str} {sp : Sp} {E : XK} {x : Str} {p pos : Pos} {e : Expr} {es : List Expr} {kws : List Keyword} {t tk : TA}
  {g : List Value → List Value → List Value} {gV : List V → List V → List V}
theorem pe_cal (G : Cal X.prog X.w X.K X.mg X.base CX x st k ps sp) (hr : Room k X.A) (hgd : X.A.guards = some []) (hg : Gl X x) (hx : Passes CX X E)
    (ha : PA X (e :: es) t) (hdb : (x == ("__debug__" : Str)) = false := by decide) (he : starEach (e :: es) X.env = (false, eval e X.env) :: starEach es X.env := by rfl) (hpl : (backTo pos (starEach es X.env)).any (·.1) = false := by rfl) :
    PE X (.Call (.Name x p) (e :: es) [] pos) (tCall sp [] E t) := by
  obtain ⟨f, fd, F, U, b, m⟩ := G.ex
  exact peG_call F hr hgd hg m U.kp b .nil hx ha hdb he hpl
/-- keywords: how they bind follows from the def's text -/
theorem pe_calN (G : Cal X.prog X.w X.K X.mg X.base CX x st k ps sp) (hr : Room k X.A) (hgd : X.A.guards = some []) (hg : Gl X x) (hb : ∀ f fd, Fun X.K x x st f fd → KBn X.K fd ps n ks g gV) (hx : Passes CX X E)
    (ha : PA X (e :: es) t) (hkw : PK X kws tk) (hall : (backToKw pos (keywordEach kws X.env)).all (·.1.isSome) = true := by rfl) (hks : (backToKw pos (keywordEach kws X.env)).filterMap (·.1) = ks := by rfl)
    (hdb : (x == ("__debug__" : Str)) = false := by decide) (he : starEach (e :: es) X.env = (false, eval e X.env) :: starEach es X.env := by rfl)
    (hpl : ((backTo pos (starEach (e :: es) X.env)).any (·.1) || (backToKw pos (keywordEach kws X.env)).any (·.1.isNone)) = false := by rfl) :
    PE X (.Call (.Name x p) (e :: es) kws pos) (tCallN n ks.length sp gV E t tk) := by
  obtain ⟨f, fd, F, U, b, m⟩ := G.ex
  exact peG_callN F hr hgd hg m U.kp (hb f fd U) hx ha hkw hall hks hdb he hpl
/-- keywords alone -/
theorem pe_calN0 (G : Cal X.prog X.w X.K X.mg X.base CX x st k ps sp) (hr : Room k X.A) (hgd : X.A.guards = some []) (hg : Gl X x) (hb : ∀ f fd, Fun X.K x x st f fd → KBn X.K fd ps 0 ks g gV) (hx : Passes CX X E)
    (hkw : PK X kws tk) (hall : (backToKw pos (keywordEach kws X.env)).all (·.1.isSome) = true := by rfl) (hks : (backToKw pos (keywordEach kws X.env)).filterMap (·.1) = ks := by rfl)
    (hdb : (x == ("__debug__" : Str)) = false := by decide)
    (hpl : ((backTo pos (starEach [] X.env)).any (·.1) || (backToKw pos (keywordEach kws X.env)).any (·.1.isNone)) = false := by rfl) :
    PE X (.Call (.Name x p) [] kws pos) (tCallN 0 ks.length sp gV E tNil tk) := by
  obtain ⟨f, fd, F, U, b, m⟩ := G.ex
  refine ⟨fun pins s σ H Q I h => ?_⟩
  refine wpAny_Call_Name_kw (ld_glob I hg m (PySem.W.callWith_KW0 (h₀ := X.base) I.ok.mod.kin U.kp hall ?_ hpl) hdb)
  have h : tk σ H fun zs H2 => ([] : List V).length = 0 ∧ zs.length = ks.length ∧ sp (gV [] zs) H2 Q E := h
  refine thn (hkw.run pos pins s σ H _ I h) fun ws s2 ⟨zs, H2, I2, rz, l1, l2, q2⟩ => ⟨I2.kIn, ?_⟩
  rw [hks]
  exact run_fnGN F hr hgd (hb f fd U) hx I2 .nil rz l1 l2 q2
end
/-- a module's constant, a number or a text -/
theorem pe_k {X : Cx} {x : Str} {v : V} {pos : Pos} (hm : ∃ u, X.mg x = some u ∧ RelV v u) (hg : Gl X x) (hd : (x == ("__debug__" : Str)) = false := by decide) : PE X (.Name x pos) (tC v) := by
  obtain ⟨u, h, r⟩ := hm
  exact pe_glob hg h r hd
def dNeg (x : D) (Q : D → Prop) : Prop := match x with
  | .int i => Q (.int (-i))
  | _ => False
theorem ru_neg {K : PySem.W.Frag} : RU K (rU fun i => .int (-i)) dNeg := ⟨fun c ps σ F H x dx Q QV s nx q k => by
  unfold dNeg at q
  split at q
  · exact ⟨_, nx.int, k _ _ F H s (Ex.refl F) (.int _) q⟩
  · exact q.elim⟩
/-- tests of a clause -/
def dYes : DTT := fun ps Q => Q true ps
theorem rt_yes {K : PySem.W.Frag} : RT K tYes dYes := ⟨fun c ps σ F H Q QV s q k => k true ps F H s (Ex.refl F) q⟩
/-! short names -/
abbrev dSub := dI0 fun i j => .int (i - j)
abbrev dDiv := dI CDivW fun i j => .int (i / j)
abbrev dMod := dI (fun _ j => 0 < j) fun i j => .int (i % j)
abbrev dPow := dI CPow fun i j => .int (i ^ j.toNat)
abbrev dShl := dI CShl fun i j => .int (i * 2 ^ j.toNat)
abbrev dShr := dI (fun _ j => 0 ≤ j) fun i j => .int (i / 2 ^ j.toNat)
abbrev dBand := dI0 fun i j => .int (Builtin.bitAnd i j)
abbrev dLt := dI0 fun i j => .bl (decide (i < j))
abbrev dLe := dI0 fun i j => .bl (decide (i ≤ j))
abbrev dGt := dI0 fun i j => .bl (decide (j < i))
abbrev dGe := dI0 fun i j => .bl (decide (j ≤ i))
end Z

set_option Elab.async false
set_option linter.all false
set_option maxRecDepth 100000
set_option maxHeartbeats 4000000
namespace Z
open PySem L2
/-! ### 21. isinstance, str(int), bool(..) -/
theorem CallR.or {X : Cx} {f : Value} {r r' : List V → Hp → VK → Prop} (h : CallR X f r) (h' : CallR X f r') : CallR X f (fun xs H Q => r xs H Q ∨ r' xs H Q) := fun pins s σ H xs us Q I rr q =>
  q.elim (fun q => h pins s σ H xs us Q I rr q) fun q => h' pins s σ H xs us Q I rr q
def rIsiA (K : PySem.W.Frag) : List V → Hp → VK → Prop := fun xs H Q => rIsi K xs H Q ∨ (rIsiT K xs H Q ∨ rIsiK K xs H Q)
theorem call_isiA {X : Cx} : CallR X (.builtin "isinstance") (rIsiA X.K) := CallR.or call_isi (CallR.or call_isiT call_isiK)
def tyName : D → Option String
  | .non => some "NoneType"
  | .bl _ => some "bool"
  | .int _ => some "int"
  | .str _ => some "str"
  | .tup _ => some "tuple"
  | .lst _ => some "list"
  | .frl _ => some "list"
  | .dic _ _ => some "dict"
  | _ => none
/-- is a value of the type t one of the type n -/
def tyB (t n : String) : Bool := t == n || (t == "bool" && n == "int")
def tyKnown (n : String) : Bool := ["int", "bool", "str", "list", "tuple", "dict"].contains n
theorem kitB_tab {t n : String} {d : D} (ht : tyName d = some t) (hn : tyKnown n = true) : kitB t n = some (tyB t n) := by
  have h : t = "NoneType" ∨ t = "bool" ∨ t = "int" ∨ t = "str" ∨ t = "tuple" ∨ t = "list" ∨ t = "dict" := by
    cases d <;> simp [tyName] at ht <;> subst ht <;> simp
  have h' : n = "int" ∨ n = "bool" ∨ n = "str" ∨ n = "list" ∨ n = "tuple" ∨ n = "dict" := by simpa [tyKnown] using hn
  rcases h with rfl | rfl | rfl | rfl | rfl | rfl | rfl <;> rcases h' with rfl | rfl | rfl | rfl | rfl | rfl <;> decide +kernel
section
variable {K : PySem.W.Frag} {F H : Hp}
theorem Now.ty (e : Ex F H) {v : V} {d : D} {t : String} (n : Now K F H v d) (h : tyName d = some t) : TyX K H v (.type t) := by
  have own : ∀ {a xs}, SqT K H a xs → TyX K H (.ref a) (.type "tuple") := fun {a xs} hq => by
    rcases hq with (hq | ⟨o, hq⟩) | ⟨o, _, _, h1, h2, _⟩
    · exact .base (.tup hq)
    · exact .fTuple hq
    · exact .kTuple h1 h2
  rcases n with n | ⟨l, rfl, o⟩
  · cases n with
    | non => cases h; exact .base .non
    | bl b => cases h; exact .base (.bl b)
    | int i => cases h; exact .base (.int i)
    | str x => cases h; exact .base (.str x)
    | tup hq _ => cases h; exact own (ex_t e hq.sq)
    | lst hq _ => cases h; exact .base (.lst (e _ _ hq))
    | frl hq _ =>
      cases h
      rcases ex_l e hq with (hq | ⟨o, hq⟩) | ⟨o, _, _, h1, h2, _⟩
      · exact .base (.lst hq)
      · exact .base (.frz hq)
      · exact .kList h1 h2
    | dic hq _ => cases h; exact .base (.dK (e _ _ hq))
    | ins _ _ => cases h
    | ref _ => cases h
    | ty _ => cases h
  · cases o with
    | lst hq _ => cases h; exact .base (.lst hq)
    | dic hq _ => cases h; exact .base (.dK hq)
    | ins _ _ => cases h
def isTy : D → Bool
  | .ty n => tyKnown n
  | _ => false
def tyBD (t : String) : D → Bool
  | .ty n => tyB t n
  | _ => false
theorem isi_ok {t : String} {d : D} (ht : tyName d = some t) : ∀ {cs : List D} {vs : List V}, cs.all isTy = true → RepL K F vs cs → ∃ us, Paired ClsV vs us ∧ PySem.W.kitAny K (.type t) us = some (cs.any (tyBD t))
  | [], _, h, r => by
    cases r
    exact ⟨[], .nil, kitAny_nil⟩
  | c :: cs, _, h, r => by
    rw [List.all_cons, Bool.and_eq_true] at h
    cases c with
    | ty n =>
      cases r with
      | cons r1 r2 =>
        cases r1
        have hb := kit_ty (K := K) (kitB_tab ht (show tyKnown n = true from h.1))
        obtain ⟨us, g1, g2⟩ := isi_ok ht h.2 r2
        refine ⟨_, .cons (.ty n) g1, ?_⟩
        have e : (D.ty n :: cs).any (tyBD t) = (tyB t n || cs.any (tyBD t)) := rfl
        rw [e]
        cases hy : tyB t n with
        | true => rw [hy] at hb; exact kitAny_cons hb (fun z => by cases z) fun _ => rfl
        | false => rw [hy] at hb; exact kitAny_cons hb (fun _ => by rw [Bool.false_or]; exact g2) fun z => by cases z
    | _ => cases h.1
def dIsi (ds : List D) (Q : D → Prop) : Prop := match ds with
  | [x, .ty n] => match tyName x with
    | some t => tyKnown n = true ∧ Q (.bl (tyB t n))
    | none => False
  | [x, .tup cs] => match tyName x with
    | some t => cs.all isTy = true ∧ Q (.bl (cs.any (tyBD t)))
    | none => False
  | _ => False
variable {c : Fz} {ps : Pst} {σ : St}
theorem rc_isi : RC K (rIsiA K) dIsi := ⟨fun c ps σ F H xs ds Q QV s nl q k => by
  unfold dIsi at q
  split at q
  · split at q
    · rename_i t ht
      obtain ⟨x, y, rfl, n, n'⟩ := nl.two
      rcases n' with n' | ⟨l, rfl, o⟩
      · cases n'
        exact .inl ⟨x, _, _, _, _, rfl, .ty _, n.ty s.fh ht, kit_ty (kitB_tab ht q.1), k _ _ F H s (Ex.refl F) (.bl _) q.2⟩
      · cases o
    · exact q.elim
  · split at q
    · rename_i t ht
      obtain ⟨x, y, rfl, n, n'⟩ := nl.two
      rcases n' with n' | ⟨l, rfl, o⟩
      · cases n' with
        | @tup a ys _ hq rr =>
          obtain ⟨us, g1, g2⟩ := isi_ok ht q.1 rr
          rcases hq with hq | ⟨o, its, m, h1, h2, h3, h4, h5⟩
          · exact .inr (.inl ⟨x, a, ys, _, us, _, rfl, s.fh _ _ hq, g1, n.ty s.fh ht, g2, k _ _ F H s (Ex.refl F) (.bl _) q.2⟩)
          · have eu : its.toList = us := ClsV.all g1 h5
            obtain ⟨oc, od, dt, sl⟩ := o
            have h2 : oc = .type "tuple" := h2
            have h3 : dt = .seq its m := h3
            subst h2 h3
            exact .inr (.inr ⟨x, a, od, us, m, sl, _, _, rfl, by rw [h1, ← eu], n.ty s.fh ht, g2, k _ _ F H s (Ex.refl F) (.bl _) q.2⟩)
      · cases o
    · exact q.elim
  · exact q.elim⟩
/-! str of an int -/
def rStrI : List V → Hp → VK → Prop := fun xs H Q => ∃ i, xs = [.int i] ∧ i.natAbs.log2 < 1920 ∧ Q (.str (toString i)) H
def dStrI (ds : List D) (Q : D → Prop) : Prop := match ds with
  | [.int i] => i.natAbs.log2 < 1920 ∧ Q (.str (toString i))
  | _ => False
theorem rc_strI : RC K rStrI dStrI := ⟨fun c ps σ F H xs ds Q QV s nl q k => by
  unfold dStrI at q
  split at q
  · obtain ⟨x, rfl, n⟩ := nl.one
    rw [n.int]; exact ⟨_, rfl, q.1, k _ _ F H s (Ex.refl F) (.str _) q.2⟩
  · exact q.elim⟩
end
end Z

set_option Elab.async false
set_option linter.all false
set_option maxRecDepth 100000
set_option maxHeartbeats 4000000
namespace Z
open PySem PySem.Spec PyProof.Rows L2
open PySem.Sem (wp)

/-! ### 22. walks over a list or a tuple, one rule for both -/
inductive Sk where | l | t
def Sk.iter : Sk → Heap → Addr → Addr → Nat → Prop
  | .l => fun h a b i => h.IsListIter a b i
  | .t => fun h a b i => h.IsTupleIter a b i
def Sk.seq : Sk → Heap → Addr → Array Value → Prop
  | .l => fun h a xs => h.IsList a xs
  | .t => fun h a xs => h.IsTuple a xs
def Sk.sq (K : PySem.W.Frag) : Sk → Hp → Addr → List V → Prop
  | .l => SqL K
  | .t => SqT K
section
variable {prog : Program} {w : World} {A : Around} {E : Value → Shared → Prop} {s : Shared} {h h' : Heap} {k : Sk} {a b : Addr} {i : Nat} {xs : Array Value}
theorem Sk.iter_ex (x : k.iter h a b i) : ∃ o, h.get? a = some o ∧ (o.cls = .type "list_iterator" ∨ o.cls = .type "tuple_iterator") ∧ o.data = .fields #[.ref b, .int i 0] := by
  cases k with
  | l => obtain ⟨o, h1, h2, h3⟩ := x; exact ⟨o, h1, .inl h2, h3⟩
  | t => obtain ⟨o, h1, h2, h3⟩ := x; exact ⟨o, h1, .inr h2, h3⟩
theorem Sk.iter_at (x : k.iter h a b i) (e : ∀ o, h.get? a = some o → h'.get? a = some o) : k.iter h' a b i := by
  cases k with
  | l => exact Heap.IsListIter.at x e
  | t => exact Heap.IsTupleIter.at x e
theorem Sk.iter_but {c : Addr} (x : k.iter h a b i) (e : Heap.ExtBut c h h') (n : a ≠ c) : k.iter h' a b i := Sk.iter_at x fun o q => e _ _ n q
theorem Sk.seq_but {c : Addr} (x : k.seq h a xs) (e : Heap.ExtBut c h h') (n : a ≠ c) : k.seq h' a xs := by
  cases k with
  | l => exact Heap.IsList.extBut x e n
  | t => exact Heap.IsTuple.extBut x e n
theorem Sk.seq_push {o : Obj} (x : k.seq h a xs) : k.seq (h.push o) a xs := by
  cases k with
  | l => exact Heap.IsList.push x _
  | t => exact Heap.IsTuple.push x _
theorem Sk.seq_lt (x : k.seq h a xs) : a < h.objs.size := by
  cases k with
  | l => obtain ⟨o, h1, _⟩ := x; exact Heap.lt_size h1
  | t => obtain ⟨o, h1, _⟩ := x; exact Heap.lt_size h1
theorem Sk.next {x : Value} {Q : Value → Shared → Prop} (hit : k.iter s.heap a b i) (hl : k.seq s.heap b xs) (hx : xs[i]? = some x)
    (hQ : ∀ h', k.iter h' a b (i + 1) → Heap.SameBut a s.heap h' → Q x { s with heap := h' }) : wpAny (model prog w) A (Builtin.SmallTypes.nextOf (.ref a)) Q E s := by
  cases k with
  | l => exact wpAny_nextOf_list_item hit hl hx hQ
  | t => exact RZ.nextOf_tuple_item hit hl hx hQ
theorem Sk.end_ {Q : Value → Shared → Prop} (hh : A.handled = none) (hit : k.iter s.heap a b i) (hl : k.seq s.heap b xs) (hx : xs[i]? = none)
    (hE : ∀ h' e, Heap.ExtBut a s.heap h' → (∃ o, h'.get? e = some o ∧ o.cls = .type "StopIteration") → E (.ref e) { s with heap := h' }) : wpAny (model prog w) A (Builtin.SmallTypes.nextOf (.ref a)) Q E s := by
  cases k with
  | l => exact wpAny_nextOf_list_end hh hit hl hx hE
  | t => exact RZ.nextOf_tuple_end hh hit hl hx hE
end
section
variable {prog : Program} {w : World} {A : Around} {E : Value → Shared → Prop} {s : Shared} {p q : Sk}
theorem sk_zip_item {z TI TO i1 i2 l1 l2 : Addr} {k1 k2 : Nat} {xs ys : Array Value} {x y a b : Value} {Q : Value → Shared → Prop} (D : ZipApart z TI TO i1 i2 l1 l2)
    (hz : IsZip s.heap z TI TO .none) (hTI : IsPair s.heap TI (.ref i1) (.ref i2)) (hTO : IsPair s.heap TO a b)
    (h1 : p.iter s.heap i1 l1 k1) (h2 : q.iter s.heap i2 l2 k2) (hl1 : p.seq s.heap l1 xs) (hl2 : q.seq s.heap l2 ys) (hx : xs[k1]? = some x) (hy : ys[k2]? = some y)
    (hQ : ∀ h', IsZip h' z TI TO (rawInt s.heap.objs.size) → IsPair h' TO x y → p.iter h' i1 l1 (k1 + 1) → q.iter h' i2 l2 (k2 + 1) → IsPair h' s.heap.objs.size x y →
      (∀ c o, c ≠ z → c ≠ TO → c ≠ i1 → c ≠ i2 → s.heap.get? c = some o → h'.get? c = some o) → Q (.ref s.heap.objs.size) { s with heap := h' }) :
    wpAny (model prog w) A (Builtin.«zip.__next__» ⟨[.ref z], []⟩) (fun fin s' => ∃ v, fin = .done (.ret v) ∧ Q v s') E s := by
  show wpAny _ _ (field (.ref z) 2 >>= _) _ _ _
  refine wpAny_bind (wpAny_field hz rfl (x := .bool false) rfl ?_)
  show wpAny _ _ (field (.ref z) 3 >>= _) _ _ _
  refine wpAny_bind (wpAny_field hz rfl (x := .ref TI) rfl (wpAny_bind (wpAny_seqItems hTI rfl ?_)))
  show wpAny _ _ (Builtin.SmallTypes.ownedTupleIsFree (.ref z) >>= _) _ _ _
  refine wpAny_bind ?_
  unfold Builtin.SmallTypes.ownedTupleIsFree
  refine wpAny_bind (wpAny_field hz rfl (x := .none) rfl (wpAny_pure ?_))
  simp only [if_true]
  refine wpAny_bind (wpAny_rule (wpAny_bind (wpAny_field hz rfl (x := .ref TO) rfl (wpAny_bind (wpAny_setField_rec hz (by simp) fun g hg sg => ?_)))))
  replace hg : IsZip g z TI TO .ellipsis := hg
  refine wpAny_bind ?_
  simp only [List.zipIdx_cons, List.zipIdx_nil, List.forIn_cons, List.forIn_nil]
  -- the first
  refine wpAny_bind (wpAny_bind (wpAny_onRaise ?_))
  show wpAny _ _ (Builtin.SmallTypes.nextOf (.ref i1) >>= _) _ _ _
  refine wpAny_bind (Sk.next (Sk.iter_but h1 sg.extBut D.i1z) (Sk.seq_but hl1 sg.extBut D.l1z) hx fun g2 n1 s2 => wpAny_pure ?_)
  have t2 : IsPair g2 TO a b := s2.extBut _ _ D.TOi1 (sg.extBut _ _ D.TOz hTO)
  refine wpAny_bind (wpAny_seqItems t2 rfl (wpAny_bind (wpAny_updateSeq_pair t2 fun g3 t3 s3 => wpAny_bind (wpAny_letGo (wpAny_pure ?_)))))
  replace t3 : IsPair g3 TO x b := t3
  -- the second
  refine wpAny_bind (wpAny_bind (wpAny_onRaise ?_))
  show wpAny _ _ (Builtin.SmallTypes.nextOf (.ref i2) >>= _) _ _ _
  have j2 : q.iter g3 i2 l2 k2 := Sk.iter_but (Sk.iter_but (Sk.iter_but h2 sg.extBut D.i2z) s2.extBut D.i12.symm) s3.extBut D.TOi2.symm
  have j3 : q.seq g3 l2 ys := Sk.seq_but (Sk.seq_but (Sk.seq_but hl2 sg.extBut D.l2z) s2.extBut D.l2i1) s3.extBut D.l2TO
  refine wpAny_bind (Sk.next j2 j3 hy fun g4 n2 s4 => wpAny_pure ?_)
  have t4 : IsPair g4 TO x b := s4.extBut _ _ D.TOi2 t3
  refine wpAny_bind (wpAny_seqItems t4 rfl (wpAny_bind (wpAny_updateSeq_pair t4 fun g5 t5 s5 => wpAny_bind (wpAny_letGo (wpAny_pure (wpAny_pure ?_))))))
  replace t5 : IsPair g5 TO x y := t5
  -- the pair goes out
  refine wpAny_bind (wpAny_seqItems t5 rfl (wpAny_bind (wpAny_newTuple ?_)))
  have sz : g5.objs.size = s.heap.objs.size := by rw [s5.1, s4.1, s3.1, s2.1, sg.1]
  have z5 : IsZip g5 z TI TO .ellipsis := s5.extBut _ _ D.TOz.symm (s4.extBut _ _ D.i2z.symm (s3.extBut _ _ D.TOz.symm (s2.extBut _ _ D.i1z.symm hg)))
  have k5 : ∀ c o, c ≠ z → c ≠ TO → c ≠ i1 → c ≠ i2 → s.heap.get? c = some o → g5.get? c = some o := fun c o c1 c2 c3 c4 e =>
    s5.extBut _ _ c2 (s4.extBut _ _ c4 (s3.extBut _ _ c2 (s2.extBut _ _ c3 (sg.extBut _ _ c1 e))))
  have m1 : p.iter g5 i1 l1 (k1 + 1) := Sk.iter_but (Sk.iter_but (Sk.iter_but n1 s3.extBut D.TOi1.symm) s4.extBut D.i12) s5.extBut D.TOi1.symm
  have m2 : q.iter g5 i2 l2 (k2 + 1) := Sk.iter_but n2 s5.extBut D.TOi2.symm
  have zlt : z < g5.objs.size := Heap.lt_size z5
  show wpAny _ _ (Builtin.SmallTypes.ownedTupleHandOut (.ref z) (.ref g5.objs.size) >>= _) _ _ _
  refine wpAny_bind ?_
  unfold Builtin.SmallTypes.ownedTupleHandOut
  have z6 : IsZip (g5.push { cls := .type "tuple", data := .seq #[x, y] }) z TI TO .ellipsis := Heap.get?_push_of_some _ z5
  refine wpAny_bind (wpAny_setField_rec z6 (by simp) fun g7 z7 s7 => ?_)
  replace z7 : IsZip g7 z TI TO (rawInt g5.objs.size) := z7
  refine wpAny_setField_rec z7 (by simp) fun g8 z8 s8 => ?_
  replace z8 : IsZip g8 z TI TO (rawInt g5.objs.size) := z8
  have up : ∀ c o, c ≠ z → g5.get? c = some o → g8.get? c = some o := fun c o c1 e => s8.extBut _ _ c1 (s7.extBut _ _ c1 (Heap.get?_push_of_some _ e))
  have t8 : IsPair g8 g5.objs.size x y := s8.extBut _ _ (Nat.ne_of_gt zlt) (s7.extBut _ _ (Nat.ne_of_gt zlt) (Heap.get?_push_size _ rfl))
  rw [sz] at z8 t8
  refine wpAny_pure ⟨_, rfl, ?_⟩
  show Q (.ref g5.objs.size) _
  rw [sz]
  exact hQ g8 z8 (up _ _ D.TOz t5) (Sk.iter_at m1 fun o e => up _ o D.i1z e) (Sk.iter_at m2 fun o e => up _ o D.i2z e) t8 fun c o c1 c2 c3 c4 e => up c o c1 (k5 c o c1 c2 c3 c4 e)
theorem sk_zip_end {z TI TO i1 i2 l1 l2 : Addr} {k1 k2 : Nat} {xs ys : Array Value} {a b : Value} {Q : Fin → Shared → Prop} (hh : A.handled = none) (D : ZipApart z TI TO i1 i2 l1 l2)
    (hz : IsZip s.heap z TI TO .none) (hTI : IsPair s.heap TI (.ref i1) (.ref i2)) (hTO : IsPair s.heap TO a b)
    (h1 : p.iter s.heap i1 l1 k1) (h2 : q.iter s.heap i2 l2 k2) (hl1 : p.seq s.heap l1 xs) (hl2 : q.seq s.heap l2 ys) (hend : xs[k1]? = none ∨ ys[k2]? = none)
    (hE : ∀ h' e, (∀ c o, c ≠ z → c ≠ TO → c ≠ i1 → c ≠ i2 → s.heap.get? c = some o → h'.get? c = some o) → (∃ o, h'.get? e = some o ∧ o.cls = .type "StopIteration") → E (.ref e) { s with heap := h' }) :
    wpAny (model prog w) A (Builtin.«zip.__next__» ⟨[.ref z], []⟩) Q E s := by
  show wpAny _ _ (field (.ref z) 2 >>= _) _ _ _
  refine wpAny_bind (wpAny_field hz rfl (x := .bool false) rfl ?_)
  show wpAny _ _ (field (.ref z) 3 >>= _) _ _ _
  refine wpAny_bind (wpAny_field hz rfl (x := .ref TI) rfl (wpAny_bind (wpAny_seqItems hTI rfl ?_)))
  show wpAny _ _ (Builtin.SmallTypes.ownedTupleIsFree (.ref z) >>= _) _ _ _
  refine wpAny_bind ?_
  unfold Builtin.SmallTypes.ownedTupleIsFree
  refine wpAny_bind (wpAny_field hz rfl (x := .none) rfl (wpAny_pure ?_))
  simp only [if_true]
  refine wpAny_bind (wpAny_rule (wpAny_bind (wpAny_field hz rfl (x := .ref TO) rfl (wpAny_bind (wpAny_setField_rec hz (by simp) fun g hg sg => ?_)))))
  replace hg : IsZip g z TI TO .ellipsis := hg
  refine wpAny_bind ?_
  simp only [List.zipIdx_cons, List.zipIdx_nil, List.forIn_cons, List.forIn_nil]
  refine wpAny_bind (wpAny_bind (wpAny_onRaise ?_))
  show wpAny _ _ (Builtin.SmallTypes.nextOf (.ref i1) >>= _) _ _ _
  cases hx : xs[k1]? with
  | none =>
    refine wpAny_bind (Sk.end_ hh (Sk.iter_but h1 sg.extBut D.i1z) (Sk.seq_but hl1 sg.extBut D.l1z) hx fun g2 e s2 ⟨oe, hoe, hce⟩ => ?_)
    have z2 : IsZip g2 z TI TO .ellipsis := s2 _ _ D.i1z.symm hg
    have ne : e ≠ z := fun c => by subst c; rw [z2] at hoe; cases hoe; simp at hce
    exact wpAny_setField_rec z2 (by simp) fun g3 _ s3 => hE g3 e (fun c o c1 _ c3 _ x => s3.extBut _ _ c1 (s2 _ _ c3 (sg.extBut _ _ c1 x))) ⟨oe, s3.extBut _ _ ne hoe, hce⟩
  | some x =>
    have hy : ys[k2]? = none := by
      rcases hend with h | h
      · rw [hx] at h; cases h
      · exact h
    refine wpAny_bind (Sk.next (Sk.iter_but h1 sg.extBut D.i1z) (Sk.seq_but hl1 sg.extBut D.l1z) hx fun g2 n1 s2 => wpAny_pure ?_)
    have t2 : IsPair g2 TO a b := s2.extBut _ _ D.TOi1 (sg.extBut _ _ D.TOz hTO)
    refine wpAny_bind (wpAny_seqItems t2 rfl (wpAny_bind (wpAny_updateSeq_pair t2 fun g3 t3 s3 => wpAny_bind (wpAny_letGo (wpAny_pure ?_)))))
    refine wpAny_bind (wpAny_bind (wpAny_onRaise ?_))
    show wpAny _ _ (Builtin.SmallTypes.nextOf (.ref i2) >>= _) _ _ _
    have j2 : q.iter g3 i2 l2 k2 := Sk.iter_but (Sk.iter_but (Sk.iter_but h2 sg.extBut D.i2z) s2.extBut D.i12.symm) s3.extBut D.TOi2.symm
    have j3 : q.seq g3 l2 ys := Sk.seq_but (Sk.seq_but (Sk.seq_but hl2 sg.extBut D.l2z) s2.extBut D.l2i1) s3.extBut D.l2TO
    refine wpAny_bind (Sk.end_ hh j2 j3 hy fun g4 e s4 ⟨oe, hoe, hce⟩ => ?_)
    have z4 : IsZip g4 z TI TO .ellipsis := s4 _ _ D.i2z.symm (s3.extBut _ _ D.TOz.symm (s2.extBut _ _ D.i1z.symm hg))
    have ne : e ≠ z := fun c => by subst c; rw [z4] at hoe; cases hoe; simp at hce
    exact wpAny_setField_rec z4 (by simp) fun g5 _ s5 => hE g5 e (fun c o c1 c2 c3 c4 x => s5.extBut _ _ c1 (s4 _ _ c4 (s3.extBut _ _ c2 (s2.extBut _ _ c3 (sg.extBut _ _ c1 x))))) ⟨oe, s5.extBut _ _ ne hoe, hce⟩
end
/-- the object of a walk at its start -/
def Sk.obj : Sk → Addr → Obj
  | .l => fun a => { cls := .type "list_iterator", data := .fields #[.ref a, .int 0 0] }
  | .t => fun a => { cls := .type "tuple_iterator", data := .fields #[.ref a, .int 0 0] }
theorem Sk.obj_iter {k : Sk} {h : Heap} {a b : Addr} (e : h.get? a = some (k.obj b)) : k.iter h a b 0 := by
  cases k with
  | l => exact ⟨_, e, rfl, rfl⟩
  | t => exact ⟨_, e, rfl, rfl⟩
theorem Sk.obj_cls (k : Sk) (a : Addr) : (k.obj a).isFreed = false := by cases k <;> rfl
def szp (p q : Sk) (h : Heap) (a b : Addr) : Heap :=
  ((((h.push (p.obj a)).push (q.obj b)).push { cls := .type "tuple", data := .seq #[.ref h.objs.size, .ref (h.push (p.obj a)).objs.size] }).push { cls := .type "tuple", data := .seq #[.none, .none] }).push
    { cls := .type "zip", data := .fields #[.none, .bool false, .bool false, .ref ((h.push (p.obj a)).push (q.obj b)).objs.size,
      .ref (((h.push (p.obj a)).push (q.obj b)).push { cls := .type "tuple", data := .seq #[.ref h.objs.size, .ref (h.push (p.obj a)).objs.size] }).objs.size] }
def szA (p q : Sk) (h : Heap) (a b : Addr) : Addr :=
  ((((h.push (p.obj a)).push (q.obj b)).push { cls := .type "tuple", data := .seq #[.ref h.objs.size, .ref (h.push (p.obj a)).objs.size] }).push { cls := .type "tuple", data := .seq #[.none, .none] }).objs.size
theorem sk_zip_new (p q : Sk) (a b : Addr) (xs ys : Array Value) :
    Meets (Builtin.«zip.__new__» ⟨[.type "zip", .ref a, .ref b], []⟩) (fun _ R s => p.seq s.heap a xs ∧ q.seq s.heap b ys ∧ R (.ok (.ret (.ref (szA p q s.heap a b)))) { s with heap := szp p q s.heap a b }) :=
  .of_wp fun prog w A R s h => by
    obtain ⟨hp, g, d, tk, os⟩ := s
    obtain ⟨ha, hb, h⟩ := h
    have hsub := sub_zip
    have ha2 : p.seq (Shared.heap ⟨hp, g, d, tk, os⟩) a xs := ha
    have hb2 : q.seq (Shared.heap ⟨hp.push (p.obj a), g, d, tk, os⟩) b ys := Sk.seq_push hb
    cases p with
    | l =>
      cases q with
      | l =>
        have x : Heap.IsList (Shared.heap ⟨hp, g, d, tk, os⟩) a xs := ha2
        have y : Heap.IsList (Shared.heap ⟨hp.push { cls := .type "list_iterator", data := .fields #[.ref a, .int 0 0] }, g, d, tk, os⟩) b ys := hb2
        wp_walk using wpAny_pyIter_list x, wpAny_pyIter_list y
        exact ⟨_, rfl, h⟩
      | t =>
        have x : Heap.IsList (Shared.heap ⟨hp, g, d, tk, os⟩) a xs := ha2
        have y : Heap.IsTuple (Shared.heap ⟨hp.push { cls := .type "list_iterator", data := .fields #[.ref a, .int 0 0] }, g, d, tk, os⟩) b ys := hb2
        wp_walk using wpAny_pyIter_list x, wpAny_pyIter_tuple y
        exact ⟨_, rfl, h⟩
    | t =>
      cases q with
      | l =>
        have x : Heap.IsTuple (Shared.heap ⟨hp, g, d, tk, os⟩) a xs := ha2
        have y : Heap.IsList (Shared.heap ⟨hp.push { cls := .type "tuple_iterator", data := .fields #[.ref a, .int 0 0] }, g, d, tk, os⟩) b ys := hb2
        wp_walk using wpAny_pyIter_tuple x, wpAny_pyIter_list y
        exact ⟨_, rfl, h⟩
      | t =>
        have x : Heap.IsTuple (Shared.heap ⟨hp, g, d, tk, os⟩) a xs := ha2
        have y : Heap.IsTuple (Shared.heap ⟨hp.push { cls := .type "tuple_iterator", data := .fields #[.ref a, .int 0 0] }, g, d, tk, os⟩) b ys := hb2
        wp_walk using wpAny_pyIter_tuple x, wpAny_pyIter_tuple y
        exact ⟨_, rfl, h⟩
section
variable {prog : Program} {w : World} {A : Around} {E : Value → Shared → Prop} {s : Shared} {p q : Sk}
theorem sk_zip_call {a b : Addr} {xs ys : Array Value} {Q : Value → Shared → Prop} (ha : p.seq s.heap a xs) (hb : q.seq s.heap b ys)
    (h : ∀ h', IsZip h' (s.heap.objs.size + 4) (s.heap.objs.size + 2) (s.heap.objs.size + 3) .none → IsPair h' (s.heap.objs.size + 2) (.ref s.heap.objs.size) (.ref (s.heap.objs.size + 1)) →
      IsPair h' (s.heap.objs.size + 3) .none .none → p.iter h' s.heap.objs.size a 0 → q.iter h' (s.heap.objs.size + 1) b 0 →
      (∀ c o, s.heap.get? c = some o → h'.get? c = some o) → Q (.ref (s.heap.objs.size + 4)) { s with heap := h' }) :
    wpAny (model prog w) A (call (.type "zip") [.ref a, .ref b]) Q E s := by
  refine callType_new F.called_zip (by decide) (F.typeCall_zip_2 _ _) (F.newCall_zip_2 _ _) (fun obj => F.args_object_init_3 obj _ _) F.entry_zip_new
    (sk_zip_new p q a b xs ys) ⟨ha, hb, ?_⟩
  have eA : szA p q s.heap a b = s.heap.objs.size + 4 := by simp [szA, Heap.size_push]
  have g5 : (szp p q s.heap a b).get? (szA p q s.heap a b) = some _ := Heap.get?_push_size _ rfl
  have g4 : (szp p q s.heap a b).get? (((s.heap.push (p.obj a)).push (q.obj b)).push _).objs.size = some _ := Heap.get?_push_of_some _ (Heap.get?_push_size _ rfl)
  have g3 : (szp p q s.heap a b).get? ((s.heap.push (p.obj a)).push (q.obj b)).objs.size = some _ := Heap.get?_push_of_some _ (Heap.get?_push_of_some _ (Heap.get?_push_size _ rfl))
  have g2 : (szp p q s.heap a b).get? (s.heap.push (p.obj a)).objs.size = some _ := Heap.get?_push_of_some _ (Heap.get?_push_of_some _ (Heap.get?_push_of_some _ (Heap.get?_push_size _ (q.obj_cls b))))
  have g1 : (szp p q s.heap a b).get? s.heap.objs.size = some _ := Heap.get?_push_of_some _ (Heap.get?_push_of_some _ (Heap.get?_push_of_some _ (Heap.get?_push_of_some _ (Heap.get?_push_size _ (p.obj_cls a)))))
  simp only [Heap.size_push] at g5 g4 g3 g2
  rw [eA] at g5
  show _ ∧ _
  rw [eA]
  exact ⟨⟨_, g5, rfl⟩, h _ g5 g3 g4 (Sk.obj_iter g1) (Sk.obj_iter g2) fun c o x =>
    Heap.get?_push_of_some _ (Heap.get?_push_of_some _ (Heap.get?_push_of_some _ (Heap.get?_push_of_some _ (Heap.get?_push_of_some _ x))))⟩
theorem sk_pyNext_item {z TI TO i1 i2 l1 l2 : Addr} {k1 k2 : Nat} {xs ys : Array Value} {x y a b : Value} {Q : Option Value → Shared → Prop} (D : ZipApart z TI TO i1 i2 l1 l2)
    (hz : IsZip s.heap z TI TO .none) (hTI : IsPair s.heap TI (.ref i1) (.ref i2)) (hTO : IsPair s.heap TO a b)
    (h1 : p.iter s.heap i1 l1 k1) (h2 : q.iter s.heap i2 l2 k2) (hl1 : p.seq s.heap l1 xs) (hl2 : q.seq s.heap l2 ys) (hx : xs[k1]? = some x) (hy : ys[k2]? = some y)
    (hQ : ∀ h', IsZip h' z TI TO (rawInt s.heap.objs.size) → IsPair h' TO x y → p.iter h' i1 l1 (k1 + 1) → q.iter h' i2 l2 (k2 + 1) → IsPair h' s.heap.objs.size x y →
      (∀ c o, c ≠ z → c ≠ TO → c ≠ i1 → c ≠ i2 → s.heap.get? c = some o → h'.get? c = some o) → Q (some (.ref s.heap.objs.size)) { s with heap := h' }) :
    wpAny (model prog w) A (pyNext (.ref z)) Q E s := by
  have hT : s.TypeIs (.ref z) "zip" := ⟨_, hz, rfl⟩
  unfold pyNext
  exact wpAny_bind (wpAny_attempt (wpAny_callSpecial?_slot (name := Str.ofString "__next__") hT F.slot_zip_next (wpAny_call_entry F.slot_zip_next hT F.entry_zip_next
    (sk_zip_item D hz hTI hTO h1 h2 hl1 hl2 hx hy fun h' a1 a2 a3 a4 a5 a6 => wpAny_pure (hQ h' a1 a2 a3 a4 a5 a6)) (F.args_zip_next_1 _))))
theorem sk_pyNext_end {z TI TO i1 i2 l1 l2 : Addr} {k1 k2 : Nat} {xs ys : Array Value} {a b : Value} {Q : Option Value → Shared → Prop} (hh : A.handled = none) (D : ZipApart z TI TO i1 i2 l1 l2)
    (hz : IsZip s.heap z TI TO .none) (hTI : IsPair s.heap TI (.ref i1) (.ref i2)) (hTO : IsPair s.heap TO a b)
    (h1 : p.iter s.heap i1 l1 k1) (h2 : q.iter s.heap i2 l2 k2) (hl1 : p.seq s.heap l1 xs) (hl2 : q.seq s.heap l2 ys) (hend : xs[k1]? = none ∨ ys[k2]? = none)
    (hQ : ∀ h', (∀ c o, c ≠ z → c ≠ TO → c ≠ i1 → c ≠ i2 → s.heap.get? c = some o → h'.get? c = some o) → Q none { s with heap := h' }) : wpAny (model prog w) A (pyNext (.ref z)) Q E s := by
  have hT : s.TypeIs (.ref z) "zip" := ⟨_, hz, rfl⟩
  unfold pyNext
  refine wpAny_bind (wpAny_attempt (wpAny_callSpecial?_slot (name := Str.ofString "__next__") hT F.slot_zip_next
    (wpAny_call_entry F.slot_zip_next hT F.entry_zip_next (sk_zip_end hh D hz hTI hTO h1 h2 hl1 hl2 hend fun h' e hk he => ?_) (F.args_zip_next_1 _))))
  obtain ⟨o, ho, hc⟩ := he
  exact wpAny_bind (wpAny_isInstance (T := "StopIteration") (b := true) ⟨o, ho, hc⟩ isSubtype_stop (wpAny_pure (hQ _ hk)))
end
section
variable {X : Cx} {pins : List (Addr × Obj)} {σ : L2.St} {H : Hp} {s : Shared} {k : Sk} {a : Addr} {xs ys : List V}
theorem Sk.read (I : Inv X pins σ H s) (h : k.sq X.K H a xs) : ∃ its : List Value, Vals xs its ∧ k.seq s.heap a its.toArray := by
  cases k with
  | l => obtain ⟨its, rv, p, _⟩ := I.list h; exact ⟨its, rv, p.isList⟩
  | t => obtain ⟨its, rv, p, _⟩ := I.tuple h; exact ⟨its, rv, p⟩
theorem Sk.inj (I : Inv X pins σ H s) (h : k.sq X.K H a xs) (h' : k.sq X.K H a ys) : xs = ys := by
  cases k with
  | l => exact I.list_inj h h'
  | t => exact I.tuple_inj h h'
end
/-- the two sequences as they stand at each turn, the items in new pairs -/
def Itm (K : PySem.W.Frag) (p q : Sk) (a b : Addr) : It :=
  ⟨fun i H => ∃ (xs ys : List V) (x y : V), p.sq K H a xs ∧ q.sq K H b ys ∧ xs[i]? = some x ∧ ys[i]? = some y,
    fun i H v H' => ∃ T x y, v = .ref T ∧ H T = none ∧ H' = upd H T (.tup [x, y]) ∧ (∀ xs, p.sq K H a xs → xs[i]? = some x) ∧ ∀ ys, q.sq K H b ys → ys[i]? = some y,
    fun i H => ∃ xs ys : List V, p.sq K H a xs ∧ q.sq K H b ys ∧ (xs.length ≤ i ∨ ys.length ≤ i)⟩
theorem five {α : Type} {P : α → Prop} {c z a b d e : α} (hz : P z) (ha : P a) (hb : P b) (hd : P d) (he : P e) (h : c ∈ [z, a, b, d, e]) : P c := by
  have e' : c = z ∨ c = a ∨ c = b ∨ c = d ∨ c = e := by simpa using h
  rcases e' with q | q | q | q | q <;> rw [q] <;> assumption
theorem turn_m {P : Program} {w : World} {K : PySem.W.Frag} {elts : List Expr} {kk : Nat} {tpos : Pos} {p q : Sk} {a b z TI TO i1 i2 : Addr} (D : ZipApart z TI TO i1 i2 a b) :
    Turn P w K (.Tuple elts kk tpos) (Itm K p q a b) [z, TI, TO, i1, i2] z (fun i h => IsZip h z TI TO .none ∧ IsPair h TI (.ref i1) (.ref i2) ∧ (∃ x y, IsPair h TO x y) ∧ p.iter h i1 a i ∧ q.iter h i2 b i) where
  mem := by simp
  obj := fun i h st c hc => by
    obtain ⟨hz, hTI, ⟨x, y, hTO⟩, h1, h2⟩ := st
    obtain ⟨o1, e1, _, d1⟩ := Sk.iter_ex h1
    obtain ⟨o2, e2, _, d2⟩ := Sk.iter_ex h2
    exact five (P := fun c => ∃ o, h.get? c = some o ∧ ∀ v, o.data ≠ .cell v) ⟨_, hz, fun v q => nomatch q⟩ ⟨_, hTI, fun v q => nomatch q⟩ ⟨_, hTO, fun v q => nomatch q⟩ ⟨o1, e1, fun v q => by rw [d1] at q; cases q⟩ ⟨o2, e2, fun v q => by rw [d2] at q; cases q⟩ hc
  keep := fun i h h' st k => by
    obtain ⟨hz, hTI, ⟨x, y, hTO⟩, h1, h2⟩ := st
    exact ⟨k z (by simp) _ hz, k TI (by simp) _ hTI, ⟨x, y, k TO (by simp) _ hTO⟩, Sk.iter_at h1 fun o q => k i1 (by simp) o q, Sk.iter_at h2 fun o q => k i2 (by simp) o q⟩
  item := by
    intro X hP hw hK hc i pins s σ H E I hf st hg
    subst hP hw hK
    obtain ⟨hz, hTI, ⟨x0, y0, hTO⟩, h1, h2⟩ := st
    obtain ⟨xs, ys, x, y, hqx, hqy, hx, hy⟩ := hg
    obtain ⟨its, rv, r1⟩ := Sk.read I hqx
    obtain ⟨its2, rv2, r2⟩ := Sk.read I hqy
    obtain ⟨u, hu, ru⟩ := rv.get hx
    obtain ⟨u2, hu2, ru2⟩ := rv2.get hy
    have hzl : z < s.heap.objs.size := Heap.lt_size hz
    refine sk_pyNext_item D hz hTI hTO h1 h2 r1 r2 (x := u) (y := u2) (by simpa using hu) (by simpa using hu2) fun h' z' TO' h1' h2' hT hk => ?_
    refine ⟨_, rfl, wpAny_letOwnedTupleGo_zip (s := { s with heap := h' }) z' fun h'' z'' sb => ?_⟩
    have hT2 : h''.get? s.heap.objs.size = some { cls := .type "tuple", data := .seq #[u, u2] } := (sb.2 _ (Nat.ne_of_gt hzl)).trans hT
    have new : ObjOk X.prog X.w (upd H s.heap.objs.size (.tup [x, y])) h'' s.heap.objs.size (.tup [x, y]) :=
      ⟨by show 2 ≤ sizeLine; decide, [u, u2], .cons ru (.cons ru2 .nil), ⟨_, hT2, rfl, _, rfl⟩⟩
    have I1 : Inv X pins σ (upd H s.heap.objs.size (.tup [x, y])) { s with heap := h'' } :=
      I.turnedNew (t' := s.toks) (ch := [z, TI, TO, i1, i2]) (fun c o hb q => (sb.2 c (fun q' => hb (by simp [q']))).trans (hk c o (fun q' => hb (by simp [q'])) (fun q' => hb (by simp [q'])) (fun q' => hb (by simp [q'])) (fun q' => hb (by simp [q'])) q)) hf (Nat.le_refl _) new
    refine ⟨.ref s.heap.objs.size, _, I1, rfl, ⟨_, x, y, rfl, I.hok.fresh (Nat.le_refl _), rfl, fun l hl => by rw [Sk.inj I hl hqx]; exact hx, fun l hl => by rw [Sk.inj I hl hqy]; exact hy⟩, ⟨z'', ?_, ⟨u, u2, ?_⟩, ?_, ?_⟩, fun c hcm => ?_⟩
    · exact (sb.2 _ D.TIz).trans (hk _ _ D.TIz D.TITO D.TIi1 D.TIi2 hTI)
    · exact (sb.2 _ D.TOz).trans TO'
    · exact Sk.iter_at h1' fun o q => (sb.2 _ D.i1z).trans q
    · exact Sk.iter_at h2' fun o q => (sb.2 _ D.i2z).trans q
    · have e1 := Sk.iter_ex h1
      have e2 := Sk.iter_ex h2
      have hlt : c < s.heap.objs.size := five (P := fun c => c < s.heap.objs.size) hzl (Heap.lt_size hTI) (Heap.lt_size hTO) (Heap.lt_size e1.choose_spec.1) (Heap.lt_size e2.choose_spec.1) hcm
      rw [upd_ne (Nat.ne_of_lt hlt)]
      exact (hf c hcm).1
  done := by
    intro X hP hw hK hc i pins s σ H E I hf st hg
    subst hP hw hK
    obtain ⟨hz, hTI, ⟨x0, y0, hTO⟩, h1, h2⟩ := st
    obtain ⟨xs, ys, hqx, hqy, hend⟩ := hg
    obtain ⟨its, rv, r1⟩ := Sk.read I hqx
    obtain ⟨its2, rv2, r2⟩ := Sk.read I hqy
    have l1 := rv.length
    have l2 := rv2.length
    have he : its.toArray[i]? = none ∨ its2.toArray[i]? = none := hend.imp (fun q => by simp; omega) fun q => by simp; omega
    exact sk_pyNext_end (I.ok.hd hc) D hz hTI hTO h1 h2 r1 r2 he fun h' hk => ⟨rfl, I.turnedL (t' := s.toks) (ch := [z, TI, TO, i1, i2]) (fun c o hb q =>
      hk c o (fun q' => hb (by simp [q'])) (fun q' => hb (by simp [q'])) (fun q' => hb (by simp [q'])) (fun q' => hb (by simp [q'])) q) hf⟩
  self := fun A i s Q E st h => wpAny_pyIter_zip st.1 h
def iZipM (K : PySem.W.Frag) (ta : TA) : TI := fun σ H R => ta σ H fun vs H1 => ∃ (p q : Sk) (a b : Addr) (xs ys : List V), vs = [.ref a, .ref b] ∧ p.sq K H1 a xs ∧ q.sq K H1 b ys ∧ R (Itm K p q a b) H1
theorem pi_zipM {X : Cx} {e e2 : Expr} {ta : TA} {p pos tpos : Pos} {elts : List Expr} {kk : Nat} (hg : Gl X "zip") (hm : X.mg "zip" = none) (ha : PA X [e, e2] ta)
    (hs : starEach [e, e2] X.env = (false, eval e X.env) :: starEach [e2] X.env := by rfl) (hpl : (backTo pos (starEach [e2] X.env)).any (·.1) = false := by rfl) :
    PI X (.Tuple elts kk tpos) (.Call (.Name "zip" p) [e, e2] [] pos) (iZipM X.K ta) := by
  refine ⟨fun pins s σ H R I h => ?_⟩
  refine Call_ (ld_blt I hg hm PyProof.Rows.boot_zip (PyProof.Rows.callWith_type1 (thn (ha.run pos pins s σ H _ I h) fun us s1 ⟨vs, H1, I1, r1, k1, k2, a, b, xs, ys, ex, hqx, hqy, q⟩ => ?_) hs hpl))
  subst ex
  obtain ⟨u1, r1⟩ : ∃ u, us = [.ref a, .ref b] := by
    cases r1 with
    | cons r rr => cases rr with
      | cons r' rr => cases rr; cases r; cases r'; exact ⟨Value.none, rfl⟩
  subst r1
  obtain ⟨its, rv, p1⟩ := Sk.read I1 hqx
  obtain ⟨its2, rv2, p2⟩ := Sk.read I1 hqy
  refine sk_zip_call p1 p2 fun h' hz hTI hTO h1 h2 hk => wpAny_pyIter_zip hz ?_
  have I2 : Inv X pins σ H1 { s1 with heap := h' } := I1.kept (t' := s1.toks) hk
  refine ⟨s1.heap.objs.size + 4, [s1.heap.objs.size + 4, s1.heap.objs.size + 2, s1.heap.objs.size + 3, s1.heap.objs.size, s1.heap.objs.size + 1], _, _, H1, rfl, I2, turn_m (PySem.W.ktu_apart s1.heap.objs.size a b (Sk.seq_lt p1) (Sk.seq_lt p2)), ⟨hz, hTI, ⟨_, _, hTO⟩, h1, h2⟩, fun c hcm => ?_, q⟩
  have hle : s1.heap.objs.size ≤ c := five (P := fun c => s1.heap.objs.size ≤ c) (Nat.le_add_right _ _) (Nat.le_add_right _ _) (Nat.le_add_right _ _) (Nat.le_refl _) (Nat.le_add_right _ _) hcm
  exact I1.fpOk hle (I1.hok.fresh hle)
end Z

set_option Elab.async false
set_option linter.all false
set_option maxRecDepth 100000
set_option maxHeartbeats 4000000
namespace Z
open PySem PySem.Spec PyProof.Rows L2

/-! ### 23. zip of any two, repr -/
section
variable {K : PySem.W.Frag} {c : Fz} {F H : Hp}
theorem wi_zipM {p q : Sk} {a b : Addr} {xs ys : List V} {ds es : List D} (h : p.sq K F a xs) (h' : q.sq K F b ys) (r : RepL K F xs ds) (r' : RepL K F ys es) : WI K c (Itm K p q a b) (zipD ds es) F := by
  have up : ∀ {p : Sk} {a : Addr} {xs : List V} {G : Hp}, Ex F G → p.sq K F a xs → p.sq K G a xs := fun {p a xs G} e h => by
    cases p with
    | l => exact ex_l e h
    | t => exact ex_t e h
  refine ⟨fun P ps σ F1 H e s => ⟨xs, ys, up (e.trans s.fh) h, up (e.trans s.fh) h', by rw [r.len, r'.len, zipD_len]; omega⟩, fun P ps σ F1 H i d e s hd => ?_⟩
  obtain ⟨d1, d2, hd1, hd2, rfl⟩ := zipD_get hd
  obtain ⟨v, h1, h2⟩ := r.get hd1
  obtain ⟨v', h1', h2'⟩ := r'.get hd2
  have hq := up (e.trans s.fh) h
  have hq' := up (e.trans s.fh) h'
  refine ⟨⟨xs, ys, v, v', hq, hq', h1, h1'⟩, fun x H' ⟨T, y, z, e1, hT, eH, w, w'⟩ => ?_⟩
  subst eH e1
  have e2 := w xs hq
  have e3 := w' ys hq'
  rw [h1] at e2; cases e2
  rw [h1'] at e3; cases e3
  exact s.pairNew hT (h2.mono e) (h2'.mono e)
def dZipM (t : DTA) : DTI := fun ps Q => t ps fun ds ps' => match ds with
  | [.lst xs, .lst ys] => Q (zipD xs ys) ps'
  | [.tup xs, .tup ys] => Q (zipD xs ys) ps'
  | [.lst xs, .tup ys] => Q (zipD xs ys) ps'
  | [.tup xs, .lst ys] => Q (zipD xs ys) ps'
  | _ => False
theorem ri_zipM {ta : TA} {da : DTA} (h : RA K ta da) : RI K (iZipM K ta) (dZipM da) := ⟨fun c ps σ F H Q R s q kk => h.run c ps σ F H _ _ s q fun vs ds ps' F' H' s' e r q => by
  split at q
  · obtain ⟨x, y, rfl, n, n'⟩ := r.two
    cases n with
    | lst hq rr => cases n' with
      | lst hq' rr' => exact ⟨.l, .l, _, _, _, _, rfl, .of (s'.fh _ _ hq), .of (s'.fh _ _ hq'), kk _ _ ps' F' H' s' e (wi_zipM (p := .l) (q := .l) (.of hq) (.of hq') rr rr') q⟩
  · obtain ⟨x, y, rfl, n, n'⟩ := r.two
    cases n with
    | tup hq rr => cases n' with
      | tup hq' rr' => exact ⟨.t, .t, _, _, _, _, rfl, ex_t s'.fh hq.sq, ex_t s'.fh hq'.sq, kk _ _ ps' F' H' s' e (wi_zipM (p := .t) (q := .t) hq.sq hq'.sq rr rr') q⟩
  · obtain ⟨x, y, rfl, n, n'⟩ := r.two
    cases n with
    | lst hq rr => cases n' with
      | tup hq' rr' => exact ⟨.l, .t, _, _, _, _, rfl, .of (s'.fh _ _ hq), ex_t s'.fh hq'.sq, kk _ _ ps' F' H' s' e (wi_zipM (p := .l) (q := .t) (.of hq) hq'.sq rr rr') q⟩
  · obtain ⟨x, y, rfl, n, n'⟩ := r.two
    cases n with
    | tup hq rr => cases n' with
      | lst hq' rr' => exact ⟨.t, .l, _, _, _, _, rfl, ex_t s'.fh hq.sq, .of (s'.fh _ _ hq'), kk _ _ ps' F' H' s' e (wi_zipM (p := .t) (q := .l) hq.sq (.of hq') rr rr') q⟩
  · exact q.elim⟩
/-! repr of a list or a tuple -/
def rRepr (K : PySem.W.Frag) : List V → Hp → VK → Prop := fun xs H Q => ∃ (a : Addr) (d : PyData), xs = [.ref a] ∧ Dp K H (.ref a) d ∧ d.showable = true ∧ d.hasDict = false ∧ d.depth ≤ 50 ∧ d.shown.length ≤ sizeLine ∧ Q (.str d.shown) H
theorem call_repr {X : Cx} (hu : X.A.units + 64 < cLine) (hg : X.A.guards = some []) : CallR X (.builtin "repr") (rRepr X.K) := by
  intro pins s σ H xs us Q I r h
  obtain ⟨a, d, rfl, hd, h1, h2, h3, h4, q⟩ := h
  rw [Vals.ref1 r]
  obtain ⟨as, hr⟩ := Dp.reads I d (.ref a) (.ref a) hd rfl
  refine repr_of_reads' hr h1 (PyData.noDict_hsm h2) hg (by omega) (fun _ _ e => e) (fun h' u tk hk => ?_) h4
  exact ⟨.str d.shown, H, I.kept (t' := tk) hk, ⟨u, rfl⟩, q⟩
mutual
theorem D.noDict : ∀ d : D, d.py.hasDict = false
  | .non => rfl
  | .bl _ => rfl
  | .int _ => rfl
  | .str _ => rfl
  | .tup ds => by unfold D.py PyData.hasDict; exact D.noDicts ds
  | .lst ds => by unfold D.py PyData.hasDict; exact D.noDicts ds
  | .frl ds => by unfold D.py PyData.hasDict; exact D.noDicts ds
  | .dic _ _ => rfl
  | .ins _ _ _ => rfl
  | .ref _ => rfl
  | .ty _ => rfl
theorem D.noDicts : ∀ ds : List D, PyData.hasDictAll (D.pys ds) = false
  | [] => rfl
  | d :: ds => by unfold D.pys PyData.hasDictAll; rw [D.noDict d, D.noDicts ds]; rfl
end
def D.isSeq : D → Bool
  | .tup _ => true
  | .lst _ => true
  | .frl _ => true
  | _ => false
/-- what repr asks of data -/
structure D.okRepr (d : D) : Prop where
  seq : d.isSeq = true
  pl : d.plain = true
  sh : d.py.showable = true
  dp : d.py.depth ≤ 50
  ln : d.py.shown.length ≤ sizeLine
def dRepr (ds : List D) (Q : D → Prop) : Prop := ∃ d, ds = [d] ∧ d.okRepr ∧ Q (.str d.py.shown)
theorem rc_repr : RC K (rRepr K) dRepr := ⟨fun c ps σ F H xs ds Q QV s nl q k => by
  obtain ⟨d, rfl, ok, q⟩ := q
  obtain ⟨x, rfl, n⟩ := nl.one
  have hd := n.dp s.fh ok.pl
  obtain ⟨a, rfl⟩ : ∃ a, x = .ref a := by
    have h := ok.seq
    cases d with
    | tup _ => cases hd with | tup _ _ => exact ⟨_, rfl⟩
    | lst _ => cases hd with | lst _ _ => exact ⟨_, rfl⟩
    | frl _ => cases hd with | lst _ _ => exact ⟨_, rfl⟩
    | _ => cases h
  exact ⟨a, _, rfl, hd, ok.sh, D.noDict d, ok.dp, ok.ln, k _ _ F H s (Ex.refl F) (.str _) q⟩⟩
end
end Z

set_option Elab.async false
set_option linter.all false
set_option maxRecDepth 100000
set_option maxHeartbeats 4000000
namespace Z
open PySem PySem.Spec PyProof.Rows L2

/-! ### 24. a def called with less than all its parameters -/
structure CalD (P : Program) (w : World) (K : PySem.W.Frag) (mg : Str → Option Value) (base : Heap) (CX : CXT) (x : Str) (k : Nat) (ps : List Str) (dvs : List V) (sp : Sp) : Prop where
  ex : ∃ f fd ds, FnG P w K mg base CX k f fd ps sp ∧ PySem.W.keepIn K (.ref f) = true ∧ Binds K fd ps ds ∧ Vals dvs ds ∧ mg x = some (.ref f)
theorem pe_calD {X : Cx} {CX : CXT} {k : Nat} {ps : List Str} {dvs : List V} {sp : Sp} {E : XK} {x : Str} {p pos : Pos} {e : Expr} {es : List Expr} {t : TA}
    (G : CalD X.prog X.w X.K X.mg X.base CX x k ps dvs sp) (hr : Room k X.A) (hgd : X.A.guards = some []) (hg : Gl X x) (hx : Passes CX X E)
    (ha : PA X (e :: es) t) (hdb : (x == ("__debug__" : Str)) = false := by decide) (he : starEach (e :: es) X.env = (false, eval e X.env) :: starEach es X.env := by rfl) (hpl : (backTo pos (starEach es X.env)).any (·.1) = false := by rfl) :
    PE X (.Call (.Name x p) (e :: es) [] pos) (tCall sp dvs E t) := by
  obtain ⟨f, fd, ds, F, kp, b, hd, m⟩ := G.ex
  exact peG_call F hr hgd hg m kp b hd hx ha hdb he hpl
theorem repL_str {K : PySem.W.Frag} (x : Str) : ∀ F, RepL K F [.str x] [.str x] := fun _ => .cons (.str x) .nil
/-! ### rules read at a fixed frame -/
section
variable {X : Cx} {K : PySem.W.Frag}
theorem opk {op : Value → Value → Sem Value} (r : PySem.W.Frag → R2) (h : OpR X op (r X.K)) (e : X.K = K := by rfl) : OpR X op (r K) := e ▸ h
theorem ck {f : Value} (r : PySem.W.Frag → List V → Hp → VK → Prop) (h : CallR X f (r X.K)) (e : X.K = K := by rfl) : CallR X f (r K) := e ▸ h
theorem ixk (r : PySem.W.Frag → R2) (h : IxR X (r X.K)) (e : X.K = K := by rfl) : IxR X (r K) := e ▸ h
theorem slk (r : PySem.W.Frag → V → Option Int → Option Int → Hp → VK → Prop) (h : SlR X (r X.K)) (e : X.K = K := by rfl) : SlR X (r K) := e ▸ h
theorem pik {tg ex : Expr} (r : PySem.W.Frag → TI) (h : PI X tg ex (r X.K)) (e : X.K = K := by rfl) : PI X tg ex (r K) := e ▸ h
theorem pg_seqK {es : List Expr} {k : Nat} {t : TGs} {n : Nat} {pos : Pos} (hc : X.calm = true) (h : PGs X es t)
    (hn : (assignEach es X.env).length = n := by rfl) (hst : (assignEach es X.env).findIdx? (·.1) = none := by rfl) (e : X.K = K := by rfl) : PG X (.Tuple es k pos) (gSeq K n t) := e ▸ pg_seq hc h hn hst
end
/-! ### 25. keywords: the parameters' order, by places -/
def perm {α : Type} (is : List Nat) (l : List α) : List α := is.filterMap fun i => l[i]?
def kp (is : List Nat) {α : Type} (us ws : List α) : List α := perm is (us ++ ws)
theorem perm_vals {vs : List V} {us : List Value} (r : Vals vs us) : ∀ is : List Nat, Vals (perm is vs) (perm is us)
  | [] => .nil
  | i :: is => by
    unfold perm
    rw [List.filterMap_cons, List.filterMap_cons]
    cases h : vs[i]? with
    | none =>
      have h' : us[i]? = none := by
        rw [List.getElem?_eq_none_iff] at h ⊢
        rw [← r.length]; exact h
      rw [h']
      exact perm_vals r is
    | some v =>
      obtain ⟨u, h1, h2⟩ := r.get h
      rw [h1]
      exact .cons h2 (perm_vals r is)
theorem kp_vals {is : List Nat} {vs zs : List V} {us ws : List Value} (r : Vals vs us) (r' : Vals zs ws) : Vals (kp is vs zs) (kp is us ws) := perm_vals (r.append r') is
section
variable {K : PySem.W.Frag} {σ : L2.St} {F : Hp}
theorem ArL.get {vs : List V} {as : List Ar} (r : ArL K σ F vs as) : ∀ (i : Nat), (vs[i]? = none ∧ as[i]? = none) ∨ ∃ v a, vs[i]? = some v ∧ as[i]? = some a ∧ ∀ {xs : List V} {bs : List Ar}, ArL K σ F xs bs → ArL K σ F (v :: xs) (a :: bs) := by
  induction r with
  | nil => exact fun i => .inl ⟨rfl, rfl⟩
  | d h _ ih =>
    intro i
    cases i with
    | zero => exact .inr ⟨_, _, rfl, rfl, fun q => .d h q⟩
    | succ i => exact ih i
  | o h _ ih =>
    intro i
    cases i with
    | zero => exact .inr ⟨_, _, rfl, rfl, fun q => .o h q⟩
    | succ i => exact ih i
theorem perm_ar {vs : List V} {as : List Ar} (r : ArL K σ F vs as) : ∀ is : List Nat, ArL K σ F (perm is vs) (perm is as)
  | [] => .nil
  | i :: is => by
    unfold perm
    rw [List.filterMap_cons, List.filterMap_cons]
    rcases r.get i with ⟨h1, h2⟩ | ⟨v, a, h1, h2, h3⟩
    · rw [h1, h2]; exact perm_ar r is
    · rw [h1, h2]; exact h3 (perm_ar r is)
theorem kp_ar (is : List Nat) {n m : Nat} : ∀ (σ : L2.St) (F : Hp) (vs zs : List V) (as bs : List Ar), vs.length = n → zs.length = m → ArL K σ F vs as → ArL K σ F zs bs → ArL K σ F (kp is vs zs) (kp is as bs) :=
  fun σ F vs zs as bs _ _ r r' => perm_ar (r.app r') is
end
/-! ### == of texts beside == of data -/
def rEqA (K : PySem.W.Frag) : R2 := rOr rEq (rEqD K)
def rNeA (K : PySem.W.Frag) : R2 := rOr rNe (rNeD K)
theorem op_eqA {X : Cx} (hu : X.A.units + 64 < cLine) : OpR X (compareOp .Eq) (rEqA X.K) := fun pins s σ H x y v u Q I rx ry h => h.elim (op_eq pins s σ H x y v u Q I rx ry) (op_eqD hu pins s σ H x y v u Q I rx ry)
theorem op_neA {X : Cx} (hu : X.A.units + 64 < cLine) : OpR X (compareOp .NotEq) (rNeA X.K) := fun pins s σ H x y v u Q I rx ry h => h.elim (op_ne pins s σ H x y v u Q I rx ry) (op_neD hu pins s σ H x y v u Q I rx ry)
def dEqA (x y : D) (Q : D → Prop) : Prop := match x, y with
  | .str a, .str b => Q (.bl (decide (a = b)))
  | x, y => x.okEq ∧ y.okEq ∧ Q (.bl (D.eqv x y))
def dNeA (x y : D) (Q : D → Prop) : Prop := match x, y with
  | .str a, .str b => Q (.bl (!decide (a = b)))
  | x, y => x.okEq ∧ y.okEq ∧ Q (.bl (!D.eqv x y))
theorem ro_eqA {K : PySem.W.Frag} : RO K (rEqA K) dEqA := ⟨fun c ps σ F H x y dx dy Q QV s nx ny q k => by
  unfold dEqA at q
  split at q
  · rename_i a b
    have e1 := nx.str
    have e2 := ny.str
    subst e1 e2
    refine .inl ⟨rfl, ?_⟩
    have e : decide (V.str a = V.str b) = decide (a = b) := by simp
    rw [e]
    exact k _ _ F H s (Ex.refl F) (.bl _) q
  · exact .inr (ro_eq.run c ps σ F H x y dx dy Q QV s nx ny q k)⟩
theorem ro_neA {K : PySem.W.Frag} : RO K (rNeA K) dNeA := ⟨fun c ps σ F H x y dx dy Q QV s nx ny q k => by
  unfold dNeA at q
  split at q
  · rename_i a b
    have e1 := nx.str
    have e2 := ny.str
    subst e1 e2
    refine .inl ⟨rfl, ?_⟩
    have e : decide (V.str a = V.str b) = decide (a = b) := by simp
    rw [e]
    exact k _ _ F H s (Ex.refl F) (.bl _) q
  · exact .inr (ro_ne.run c ps σ F H x y dx dy Q QV s nx ny q k)⟩
end Z

set_option Elab.async false
set_option linter.all false
set_option maxRecDepth 100000
set_option maxHeartbeats 4000000
namespace Z
open PySem PySem.Spec PyProof.Rows L2

/-! ### 26. data readings at a state -/
theorem dVar_ap (i : Nat) (ps : Pst) (Q : (Hd → Pst → Prop)) : dVar i ps Q = (match ps[i]? with
  | some (.pu d) => Q (.p d) ps
  | some (.ow _) => Q (.s i) ps
  | some (.io _ _) => Q (.s i) ps
  | _ => False) := rfl
theorem dC_ap (d : D) (ps : Pst) (Q : (Hd → Pst → Prop)) : dC d ps Q = (Q (.p d) ps) := rfl
theorem dEsc_ap (t : DTE) (ps : Pst) (Q : (D → Pst → Prop)) : dEsc t ps Q = (t ps fun h ps' => match h with
  | .p d => Q d ps'
  | .s i => match ps'[i]? with
    | some (.ow d) => Q d (ps'.set i (.pu d))
    | some (.pu d) => Q d ps'
    | _ => False) := rfl
theorem dPure_ap (t : DTN) (ps : Pst) (Q : (Hd → Pst → Prop)) : dPure t ps Q = (t ps fun d ps' => Q (.p d) ps') := rfl
theorem dOp_ap (rd : D → D → (D → Prop) → Prop) (ta tb : DTE) (ps : Pst) (Q : (Hd → Pst → Prop)) : dOp rd ta tb ps Q = (ta ps fun h1 ps1 => tb ps1 fun h2 ps2 => match look ps2 h1, look ps2 h2 with
  | some x, some y => rd x y fun d => Q (.p d) ps2
  | _, _ => False) := rfl
theorem dUn_ap (rd : D → (D → Prop) → Prop) (ta : DTE) (ps : Pst) (Q : (Hd → Pst → Prop)) : dUn rd ta ps Q = (ta ps fun h1 ps1 => match look ps1 h1 with
  | some x => rd x fun d => Q (.p d) ps1
  | _ => False) := rfl
theorem dNil_ap (ps : Pst) (Q : (List D → Pst → Prop)) : dNil  ps Q = (Q [] ps) := rfl
theorem dCons_ap (ta : DTN) (tr : DTA) (ps : Pst) (Q : (List D → Pst → Prop)) : dCons ta tr ps Q = (ta ps fun d ps1 => tr ps1 fun ds ps2 => Q (d :: ds) ps2) := rfl
theorem hNil_ap (ps : Pst) (Q : (List Hd → Pst → Prop)) : hNil  ps Q = (Q [] ps) := rfl
theorem hCons_ap (ta : DTE) (tr : DTH) (ps : Pst) (Q : (List Hd → Pst → Prop)) : hCons ta tr ps Q = (ta ps fun d ps1 => tr ps1 fun ds ps2 => Q (d :: ds) ps2) := rfl
theorem dCB_ap (rd : List D → (D → Prop) → Prop) (ta : DTH) (ps : Pst) (Q : (Hd → Pst → Prop)) : dCB rd ta ps Q = (ta ps fun hs ps1 => match looks ps1 hs with
  | some ds => rd ds fun d => Q (.p d) ps1
  | none => False) := rfl
theorem dTup_ap (ta : DTA) (ps : Pst) (Q : (D → Pst → Prop)) : dTup ta ps Q = (ta ps fun ds ps1 => ds.length ≤ sizeLine ∧ Q (.tup ds) ps1) := rfl
theorem dLst_ap (ta : DTA) (ps : Pst) (Q : (D → Pst → Prop)) : dLst ta ps Q = (ta ps fun ds ps1 => ds.length ≤ sizeLine ∧ Q (.lst ds) ps1) := rfl
theorem dTest_ap (t : DTE) (ps : Pst) (Q : (Bool → Pst → Prop)) : dTest t ps Q = (t ps fun h ps' => match look ps' h with
  | some (.bl b) => Q b ps'
  | _ => False) := rfl
theorem dTru_ap (t : DTE) (ps : Pst) (Q : (Bool → Pst → Prop)) : dTru t ps Q = (t ps fun h ps' => match look ps' h with
  | some d => match truD d with
    | some b => Q b ps'
    | none => False
  | none => False) := rfl
theorem dAnd_ap (t u : DTT) (ps : Pst) (Q : (Bool → Pst → Prop)) : dAnd t u ps Q = (t ps fun b ps1 => if b = true then u ps1 Q else Q false ps1) := rfl
theorem dOr_ap (t u : DTT) (ps : Pst) (Q : (Bool → Pst → Prop)) : dOr t u ps Q = (t ps fun b ps1 => if b = true then Q true ps1 else u ps1 Q) := rfl
theorem dNot_ap (t : DTT) (ps : Pst) (Q : (Bool → Pst → Prop)) : dNot t ps Q = (t ps fun b ps1 => Q (!b) ps1) := rfl
theorem dAndV_ap (t u : DTE) (ps : Pst) (Q : (Hd → Pst → Prop)) : dAndV t u ps Q = (t ps fun h ps1 => match look ps1 h with
  | some (.bl b) => if b = true then u ps1 Q else Q (.p (.bl false)) ps1
  | _ => False) := rfl
theorem dOrV_ap (t u : DTE) (ps : Pst) (Q : (Hd → Pst → Prop)) : dOrV t u ps Q = (t ps fun h ps1 => match look ps1 h with
  | some (.bl b) => if b = true then Q (.p (.bl true)) ps1 else u ps1 Q
  | _ => False) := rfl
theorem dNotV_ap (t : DTE) (ps : Pst) (Q : (Hd → Pst → Prop)) : dNotV t ps Q = (t ps fun h ps1 => match look ps1 h with
  | some (.bl b) => Q (.p (.bl (!b))) ps1
  | _ => False) := rfl
theorem dIf_ap (t : DTT) (ta tb : DTE) (ps : Pst) (Q : (Hd → Pst → Prop)) : dIf t ta tb ps Q = (t ps fun b ps1 => if b = true then ta ps1 Q else tb ps1 Q) := rfl
theorem mNil_ap (ps : Pst) (Q : (List Sl → Pst → Prop)) : mNil  ps Q = (Q [] ps) := rfl
theorem mPu_ap (ta : DTN) (tr : DTM) (ps : Pst) (Q : (List Sl → Pst → Prop)) : mPu ta tr ps Q = (ta ps fun d ps1 => tr ps1 fun ss ps2 => Q (.pu d :: ss) ps2) := rfl
theorem mOw_ap (ta : DTN) (tr : DTM) (ps : Pst) (Q : (List Sl → Pst → Prop)) : mOw ta tr ps Q = (ta ps fun d ps1 => tr ps1 fun ss ps2 => Q (.ow d :: ss) ps2) := rfl
theorem gdName_ap (i : Nat) (d : D) (ps : Pst) (Q : (Pst → Prop)) : gdName i d ps Q = (Q (ps.set i (.pu d))) := rfl
theorem gdNil_ap (ds : List D) (ps : Pst) (Q : (Pst → Prop)) : gdNil  ds ps Q = (ds = [] ∧ Q ps) := rfl
theorem gdCons_ap (g : DTG) (gs : DTGs) (ds : List D) (ps : Pst) (Q : (Pst → Prop)) : gdCons g gs ds ps Q = (match ds with
  | d :: r => g d ps fun ps1 => gs r ps1 Q
  | [] => False) := rfl
theorem gdSeq_ap (n : Nat) (t : DTGs) (d : D) (ps : Pst) (Q : (Pst → Prop)) : gdSeq n t d ps Q = (match d with
  | .tup ds => ds.length = n ∧ t ds ps Q
  | .lst ds => ds.length = n ∧ t ds ps Q
  | _ => False) := rfl
theorem dNext_ap (Dd : DEnds) (ps : Pst) : dNext  Dd ps = (Dd.nx ps) := rfl
theorem dSeq_ap (t u : DTS) (Dd : DEnds) (ps : Pst) : dSeq t u Dd ps = (t { Dd with nx := u Dd } ps) := rfl
theorem dBreak_ap (Dd : DEnds) (ps : Pst) : dBreak  Dd ps = (Dd.bk ps) := rfl
theorem dCont_ap (Dd : DEnds) (ps : Pst) : dCont  Dd ps = (Dd.ct ps) := rfl
theorem dNever_ap (w0 : DEnds) (w1 : Pst) : dNever  w0 w1 = (False) := rfl
theorem dDrop_ap (t : DTE) (Dd : DEnds) (ps : Pst) : dDrop t Dd ps = (t ps fun _ ps' => Dd.nx ps') := rfl
theorem dRet_ap (t : DTN) (Dd : DEnds) (ps : Pst) : dRet t Dd ps = (t ps Dd.rt) := rfl
theorem dRetN_ap (Dd : DEnds) (ps : Pst) : dRetN  Dd ps = (Dd.rt .non ps) := rfl
theorem dRetV_ap (i : Nat) (Dd : DEnds) (ps : Pst) : dRetV i Dd ps = (match ps[i]? with
  | some (.ow d) => Dd.rt d (ps.set i .un)
  | _ => False) := rfl
theorem dIfS_ap (t : DTT) (a b : DTS) (Dd : DEnds) (ps : Pst) : dIfS t a b Dd ps = (t ps fun k ps1 => if k = true then a Dd ps1 else b Dd ps1) := rfl
theorem dAsg_ap (t : DTN) (g : DTG) (Dd : DEnds) (ps : Pst) : dAsg t g Dd ps = (t ps fun d ps1 => g d ps1 Dd.nx) := rfl
theorem dAsgN_ap (t : DTN) (i : Nat) (Dd : DEnds) (ps : Pst) : dAsgN t i Dd ps = (t ps fun d ps1 => Dd.nx (ps1.set i (.ow d))) := rfl
theorem dPar_ap (i j : Nat) (t : DTM) (Dd : DEnds) (ps : Pst) : dPar i j t Dd ps = (t ps fun ss ps1 => match ss with
  | [a, b] => Dd.nx ((ps1.set i a).set j b)
  | _ => False) := rfl
theorem dPar3_ap (i j l : Nat) (t : DTM) (Dd : DEnds) (ps : Pst) : dPar3 i j l t Dd ps = (t ps fun ss ps1 => match ss with
  | [a, b, e] => Dd.nx (((ps1.set i a).set j b).set l e)
  | _ => False) := rfl
theorem dParT_ap (is : List Nat) (t : DTM) (Dd : DEnds) (ps : Pst) : dParT is t Dd ps = (t ps fun ss ps1 => is.length = ss.length ∧ ss.length ≤ sizeLine ∧ Dd.nx (setAll is ss ps1)) := rfl
theorem dIt_ap (k : Kd) (t : DTN) (ps : Pst) (Q : (List D → Pst → Prop)) : dIt k t ps Q = (t ps fun d ps' => match itD k d with
  | some ds => Q ds ps'
  | none => False) := rfl
theorem dItAny_ap (t : DTN) (ps : Pst) (Q : (List D → Pst → Prop)) : dItAny t ps Q = (dIt .l t ps Q ∨ dIt .t t ps Q ∨ dIt .s t ps Q) := rfl
theorem dItA_ap (i : Nat) (ps : Pst) (Q : (List D → Pst → Prop)) : dItA i ps Q = (match ps[i]? with
  | some (.pu (.lst ds)) => Q ds ps
  | some (.pu (.frl ds)) => Q ds ps
  | some (.pu (.tup ds)) => Q ds ps
  | some (.pu (.str x)) => Q (signs x) ps
  | some (.ow (.lst ds)) => Q ds (ps.set i (.pu (.lst ds)))
  | _ => False) := rfl
theorem dRng1_ap (t : DTH) (ps : Pst) (Q : (List D → Pst → Prop)) : dRng1 t ps Q = (t ps fun hs ps' => match looks ps' hs with
  | some [.int j] => (-(2 ^ 62) ≤ j ∧ j < 2 ^ 62) ∧ Q (rangeD 0 j.toNat) ps'
  | _ => False) := rfl
theorem dRng2_ap (t : DTH) (ps : Pst) (Q : (List D → Pst → Prop)) : dRng2 t ps Q = (t ps fun hs ps' => match looks ps' hs with
  | some [.int i, .int j] => (-(2 ^ 62) ≤ i ∧ i < 2 ^ 62 ∧ -(2 ^ 62) ≤ j ∧ j < 2 ^ 62) ∧ Q (rangeD i (j - i).toNat) ps'
  | _ => False) := rfl
theorem dEnum_ap (t : DTA) (ps : Pst) (Q : (List D → Pst → Prop)) : dEnum t ps Q = (t ps fun ds ps' => match ds with
  | [.lst xs] => Q (enumD xs) ps'
  | _ => False) := rfl
theorem dZip_ap (t : DTA) (ps : Pst) (Q : (List D → Pst → Prop)) : dZip t ps Q = (t ps fun ds ps' => match ds with
  | [.lst xs, .lst ys] => Q (zipD xs ys) ps'
  | [.tup xs, .tup ys] => Q (zipD xs ys) ps'
  | _ => False) := rfl
theorem dFor_ap (di : DTI) (g : DTG) (tb : DTS) (Dd : DEnds) (ps : Pst) : dFor di g tb Dd ps = (di ps fun ds ps1 => forW g tb Dd ds ps1) := rfl
theorem dWhile_ap (t : DTT) (tb : DTS) (Dd : DEnds) (ps : Pst) : dWhile t tb Dd ps = (∃ W : Nat → Pst → Prop, (∃ m, W m ps) ∧ ∀ m ps, W m ps →
  t ps fun b ps1 => if b = true then tb { Dd with nx := fun ps2 => ∃ m', m' < m ∧ W m' ps2, ct := fun ps2 => ∃ m', m' < m ∧ W m' ps2, bk := Dd.nx } ps1 else Dd.nx ps1) := rfl
theorem dLc_ap (di : DTI) (g : DTG) (tt : DTT) (te : DTN) (vs : List Nat) (ps : Pst) (Q : (D → Pst → Prop)) : dLc di g tt te vs ps Q = (di ps fun ds ps1 => compW g tt te vs (fun d ps2 => Q d (backP ps1 vs ps2)) ds [] (wipeP ps1 vs)) := rfl
theorem dRepN_ap (ta : DTN) (tb : DTE) (ps : Pst) (Q : (D → Pst → Prop)) : dRepN ta tb ps Q = (ta ps fun d ps1 => tb ps1 fun h ps2 => match d, look ps2 h with
  | .lst a, some (.int j) => (-(2 ^ 63) ≤ j ∧ j < 2 ^ 63) ∧ a.length * j.toNat ≤ sizeLine ∧ Q (.lst (List.replicate j.toNat a).flatten) ps2
  | _, _ => False) := rfl
theorem dCatN_ap (ta tb : DTE) (ps : Pst) (Q : (D → Pst → Prop)) : dCatN ta tb ps Q = (ta ps fun h1 ps1 => tb ps1 fun h2 ps2 => match look ps2 h1, look ps2 h2 with
  | some (.lst a), some (.lst b) => a.length + b.length ≤ sizeLine ∧ Q (.lst (a ++ b)) ps2
  | _, _ => False) := rfl
theorem dNoPart_ap (ps : Pst) (Q : (Option Int → Pst → Prop)) : dNoPart  ps Q = (Q none ps) := rfl
theorem dPart_ap (t : DTE) (ps : Pst) (Q : (Option Int → Pst → Prop)) : dPart t ps Q = (t ps fun h ps1 => match look ps1 h with
  | some (.int i) => Q (some i) ps1
  | _ => False) := rfl
theorem dSl_ap (te : DTE) (tl th : DTO) (ps : Pst) (Q : (Hd → Pst → Prop)) : dSl te tl th ps Q = (te ps fun h ps1 => tl ps1 fun lo ps2 => th ps2 fun hi ps3 => match look ps3 h with
  | some (.lst ds) => Q (.p (.lst (cutD ds lo hi))) ps3
  | some (.frl ds) => Q (.p (.lst (cutD ds lo hi))) ps3
  | some (.tup ds) => Q (.p (.tup (cutD ds lo hi))) ps3
  | some (.str z) => z.length ≤ sizeLine ∧ Q (.p (.str (cutS z lo hi))) ps3
  | _ => False) := rfl
theorem dSlN_ap (te : DTE) (tl th : DTO) (ps : Pst) (Q : (D → Pst → Prop)) : dSlN te tl th ps Q = (te ps fun h ps1 => tl ps1 fun lo ps2 => th ps2 fun hi ps3 => match look ps3 h with
  | some (.lst ds) => Q (.lst (cutD ds lo hi)) ps3
  | some (.frl ds) => Q (.lst (cutD ds lo hi)) ps3
  | _ => False) := rfl
theorem dChain_ap (r r' : D → D → (D → Prop) → Prop) (ta tb tc : DTE) (ps : Pst) (Q : (Hd → Pst → Prop)) : dChain r r' ta tb tc ps Q = (ta ps fun h1 ps1 => tb ps1 fun h2 ps2 => match look ps2 h1, look ps2 h2 with
  | some x, some y => r x y fun z => match z with
    | .bl true => tc ps2 fun h3 ps3 => match look ps3 h2, look ps3 h3 with
      | some y', some w => r' y' w fun d => Q (.p d) ps3
      | _, _ => False
    | .bl false => Q (.p (.bl false)) ps2
    | _ => False
  | _, _ => False) := rfl
theorem dListOf_ap (ta : DTH) (ps : Pst) (Q : (D → Pst → Prop)) : dListOf ta ps Q = (ta ps fun hs ps1 => match looks ps1 hs with
  | some [.lst l] => Q (.lst l) ps1
  | some [.tup l] => Q (.lst l) ps1
  | _ => False) := rfl
theorem dSortI_ap (ta : DTH) (ps : Pst) (Q : (D → Pst → Prop)) : dSortI ta ps Q = (ta ps fun hs ps1 => match looks ps1 hs with
  | some [.lst l] => match D.ints l with
    | some ns => ∀ ns' : List Int, ns'.Perm ns → ns'.Pairwise (· ≤ ·) → Q (.lst (ns'.map D.int)) ps1
    | none => False
  | _ => False) := rfl
theorem dApp_ap (i : Nat) (t : DTN) (Dd : DEnds) (ps : Pst) : dApp i t Dd ps = ((ownL ps i).isSome = true ∧ t ps fun d ps1 => match ownL ps1 i with
  | some xs => xs.length < sizeLine ∧ Dd.nx (putL ps1 i (.lst (xs ++ [d])))
  | none => False) := rfl
theorem dExt_ap (i : Nat) (t : DTE) (Dd : DEnds) (ps : Pst) : dExt i t Dd ps = ((ownL ps i).isSome = true ∧ t ps fun h ps1 => match ownL ps1 i, look ps1 h with
  | some xs, some (.lst ys) => xs.length + ys.length ≤ sizeLine ∧ Dd.nx (putL ps1 i (.lst (xs ++ ys)))
  | _, _ => False) := rfl
theorem dSetI_ap (i : Nat) (ti : DTE) (t : DTN) (Dd : DEnds) (ps : Pst) : dSetI i ti t Dd ps = (t ps fun d ps1 => (ownL ps1 i).isSome = true ∧ ti ps1 fun h ps2 => match ownL ps2 i, look ps2 h with
  | some xs, some (.int k) => match ixN xs.length k with
    | some j => Dd.nx (putL ps2 i (.lst (xs.set j d)))
    | none => False
  | _, _ => False) := rfl
theorem dPop_ap (i : Nat) (ps : Pst) (Q : (Hd → Pst → Prop)) : dPop i ps Q = (match ownL ps i with
  | some xs => match xs[xs.length - 1]? with
    | some d => Q (.p d) (putL ps i (.lst xs.dropLast))
    | none => False
  | none => False) := rfl
theorem dPopAt_ap (i : Nat) (t : DTE) (ps : Pst) (Q : (Hd → Pst → Prop)) : dPopAt i t ps Q = ((ownL ps i).isSome = true ∧ t ps fun h ps1 => match ownL ps1 i, look ps1 h with
  | some xs, some (.int n) => (-(2 ^ 63) ≤ n ∧ n < 2 ^ 63) ∧ match seqIndex? n xs.length with
    | some j => match xs[j]? with
      | some d => Q (.p d) (putL ps1 i (.lst (xs.eraseIdx j)))
      | none => False
    | none => False
  | _, _ => False) := rfl
theorem kNil_ap (ps : Pst) (Q : (List Ar → Pst → Prop)) : kNil  ps Q = (Q [] ps) := rfl
theorem kPu_ap (ta : DTN) (tr : DTK) (ps : Pst) (Q : (List Ar → Pst → Prop)) : kPu ta tr ps Q = (ta ps fun d ps1 => tr ps1 fun ars ps2 => Q (.d d :: ars) ps2) := rfl
theorem kIo_ap (i : Nat) (tr : DTK) (ps : Pst) (Q : (List Ar → Pst → Prop)) : kIo i tr ps Q = (((ps[i]?.bind Sl.ownd).isSome = true) ∧ tr ps fun ars ps2 => Q (.o i :: ars) ps2) := rfl
theorem dCall_ap (ios : List Bool) (sp : DSp) (tk : DTK) (ps : Pst) (Q : (D → Pst → Prop)) : dCall ios sp tk ps Q = (dCallG ios sp tk Q (fun _ _ => False) ps) := rfl
theorem kApp_ap (tk : DTK) (dds : List D) (ps : Pst) (Q : (List Ar → Pst → Prop)) : kApp tk dds ps Q = (tk ps fun ars ps1 => Q (ars ++ dds.map Ar.d) ps1) := rfl
theorem kPerm_ap (gA : List Ar → List Ar → List Ar) (n m : Nat) (t tk : DTK) (ps : Pst) (Q : (List Ar → Pst → Prop)) : kPerm gA n m t tk ps Q = (t ps fun as ps1 => tk ps1 fun bs ps2 => as.length = n ∧ bs.length = m ∧ Q (gA as bs) ps2) := rfl
theorem dYes_ap (ps : Pst) (Q : (Bool → Pst → Prop)) : dYes  ps Q = (Q true ps) := rfl
theorem dZipM_ap (t : DTA) (ps : Pst) (Q : (List D → Pst → Prop)) : dZipM t ps Q = (t ps fun ds ps' => match ds with
  | [.lst xs, .lst ys] => Q (zipD xs ys) ps'
  | [.tup xs, .tup ys] => Q (zipD xs ys) ps'
  | [.lst xs, .tup ys] => Q (zipD xs ys) ps'
  | [.tup xs, .lst ys] => Q (zipD xs ys) ps'
  | _ => False) := rfl
end Z

set_option Elab.async false
set_option linter.all false
set_option maxRecDepth 100000
set_option maxHeartbeats 4000000
namespace Z
open PySem PySem.Spec PyProof.Rows L2

/-! ### 27. what == and repr ask of data -/
structure Sh (d : D) (n : Nat) : Prop where
  pl : d.plain = true
  cl : d.py.canLay0 = true
  dp : d.py.depth ≤ n
structure Shs (ds : List D) (n : Nat) : Prop where
  pl : D.plains ds = true
  cl : PyData.canLayAll0 (D.pys ds) = true
  dp : PyData.depthAll (D.pys ds) ≤ n
theorem Shs.of {n : Nat} : ∀ {ds : List D}, (∀ d ∈ ds, Sh d n) → Shs ds n
  | [], _ => ⟨rfl, rfl, Nat.zero_le _⟩
  | d :: ds, h => by
    have a := h d (List.mem_cons_self ..)
    have b := Shs.of fun e he => h e (List.mem_cons_of_mem _ he)
    exact ⟨Bool.and_eq_true_iff.mpr ⟨a.pl, b.pl⟩, Bool.and_eq_true_iff.mpr ⟨a.cl, b.cl⟩, Nat.max_le.mpr ⟨a.dp, b.dp⟩⟩
theorem Sh.mono {d : D} {n m : Nat} (h : Sh d n) (e : n ≤ m) : Sh d m := ⟨h.pl, h.cl, Nat.le_trans h.dp e⟩
theorem Sh.int (i : Int) (n : Nat) : Sh (.int i) n := ⟨rfl, rfl, Nat.zero_le _⟩
theorem Sh.bl (b : Bool) (n : Nat) : Sh (.bl b) n := ⟨rfl, rfl, Nat.zero_le _⟩
theorem Sh.non (n : Nat) : Sh .non n := ⟨rfl, rfl, Nat.zero_le _⟩
theorem Sh.tup {ds : List D} {n : Nat} (h : ∀ d ∈ ds, Sh d n) : Sh (.tup ds) (n + 1) :=
  let s := Shs.of h; ⟨s.pl, by unfold D.py PyData.canLay0; exact s.cl, by unfold D.py PyData.depth; exact Nat.succ_le_succ s.dp⟩
theorem Sh.lst {ds : List D} {n : Nat} (h : ∀ d ∈ ds, Sh d n) : Sh (.lst ds) (n + 1) :=
  let s := Shs.of h; ⟨s.pl, by unfold D.py PyData.canLay0; exact s.cl, by unfold D.py PyData.depth; exact Nat.succ_le_succ s.dp⟩
theorem Sh.frl {ds : List D} {n : Nat} (h : ∀ d ∈ ds, Sh d n) : Sh (.frl ds) (n + 1) :=
  let s := Shs.of h; ⟨s.pl, by unfold D.py PyData.canLay0; exact s.cl, by unfold D.py PyData.depth; exact Nat.succ_le_succ s.dp⟩
theorem Sh.okEq {d : D} {n : Nat} (h : Sh d n) (hn : n ≤ 64) : d.okEq := ⟨h.pl, Bool.and_eq_true_iff.mpr ⟨h.cl, decide_eq_true (Nat.le_trans h.dp hn)⟩⟩
theorem Sh.refl {d : D} {n : Nat} (h : Sh d n) : D.eqv d d = true := PySem.SeqAt.eqv_refl d.py h.cl
structure Rp (d : D) (w : Nat) : Prop where
  sh : d.py.showable = true
  lv : d.py.leavesShort 1921 = true
  wt : d.py.weight ≤ w
structure Rps (ds : List D) (w : Nat) : Prop where
  sh : PyData.showableAll (D.pys ds) = true
  lv : PyData.leavesShortAll 1921 (D.pys ds) = true
  wt : PyData.weightAll (D.pys ds) ≤ ds.length * (w + 1)
theorem Rps.of {w : Nat} : ∀ {ds : List D}, (∀ d ∈ ds, Rp d w) → Rps ds w
  | [], _ => ⟨rfl, rfl, Nat.zero_le _⟩
  | d :: ds, h => by
    have a := h d (List.mem_cons_self ..)
    have b := Rps.of fun e he => h e (List.mem_cons_of_mem _ he)
    refine ⟨Bool.and_eq_true_iff.mpr ⟨a.sh, b.sh⟩, Bool.and_eq_true_iff.mpr ⟨a.lv, b.lv⟩, ?_⟩
    have e : PyData.weightAll (D.pys (d :: ds)) = d.py.weight + 1 + PyData.weightAll (D.pys ds) := rfl
    have h1 := a.wt
    have h2 := b.wt
    rw [e, List.length_cons, Nat.add_mul]
    omega
theorem Rp.mono {d : D} {n m : Nat} (h : Rp d n) (e : n ≤ m) : Rp d m := ⟨h.sh, h.lv, Nat.le_trans h.wt e⟩
theorem Rp.int {i : Int} {w : Nat} (h : i.natAbs < 2 ^ w) (hw : w ≤ 1920) : Rp (.int i) w := by
  have hl : i.natAbs ≠ 0 → i.natAbs.log2 < w := fun n => (Nat.log2_lt n).mpr h
  have hl2 : i.natAbs.log2 < 1920 := by
    by_cases z : i.natAbs = 0
    · rw [z]; decide
    · have := hl z; omega
  refine ⟨?_, ?_, ?_⟩
  · unfold D.py PyData.showable; exact decide_eq_true hl2
  · unfold D.py PyData.leavesShort
    refine decide_eq_true ?_
    have e := int_text_length_le (k := 1920) (by decide) hl2
    show (Str.ofString (toString i)).length ≤ 1921
    rw [PySem.ofString_length]; exact e
  · unfold D.py PyData.weight
    by_cases z : i = 0
    · subst z; exact Nat.zero_le _
    · have := hl (by omega)
      rw [if_neg (by simpa using z)]; omega
theorem Rp.bl (b : Bool) (w : Nat) : Rp (.bl b) w := ⟨rfl, rfl, Nat.zero_le _⟩
theorem Rp.non (w : Nat) : Rp .non w := ⟨rfl, rfl, Nat.zero_le _⟩
theorem Rp.tup {ds : List D} {w v : Nat} (h : ∀ d ∈ ds, Rp d w) (e : ds.length * (w + 1) ≤ v) : Rp (.tup ds) v :=
  let s := Rps.of h; ⟨by unfold D.py PyData.showable; exact s.sh, by unfold D.py PyData.leavesShort; exact s.lv, by unfold D.py PyData.weight; exact Nat.le_trans s.wt e⟩
theorem Rp.lst {ds : List D} {w v : Nat} (h : ∀ d ∈ ds, Rp d w) (e : ds.length * (w + 1) ≤ v) : Rp (.lst ds) v :=
  let s := Rps.of h; ⟨by unfold D.py PyData.showable; exact s.sh, by unfold D.py PyData.leavesShort; exact s.lv, by unfold D.py PyData.weight; exact Nat.le_trans s.wt e⟩
theorem okRepr_of {d : D} {n w : Nat} (hq : d.isSeq = true) (h : Sh d n) (hn : n ≤ 50) (r : Rp d w) (hw : w ≤ 8000) : d.okRepr := by
  refine ⟨hq, h.pl, r.sh, Nat.le_trans h.dp hn, ?_⟩
  have a := PyData.shown_le 1921 (by decide) d.py r.lv
  have b : (1921 + 2) * d.py.weight ≤ 1923 * 8000 := Nat.mul_le_mul_left _ (Nat.le_trans r.wt hw)
  have c : sizeLine = 16777216 := by decide
  omega
/-! for simp -/
theorem okEq_int (i : Int) : (D.int i).okEq = True := eq_true ((Sh.int i 0).okEq (by decide))
theorem okEq_bl (b : Bool) : (D.bl b).okEq = True := eq_true ((Sh.bl b 0).okEq (by decide))
theorem okEq_non : D.non.okEq = True := eq_true ((Sh.non 0).okEq (by decide))
theorem okEq_str (x : Str) : (D.str x).okEq = (PyData.strOk x = true) := by
  unfold D.okEq D.plain D.py SeqAt.shaped PyData.canLay0 PyData.depth
  simp
theorem okEq_ints (cs : List Int) : (D.lst (cs.map D.int)).okEq = True := eq_true ((Sh.lst (n := 0) fun d h => by
  obtain ⟨i, _, rfl⟩ := List.mem_map.mp h; exact Sh.int i 0).okEq (by decide))
theorem okEq_nil : (D.lst []).okEq = True := okEq_ints []
theorem eqv_int (i j : Int) : D.eqv (.int i) (.int j) = decide (i = j) := by
  show (i == j) = _
  by_cases h : i = j
  · simp [h]
  · simp [h]
theorem eqv_str (x y : Str) : D.eqv (.str x) (.str y) = decide (x = y) := by
  show (x == y) = _
  by_cases h : x = y
  · simp [h]
  · simp [h]
theorem eqv_bl (a b : Bool) : D.eqv (.bl a) (.bl b) = decide (a = b) := by cases a <;> cases b <;> rfl
theorem eqv_nil (ds : List D) : D.eqv (.lst ds) (.lst []) = decide (ds = []) := by
  cases ds with
  | nil => rfl
  | cons d ds => rfl
end Z

set_option Elab.async false
set_option linter.all false
set_option maxRecDepth 100000
set_option maxHeartbeats 4000000
namespace Z
open PySem PySem.Spec PyProof.Rows L2

/-! ### 28. places, ends -/
theorem atI_0 {α : Type} (x : α) (r : List α) : atI (x :: r) 0 = some x := by
  have h := atI_nat (xs := x :: r) (j := 0) rfl
  exact h
theorem atI_1 {α : Type} (x y : α) (r : List α) : atI (x :: y :: r) 1 = some y := by
  have h := atI_nat (xs := x :: y :: r) (j := 1) rfl
  exact h
theorem atI_2 {α : Type} (x y z : α) (r : List α) : atI (x :: y :: z :: r) 2 = some z := by
  have h := atI_nat (xs := x :: y :: z :: r) (j := 2) rfl
  exact h
theorem atI_in {α : Type} {xs : List α} {i : Int} (h0 : 0 ≤ i) (h : i < xs.length) : ∃ x ∈ xs, atI xs i = some x ∧ xs[i.toNat]? = some x := by
  have hl : i.toNat < xs.length := by omega
  refine ⟨xs[i.toNat], List.getElem_mem hl, ?_, List.getElem?_eq_getElem hl⟩
  have e : ((i.toNat : Nat) : Int) = i := Int.toNat_of_nonneg h0
  have := atI_nat (xs := xs) (j := i.toNat) (List.getElem?_eq_getElem hl)
  rw [e] at this; exact this
theorem ixN_30 : ixN 3 0 = some 0 := rfl
theorem ixN_31 : ixN 3 1 = some 1 := rfl
theorem ixN_32 : ixN 3 2 = some 2 := rfl
theorem ends_rt {ios : List Bool} {Q : D → List D → Prop} {d : D} {ps : Pst} {outs : List D} (h : outsF 0 (ioIx 0 ios) ps = some outs) (q : Q d outs) : (dEnds ios Q).rt d ps := ⟨outs, h, q⟩
theorem ends_nx {ios : List Bool} {Q : D → List D → Prop} {ps : Pst} {outs : List D} (h : outsF 0 (ioIx 0 ios) ps = some outs) (q : Q .non outs) : (dEnds ios Q).nx ps := ⟨outs, h, q⟩
theorem toNat5 : (5 : Int).toNat = 5 := rfl
theorem toNat3 : (3 : Int).toNat = 3 := rfl
theorem toNat18 : (18 : Int).toNat = 18 := rfl
theorem toNat30 : (30 : Int).toNat = 30 := rfl
theorem toNat29 : (29 : Int).toNat = 29 := rfl
theorem toNat9 : (9 : Int).toNat = 9 := rfl
theorem toNat6 : (6 : Int).toNat = 6 := rfl
end Z
namespace Z
open PySem PySem.Spec PyProof.Rows L2
theorem cmul_l {i : Int} (j : Int) (h1 : -(2 ^ 64) < i) (h2 : i < 2 ^ 64) : CMulA i j := .inl (.inl ⟨h1, h2⟩)
theorem cmul_r (i : Int) {j : Int} (h1 : -(2 ^ 64) < j) (h2 : j < 2 ^ 64) : CMulA i j := .inl (.inr ⟨h1, h2⟩)
theorem mul_in {x y X Y : Int} (h0 : 0 ≤ x) (h1 : x ≤ X) (h2 : 0 ≤ y) (h3 : y ≤ Y) : 0 ≤ x * y ∧ x * y ≤ X * Y :=
  ⟨Int.mul_nonneg h0 h2, Int.mul_le_mul h1 h3 h2 (Int.le_trans h0 h1)⟩
theorem cdiv_lit {j : Int} (h : 0 < j := by decide) (h2 : j.natAbs.log2 < 9000 := by decide) (i : Int) : CDivW i j := ⟨h, h2⟩
theorem cpow_of {i j : Int} (h : 0 ≤ j := by decide) (h2 : j ≤ 1000000 := by decide) (h3 : i.natAbs < 2 ^ 64) : CPow i j := ⟨h, h2, h3⟩
end Z
namespace Z
open PySem PySem.Spec PyProof.Rows L2
theorem zero_le_size : (0 ≤ sizeLine) = True := eq_true (Nat.zero_le _)
theorem mapInt_get {cs : List Int} {i : Int} (h0 : 0 ≤ i) (h : i < cs.length) : ∃ c : Int, atI (cs.map D.int) i = some (.int c) := by
  obtain ⟨x, hx, e, _⟩ := atI_in (xs := cs.map D.int) h0 (by rw [List.length_map]; exact h)
  obtain ⟨c, _, rfl⟩ := List.mem_map.mp hx
  exact ⟨c, e⟩
end Z
namespace Z
open PySem PySem.Spec PyProof.Rows L2
theorem cast_0 : ((0 : Nat) : Int) = 0 := rfl
theorem cast_1 : ((1 : Nat) : Int) = 1 := rfl
theorem cast_2 : ((2 : Nat) : Int) = 2 := rfl
theorem cast_3 : ((3 : Nat) : Int) = 3 := rfl
theorem two_le_size : (2 ≤ sizeLine) = True := eq_true (by decide)
theorem zero_lt_size : (0 < sizeLine) = True := eq_true (by decide)
theorem one_lt_size : (1 < sizeLine) = True := eq_true (by decide)
theorem nodup_nilN : (([] : List Nat).Nodup) = True := eq_true List.nodup_nil
theorem nodup_1 (i : Nat) : ([i].Nodup) = True := eq_true (by simp)
/-- over a mapped list, one by one -/
theorem compW_map {α : Type} {g : DTG} {tt : DTT} {te : DTN} {vs : List Nat} {Q : D → Pst → Prop} (f : α → D) (h : α → D) (ps : Pst) (l : List α) (hl : l.length ≤ sizeLine)
    (hs : ∀ (x : α) (acc : List D) (R : List D → Pst → Prop), x ∈ l → acc.length < sizeLine → R (acc ++ [h x]) ps → g (f x) ps fun ps2 => tt ps2 fun b ps3 => if b = true then te ps3 fun y ps4 => acc.length < sizeLine ∧ R (acc ++ [y]) (wipeP ps4 vs) else R acc (wipeP ps3 vs))
    (hq : Q (.lst (l.map h)) ps) : compW g tt te vs Q (l.map f) [] ps := by
  have go : ∀ (r : List α) (acc : List D), (∀ x ∈ r, x ∈ l) → acc.length + r.length ≤ sizeLine → acc ++ r.map h = l.map h → compW g tt te vs Q (r.map f) acc ps := by
    intro r
    induction r with
    | nil => intro acc _ _ e; rw [List.map_nil, List.append_nil] at e; rw [List.map_nil]; unfold compW; rw [e]; exact hq
    | cons x r ih =>
      intro acc hm hn e
      rw [List.length_cons] at hn
      rw [List.map_cons]
      unfold compW
      refine hs x acc (fun a p => compW g tt te vs Q (r.map f) a p) (hm x (List.mem_cons_self ..)) (by omega) ?_
      refine ih _ (fun y hy => hm y (List.mem_cons_of_mem _ hy)) (by rw [List.length_append]; simp; omega) ?_
      rw [List.append_assoc]; exact e
  exact go l [] (fun _ h => h) (by simpa using hl) rfl
end Z
namespace Z
open PySem PySem.Spec PyProof.Rows L2
/-- a loop over a mapped list: S of what is done and of the state -/
theorem forW_ind {α : Type} {g : DTG} {tb : DTS} {Dd : DEnds} (f : α → D) (S : List α → Pst → Prop) (l : List α) (ps : Pst) (h0 : S [] ps)
    (hs : ∀ (x : α) (pre : List α) (R : Pst → Prop) (ps : Pst), x ∈ l → pre.length < l.length → S pre ps → (∀ ps', S (pre ++ [x]) ps' → R ps') → g (f x) ps fun ps2 => tb { Dd with nx := R, ct := R, bk := Dd.nx } ps2)
    (hq : ∀ ps, S l ps → Dd.nx ps) : forW g tb Dd (l.map f) ps := by
  have go : ∀ (r pre : List α) (ps : Pst), pre ++ r = l → S pre ps → forW g tb Dd (r.map f) ps := by
    intro r
    induction r with
    | nil => intro pre ps e h; rw [List.append_nil] at e; subst e; exact hq ps h
    | cons x r ih =>
      intro pre ps e h
      rw [List.map_cons]
      unfold forW
      refine hs x pre _ ps (by rw [← e]; simp) (by rw [← e]; simp) h fun ps' h' => ih (pre ++ [x]) ps' (by rw [List.append_assoc]; exact e) h'
  exact go l [] ps rfl h0
/-- a comprehension over a mapped list: S of what is done, of what was gathered, of the state -/
theorem compW_st {α : Type} {g : DTG} {tt : DTT} {te : DTN} {vs : List Nat} {Q : D → Pst → Prop} (f : α → D) (S : List α → List D → Pst → Prop) (l : List α) (ps : Pst) (h0 : S [] [] ps)
    (hs : ∀ (x : α) (pre : List α) (acc : List D) (R : List D → Pst → Prop) (ps : Pst), x ∈ l → pre.length < l.length → S pre acc ps → (∀ acc' ps', S (pre ++ [x]) acc' ps' → R acc' ps') →
      g (f x) ps fun ps2 => tt ps2 fun b ps3 => if b = true then te ps3 fun y ps4 => acc.length < sizeLine ∧ R (acc ++ [y]) (wipeP ps4 vs) else R acc (wipeP ps3 vs))
    (hq : ∀ acc ps, S l acc ps → Q (.lst acc) ps) : compW g tt te vs Q (l.map f) [] ps := by
  have go : ∀ (r pre : List α) (acc : List D) (ps : Pst), pre ++ r = l → S pre acc ps → compW g tt te vs Q (r.map f) acc ps := by
    intro r
    induction r with
    | nil => intro pre acc ps e h; rw [List.append_nil] at e; subst e; exact hq acc ps h
    | cons x r ih =>
      intro pre acc ps e h
      rw [List.map_cons]
      unfold compW
      exact hs x pre acc (fun a p => compW g tt te vs Q (r.map f) a p) ps (by rw [← e]; simp) (by rw [← e]; simp) h fun acc' ps' h' => ih (pre ++ [x]) acc' ps' (by rw [List.append_assoc]; exact e) h'
  exact go l [] [] ps rfl h0
theorem bls_map {α : Type} (f : α → Bool) : ∀ l : List α, D.bls (l.map fun x => D.bl (f x)) = some (l.map f)
  | [] => rfl
  | x :: l => by
    rw [List.map_cons, List.map_cons]
    unfold D.bls
    rw [bls_map f l]; rfl
theorem ints_map {α : Type} (f : α → Int) : ∀ l : List α, D.ints (l.map fun x => D.int (f x)) = some (l.map f)
  | [] => rfl
  | x :: l => by
    rw [List.map_cons, List.map_cons]
    unfold D.ints
    rw [ints_map f l]; rfl
theorem all_true {α : Type} : ∀ l : List α, (l.map fun _ => true).all id = true
  | [] => rfl
  | _ :: l => all_true l
theorem lt_size {n : Nat} (h : n ≤ 100000) : n ≤ sizeLine := Nat.le_trans h (by decide)
theorem zipD_map {α : Type} (f g : α → D) : ∀ l : List α, zipD (l.map f) (l.map g) = l.map fun x => .tup [f x, g x]
  | [] => rfl
  | x :: l => congrArg (D.tup [f x, g x] :: ·) (zipD_map f g l)
theorem toNat2 : (2 : Int).toNat = 2 := rfl
theorem rangeD_len (lo : Int) (n : Nat) : (rangeD lo n).length = n := by simp [rangeD]
end Z

set_option Elab.async false
set_option linter.all false
set_option maxRecDepth 100000
set_option maxHeartbeats 4000000
namespace Z
open PySem PySem.Spec PyProof.Rows L2

/-! ### 29. the end of a law, its facts by names -/
theorem toFun {K : PySem.W.Frag} {x : Str} {st : Stmt} {f : Addr} {fd : FuncData} (F : FunD K x x (defArgs st) (defBody st) (defScope st) [] [] f fd) : Fun K x x st f fd := by
  obtain ⟨oc, od, dV, kV, doc, pm, an, cdv, ct, osl, e, lk, hcd, hD, _⟩ := F.ex
  rcases hD with ⟨_, rfl⟩ | ⟨n, _⟩
  · exact ⟨⟨oc, od, kV, doc, pm, an, cdv, ct, osl, e, lk, hcd⟩, F.kp⟩
  · exact absurd rfl n
theorem Cal.at_ {P : Program} {w : World} {K : PySem.W.Frag} {mg : Str → Option Value} {base : Heap} {CX : CXT} {x : Str} {st : Stmt} {k : Nat} {ps : List Str} {sp : Sp} {fa : Addr} {fd : FuncData}
    (C : Cal P w K mg base CX x st k ps sp) (h : mg x = some (.ref fa)) (U : Fun K x x st fa fd) : FnG P w K mg base CX k fa fd ps sp := by
  obtain ⟨f, fd', F, U', b, m⟩ := C.ex
  have e := m.symm.trans h
  cases e
  obtain ⟨oc, od, kV, doc, pm, an, cdv, ct, osl, e1, lk, _⟩ := U.ex
  obtain ⟨oc', od', kV', doc', pm', an', cdv', ct', osl', e1', lk', _⟩ := U'.ex
  have e2 := lk.symm.trans lk'
  have e3 : fd = fd' := by
    have := Option.some.inj e2
    simp only [Obj.mk.injEq, Data.func.injEq] at this
    rw [e1, e1'] at *
    exact this.2.2.1
  rw [e3]; exact F
theorem walk_ofGE {l : PySem.W.OpenLaw} {n k : Nat} {q : Program} {loose : List Str} {XP : (Str → Option Value) → Heap → Prop} {YP : World → Heap → Prop} {d : DefRec} {CX : CXT} {x : Str}
    (hn : l.most = some n) (hn2 : n ≤ sizeLine) (hdf : d.params.defaults = []) (hr : Room k callerA)
    (F : ∀ (w : World) (mg : Str → Option Value) (fa : Addr) (h : Heap), YP w h → h.Ns mainGlobals mg → mg d.name = some (.ref fa) →
      ∃ (K : PySem.W.Frag) (fd : FuncData) (sp : Sp), K.In h ∧ (∀ (s : Shared) (u : Value), BindsTo s fd ⟨[u], []⟩ [(x, u)]) ∧
        (∀ (H : Hp) (a : Addr) (ns : List Int), ns.length ≤ n → SqL K H a (ns.map V.int) → sp [.ref a] H (fun v _ => v = .bl true) fun _ _ _ => False) ∧
        ∀ base : Heap, K.In base → base.Ns mainGlobals mg → FnG l.prog w K mg base CX k fa fd [x] sp)
    (hCX : ∀ (H : Hp) (s : Shared) (e : Value) (s' : Shared), CX [] H s (fun _ _ _ => False) e s' → False) :
    PySem.W.WalkO q loose XP YP l.row.toRowW d [] (fun f vs => PySem.call f vs) := by
  refine Att.attach_call hn hdf fun w s₀ s₁ mg mb fa o pm cd doc a vs ns G Y ho hd hcd hmg hobj hints hlen hg => ?_
  obtain ⟨K, fd, sp, KX, hb, hsp, hF⟩ := F w mg fa _ Y G.T.g hmg
  exact law_callG KX G.T.g G.T.b G.T.builtins G.T.nolimit hg hobj hints (Nat.le_trans hlen hn2) hr hF hb (fun H hS => hsp H a ns hlen hS) fun H e s' => hCX H s₁ e s'
end Z

set_option Elab.async false
set_option linter.all false
set_option maxRecDepth 100000
set_option maxHeartbeats 4000000
namespace Z
open PySem PySem.Spec PyProof.Rows L2

theorem ptk {X : Cx} {K : PySem.W.Frag} {ex : Expr} (r : PySem.W.Frag → TT) (h : PT X ex (r X.K)) (e : X.K = K := by rfl) : PT X ex (r K) := e ▸ h
/-! ### 30. is not True, text * int, sign in text, dict displays -/
section
variable {X : Cx} {K : PySem.W.Frag}
def rNotBA : R2 := fun x y H Q => ∃ b : Bool, y = .bl b ∧ ((∃ a : Bool, x = .bl a ∧ Q (.bl (!decide (a = b))) H) ∨ ∃ i : Int, x = .int i ∧ Q (.bl true) H)
theorem op_notBA : OpR X (compareOp .IsNot) rNotBA := by
  intro pins s σ H x y v u Q I rx ry h
  obtain ⟨b, rfl, h⟩ := h
  cases (show u = Value.bool b from ry)
  rcases h with ⟨a, rfl, q⟩ | ⟨i, rfl, q⟩
  · cases (show v = Value.bool a from rx)
    by_cases e : a = b
    · subst e
      exact wpAny_isNot_self rfl ⟨.bl false, H, I, rfl, by simpa using q⟩
    · exact wpAny_isNot_other rfl (fun z => e (Value.bool.inj z)) ⟨.bl true, H, I, rfl, by simpa [e] using q⟩
  · obtain ⟨t, rfl⟩ := rx
    exact wpAny_isNot_other rfl (fun z => by cases z) ⟨.bl true, H, I, rfl, q⟩
def dNotBA (x y : D) (Q : D → Prop) : Prop := match x, y with
  | .bl a, .bl b => Q (.bl (!decide (a = b)))
  | .int _, .bl _ => Q (.bl true)
  | _, _ => False
theorem ro_notBA : RO K rNotBA dNotBA := ⟨fun c ps σ F H x y dx dy Q QV s nx ny q k => by
  unfold dNotBA at q
  split at q
  · have e1 := nx.bl
    have e2 := ny.bl
    subst e1 e2
    exact ⟨_, rfl, .inl ⟨_, rfl, k _ _ F H s (Ex.refl F) (.bl _) q⟩⟩
  · have e1 := nx.int
    have e2 := ny.bl
    subst e1 e2
    exact ⟨_, rfl, .inr ⟨_, rfl, k _ _ F H s (Ex.refl F) (.bl _) q⟩⟩
  · exact q.elim⟩
/-! a one-sign text, n times -/
def repS (c n : Nat) : Str := ⟨(List.replicate n #[c]).foldl (· ++ ·) #[]⟩
def rMulS : R2 := fun x y H Q => ∃ (c : Nat) (n : Int), x = .str ⟨#[c]⟩ ∧ y = .int n ∧ 0 ≤ n ∧ n ≤ 100000 ∧ Q (.str (repS c n.toNat)) H
theorem repS_go (c : Nat) : ∀ (n : Nat) (a : Array Nat), ((List.replicate n #[c]).foldl (· ++ ·) a).toList = a.toList ++ List.replicate n c
  | 0, a => by simp
  | n + 1, a => by
    rw [List.replicate_succ, List.foldl_cons, repS_go c n, List.replicate_succ]
    simp
theorem repS_list (c n : Nat) : (repS c n).cps.toList = List.replicate n c := by
  show ((List.replicate n #[c]).foldl (· ++ ·) #[]).toList = _
  rw [repS_go]; simp
theorem repS_len (c n : Nat) : (repS c n).length = n := by
  show (repS c n).cps.size = n
  rw [← Array.length_toList, repS_list, List.length_replicate]
theorem op_mulS : OpR X (binaryOp .Mult) rMulS := by
  intro pins s σ H x y v u Q I rx ry h
  obtain ⟨c, n, rfl, rfl, h0, h1, q⟩ := h
  obtain ⟨t, rfl⟩ := rx
  obtain ⟨t', rfl⟩ := ry
  have one : (⟨#[c]⟩ : Str).length = 1 := rfl
  refine PySem.P.mul_str ?_ (fun a _ => ?_) (fun _ _ => ?_) ?_
  · rw [decide_eq_false (by omega), decide_eq_false (by omega)]; rfl
  · rw [one]
    have hn : 0 < n := by omega
    have := Int.le_ediv_of_mul_le hn (show (1 : Int) * n ≤ 2 ^ 63 - 1 by omega)
    omega
  · rw [one]
    have e : sizeLine = 16777216 := by decide
    show decide (1 * n.toNat > sizeLine) = false
    exact decide_eq_false (by omega)
  · by_cases z : n < 1
    · rw [if_pos z]
      have e : n = 0 := by omega
      subst e
      exact ⟨by decide, .str (repS c 0), H, I.kept (t' := s.toks + 1) (fun _ _ e => e), ⟨_, rfl⟩, q⟩
    · rw [if_neg z]
      by_cases z1 : n = 1
      · subst z1
        rw [if_pos (by rfl)]
        refine ⟨.str (repS c 1), H, I, ⟨t, ?_⟩, q⟩
        have e : repS c 1 = (⟨#[c]⟩ : Str) := by
          show (⟨#[] ++ #[c]⟩ : Str) = _
          simp
        rw [e]
      · rw [if_neg (by rw [one]; simpa using z1)]
        refine ⟨?_, .str (repS c n.toNat), H, I.kept (t' := s.toks + 1) (fun _ _ e => e), ⟨_, rfl⟩, q⟩
        have e := repS_len c n.toNat
        have e2 : sizeLine = 16777216 := by decide
        show (repS c n.toNat).length ≤ sizeLine
        omega
def rMulB : R2 := rOr rMulS rMulA
theorem op_mulB : OpR X (binaryOp .Mult) rMulB := OpR.or' op_mulS op_mulA
def dMulS (x y : D) (Q : D → Prop) : Prop := match x, y with
  | .str z, .int n => ∃ c, z = ⟨#[c]⟩ ∧ 0 ≤ n ∧ n ≤ 100000 ∧ Q (.str (repS c n.toNat))
  | _, _ => False
theorem ro_mulS : RO K rMulS dMulS := ⟨fun c ps σ F H x y dx dy Q QV s nx ny q k => by
  unfold dMulS at q
  split at q
  · have e1 := nx.str
    have e2 := ny.int
    subst e1 e2
    obtain ⟨c, rfl, h0, h1, q⟩ := q
    exact ⟨c, _, rfl, rfl, h0, h1, k _ _ F H s (Ex.refl F) (.str _) q⟩
  · exact q.elim⟩
/-! a sign in a text -/
def rInSign : R2 := fun x y H Q => ∃ (c : Nat) (z : Str), x = .str ⟨#[c]⟩ ∧ y = .str z ∧ Q (.bl (decide (c ∈ z.cps.toList))) H
def dInSign (x y : D) (Q : D → Prop) : Prop := match x, y with
  | .str s, .str z => ∃ c, s = ⟨#[c]⟩ ∧ Q (.bl (decide (c ∈ z.cps.toList)))
  | _, _ => False
theorem op_inSign : OpR X (compareOp .In) rInSign := op_in_sign
theorem ro_inSign : RO K rInSign dInSign := ⟨fun c ps σ F H x y dx dy Q QV s nx ny q k => by
  unfold dInSign at q
  split at q
  · have e1 := nx.str
    have e2 := ny.str
    subst e1 e2
    obtain ⟨c, rfl, q⟩ := q
    exact ⟨c, _, rfl, rfl, k _ _ F H s (Ex.refl F) (.bl _) q⟩
  · exact q.elim⟩
/-! dict displays -/
def dDict0 : DTN := fun ps Q => Q (.dic [] []) ps
theorem rn_dict0 : RN K tDNewK dDict0 := ⟨fun c ps σ F H Q QV s q k p hp =>
  k p (.dic [] []) ps F _ (s.laid hp) (Ex.refl F) (.dic (kvs := []) upd_same .nil) (s.fh.fresh hp) (s.h0 hp) (s.p0 hp) (s.nw hp) q⟩
def keyD : D → Option Key
  | .int i => some (.inl i)
  | .str x => some (.inr x)
  | _ => none
theorem keyD_rep {F : Hp} {v : V} {d : D} {k : Key} (r : Rep K F v d) (h : keyD d = some k) : v = kV k := by
  cases r with
  | int i => cases h; rfl
  | str x => cases h; rfl
  | _ => cases h
def dDict1 (tk tv : DTN) : DTN := fun ps Q => tk ps fun a ps1 => tv ps1 fun b ps2 => ∃ k, keyD a = some k ∧ Q (.dic [k] [b]) ps2
theorem rn_dict1 {tk tv : TE} {dk dv : DTN} (hk : RE K tk dk) (hv : RE K tv dv) : RN K (tDisp [(tk, tv)]) (dDict1 dk dv) := ⟨fun c ps σ F H Q QV s q k p hp => by
  have f0 : F p = none := s.fh.fresh hp
  have s1 := (s.laid (o := .dK []) hp).protect upd_same f0 (s.nw hp)
  refine hk.run _ ps σ F _ _ _ s1 q fun v a ps1 F1 H1 s2 e1 r1 q => hv.run _ ps1 σ F1 H1 _ _ s2 q fun w b ps2 F2 H2 s3 e2 r2 q => ?_
  obtain ⟨key, hkey, q⟩ := q
  have ev := keyD_rep r1 hkey
  subst ev
  obtain ⟨g1, g2, g3⟩ := s3.pr p _ upd_same
  refine ⟨g1, [(key, w)], rfl, (by show 1 ≤ 15; decide), ?_⟩
  have s4 := s3.reprotect (o := .dK (mergeK [] [(key, w)])) (s.h0 hp) (s.p0 hp)
  have s5 : SR K { c with P := c.P } ps2 σ F2 (upd H2 p (.dK (mergeK [] [(key, w)]))) := s4.unprotect (P' := c.P) fun a o h => by
    by_cases z : a = p
    · rw [z, s.p0 hp] at h; cases h
    · show upd c.P p _ a = some o
      rw [upd_ne z]; exact h
  exact k p (.dic [key] [b]) ps2 F2 _ s5 (e1.trans e2) (.dic (kvs := [(key, w)]) upd_same (.cons r2 .nil)) g2 (s.h0 hp) (s.p0 hp) g3 q⟩
end
end Z

set_option Elab.async false
set_option linter.all false
set_option maxRecDepth 100000
set_option maxHeartbeats 4000000
namespace G
open PySem PySem.Spec PyProof.Rows L2 Z
def top (i : Nat) : Stmt := PySem.Challenge.pw_duetickers_k02_what_any_value_is.main.body.getD i (.Pass ⟨0, 0, 0, 0⟩)
/-- 0 _law_script, 1 _law_cell -/
def rd__law_sieve : DTS :=
  (dRet (dLst (dCons (dLc (dItAny (dEsc (dSl (dVar 0) dNoPart (dPart (dC (.int 63)))))) (gdName 1) dYes (dEsc (dCB dInt1 (hCons (dVar 1) hNil))) [1]) (dCons (dEsc (dC (.int 0))) (dCons (dEsc (dC (.int 0))) dNil)))))

/-- 0 _law_sieve_here, 1 _law_many, 2 _law_rest, 3 _law_at, 4 _law_cell, 5 _law_mixed -/
def rd__law_sift : DTS :=
  (dSeq (dIfS (dTest (dOp dGt (dOp dIx (dVar 0) (dC (.int 2))) (dC (.int 0)))) (dSeq (dAsg (dEsc (dCB dInt1 (hCons (dOp dIx (dVar 0) (dC (.int 2))) hNil))) (gdName 2))
    (dSeq (dSetI 0 (dC (.int 2)) (dEsc (dOp dDiv (dVar 2) (dVar 1))))
    (dRet (dEsc (dOp dMod (dCB dInt1 (hCons (dVar 2) hNil)) (dVar 1)))))) dNext)
    (dSeq (dAsg (dEsc (dOp dIx (dVar 0) (dC (.int 1)))) (gdName 3))
    (dSeq (dSetI 0 (dC (.int 1)) (dEsc (dOp dAdd (dVar 3) (dC (.int 1)))))
    (dSeq (dAsg (dEsc (dOp dAdd (dOp dMul (dC (.int 71341)) (dVar 3)) (dC (.int 5279)))) (gdName 4))
    (dSeq (dIfS (dTest (dOp dNeA (dOp dIx (dVar 0) (dC (.int 0))) (dPure (dLst dNil)))) (dAsg (dEsc (dOp dIx (dOp dIx (dVar 0) (dC (.int 0))) (dOp dMod (dCB dInt1 (hCons (dVar 3) hNil)) (dCB dLen (hCons (dOp dIx (dVar 0) (dC (.int 0))) hNil))))) (gdName 4)) dNext)
    (dSeq (dIfS (dAnd (dTest (dOp dLt (dVar 3) (dCB dLen (hCons (dOp dIx (dVar 0) (dC (.int 0))) hNil)))) (dTest (dOp dGe (dCB dAbs (hCons (dVar 4) hNil)) (dOp dPow (dC (.int 10)) (dC (.int 18)))))) (dSeq (dAsg (dEsc (dOp dAdd (dOp dMul (dC (.int 2)) (dOp dSub (dCB dAbs (hCons (dVar 4) hNil)) (dOp dPow (dC (.int 10)) (dC (.int 18))))) (dCB dInt1 (hCons (dOp dLt (dVar 4) (dC (.int 0))) hNil)))) (gdName 2))
    (dSeq (dSetI 0 (dC (.int 2)) (dEsc (dOp dDiv (dCB dInt1 (hCons (dVar 2) hNil)) (dVar 1))))
    (dRet (dEsc (dOp dMod (dCB dInt1 (hCons (dVar 2) hNil)) (dVar 1)))))) dNext)
    (dSeq (dAsg (dEsc (dOp dMod (dCB dInt1 (hCons (dOp dPow (dOp dAdd (dOp dAdd (dOp dMod (dCB dInt1 (hCons (dVar 4) hNil)) (dC (.int 2147483549))) (dOp dMul (dC (.int 31259)) (dVar 3))) (dC (.int 5279))) (dC (.int 5))) hNil)) (dC (.int 2147483587)))) (gdName 5))
    (dSeq (dAsg (dEsc (dOp dMod (dCB dInt1 (hCons (dOp dPow (dOp dAdd (dOp dAdd (dOp dMul (dVar 5) (dOp dAdd (dOp dMul (dC (.int 2)) (dVar 3)) (dC (.int 2671)))) (dOp dMul (dOp dMul (dC (.int 71341)) (dVar 3)) (dVar 3))) (dC (.int 31259))) (dC (.int 3))) hNil)) (dC (.int 2147483629)))) (gdName 5))
    (dRet (dEsc (dOp dMod (dCB dInt1 (hCons (dOp dDiv (dVar 5) (dC (.int 64))) hNil)) (dVar 1))))))))))))

/-- 0 _law_sieve_here, 1 _law_some -/
def rd__law_one (sp__law_sift : DSp) : DTS :=
  (dRet (dEsc (dOp dIx (dVar 1) (dPure (dCall [true, false] sp__law_sift (kIo 0 (kPu (dEsc (dCB dLen (hCons (dVar 1) hNil))) kNil)))))))

/-- 0 _law_sieve_here, 1 _law_near, 2 _law_some -/
def rd__law_any (sp__law_one : DSp) (sp__law_sift : DSp) : DTS :=
  (dSeq (dAsg (dCall [true, false] sp__law_one (kIo 0 (kPu (dLst (dCons (dEsc (dC (.int 0))) (dCons (dEsc (dC (.int 1))) (dCons (dEsc (dOp dPow (dC (.int 10)) (dC (.int 6)))) (dCons (dEsc (dOp dAdd (dOp dPow (dC (.int 10)) (dC (.int 6))) (dC (.int 1)))) (dCons (dEsc (dUn dNeg (dC (.int 1)))) (dCons (dEsc (dC (.int 5))) (dCons (dCall [true, false] sp__law_sift (kIo 0 (kPu (dEsc (dOp dPow (dC (.int 10)) (dC (.int 7)))) kNil))) dNil)))))))) kNil))) (gdName 1))
    (dSeq (dAsg (dLst (dCons (dEsc (dC .non)) (dCons (dEsc (dC (.bl true))) (dCons (dEsc (dC (.bl false))) (dCons (dEsc (dVar 1)) (dCons (dEsc (dCB dStrI (hCons (dVar 1) hNil))) (dCons (dLst (dCons (dEsc (dVar 1)) dNil)) (dCons (dTup (dCons (dEsc (dVar 1)) (dCons (dEsc (dC (.int 3))) dNil))) (dCons (dLst (dCons (dEsc (dC (.int 4))) (dCons (dEsc (dVar 1)) dNil))) (dCons (dTup (dCons (dEsc (dVar 1)) dNil)) (dCons (dLst (dCons (dEsc (dVar 1)) (dCons (dEsc (dVar 1)) (dCons (dEsc (dVar 1)) dNil)))) (dCons (dLst (dCons (dEsc (dVar 1)) (dCons (dEsc (dC (.bl true))) dNil))) (dCons (dLst (dCons (dEsc (dC .non)) (dCons (dEsc (dVar 1)) dNil))) (dCons (dEsc (dC (.str "01"))) (dCons (dEsc (dOp dMulS (dC (.str "0")) (dPure (dCall [true, false] sp__law_sift (kIo 0 (kPu (dEsc (dC (.int 63))) kNil)))))) dNil))))))))))))))) (gdName 2))
    (dSeq (dAsg (dEsc (dOp dAdd (dVar 2) (dPure (dLst (dCons (dEsc (dOp dAdd (dOp dMulS (dC (.str "0")) (dC (.int 59))) (dPure (dCall [true, false] sp__law_one (kIo 0 (kPu (dLst (dCons (dEsc (dC (.str "1"))) (dCons (dEsc (dC (.str "10"))) (dCons (dEsc (dC (.str "2"))) (dCons (dEsc (dC (.str " "))) (dCons (dEsc (dC (.str ""))) dNil)))))) kNil)))))) (dCons (dEsc (dC (.str ""))) (dCons (dEsc (dC (.str "012"))) (dCons (dEsc (dC (.str "10\n"))) (dCons (dEsc (dC (.str " 0"))) (dCons dDict0 (dCons (dDict1 (dEsc (dVar 1)) (dEsc (dC (.int 1)))) (dCons (dLst (dCons (dLst (dCons (dEsc (dVar 1)) dNil)) (dCons (dEsc (dC (.int 2))) dNil))) (dCons (dEsc (dOp dMulS (dC (.str "1")) (dC (.int 60)))) (dCons (dEsc (dOp dMulS (dC (.str "1")) (dC (.int 61)))) (dCons (dLst (dCons (dEsc (dC (.str "0"))) (dCons (dEsc (dC (.str "1"))) dNil))) dNil))))))))))))))) (gdName 2))
    (dRet (dCall [true, false] sp__law_one (kIo 0 (kPu (dEsc (dVar 2)) kNil)))))))

/-- 0 _law_value -/
def rd__law_is_integer : DTS :=
  (dRet (dEsc (dAndV (dCB dIsi (hCons (dVar 0) (hCons (dC (.ty "int")) hNil))) (dAndV (dOp dNotBA (dVar 0) (dC (.bl true))) (dOp dNotBA (dVar 0) (dC (.bl false)))))))

/-- 0 value -/
def rd_is_integer : DTS :=
  (dRet (dEsc (dAndV (dCB dIsi (hCons (dVar 0) (hCons (dC (.ty "int")) hNil))) (dNotV (dCB dIsi (hCons (dVar 0) (hCons (dC (.ty "bool")) hNil)))))))

/-- 0 value, 1 least, 2 most -/
def rd_is_within (sp_is_integer : DSp) : DTS :=
  (dSeq (dIfS (dNot (dTru (dPure (dCall [false] sp_is_integer (kPu (dEsc (dVar 0)) kNil))))) (dRet (dEsc (dC (.bl false)))) dNext)
    (dRet (dEsc (dAndV (dOrV (dOp dIsN (dVar 1) (dC .non)) (dOp dLe (dVar 1) (dVar 0))) (dOrV (dOp dIsN (dVar 2) (dC .non)) (dOp dLe (dVar 0) (dVar 2)))))))

/-- 0 value, 1 sign -/
def rd_is_name : DTS :=
  (dRet (dEsc (dAndV (dCB dIsi (hCons (dVar 0) (hCons (dC (.ty "str")) hNil))) (dAndV (dChain dLe dLe (dC (.int 1)) (dCB dLen (hCons (dVar 0) hNil)) (dC (.int 60))) (dCB (dAll fun bs => bs.all id) (hCons (dPure (dLc (dItA 0) (gdName 1) dYes (dEsc (dOp dInSign (dVar 1) (dC (.str "01")))) [1])) hNil))))))

/-- 0 value, 1 each -/
def rd_is_pair (sp_is_within : DSp) : DTS :=
  (dSeq (dIfS (dOr (dNot (dTru (dCB dIsi (hCons (dVar 0) (hCons (dPure (dTup (dCons (dEsc (dC (.ty "list"))) (dCons (dEsc (dC (.ty "tuple"))) dNil)))) hNil))))) (dTest (dOp dNeA (dCB dLen (hCons (dVar 0) hNil)) (dC (.int 2))))) (dRet (dEsc (dC (.bl false)))) dNext)
    (dRet (dEsc (dCB (dAll fun bs => bs.all id) (hCons (dPure (dLc (dItA 0) (gdName 1) dYes (dCall [false, false, false] sp_is_within (kPu (dEsc (dVar 1)) (kPu (dEsc (dC (.int 1))) (kPu (dEsc (dC (.int 1000000))) kNil)))) [1])) hNil)))))

/-- 0 _law_script, 1 _law_sieve_here, 2 _law_turn, 3 _law_value, 4 _law_least, 5 _law_most, 6 _law_whole, 7 _law_within, 8 _law_name, 9 _law_pair, 10 _law_told, 11 _law_sign, 12 _law_each -/
def rd_law (sp__law_sieve : DSp) (sp__law_any : DSp) (sp__law_one : DSp) (sp__law_is_integer : DSp) (sp_is_pair : DSp) (sp_is_name : DSp) (sp_is_within : DSp) (sp_is_integer : DSp) : DTS :=
  (dSeq (dAsgN (dCall [false] sp__law_sieve (kPu (dEsc (dVar 0)) kNil)) 1)
    (dSeq (dFor (dRng1 (hCons (dC (.int 8)) hNil)) (gdName 2)
    (dSeq (dAsg (dCall [true] sp__law_any (kIo 1 kNil)) (gdName 3))
    (dSeq (dPar 4 5 (mPu (dCall [true, false] sp__law_one (kIo 1 (kPu (dLst (dCons (dEsc (dC .non)) (dCons (dEsc (dC (.int 0))) (dCons (dEsc (dC (.int 5))) (dCons (dEsc (dUn dNeg (dC (.int 3)))) (dCons (dEsc (dOp dPow (dC (.int 10)) (dC (.int 6)))) dNil)))))) kNil))) (mPu (dCall [true, false] sp__law_one (kIo 1 (kPu (dLst (dCons (dEsc (dC .non)) (dCons (dEsc (dC (.int 0))) (dCons (dEsc (dC (.int 5))) (dCons (dEsc (dOp dPow (dC (.int 10)) (dC (.int 6)))) (dCons (dEsc (dOp dPow (dC (.int 10)) (dC (.int 7)))) dNil)))))) kNil))) mNil)))
    (dSeq (dAsg (dCall [false] sp__law_is_integer (kPu (dEsc (dVar 3)) kNil)) (gdName 6))
    (dSeq (dAsg (dEsc (dAndV (dVar 6) (dAndV (dOrV (dOp dIsN (dVar 4) (dC .non)) (dOp dGe (dVar 3) (dVar 4))) (dOrV (dOp dIsN (dVar 5) (dC .non)) (dOp dLe (dVar 3) (dVar 5)))))) (gdName 7))
    (dSeq (dAsg (dEsc (dAndV (dCB dIsi (hCons (dVar 3) (hCons (dC (.ty "str")) hNil))) (dAndV (dChain dLt dLt (dC (.int 0)) (dCB dLen (hCons (dVar 3) hNil)) (dC (.int 61))) (dOp dEqA (dPure (dLc (dItA 3) (gdName 11) (dAnd (dTest (dOp dNeA (dVar 11) (dC (.str "0")))) (dTest (dOp dNeA (dVar 11) (dC (.str "1"))))) (dEsc (dVar 11)) [11])) (dPure (dLst dNil)))))) (gdName 8))
    (dSeq (dAsg (dEsc (dAndV (dCB dIsi (hCons (dVar 3) (hCons (dPure (dTup (dCons (dEsc (dC (.ty "list"))) (dCons (dEsc (dC (.ty "tuple"))) dNil)))) hNil))) (dAndV (dOp dEqA (dCB dLen (hCons (dVar 3) hNil)) (dC (.int 2))) (dOp dEqA (dPure (dLc (dItA 3) (gdName 12) (dOr (dNot (dTru (dPure (dCall [false] sp__law_is_integer (kPu (dEsc (dVar 12)) kNil))))) (dOr (dTest (dOp dLt (dVar 12) (dC (.int 1)))) (dTest (dOp dGt (dVar 12) (dOp dPow (dC (.int 10)) (dC (.int 6))))))) (dEsc (dVar 12)) [12])) (dPure (dLst dNil)))))) (gdName 9))
    (dSeq (dAsg (dLst (dCons (dCall [false] sp_is_integer (kPu (dEsc (dVar 3)) kNil)) (dCons (dCall [false, false, false] sp_is_within (kPu (dEsc (dVar 3)) (kPu (dEsc (dVar 4)) (kPu (dEsc (dVar 5)) kNil)))) (dCons (dCall [false] sp_is_name (kPu (dEsc (dVar 3)) kNil)) (dCons (dCall [false] sp_is_pair (kPu (dEsc (dVar 3)) kNil)) dNil))))) (gdName 10))
    (dSeq (dIfS (dTest (dOp dNeA (dCB dRepr (hCons (dVar 10) hNil)) (dCB dRepr (hCons (dPure (dLst (dCons (dEsc (dVar 6)) (dCons (dEsc (dVar 7)) (dCons (dEsc (dVar 8)) (dCons (dEsc (dVar 9)) dNil)))))) hNil)))) (dRet (dEsc (dC (.bl false)))) dNext)
    (dIfS (dTest (dOp dNeA (dPure (dLst (dCons (dCall [false] sp_is_integer (kPerm (kp [0]) 0 1 kNil (kPu (dEsc (dVar 3)) kNil))) (dCons (dCall [false, false, false] sp_is_within (kPerm (kp [2, 1, 0]) 0 3 kNil (kPu (dEsc (dVar 5)) (kPu (dEsc (dVar 4)) (kPu (dEsc (dVar 3)) kNil))))) (dCons (dCall [false] sp_is_name (kPerm (kp [0]) 0 1 kNil (kPu (dEsc (dVar 3)) kNil))) (dCons (dCall [false] sp_is_pair (kPerm (kp [0]) 0 1 kNil (kPu (dEsc (dVar 3)) kNil))) dNil)))))) (dVar 10))) (dRet (dEsc (dC (.bl false)))) dNext))))))))))
    (dRet (dEsc (dC (.bl true))))))

structure Txt (mg : Str → Option Value) : Prop where
  n_abs : mg "abs" = none
  n_all : mg "all" = none
  n_bool : mg "bool" = none
  n_int : mg "int" = none
  n_isinstance : mg "isinstance" = none
  n_len : mg "len" = none
  n_list : mg "list" = none
  n_range : mg "range" = none
  n_repr : mg "repr" = none
  n_str : mg "str" = none
  n_tuple : mg "tuple" = none
  k_MOST_PART : ∃ u, mg "MOST_PART" = some u ∧ RelV (.int 1000000) u
  k_MOST_SIGNS : ∃ u, mg "MOST_SIGNS" = some u ∧ RelV (.int 60) u
  k_SIGNS : ∃ u, mg "SIGNS" = some u ∧ RelV (.str "01") u

abbrev s__law_sieve : Stmt := top 9
abbrev N__law_sieve : List Str := ["_law_script", "_law_cell"]
theorem sc__law_sieve : FnScope N__law_sieve ["_law_script"] (defScope s__law_sieve) := ⟨rfl, rfl, rfl, by decide +kernel, rfl, by decide +kernel, by decide +kernel⟩
theorem ok__law_sieve {P : Program} {w : World} {K : PySem.W.Frag} {mg : Str → Option Value} {base : Heap} {f : Addr} {fd : FuncData} (T : Txt mg) (U : Fun K "_law_sieve" "_law_sieve" s__law_sieve f fd) (m : mg "_law_sieve" = some (.ref f))
    {sp : DSp} (hd : ∀ ds Q E, sp ds Q E → rd__law_sieve { dEnds [false] Q with nx := fun _ => False } (entryN 2 [false] ds)) : Cal P w K mg base CX0 "_law_sieve" s__law_sieve 1 ["_law_script"] (lift K [false] true sp) := by
  refine ⟨f, fd, Fun.okG U sc__law_sieve (fun vs H Q E h => lift_len h) (fun cdv A outer s H vs Q E hr hgd h => ?body), U, U.binds (ps := ["_law_script"]) fun _ _ _ _ _ _ us hl => match us, hl with | [_], _ => rfl, m⟩
  refine ⟨_, (pss_one (ps_ret (pe_lst (pa_cons (pe_lc (own := [("_law_cell", 1)]) (by rfl) sc__law_sieve.nd (pi_any (pe_slice (slk (K := K) rSlAny sl_any) (pv 0) po_none (po_some pe_int))) (blkOk_by (own := [("_law_cell", 1)]) (N := N__law_sieve) (sc := defScope s__law_sieve) (by decide +kernel)) (fun _ _ _ _ _ => (pg_name (i := 1) sc__law_sieve.nd rfl (by first | exact Or.inl rfl | exact Or.inr rfl))) (fun _ _ _ _ _ => pts_nil) (fun _ _ _ _ _ => (pe_callTy call_int1 (by rfl) T.n_int (by decide +kernel) (pa_cons (pv 1) pa_nil)))) (pa_cons pe_int (pa_cons pe_int pa_nil)))))), ?_⟩
  exact body_new (N := N__law_sieve) (td := rd__law_sieve) (by decide) h (rs_retNew (rn_lst (ra_cons (re_rn (rn_lc (ri_any (re_esc (rv_sl (rv_var 0) rq_none (rq_some (rv_int 63))))) (rg_name 1) rt_yes (re_esc (rv_cb rc_int1 (rh_cons (rv_var 1) rh_nil))) (by decide))) (ra_cons (re_esc (rv_int 0)) (ra_cons (re_esc (rv_int 0)) ra_nil))))) hd
abbrev s__law_sift : Stmt := top 10
abbrev N__law_sift : List Str := ["_law_sieve_here", "_law_many", "_law_rest", "_law_at", "_law_cell", "_law_mixed"]
theorem sc__law_sift : FnScope N__law_sift ["_law_sieve_here", "_law_many"] (defScope s__law_sift) := ⟨rfl, rfl, rfl, by decide +kernel, rfl, by decide +kernel, by decide +kernel⟩
theorem ok__law_sift {P : Program} {w : World} {K : PySem.W.Frag} {mg : Str → Option Value} {base : Heap} {f : Addr} {fd : FuncData} (T : Txt mg) (U : Fun K "_law_sift" "_law_sift" s__law_sift f fd) (m : mg "_law_sift" = some (.ref f))
    {sp : DSp} (hd : ∀ ds Q E, sp ds Q E → rd__law_sift (dEnds [true, false] Q) (entryN 6 [true, false] ds)) : Cal P w K mg base CX0 "_law_sift" s__law_sift 1 ["_law_sieve_here", "_law_many"] (lift K [true, false] false sp) := by
  refine ⟨f, fd, Fun.okG U sc__law_sift (fun vs H Q E h => lift_len h) (fun cdv A outer s H vs Q E hr hgd h => ?body), U, U.binds (ps := ["_law_sieve_here", "_law_many"]) fun _ _ _ _ _ _ us hl => match us, hl with | [_, _], _ => rfl, m⟩
  refine ⟨_, (pss_cons (ps_if (pt_cmpR op_gt (pe_ix (ixk (K := K) rIx ix_seq) (pv 0) pe_int (fun _ _ => rfl)) pe_int (nomark _)) (pss_cons (ps_set (i := 2) sc__law_sift.nd rfl (Or.inl rfl) (pe_callTy call_int1 (by rfl) T.n_int (by decide +kernel) (pa_cons (pe_ix (ixk (K := K) rIx ix_seq) (pv 0) pe_int (fun _ _ => rfl)) pa_nil)))
    (pss_cons (ps_asg (pe_op op_fdivW (pv 2) (pv 1)) (pg_sub (pv 0) pe_int set_list))
    (pss_one (ps_ret (pe_op op_mod (pe_callTy call_int1 (by rfl) T.n_int (by decide +kernel) (pa_cons (pv 2) pa_nil)) (pv 1)))))) pss_nil)
    (pss_cons (ps_set (i := 3) sc__law_sift.nd rfl (Or.inl rfl) (pe_ix (ixk (K := K) rIx ix_seq) (pv 0) pe_int (fun _ _ => rfl)))
    (pss_cons (ps_asg (pe_op (opk (K := K) rAddA op_addA) (pv 3) pe_int) (pg_sub (pv 0) pe_int set_list))
    (pss_cons (ps_set (i := 4) sc__law_sift.nd rfl (Or.inl rfl) (pe_op (opk (K := K) rAddA op_addA) (pe_op op_mulA pe_int (pv 3)) pe_int))
    (pss_cons (ps_if (pt_cmpR (opk (K := K) rNeA (op_neA hr.units)) (pe_ix (ixk (K := K) rIx ix_seq) (pv 0) pe_int (fun _ _ => rfl)) (pe_lst pa_nil) (nomark _)) (pss_one (ps_set (i := 4) sc__law_sift.nd rfl (Or.inl rfl) (pe_ix (ixk (K := K) rIx ix_seq) (pe_ix (ixk (K := K) rIx ix_seq) (pv 0) pe_int (fun _ _ => rfl)) (pe_op op_mod (pe_callTy call_int1 (by rfl) T.n_int (by decide +kernel) (pa_cons (pv 3) pa_nil)) (pe_callB (ck (K := K) rLen call_len) (by rfl) T.n_len (by decide +kernel) (pa_cons (pe_ix (ixk (K := K) rIx ix_seq) (pv 0) pe_int (fun _ _ => rfl)) pa_nil))) (fun _ _ => rfl)))) pss_nil)
    (pss_cons (ps_if (PW.pt (pw_and (pt_cmpR op_lt (pv 3) (pe_callB (ck (K := K) rLen call_len) (by rfl) T.n_len (by decide +kernel) (pa_cons (pe_ix (ixk (K := K) rIx ix_seq) (pv 0) pe_int (fun _ _ => rfl)) pa_nil)) (nomark _)) (pw_and1 (pt_cmpR op_ge (pe_callB call_abs (by rfl) T.n_abs (by decide +kernel) (pa_cons (pv 4) pa_nil)) (pe_op op_pow pe_int pe_int) (nomark _))))) (pss_cons (ps_set (i := 2) sc__law_sift.nd rfl (Or.inl rfl) (pe_op (opk (K := K) rAddA op_addA) (pe_op op_mulA pe_int (pe_op op_sub (pe_callB call_abs (by rfl) T.n_abs (by decide +kernel) (pa_cons (pv 4) pa_nil)) (pe_op op_pow pe_int pe_int))) (pe_callTy call_int1 (by rfl) T.n_int (by decide +kernel) (pa_cons (pe_cmpR op_lt (pv 4) pe_int (nomark _)) pa_nil))))
    (pss_cons (ps_asg (pe_op op_fdivW (pe_callTy call_int1 (by rfl) T.n_int (by decide +kernel) (pa_cons (pv 2) pa_nil)) (pv 1)) (pg_sub (pv 0) pe_int set_list))
    (pss_one (ps_ret (pe_op op_mod (pe_callTy call_int1 (by rfl) T.n_int (by decide +kernel) (pa_cons (pv 2) pa_nil)) (pv 1)))))) pss_nil)
    (pss_cons (ps_set (i := 5) sc__law_sift.nd rfl (Or.inl rfl) (pe_op op_mod (pe_callTy call_int1 (by rfl) T.n_int (by decide +kernel) (pa_cons (pe_op op_pow (pe_op (opk (K := K) rAddA op_addA) (pe_op (opk (K := K) rAddA op_addA) (pe_op op_mod (pe_callTy call_int1 (by rfl) T.n_int (by decide +kernel) (pa_cons (pv 4) pa_nil)) pe_int) (pe_op op_mulA pe_int (pv 3))) pe_int) pe_int) pa_nil)) pe_int))
    (pss_cons (ps_set (i := 5) sc__law_sift.nd rfl (Or.inl rfl) (pe_op op_mod (pe_callTy call_int1 (by rfl) T.n_int (by decide +kernel) (pa_cons (pe_op op_pow (pe_op (opk (K := K) rAddA op_addA) (pe_op (opk (K := K) rAddA op_addA) (pe_op op_mulA (pv 5) (pe_op (opk (K := K) rAddA op_addA) (pe_op op_mulA pe_int (pv 3)) pe_int)) (pe_op op_mulA (pe_op op_mulA pe_int (pv 3)) (pv 3))) pe_int) pe_int) pa_nil)) pe_int))
    (pss_one (ps_ret (pe_op op_mod (pe_callTy call_int1 (by rfl) T.n_int (by decide +kernel) (pa_cons (pe_op op_fdivW (pv 5) pe_int) pa_nil)) (pv 1)))))))))))), ?_⟩
  exact body_ok (N := N__law_sift) (td := rd__law_sift) (by decide) h (rs_seq (rs_if (rt_test (rv_op ro_gt (rv_op ro_ix (rv_var 0) (rv_int 2)) (rv_int 0))) (rs_seq (rs_asg (re_esc (rv_cb rc_int1 (rh_cons (rv_op ro_ix (rv_var 0) (rv_int 2)) rh_nil))) (rg_name 2))
    (rs_seq (rs_setI 0 (re_esc (rv_op ro_div (rv_var 2) (rv_var 1))) (rv_int 2))
    (rs_ret (re_esc (rv_op ro_mod (rv_cb rc_int1 (rh_cons (rv_var 2) rh_nil)) (rv_var 1)))))) rs_next)
    (rs_seq (rs_asg (re_esc (rv_op ro_ix (rv_var 0) (rv_int 1))) (rg_name 3))
    (rs_seq (rs_setI 0 (re_esc (rv_op ro_add (rv_var 3) (rv_int 1))) (rv_int 1))
    (rs_seq (rs_asg (re_esc (rv_op ro_add (rv_op ro_mul (rv_int 71341) (rv_var 3)) (rv_int 5279))) (rg_name 4))
    (rs_seq (rs_if (rt_test (rv_op ro_neA (rv_op ro_ix (rv_var 0) (rv_int 0)) (rv_rn (rn_lst ra_nil)))) (rs_asg (re_esc (rv_op ro_ix (rv_op ro_ix (rv_var 0) (rv_int 0)) (rv_op ro_mod (rv_cb rc_int1 (rh_cons (rv_var 3) rh_nil)) (rv_cb rc_len (rh_cons (rv_op ro_ix (rv_var 0) (rv_int 0)) rh_nil))))) (rg_name 4)) rs_next)
    (rs_seq (rs_if (rt_and (rt_test (rv_op ro_lt (rv_var 3) (rv_cb rc_len (rh_cons (rv_op ro_ix (rv_var 0) (rv_int 0)) rh_nil)))) (rt_test (rv_op ro_ge (rv_cb rc_abs (rh_cons (rv_var 4) rh_nil)) (rv_op ro_pow (rv_int 10) (rv_int 18))))) (rs_seq (rs_asg (re_esc (rv_op ro_add (rv_op ro_mul (rv_int 2) (rv_op ro_sub (rv_cb rc_abs (rh_cons (rv_var 4) rh_nil)) (rv_op ro_pow (rv_int 10) (rv_int 18)))) (rv_cb rc_int1 (rh_cons (rv_op ro_lt (rv_var 4) (rv_int 0)) rh_nil)))) (rg_name 2))
    (rs_seq (rs_setI 0 (re_esc (rv_op ro_div (rv_cb rc_int1 (rh_cons (rv_var 2) rh_nil)) (rv_var 1))) (rv_int 2))
    (rs_ret (re_esc (rv_op ro_mod (rv_cb rc_int1 (rh_cons (rv_var 2) rh_nil)) (rv_var 1)))))) rs_next)
    (rs_seq (rs_asg (re_esc (rv_op ro_mod (rv_cb rc_int1 (rh_cons (rv_op ro_pow (rv_op ro_add (rv_op ro_add (rv_op ro_mod (rv_cb rc_int1 (rh_cons (rv_var 4) rh_nil)) (rv_int 2147483549)) (rv_op ro_mul (rv_int 31259) (rv_var 3))) (rv_int 5279)) (rv_int 5)) rh_nil)) (rv_int 2147483587))) (rg_name 5))
    (rs_seq (rs_asg (re_esc (rv_op ro_mod (rv_cb rc_int1 (rh_cons (rv_op ro_pow (rv_op ro_add (rv_op ro_add (rv_op ro_mul (rv_var 5) (rv_op ro_add (rv_op ro_mul (rv_int 2) (rv_var 3)) (rv_int 2671))) (rv_op ro_mul (rv_op ro_mul (rv_int 71341) (rv_var 3)) (rv_var 3))) (rv_int 31259)) (rv_int 3)) rh_nil)) (rv_int 2147483629))) (rg_name 5))
    (rs_ret (re_esc (rv_op ro_mod (rv_cb rc_int1 (rh_cons (rv_op ro_div (rv_var 5) (rv_int 64)) rh_nil)) (rv_var 1)))))))))))) hd
abbrev s__law_one : Stmt := top 11
abbrev N__law_one : List Str := ["_law_sieve_here", "_law_some"]
theorem sc__law_one : FnScope N__law_one ["_law_sieve_here", "_law_some"] (defScope s__law_one) := ⟨rfl, rfl, rfl, by decide +kernel, rfl, by decide +kernel, by decide +kernel⟩
theorem ok__law_one {P : Program} {w : World} {K : PySem.W.Frag} {mg : Str → Option Value} {base : Heap} {f : Addr} {fd : FuncData} (T : Txt mg) (U : Fun K "_law_one" "_law_one" s__law_one f fd) (m : mg "_law_one" = some (.ref f))
    {sp__law_sift : DSp} (G__law_sift : Cal P w K mg base CX0 "_law_sift" s__law_sift 1 ["_law_sieve_here", "_law_many"] (lift K [true, false] false sp__law_sift))
    {sp : DSp} (hd : ∀ ds Q E, sp ds Q E → rd__law_one sp__law_sift (dEnds [true, false] Q) (entryN 2 [true, false] ds)) : Cal P w K mg base CX0 "_law_one" s__law_one 2 ["_law_sieve_here", "_law_some"] (lift K [true, false] false sp) := by
  refine ⟨f, fd, Fun.okG U sc__law_one (fun vs H Q E h => lift_len h) (fun cdv A outer s H vs Q E hr hgd h => ?body), U, U.binds (ps := ["_law_sieve_here", "_law_some"]) fun _ _ _ _ _ _ us hl => match us, hl with | [_, _], _ => rfl, m⟩
  refine ⟨_, (pss_one (ps_ret (pe_ix (ixk (K := K) rIx ix_seq) (pv 1) (pe_cal G__law_sift (hr.mono (by decide)) hgd (by rfl) pass0 (pa_cons (pv 0) (pa_cons (pe_callB (ck (K := K) rLen call_len) (by rfl) T.n_len (by decide +kernel) (pa_cons (pv 1) pa_nil)) pa_nil))) (fun _ _ => rfl)))), ?_⟩
  exact body_ok (N := N__law_one) (td := rd__law_one sp__law_sift) (by decide) h (rs_ret (re_esc (rv_op ro_ix (rv_var 1) (rv_re (re_call (rk_io 0 (rk_pu (re_esc (rv_cb rc_len (rh_cons (rv_var 1) rh_nil))) rk_nil))))))) hd
abbrev s__law_any : Stmt := top 12
abbrev N__law_any : List Str := ["_law_sieve_here", "_law_near", "_law_some"]
theorem sc__law_any : FnScope N__law_any ["_law_sieve_here"] (defScope s__law_any) := ⟨rfl, rfl, rfl, by decide +kernel, rfl, by decide +kernel, by decide +kernel⟩
theorem ok__law_any {P : Program} {w : World} {K : PySem.W.Frag} {mg : Str → Option Value} {base : Heap} {f : Addr} {fd : FuncData} (T : Txt mg) (U : Fun K "_law_any" "_law_any" s__law_any f fd) (m : mg "_law_any" = some (.ref f))
    {sp__law_one : DSp} (G__law_one : Cal P w K mg base CX0 "_law_one" s__law_one 2 ["_law_sieve_here", "_law_some"] (lift K [true, false] false sp__law_one))
    {sp__law_sift : DSp} (G__law_sift : Cal P w K mg base CX0 "_law_sift" s__law_sift 1 ["_law_sieve_here", "_law_many"] (lift K [true, false] false sp__law_sift))
    {sp : DSp} (hd : ∀ ds Q E, sp ds Q E → rd__law_any sp__law_one sp__law_sift (dEnds [true] Q) (entryN 3 [true] ds)) : Cal P w K mg base CX0 "_law_any" s__law_any 3 ["_law_sieve_here"] (lift K [true] false sp) := by
  refine ⟨f, fd, Fun.okG U sc__law_any (fun vs H Q E h => lift_len h) (fun cdv A outer s H vs Q E hr hgd h => ?body), U, U.binds (ps := ["_law_sieve_here"]) fun _ _ _ _ _ _ us hl => match us, hl with | [_], _ => rfl, m⟩
  refine ⟨_, (pss_cons (ps_set (i := 1) sc__law_any.nd rfl (Or.inl rfl) (pe_cal G__law_one (hr.mono (by decide)) hgd (by rfl) pass0 (pa_cons (pv 0) (pa_cons (pe_lst (pa_cons pe_int (pa_cons pe_int (pa_cons (pe_op op_pow pe_int pe_int) (pa_cons (pe_op (opk (K := K) rAddA op_addA) (pe_op op_pow pe_int pe_int) pe_int) (pa_cons (pe_un un_neg pe_int) (pa_cons pe_int (pa_cons (pe_cal G__law_sift (hr.mono (by decide)) hgd (by rfl) pass0 (pa_cons (pv 0) (pa_cons (pe_op op_pow pe_int pe_int) pa_nil))) pa_nil)))))))) pa_nil))))
    (pss_cons (ps_set (i := 2) sc__law_any.nd rfl (Or.inl rfl) (pe_lst (pa_cons pe_non (pa_cons pe_bl (pa_cons pe_bl (pa_cons (pv 1) (pa_cons (pe_callTy call_str_int (by rfl) T.n_str (by decide +kernel) (pa_cons (pv 1) pa_nil)) (pa_cons (pe_lst (pa_cons (pv 1) pa_nil)) (pa_cons (pe_tup (pa_cons (pv 1) (pa_cons pe_int pa_nil))) (pa_cons (pe_lst (pa_cons pe_int (pa_cons (pv 1) pa_nil))) (pa_cons (pe_tup (pa_cons (pv 1) pa_nil)) (pa_cons (pe_lst (pa_cons (pv 1) (pa_cons (pv 1) (pa_cons (pv 1) pa_nil)))) (pa_cons (pe_lst (pa_cons (pv 1) (pa_cons pe_bl pa_nil))) (pa_cons (pe_lst (pa_cons pe_non (pa_cons (pv 1) pa_nil))) (pa_cons pe_str (pa_cons (pe_op op_mulS pe_str (pe_cal G__law_sift (hr.mono (by decide)) hgd (by rfl) pass0 (pa_cons (pv 0) (pa_cons pe_int pa_nil)))) pa_nil))))))))))))))))
    (pss_cons (ps_set (i := 2) sc__law_any.nd rfl (Or.inl rfl) (pe_op (opk (K := K) rAddA op_addA) (pv 2) (pe_lst (pa_cons (pe_op (opk (K := K) rAddA op_addA) (pe_op op_mulS pe_str pe_int) (pe_cal G__law_one (hr.mono (by decide)) hgd (by rfl) pass0 (pa_cons (pv 0) (pa_cons (pe_lst (pa_cons pe_str (pa_cons pe_str (pa_cons pe_str (pa_cons pe_str (pa_cons pe_str pa_nil)))))) pa_nil)))) (pa_cons pe_str (pa_cons pe_str (pa_cons pe_str (pa_cons pe_str (pa_cons pe_dnewK (pa_cons (pe_disp (pps_cons (pv 1) pe_int pps_nil) (by rfl) (by rfl) (by intro h; cases h) (by decide)) (pa_cons (pe_lst (pa_cons (pe_lst (pa_cons (pv 1) pa_nil)) (pa_cons pe_int pa_nil))) (pa_cons (pe_op op_mulS pe_str pe_int) (pa_cons (pe_op op_mulS pe_str pe_int) (pa_cons (pe_lst (pa_cons pe_str (pa_cons pe_str pa_nil))) pa_nil))))))))))))))
    (pss_one (ps_ret (pe_cal G__law_one (hr.mono (by decide)) hgd (by rfl) pass0 (pa_cons (pv 0) (pa_cons (pv 2) pa_nil)))))))), ?_⟩
  exact body_ok (N := N__law_any) (td := rd__law_any sp__law_one sp__law_sift) (by decide) h (rs_seq (rs_asg (re_call (rk_io 0 (rk_pu (re_rn (rn_lst (ra_cons (re_esc (rv_int 0)) (ra_cons (re_esc (rv_int 1)) (ra_cons (re_esc (rv_op ro_pow (rv_int 10) (rv_int 6))) (ra_cons (re_esc (rv_op ro_add (rv_op ro_pow (rv_int 10) (rv_int 6)) (rv_int 1))) (ra_cons (re_esc (rv_un ru_neg (rv_int 1))) (ra_cons (re_esc (rv_int 5)) (ra_cons (re_call (rk_io 0 (rk_pu (re_esc (rv_op ro_pow (rv_int 10) (rv_int 7))) rk_nil))) ra_nil))))))))) rk_nil))) (rg_name 1))
    (rs_seq (rs_asg (re_rn (rn_lst (ra_cons (re_esc rv_non) (ra_cons (re_esc (rv_bl true)) (ra_cons (re_esc (rv_bl false)) (ra_cons (re_esc (rv_var 1)) (ra_cons (re_esc (rv_cb rc_strI (rh_cons (rv_var 1) rh_nil))) (ra_cons (re_rn (rn_lst (ra_cons (re_esc (rv_var 1)) ra_nil))) (ra_cons (re_tup (ra_cons (re_esc (rv_var 1)) (ra_cons (re_esc (rv_int 3)) ra_nil))) (ra_cons (re_rn (rn_lst (ra_cons (re_esc (rv_int 4)) (ra_cons (re_esc (rv_var 1)) ra_nil)))) (ra_cons (re_tup (ra_cons (re_esc (rv_var 1)) ra_nil)) (ra_cons (re_rn (rn_lst (ra_cons (re_esc (rv_var 1)) (ra_cons (re_esc (rv_var 1)) (ra_cons (re_esc (rv_var 1)) ra_nil))))) (ra_cons (re_rn (rn_lst (ra_cons (re_esc (rv_var 1)) (ra_cons (re_esc (rv_bl true)) ra_nil)))) (ra_cons (re_rn (rn_lst (ra_cons (re_esc rv_non) (ra_cons (re_esc (rv_var 1)) ra_nil)))) (ra_cons (re_esc (rv_str "01")) (ra_cons (re_esc (rv_op ro_mulS (rv_str "0") (rv_re (re_call (rk_io 0 (rk_pu (re_esc (rv_int 63)) rk_nil)))))) ra_nil)))))))))))))))) (rg_name 2))
    (rs_seq (rs_asg (re_esc (rv_op ro_add (rv_var 2) (rv_rn (rn_lst (ra_cons (re_esc (rv_op ro_add (rv_op ro_mulS (rv_str "0") (rv_int 59)) (rv_re (re_call (rk_io 0 (rk_pu (re_rn (rn_lst (ra_cons (re_esc (rv_str "1")) (ra_cons (re_esc (rv_str "10")) (ra_cons (re_esc (rv_str "2")) (ra_cons (re_esc (rv_str " ")) (ra_cons (re_esc (rv_str "")) ra_nil))))))) rk_nil)))))) (ra_cons (re_esc (rv_str "")) (ra_cons (re_esc (rv_str "012")) (ra_cons (re_esc (rv_str "10\n")) (ra_cons (re_esc (rv_str " 0")) (ra_cons (re_rn rn_dict0) (ra_cons (re_rn (rn_dict1 (re_esc (rv_var 1)) (re_esc (rv_int 1)))) (ra_cons (re_rn (rn_lst (ra_cons (re_rn (rn_lst (ra_cons (re_esc (rv_var 1)) ra_nil))) (ra_cons (re_esc (rv_int 2)) ra_nil)))) (ra_cons (re_esc (rv_op ro_mulS (rv_str "1") (rv_int 60))) (ra_cons (re_esc (rv_op ro_mulS (rv_str "1") (rv_int 61))) (ra_cons (re_rn (rn_lst (ra_cons (re_esc (rv_str "0")) (ra_cons (re_esc (rv_str "1")) ra_nil)))) ra_nil))))))))))))))) (rg_name 2))
    (rs_ret (re_call (rk_io 0 (rk_pu (re_esc (rv_var 2)) rk_nil))))))) hd
abbrev s__law_is_integer : Stmt := top 13
abbrev N__law_is_integer : List Str := ["_law_value"]
theorem sc__law_is_integer : FnScope N__law_is_integer ["_law_value"] (defScope s__law_is_integer) := ⟨rfl, rfl, rfl, by decide +kernel, rfl, by decide +kernel, by decide +kernel⟩
theorem ok__law_is_integer {P : Program} {w : World} {K : PySem.W.Frag} {mg : Str → Option Value} {base : Heap} {f : Addr} {fd : FuncData} (T : Txt mg) (U : Fun K "_law_is_integer" "_law_is_integer" s__law_is_integer f fd) (m : mg "_law_is_integer" = some (.ref f))
    {sp : DSp} (hd : ∀ ds Q E, sp ds Q E → rd__law_is_integer (dEnds [false] Q) (entryN 1 [false] ds)) : Cal P w K mg base CX0 "_law_is_integer" s__law_is_integer 1 ["_law_value"] (lift K [false] false sp) := by
  refine ⟨f, fd, Fun.okG U sc__law_is_integer (fun vs H Q E h => lift_len h) (fun cdv A outer s H vs Q E hr hgd h => ?body), U, U.binds (ps := ["_law_value"]) fun _ _ _ _ _ _ us hl => match us, hl with | [_], _ => rfl, m⟩
  refine ⟨_, (pss_one (ps_ret (pe_and (pe_callB (ck (K := K) rIsiA call_isiA) (by rfl) T.n_isinstance (by decide +kernel) (pa_cons (pv 0) (pa_cons (pe_bltn (v := .ty "int") (by rfl) T.n_int (by decide +kernel) rfl) pa_nil))) (pe_and (pe_cmpR op_notBA (pv 0) pe_bl (nomark _)) (pe_one (pe_cmpR op_notBA (pv 0) pe_bl (nomark _))))))), ?_⟩
  exact body_ok (N := N__law_is_integer) (td := rd__law_is_integer) (by decide) h (rs_ret (re_esc (rv_andV (rv_cb rc_isi (rh_cons (rv_var 0) (rh_cons (rv_c fun _ => Rep.ty "int") rh_nil))) (rv_andV (rv_op ro_notBA (rv_var 0) (rv_bl true)) (rv_op ro_notBA (rv_var 0) (rv_bl false)))))) hd
abbrev s_is_integer : Stmt := top 4
abbrev N_is_integer : List Str := ["value"]
theorem sc_is_integer : FnScope N_is_integer ["value"] (defScope s_is_integer) := ⟨rfl, rfl, rfl, by decide +kernel, rfl, by decide +kernel, by decide +kernel⟩
theorem ok_is_integer {P : Program} {w : World} {K : PySem.W.Frag} {mg : Str → Option Value} {base : Heap} {f : Addr} {fd : FuncData} (T : Txt mg) (U : Fun K "is_integer" "is_integer" s_is_integer f fd) (m : mg "is_integer" = some (.ref f))
    {sp : DSp} (hd : ∀ ds Q E, sp ds Q E → rd_is_integer (dEnds [false] Q) (entryN 1 [false] ds)) : Cal P w K mg base CX0 "is_integer" s_is_integer 1 ["value"] (lift K [false] false sp) := by
  refine ⟨f, fd, Fun.okG U sc_is_integer (fun vs H Q E h => lift_len h) (fun cdv A outer s H vs Q E hr hgd h => ?body), U, U.binds (ps := ["value"]) fun _ _ _ _ _ _ us hl => match us, hl with | [_], _ => rfl, m⟩
  refine ⟨_, (pss_one (ps_ret (pe_and (pe_callB (ck (K := K) rIsiA call_isiA) (by rfl) T.n_isinstance (by decide +kernel) (pa_cons (pv 0) (pa_cons (pe_bltn (v := .ty "int") (by rfl) T.n_int (by decide +kernel) rfl) pa_nil))) (pe_one (pe_not (pe_callB (ck (K := K) rIsiA call_isiA) (by rfl) T.n_isinstance (by decide +kernel) (pa_cons (pv 0) (pa_cons (pe_bltn (v := .ty "bool") (by rfl) T.n_bool (by decide +kernel) rfl) pa_nil)))))))), ?_⟩
  exact body_ok (N := N_is_integer) (td := rd_is_integer) (by decide) h (rs_ret (re_esc (rv_andV (rv_cb rc_isi (rh_cons (rv_var 0) (rh_cons (rv_c fun _ => Rep.ty "int") rh_nil))) (rv_notV (rv_cb rc_isi (rh_cons (rv_var 0) (rh_cons (rv_c fun _ => Rep.ty "bool") rh_nil))))))) hd
theorem kb_is_integer_0_0 {K : PySem.W.Frag} {f : Addr} {fd : FuncData} (U : Fun K "is_integer" "is_integer" s_is_integer f fd) : KBn K fd ["value"] 0 ["value"] (kp [0]) (kp [0]) := by
  obtain ⟨oc, od, kV, doc, pm, an, cdv, ct, osl, rfl, lk, hcd⟩ := U.ex
  exact ⟨fun s us ws _ h1 h2 => match us, ws, h1, h2 with | [], [b0], _, _ => .of_eq rfl, fun r1 r2 => kp_vals r1 r2⟩
abbrev s_is_within : Stmt := top 5
abbrev N_is_within : List Str := ["value", "least", "most"]
theorem sc_is_within : FnScope N_is_within ["value", "least", "most"] (defScope s_is_within) := ⟨rfl, rfl, rfl, by decide +kernel, rfl, by decide +kernel, by decide +kernel⟩
theorem ok_is_within {P : Program} {w : World} {K : PySem.W.Frag} {mg : Str → Option Value} {base : Heap} {f : Addr} {fd : FuncData} (T : Txt mg) (U : Fun K "is_within" "is_within" s_is_within f fd) (m : mg "is_within" = some (.ref f))
    {sp_is_integer : DSp} (G_is_integer : Cal P w K mg base CX0 "is_integer" s_is_integer 1 ["value"] (lift K [false] false sp_is_integer))
    {sp : DSp} (hd : ∀ ds Q E, sp ds Q E → rd_is_within sp_is_integer (dEnds [false, false, false] Q) (entryN 3 [false, false, false] ds)) : Cal P w K mg base CX0 "is_within" s_is_within 2 ["value", "least", "most"] (lift K [false, false, false] false sp) := by
  refine ⟨f, fd, Fun.okG U sc_is_within (fun vs H Q E h => lift_len h) (fun cdv A outer s H vs Q E hr hgd h => ?body), U, U.binds (ps := ["value", "least", "most"]) fun _ _ _ _ _ _ us hl => match us, hl with | [_, _, _], _ => rfl, m⟩
  refine ⟨_, (pss_cons (ps_if (pt_not (ptk (K := K) (tTru · _) (pt_truth (pe_cal G_is_integer (hr.mono (by decide)) hgd (by rfl) pass0 (pa_cons (pv 0) pa_nil)) (by intro _; rfl)))) (pss_one (ps_ret pe_bl)) pss_nil)
    (pss_one (ps_ret (pe_and (pe_or (pe_cmpR op_isN (pv 1) pe_non (nomark _)) (pe_one (pe_cmpR op_le (pv 1) (pv 0) (nomark _)))) (pe_one (pe_or (pe_cmpR op_isN (pv 2) pe_non (nomark _)) (pe_one (pe_cmpR op_le (pv 0) (pv 2) (nomark _))))))))), ?_⟩
  exact body_ok (N := N_is_within) (td := rd_is_within sp_is_integer) (by decide) h (rs_seq (rs_if (rt_not (rt_tru (rv_re (re_call (rk_pu (re_esc (rv_var 0)) rk_nil))))) (rs_ret (re_esc (rv_bl false))) rs_next)
    (rs_ret (re_esc (rv_andV (rv_orV (rv_op ro_isN (rv_var 1) rv_non) (rv_op ro_le (rv_var 1) (rv_var 0))) (rv_orV (rv_op ro_isN (rv_var 2) rv_non) (rv_op ro_le (rv_var 0) (rv_var 2))))))) hd
theorem kb_is_within_0_2_1_0 {K : PySem.W.Frag} {f : Addr} {fd : FuncData} (U : Fun K "is_within" "is_within" s_is_within f fd) : KBn K fd ["value", "least", "most"] 0 ["most", "least", "value"] (kp [2, 1, 0]) (kp [2, 1, 0]) := by
  obtain ⟨oc, od, kV, doc, pm, an, cdv, ct, osl, rfl, lk, hcd⟩ := U.ex
  exact ⟨fun s us ws _ h1 h2 => match us, ws, h1, h2 with | [], [b0, b1, b2], _, _ => .of_eq rfl, fun r1 r2 => kp_vals r1 r2⟩
abbrev s_is_name : Stmt := top 6
abbrev N_is_name : List Str := ["value", "sign"]
theorem sc_is_name : FnScope N_is_name ["value"] (defScope s_is_name) := ⟨rfl, rfl, rfl, by decide +kernel, rfl, by decide +kernel, by decide +kernel⟩
theorem ok_is_name {P : Program} {w : World} {K : PySem.W.Frag} {mg : Str → Option Value} {base : Heap} {f : Addr} {fd : FuncData} (T : Txt mg) (U : Fun K "is_name" "is_name" s_is_name f fd) (m : mg "is_name" = some (.ref f))
    {sp : DSp} (hd : ∀ ds Q E, sp ds Q E → rd_is_name (dEnds [false] Q) (entryN 2 [false] ds)) : Cal P w K mg base CX0 "is_name" s_is_name 1 ["value"] (lift K [false] false sp) := by
  refine ⟨f, fd, Fun.okG U sc_is_name (fun vs H Q E h => lift_len h) (fun cdv A outer s H vs Q E hr hgd h => ?body), U, U.binds (ps := ["value"]) fun _ _ _ _ _ _ us hl => match us, hl with | [_], _ => rfl, m⟩
  refine ⟨_, (pss_one (ps_ret (pe_and (pe_callB (ck (K := K) rIsiA call_isiA) (by rfl) T.n_isinstance (by decide +kernel) (pa_cons (pv 0) (pa_cons (pe_bltn (v := .ty "str") (by rfl) T.n_str (by decide +kernel) rfl) pa_nil))) (pe_and (pe_chain op_le op_le pe_int (pe_callB (ck (K := K) rLen call_len) (by rfl) T.n_len (by decide +kernel) (pa_cons (pv 0) pa_nil)) (pe_k T.k_MOST_SIGNS (by rfl))) (pe_one (pe_callB (ck (K := K) rAll (cr_all rfl)) (by rfl) T.n_all (by decide +kernel) (pa_cons (pe_lc (own := [("sign", 1)]) (by rfl) sc_is_name.nd (pi_any (pv 0)) (blkOk_by (own := [("sign", 1)]) (N := N_is_name) (sc := defScope s_is_name) (by decide +kernel)) (fun _ _ _ _ _ => (pg_name (i := 1) sc_is_name.nd rfl (by first | exact Or.inl rfl | exact Or.inr rfl))) (fun _ _ _ _ _ => pts_nil) (fun _ _ _ _ _ => (pe_cmpR op_inSign (pv 1) (pe_k T.k_SIGNS (by rfl)) (by rfl)))) pa_nil))))))), ?_⟩
  exact body_ok (N := N_is_name) (td := rd_is_name) (by decide) h (rs_ret (re_esc (rv_andV (rv_cb rc_isi (rh_cons (rv_var 0) (rh_cons (rv_c fun _ => Rep.ty "str") rh_nil))) (rv_andV (rv_chain ro_le ro_le (rv_int 1) (rv_cb rc_len (rh_cons (rv_var 0) rh_nil)) (rv_int 60)) (rv_cb rc_all (rh_cons (rv_rn (rn_lc (ri_nameA 0) (rg_name 1) rt_yes (re_esc (rv_op ro_inSign (rv_var 1) (rv_str "01"))) (by decide))) rh_nil)))))) hd
theorem kb_is_name_0_0 {K : PySem.W.Frag} {f : Addr} {fd : FuncData} (U : Fun K "is_name" "is_name" s_is_name f fd) : KBn K fd ["value"] 0 ["value"] (kp [0]) (kp [0]) := by
  obtain ⟨oc, od, kV, doc, pm, an, cdv, ct, osl, rfl, lk, hcd⟩ := U.ex
  exact ⟨fun s us ws _ h1 h2 => match us, ws, h1, h2 with | [], [b0], _, _ => .of_eq rfl, fun r1 r2 => kp_vals r1 r2⟩
abbrev s_is_pair : Stmt := top 7
abbrev N_is_pair : List Str := ["value", "each"]
theorem sc_is_pair : FnScope N_is_pair ["value"] (defScope s_is_pair) := ⟨rfl, rfl, rfl, by decide +kernel, rfl, by decide +kernel, by decide +kernel⟩
theorem ok_is_pair {P : Program} {w : World} {K : PySem.W.Frag} {mg : Str → Option Value} {base : Heap} {f : Addr} {fd : FuncData} (T : Txt mg) (U : Fun K "is_pair" "is_pair" s_is_pair f fd) (m : mg "is_pair" = some (.ref f))
    {sp_is_within : DSp} (G_is_within : Cal P w K mg base CX0 "is_within" s_is_within 2 ["value", "least", "most"] (lift K [false, false, false] false sp_is_within))
    {sp : DSp} (hd : ∀ ds Q E, sp ds Q E → rd_is_pair sp_is_within (dEnds [false] Q) (entryN 2 [false] ds)) : Cal P w K mg base CX0 "is_pair" s_is_pair 3 ["value"] (lift K [false] false sp) := by
  refine ⟨f, fd, Fun.okG U sc_is_pair (fun vs H Q E h => lift_len h) (fun cdv A outer s H vs Q E hr hgd h => ?body), U, U.binds (ps := ["value"]) fun _ _ _ _ _ _ us hl => match us, hl with | [_], _ => rfl, m⟩
  refine ⟨_, (pss_cons (ps_if (PW.pt (pw_or (pt_not (ptk (K := K) (tTru · _) (pt_truth (pe_callB (ck (K := K) rIsiA call_isiA) (by rfl) T.n_isinstance (by decide +kernel) (pa_cons (pv 0) (pa_cons (pe_tup (pa_cons (pe_bltn (v := .ty "list") (by rfl) T.n_list (by decide +kernel) rfl) (pa_cons (pe_bltn (v := .ty "tuple") (by rfl) T.n_tuple (by decide +kernel) rfl) pa_nil))) pa_nil))) (by intro _; rfl)))) (pw_or1 (pt_cmpR (opk (K := K) rNeA (op_neA hr.units)) (pe_callB (ck (K := K) rLen call_len) (by rfl) T.n_len (by decide +kernel) (pa_cons (pv 0) pa_nil)) pe_int (nomark _))))) (pss_one (ps_ret pe_bl)) pss_nil)
    (pss_one (ps_ret (pe_callB (ck (K := K) rAll (cr_all rfl)) (by rfl) T.n_all (by decide +kernel) (pa_cons (pe_lc (own := [("each", 1)]) (by rfl) sc_is_pair.nd (pi_any (pv 0)) (blkOk_by (own := [("each", 1)]) (N := N_is_pair) (sc := defScope s_is_pair) (by decide +kernel)) (fun _ _ _ _ _ => (pg_name (i := 1) sc_is_pair.nd rfl (by first | exact Or.inl rfl | exact Or.inr rfl))) (fun _ _ _ _ _ => pts_nil) (fun _ _ _ _ _ => (pe_cal G_is_within (hr.mono (by decide)) hgd (by rfl) pass0 (pa_cons (pv 1) (pa_cons pe_int (pa_cons (pe_k T.k_MOST_PART (by rfl)) pa_nil)))))) pa_nil))))), ?_⟩
  exact body_ok (N := N_is_pair) (td := rd_is_pair sp_is_within) (by decide) h (rs_seq (rs_if (rt_or (rt_not (rt_tru (rv_cb rc_isi (rh_cons (rv_var 0) (rh_cons (rv_re (re_tup (ra_cons (re_esc (rv_c fun _ => Rep.ty "list")) (ra_cons (re_esc (rv_c fun _ => Rep.ty "tuple")) ra_nil)))) rh_nil))))) (rt_test (rv_op ro_neA (rv_cb rc_len (rh_cons (rv_var 0) rh_nil)) (rv_int 2)))) (rs_ret (re_esc (rv_bl false))) rs_next)
    (rs_ret (re_esc (rv_cb rc_all (rh_cons (rv_rn (rn_lc (ri_nameA 0) (rg_name 1) rt_yes (re_call (rk_pu (re_esc (rv_var 1)) (rk_pu (re_esc (rv_int 1)) (rk_pu (re_esc (rv_int 1000000)) rk_nil)))) (by decide))) rh_nil))))) hd
theorem kb_is_pair_0_0 {K : PySem.W.Frag} {f : Addr} {fd : FuncData} (U : Fun K "is_pair" "is_pair" s_is_pair f fd) : KBn K fd ["value"] 0 ["value"] (kp [0]) (kp [0]) := by
  obtain ⟨oc, od, kV, doc, pm, an, cdv, ct, osl, rfl, lk, hcd⟩ := U.ex
  exact ⟨fun s us ws _ h1 h2 => match us, ws, h1, h2 with | [], [b0], _, _ => .of_eq rfl, fun r1 r2 => kp_vals r1 r2⟩
abbrev s_law : Stmt := top 14
abbrev N_law : List Str := ["_law_script", "_law_sieve_here", "_law_turn", "_law_value", "_law_least", "_law_most", "_law_whole", "_law_within", "_law_name", "_law_pair", "_law_told", "_law_sign", "_law_each"]
theorem sc_law : FnScope N_law ["_law_script"] (defScope s_law) := ⟨rfl, rfl, rfl, by decide +kernel, rfl, by decide +kernel, by decide +kernel⟩
theorem ok_law {P : Program} {w : World} {K : PySem.W.Frag} {mg : Str → Option Value} {base : Heap} {f : Addr} {fd : FuncData} (T : Txt mg) (U : Fun K "law" "law" s_law f fd) (m : mg "law" = some (.ref f))
    {sp__law_sieve : DSp} (G__law_sieve : Cal P w K mg base CX0 "_law_sieve" s__law_sieve 1 ["_law_script"] (lift K [false] true sp__law_sieve))
    {sp__law_any : DSp} (G__law_any : Cal P w K mg base CX0 "_law_any" s__law_any 3 ["_law_sieve_here"] (lift K [true] false sp__law_any))
    {sp__law_one : DSp} (G__law_one : Cal P w K mg base CX0 "_law_one" s__law_one 2 ["_law_sieve_here", "_law_some"] (lift K [true, false] false sp__law_one))
    {sp__law_is_integer : DSp} (G__law_is_integer : Cal P w K mg base CX0 "_law_is_integer" s__law_is_integer 1 ["_law_value"] (lift K [false] false sp__law_is_integer))
    {sp_is_pair : DSp} (G_is_pair : Cal P w K mg base CX0 "is_pair" s_is_pair 3 ["value"] (lift K [false] false sp_is_pair))
    {sp_is_name : DSp} (G_is_name : Cal P w K mg base CX0 "is_name" s_is_name 1 ["value"] (lift K [false] false sp_is_name))
    {sp_is_within : DSp} (G_is_within : Cal P w K mg base CX0 "is_within" s_is_within 2 ["value", "least", "most"] (lift K [false, false, false] false sp_is_within))
    {sp_is_integer : DSp} (G_is_integer : Cal P w K mg base CX0 "is_integer" s_is_integer 1 ["value"] (lift K [false] false sp_is_integer))
    {sp : DSp} (hd : ∀ ds Q E, sp ds Q E → rd_law sp__law_sieve sp__law_any sp__law_one sp__law_is_integer sp_is_pair sp_is_name sp_is_within sp_is_integer (dEnds [false] Q) (entryN 13 [false] ds)) : Cal P w K mg base CX0 "law" s_law 4 ["_law_script"] (lift K [false] false sp) := by
  refine ⟨f, fd, Fun.okG U sc_law (fun vs H Q E h => lift_len h) (fun cdv A outer s H vs Q E hr hgd h => ?body), U, U.binds (ps := ["_law_script"]) fun _ _ _ _ _ _ us hl => match us, hl with | [_], _ => rfl, m⟩
  refine ⟨_, (pss_cons (ps_set (i := 1) sc_law.nd rfl (Or.inl rfl) (pe_cal G__law_sieve (hr.mono (by decide)) hgd (by rfl) pass0 (pa_cons (pv 0) pa_nil)))
    (pss_cons (ps_for PassesOwn.never rfl (pi_range1 (by rfl) T.n_range (pa_cons pe_int pa_nil)) (pg_name (i := 2) sc_law.nd rfl (by first | exact Or.inl rfl | exact Or.inr rfl))
    (pss_cons (ps_set (i := 3) sc_law.nd rfl (Or.inl rfl) (pe_cal G__law_any (hr.mono (by decide)) hgd (by rfl) pass0 (pa_cons (pv 1) pa_nil)))
    (pss_cons (ps_par (i := 4) (j := 5) (by rfl) sc_law.nd rfl rfl (by decide) rfl rfl (pa_cons (pe_cal G__law_one (hr.mono (by decide)) hgd (by rfl) pass0 (pa_cons (pv 1) (pa_cons (pe_lst (pa_cons pe_non (pa_cons pe_int (pa_cons pe_int (pa_cons (pe_un un_neg pe_int) (pa_cons (pe_op op_pow pe_int pe_int) pa_nil)))))) pa_nil))) (pa_cons (pe_cal G__law_one (hr.mono (by decide)) hgd (by rfl) pass0 (pa_cons (pv 1) (pa_cons (pe_lst (pa_cons pe_non (pa_cons pe_int (pa_cons pe_int (pa_cons (pe_op op_pow pe_int pe_int) (pa_cons (pe_op op_pow pe_int pe_int) pa_nil)))))) pa_nil))) pa_nil)) (by rfl))
    (pss_cons (ps_set (i := 6) sc_law.nd rfl (Or.inl rfl) (pe_cal G__law_is_integer (hr.mono (by decide)) hgd (by rfl) pass0 (pa_cons (pv 3) pa_nil)))
    (pss_cons (ps_set (i := 7) sc_law.nd rfl (Or.inl rfl) (pe_and (pv 6) (pe_and (pe_or (pe_cmpR op_isN (pv 4) pe_non (nomark _)) (pe_one (pe_cmpR op_ge (pv 3) (pv 4) (nomark _)))) (pe_one (pe_or (pe_cmpR op_isN (pv 5) pe_non (nomark _)) (pe_one (pe_cmpR op_le (pv 3) (pv 5) (nomark _))))))))
    (pss_cons (ps_set (i := 8) sc_law.nd rfl (Or.inl rfl) (pe_and (pe_callB (ck (K := K) rIsiA call_isiA) (by rfl) T.n_isinstance (by decide +kernel) (pa_cons (pv 3) (pa_cons (pe_bltn (v := .ty "str") (by rfl) T.n_str (by decide +kernel) rfl) pa_nil))) (pe_and (pe_chain op_lt op_lt pe_int (pe_callB (ck (K := K) rLen call_len) (by rfl) T.n_len (by decide +kernel) (pa_cons (pv 3) pa_nil)) pe_int) (pe_one (pe_cmpR (opk (K := K) rEqA (op_eqA hr.units)) (pe_lc (own := [("_law_sign", 11)]) (by rfl) sc_law.nd (pi_any (pv 3)) (blkOk_by (own := [("_law_sign", 11)]) (N := N_law) (sc := defScope s_law) (by decide +kernel)) (fun _ _ _ _ _ => (pg_name (i := 11) sc_law.nd rfl (by first | exact Or.inl rfl | exact Or.inr rfl))) (fun _ _ _ _ _ => (pts_one (PW.pt (pw_and (pt_cmpR (opk (K := K) rNeA (op_neA hr.units)) (pv 11) pe_str (nomark _)) (pw_and1 (pt_cmpR (opk (K := K) rNeA (op_neA hr.units)) (pv 11) pe_str (nomark _))))))) (fun _ _ _ _ _ => (pv 11))) (pe_lst pa_nil) (nomark _))))))
    (pss_cons (ps_set (i := 9) sc_law.nd rfl (Or.inl rfl) (pe_and (pe_callB (ck (K := K) rIsiA call_isiA) (by rfl) T.n_isinstance (by decide +kernel) (pa_cons (pv 3) (pa_cons (pe_tup (pa_cons (pe_bltn (v := .ty "list") (by rfl) T.n_list (by decide +kernel) rfl) (pa_cons (pe_bltn (v := .ty "tuple") (by rfl) T.n_tuple (by decide +kernel) rfl) pa_nil))) pa_nil))) (pe_and (pe_cmpR (opk (K := K) rEqA (op_eqA hr.units)) (pe_callB (ck (K := K) rLen call_len) (by rfl) T.n_len (by decide +kernel) (pa_cons (pv 3) pa_nil)) pe_int (nomark _)) (pe_one (pe_cmpR (opk (K := K) rEqA (op_eqA hr.units)) (pe_lc (own := [("_law_each", 12)]) (by rfl) sc_law.nd (pi_any (pv 3)) (blkOk_by (own := [("_law_each", 12)]) (N := N_law) (sc := defScope s_law) (by decide +kernel)) (fun _ _ _ _ _ => (pg_name (i := 12) sc_law.nd rfl (by first | exact Or.inl rfl | exact Or.inr rfl))) (fun _ _ _ _ _ => (pts_one (PW.pt (pw_or (pt_not (ptk (K := K) (tTru · _) (pt_truth (pe_cal G__law_is_integer (hr.mono (by decide)) hgd (by rfl) pass0 (pa_cons (pv 12) pa_nil)) (by intro _; rfl)))) (pw_or (pt_cmpR op_lt (pv 12) pe_int (nomark _)) (pw_or1 (pt_cmpR op_gt (pv 12) (pe_op op_pow pe_int pe_int) (nomark _)))))))) (fun _ _ _ _ _ => (pv 12))) (pe_lst pa_nil) (nomark _))))))
    (pss_cons (ps_set (i := 10) sc_law.nd rfl (Or.inl rfl) (pe_lst (pa_cons (pe_cal G_is_integer (hr.mono (by decide)) hgd (by rfl) pass0 (pa_cons (pv 3) pa_nil)) (pa_cons (pe_cal G_is_within (hr.mono (by decide)) hgd (by rfl) pass0 (pa_cons (pv 3) (pa_cons (pv 4) (pa_cons (pv 5) pa_nil)))) (pa_cons (pe_cal G_is_name (hr.mono (by decide)) hgd (by rfl) pass0 (pa_cons (pv 3) pa_nil)) (pa_cons (pe_cal G_is_pair (hr.mono (by decide)) hgd (by rfl) pass0 (pa_cons (pv 3) pa_nil)) pa_nil))))))
    (pss_cons (ps_if (pt_cmpR (opk (K := K) rNeA (op_neA hr.units)) (pe_callB (ck (K := K) rRepr (call_repr hr.units hgd)) (by rfl) T.n_repr (by decide +kernel) (pa_cons (pv 10) pa_nil)) (pe_callB (ck (K := K) rRepr (call_repr hr.units hgd)) (by rfl) T.n_repr (by decide +kernel) (pa_cons (pe_lst (pa_cons (pv 6) (pa_cons (pv 7) (pa_cons (pv 8) (pa_cons (pv 9) pa_nil))))) pa_nil)) (nomark _)) (pss_one (ps_ret pe_bl)) pss_nil)
    (pss_one (ps_if (pt_cmpR (opk (K := K) rNeA (op_neA hr.units)) (pe_lst (pa_cons (pe_calN0 G_is_integer (hr.mono (by decide)) hgd (by rfl) (fun _ _ U => kb_is_integer_0_0 U) pass0 (pk_cons (pv 3) pk_nil)) (pa_cons (pe_calN0 G_is_within (hr.mono (by decide)) hgd (by rfl) (fun _ _ U => kb_is_within_0_2_1_0 U) pass0 (pk_cons (pv 5) (pk_cons (pv 4) (pk_cons (pv 3) pk_nil)))) (pa_cons (pe_calN0 G_is_name (hr.mono (by decide)) hgd (by rfl) (fun _ _ U => kb_is_name_0_0 U) pass0 (pk_cons (pv 3) pk_nil)) (pa_cons (pe_calN0 G_is_pair (hr.mono (by decide)) hgd (by rfl) (fun _ _ U => kb_is_pair_0_0 U) pass0 (pk_cons (pv 3) pk_nil)) pa_nil))))) (pv 10) (nomark _)) (pss_one (ps_ret pe_bl)) pss_nil)))))))))))
    (pss_one (ps_ret pe_bl)))), ?_⟩
  exact body_ok (N := N_law) (td := rd_law sp__law_sieve sp__law_any sp__law_one sp__law_is_integer sp_is_pair sp_is_name sp_is_within sp_is_integer) (by decide) h (rs_seq (rs_asgN 1 (rn_call (rk_pu (re_esc (rv_var 0)) rk_nil)))
    (rs_seq (rs_for (ri_range1 (rh_cons (rv_int 8) rh_nil)) (rg_name 2)
    (rs_seq (rs_asg (re_call (rk_io 1 rk_nil)) (rg_name 3))
    (rs_seq (rs_par 4 5 (rm_pu (re_call (rk_io 1 (rk_pu (re_rn (rn_lst (ra_cons (re_esc rv_non) (ra_cons (re_esc (rv_int 0)) (ra_cons (re_esc (rv_int 5)) (ra_cons (re_esc (rv_un ru_neg (rv_int 3))) (ra_cons (re_esc (rv_op ro_pow (rv_int 10) (rv_int 6))) ra_nil))))))) rk_nil))) (rm_pu (re_call (rk_io 1 (rk_pu (re_rn (rn_lst (ra_cons (re_esc rv_non) (ra_cons (re_esc (rv_int 0)) (ra_cons (re_esc (rv_int 5)) (ra_cons (re_esc (rv_op ro_pow (rv_int 10) (rv_int 6))) (ra_cons (re_esc (rv_op ro_pow (rv_int 10) (rv_int 7))) ra_nil))))))) rk_nil))) rm_nil)))
    (rs_seq (rs_asg (re_call (rk_pu (re_esc (rv_var 3)) rk_nil)) (rg_name 6))
    (rs_seq (rs_asg (re_esc (rv_andV (rv_var 6) (rv_andV (rv_orV (rv_op ro_isN (rv_var 4) rv_non) (rv_op ro_ge (rv_var 3) (rv_var 4))) (rv_orV (rv_op ro_isN (rv_var 5) rv_non) (rv_op ro_le (rv_var 3) (rv_var 5)))))) (rg_name 7))
    (rs_seq (rs_asg (re_esc (rv_andV (rv_cb rc_isi (rh_cons (rv_var 3) (rh_cons (rv_c fun _ => Rep.ty "str") rh_nil))) (rv_andV (rv_chain ro_lt ro_lt (rv_int 0) (rv_cb rc_len (rh_cons (rv_var 3) rh_nil)) (rv_int 61)) (rv_op ro_eqA (rv_rn (rn_lc (ri_nameA 3) (rg_name 11) (rt_and (rt_test (rv_op ro_neA (rv_var 11) (rv_str "0"))) (rt_test (rv_op ro_neA (rv_var 11) (rv_str "1")))) (re_esc (rv_var 11)) (by decide))) (rv_rn (rn_lst ra_nil)))))) (rg_name 8))
    (rs_seq (rs_asg (re_esc (rv_andV (rv_cb rc_isi (rh_cons (rv_var 3) (rh_cons (rv_re (re_tup (ra_cons (re_esc (rv_c fun _ => Rep.ty "list")) (ra_cons (re_esc (rv_c fun _ => Rep.ty "tuple")) ra_nil)))) rh_nil))) (rv_andV (rv_op ro_eqA (rv_cb rc_len (rh_cons (rv_var 3) rh_nil)) (rv_int 2)) (rv_op ro_eqA (rv_rn (rn_lc (ri_nameA 3) (rg_name 12) (rt_or (rt_not (rt_tru (rv_re (re_call (rk_pu (re_esc (rv_var 12)) rk_nil))))) (rt_or (rt_test (rv_op ro_lt (rv_var 12) (rv_int 1))) (rt_test (rv_op ro_gt (rv_var 12) (rv_op ro_pow (rv_int 10) (rv_int 6)))))) (re_esc (rv_var 12)) (by decide))) (rv_rn (rn_lst ra_nil)))))) (rg_name 9))
    (rs_seq (rs_asg (re_rn (rn_lst (ra_cons (re_call (rk_pu (re_esc (rv_var 3)) rk_nil)) (ra_cons (re_call (rk_pu (re_esc (rv_var 3)) (rk_pu (re_esc (rv_var 4)) (rk_pu (re_esc (rv_var 5)) rk_nil)))) (ra_cons (re_call (rk_pu (re_esc (rv_var 3)) rk_nil)) (ra_cons (re_call (rk_pu (re_esc (rv_var 3)) rk_nil)) ra_nil)))))) (rg_name 10))
    (rs_seq (rs_if (rt_test (rv_op ro_neA (rv_cb rc_repr (rh_cons (rv_var 10) rh_nil)) (rv_cb rc_repr (rh_cons (rv_rn (rn_lst (ra_cons (re_esc (rv_var 6)) (ra_cons (re_esc (rv_var 7)) (ra_cons (re_esc (rv_var 8)) (ra_cons (re_esc (rv_var 9)) ra_nil)))))) rh_nil)))) (rs_ret (re_esc (rv_bl false))) rs_next)
    (rs_if (rt_test (rv_op ro_neA (rv_rn (rn_lst (ra_cons (re_callN (rk_perm rk_nil (rk_pu (re_esc (rv_var 3)) rk_nil) (kp_ar [0]))) (ra_cons (re_callN (rk_perm rk_nil (rk_pu (re_esc (rv_var 5)) (rk_pu (re_esc (rv_var 4)) (rk_pu (re_esc (rv_var 3)) rk_nil))) (kp_ar [2, 1, 0]))) (ra_cons (re_callN (rk_perm rk_nil (rk_pu (re_esc (rv_var 3)) rk_nil) (kp_ar [0]))) (ra_cons (re_callN (rk_perm rk_nil (rk_pu (re_esc (rv_var 3)) rk_nil) (kp_ar [0]))) ra_nil)))))) (rv_var 10))) (rs_ret (re_esc (rv_bl false))) rs_next))))))))))
    (rs_ret (re_esc (rv_bl true))))) hd

end G

set_option Elab.async false
set_option linter.all false
set_option maxRecDepth 100000
set_option maxHeartbeats 2000000
set_option exponentiation.threshold 4000
namespace G
open PySem PySem.Spec PyProof.Rows L2 Z
/-! ## the drawing of numbers -/
def Bell (N : Nat) (d : D) : Prop := ∃ (cs : List Int) (a r : Int), d = .lst [.lst (cs.map D.int), .int a, .int r] ∧ cs.length ≤ 63 ∧ 0 ≤ a ∧ a ≤ (N : Int) ∧ 0 ≤ r
def sp__law_sieve : DSp := fun ds Q _ => ∃ ns : List Int, ds = [.frl (ns.map D.int)] ∧ ns.length ≤ 63 ∧ ∀ d, Bell 0 d → Q d []
def sp__law_sift : DSp := fun ds Q _ => ∃ (b : D) (N : Nat) (m : Int), ds = [b, .int m] ∧ Bell N b ∧ N ≤ 100000 ∧ 0 < m ∧ m.natAbs.log2 < 9000 ∧ ∀ (k : Int) b', 0 ≤ k → k < m → Bell (N + 1) b' → Q (.int k) [b']
theorem hd__law_sift : ∀ ds Q (E : D → List D → Prop), sp__law_sift ds Q E → rd__law_sift (dEnds [true, false] Q) (entryN 6 [true, false] ds) := by
  rintro ds Q E ⟨b, N, m, rfl, ⟨cs, a, r, rfl, hc, ha, haN, hr⟩, hN, hm, hm2, q⟩
  unfold rd__law_sift
  dsimp only [dVar_ap, dC_ap, dEsc_ap, dPure_ap, dOp_ap, dUn_ap, dNil_ap, dCons_ap, hNil_ap, hCons_ap, dCB_ap, dTup_ap, dLst_ap, dTest_ap, dTru_ap, dAnd_ap, dOr_ap, dNot_ap, dAndV_ap, dOrV_ap, dNotV_ap, dIf_ap, mNil_ap, mPu_ap, mOw_ap, gdName_ap, gdNil_ap, gdCons_ap, gdSeq_ap, dNext_ap, dBreak_ap, dCont_ap, dNever_ap, dDrop_ap, dRet_ap, dRetN_ap, dRetV_ap, dIfS_ap, dAsg_ap, dAsgN_ap, dPar_ap, dPar3_ap, dParT_ap, dIt_ap, dItAny_ap, dItA_ap, dRng1_ap, dRng2_ap, dEnum_ap, dZip_ap, dFor_ap, dWhile_ap, dLc_ap, dRepN_ap, dCatN_ap, dNoPart_ap, dPart_ap, dSl_ap, dSlN_ap, dChain_ap, dListOf_ap, dSortI_ap, dApp_ap, dExt_ap, dSetI_ap, dPop_ap, dPopAt_ap, kNil_ap, kPu_ap, kIo_ap, dCall_ap, kApp_ap, kPerm_ap, dYes_ap, dZipM_ap, dEq, dNe, dEqA, dNeA, dAdd, dI, dI0, dMul, dIx, dIsN, dNotN, dIn, dLen, dInt1, dAbs, dMM, dSum, dMaxL, dMinL, dAll, dTupOf, dIsi, dStrI, dNeg, dSub, dDiv, dMod, dPow, dShl, dShr, dBand, dLt, dLe, dGt, dGe, dCallG, entryN, entry, slotsOf, putOuts, putL, Sl.put, ownL, resolve, look, slD, looks, Sl.ownd, forW, compW, wipeP, backP, D.bls, D.ints, kp, perm, List.filterMap_cons, List.filterMap_nil, List.getElem?_cons_zero, List.getElem?_cons_succ, List.getElem?_nil, List.set_cons_zero, List.set_cons_succ, List.length_cons, List.length_nil, List.replicate_succ, List.replicate_zero, List.append_nil, List.nil_append, List.cons_append, List.map_cons, List.map_nil, Option.bind_some, Option.map_some, Option.isSome_some, Nat.reduceAdd, Nat.reduceSub, Nat.zero_add, Option.bind, Option.map]
  have hdm : CDivW r m := ⟨hm, hm2⟩
  by_cases h1 : 0 < r
  · (try dsimp only); rw [dSeq_ap]; simp (maxSteps := 2000000) only [dVar_ap, dC_ap, dEsc_ap, dPure_ap, dOp_ap, dUn_ap, dNil_ap, dCons_ap, hNil_ap, hCons_ap, dCB_ap, dTup_ap, dLst_ap, dTest_ap, dTru_ap, dAnd_ap, dOr_ap, dNot_ap, dAndV_ap, dOrV_ap, dNotV_ap, dIf_ap, mNil_ap, mPu_ap, mOw_ap, gdName_ap, gdNil_ap, gdCons_ap, gdSeq_ap, dNext_ap, dBreak_ap, dCont_ap, dNever_ap, dDrop_ap, dRet_ap, dRetN_ap, dRetV_ap, dIfS_ap, dAsg_ap, dAsgN_ap, dPar_ap, dPar3_ap, dParT_ap, dIt_ap, dItAny_ap, dItA_ap, dRng1_ap, dRng2_ap, dEnum_ap, dZip_ap, dFor_ap, dWhile_ap, dLc_ap, dRepN_ap, dCatN_ap, dNoPart_ap, dPart_ap, dSl_ap, dSlN_ap, dChain_ap, dListOf_ap, dSortI_ap, dApp_ap, dExt_ap, dSetI_ap, dPop_ap, dPopAt_ap, kNil_ap, kPu_ap, kIo_ap, dCall_ap, kApp_ap, kPerm_ap, dYes_ap, dZipM_ap, dEq, dNe, dEqA, dNeA, dAdd, dI, dI0, dMul, dIx, dIsN, dNotN, dIn, dLen, dInt1, dAbs, dMM, dSum, dMaxL, dMinL, dAll, dTupOf, dIsi, dStrI, dNeg, dSub, dDiv, dMod, dPow, dShl, dShr, dBand, dLt, dLe, dGt, dGe, dCallG, entryN, entry, slotsOf, putOuts, putL, Sl.put, ownL, resolve, look, slD, looks, Sl.ownd, forW, compW, wipeP, backP, D.bls, D.ints, kp, perm, List.filterMap_cons, List.filterMap_nil, List.getElem?_cons_zero, List.getElem?_cons_succ, List.getElem?_nil, List.set_cons_zero, List.set_cons_succ, List.length_cons, List.length_nil, List.replicate_succ, List.replicate_zero, List.append_nil, List.nil_append, List.cons_append, List.map_cons, List.map_nil, Option.bind_some, Option.map_some, Option.isSome_some, Nat.reduceAdd, Nat.reduceSub, Nat.zero_add, Option.bind, Option.map, ↓reduceIte, decide_eq_true_eq, decide_true, decide_false, Bool.false_eq_true, Bool.true_eq_false, Bool.not_true, Bool.not_false, Bool.not_eq_true, Bool.not_eq_false, reduceCtorEq, true_and, and_true, okEq_int, okEq_bl, okEq_non, okEq_ints, okEq_nil, eqv_int, eqv_bl, eqv_nil, List.map_eq_nil_iff, truD, D.isNon, tyName, tyB, tyKnown, isTy, tyBD, List.all_cons, List.all_nil, List.any_cons, List.any_nil, List.contains_cons, List.contains_nil, String.reduceBEq, Bool.true_or, Bool.or_true, Bool.false_or, Bool.or_false, Bool.true_and, Bool.and_true, Bool.false_and, Bool.and_false, cast_0, cast_1, cast_2, cast_3, two_le_size, zero_lt_size, one_lt_size, nodup_nilN, nodup_1, zero_le_size, atI_0, atI_1, atI_2, ixN_30, ixN_31, ixN_32, Option.some.injEq, List.cons.injEq, true_or, or_true, false_or, or_false, h1]
    (try dsimp only); rw [dSeq_ap]; simp (maxSteps := 2000000) only [dVar_ap, dC_ap, dEsc_ap, dPure_ap, dOp_ap, dUn_ap, dNil_ap, dCons_ap, hNil_ap, hCons_ap, dCB_ap, dTup_ap, dLst_ap, dTest_ap, dTru_ap, dAnd_ap, dOr_ap, dNot_ap, dAndV_ap, dOrV_ap, dNotV_ap, dIf_ap, mNil_ap, mPu_ap, mOw_ap, gdName_ap, gdNil_ap, gdCons_ap, gdSeq_ap, dNext_ap, dBreak_ap, dCont_ap, dNever_ap, dDrop_ap, dRet_ap, dRetN_ap, dRetV_ap, dIfS_ap, dAsg_ap, dAsgN_ap, dPar_ap, dPar3_ap, dParT_ap, dIt_ap, dItAny_ap, dItA_ap, dRng1_ap, dRng2_ap, dEnum_ap, dZip_ap, dFor_ap, dWhile_ap, dLc_ap, dRepN_ap, dCatN_ap, dNoPart_ap, dPart_ap, dSl_ap, dSlN_ap, dChain_ap, dListOf_ap, dSortI_ap, dApp_ap, dExt_ap, dSetI_ap, dPop_ap, dPopAt_ap, kNil_ap, kPu_ap, kIo_ap, dCall_ap, kApp_ap, kPerm_ap, dYes_ap, dZipM_ap, dEq, dNe, dEqA, dNeA, dAdd, dI, dI0, dMul, dIx, dIsN, dNotN, dIn, dLen, dInt1, dAbs, dMM, dSum, dMaxL, dMinL, dAll, dTupOf, dIsi, dStrI, dNeg, dSub, dDiv, dMod, dPow, dShl, dShr, dBand, dLt, dLe, dGt, dGe, dCallG, entryN, entry, slotsOf, putOuts, putL, Sl.put, ownL, resolve, look, slD, looks, Sl.ownd, forW, compW, wipeP, backP, D.bls, D.ints, kp, perm, List.filterMap_cons, List.filterMap_nil, List.getElem?_cons_zero, List.getElem?_cons_succ, List.getElem?_nil, List.set_cons_zero, List.set_cons_succ, List.length_cons, List.length_nil, List.replicate_succ, List.replicate_zero, List.append_nil, List.nil_append, List.cons_append, List.map_cons, List.map_nil, Option.bind_some, Option.map_some, Option.isSome_some, Nat.reduceAdd, Nat.reduceSub, Nat.zero_add, Option.bind, Option.map, ↓reduceIte, decide_eq_true_eq, decide_true, decide_false, Bool.false_eq_true, Bool.true_eq_false, Bool.not_true, Bool.not_false, Bool.not_eq_true, Bool.not_eq_false, reduceCtorEq, true_and, and_true, okEq_int, okEq_bl, okEq_non, okEq_ints, okEq_nil, eqv_int, eqv_bl, eqv_nil, List.map_eq_nil_iff, truD, D.isNon, tyName, tyB, tyKnown, isTy, tyBD, List.all_cons, List.all_nil, List.any_cons, List.any_nil, List.contains_cons, List.contains_nil, String.reduceBEq, Bool.true_or, Bool.or_true, Bool.false_or, Bool.or_false, Bool.true_and, Bool.and_true, Bool.false_and, Bool.and_false, cast_0, cast_1, cast_2, cast_3, two_le_size, zero_lt_size, one_lt_size, nodup_nilN, nodup_1, zero_le_size, atI_0, atI_1, atI_2, ixN_30, ixN_31, ixN_32, Option.some.injEq, List.cons.injEq, true_or, or_true, false_or, or_false, h1]
    (try dsimp only); rw [dSeq_ap]; simp (maxSteps := 2000000) only [dVar_ap, dC_ap, dEsc_ap, dPure_ap, dOp_ap, dUn_ap, dNil_ap, dCons_ap, hNil_ap, hCons_ap, dCB_ap, dTup_ap, dLst_ap, dTest_ap, dTru_ap, dAnd_ap, dOr_ap, dNot_ap, dAndV_ap, dOrV_ap, dNotV_ap, dIf_ap, mNil_ap, mPu_ap, mOw_ap, gdName_ap, gdNil_ap, gdCons_ap, gdSeq_ap, dNext_ap, dBreak_ap, dCont_ap, dNever_ap, dDrop_ap, dRet_ap, dRetN_ap, dRetV_ap, dIfS_ap, dAsg_ap, dAsgN_ap, dPar_ap, dPar3_ap, dParT_ap, dIt_ap, dItAny_ap, dItA_ap, dRng1_ap, dRng2_ap, dEnum_ap, dZip_ap, dFor_ap, dWhile_ap, dLc_ap, dRepN_ap, dCatN_ap, dNoPart_ap, dPart_ap, dSl_ap, dSlN_ap, dChain_ap, dListOf_ap, dSortI_ap, dApp_ap, dExt_ap, dSetI_ap, dPop_ap, dPopAt_ap, kNil_ap, kPu_ap, kIo_ap, dCall_ap, kApp_ap, kPerm_ap, dYes_ap, dZipM_ap, dEq, dNe, dEqA, dNeA, dAdd, dI, dI0, dMul, dIx, dIsN, dNotN, dIn, dLen, dInt1, dAbs, dMM, dSum, dMaxL, dMinL, dAll, dTupOf, dIsi, dStrI, dNeg, dSub, dDiv, dMod, dPow, dShl, dShr, dBand, dLt, dLe, dGt, dGe, dCallG, entryN, entry, slotsOf, putOuts, putL, Sl.put, ownL, resolve, look, slD, looks, Sl.ownd, forW, compW, wipeP, backP, D.bls, D.ints, kp, perm, List.filterMap_cons, List.filterMap_nil, List.getElem?_cons_zero, List.getElem?_cons_succ, List.getElem?_nil, List.set_cons_zero, List.set_cons_succ, List.length_cons, List.length_nil, List.replicate_succ, List.replicate_zero, List.append_nil, List.nil_append, List.cons_append, List.map_cons, List.map_nil, Option.bind_some, Option.map_some, Option.isSome_some, Nat.reduceAdd, Nat.reduceSub, Nat.zero_add, Option.bind, Option.map, ↓reduceIte, decide_eq_true_eq, decide_true, decide_false, Bool.false_eq_true, Bool.true_eq_false, Bool.not_true, Bool.not_false, Bool.not_eq_true, Bool.not_eq_false, reduceCtorEq, true_and, and_true, okEq_int, okEq_bl, okEq_non, okEq_ints, okEq_nil, eqv_int, eqv_bl, eqv_nil, List.map_eq_nil_iff, truD, D.isNon, tyName, tyB, tyKnown, isTy, tyBD, List.all_cons, List.all_nil, List.any_cons, List.any_nil, List.contains_cons, List.contains_nil, String.reduceBEq, Bool.true_or, Bool.or_true, Bool.false_or, Bool.or_false, Bool.true_and, Bool.and_true, Bool.false_and, Bool.and_false, cast_0, cast_1, cast_2, cast_3, two_le_size, zero_lt_size, one_lt_size, nodup_nilN, nodup_1, zero_le_size, atI_0, atI_1, atI_2, ixN_30, ixN_31, ixN_32, Option.some.injEq, List.cons.injEq, true_or, or_true, false_or, or_false, hdm]
    simp (maxSteps := 2000000) only [dVar_ap, dC_ap, dEsc_ap, dPure_ap, dOp_ap, dUn_ap, dNil_ap, dCons_ap, hNil_ap, hCons_ap, dCB_ap, dTup_ap, dLst_ap, dTest_ap, dTru_ap, dAnd_ap, dOr_ap, dNot_ap, dAndV_ap, dOrV_ap, dNotV_ap, dIf_ap, mNil_ap, mPu_ap, mOw_ap, gdName_ap, gdNil_ap, gdCons_ap, gdSeq_ap, dNext_ap, dBreak_ap, dCont_ap, dNever_ap, dDrop_ap, dRet_ap, dRetN_ap, dRetV_ap, dIfS_ap, dAsg_ap, dAsgN_ap, dPar_ap, dPar3_ap, dParT_ap, dIt_ap, dItAny_ap, dItA_ap, dRng1_ap, dRng2_ap, dEnum_ap, dZip_ap, dFor_ap, dWhile_ap, dLc_ap, dRepN_ap, dCatN_ap, dNoPart_ap, dPart_ap, dSl_ap, dSlN_ap, dChain_ap, dListOf_ap, dSortI_ap, dApp_ap, dExt_ap, dSetI_ap, dPop_ap, dPopAt_ap, kNil_ap, kPu_ap, kIo_ap, dCall_ap, kApp_ap, kPerm_ap, dYes_ap, dZipM_ap, dEq, dNe, dEqA, dNeA, dAdd, dI, dI0, dMul, dIx, dIsN, dNotN, dIn, dLen, dInt1, dAbs, dMM, dSum, dMaxL, dMinL, dAll, dTupOf, dIsi, dStrI, dNeg, dSub, dDiv, dMod, dPow, dShl, dShr, dBand, dLt, dLe, dGt, dGe, dCallG, entryN, entry, slotsOf, putOuts, putL, Sl.put, ownL, resolve, look, slD, looks, Sl.ownd, forW, compW, wipeP, backP, D.bls, D.ints, kp, perm, List.filterMap_cons, List.filterMap_nil, List.getElem?_cons_zero, List.getElem?_cons_succ, List.getElem?_nil, List.set_cons_zero, List.set_cons_succ, List.length_cons, List.length_nil, List.replicate_succ, List.replicate_zero, List.append_nil, List.nil_append, List.cons_append, List.map_cons, List.map_nil, Option.bind_some, Option.map_some, Option.isSome_some, Nat.reduceAdd, Nat.reduceSub, Nat.zero_add, Option.bind, Option.map, ↓reduceIte, decide_eq_true_eq, decide_true, decide_false, Bool.false_eq_true, Bool.true_eq_false, Bool.not_true, Bool.not_false, Bool.not_eq_true, Bool.not_eq_false, reduceCtorEq, true_and, and_true, okEq_int, okEq_bl, okEq_non, okEq_ints, okEq_nil, eqv_int, eqv_bl, eqv_nil, List.map_eq_nil_iff, truD, D.isNon, tyName, tyB, tyKnown, isTy, tyBD, List.all_cons, List.all_nil, List.any_cons, List.any_nil, List.contains_cons, List.contains_nil, String.reduceBEq, Bool.true_or, Bool.or_true, Bool.false_or, Bool.or_false, Bool.true_and, Bool.and_true, Bool.false_and, Bool.and_false, cast_0, cast_1, cast_2, cast_3, two_le_size, zero_lt_size, one_lt_size, nodup_nilN, nodup_1, zero_le_size, atI_0, atI_1, atI_2, ixN_30, ixN_31, ixN_32, Option.some.injEq, List.cons.injEq, true_or, or_true, false_or, or_false, hm]
    exact ends_rt rfl (q _ _ (Int.emod_nonneg _ (by omega)) (Int.emod_lt_of_pos _ hm) ⟨cs, a, r / m, rfl, hc, ha, by omega, Int.ediv_nonneg hr (by omega)⟩)
  have hma : ∀ i : Int, CMulA i a := fun i => cmul_r i (by omega) (by omega)
  have h18 : CPow 10 18 := cpow_of (h3 := by decide)
  have e18 : (10 : Int) ^ 18 = 1000000000000000000 := by decide
  have hd32 : ∀ i, CDivW i 64 := cdiv_lit
  (try dsimp only); rw [dSeq_ap]; simp (maxSteps := 2000000) only [dVar_ap, dC_ap, dEsc_ap, dPure_ap, dOp_ap, dUn_ap, dNil_ap, dCons_ap, hNil_ap, hCons_ap, dCB_ap, dTup_ap, dLst_ap, dTest_ap, dTru_ap, dAnd_ap, dOr_ap, dNot_ap, dAndV_ap, dOrV_ap, dNotV_ap, dIf_ap, mNil_ap, mPu_ap, mOw_ap, gdName_ap, gdNil_ap, gdCons_ap, gdSeq_ap, dNext_ap, dBreak_ap, dCont_ap, dNever_ap, dDrop_ap, dRet_ap, dRetN_ap, dRetV_ap, dIfS_ap, dAsg_ap, dAsgN_ap, dPar_ap, dPar3_ap, dParT_ap, dIt_ap, dItAny_ap, dItA_ap, dRng1_ap, dRng2_ap, dEnum_ap, dZip_ap, dFor_ap, dWhile_ap, dLc_ap, dRepN_ap, dCatN_ap, dNoPart_ap, dPart_ap, dSl_ap, dSlN_ap, dChain_ap, dListOf_ap, dSortI_ap, dApp_ap, dExt_ap, dSetI_ap, dPop_ap, dPopAt_ap, kNil_ap, kPu_ap, kIo_ap, dCall_ap, kApp_ap, kPerm_ap, dYes_ap, dZipM_ap, dEq, dNe, dEqA, dNeA, dAdd, dI, dI0, dMul, dIx, dIsN, dNotN, dIn, dLen, dInt1, dAbs, dMM, dSum, dMaxL, dMinL, dAll, dTupOf, dIsi, dStrI, dNeg, dSub, dDiv, dMod, dPow, dShl, dShr, dBand, dLt, dLe, dGt, dGe, dCallG, entryN, entry, slotsOf, putOuts, putL, Sl.put, ownL, resolve, look, slD, looks, Sl.ownd, forW, compW, wipeP, backP, D.bls, D.ints, kp, perm, List.filterMap_cons, List.filterMap_nil, List.getElem?_cons_zero, List.getElem?_cons_succ, List.getElem?_nil, List.set_cons_zero, List.set_cons_succ, List.length_cons, List.length_nil, List.replicate_succ, List.replicate_zero, List.append_nil, List.nil_append, List.cons_append, List.map_cons, List.map_nil, Option.bind_some, Option.map_some, Option.isSome_some, Nat.reduceAdd, Nat.reduceSub, Nat.zero_add, Option.bind, Option.map, ↓reduceIte, decide_eq_true_eq, decide_true, decide_false, Bool.false_eq_true, Bool.true_eq_false, Bool.not_true, Bool.not_false, Bool.not_eq_true, Bool.not_eq_false, reduceCtorEq, true_and, and_true, okEq_int, okEq_bl, okEq_non, okEq_ints, okEq_nil, eqv_int, eqv_bl, eqv_nil, List.map_eq_nil_iff, truD, D.isNon, tyName, tyB, tyKnown, isTy, tyBD, List.all_cons, List.all_nil, List.any_cons, List.any_nil, List.contains_cons, List.contains_nil, String.reduceBEq, Bool.true_or, Bool.or_true, Bool.false_or, Bool.or_false, Bool.true_and, Bool.and_true, Bool.false_and, Bool.and_false, cast_0, cast_1, cast_2, cast_3, two_le_size, zero_lt_size, one_lt_size, nodup_nilN, nodup_1, zero_le_size, atI_0, atI_1, atI_2, ixN_30, ixN_31, ixN_32, Option.some.injEq, List.cons.injEq, true_or, or_true, false_or, or_false, h1]
  (try dsimp only); rw [dSeq_ap]; simp (maxSteps := 2000000) only [dVar_ap, dC_ap, dEsc_ap, dPure_ap, dOp_ap, dUn_ap, dNil_ap, dCons_ap, hNil_ap, hCons_ap, dCB_ap, dTup_ap, dLst_ap, dTest_ap, dTru_ap, dAnd_ap, dOr_ap, dNot_ap, dAndV_ap, dOrV_ap, dNotV_ap, dIf_ap, mNil_ap, mPu_ap, mOw_ap, gdName_ap, gdNil_ap, gdCons_ap, gdSeq_ap, dNext_ap, dBreak_ap, dCont_ap, dNever_ap, dDrop_ap, dRet_ap, dRetN_ap, dRetV_ap, dIfS_ap, dAsg_ap, dAsgN_ap, dPar_ap, dPar3_ap, dParT_ap, dIt_ap, dItAny_ap, dItA_ap, dRng1_ap, dRng2_ap, dEnum_ap, dZip_ap, dFor_ap, dWhile_ap, dLc_ap, dRepN_ap, dCatN_ap, dNoPart_ap, dPart_ap, dSl_ap, dSlN_ap, dChain_ap, dListOf_ap, dSortI_ap, dApp_ap, dExt_ap, dSetI_ap, dPop_ap, dPopAt_ap, kNil_ap, kPu_ap, kIo_ap, dCall_ap, kApp_ap, kPerm_ap, dYes_ap, dZipM_ap, dEq, dNe, dEqA, dNeA, dAdd, dI, dI0, dMul, dIx, dIsN, dNotN, dIn, dLen, dInt1, dAbs, dMM, dSum, dMaxL, dMinL, dAll, dTupOf, dIsi, dStrI, dNeg, dSub, dDiv, dMod, dPow, dShl, dShr, dBand, dLt, dLe, dGt, dGe, dCallG, entryN, entry, slotsOf, putOuts, putL, Sl.put, ownL, resolve, look, slD, looks, Sl.ownd, forW, compW, wipeP, backP, D.bls, D.ints, kp, perm, List.filterMap_cons, List.filterMap_nil, List.getElem?_cons_zero, List.getElem?_cons_succ, List.getElem?_nil, List.set_cons_zero, List.set_cons_succ, List.length_cons, List.length_nil, List.replicate_succ, List.replicate_zero, List.append_nil, List.nil_append, List.cons_append, List.map_cons, List.map_nil, Option.bind_some, Option.map_some, Option.isSome_some, Nat.reduceAdd, Nat.reduceSub, Nat.zero_add, Option.bind, Option.map, ↓reduceIte, decide_eq_true_eq, decide_true, decide_false, Bool.false_eq_true, Bool.true_eq_false, Bool.not_true, Bool.not_false, Bool.not_eq_true, Bool.not_eq_false, reduceCtorEq, true_and, and_true, okEq_int, okEq_bl, okEq_non, okEq_ints, okEq_nil, eqv_int, eqv_bl, eqv_nil, List.map_eq_nil_iff, truD, D.isNon, tyName, tyB, tyKnown, isTy, tyBD, List.all_cons, List.all_nil, List.any_cons, List.any_nil, List.contains_cons, List.contains_nil, String.reduceBEq, Bool.true_or, Bool.or_true, Bool.false_or, Bool.or_false, Bool.true_and, Bool.and_true, Bool.false_and, Bool.and_false, cast_0, cast_1, cast_2, cast_3, two_le_size, zero_lt_size, one_lt_size, nodup_nilN, nodup_1, zero_le_size, atI_0, atI_1, atI_2, ixN_30, ixN_31, ixN_32, Option.some.injEq, List.cons.injEq, true_or, or_true, false_or, or_false, h1]
  (try dsimp only); rw [dSeq_ap]; simp (maxSteps := 2000000) only [dVar_ap, dC_ap, dEsc_ap, dPure_ap, dOp_ap, dUn_ap, dNil_ap, dCons_ap, hNil_ap, hCons_ap, dCB_ap, dTup_ap, dLst_ap, dTest_ap, dTru_ap, dAnd_ap, dOr_ap, dNot_ap, dAndV_ap, dOrV_ap, dNotV_ap, dIf_ap, mNil_ap, mPu_ap, mOw_ap, gdName_ap, gdNil_ap, gdCons_ap, gdSeq_ap, dNext_ap, dBreak_ap, dCont_ap, dNever_ap, dDrop_ap, dRet_ap, dRetN_ap, dRetV_ap, dIfS_ap, dAsg_ap, dAsgN_ap, dPar_ap, dPar3_ap, dParT_ap, dIt_ap, dItAny_ap, dItA_ap, dRng1_ap, dRng2_ap, dEnum_ap, dZip_ap, dFor_ap, dWhile_ap, dLc_ap, dRepN_ap, dCatN_ap, dNoPart_ap, dPart_ap, dSl_ap, dSlN_ap, dChain_ap, dListOf_ap, dSortI_ap, dApp_ap, dExt_ap, dSetI_ap, dPop_ap, dPopAt_ap, kNil_ap, kPu_ap, kIo_ap, dCall_ap, kApp_ap, kPerm_ap, dYes_ap, dZipM_ap, dEq, dNe, dEqA, dNeA, dAdd, dI, dI0, dMul, dIx, dIsN, dNotN, dIn, dLen, dInt1, dAbs, dMM, dSum, dMaxL, dMinL, dAll, dTupOf, dIsi, dStrI, dNeg, dSub, dDiv, dMod, dPow, dShl, dShr, dBand, dLt, dLe, dGt, dGe, dCallG, entryN, entry, slotsOf, putOuts, putL, Sl.put, ownL, resolve, look, slD, looks, Sl.ownd, forW, compW, wipeP, backP, D.bls, D.ints, kp, perm, List.filterMap_cons, List.filterMap_nil, List.getElem?_cons_zero, List.getElem?_cons_succ, List.getElem?_nil, List.set_cons_zero, List.set_cons_succ, List.length_cons, List.length_nil, List.replicate_succ, List.replicate_zero, List.append_nil, List.nil_append, List.cons_append, List.map_cons, List.map_nil, Option.bind_some, Option.map_some, Option.isSome_some, Nat.reduceAdd, Nat.reduceSub, Nat.zero_add, Option.bind, Option.map, ↓reduceIte, decide_eq_true_eq, decide_true, decide_false, Bool.false_eq_true, Bool.true_eq_false, Bool.not_true, Bool.not_false, Bool.not_eq_true, Bool.not_eq_false, reduceCtorEq, true_and, and_true, okEq_int, okEq_bl, okEq_non, okEq_ints, okEq_nil, eqv_int, eqv_bl, eqv_nil, List.map_eq_nil_iff, truD, D.isNon, tyName, tyB, tyKnown, isTy, tyBD, List.all_cons, List.all_nil, List.any_cons, List.any_nil, List.contains_cons, List.contains_nil, String.reduceBEq, Bool.true_or, Bool.or_true, Bool.false_or, Bool.or_false, Bool.true_and, Bool.and_true, Bool.false_and, Bool.and_false, cast_0, cast_1, cast_2, cast_3, two_le_size, zero_lt_size, one_lt_size, nodup_nilN, nodup_1, zero_le_size, atI_0, atI_1, atI_2, ixN_30, ixN_31, ixN_32, Option.some.injEq, List.cons.injEq, true_or, or_true, false_or, or_false, h1]
  (try dsimp only); rw [dSeq_ap]; simp (maxSteps := 2000000) only [dVar_ap, dC_ap, dEsc_ap, dPure_ap, dOp_ap, dUn_ap, dNil_ap, dCons_ap, hNil_ap, hCons_ap, dCB_ap, dTup_ap, dLst_ap, dTest_ap, dTru_ap, dAnd_ap, dOr_ap, dNot_ap, dAndV_ap, dOrV_ap, dNotV_ap, dIf_ap, mNil_ap, mPu_ap, mOw_ap, gdName_ap, gdNil_ap, gdCons_ap, gdSeq_ap, dNext_ap, dBreak_ap, dCont_ap, dNever_ap, dDrop_ap, dRet_ap, dRetN_ap, dRetV_ap, dIfS_ap, dAsg_ap, dAsgN_ap, dPar_ap, dPar3_ap, dParT_ap, dIt_ap, dItAny_ap, dItA_ap, dRng1_ap, dRng2_ap, dEnum_ap, dZip_ap, dFor_ap, dWhile_ap, dLc_ap, dRepN_ap, dCatN_ap, dNoPart_ap, dPart_ap, dSl_ap, dSlN_ap, dChain_ap, dListOf_ap, dSortI_ap, dApp_ap, dExt_ap, dSetI_ap, dPop_ap, dPopAt_ap, kNil_ap, kPu_ap, kIo_ap, dCall_ap, kApp_ap, kPerm_ap, dYes_ap, dZipM_ap, dEq, dNe, dEqA, dNeA, dAdd, dI, dI0, dMul, dIx, dIsN, dNotN, dIn, dLen, dInt1, dAbs, dMM, dSum, dMaxL, dMinL, dAll, dTupOf, dIsi, dStrI, dNeg, dSub, dDiv, dMod, dPow, dShl, dShr, dBand, dLt, dLe, dGt, dGe, dCallG, entryN, entry, slotsOf, putOuts, putL, Sl.put, ownL, resolve, look, slD, looks, Sl.ownd, forW, compW, wipeP, backP, D.bls, D.ints, kp, perm, List.filterMap_cons, List.filterMap_nil, List.getElem?_cons_zero, List.getElem?_cons_succ, List.getElem?_nil, List.set_cons_zero, List.set_cons_succ, List.length_cons, List.length_nil, List.replicate_succ, List.replicate_zero, List.append_nil, List.nil_append, List.cons_append, List.map_cons, List.map_nil, Option.bind_some, Option.map_some, Option.isSome_some, Nat.reduceAdd, Nat.reduceSub, Nat.zero_add, Option.bind, Option.map, ↓reduceIte, decide_eq_true_eq, decide_true, decide_false, Bool.false_eq_true, Bool.true_eq_false, Bool.not_true, Bool.not_false, Bool.not_eq_true, Bool.not_eq_false, reduceCtorEq, true_and, and_true, okEq_int, okEq_bl, okEq_non, okEq_ints, okEq_nil, eqv_int, eqv_bl, eqv_nil, List.map_eq_nil_iff, truD, D.isNon, tyName, tyB, tyKnown, isTy, tyBD, List.all_cons, List.all_nil, List.any_cons, List.any_nil, List.contains_cons, List.contains_nil, String.reduceBEq, Bool.true_or, Bool.or_true, Bool.false_or, Bool.or_false, Bool.true_and, Bool.and_true, Bool.false_and, Bool.and_false, cast_0, cast_1, cast_2, cast_3, two_le_size, zero_lt_size, one_lt_size, nodup_nilN, nodup_1, zero_le_size, atI_0, atI_1, atI_2, ixN_30, ixN_31, ixN_32, Option.some.injEq, List.cons.injEq, true_or, or_true, false_or, or_false, h1]
  refine ⟨hma _, ?_⟩
  have hB : ∀ r', 0 ≤ r' → Bell (N + 1) (.lst [.lst (cs.map D.int), .int (a + 1), .int r']) := fun r' h => ⟨cs, a + 1, r', rfl, hc, by omega, by omega, h⟩
  by_cases h2 : cs = []
  · subst h2
    (try dsimp only); rw [dSeq_ap]; simp (maxSteps := 2000000) only [dVar_ap, dC_ap, dEsc_ap, dPure_ap, dOp_ap, dUn_ap, dNil_ap, dCons_ap, hNil_ap, hCons_ap, dCB_ap, dTup_ap, dLst_ap, dTest_ap, dTru_ap, dAnd_ap, dOr_ap, dNot_ap, dAndV_ap, dOrV_ap, dNotV_ap, dIf_ap, mNil_ap, mPu_ap, mOw_ap, gdName_ap, gdNil_ap, gdCons_ap, gdSeq_ap, dNext_ap, dBreak_ap, dCont_ap, dNever_ap, dDrop_ap, dRet_ap, dRetN_ap, dRetV_ap, dIfS_ap, dAsg_ap, dAsgN_ap, dPar_ap, dPar3_ap, dParT_ap, dIt_ap, dItAny_ap, dItA_ap, dRng1_ap, dRng2_ap, dEnum_ap, dZip_ap, dFor_ap, dWhile_ap, dLc_ap, dRepN_ap, dCatN_ap, dNoPart_ap, dPart_ap, dSl_ap, dSlN_ap, dChain_ap, dListOf_ap, dSortI_ap, dApp_ap, dExt_ap, dSetI_ap, dPop_ap, dPopAt_ap, kNil_ap, kPu_ap, kIo_ap, dCall_ap, kApp_ap, kPerm_ap, dYes_ap, dZipM_ap, dEq, dNe, dEqA, dNeA, dAdd, dI, dI0, dMul, dIx, dIsN, dNotN, dIn, dLen, dInt1, dAbs, dMM, dSum, dMaxL, dMinL, dAll, dTupOf, dIsi, dStrI, dNeg, dSub, dDiv, dMod, dPow, dShl, dShr, dBand, dLt, dLe, dGt, dGe, dCallG, entryN, entry, slotsOf, putOuts, putL, Sl.put, ownL, resolve, look, slD, looks, Sl.ownd, forW, compW, wipeP, backP, D.bls, D.ints, kp, perm, List.filterMap_cons, List.filterMap_nil, List.getElem?_cons_zero, List.getElem?_cons_succ, List.getElem?_nil, List.set_cons_zero, List.set_cons_succ, List.length_cons, List.length_nil, List.replicate_succ, List.replicate_zero, List.append_nil, List.nil_append, List.cons_append, List.map_cons, List.map_nil, Option.bind_some, Option.map_some, Option.isSome_some, Nat.reduceAdd, Nat.reduceSub, Nat.zero_add, Option.bind, Option.map, ↓reduceIte, decide_eq_true_eq, decide_true, decide_false, Bool.false_eq_true, Bool.true_eq_false, Bool.not_true, Bool.not_false, Bool.not_eq_true, Bool.not_eq_false, reduceCtorEq, true_and, and_true, okEq_int, okEq_bl, okEq_non, okEq_ints, okEq_nil, eqv_int, eqv_bl, eqv_nil, List.map_eq_nil_iff, truD, D.isNon, tyName, tyB, tyKnown, isTy, tyBD, List.all_cons, List.all_nil, List.any_cons, List.any_nil, List.contains_cons, List.contains_nil, String.reduceBEq, Bool.true_or, Bool.or_true, Bool.false_or, Bool.or_false, Bool.true_and, Bool.and_true, Bool.false_and, Bool.and_false, cast_0, cast_1, cast_2, cast_3, two_le_size, zero_lt_size, one_lt_size, nodup_nilN, nodup_1, zero_le_size, atI_0, atI_1, atI_2, ixN_30, ixN_31, ixN_32, Option.some.injEq, List.cons.injEq, true_or, or_true, false_or, or_false]
    generalize 71341 * a + 5279 = c
    have h3 : ¬ a < 0 := by omega
    (try dsimp only); rw [dSeq_ap]; simp (maxSteps := 2000000) only [dVar_ap, dC_ap, dEsc_ap, dPure_ap, dOp_ap, dUn_ap, dNil_ap, dCons_ap, hNil_ap, hCons_ap, dCB_ap, dTup_ap, dLst_ap, dTest_ap, dTru_ap, dAnd_ap, dOr_ap, dNot_ap, dAndV_ap, dOrV_ap, dNotV_ap, dIf_ap, mNil_ap, mPu_ap, mOw_ap, gdName_ap, gdNil_ap, gdCons_ap, gdSeq_ap, dNext_ap, dBreak_ap, dCont_ap, dNever_ap, dDrop_ap, dRet_ap, dRetN_ap, dRetV_ap, dIfS_ap, dAsg_ap, dAsgN_ap, dPar_ap, dPar3_ap, dParT_ap, dIt_ap, dItAny_ap, dItA_ap, dRng1_ap, dRng2_ap, dEnum_ap, dZip_ap, dFor_ap, dWhile_ap, dLc_ap, dRepN_ap, dCatN_ap, dNoPart_ap, dPart_ap, dSl_ap, dSlN_ap, dChain_ap, dListOf_ap, dSortI_ap, dApp_ap, dExt_ap, dSetI_ap, dPop_ap, dPopAt_ap, kNil_ap, kPu_ap, kIo_ap, dCall_ap, kApp_ap, kPerm_ap, dYes_ap, dZipM_ap, dEq, dNe, dEqA, dNeA, dAdd, dI, dI0, dMul, dIx, dIsN, dNotN, dIn, dLen, dInt1, dAbs, dMM, dSum, dMaxL, dMinL, dAll, dTupOf, dIsi, dStrI, dNeg, dSub, dDiv, dMod, dPow, dShl, dShr, dBand, dLt, dLe, dGt, dGe, dCallG, entryN, entry, slotsOf, putOuts, putL, Sl.put, ownL, resolve, look, slD, looks, Sl.ownd, forW, compW, wipeP, backP, D.bls, D.ints, kp, perm, List.filterMap_cons, List.filterMap_nil, List.getElem?_cons_zero, List.getElem?_cons_succ, List.getElem?_nil, List.set_cons_zero, List.set_cons_succ, List.length_cons, List.length_nil, List.replicate_succ, List.replicate_zero, List.append_nil, List.nil_append, List.cons_append, List.map_cons, List.map_nil, Option.bind_some, Option.map_some, Option.isSome_some, Nat.reduceAdd, Nat.reduceSub, Nat.zero_add, Option.bind, Option.map, ↓reduceIte, decide_eq_true_eq, decide_true, decide_false, Bool.false_eq_true, Bool.true_eq_false, Bool.not_true, Bool.not_false, Bool.not_eq_true, Bool.not_eq_false, reduceCtorEq, true_and, and_true, okEq_int, okEq_bl, okEq_non, okEq_ints, okEq_nil, eqv_int, eqv_bl, eqv_nil, List.map_eq_nil_iff, truD, D.isNon, tyName, tyB, tyKnown, isTy, tyBD, List.all_cons, List.all_nil, List.any_cons, List.any_nil, List.contains_cons, List.contains_nil, String.reduceBEq, Bool.true_or, Bool.or_true, Bool.false_or, Bool.or_false, Bool.true_and, Bool.and_true, Bool.false_and, Bool.and_false, cast_0, cast_1, cast_2, cast_3, two_le_size, zero_lt_size, one_lt_size, nodup_nilN, nodup_1, zero_le_size, atI_0, atI_1, atI_2, ixN_30, ixN_31, ixN_32, Option.some.injEq, List.cons.injEq, true_or, or_true, false_or, or_false, h3]
    have hc1 : 0 ≤ c % 2147483549 ∧ c % 2147483549 < 2147483549 := ⟨Int.emod_nonneg _ (by decide), Int.emod_lt_of_pos _ (by decide)⟩
    (try dsimp only); rw [dSeq_ap]; simp (maxSteps := 2000000) only [dVar_ap, dC_ap, dEsc_ap, dPure_ap, dOp_ap, dUn_ap, dNil_ap, dCons_ap, hNil_ap, hCons_ap, dCB_ap, dTup_ap, dLst_ap, dTest_ap, dTru_ap, dAnd_ap, dOr_ap, dNot_ap, dAndV_ap, dOrV_ap, dNotV_ap, dIf_ap, mNil_ap, mPu_ap, mOw_ap, gdName_ap, gdNil_ap, gdCons_ap, gdSeq_ap, dNext_ap, dBreak_ap, dCont_ap, dNever_ap, dDrop_ap, dRet_ap, dRetN_ap, dRetV_ap, dIfS_ap, dAsg_ap, dAsgN_ap, dPar_ap, dPar3_ap, dParT_ap, dIt_ap, dItAny_ap, dItA_ap, dRng1_ap, dRng2_ap, dEnum_ap, dZip_ap, dFor_ap, dWhile_ap, dLc_ap, dRepN_ap, dCatN_ap, dNoPart_ap, dPart_ap, dSl_ap, dSlN_ap, dChain_ap, dListOf_ap, dSortI_ap, dApp_ap, dExt_ap, dSetI_ap, dPop_ap, dPopAt_ap, kNil_ap, kPu_ap, kIo_ap, dCall_ap, kApp_ap, kPerm_ap, dYes_ap, dZipM_ap, dEq, dNe, dEqA, dNeA, dAdd, dI, dI0, dMul, dIx, dIsN, dNotN, dIn, dLen, dInt1, dAbs, dMM, dSum, dMaxL, dMinL, dAll, dTupOf, dIsi, dStrI, dNeg, dSub, dDiv, dMod, dPow, dShl, dShr, dBand, dLt, dLe, dGt, dGe, dCallG, entryN, entry, slotsOf, putOuts, putL, Sl.put, ownL, resolve, look, slD, looks, Sl.ownd, forW, compW, wipeP, backP, D.bls, D.ints, kp, perm, List.filterMap_cons, List.filterMap_nil, List.getElem?_cons_zero, List.getElem?_cons_succ, List.getElem?_nil, List.set_cons_zero, List.set_cons_succ, List.length_cons, List.length_nil, List.replicate_succ, List.replicate_zero, List.append_nil, List.nil_append, List.cons_append, List.map_cons, List.map_nil, Option.bind_some, Option.map_some, Option.isSome_some, Nat.reduceAdd, Nat.reduceSub, Nat.zero_add, Option.bind, Option.map, ↓reduceIte, decide_eq_true_eq, decide_true, decide_false, Bool.false_eq_true, Bool.true_eq_false, Bool.not_true, Bool.not_false, Bool.not_eq_true, Bool.not_eq_false, reduceCtorEq, true_and, and_true, okEq_int, okEq_bl, okEq_non, okEq_ints, okEq_nil, eqv_int, eqv_bl, eqv_nil, List.map_eq_nil_iff, truD, D.isNon, tyName, tyB, tyKnown, isTy, tyBD, List.all_cons, List.all_nil, List.any_cons, List.any_nil, List.contains_cons, List.contains_nil, String.reduceBEq, Bool.true_or, Bool.or_true, Bool.false_or, Bool.or_false, Bool.true_and, Bool.and_true, Bool.false_and, Bool.and_false, cast_0, cast_1, cast_2, cast_3, two_le_size, zero_lt_size, one_lt_size, nodup_nilN, nodup_1, zero_le_size, atI_0, atI_1, atI_2, ixN_30, ixN_31, ixN_32, Option.some.injEq, List.cons.injEq, true_or, or_true, false_or, or_false, hma, toNat5, show (0 : Int) < 2147483549 by decide, show (0 : Int) < 2147483587 by decide]
    refine ⟨cpow_of (h3 := by omega), ?_⟩
    have hy : 0 ≤ (c % 2147483549 + 31259 * a + 5279) ^ 5 % 2147483587 ∧ (c % 2147483549 + 31259 * a + 5279) ^ 5 % 2147483587 < 2147483587 := ⟨Int.emod_nonneg _ (by decide), Int.emod_lt_of_pos _ (by decide)⟩
    generalize (c % 2147483549 + 31259 * a + 5279) ^ 5 % 2147483587 = y at hy ⊢
    (try dsimp only); rw [dSeq_ap]; simp (maxSteps := 2000000) only [dVar_ap, dC_ap, dEsc_ap, dPure_ap, dOp_ap, dUn_ap, dNil_ap, dCons_ap, hNil_ap, hCons_ap, dCB_ap, dTup_ap, dLst_ap, dTest_ap, dTru_ap, dAnd_ap, dOr_ap, dNot_ap, dAndV_ap, dOrV_ap, dNotV_ap, dIf_ap, mNil_ap, mPu_ap, mOw_ap, gdName_ap, gdNil_ap, gdCons_ap, gdSeq_ap, dNext_ap, dBreak_ap, dCont_ap, dNever_ap, dDrop_ap, dRet_ap, dRetN_ap, dRetV_ap, dIfS_ap, dAsg_ap, dAsgN_ap, dPar_ap, dPar3_ap, dParT_ap, dIt_ap, dItAny_ap, dItA_ap, dRng1_ap, dRng2_ap, dEnum_ap, dZip_ap, dFor_ap, dWhile_ap, dLc_ap, dRepN_ap, dCatN_ap, dNoPart_ap, dPart_ap, dSl_ap, dSlN_ap, dChain_ap, dListOf_ap, dSortI_ap, dApp_ap, dExt_ap, dSetI_ap, dPop_ap, dPopAt_ap, kNil_ap, kPu_ap, kIo_ap, dCall_ap, kApp_ap, kPerm_ap, dYes_ap, dZipM_ap, dEq, dNe, dEqA, dNeA, dAdd, dI, dI0, dMul, dIx, dIsN, dNotN, dIn, dLen, dInt1, dAbs, dMM, dSum, dMaxL, dMinL, dAll, dTupOf, dIsi, dStrI, dNeg, dSub, dDiv, dMod, dPow, dShl, dShr, dBand, dLt, dLe, dGt, dGe, dCallG, entryN, entry, slotsOf, putOuts, putL, Sl.put, ownL, resolve, look, slD, looks, Sl.ownd, forW, compW, wipeP, backP, D.bls, D.ints, kp, perm, List.filterMap_cons, List.filterMap_nil, List.getElem?_cons_zero, List.getElem?_cons_succ, List.getElem?_nil, List.set_cons_zero, List.set_cons_succ, List.length_cons, List.length_nil, List.replicate_succ, List.replicate_zero, List.append_nil, List.nil_append, List.cons_append, List.map_cons, List.map_nil, Option.bind_some, Option.map_some, Option.isSome_some, Nat.reduceAdd, Nat.reduceSub, Nat.zero_add, Option.bind, Option.map, ↓reduceIte, decide_eq_true_eq, decide_true, decide_false, Bool.false_eq_true, Bool.true_eq_false, Bool.not_true, Bool.not_false, Bool.not_eq_true, Bool.not_eq_false, reduceCtorEq, true_and, and_true, okEq_int, okEq_bl, okEq_non, okEq_ints, okEq_nil, eqv_int, eqv_bl, eqv_nil, List.map_eq_nil_iff, truD, D.isNon, tyName, tyB, tyKnown, isTy, tyBD, List.all_cons, List.all_nil, List.any_cons, List.any_nil, List.contains_cons, List.contains_nil, String.reduceBEq, Bool.true_or, Bool.or_true, Bool.false_or, Bool.or_false, Bool.true_and, Bool.and_true, Bool.false_and, Bool.and_false, cast_0, cast_1, cast_2, cast_3, two_le_size, zero_lt_size, one_lt_size, nodup_nilN, nodup_1, zero_le_size, atI_0, atI_1, atI_2, ixN_30, ixN_31, ixN_32, Option.some.injEq, List.cons.injEq, true_or, or_true, false_or, or_false, hma, hd32, hm, toNat3, show (0 : Int) < 2147483629 by decide]
    have hp1 := mul_in (x := y) (y := 2 * a + 2671) hy.1 (Int.le_of_lt hy.2) (Y := 202671) (by omega) (by omega)
    have hp2 := mul_in (x := 71341 * a) (y := a) (X := 7134100000) (Y := 100000) (by omega) (by omega) (by omega) (by omega)
    refine ⟨cmul_l _ (by omega) (by omega), cpow_of (h3 := by omega), ?_⟩
    generalize (y * (2 * a + 2671) + 71341 * a * a + 31259) ^ 3 % 2147483629 = z
    exact ends_rt rfl (q _ _ (Int.emod_nonneg _ (by omega)) (Int.emod_lt_of_pos _ hm) (hB _ hr))
  · have hl : (0 : Int) < ((cs.map D.int).length : Nat) := by
      rw [List.length_map]
      have := List.length_pos_iff.mpr h2
      omega
    have hcg : ∃ c : Int, atI (cs.map D.int) (a % ((cs.map D.int).length : Nat)) = some (.int c) :=
      mapInt_get (Int.emod_nonneg _ (by omega)) (by have := Int.emod_lt_of_pos a hl; rw [List.length_map] at this ⊢; exact this)
    obtain ⟨c, hcg⟩ := hcg
    (try dsimp only); rw [dSeq_ap]; simp (maxSteps := 2000000) only [dVar_ap, dC_ap, dEsc_ap, dPure_ap, dOp_ap, dUn_ap, dNil_ap, dCons_ap, hNil_ap, hCons_ap, dCB_ap, dTup_ap, dLst_ap, dTest_ap, dTru_ap, dAnd_ap, dOr_ap, dNot_ap, dAndV_ap, dOrV_ap, dNotV_ap, dIf_ap, mNil_ap, mPu_ap, mOw_ap, gdName_ap, gdNil_ap, gdCons_ap, gdSeq_ap, dNext_ap, dBreak_ap, dCont_ap, dNever_ap, dDrop_ap, dRet_ap, dRetN_ap, dRetV_ap, dIfS_ap, dAsg_ap, dAsgN_ap, dPar_ap, dPar3_ap, dParT_ap, dIt_ap, dItAny_ap, dItA_ap, dRng1_ap, dRng2_ap, dEnum_ap, dZip_ap, dFor_ap, dWhile_ap, dLc_ap, dRepN_ap, dCatN_ap, dNoPart_ap, dPart_ap, dSl_ap, dSlN_ap, dChain_ap, dListOf_ap, dSortI_ap, dApp_ap, dExt_ap, dSetI_ap, dPop_ap, dPopAt_ap, kNil_ap, kPu_ap, kIo_ap, dCall_ap, kApp_ap, kPerm_ap, dYes_ap, dZipM_ap, dEq, dNe, dEqA, dNeA, dAdd, dI, dI0, dMul, dIx, dIsN, dNotN, dIn, dLen, dInt1, dAbs, dMM, dSum, dMaxL, dMinL, dAll, dTupOf, dIsi, dStrI, dNeg, dSub, dDiv, dMod, dPow, dShl, dShr, dBand, dLt, dLe, dGt, dGe, dCallG, entryN, entry, slotsOf, putOuts, putL, Sl.put, ownL, resolve, look, slD, looks, Sl.ownd, forW, compW, wipeP, backP, D.bls, D.ints, kp, perm, List.filterMap_cons, List.filterMap_nil, List.getElem?_cons_zero, List.getElem?_cons_succ, List.getElem?_nil, List.set_cons_zero, List.set_cons_succ, List.length_cons, List.length_nil, List.replicate_succ, List.replicate_zero, List.append_nil, List.nil_append, List.cons_append, List.map_cons, List.map_nil, Option.bind_some, Option.map_some, Option.isSome_some, Nat.reduceAdd, Nat.reduceSub, Nat.zero_add, Option.bind, Option.map, ↓reduceIte, decide_eq_true_eq, decide_true, decide_false, Bool.false_eq_true, Bool.true_eq_false, Bool.not_true, Bool.not_false, Bool.not_eq_true, Bool.not_eq_false, reduceCtorEq, true_and, and_true, okEq_int, okEq_bl, okEq_non, okEq_ints, okEq_nil, eqv_int, eqv_bl, eqv_nil, List.map_eq_nil_iff, truD, D.isNon, tyName, tyB, tyKnown, isTy, tyBD, List.all_cons, List.all_nil, List.any_cons, List.any_nil, List.contains_cons, List.contains_nil, String.reduceBEq, Bool.true_or, Bool.or_true, Bool.false_or, Bool.or_false, Bool.true_and, Bool.and_true, Bool.false_and, Bool.and_false, cast_0, cast_1, cast_2, cast_3, two_le_size, zero_lt_size, one_lt_size, nodup_nilN, nodup_1, zero_le_size, atI_0, atI_1, atI_2, ixN_30, ixN_31, ixN_32, Option.some.injEq, List.cons.injEq, true_or, or_true, false_or, or_false, h2, hl, hcg]
    have hml : (if c < 0 then -c else c) ≥ 0 := by split <;> omega
    by_cases h3 : a < (List.map D.int cs).length
    · by_cases h4 : 1000000000000000000 ≤ (if c < 0 then -c else c)
      · (try dsimp only); rw [dSeq_ap]; simp (maxSteps := 2000000) only [dVar_ap, dC_ap, dEsc_ap, dPure_ap, dOp_ap, dUn_ap, dNil_ap, dCons_ap, hNil_ap, hCons_ap, dCB_ap, dTup_ap, dLst_ap, dTest_ap, dTru_ap, dAnd_ap, dOr_ap, dNot_ap, dAndV_ap, dOrV_ap, dNotV_ap, dIf_ap, mNil_ap, mPu_ap, mOw_ap, gdName_ap, gdNil_ap, gdCons_ap, gdSeq_ap, dNext_ap, dBreak_ap, dCont_ap, dNever_ap, dDrop_ap, dRet_ap, dRetN_ap, dRetV_ap, dIfS_ap, dAsg_ap, dAsgN_ap, dPar_ap, dPar3_ap, dParT_ap, dIt_ap, dItAny_ap, dItA_ap, dRng1_ap, dRng2_ap, dEnum_ap, dZip_ap, dFor_ap, dWhile_ap, dLc_ap, dRepN_ap, dCatN_ap, dNoPart_ap, dPart_ap, dSl_ap, dSlN_ap, dChain_ap, dListOf_ap, dSortI_ap, dApp_ap, dExt_ap, dSetI_ap, dPop_ap, dPopAt_ap, kNil_ap, kPu_ap, kIo_ap, dCall_ap, kApp_ap, kPerm_ap, dYes_ap, dZipM_ap, dEq, dNe, dEqA, dNeA, dAdd, dI, dI0, dMul, dIx, dIsN, dNotN, dIn, dLen, dInt1, dAbs, dMM, dSum, dMaxL, dMinL, dAll, dTupOf, dIsi, dStrI, dNeg, dSub, dDiv, dMod, dPow, dShl, dShr, dBand, dLt, dLe, dGt, dGe, dCallG, entryN, entry, slotsOf, putOuts, putL, Sl.put, ownL, resolve, look, slD, looks, Sl.ownd, forW, compW, wipeP, backP, D.bls, D.ints, kp, perm, List.filterMap_cons, List.filterMap_nil, List.getElem?_cons_zero, List.getElem?_cons_succ, List.getElem?_nil, List.set_cons_zero, List.set_cons_succ, List.length_cons, List.length_nil, List.replicate_succ, List.replicate_zero, List.append_nil, List.nil_append, List.cons_append, List.map_cons, List.map_nil, Option.bind_some, Option.map_some, Option.isSome_some, Nat.reduceAdd, Nat.reduceSub, Nat.zero_add, Option.bind, Option.map, ↓reduceIte, decide_eq_true_eq, decide_true, decide_false, Bool.false_eq_true, Bool.true_eq_false, Bool.not_true, Bool.not_false, Bool.not_eq_true, Bool.not_eq_false, reduceCtorEq, true_and, and_true, okEq_int, okEq_bl, okEq_non, okEq_ints, okEq_nil, eqv_int, eqv_bl, eqv_nil, List.map_eq_nil_iff, truD, D.isNon, tyName, tyB, tyKnown, isTy, tyBD, List.all_cons, List.all_nil, List.any_cons, List.any_nil, List.contains_cons, List.contains_nil, String.reduceBEq, Bool.true_or, Bool.or_true, Bool.false_or, Bool.or_false, Bool.true_and, Bool.and_true, Bool.false_and, Bool.and_false, cast_0, cast_1, cast_2, cast_3, two_le_size, zero_lt_size, one_lt_size, nodup_nilN, nodup_1, zero_le_size, atI_0, atI_1, atI_2, ixN_30, ixN_31, ixN_32, Option.some.injEq, List.cons.injEq, true_or, or_true, false_or, or_false, h3, h4, h18, e18, toNat18]
        (try dsimp only); rw [dSeq_ap]; simp (maxSteps := 2000000) only [dVar_ap, dC_ap, dEsc_ap, dPure_ap, dOp_ap, dUn_ap, dNil_ap, dCons_ap, hNil_ap, hCons_ap, dCB_ap, dTup_ap, dLst_ap, dTest_ap, dTru_ap, dAnd_ap, dOr_ap, dNot_ap, dAndV_ap, dOrV_ap, dNotV_ap, dIf_ap, mNil_ap, mPu_ap, mOw_ap, gdName_ap, gdNil_ap, gdCons_ap, gdSeq_ap, dNext_ap, dBreak_ap, dCont_ap, dNever_ap, dDrop_ap, dRet_ap, dRetN_ap, dRetV_ap, dIfS_ap, dAsg_ap, dAsgN_ap, dPar_ap, dPar3_ap, dParT_ap, dIt_ap, dItAny_ap, dItA_ap, dRng1_ap, dRng2_ap, dEnum_ap, dZip_ap, dFor_ap, dWhile_ap, dLc_ap, dRepN_ap, dCatN_ap, dNoPart_ap, dPart_ap, dSl_ap, dSlN_ap, dChain_ap, dListOf_ap, dSortI_ap, dApp_ap, dExt_ap, dSetI_ap, dPop_ap, dPopAt_ap, kNil_ap, kPu_ap, kIo_ap, dCall_ap, kApp_ap, kPerm_ap, dYes_ap, dZipM_ap, dEq, dNe, dEqA, dNeA, dAdd, dI, dI0, dMul, dIx, dIsN, dNotN, dIn, dLen, dInt1, dAbs, dMM, dSum, dMaxL, dMinL, dAll, dTupOf, dIsi, dStrI, dNeg, dSub, dDiv, dMod, dPow, dShl, dShr, dBand, dLt, dLe, dGt, dGe, dCallG, entryN, entry, slotsOf, putOuts, putL, Sl.put, ownL, resolve, look, slD, looks, Sl.ownd, forW, compW, wipeP, backP, D.bls, D.ints, kp, perm, List.filterMap_cons, List.filterMap_nil, List.getElem?_cons_zero, List.getElem?_cons_succ, List.getElem?_nil, List.set_cons_zero, List.set_cons_succ, List.length_cons, List.length_nil, List.replicate_succ, List.replicate_zero, List.append_nil, List.nil_append, List.cons_append, List.map_cons, List.map_nil, Option.bind_some, Option.map_some, Option.isSome_some, Nat.reduceAdd, Nat.reduceSub, Nat.zero_add, Option.bind, Option.map, ↓reduceIte, decide_eq_true_eq, decide_true, decide_false, Bool.false_eq_true, Bool.true_eq_false, Bool.not_true, Bool.not_false, Bool.not_eq_true, Bool.not_eq_false, reduceCtorEq, true_and, and_true, okEq_int, okEq_bl, okEq_non, okEq_ints, okEq_nil, eqv_int, eqv_bl, eqv_nil, List.map_eq_nil_iff, truD, D.isNon, tyName, tyB, tyKnown, isTy, tyBD, List.all_cons, List.all_nil, List.any_cons, List.any_nil, List.contains_cons, List.contains_nil, String.reduceBEq, Bool.true_or, Bool.or_true, Bool.false_or, Bool.or_false, Bool.true_and, Bool.and_true, Bool.false_and, Bool.and_false, cast_0, cast_1, cast_2, cast_3, two_le_size, zero_lt_size, one_lt_size, nodup_nilN, nodup_1, zero_le_size, atI_0, atI_1, atI_2, ixN_30, ixN_31, ixN_32, Option.some.injEq, List.cons.injEq, true_or, or_true, false_or, or_false, h18, e18, toNat18]
        refine ⟨cmul_l _ (by decide) (by decide), ?_⟩
        have hx : 0 ≤ 2 * ((if c < 0 then -c else c) - 1000000000000000000) + (if c < 0 then 1 else 0) := by split <;> omega
        generalize 2 * ((if c < 0 then -c else c) - 1000000000000000000) + (if c < 0 then 1 else 0) = x at hx ⊢
        have hdx : CDivW x m := ⟨hm, hm2⟩
        have hxm : 0 ≤ x / m := Int.ediv_nonneg hx (Int.le_of_lt hm)
        (try dsimp only); rw [dSeq_ap]; simp (maxSteps := 2000000) only [dVar_ap, dC_ap, dEsc_ap, dPure_ap, dOp_ap, dUn_ap, dNil_ap, dCons_ap, hNil_ap, hCons_ap, dCB_ap, dTup_ap, dLst_ap, dTest_ap, dTru_ap, dAnd_ap, dOr_ap, dNot_ap, dAndV_ap, dOrV_ap, dNotV_ap, dIf_ap, mNil_ap, mPu_ap, mOw_ap, gdName_ap, gdNil_ap, gdCons_ap, gdSeq_ap, dNext_ap, dBreak_ap, dCont_ap, dNever_ap, dDrop_ap, dRet_ap, dRetN_ap, dRetV_ap, dIfS_ap, dAsg_ap, dAsgN_ap, dPar_ap, dPar3_ap, dParT_ap, dIt_ap, dItAny_ap, dItA_ap, dRng1_ap, dRng2_ap, dEnum_ap, dZip_ap, dFor_ap, dWhile_ap, dLc_ap, dRepN_ap, dCatN_ap, dNoPart_ap, dPart_ap, dSl_ap, dSlN_ap, dChain_ap, dListOf_ap, dSortI_ap, dApp_ap, dExt_ap, dSetI_ap, dPop_ap, dPopAt_ap, kNil_ap, kPu_ap, kIo_ap, dCall_ap, kApp_ap, kPerm_ap, dYes_ap, dZipM_ap, dEq, dNe, dEqA, dNeA, dAdd, dI, dI0, dMul, dIx, dIsN, dNotN, dIn, dLen, dInt1, dAbs, dMM, dSum, dMaxL, dMinL, dAll, dTupOf, dIsi, dStrI, dNeg, dSub, dDiv, dMod, dPow, dShl, dShr, dBand, dLt, dLe, dGt, dGe, dCallG, entryN, entry, slotsOf, putOuts, putL, Sl.put, ownL, resolve, look, slD, looks, Sl.ownd, forW, compW, wipeP, backP, D.bls, D.ints, kp, perm, List.filterMap_cons, List.filterMap_nil, List.getElem?_cons_zero, List.getElem?_cons_succ, List.getElem?_nil, List.set_cons_zero, List.set_cons_succ, List.length_cons, List.length_nil, List.replicate_succ, List.replicate_zero, List.append_nil, List.nil_append, List.cons_append, List.map_cons, List.map_nil, Option.bind_some, Option.map_some, Option.isSome_some, Nat.reduceAdd, Nat.reduceSub, Nat.zero_add, Option.bind, Option.map, ↓reduceIte, decide_eq_true_eq, decide_true, decide_false, Bool.false_eq_true, Bool.true_eq_false, Bool.not_true, Bool.not_false, Bool.not_eq_true, Bool.not_eq_false, reduceCtorEq, true_and, and_true, okEq_int, okEq_bl, okEq_non, okEq_ints, okEq_nil, eqv_int, eqv_bl, eqv_nil, List.map_eq_nil_iff, truD, D.isNon, tyName, tyB, tyKnown, isTy, tyBD, List.all_cons, List.all_nil, List.any_cons, List.any_nil, List.contains_cons, List.contains_nil, String.reduceBEq, Bool.true_or, Bool.or_true, Bool.false_or, Bool.or_false, Bool.true_and, Bool.and_true, Bool.false_and, Bool.and_false, cast_0, cast_1, cast_2, cast_3, two_le_size, zero_lt_size, one_lt_size, nodup_nilN, nodup_1, zero_le_size, atI_0, atI_1, atI_2, ixN_30, ixN_31, ixN_32, Option.some.injEq, List.cons.injEq, true_or, or_true, false_or, or_false, hdx]
        simp (maxSteps := 2000000) only [dVar_ap, dC_ap, dEsc_ap, dPure_ap, dOp_ap, dUn_ap, dNil_ap, dCons_ap, hNil_ap, hCons_ap, dCB_ap, dTup_ap, dLst_ap, dTest_ap, dTru_ap, dAnd_ap, dOr_ap, dNot_ap, dAndV_ap, dOrV_ap, dNotV_ap, dIf_ap, mNil_ap, mPu_ap, mOw_ap, gdName_ap, gdNil_ap, gdCons_ap, gdSeq_ap, dNext_ap, dBreak_ap, dCont_ap, dNever_ap, dDrop_ap, dRet_ap, dRetN_ap, dRetV_ap, dIfS_ap, dAsg_ap, dAsgN_ap, dPar_ap, dPar3_ap, dParT_ap, dIt_ap, dItAny_ap, dItA_ap, dRng1_ap, dRng2_ap, dEnum_ap, dZip_ap, dFor_ap, dWhile_ap, dLc_ap, dRepN_ap, dCatN_ap, dNoPart_ap, dPart_ap, dSl_ap, dSlN_ap, dChain_ap, dListOf_ap, dSortI_ap, dApp_ap, dExt_ap, dSetI_ap, dPop_ap, dPopAt_ap, kNil_ap, kPu_ap, kIo_ap, dCall_ap, kApp_ap, kPerm_ap, dYes_ap, dZipM_ap, dEq, dNe, dEqA, dNeA, dAdd, dI, dI0, dMul, dIx, dIsN, dNotN, dIn, dLen, dInt1, dAbs, dMM, dSum, dMaxL, dMinL, dAll, dTupOf, dIsi, dStrI, dNeg, dSub, dDiv, dMod, dPow, dShl, dShr, dBand, dLt, dLe, dGt, dGe, dCallG, entryN, entry, slotsOf, putOuts, putL, Sl.put, ownL, resolve, look, slD, looks, Sl.ownd, forW, compW, wipeP, backP, D.bls, D.ints, kp, perm, List.filterMap_cons, List.filterMap_nil, List.getElem?_cons_zero, List.getElem?_cons_succ, List.getElem?_nil, List.set_cons_zero, List.set_cons_succ, List.length_cons, List.length_nil, List.replicate_succ, List.replicate_zero, List.append_nil, List.nil_append, List.cons_append, List.map_cons, List.map_nil, Option.bind_some, Option.map_some, Option.isSome_some, Nat.reduceAdd, Nat.reduceSub, Nat.zero_add, Option.bind, Option.map, ↓reduceIte, decide_eq_true_eq, decide_true, decide_false, Bool.false_eq_true, Bool.true_eq_false, Bool.not_true, Bool.not_false, Bool.not_eq_true, Bool.not_eq_false, reduceCtorEq, true_and, and_true, okEq_int, okEq_bl, okEq_non, okEq_ints, okEq_nil, eqv_int, eqv_bl, eqv_nil, List.map_eq_nil_iff, truD, D.isNon, tyName, tyB, tyKnown, isTy, tyBD, List.all_cons, List.all_nil, List.any_cons, List.any_nil, List.contains_cons, List.contains_nil, String.reduceBEq, Bool.true_or, Bool.or_true, Bool.false_or, Bool.or_false, Bool.true_and, Bool.and_true, Bool.false_and, Bool.and_false, cast_0, cast_1, cast_2, cast_3, two_le_size, zero_lt_size, one_lt_size, nodup_nilN, nodup_1, zero_le_size, atI_0, atI_1, atI_2, ixN_30, ixN_31, ixN_32, Option.some.injEq, List.cons.injEq, true_or, or_true, false_or, or_false, hm]
        exact ends_rt rfl (q _ _ (Int.emod_nonneg _ (by omega)) (Int.emod_lt_of_pos _ hm) (hB _ hxm))
      · (try dsimp only); rw [dSeq_ap]; simp (maxSteps := 2000000) only [dVar_ap, dC_ap, dEsc_ap, dPure_ap, dOp_ap, dUn_ap, dNil_ap, dCons_ap, hNil_ap, hCons_ap, dCB_ap, dTup_ap, dLst_ap, dTest_ap, dTru_ap, dAnd_ap, dOr_ap, dNot_ap, dAndV_ap, dOrV_ap, dNotV_ap, dIf_ap, mNil_ap, mPu_ap, mOw_ap, gdName_ap, gdNil_ap, gdCons_ap, gdSeq_ap, dNext_ap, dBreak_ap, dCont_ap, dNever_ap, dDrop_ap, dRet_ap, dRetN_ap, dRetV_ap, dIfS_ap, dAsg_ap, dAsgN_ap, dPar_ap, dPar3_ap, dParT_ap, dIt_ap, dItAny_ap, dItA_ap, dRng1_ap, dRng2_ap, dEnum_ap, dZip_ap, dFor_ap, dWhile_ap, dLc_ap, dRepN_ap, dCatN_ap, dNoPart_ap, dPart_ap, dSl_ap, dSlN_ap, dChain_ap, dListOf_ap, dSortI_ap, dApp_ap, dExt_ap, dSetI_ap, dPop_ap, dPopAt_ap, kNil_ap, kPu_ap, kIo_ap, dCall_ap, kApp_ap, kPerm_ap, dYes_ap, dZipM_ap, dEq, dNe, dEqA, dNeA, dAdd, dI, dI0, dMul, dIx, dIsN, dNotN, dIn, dLen, dInt1, dAbs, dMM, dSum, dMaxL, dMinL, dAll, dTupOf, dIsi, dStrI, dNeg, dSub, dDiv, dMod, dPow, dShl, dShr, dBand, dLt, dLe, dGt, dGe, dCallG, entryN, entry, slotsOf, putOuts, putL, Sl.put, ownL, resolve, look, slD, looks, Sl.ownd, forW, compW, wipeP, backP, D.bls, D.ints, kp, perm, List.filterMap_cons, List.filterMap_nil, List.getElem?_cons_zero, List.getElem?_cons_succ, List.getElem?_nil, List.set_cons_zero, List.set_cons_succ, List.length_cons, List.length_nil, List.replicate_succ, List.replicate_zero, List.append_nil, List.nil_append, List.cons_append, List.map_cons, List.map_nil, Option.bind_some, Option.map_some, Option.isSome_some, Nat.reduceAdd, Nat.reduceSub, Nat.zero_add, Option.bind, Option.map, ↓reduceIte, decide_eq_true_eq, decide_true, decide_false, Bool.false_eq_true, Bool.true_eq_false, Bool.not_true, Bool.not_false, Bool.not_eq_true, Bool.not_eq_false, reduceCtorEq, true_and, and_true, okEq_int, okEq_bl, okEq_non, okEq_ints, okEq_nil, eqv_int, eqv_bl, eqv_nil, List.map_eq_nil_iff, truD, D.isNon, tyName, tyB, tyKnown, isTy, tyBD, List.all_cons, List.all_nil, List.any_cons, List.any_nil, List.contains_cons, List.contains_nil, String.reduceBEq, Bool.true_or, Bool.or_true, Bool.false_or, Bool.or_false, Bool.true_and, Bool.and_true, Bool.false_and, Bool.and_false, cast_0, cast_1, cast_2, cast_3, two_le_size, zero_lt_size, one_lt_size, nodup_nilN, nodup_1, zero_le_size, atI_0, atI_1, atI_2, ixN_30, ixN_31, ixN_32, Option.some.injEq, List.cons.injEq, true_or, or_true, false_or, or_false, h3, h4, h18, e18, toNat18]
        clear h3 h4
        have hc1 : 0 ≤ c % 2147483549 ∧ c % 2147483549 < 2147483549 := ⟨Int.emod_nonneg _ (by decide), Int.emod_lt_of_pos _ (by decide)⟩
        (try dsimp only); rw [dSeq_ap]; simp (maxSteps := 2000000) only [dVar_ap, dC_ap, dEsc_ap, dPure_ap, dOp_ap, dUn_ap, dNil_ap, dCons_ap, hNil_ap, hCons_ap, dCB_ap, dTup_ap, dLst_ap, dTest_ap, dTru_ap, dAnd_ap, dOr_ap, dNot_ap, dAndV_ap, dOrV_ap, dNotV_ap, dIf_ap, mNil_ap, mPu_ap, mOw_ap, gdName_ap, gdNil_ap, gdCons_ap, gdSeq_ap, dNext_ap, dBreak_ap, dCont_ap, dNever_ap, dDrop_ap, dRet_ap, dRetN_ap, dRetV_ap, dIfS_ap, dAsg_ap, dAsgN_ap, dPar_ap, dPar3_ap, dParT_ap, dIt_ap, dItAny_ap, dItA_ap, dRng1_ap, dRng2_ap, dEnum_ap, dZip_ap, dFor_ap, dWhile_ap, dLc_ap, dRepN_ap, dCatN_ap, dNoPart_ap, dPart_ap, dSl_ap, dSlN_ap, dChain_ap, dListOf_ap, dSortI_ap, dApp_ap, dExt_ap, dSetI_ap, dPop_ap, dPopAt_ap, kNil_ap, kPu_ap, kIo_ap, dCall_ap, kApp_ap, kPerm_ap, dYes_ap, dZipM_ap, dEq, dNe, dEqA, dNeA, dAdd, dI, dI0, dMul, dIx, dIsN, dNotN, dIn, dLen, dInt1, dAbs, dMM, dSum, dMaxL, dMinL, dAll, dTupOf, dIsi, dStrI, dNeg, dSub, dDiv, dMod, dPow, dShl, dShr, dBand, dLt, dLe, dGt, dGe, dCallG, entryN, entry, slotsOf, putOuts, putL, Sl.put, ownL, resolve, look, slD, looks, Sl.ownd, forW, compW, wipeP, backP, D.bls, D.ints, kp, perm, List.filterMap_cons, List.filterMap_nil, List.getElem?_cons_zero, List.getElem?_cons_succ, List.getElem?_nil, List.set_cons_zero, List.set_cons_succ, List.length_cons, List.length_nil, List.replicate_succ, List.replicate_zero, List.append_nil, List.nil_append, List.cons_append, List.map_cons, List.map_nil, Option.bind_some, Option.map_some, Option.isSome_some, Nat.reduceAdd, Nat.reduceSub, Nat.zero_add, Option.bind, Option.map, ↓reduceIte, decide_eq_true_eq, decide_true, decide_false, Bool.false_eq_true, Bool.true_eq_false, Bool.not_true, Bool.not_false, Bool.not_eq_true, Bool.not_eq_false, reduceCtorEq, true_and, and_true, okEq_int, okEq_bl, okEq_non, okEq_ints, okEq_nil, eqv_int, eqv_bl, eqv_nil, List.map_eq_nil_iff, truD, D.isNon, tyName, tyB, tyKnown, isTy, tyBD, List.all_cons, List.all_nil, List.any_cons, List.any_nil, List.contains_cons, List.contains_nil, String.reduceBEq, Bool.true_or, Bool.or_true, Bool.false_or, Bool.or_false, Bool.true_and, Bool.and_true, Bool.false_and, Bool.and_false, cast_0, cast_1, cast_2, cast_3, two_le_size, zero_lt_size, one_lt_size, nodup_nilN, nodup_1, zero_le_size, atI_0, atI_1, atI_2, ixN_30, ixN_31, ixN_32, Option.some.injEq, List.cons.injEq, true_or, or_true, false_or, or_false, hma, toNat5, show (0 : Int) < 2147483549 by decide, show (0 : Int) < 2147483587 by decide]
        refine ⟨cpow_of (h3 := by omega), ?_⟩
        have hy : 0 ≤ (c % 2147483549 + 31259 * a + 5279) ^ 5 % 2147483587 ∧ (c % 2147483549 + 31259 * a + 5279) ^ 5 % 2147483587 < 2147483587 := ⟨Int.emod_nonneg _ (by decide), Int.emod_lt_of_pos _ (by decide)⟩
        generalize (c % 2147483549 + 31259 * a + 5279) ^ 5 % 2147483587 = y at hy ⊢
        (try dsimp only); rw [dSeq_ap]; simp (maxSteps := 2000000) only [dVar_ap, dC_ap, dEsc_ap, dPure_ap, dOp_ap, dUn_ap, dNil_ap, dCons_ap, hNil_ap, hCons_ap, dCB_ap, dTup_ap, dLst_ap, dTest_ap, dTru_ap, dAnd_ap, dOr_ap, dNot_ap, dAndV_ap, dOrV_ap, dNotV_ap, dIf_ap, mNil_ap, mPu_ap, mOw_ap, gdName_ap, gdNil_ap, gdCons_ap, gdSeq_ap, dNext_ap, dBreak_ap, dCont_ap, dNever_ap, dDrop_ap, dRet_ap, dRetN_ap, dRetV_ap, dIfS_ap, dAsg_ap, dAsgN_ap, dPar_ap, dPar3_ap, dParT_ap, dIt_ap, dItAny_ap, dItA_ap, dRng1_ap, dRng2_ap, dEnum_ap, dZip_ap, dFor_ap, dWhile_ap, dLc_ap, dRepN_ap, dCatN_ap, dNoPart_ap, dPart_ap, dSl_ap, dSlN_ap, dChain_ap, dListOf_ap, dSortI_ap, dApp_ap, dExt_ap, dSetI_ap, dPop_ap, dPopAt_ap, kNil_ap, kPu_ap, kIo_ap, dCall_ap, kApp_ap, kPerm_ap, dYes_ap, dZipM_ap, dEq, dNe, dEqA, dNeA, dAdd, dI, dI0, dMul, dIx, dIsN, dNotN, dIn, dLen, dInt1, dAbs, dMM, dSum, dMaxL, dMinL, dAll, dTupOf, dIsi, dStrI, dNeg, dSub, dDiv, dMod, dPow, dShl, dShr, dBand, dLt, dLe, dGt, dGe, dCallG, entryN, entry, slotsOf, putOuts, putL, Sl.put, ownL, resolve, look, slD, looks, Sl.ownd, forW, compW, wipeP, backP, D.bls, D.ints, kp, perm, List.filterMap_cons, List.filterMap_nil, List.getElem?_cons_zero, List.getElem?_cons_succ, List.getElem?_nil, List.set_cons_zero, List.set_cons_succ, List.length_cons, List.length_nil, List.replicate_succ, List.replicate_zero, List.append_nil, List.nil_append, List.cons_append, List.map_cons, List.map_nil, Option.bind_some, Option.map_some, Option.isSome_some, Nat.reduceAdd, Nat.reduceSub, Nat.zero_add, Option.bind, Option.map, ↓reduceIte, decide_eq_true_eq, decide_true, decide_false, Bool.false_eq_true, Bool.true_eq_false, Bool.not_true, Bool.not_false, Bool.not_eq_true, Bool.not_eq_false, reduceCtorEq, true_and, and_true, okEq_int, okEq_bl, okEq_non, okEq_ints, okEq_nil, eqv_int, eqv_bl, eqv_nil, List.map_eq_nil_iff, truD, D.isNon, tyName, tyB, tyKnown, isTy, tyBD, List.all_cons, List.all_nil, List.any_cons, List.any_nil, List.contains_cons, List.contains_nil, String.reduceBEq, Bool.true_or, Bool.or_true, Bool.false_or, Bool.or_false, Bool.true_and, Bool.and_true, Bool.false_and, Bool.and_false, cast_0, cast_1, cast_2, cast_3, two_le_size, zero_lt_size, one_lt_size, nodup_nilN, nodup_1, zero_le_size, atI_0, atI_1, atI_2, ixN_30, ixN_31, ixN_32, Option.some.injEq, List.cons.injEq, true_or, or_true, false_or, or_false, hma, hd32, hm, toNat3, show (0 : Int) < 2147483629 by decide]
        have hp1 := mul_in (x := y) (y := 2 * a + 2671) hy.1 (Int.le_of_lt hy.2) (Y := 202671) (by omega) (by omega)
        have hp2 := mul_in (x := 71341 * a) (y := a) (X := 7134100000) (Y := 100000) (by omega) (by omega) (by omega) (by omega)
        refine ⟨cmul_l _ (by omega) (by omega), cpow_of (h3 := by omega), ?_⟩
        generalize (y * (2 * a + 2671) + 71341 * a * a + 31259) ^ 3 % 2147483629 = z
        exact ends_rt rfl (q _ _ (Int.emod_nonneg _ (by omega)) (Int.emod_lt_of_pos _ hm) (hB _ hr))
    · (try dsimp only); rw [dSeq_ap]; simp (maxSteps := 2000000) only [dVar_ap, dC_ap, dEsc_ap, dPure_ap, dOp_ap, dUn_ap, dNil_ap, dCons_ap, hNil_ap, hCons_ap, dCB_ap, dTup_ap, dLst_ap, dTest_ap, dTru_ap, dAnd_ap, dOr_ap, dNot_ap, dAndV_ap, dOrV_ap, dNotV_ap, dIf_ap, mNil_ap, mPu_ap, mOw_ap, gdName_ap, gdNil_ap, gdCons_ap, gdSeq_ap, dNext_ap, dBreak_ap, dCont_ap, dNever_ap, dDrop_ap, dRet_ap, dRetN_ap, dRetV_ap, dIfS_ap, dAsg_ap, dAsgN_ap, dPar_ap, dPar3_ap, dParT_ap, dIt_ap, dItAny_ap, dItA_ap, dRng1_ap, dRng2_ap, dEnum_ap, dZip_ap, dFor_ap, dWhile_ap, dLc_ap, dRepN_ap, dCatN_ap, dNoPart_ap, dPart_ap, dSl_ap, dSlN_ap, dChain_ap, dListOf_ap, dSortI_ap, dApp_ap, dExt_ap, dSetI_ap, dPop_ap, dPopAt_ap, kNil_ap, kPu_ap, kIo_ap, dCall_ap, kApp_ap, kPerm_ap, dYes_ap, dZipM_ap, dEq, dNe, dEqA, dNeA, dAdd, dI, dI0, dMul, dIx, dIsN, dNotN, dIn, dLen, dInt1, dAbs, dMM, dSum, dMaxL, dMinL, dAll, dTupOf, dIsi, dStrI, dNeg, dSub, dDiv, dMod, dPow, dShl, dShr, dBand, dLt, dLe, dGt, dGe, dCallG, entryN, entry, slotsOf, putOuts, putL, Sl.put, ownL, resolve, look, slD, looks, Sl.ownd, forW, compW, wipeP, backP, D.bls, D.ints, kp, perm, List.filterMap_cons, List.filterMap_nil, List.getElem?_cons_zero, List.getElem?_cons_succ, List.getElem?_nil, List.set_cons_zero, List.set_cons_succ, List.length_cons, List.length_nil, List.replicate_succ, List.replicate_zero, List.append_nil, List.nil_append, List.cons_append, List.map_cons, List.map_nil, Option.bind_some, Option.map_some, Option.isSome_some, Nat.reduceAdd, Nat.reduceSub, Nat.zero_add, Option.bind, Option.map, ↓reduceIte, decide_eq_true_eq, decide_true, decide_false, Bool.false_eq_true, Bool.true_eq_false, Bool.not_true, Bool.not_false, Bool.not_eq_true, Bool.not_eq_false, reduceCtorEq, true_and, and_true, okEq_int, okEq_bl, okEq_non, okEq_ints, okEq_nil, eqv_int, eqv_bl, eqv_nil, List.map_eq_nil_iff, truD, D.isNon, tyName, tyB, tyKnown, isTy, tyBD, List.all_cons, List.all_nil, List.any_cons, List.any_nil, List.contains_cons, List.contains_nil, String.reduceBEq, Bool.true_or, Bool.or_true, Bool.false_or, Bool.or_false, Bool.true_and, Bool.and_true, Bool.false_and, Bool.and_false, cast_0, cast_1, cast_2, cast_3, two_le_size, zero_lt_size, one_lt_size, nodup_nilN, nodup_1, zero_le_size, atI_0, atI_1, atI_2, ixN_30, ixN_31, ixN_32, Option.some.injEq, List.cons.injEq, true_or, or_true, false_or, or_false, h3]
      clear h3
      have hc1 : 0 ≤ c % 2147483549 ∧ c % 2147483549 < 2147483549 := ⟨Int.emod_nonneg _ (by decide), Int.emod_lt_of_pos _ (by decide)⟩
      (try dsimp only); rw [dSeq_ap]; simp (maxSteps := 2000000) only [dVar_ap, dC_ap, dEsc_ap, dPure_ap, dOp_ap, dUn_ap, dNil_ap, dCons_ap, hNil_ap, hCons_ap, dCB_ap, dTup_ap, dLst_ap, dTest_ap, dTru_ap, dAnd_ap, dOr_ap, dNot_ap, dAndV_ap, dOrV_ap, dNotV_ap, dIf_ap, mNil_ap, mPu_ap, mOw_ap, gdName_ap, gdNil_ap, gdCons_ap, gdSeq_ap, dNext_ap, dBreak_ap, dCont_ap, dNever_ap, dDrop_ap, dRet_ap, dRetN_ap, dRetV_ap, dIfS_ap, dAsg_ap, dAsgN_ap, dPar_ap, dPar3_ap, dParT_ap, dIt_ap, dItAny_ap, dItA_ap, dRng1_ap, dRng2_ap, dEnum_ap, dZip_ap, dFor_ap, dWhile_ap, dLc_ap, dRepN_ap, dCatN_ap, dNoPart_ap, dPart_ap, dSl_ap, dSlN_ap, dChain_ap, dListOf_ap, dSortI_ap, dApp_ap, dExt_ap, dSetI_ap, dPop_ap, dPopAt_ap, kNil_ap, kPu_ap, kIo_ap, dCall_ap, kApp_ap, kPerm_ap, dYes_ap, dZipM_ap, dEq, dNe, dEqA, dNeA, dAdd, dI, dI0, dMul, dIx, dIsN, dNotN, dIn, dLen, dInt1, dAbs, dMM, dSum, dMaxL, dMinL, dAll, dTupOf, dIsi, dStrI, dNeg, dSub, dDiv, dMod, dPow, dShl, dShr, dBand, dLt, dLe, dGt, dGe, dCallG, entryN, entry, slotsOf, putOuts, putL, Sl.put, ownL, resolve, look, slD, looks, Sl.ownd, forW, compW, wipeP, backP, D.bls, D.ints, kp, perm, List.filterMap_cons, List.filterMap_nil, List.getElem?_cons_zero, List.getElem?_cons_succ, List.getElem?_nil, List.set_cons_zero, List.set_cons_succ, List.length_cons, List.length_nil, List.replicate_succ, List.replicate_zero, List.append_nil, List.nil_append, List.cons_append, List.map_cons, List.map_nil, Option.bind_some, Option.map_some, Option.isSome_some, Nat.reduceAdd, Nat.reduceSub, Nat.zero_add, Option.bind, Option.map, ↓reduceIte, decide_eq_true_eq, decide_true, decide_false, Bool.false_eq_true, Bool.true_eq_false, Bool.not_true, Bool.not_false, Bool.not_eq_true, Bool.not_eq_false, reduceCtorEq, true_and, and_true, okEq_int, okEq_bl, okEq_non, okEq_ints, okEq_nil, eqv_int, eqv_bl, eqv_nil, List.map_eq_nil_iff, truD, D.isNon, tyName, tyB, tyKnown, isTy, tyBD, List.all_cons, List.all_nil, List.any_cons, List.any_nil, List.contains_cons, List.contains_nil, String.reduceBEq, Bool.true_or, Bool.or_true, Bool.false_or, Bool.or_false, Bool.true_and, Bool.and_true, Bool.false_and, Bool.and_false, cast_0, cast_1, cast_2, cast_3, two_le_size, zero_lt_size, one_lt_size, nodup_nilN, nodup_1, zero_le_size, atI_0, atI_1, atI_2, ixN_30, ixN_31, ixN_32, Option.some.injEq, List.cons.injEq, true_or, or_true, false_or, or_false, hma, toNat5, show (0 : Int) < 2147483549 by decide, show (0 : Int) < 2147483587 by decide]
      refine ⟨cpow_of (h3 := by omega), ?_⟩
      have hy : 0 ≤ (c % 2147483549 + 31259 * a + 5279) ^ 5 % 2147483587 ∧ (c % 2147483549 + 31259 * a + 5279) ^ 5 % 2147483587 < 2147483587 := ⟨Int.emod_nonneg _ (by decide), Int.emod_lt_of_pos _ (by decide)⟩
      generalize (c % 2147483549 + 31259 * a + 5279) ^ 5 % 2147483587 = y at hy ⊢
      (try dsimp only); rw [dSeq_ap]; simp (maxSteps := 2000000) only [dVar_ap, dC_ap, dEsc_ap, dPure_ap, dOp_ap, dUn_ap, dNil_ap, dCons_ap, hNil_ap, hCons_ap, dCB_ap, dTup_ap, dLst_ap, dTest_ap, dTru_ap, dAnd_ap, dOr_ap, dNot_ap, dAndV_ap, dOrV_ap, dNotV_ap, dIf_ap, mNil_ap, mPu_ap, mOw_ap, gdName_ap, gdNil_ap, gdCons_ap, gdSeq_ap, dNext_ap, dBreak_ap, dCont_ap, dNever_ap, dDrop_ap, dRet_ap, dRetN_ap, dRetV_ap, dIfS_ap, dAsg_ap, dAsgN_ap, dPar_ap, dPar3_ap, dParT_ap, dIt_ap, dItAny_ap, dItA_ap, dRng1_ap, dRng2_ap, dEnum_ap, dZip_ap, dFor_ap, dWhile_ap, dLc_ap, dRepN_ap, dCatN_ap, dNoPart_ap, dPart_ap, dSl_ap, dSlN_ap, dChain_ap, dListOf_ap, dSortI_ap, dApp_ap, dExt_ap, dSetI_ap, dPop_ap, dPopAt_ap, kNil_ap, kPu_ap, kIo_ap, dCall_ap, kApp_ap, kPerm_ap, dYes_ap, dZipM_ap, dEq, dNe, dEqA, dNeA, dAdd, dI, dI0, dMul, dIx, dIsN, dNotN, dIn, dLen, dInt1, dAbs, dMM, dSum, dMaxL, dMinL, dAll, dTupOf, dIsi, dStrI, dNeg, dSub, dDiv, dMod, dPow, dShl, dShr, dBand, dLt, dLe, dGt, dGe, dCallG, entryN, entry, slotsOf, putOuts, putL, Sl.put, ownL, resolve, look, slD, looks, Sl.ownd, forW, compW, wipeP, backP, D.bls, D.ints, kp, perm, List.filterMap_cons, List.filterMap_nil, List.getElem?_cons_zero, List.getElem?_cons_succ, List.getElem?_nil, List.set_cons_zero, List.set_cons_succ, List.length_cons, List.length_nil, List.replicate_succ, List.replicate_zero, List.append_nil, List.nil_append, List.cons_append, List.map_cons, List.map_nil, Option.bind_some, Option.map_some, Option.isSome_some, Nat.reduceAdd, Nat.reduceSub, Nat.zero_add, Option.bind, Option.map, ↓reduceIte, decide_eq_true_eq, decide_true, decide_false, Bool.false_eq_true, Bool.true_eq_false, Bool.not_true, Bool.not_false, Bool.not_eq_true, Bool.not_eq_false, reduceCtorEq, true_and, and_true, okEq_int, okEq_bl, okEq_non, okEq_ints, okEq_nil, eqv_int, eqv_bl, eqv_nil, List.map_eq_nil_iff, truD, D.isNon, tyName, tyB, tyKnown, isTy, tyBD, List.all_cons, List.all_nil, List.any_cons, List.any_nil, List.contains_cons, List.contains_nil, String.reduceBEq, Bool.true_or, Bool.or_true, Bool.false_or, Bool.or_false, Bool.true_and, Bool.and_true, Bool.false_and, Bool.and_false, cast_0, cast_1, cast_2, cast_3, two_le_size, zero_lt_size, one_lt_size, nodup_nilN, nodup_1, zero_le_size, atI_0, atI_1, atI_2, ixN_30, ixN_31, ixN_32, Option.some.injEq, List.cons.injEq, true_or, or_true, false_or, or_false, hma, hd32, hm, toNat3, show (0 : Int) < 2147483629 by decide]
      have hp1 := mul_in (x := y) (y := 2 * a + 2671) hy.1 (Int.le_of_lt hy.2) (Y := 202671) (by omega) (by omega)
      have hp2 := mul_in (x := 71341 * a) (y := a) (X := 7134100000) (Y := 100000) (by omega) (by omega) (by omega) (by omega)
      refine ⟨cmul_l _ (by omega) (by omega), cpow_of (h3 := by omega), ?_⟩
      generalize (y * (2 * a + 2671) + 71341 * a * a + 31259) ^ 3 % 2147483629 = z
      exact ends_rt rfl (q _ _ (Int.emod_nonneg _ (by omega)) (Int.emod_lt_of_pos _ hm) (hB _ hr))
theorem Bell.mono {N M : Nat} {b : D} (h : Bell N b) (e : N ≤ M) : Bell M b := by
  obtain ⟨cs, a, r, h0, h1, h2, h3, h4⟩ := h
  exact ⟨cs, a, r, h0, h1, h2, by omega, h4⟩
theorem log_small {n : Nat} (h : n < 2 ^ 1900) : n.log2 < 9000 := by
  by_cases z : n = 0
  · rw [z]; decide
  · exact Nat.lt_trans ((Nat.log2_lt z).mpr h) (by decide)
theorem cut_ints (ns : List Int) (hi : Option Int) : ∃ cs : List Int, Z.cutD (ns.map D.int) none hi = cs.map D.int ∧ cs.length ≤ ns.length := by
  unfold Z.cutD
  rw [← List.map_drop, ← List.map_take]
  exact ⟨_, rfl, by rw [List.length_take, List.length_drop]; omega⟩
theorem hd__law_sieve : ∀ ds Q (E : D → List D → Prop), sp__law_sieve ds Q E → rd__law_sieve { dEnds [false] Q with nx := fun _ => False } (entryN 2 [false] ds) := by
  rintro ds Q E ⟨ns, rfl, hn, q⟩
  unfold rd__law_sieve
  obtain ⟨cs, hcs, hl⟩ := cut_ints ns (some 63)
  simp (maxSteps := 2000000) only [dVar_ap, dC_ap, dEsc_ap, dPure_ap, dOp_ap, dUn_ap, dNil_ap, dCons_ap, hNil_ap, hCons_ap, dCB_ap, dTup_ap, dLst_ap, dTest_ap, dTru_ap, dAnd_ap, dOr_ap, dNot_ap, dAndV_ap, dOrV_ap, dNotV_ap, dIf_ap, mNil_ap, mPu_ap, mOw_ap, gdName_ap, gdNil_ap, gdCons_ap, gdSeq_ap, dNext_ap, dBreak_ap, dCont_ap, dNever_ap, dDrop_ap, dRet_ap, dRetN_ap, dRetV_ap, dIfS_ap, dAsg_ap, dAsgN_ap, dPar_ap, dPar3_ap, dParT_ap, dIt_ap, dItAny_ap, dItA_ap, dRng1_ap, dRng2_ap, dEnum_ap, dZip_ap, dFor_ap, dWhile_ap, dLc_ap, dRepN_ap, dCatN_ap, dNoPart_ap, dPart_ap, dSl_ap, dSlN_ap, dChain_ap, dListOf_ap, dSortI_ap, dApp_ap, dExt_ap, dSetI_ap, dPop_ap, dPopAt_ap, kNil_ap, kPu_ap, kIo_ap, dCall_ap, kApp_ap, kPerm_ap, dYes_ap, dZipM_ap, dEq, dNe, dEqA, dNeA, dAdd, dI, dI0, dMul, dIx, dIsN, dNotN, dIn, dLen, dInt1, dAbs, dMM, dSum, dMaxL, dMinL, dAll, dTupOf, dIsi, dStrI, dNeg, dSub, dDiv, dMod, dPow, dShl, dShr, dBand, dLt, dLe, dGt, dGe, dCallG, entryN, entry, slotsOf, putOuts, putL, Sl.put, ownL, resolve, look, slD, looks, Sl.ownd, forW, compW, wipeP, backP, D.bls, D.ints, kp, perm, List.filterMap_cons, List.filterMap_nil, List.getElem?_cons_zero, List.getElem?_cons_succ, List.getElem?_nil, List.set_cons_zero, List.set_cons_succ, List.length_cons, List.length_nil, List.replicate_succ, List.replicate_zero, List.append_nil, List.nil_append, List.cons_append, List.map_cons, List.map_nil, Option.bind_some, Option.map_some, Option.isSome_some, Nat.reduceAdd, Nat.reduceSub, Nat.zero_add, Option.bind, Option.map, ↓reduceIte, decide_eq_true_eq, decide_true, decide_false, Bool.false_eq_true, Bool.true_eq_false, Bool.not_true, Bool.not_false, Bool.not_eq_true, Bool.not_eq_false, reduceCtorEq, true_and, and_true, okEq_int, okEq_bl, okEq_non, okEq_ints, okEq_nil, eqv_int, eqv_bl, eqv_nil, List.map_eq_nil_iff, truD, D.isNon, tyName, tyB, tyKnown, isTy, tyBD, List.all_cons, List.all_nil, List.any_cons, List.any_nil, List.contains_cons, List.contains_nil, String.reduceBEq, Bool.true_or, Bool.or_true, Bool.false_or, Bool.or_false, Bool.true_and, Bool.and_true, Bool.false_and, Bool.and_false, cast_0, cast_1, cast_2, cast_3, two_le_size, zero_lt_size, one_lt_size, nodup_nilN, nodup_1, zero_le_size, atI_0, atI_1, atI_2, ixN_30, ixN_31, ixN_32, Option.some.injEq, List.cons.injEq, true_or, or_true, false_or, or_false, hcs]
  refine .inl ?_
  simp (maxSteps := 2000000) only [dVar_ap, dC_ap, dEsc_ap, dPure_ap, dOp_ap, dUn_ap, dNil_ap, dCons_ap, hNil_ap, hCons_ap, dCB_ap, dTup_ap, dLst_ap, dTest_ap, dTru_ap, dAnd_ap, dOr_ap, dNot_ap, dAndV_ap, dOrV_ap, dNotV_ap, dIf_ap, mNil_ap, mPu_ap, mOw_ap, gdName_ap, gdNil_ap, gdCons_ap, gdSeq_ap, dNext_ap, dBreak_ap, dCont_ap, dNever_ap, dDrop_ap, dRet_ap, dRetN_ap, dRetV_ap, dIfS_ap, dAsg_ap, dAsgN_ap, dPar_ap, dPar3_ap, dParT_ap, dIt_ap, dItAny_ap, dItA_ap, dRng1_ap, dRng2_ap, dEnum_ap, dZip_ap, dFor_ap, dWhile_ap, dLc_ap, dRepN_ap, dCatN_ap, dNoPart_ap, dPart_ap, dSl_ap, dSlN_ap, dChain_ap, dListOf_ap, dSortI_ap, dApp_ap, dExt_ap, dSetI_ap, dPop_ap, dPopAt_ap, kNil_ap, kPu_ap, kIo_ap, dCall_ap, kApp_ap, kPerm_ap, dYes_ap, dZipM_ap, dEq, dNe, dEqA, dNeA, dAdd, dI, dI0, dMul, dIx, dIsN, dNotN, dIn, dLen, dInt1, dAbs, dMM, dSum, dMaxL, dMinL, dAll, dTupOf, dIsi, dStrI, dNeg, dSub, dDiv, dMod, dPow, dShl, dShr, dBand, dLt, dLe, dGt, dGe, dCallG, entryN, entry, slotsOf, putOuts, putL, Sl.put, ownL, resolve, look, slD, looks, Sl.ownd, forW, compW, wipeP, backP, D.bls, D.ints, kp, perm, List.filterMap_cons, List.filterMap_nil, List.getElem?_cons_zero, List.getElem?_cons_succ, List.getElem?_nil, List.set_cons_zero, List.set_cons_succ, List.length_cons, List.length_nil, List.replicate_succ, List.replicate_zero, List.append_nil, List.nil_append, List.cons_append, List.map_cons, List.map_nil, Option.bind_some, Option.map_some, Option.isSome_some, Nat.reduceAdd, Nat.reduceSub, Nat.zero_add, Option.bind, Option.map, ↓reduceIte, decide_eq_true_eq, decide_true, decide_false, Bool.false_eq_true, Bool.true_eq_false, Bool.not_true, Bool.not_false, Bool.not_eq_true, Bool.not_eq_false, reduceCtorEq, true_and, and_true, okEq_int, okEq_bl, okEq_non, okEq_ints, okEq_nil, eqv_int, eqv_bl, eqv_nil, List.map_eq_nil_iff, truD, D.isNon, tyName, tyB, tyKnown, isTy, tyBD, List.all_cons, List.all_nil, List.any_cons, List.any_nil, List.contains_cons, List.contains_nil, String.reduceBEq, Bool.true_or, Bool.or_true, Bool.false_or, Bool.or_false, Bool.true_and, Bool.and_true, Bool.false_and, Bool.and_false, cast_0, cast_1, cast_2, cast_3, two_le_size, zero_lt_size, one_lt_size, nodup_nilN, nodup_1, zero_le_size, atI_0, atI_1, atI_2, ixN_30, ixN_31, ixN_32, Option.some.injEq, List.cons.injEq, true_or, or_true, false_or, or_false, hcs, itD]
  refine compW_map D.int D.int _ cs (lt_size (by omega)) (fun c acc R hm ha hR => ?_) ?_
  · simp (maxSteps := 2000000) only [dVar_ap, dC_ap, dEsc_ap, dPure_ap, dOp_ap, dUn_ap, dNil_ap, dCons_ap, hNil_ap, hCons_ap, dCB_ap, dTup_ap, dLst_ap, dTest_ap, dTru_ap, dAnd_ap, dOr_ap, dNot_ap, dAndV_ap, dOrV_ap, dNotV_ap, dIf_ap, mNil_ap, mPu_ap, mOw_ap, gdName_ap, gdNil_ap, gdCons_ap, gdSeq_ap, dNext_ap, dBreak_ap, dCont_ap, dNever_ap, dDrop_ap, dRet_ap, dRetN_ap, dRetV_ap, dIfS_ap, dAsg_ap, dAsgN_ap, dPar_ap, dPar3_ap, dParT_ap, dIt_ap, dItAny_ap, dItA_ap, dRng1_ap, dRng2_ap, dEnum_ap, dZip_ap, dFor_ap, dWhile_ap, dLc_ap, dRepN_ap, dCatN_ap, dNoPart_ap, dPart_ap, dSl_ap, dSlN_ap, dChain_ap, dListOf_ap, dSortI_ap, dApp_ap, dExt_ap, dSetI_ap, dPop_ap, dPopAt_ap, kNil_ap, kPu_ap, kIo_ap, dCall_ap, kApp_ap, kPerm_ap, dYes_ap, dZipM_ap, dEq, dNe, dEqA, dNeA, dAdd, dI, dI0, dMul, dIx, dIsN, dNotN, dIn, dLen, dInt1, dAbs, dMM, dSum, dMaxL, dMinL, dAll, dTupOf, dIsi, dStrI, dNeg, dSub, dDiv, dMod, dPow, dShl, dShr, dBand, dLt, dLe, dGt, dGe, dCallG, entryN, entry, slotsOf, putOuts, putL, Sl.put, ownL, resolve, look, slD, looks, Sl.ownd, forW, compW, wipeP, backP, D.bls, D.ints, kp, perm, List.filterMap_cons, List.filterMap_nil, List.getElem?_cons_zero, List.getElem?_cons_succ, List.getElem?_nil, List.set_cons_zero, List.set_cons_succ, List.length_cons, List.length_nil, List.replicate_succ, List.replicate_zero, List.append_nil, List.nil_append, List.cons_append, List.map_cons, List.map_nil, Option.bind_some, Option.map_some, Option.isSome_some, Nat.reduceAdd, Nat.reduceSub, Nat.zero_add, Option.bind, Option.map, ↓reduceIte, decide_eq_true_eq, decide_true, decide_false, Bool.false_eq_true, Bool.true_eq_false, Bool.not_true, Bool.not_false, Bool.not_eq_true, Bool.not_eq_false, reduceCtorEq, true_and, and_true, okEq_int, okEq_bl, okEq_non, okEq_ints, okEq_nil, eqv_int, eqv_bl, eqv_nil, List.map_eq_nil_iff, truD, D.isNon, tyName, tyB, tyKnown, isTy, tyBD, List.all_cons, List.all_nil, List.any_cons, List.any_nil, List.contains_cons, List.contains_nil, String.reduceBEq, Bool.true_or, Bool.or_true, Bool.false_or, Bool.or_false, Bool.true_and, Bool.and_true, Bool.false_and, Bool.and_false, cast_0, cast_1, cast_2, cast_3, two_le_size, zero_lt_size, one_lt_size, nodup_nilN, nodup_1, zero_le_size, atI_0, atI_1, atI_2, ixN_30, ixN_31, ixN_32, Option.some.injEq, List.cons.injEq, true_or, or_true, false_or, or_false, ha]; exact hR
  · refine ⟨by decide, _, rfl, q _ ⟨cs, 0, 0, rfl, by omega, by omega, by omega, by omega⟩⟩
def sp__law_one : DSp := fun ds Q _ => ∃ (b : D) (N : Nat) (xs : List D), ds = [b, .lst xs] ∧ Bell N b ∧ N ≤ 100000 ∧ 0 < xs.length ∧ xs.length ≤ 1000 ∧ ∀ x ∈ xs, ∀ b', Bell (N + 1) b' → Q x [b']
theorem nat_log_small {n : Nat} (h : n ≤ 2 ^ 100) : (n : Int).natAbs.log2 < 9000 := by
  rw [Int.natAbs_natCast]; exact log_small (Nat.lt_of_le_of_lt h (by decide))
theorem hd__law_one : ∀ ds Q (E : D → List D → Prop), sp__law_one ds Q E → rd__law_one sp__law_sift (dEnds [true, false] Q) (entryN 2 [true, false] ds) := by
  rintro ds Q E ⟨b, N, xs, rfl, hb, hN, h0, h1, q⟩
  unfold rd__law_one
  simp (maxSteps := 2000000) only [dVar_ap, dC_ap, dEsc_ap, dPure_ap, dOp_ap, dUn_ap, dNil_ap, dCons_ap, hNil_ap, hCons_ap, dCB_ap, dTup_ap, dLst_ap, dTest_ap, dTru_ap, dAnd_ap, dOr_ap, dNot_ap, dAndV_ap, dOrV_ap, dNotV_ap, dIf_ap, mNil_ap, mPu_ap, mOw_ap, gdName_ap, gdNil_ap, gdCons_ap, gdSeq_ap, dNext_ap, dBreak_ap, dCont_ap, dNever_ap, dDrop_ap, dRet_ap, dRetN_ap, dRetV_ap, dIfS_ap, dAsg_ap, dAsgN_ap, dPar_ap, dPar3_ap, dParT_ap, dIt_ap, dItAny_ap, dItA_ap, dRng1_ap, dRng2_ap, dEnum_ap, dZip_ap, dFor_ap, dWhile_ap, dLc_ap, dRepN_ap, dCatN_ap, dNoPart_ap, dPart_ap, dSl_ap, dSlN_ap, dChain_ap, dListOf_ap, dSortI_ap, dApp_ap, dExt_ap, dSetI_ap, dPop_ap, dPopAt_ap, kNil_ap, kPu_ap, kIo_ap, dCall_ap, kApp_ap, kPerm_ap, dYes_ap, dZipM_ap, dEq, dNe, dEqA, dNeA, dAdd, dI, dI0, dMul, dIx, dIsN, dNotN, dIn, dLen, dInt1, dAbs, dMM, dSum, dMaxL, dMinL, dAll, dTupOf, dIsi, dStrI, dNeg, dSub, dDiv, dMod, dPow, dShl, dShr, dBand, dLt, dLe, dGt, dGe, dCallG, entryN, entry, slotsOf, putOuts, putL, Sl.put, ownL, resolve, look, slD, looks, Sl.ownd, forW, compW, wipeP, backP, D.bls, D.ints, kp, perm, List.filterMap_cons, List.filterMap_nil, List.getElem?_cons_zero, List.getElem?_cons_succ, List.getElem?_nil, List.set_cons_zero, List.set_cons_succ, List.length_cons, List.length_nil, List.replicate_succ, List.replicate_zero, List.append_nil, List.nil_append, List.cons_append, List.map_cons, List.map_nil, Option.bind_some, Option.map_some, Option.isSome_some, Nat.reduceAdd, Nat.reduceSub, Nat.zero_add, Option.bind, Option.map, ↓reduceIte, decide_eq_true_eq, decide_true, decide_false, Bool.false_eq_true, Bool.true_eq_false, Bool.not_true, Bool.not_false, Bool.not_eq_true, Bool.not_eq_false, reduceCtorEq, true_and, and_true, okEq_int, okEq_bl, okEq_non, okEq_ints, okEq_nil, eqv_int, eqv_bl, eqv_nil, List.map_eq_nil_iff, truD, D.isNon, tyName, tyB, tyKnown, isTy, tyBD, List.all_cons, List.all_nil, List.any_cons, List.any_nil, List.contains_cons, List.contains_nil, String.reduceBEq, Bool.true_or, Bool.or_true, Bool.false_or, Bool.or_false, Bool.true_and, Bool.and_true, Bool.false_and, Bool.and_false, cast_0, cast_1, cast_2, cast_3, two_le_size, zero_lt_size, one_lt_size, nodup_nilN, nodup_1, zero_le_size, atI_0, atI_1, atI_2, ixN_30, ixN_31, ixN_32, Option.some.injEq, List.cons.injEq, true_or, or_true, false_or, or_false]
  refine ⟨b, N, xs.length, rfl, hb, hN, by omega, nat_log_small (Nat.le_trans h1 (by decide)), fun k b' k0 k1 hb' => ?_⟩
  obtain ⟨x, hx, e, _⟩ := atI_in (xs := xs) k0 k1
  simp (maxSteps := 2000000) only [dVar_ap, dC_ap, dEsc_ap, dPure_ap, dOp_ap, dUn_ap, dNil_ap, dCons_ap, hNil_ap, hCons_ap, dCB_ap, dTup_ap, dLst_ap, dTest_ap, dTru_ap, dAnd_ap, dOr_ap, dNot_ap, dAndV_ap, dOrV_ap, dNotV_ap, dIf_ap, mNil_ap, mPu_ap, mOw_ap, gdName_ap, gdNil_ap, gdCons_ap, gdSeq_ap, dNext_ap, dBreak_ap, dCont_ap, dNever_ap, dDrop_ap, dRet_ap, dRetN_ap, dRetV_ap, dIfS_ap, dAsg_ap, dAsgN_ap, dPar_ap, dPar3_ap, dParT_ap, dIt_ap, dItAny_ap, dItA_ap, dRng1_ap, dRng2_ap, dEnum_ap, dZip_ap, dFor_ap, dWhile_ap, dLc_ap, dRepN_ap, dCatN_ap, dNoPart_ap, dPart_ap, dSl_ap, dSlN_ap, dChain_ap, dListOf_ap, dSortI_ap, dApp_ap, dExt_ap, dSetI_ap, dPop_ap, dPopAt_ap, kNil_ap, kPu_ap, kIo_ap, dCall_ap, kApp_ap, kPerm_ap, dYes_ap, dZipM_ap, dEq, dNe, dEqA, dNeA, dAdd, dI, dI0, dMul, dIx, dIsN, dNotN, dIn, dLen, dInt1, dAbs, dMM, dSum, dMaxL, dMinL, dAll, dTupOf, dIsi, dStrI, dNeg, dSub, dDiv, dMod, dPow, dShl, dShr, dBand, dLt, dLe, dGt, dGe, dCallG, entryN, entry, slotsOf, putOuts, putL, Sl.put, ownL, resolve, look, slD, looks, Sl.ownd, forW, compW, wipeP, backP, D.bls, D.ints, kp, perm, List.filterMap_cons, List.filterMap_nil, List.getElem?_cons_zero, List.getElem?_cons_succ, List.getElem?_nil, List.set_cons_zero, List.set_cons_succ, List.length_cons, List.length_nil, List.replicate_succ, List.replicate_zero, List.append_nil, List.nil_append, List.cons_append, List.map_cons, List.map_nil, Option.bind_some, Option.map_some, Option.isSome_some, Nat.reduceAdd, Nat.reduceSub, Nat.zero_add, Option.bind, Option.map, ↓reduceIte, decide_eq_true_eq, decide_true, decide_false, Bool.false_eq_true, Bool.true_eq_false, Bool.not_true, Bool.not_false, Bool.not_eq_true, Bool.not_eq_false, reduceCtorEq, true_and, and_true, okEq_int, okEq_bl, okEq_non, okEq_ints, okEq_nil, eqv_int, eqv_bl, eqv_nil, List.map_eq_nil_iff, truD, D.isNon, tyName, tyB, tyKnown, isTy, tyBD, List.all_cons, List.all_nil, List.any_cons, List.any_nil, List.contains_cons, List.contains_nil, String.reduceBEq, Bool.true_or, Bool.or_true, Bool.false_or, Bool.or_false, Bool.true_and, Bool.and_true, Bool.false_and, Bool.and_false, cast_0, cast_1, cast_2, cast_3, two_le_size, zero_lt_size, one_lt_size, nodup_nilN, nodup_1, zero_le_size, atI_0, atI_1, atI_2, ixN_30, ixN_31, ixN_32, Option.some.injEq, List.cons.injEq, true_or, or_true, false_or, or_false, e]
  exact ends_rt rfl (q x hx b' hb')
inductive InR (lo hi : Int) : List D → Prop
  | nil : InR lo hi []
  | cons {i : Int} {xs : List D} : lo ≤ i ∧ i ≤ hi → InR lo hi xs → InR lo hi (.int i :: xs)
theorem InR.mem {lo hi : Int} {xs : List D} (h : InR lo hi xs) : ∀ x ∈ xs, ∃ i : Int, x = .int i ∧ lo ≤ i ∧ i ≤ hi := by
  induction h with
  | nil => intro x hx; cases hx
  | cons h _ ih =>
    intro x hx
    rcases List.mem_cons.mp hx with rfl | hx
    · exact ⟨_, rfl, h⟩
    · exact ih x hx
theorem pick_in {b : D} {N : Nat} {xs : List D} (lo hi : Int) {Q E : D → List D → Prop} (hb : Bell N b) (hN : N ≤ 100000) (h0 : 0 < xs.length ∧ xs.length ≤ 1000) (hx : InR lo hi xs)
    (k : ∀ i b', lo ≤ i → i ≤ hi → Bell (N + 1) b' → Q (.int i) [b']) : sp__law_one [b, .lst xs] Q E := by
  refine ⟨b, N, xs, rfl, hb, hN, h0.1, h0.2, fun x hm b' hb' => ?_⟩
  obtain ⟨i, rfl, h1, h2⟩ := hx.mem x hm
  exact k i b' h1 h2 hb'
theorem count_in {b : D} {N : Nat} {m : Int} {Q E : D → List D → Prop} (hb : Bell N b) (hN : N ≤ 100000) (h0 : 0 < m) (hm : m ≤ 2 ^ 100)
    (k : ∀ i b', 0 ≤ i → i < m → Bell (N + 1) b' → Q (.int i) [b']) : sp__law_sift [b, .int m] Q E :=
  ⟨b, N, m, rfl, hb, hN, h0, by
    have e : m = ((m.toNat : Nat) : Int) := by omega
    rw [e]; exact nat_log_small (by omega), k⟩
end G

set_option Elab.async false
set_option linter.all false
set_option maxRecDepth 100000
set_option maxHeartbeats 400000
set_option exponentiation.threshold 4000
namespace G
open PySem PySem.Spec PyProof.Rows L2 Z
/-! ## the values -/
def okS (z : Str) : Prop := z.length ≤ 100 ∧ ∀ c ∈ z.cps.toList, c < 1114112
def Elt (d : D) : Prop := d = .non ∨ (∃ b, d = .bl b) ∨ (∃ i, d = .int i) ∨ (∃ z, d = .str z ∧ okS z) ∨ ∃ i : Int, d = .lst [.int i]
def Val (d : D) : Prop := d = .non ∨ (∃ b, d = .bl b) ∨ (∃ i, d = .int i) ∨ (∃ z, d = .str z ∧ okS z) ∨ (∃ l, (d = .lst l ∨ d = .tup l) ∧ l.length ≤ 100 ∧ ∀ x ∈ l, Elt x) ∨ ∃ ks ds, d = .dic ks ds
theorem Elt.val {d : D} (h : Elt d) : Val d := by
  rcases h with h | h | h | h | ⟨i, rfl⟩
  · exact .inl h
  · exact .inr (.inl h)
  · exact .inr (.inr (.inl h))
  · exact .inr (.inr (.inr (.inl h)))
  · refine .inr (.inr (.inr (.inr (.inl ⟨_, .inl rfl, by simp, fun x hx => ?_⟩))))
    rw [List.mem_singleton.mp hx]
    exact .inr (.inr (.inl ⟨i, rfl⟩))
def isI : D → Bool
  | .int _ => true
  | _ => false
def leN (lo : D) (i : Int) : Bool := match lo with
  | .int j => decide (j ≤ i)
  | _ => true
def geN (hi : D) (i : Int) : Bool := match hi with
  | .int j => decide (i ≤ j)
  | _ => true
def isW (v lo hi : D) : Bool := match v with
  | .int i => leN lo i && geN hi i
  | _ => false
def Bd (d : D) : Prop := d = .non ∨ ∃ i, d = .int i
def sign01 (c : Nat) : Bool := decide (c = 48) || decide (c = 49)
def isN : D → Bool
  | .str z => decide (1 ≤ z.length) && (decide (z.length ≤ 60) && z.cps.toList.all sign01)
  | _ => false
def one6 : D → Bool := fun d => isW d (.int 1) (.int 1000000)
def isP : D → Bool
  | .lst l => decide (l.length = 2) && l.all one6
  | .tup l => decide (l.length = 2) && l.all one6
  | _ => false
def sp_is_integer : DSp := fun ds Q _ => ∃ v, ds = [v] ∧ Val v ∧ Q (.bl (isI v)) []
theorem hd_is_integer : ∀ ds Q (E : D → List D → Prop), sp_is_integer ds Q E → rd_is_integer (dEnds [false] Q) (entryN 1 [false] ds) := by
  rintro ds Q E ⟨v, rfl, h, q⟩
  unfold rd_is_integer
  rcases h with rfl | ⟨b, rfl⟩ | ⟨i, rfl⟩ | ⟨z, rfl, _⟩ | ⟨l, rfl | rfl, _⟩ | ⟨ks, ds, rfl⟩ <;> (simp (maxSteps := 2000000) only [dVar_ap, dC_ap, dEsc_ap, dPure_ap, dOp_ap, dUn_ap, dNil_ap, dCons_ap, hNil_ap, hCons_ap, dCB_ap, dTup_ap, dLst_ap, dTest_ap, dTru_ap, dAnd_ap, dOr_ap, dNot_ap, dAndV_ap, dOrV_ap, dNotV_ap, dIf_ap, mNil_ap, mPu_ap, mOw_ap, gdName_ap, gdNil_ap, gdCons_ap, gdSeq_ap, dNext_ap, dBreak_ap, dCont_ap, dNever_ap, dDrop_ap, dRet_ap, dRetN_ap, dRetV_ap, dIfS_ap, dAsg_ap, dAsgN_ap, dPar_ap, dPar3_ap, dParT_ap, dIt_ap, dItAny_ap, dItA_ap, dRng1_ap, dRng2_ap, dEnum_ap, dZip_ap, dFor_ap, dWhile_ap, dLc_ap, dRepN_ap, dCatN_ap, dNoPart_ap, dPart_ap, dSl_ap, dSlN_ap, dChain_ap, dListOf_ap, dSortI_ap, dApp_ap, dExt_ap, dSetI_ap, dPop_ap, dPopAt_ap, kNil_ap, kPu_ap, kIo_ap, dCall_ap, kApp_ap, kPerm_ap, dYes_ap, dZipM_ap, dEq, dNe, dEqA, dNeA, dAdd, dI, dI0, dMul, dIx, dIsN, dNotN, dIn, dLen, dInt1, dAbs, dMM, dSum, dMaxL, dMinL, dAll, dTupOf, dIsi, dStrI, dNeg, dSub, dDiv, dMod, dPow, dShl, dShr, dBand, dLt, dLe, dGt, dGe, dCallG, entryN, entry, slotsOf, putOuts, putL, Sl.put, ownL, resolve, look, slD, looks, Sl.ownd, forW, compW, wipeP, backP, D.bls, D.ints, kp, perm, List.filterMap_cons, List.filterMap_nil, List.getElem?_cons_zero, List.getElem?_cons_succ, List.getElem?_nil, List.set_cons_zero, List.set_cons_succ, List.length_cons, List.length_nil, List.replicate_succ, List.replicate_zero, List.append_nil, List.nil_append, List.cons_append, List.map_cons, List.map_nil, Option.bind_some, Option.map_some, Option.isSome_some, Nat.reduceAdd, Nat.reduceSub, Nat.zero_add, Option.bind, Option.map, ↓reduceIte, decide_eq_true_eq, decide_true, decide_false, Bool.false_eq_true, Bool.true_eq_false, Bool.not_true, Bool.not_false, Bool.not_eq_true, Bool.not_eq_false, reduceCtorEq, true_and, and_true, okEq_int, okEq_bl, okEq_non, okEq_ints, okEq_nil, eqv_int, eqv_bl, eqv_nil, List.map_eq_nil_iff, truD, D.isNon, tyName, tyB, tyKnown, isTy, tyBD, List.all_cons, List.all_nil, List.any_cons, List.any_nil, List.contains_cons, List.contains_nil, String.reduceBEq, Bool.true_or, Bool.or_true, Bool.false_or, Bool.or_false, Bool.true_and, Bool.and_true, Bool.false_and, Bool.and_false, cast_0, cast_1, cast_2, cast_3, two_le_size, zero_lt_size, one_lt_size, nodup_nilN, nodup_1, zero_le_size, atI_0, atI_1, atI_2, ixN_30, ixN_31, ixN_32, Option.some.injEq, List.cons.injEq, true_or, or_true, false_or, or_false]; exact ends_rt rfl q)
def sp__law_is_integer : DSp := sp_is_integer
theorem hd__law_is_integer : ∀ ds Q (E : D → List D → Prop), sp__law_is_integer ds Q E → rd__law_is_integer (dEnds [false] Q) (entryN 1 [false] ds) := by
  rintro ds Q E ⟨v, rfl, h, q⟩
  unfold rd__law_is_integer
  rcases h with rfl | ⟨b, rfl⟩ | ⟨i, rfl⟩ | ⟨z, rfl, _⟩ | ⟨l, rfl | rfl, _⟩ | ⟨ks, ds, rfl⟩
  · simp (maxSteps := 2000000) only [dVar_ap, dC_ap, dEsc_ap, dPure_ap, dOp_ap, dUn_ap, dNil_ap, dCons_ap, hNil_ap, hCons_ap, dCB_ap, dTup_ap, dLst_ap, dTest_ap, dTru_ap, dAnd_ap, dOr_ap, dNot_ap, dAndV_ap, dOrV_ap, dNotV_ap, dIf_ap, mNil_ap, mPu_ap, mOw_ap, gdName_ap, gdNil_ap, gdCons_ap, gdSeq_ap, dNext_ap, dBreak_ap, dCont_ap, dNever_ap, dDrop_ap, dRet_ap, dRetN_ap, dRetV_ap, dIfS_ap, dAsg_ap, dAsgN_ap, dPar_ap, dPar3_ap, dParT_ap, dIt_ap, dItAny_ap, dItA_ap, dRng1_ap, dRng2_ap, dEnum_ap, dZip_ap, dFor_ap, dWhile_ap, dLc_ap, dRepN_ap, dCatN_ap, dNoPart_ap, dPart_ap, dSl_ap, dSlN_ap, dChain_ap, dListOf_ap, dSortI_ap, dApp_ap, dExt_ap, dSetI_ap, dPop_ap, dPopAt_ap, kNil_ap, kPu_ap, kIo_ap, dCall_ap, kApp_ap, kPerm_ap, dYes_ap, dZipM_ap, dEq, dNe, dEqA, dNeA, dAdd, dI, dI0, dMul, dIx, dIsN, dNotN, dIn, dLen, dInt1, dAbs, dMM, dSum, dMaxL, dMinL, dAll, dTupOf, dIsi, dStrI, dNeg, dSub, dDiv, dMod, dPow, dShl, dShr, dBand, dLt, dLe, dGt, dGe, dCallG, entryN, entry, slotsOf, putOuts, putL, Sl.put, ownL, resolve, look, slD, looks, Sl.ownd, forW, compW, wipeP, backP, D.bls, D.ints, kp, perm, List.filterMap_cons, List.filterMap_nil, List.getElem?_cons_zero, List.getElem?_cons_succ, List.getElem?_nil, List.set_cons_zero, List.set_cons_succ, List.length_cons, List.length_nil, List.replicate_succ, List.replicate_zero, List.append_nil, List.nil_append, List.cons_append, List.map_cons, List.map_nil, Option.bind_some, Option.map_some, Option.isSome_some, Nat.reduceAdd, Nat.reduceSub, Nat.zero_add, Option.bind, Option.map, ↓reduceIte, decide_eq_true_eq, decide_true, decide_false, Bool.false_eq_true, Bool.true_eq_false, Bool.not_true, Bool.not_false, Bool.not_eq_true, Bool.not_eq_false, reduceCtorEq, true_and, and_true, okEq_int, okEq_bl, okEq_non, okEq_ints, okEq_nil, eqv_int, eqv_bl, eqv_nil, List.map_eq_nil_iff, truD, D.isNon, tyName, tyB, tyKnown, isTy, tyBD, List.all_cons, List.all_nil, List.any_cons, List.any_nil, List.contains_cons, List.contains_nil, String.reduceBEq, Bool.true_or, Bool.or_true, Bool.false_or, Bool.or_false, Bool.true_and, Bool.and_true, Bool.false_and, Bool.and_false, cast_0, cast_1, cast_2, cast_3, two_le_size, zero_lt_size, one_lt_size, nodup_nilN, nodup_1, zero_le_size, atI_0, atI_1, atI_2, ixN_30, ixN_31, ixN_32, Option.some.injEq, List.cons.injEq, true_or, or_true, false_or, or_false]; exact ends_rt rfl q
  · cases b <;> (simp (maxSteps := 2000000) only [dVar_ap, dC_ap, dEsc_ap, dPure_ap, dOp_ap, dUn_ap, dNil_ap, dCons_ap, hNil_ap, hCons_ap, dCB_ap, dTup_ap, dLst_ap, dTest_ap, dTru_ap, dAnd_ap, dOr_ap, dNot_ap, dAndV_ap, dOrV_ap, dNotV_ap, dIf_ap, mNil_ap, mPu_ap, mOw_ap, gdName_ap, gdNil_ap, gdCons_ap, gdSeq_ap, dNext_ap, dBreak_ap, dCont_ap, dNever_ap, dDrop_ap, dRet_ap, dRetN_ap, dRetV_ap, dIfS_ap, dAsg_ap, dAsgN_ap, dPar_ap, dPar3_ap, dParT_ap, dIt_ap, dItAny_ap, dItA_ap, dRng1_ap, dRng2_ap, dEnum_ap, dZip_ap, dFor_ap, dWhile_ap, dLc_ap, dRepN_ap, dCatN_ap, dNoPart_ap, dPart_ap, dSl_ap, dSlN_ap, dChain_ap, dListOf_ap, dSortI_ap, dApp_ap, dExt_ap, dSetI_ap, dPop_ap, dPopAt_ap, kNil_ap, kPu_ap, kIo_ap, dCall_ap, kApp_ap, kPerm_ap, dYes_ap, dZipM_ap, dEq, dNe, dEqA, dNeA, dAdd, dI, dI0, dMul, dIx, dIsN, dNotN, dIn, dLen, dInt1, dAbs, dMM, dSum, dMaxL, dMinL, dAll, dTupOf, dIsi, dStrI, dNeg, dSub, dDiv, dMod, dPow, dShl, dShr, dBand, dLt, dLe, dGt, dGe, dCallG, entryN, entry, slotsOf, putOuts, putL, Sl.put, ownL, resolve, look, slD, looks, Sl.ownd, forW, compW, wipeP, backP, D.bls, D.ints, kp, perm, List.filterMap_cons, List.filterMap_nil, List.getElem?_cons_zero, List.getElem?_cons_succ, List.getElem?_nil, List.set_cons_zero, List.set_cons_succ, List.length_cons, List.length_nil, List.replicate_succ, List.replicate_zero, List.append_nil, List.nil_append, List.cons_append, List.map_cons, List.map_nil, Option.bind_some, Option.map_some, Option.isSome_some, Nat.reduceAdd, Nat.reduceSub, Nat.zero_add, Option.bind, Option.map, ↓reduceIte, decide_eq_true_eq, decide_true, decide_false, Bool.false_eq_true, Bool.true_eq_false, Bool.not_true, Bool.not_false, Bool.not_eq_true, Bool.not_eq_false, reduceCtorEq, true_and, and_true, okEq_int, okEq_bl, okEq_non, okEq_ints, okEq_nil, eqv_int, eqv_bl, eqv_nil, List.map_eq_nil_iff, truD, D.isNon, tyName, tyB, tyKnown, isTy, tyBD, List.all_cons, List.all_nil, List.any_cons, List.any_nil, List.contains_cons, List.contains_nil, String.reduceBEq, Bool.true_or, Bool.or_true, Bool.false_or, Bool.or_false, Bool.true_and, Bool.and_true, Bool.false_and, Bool.and_false, cast_0, cast_1, cast_2, cast_3, two_le_size, zero_lt_size, one_lt_size, nodup_nilN, nodup_1, zero_le_size, atI_0, atI_1, atI_2, ixN_30, ixN_31, ixN_32, Option.some.injEq, List.cons.injEq, true_or, or_true, false_or, or_false, dNotBA]; exact ends_rt rfl q)
  · simp (maxSteps := 2000000) only [dVar_ap, dC_ap, dEsc_ap, dPure_ap, dOp_ap, dUn_ap, dNil_ap, dCons_ap, hNil_ap, hCons_ap, dCB_ap, dTup_ap, dLst_ap, dTest_ap, dTru_ap, dAnd_ap, dOr_ap, dNot_ap, dAndV_ap, dOrV_ap, dNotV_ap, dIf_ap, mNil_ap, mPu_ap, mOw_ap, gdName_ap, gdNil_ap, gdCons_ap, gdSeq_ap, dNext_ap, dBreak_ap, dCont_ap, dNever_ap, dDrop_ap, dRet_ap, dRetN_ap, dRetV_ap, dIfS_ap, dAsg_ap, dAsgN_ap, dPar_ap, dPar3_ap, dParT_ap, dIt_ap, dItAny_ap, dItA_ap, dRng1_ap, dRng2_ap, dEnum_ap, dZip_ap, dFor_ap, dWhile_ap, dLc_ap, dRepN_ap, dCatN_ap, dNoPart_ap, dPart_ap, dSl_ap, dSlN_ap, dChain_ap, dListOf_ap, dSortI_ap, dApp_ap, dExt_ap, dSetI_ap, dPop_ap, dPopAt_ap, kNil_ap, kPu_ap, kIo_ap, dCall_ap, kApp_ap, kPerm_ap, dYes_ap, dZipM_ap, dEq, dNe, dEqA, dNeA, dAdd, dI, dI0, dMul, dIx, dIsN, dNotN, dIn, dLen, dInt1, dAbs, dMM, dSum, dMaxL, dMinL, dAll, dTupOf, dIsi, dStrI, dNeg, dSub, dDiv, dMod, dPow, dShl, dShr, dBand, dLt, dLe, dGt, dGe, dCallG, entryN, entry, slotsOf, putOuts, putL, Sl.put, ownL, resolve, look, slD, looks, Sl.ownd, forW, compW, wipeP, backP, D.bls, D.ints, kp, perm, List.filterMap_cons, List.filterMap_nil, List.getElem?_cons_zero, List.getElem?_cons_succ, List.getElem?_nil, List.set_cons_zero, List.set_cons_succ, List.length_cons, List.length_nil, List.replicate_succ, List.replicate_zero, List.append_nil, List.nil_append, List.cons_append, List.map_cons, List.map_nil, Option.bind_some, Option.map_some, Option.isSome_some, Nat.reduceAdd, Nat.reduceSub, Nat.zero_add, Option.bind, Option.map, ↓reduceIte, decide_eq_true_eq, decide_true, decide_false, Bool.false_eq_true, Bool.true_eq_false, Bool.not_true, Bool.not_false, Bool.not_eq_true, Bool.not_eq_false, reduceCtorEq, true_and, and_true, okEq_int, okEq_bl, okEq_non, okEq_ints, okEq_nil, eqv_int, eqv_bl, eqv_nil, List.map_eq_nil_iff, truD, D.isNon, tyName, tyB, tyKnown, isTy, tyBD, List.all_cons, List.all_nil, List.any_cons, List.any_nil, List.contains_cons, List.contains_nil, String.reduceBEq, Bool.true_or, Bool.or_true, Bool.false_or, Bool.or_false, Bool.true_and, Bool.and_true, Bool.false_and, Bool.and_false, cast_0, cast_1, cast_2, cast_3, two_le_size, zero_lt_size, one_lt_size, nodup_nilN, nodup_1, zero_le_size, atI_0, atI_1, atI_2, ixN_30, ixN_31, ixN_32, Option.some.injEq, List.cons.injEq, true_or, or_true, false_or, or_false, dNotBA]; exact ends_rt rfl q
  · simp (maxSteps := 2000000) only [dVar_ap, dC_ap, dEsc_ap, dPure_ap, dOp_ap, dUn_ap, dNil_ap, dCons_ap, hNil_ap, hCons_ap, dCB_ap, dTup_ap, dLst_ap, dTest_ap, dTru_ap, dAnd_ap, dOr_ap, dNot_ap, dAndV_ap, dOrV_ap, dNotV_ap, dIf_ap, mNil_ap, mPu_ap, mOw_ap, gdName_ap, gdNil_ap, gdCons_ap, gdSeq_ap, dNext_ap, dBreak_ap, dCont_ap, dNever_ap, dDrop_ap, dRet_ap, dRetN_ap, dRetV_ap, dIfS_ap, dAsg_ap, dAsgN_ap, dPar_ap, dPar3_ap, dParT_ap, dIt_ap, dItAny_ap, dItA_ap, dRng1_ap, dRng2_ap, dEnum_ap, dZip_ap, dFor_ap, dWhile_ap, dLc_ap, dRepN_ap, dCatN_ap, dNoPart_ap, dPart_ap, dSl_ap, dSlN_ap, dChain_ap, dListOf_ap, dSortI_ap, dApp_ap, dExt_ap, dSetI_ap, dPop_ap, dPopAt_ap, kNil_ap, kPu_ap, kIo_ap, dCall_ap, kApp_ap, kPerm_ap, dYes_ap, dZipM_ap, dEq, dNe, dEqA, dNeA, dAdd, dI, dI0, dMul, dIx, dIsN, dNotN, dIn, dLen, dInt1, dAbs, dMM, dSum, dMaxL, dMinL, dAll, dTupOf, dIsi, dStrI, dNeg, dSub, dDiv, dMod, dPow, dShl, dShr, dBand, dLt, dLe, dGt, dGe, dCallG, entryN, entry, slotsOf, putOuts, putL, Sl.put, ownL, resolve, look, slD, looks, Sl.ownd, forW, compW, wipeP, backP, D.bls, D.ints, kp, perm, List.filterMap_cons, List.filterMap_nil, List.getElem?_cons_zero, List.getElem?_cons_succ, List.getElem?_nil, List.set_cons_zero, List.set_cons_succ, List.length_cons, List.length_nil, List.replicate_succ, List.replicate_zero, List.append_nil, List.nil_append, List.cons_append, List.map_cons, List.map_nil, Option.bind_some, Option.map_some, Option.isSome_some, Nat.reduceAdd, Nat.reduceSub, Nat.zero_add, Option.bind, Option.map, ↓reduceIte, decide_eq_true_eq, decide_true, decide_false, Bool.false_eq_true, Bool.true_eq_false, Bool.not_true, Bool.not_false, Bool.not_eq_true, Bool.not_eq_false, reduceCtorEq, true_and, and_true, okEq_int, okEq_bl, okEq_non, okEq_ints, okEq_nil, eqv_int, eqv_bl, eqv_nil, List.map_eq_nil_iff, truD, D.isNon, tyName, tyB, tyKnown, isTy, tyBD, List.all_cons, List.all_nil, List.any_cons, List.any_nil, List.contains_cons, List.contains_nil, String.reduceBEq, Bool.true_or, Bool.or_true, Bool.false_or, Bool.or_false, Bool.true_and, Bool.and_true, Bool.false_and, Bool.and_false, cast_0, cast_1, cast_2, cast_3, two_le_size, zero_lt_size, one_lt_size, nodup_nilN, nodup_1, zero_le_size, atI_0, atI_1, atI_2, ixN_30, ixN_31, ixN_32, Option.some.injEq, List.cons.injEq, true_or, or_true, false_or, or_false]; exact ends_rt rfl q
  · simp (maxSteps := 2000000) only [dVar_ap, dC_ap, dEsc_ap, dPure_ap, dOp_ap, dUn_ap, dNil_ap, dCons_ap, hNil_ap, hCons_ap, dCB_ap, dTup_ap, dLst_ap, dTest_ap, dTru_ap, dAnd_ap, dOr_ap, dNot_ap, dAndV_ap, dOrV_ap, dNotV_ap, dIf_ap, mNil_ap, mPu_ap, mOw_ap, gdName_ap, gdNil_ap, gdCons_ap, gdSeq_ap, dNext_ap, dBreak_ap, dCont_ap, dNever_ap, dDrop_ap, dRet_ap, dRetN_ap, dRetV_ap, dIfS_ap, dAsg_ap, dAsgN_ap, dPar_ap, dPar3_ap, dParT_ap, dIt_ap, dItAny_ap, dItA_ap, dRng1_ap, dRng2_ap, dEnum_ap, dZip_ap, dFor_ap, dWhile_ap, dLc_ap, dRepN_ap, dCatN_ap, dNoPart_ap, dPart_ap, dSl_ap, dSlN_ap, dChain_ap, dListOf_ap, dSortI_ap, dApp_ap, dExt_ap, dSetI_ap, dPop_ap, dPopAt_ap, kNil_ap, kPu_ap, kIo_ap, dCall_ap, kApp_ap, kPerm_ap, dYes_ap, dZipM_ap, dEq, dNe, dEqA, dNeA, dAdd, dI, dI0, dMul, dIx, dIsN, dNotN, dIn, dLen, dInt1, dAbs, dMM, dSum, dMaxL, dMinL, dAll, dTupOf, dIsi, dStrI, dNeg, dSub, dDiv, dMod, dPow, dShl, dShr, dBand, dLt, dLe, dGt, dGe, dCallG, entryN, entry, slotsOf, putOuts, putL, Sl.put, ownL, resolve, look, slD, looks, Sl.ownd, forW, compW, wipeP, backP, D.bls, D.ints, kp, perm, List.filterMap_cons, List.filterMap_nil, List.getElem?_cons_zero, List.getElem?_cons_succ, List.getElem?_nil, List.set_cons_zero, List.set_cons_succ, List.length_cons, List.length_nil, List.replicate_succ, List.replicate_zero, List.append_nil, List.nil_append, List.cons_append, List.map_cons, List.map_nil, Option.bind_some, Option.map_some, Option.isSome_some, Nat.reduceAdd, Nat.reduceSub, Nat.zero_add, Option.bind, Option.map, ↓reduceIte, decide_eq_true_eq, decide_true, decide_false, Bool.false_eq_true, Bool.true_eq_false, Bool.not_true, Bool.not_false, Bool.not_eq_true, Bool.not_eq_false, reduceCtorEq, true_and, and_true, okEq_int, okEq_bl, okEq_non, okEq_ints, okEq_nil, eqv_int, eqv_bl, eqv_nil, List.map_eq_nil_iff, truD, D.isNon, tyName, tyB, tyKnown, isTy, tyBD, List.all_cons, List.all_nil, List.any_cons, List.any_nil, List.contains_cons, List.contains_nil, String.reduceBEq, Bool.true_or, Bool.or_true, Bool.false_or, Bool.or_false, Bool.true_and, Bool.and_true, Bool.false_and, Bool.and_false, cast_0, cast_1, cast_2, cast_3, two_le_size, zero_lt_size, one_lt_size, nodup_nilN, nodup_1, zero_le_size, atI_0, atI_1, atI_2, ixN_30, ixN_31, ixN_32, Option.some.injEq, List.cons.injEq, true_or, or_true, false_or, or_false]; exact ends_rt rfl q
  · simp (maxSteps := 2000000) only [dVar_ap, dC_ap, dEsc_ap, dPure_ap, dOp_ap, dUn_ap, dNil_ap, dCons_ap, hNil_ap, hCons_ap, dCB_ap, dTup_ap, dLst_ap, dTest_ap, dTru_ap, dAnd_ap, dOr_ap, dNot_ap, dAndV_ap, dOrV_ap, dNotV_ap, dIf_ap, mNil_ap, mPu_ap, mOw_ap, gdName_ap, gdNil_ap, gdCons_ap, gdSeq_ap, dNext_ap, dBreak_ap, dCont_ap, dNever_ap, dDrop_ap, dRet_ap, dRetN_ap, dRetV_ap, dIfS_ap, dAsg_ap, dAsgN_ap, dPar_ap, dPar3_ap, dParT_ap, dIt_ap, dItAny_ap, dItA_ap, dRng1_ap, dRng2_ap, dEnum_ap, dZip_ap, dFor_ap, dWhile_ap, dLc_ap, dRepN_ap, dCatN_ap, dNoPart_ap, dPart_ap, dSl_ap, dSlN_ap, dChain_ap, dListOf_ap, dSortI_ap, dApp_ap, dExt_ap, dSetI_ap, dPop_ap, dPopAt_ap, kNil_ap, kPu_ap, kIo_ap, dCall_ap, kApp_ap, kPerm_ap, dYes_ap, dZipM_ap, dEq, dNe, dEqA, dNeA, dAdd, dI, dI0, dMul, dIx, dIsN, dNotN, dIn, dLen, dInt1, dAbs, dMM, dSum, dMaxL, dMinL, dAll, dTupOf, dIsi, dStrI, dNeg, dSub, dDiv, dMod, dPow, dShl, dShr, dBand, dLt, dLe, dGt, dGe, dCallG, entryN, entry, slotsOf, putOuts, putL, Sl.put, ownL, resolve, look, slD, looks, Sl.ownd, forW, compW, wipeP, backP, D.bls, D.ints, kp, perm, List.filterMap_cons, List.filterMap_nil, List.getElem?_cons_zero, List.getElem?_cons_succ, List.getElem?_nil, List.set_cons_zero, List.set_cons_succ, List.length_cons, List.length_nil, List.replicate_succ, List.replicate_zero, List.append_nil, List.nil_append, List.cons_append, List.map_cons, List.map_nil, Option.bind_some, Option.map_some, Option.isSome_some, Nat.reduceAdd, Nat.reduceSub, Nat.zero_add, Option.bind, Option.map, ↓reduceIte, decide_eq_true_eq, decide_true, decide_false, Bool.false_eq_true, Bool.true_eq_false, Bool.not_true, Bool.not_false, Bool.not_eq_true, Bool.not_eq_false, reduceCtorEq, true_and, and_true, okEq_int, okEq_bl, okEq_non, okEq_ints, okEq_nil, eqv_int, eqv_bl, eqv_nil, List.map_eq_nil_iff, truD, D.isNon, tyName, tyB, tyKnown, isTy, tyBD, List.all_cons, List.all_nil, List.any_cons, List.any_nil, List.contains_cons, List.contains_nil, String.reduceBEq, Bool.true_or, Bool.or_true, Bool.false_or, Bool.or_false, Bool.true_and, Bool.and_true, Bool.false_and, Bool.and_false, cast_0, cast_1, cast_2, cast_3, two_le_size, zero_lt_size, one_lt_size, nodup_nilN, nodup_1, zero_le_size, atI_0, atI_1, atI_2, ixN_30, ixN_31, ixN_32, Option.some.injEq, List.cons.injEq, true_or, or_true, false_or, or_false]; exact ends_rt rfl q
  · simp (maxSteps := 2000000) only [dVar_ap, dC_ap, dEsc_ap, dPure_ap, dOp_ap, dUn_ap, dNil_ap, dCons_ap, hNil_ap, hCons_ap, dCB_ap, dTup_ap, dLst_ap, dTest_ap, dTru_ap, dAnd_ap, dOr_ap, dNot_ap, dAndV_ap, dOrV_ap, dNotV_ap, dIf_ap, mNil_ap, mPu_ap, mOw_ap, gdName_ap, gdNil_ap, gdCons_ap, gdSeq_ap, dNext_ap, dBreak_ap, dCont_ap, dNever_ap, dDrop_ap, dRet_ap, dRetN_ap, dRetV_ap, dIfS_ap, dAsg_ap, dAsgN_ap, dPar_ap, dPar3_ap, dParT_ap, dIt_ap, dItAny_ap, dItA_ap, dRng1_ap, dRng2_ap, dEnum_ap, dZip_ap, dFor_ap, dWhile_ap, dLc_ap, dRepN_ap, dCatN_ap, dNoPart_ap, dPart_ap, dSl_ap, dSlN_ap, dChain_ap, dListOf_ap, dSortI_ap, dApp_ap, dExt_ap, dSetI_ap, dPop_ap, dPopAt_ap, kNil_ap, kPu_ap, kIo_ap, dCall_ap, kApp_ap, kPerm_ap, dYes_ap, dZipM_ap, dEq, dNe, dEqA, dNeA, dAdd, dI, dI0, dMul, dIx, dIsN, dNotN, dIn, dLen, dInt1, dAbs, dMM, dSum, dMaxL, dMinL, dAll, dTupOf, dIsi, dStrI, dNeg, dSub, dDiv, dMod, dPow, dShl, dShr, dBand, dLt, dLe, dGt, dGe, dCallG, entryN, entry, slotsOf, putOuts, putL, Sl.put, ownL, resolve, look, slD, looks, Sl.ownd, forW, compW, wipeP, backP, D.bls, D.ints, kp, perm, List.filterMap_cons, List.filterMap_nil, List.getElem?_cons_zero, List.getElem?_cons_succ, List.getElem?_nil, List.set_cons_zero, List.set_cons_succ, List.length_cons, List.length_nil, List.replicate_succ, List.replicate_zero, List.append_nil, List.nil_append, List.cons_append, List.map_cons, List.map_nil, Option.bind_some, Option.map_some, Option.isSome_some, Nat.reduceAdd, Nat.reduceSub, Nat.zero_add, Option.bind, Option.map, ↓reduceIte, decide_eq_true_eq, decide_true, decide_false, Bool.false_eq_true, Bool.true_eq_false, Bool.not_true, Bool.not_false, Bool.not_eq_true, Bool.not_eq_false, reduceCtorEq, true_and, and_true, okEq_int, okEq_bl, okEq_non, okEq_ints, okEq_nil, eqv_int, eqv_bl, eqv_nil, List.map_eq_nil_iff, truD, D.isNon, tyName, tyB, tyKnown, isTy, tyBD, List.all_cons, List.all_nil, List.any_cons, List.any_nil, List.contains_cons, List.contains_nil, String.reduceBEq, Bool.true_or, Bool.or_true, Bool.false_or, Bool.or_false, Bool.true_and, Bool.and_true, Bool.false_and, Bool.and_false, cast_0, cast_1, cast_2, cast_3, two_le_size, zero_lt_size, one_lt_size, nodup_nilN, nodup_1, zero_le_size, atI_0, atI_1, atI_2, ixN_30, ixN_31, ixN_32, Option.some.injEq, List.cons.injEq, true_or, or_true, false_or, or_false]; exact ends_rt rfl q
def sp_is_within : DSp := fun ds Q _ => ∃ v lo hi, ds = [v, lo, hi] ∧ Val v ∧ Bd lo ∧ Bd hi ∧ Q (.bl (isW v lo hi)) []
theorem hd_is_within : ∀ ds Q (E : D → List D → Prop), sp_is_within ds Q E → rd_is_within sp_is_integer (dEnds [false, false, false] Q) (entryN 3 [false, false, false] ds) := by
  rintro ds Q E ⟨v, lo, hi, rfl, h, h1, h2, q⟩
  unfold rd_is_within
  (try dsimp only); rw [dSeq_ap]; simp (maxSteps := 2000000) only [dVar_ap, dC_ap, dEsc_ap, dPure_ap, dOp_ap, dUn_ap, dNil_ap, dCons_ap, hNil_ap, hCons_ap, dCB_ap, dTup_ap, dLst_ap, dTest_ap, dTru_ap, dAnd_ap, dOr_ap, dNot_ap, dAndV_ap, dOrV_ap, dNotV_ap, dIf_ap, mNil_ap, mPu_ap, mOw_ap, gdName_ap, gdNil_ap, gdCons_ap, gdSeq_ap, dNext_ap, dBreak_ap, dCont_ap, dNever_ap, dDrop_ap, dRet_ap, dRetN_ap, dRetV_ap, dIfS_ap, dAsg_ap, dAsgN_ap, dPar_ap, dPar3_ap, dParT_ap, dIt_ap, dItAny_ap, dItA_ap, dRng1_ap, dRng2_ap, dEnum_ap, dZip_ap, dFor_ap, dWhile_ap, dLc_ap, dRepN_ap, dCatN_ap, dNoPart_ap, dPart_ap, dSl_ap, dSlN_ap, dChain_ap, dListOf_ap, dSortI_ap, dApp_ap, dExt_ap, dSetI_ap, dPop_ap, dPopAt_ap, kNil_ap, kPu_ap, kIo_ap, dCall_ap, kApp_ap, kPerm_ap, dYes_ap, dZipM_ap, dEq, dNe, dEqA, dNeA, dAdd, dI, dI0, dMul, dIx, dIsN, dNotN, dIn, dLen, dInt1, dAbs, dMM, dSum, dMaxL, dMinL, dAll, dTupOf, dIsi, dStrI, dNeg, dSub, dDiv, dMod, dPow, dShl, dShr, dBand, dLt, dLe, dGt, dGe, dCallG, entryN, entry, slotsOf, putOuts, putL, Sl.put, ownL, resolve, look, slD, looks, Sl.ownd, forW, compW, wipeP, backP, D.bls, D.ints, kp, perm, List.filterMap_cons, List.filterMap_nil, List.getElem?_cons_zero, List.getElem?_cons_succ, List.getElem?_nil, List.set_cons_zero, List.set_cons_succ, List.length_cons, List.length_nil, List.replicate_succ, List.replicate_zero, List.append_nil, List.nil_append, List.cons_append, List.map_cons, List.map_nil, Option.bind_some, Option.map_some, Option.isSome_some, Nat.reduceAdd, Nat.reduceSub, Nat.zero_add, Option.bind, Option.map, ↓reduceIte, decide_eq_true_eq, decide_true, decide_false, Bool.false_eq_true, Bool.true_eq_false, Bool.not_true, Bool.not_false, Bool.not_eq_true, Bool.not_eq_false, reduceCtorEq, true_and, and_true, okEq_int, okEq_bl, okEq_non, okEq_ints, okEq_nil, eqv_int, eqv_bl, eqv_nil, List.map_eq_nil_iff, truD, D.isNon, tyName, tyB, tyKnown, isTy, tyBD, List.all_cons, List.all_nil, List.any_cons, List.any_nil, List.contains_cons, List.contains_nil, String.reduceBEq, Bool.true_or, Bool.or_true, Bool.false_or, Bool.or_false, Bool.true_and, Bool.and_true, Bool.false_and, Bool.and_false, cast_0, cast_1, cast_2, cast_3, two_le_size, zero_lt_size, one_lt_size, nodup_nilN, nodup_1, zero_le_size, atI_0, atI_1, atI_2, ixN_30, ixN_31, ixN_32, Option.some.injEq, List.cons.injEq, true_or, or_true, false_or, or_false]
  refine ⟨v, rfl, h, ?_⟩
  rcases h with rfl | ⟨b, rfl⟩ | ⟨i, rfl⟩ | ⟨z, rfl, _⟩ | ⟨l, rfl | rfl, _⟩ | ⟨ks, ds, rfl⟩
  · simp (maxSteps := 2000000) only [dVar_ap, dC_ap, dEsc_ap, dPure_ap, dOp_ap, dUn_ap, dNil_ap, dCons_ap, hNil_ap, hCons_ap, dCB_ap, dTup_ap, dLst_ap, dTest_ap, dTru_ap, dAnd_ap, dOr_ap, dNot_ap, dAndV_ap, dOrV_ap, dNotV_ap, dIf_ap, mNil_ap, mPu_ap, mOw_ap, gdName_ap, gdNil_ap, gdCons_ap, gdSeq_ap, dNext_ap, dBreak_ap, dCont_ap, dNever_ap, dDrop_ap, dRet_ap, dRetN_ap, dRetV_ap, dIfS_ap, dAsg_ap, dAsgN_ap, dPar_ap, dPar3_ap, dParT_ap, dIt_ap, dItAny_ap, dItA_ap, dRng1_ap, dRng2_ap, dEnum_ap, dZip_ap, dFor_ap, dWhile_ap, dLc_ap, dRepN_ap, dCatN_ap, dNoPart_ap, dPart_ap, dSl_ap, dSlN_ap, dChain_ap, dListOf_ap, dSortI_ap, dApp_ap, dExt_ap, dSetI_ap, dPop_ap, dPopAt_ap, kNil_ap, kPu_ap, kIo_ap, dCall_ap, kApp_ap, kPerm_ap, dYes_ap, dZipM_ap, dEq, dNe, dEqA, dNeA, dAdd, dI, dI0, dMul, dIx, dIsN, dNotN, dIn, dLen, dInt1, dAbs, dMM, dSum, dMaxL, dMinL, dAll, dTupOf, dIsi, dStrI, dNeg, dSub, dDiv, dMod, dPow, dShl, dShr, dBand, dLt, dLe, dGt, dGe, dCallG, entryN, entry, slotsOf, putOuts, putL, Sl.put, ownL, resolve, look, slD, looks, Sl.ownd, forW, compW, wipeP, backP, D.bls, D.ints, kp, perm, List.filterMap_cons, List.filterMap_nil, List.getElem?_cons_zero, List.getElem?_cons_succ, List.getElem?_nil, List.set_cons_zero, List.set_cons_succ, List.length_cons, List.length_nil, List.replicate_succ, List.replicate_zero, List.append_nil, List.nil_append, List.cons_append, List.map_cons, List.map_nil, Option.bind_some, Option.map_some, Option.isSome_some, Nat.reduceAdd, Nat.reduceSub, Nat.zero_add, Option.bind, Option.map, ↓reduceIte, decide_eq_true_eq, decide_true, decide_false, Bool.false_eq_true, Bool.true_eq_false, Bool.not_true, Bool.not_false, Bool.not_eq_true, Bool.not_eq_false, reduceCtorEq, true_and, and_true, okEq_int, okEq_bl, okEq_non, okEq_ints, okEq_nil, eqv_int, eqv_bl, eqv_nil, List.map_eq_nil_iff, truD, D.isNon, tyName, tyB, tyKnown, isTy, tyBD, List.all_cons, List.all_nil, List.any_cons, List.any_nil, List.contains_cons, List.contains_nil, String.reduceBEq, Bool.true_or, Bool.or_true, Bool.false_or, Bool.or_false, Bool.true_and, Bool.and_true, Bool.false_and, Bool.and_false, cast_0, cast_1, cast_2, cast_3, two_le_size, zero_lt_size, one_lt_size, nodup_nilN, nodup_1, zero_le_size, atI_0, atI_1, atI_2, ixN_30, ixN_31, ixN_32, Option.some.injEq, List.cons.injEq, true_or, or_true, false_or, or_false, isI]; exact ends_rt rfl q
  · simp (maxSteps := 2000000) only [dVar_ap, dC_ap, dEsc_ap, dPure_ap, dOp_ap, dUn_ap, dNil_ap, dCons_ap, hNil_ap, hCons_ap, dCB_ap, dTup_ap, dLst_ap, dTest_ap, dTru_ap, dAnd_ap, dOr_ap, dNot_ap, dAndV_ap, dOrV_ap, dNotV_ap, dIf_ap, mNil_ap, mPu_ap, mOw_ap, gdName_ap, gdNil_ap, gdCons_ap, gdSeq_ap, dNext_ap, dBreak_ap, dCont_ap, dNever_ap, dDrop_ap, dRet_ap, dRetN_ap, dRetV_ap, dIfS_ap, dAsg_ap, dAsgN_ap, dPar_ap, dPar3_ap, dParT_ap, dIt_ap, dItAny_ap, dItA_ap, dRng1_ap, dRng2_ap, dEnum_ap, dZip_ap, dFor_ap, dWhile_ap, dLc_ap, dRepN_ap, dCatN_ap, dNoPart_ap, dPart_ap, dSl_ap, dSlN_ap, dChain_ap, dListOf_ap, dSortI_ap, dApp_ap, dExt_ap, dSetI_ap, dPop_ap, dPopAt_ap, kNil_ap, kPu_ap, kIo_ap, dCall_ap, kApp_ap, kPerm_ap, dYes_ap, dZipM_ap, dEq, dNe, dEqA, dNeA, dAdd, dI, dI0, dMul, dIx, dIsN, dNotN, dIn, dLen, dInt1, dAbs, dMM, dSum, dMaxL, dMinL, dAll, dTupOf, dIsi, dStrI, dNeg, dSub, dDiv, dMod, dPow, dShl, dShr, dBand, dLt, dLe, dGt, dGe, dCallG, entryN, entry, slotsOf, putOuts, putL, Sl.put, ownL, resolve, look, slD, looks, Sl.ownd, forW, compW, wipeP, backP, D.bls, D.ints, kp, perm, List.filterMap_cons, List.filterMap_nil, List.getElem?_cons_zero, List.getElem?_cons_succ, List.getElem?_nil, List.set_cons_zero, List.set_cons_succ, List.length_cons, List.length_nil, List.replicate_succ, List.replicate_zero, List.append_nil, List.nil_append, List.cons_append, List.map_cons, List.map_nil, Option.bind_some, Option.map_some, Option.isSome_some, Nat.reduceAdd, Nat.reduceSub, Nat.zero_add, Option.bind, Option.map, ↓reduceIte, decide_eq_true_eq, decide_true, decide_false, Bool.false_eq_true, Bool.true_eq_false, Bool.not_true, Bool.not_false, Bool.not_eq_true, Bool.not_eq_false, reduceCtorEq, true_and, and_true, okEq_int, okEq_bl, okEq_non, okEq_ints, okEq_nil, eqv_int, eqv_bl, eqv_nil, List.map_eq_nil_iff, truD, D.isNon, tyName, tyB, tyKnown, isTy, tyBD, List.all_cons, List.all_nil, List.any_cons, List.any_nil, List.contains_cons, List.contains_nil, String.reduceBEq, Bool.true_or, Bool.or_true, Bool.false_or, Bool.or_false, Bool.true_and, Bool.and_true, Bool.false_and, Bool.and_false, cast_0, cast_1, cast_2, cast_3, two_le_size, zero_lt_size, one_lt_size, nodup_nilN, nodup_1, zero_le_size, atI_0, atI_1, atI_2, ixN_30, ixN_31, ixN_32, Option.some.injEq, List.cons.injEq, true_or, or_true, false_or, or_false, isI]; exact ends_rt rfl q
  · rcases h1 with rfl | ⟨j, rfl⟩ <;> rcases h2 with rfl | ⟨k, rfl⟩
    · simp (maxSteps := 2000000) only [dVar_ap, dC_ap, dEsc_ap, dPure_ap, dOp_ap, dUn_ap, dNil_ap, dCons_ap, hNil_ap, hCons_ap, dCB_ap, dTup_ap, dLst_ap, dTest_ap, dTru_ap, dAnd_ap, dOr_ap, dNot_ap, dAndV_ap, dOrV_ap, dNotV_ap, dIf_ap, mNil_ap, mPu_ap, mOw_ap, gdName_ap, gdNil_ap, gdCons_ap, gdSeq_ap, dNext_ap, dBreak_ap, dCont_ap, dNever_ap, dDrop_ap, dRet_ap, dRetN_ap, dRetV_ap, dIfS_ap, dAsg_ap, dAsgN_ap, dPar_ap, dPar3_ap, dParT_ap, dIt_ap, dItAny_ap, dItA_ap, dRng1_ap, dRng2_ap, dEnum_ap, dZip_ap, dFor_ap, dWhile_ap, dLc_ap, dRepN_ap, dCatN_ap, dNoPart_ap, dPart_ap, dSl_ap, dSlN_ap, dChain_ap, dListOf_ap, dSortI_ap, dApp_ap, dExt_ap, dSetI_ap, dPop_ap, dPopAt_ap, kNil_ap, kPu_ap, kIo_ap, dCall_ap, kApp_ap, kPerm_ap, dYes_ap, dZipM_ap, dEq, dNe, dEqA, dNeA, dAdd, dI, dI0, dMul, dIx, dIsN, dNotN, dIn, dLen, dInt1, dAbs, dMM, dSum, dMaxL, dMinL, dAll, dTupOf, dIsi, dStrI, dNeg, dSub, dDiv, dMod, dPow, dShl, dShr, dBand, dLt, dLe, dGt, dGe, dCallG, entryN, entry, slotsOf, putOuts, putL, Sl.put, ownL, resolve, look, slD, looks, Sl.ownd, forW, compW, wipeP, backP, D.bls, D.ints, kp, perm, List.filterMap_cons, List.filterMap_nil, List.getElem?_cons_zero, List.getElem?_cons_succ, List.getElem?_nil, List.set_cons_zero, List.set_cons_succ, List.length_cons, List.length_nil, List.replicate_succ, List.replicate_zero, List.append_nil, List.nil_append, List.cons_append, List.map_cons, List.map_nil, Option.bind_some, Option.map_some, Option.isSome_some, Nat.reduceAdd, Nat.reduceSub, Nat.zero_add, Option.bind, Option.map, ↓reduceIte, decide_eq_true_eq, decide_true, decide_false, Bool.false_eq_true, Bool.true_eq_false, Bool.not_true, Bool.not_false, Bool.not_eq_true, Bool.not_eq_false, reduceCtorEq, true_and, and_true, okEq_int, okEq_bl, okEq_non, okEq_ints, okEq_nil, eqv_int, eqv_bl, eqv_nil, List.map_eq_nil_iff, truD, D.isNon, tyName, tyB, tyKnown, isTy, tyBD, List.all_cons, List.all_nil, List.any_cons, List.any_nil, List.contains_cons, List.contains_nil, String.reduceBEq, Bool.true_or, Bool.or_true, Bool.false_or, Bool.or_false, Bool.true_and, Bool.and_true, Bool.false_and, Bool.and_false, cast_0, cast_1, cast_2, cast_3, two_le_size, zero_lt_size, one_lt_size, nodup_nilN, nodup_1, zero_le_size, atI_0, atI_1, atI_2, ixN_30, ixN_31, ixN_32, Option.some.injEq, List.cons.injEq, true_or, or_true, false_or, or_false, isI]; exact ends_rt rfl q
    · simp (maxSteps := 2000000) only [dVar_ap, dC_ap, dEsc_ap, dPure_ap, dOp_ap, dUn_ap, dNil_ap, dCons_ap, hNil_ap, hCons_ap, dCB_ap, dTup_ap, dLst_ap, dTest_ap, dTru_ap, dAnd_ap, dOr_ap, dNot_ap, dAndV_ap, dOrV_ap, dNotV_ap, dIf_ap, mNil_ap, mPu_ap, mOw_ap, gdName_ap, gdNil_ap, gdCons_ap, gdSeq_ap, dNext_ap, dBreak_ap, dCont_ap, dNever_ap, dDrop_ap, dRet_ap, dRetN_ap, dRetV_ap, dIfS_ap, dAsg_ap, dAsgN_ap, dPar_ap, dPar3_ap, dParT_ap, dIt_ap, dItAny_ap, dItA_ap, dRng1_ap, dRng2_ap, dEnum_ap, dZip_ap, dFor_ap, dWhile_ap, dLc_ap, dRepN_ap, dCatN_ap, dNoPart_ap, dPart_ap, dSl_ap, dSlN_ap, dChain_ap, dListOf_ap, dSortI_ap, dApp_ap, dExt_ap, dSetI_ap, dPop_ap, dPopAt_ap, kNil_ap, kPu_ap, kIo_ap, dCall_ap, kApp_ap, kPerm_ap, dYes_ap, dZipM_ap, dEq, dNe, dEqA, dNeA, dAdd, dI, dI0, dMul, dIx, dIsN, dNotN, dIn, dLen, dInt1, dAbs, dMM, dSum, dMaxL, dMinL, dAll, dTupOf, dIsi, dStrI, dNeg, dSub, dDiv, dMod, dPow, dShl, dShr, dBand, dLt, dLe, dGt, dGe, dCallG, entryN, entry, slotsOf, putOuts, putL, Sl.put, ownL, resolve, look, slD, looks, Sl.ownd, forW, compW, wipeP, backP, D.bls, D.ints, kp, perm, List.filterMap_cons, List.filterMap_nil, List.getElem?_cons_zero, List.getElem?_cons_succ, List.getElem?_nil, List.set_cons_zero, List.set_cons_succ, List.length_cons, List.length_nil, List.replicate_succ, List.replicate_zero, List.append_nil, List.nil_append, List.cons_append, List.map_cons, List.map_nil, Option.bind_some, Option.map_some, Option.isSome_some, Nat.reduceAdd, Nat.reduceSub, Nat.zero_add, Option.bind, Option.map, ↓reduceIte, decide_eq_true_eq, decide_true, decide_false, Bool.false_eq_true, Bool.true_eq_false, Bool.not_true, Bool.not_false, Bool.not_eq_true, Bool.not_eq_false, reduceCtorEq, true_and, and_true, okEq_int, okEq_bl, okEq_non, okEq_ints, okEq_nil, eqv_int, eqv_bl, eqv_nil, List.map_eq_nil_iff, truD, D.isNon, tyName, tyB, tyKnown, isTy, tyBD, List.all_cons, List.all_nil, List.any_cons, List.any_nil, List.contains_cons, List.contains_nil, String.reduceBEq, Bool.true_or, Bool.or_true, Bool.false_or, Bool.or_false, Bool.true_and, Bool.and_true, Bool.false_and, Bool.and_false, cast_0, cast_1, cast_2, cast_3, two_le_size, zero_lt_size, one_lt_size, nodup_nilN, nodup_1, zero_le_size, atI_0, atI_1, atI_2, ixN_30, ixN_31, ixN_32, Option.some.injEq, List.cons.injEq, true_or, or_true, false_or, or_false, isI]
      have e : isW (.int i) .non (.int k) = decide (i ≤ k) := rfl
      rw [e] at q
      exact ends_rt rfl q
    · simp (maxSteps := 2000000) only [dVar_ap, dC_ap, dEsc_ap, dPure_ap, dOp_ap, dUn_ap, dNil_ap, dCons_ap, hNil_ap, hCons_ap, dCB_ap, dTup_ap, dLst_ap, dTest_ap, dTru_ap, dAnd_ap, dOr_ap, dNot_ap, dAndV_ap, dOrV_ap, dNotV_ap, dIf_ap, mNil_ap, mPu_ap, mOw_ap, gdName_ap, gdNil_ap, gdCons_ap, gdSeq_ap, dNext_ap, dBreak_ap, dCont_ap, dNever_ap, dDrop_ap, dRet_ap, dRetN_ap, dRetV_ap, dIfS_ap, dAsg_ap, dAsgN_ap, dPar_ap, dPar3_ap, dParT_ap, dIt_ap, dItAny_ap, dItA_ap, dRng1_ap, dRng2_ap, dEnum_ap, dZip_ap, dFor_ap, dWhile_ap, dLc_ap, dRepN_ap, dCatN_ap, dNoPart_ap, dPart_ap, dSl_ap, dSlN_ap, dChain_ap, dListOf_ap, dSortI_ap, dApp_ap, dExt_ap, dSetI_ap, dPop_ap, dPopAt_ap, kNil_ap, kPu_ap, kIo_ap, dCall_ap, kApp_ap, kPerm_ap, dYes_ap, dZipM_ap, dEq, dNe, dEqA, dNeA, dAdd, dI, dI0, dMul, dIx, dIsN, dNotN, dIn, dLen, dInt1, dAbs, dMM, dSum, dMaxL, dMinL, dAll, dTupOf, dIsi, dStrI, dNeg, dSub, dDiv, dMod, dPow, dShl, dShr, dBand, dLt, dLe, dGt, dGe, dCallG, entryN, entry, slotsOf, putOuts, putL, Sl.put, ownL, resolve, look, slD, looks, Sl.ownd, forW, compW, wipeP, backP, D.bls, D.ints, kp, perm, List.filterMap_cons, List.filterMap_nil, List.getElem?_cons_zero, List.getElem?_cons_succ, List.getElem?_nil, List.set_cons_zero, List.set_cons_succ, List.length_cons, List.length_nil, List.replicate_succ, List.replicate_zero, List.append_nil, List.nil_append, List.cons_append, List.map_cons, List.map_nil, Option.bind_some, Option.map_some, Option.isSome_some, Nat.reduceAdd, Nat.reduceSub, Nat.zero_add, Option.bind, Option.map, ↓reduceIte, decide_eq_true_eq, decide_true, decide_false, Bool.false_eq_true, Bool.true_eq_false, Bool.not_true, Bool.not_false, Bool.not_eq_true, Bool.not_eq_false, reduceCtorEq, true_and, and_true, okEq_int, okEq_bl, okEq_non, okEq_ints, okEq_nil, eqv_int, eqv_bl, eqv_nil, List.map_eq_nil_iff, truD, D.isNon, tyName, tyB, tyKnown, isTy, tyBD, List.all_cons, List.all_nil, List.any_cons, List.any_nil, List.contains_cons, List.contains_nil, String.reduceBEq, Bool.true_or, Bool.or_true, Bool.false_or, Bool.or_false, Bool.true_and, Bool.and_true, Bool.false_and, Bool.and_false, cast_0, cast_1, cast_2, cast_3, two_le_size, zero_lt_size, one_lt_size, nodup_nilN, nodup_1, zero_le_size, atI_0, atI_1, atI_2, ixN_30, ixN_31, ixN_32, Option.some.injEq, List.cons.injEq, true_or, or_true, false_or, or_false, isI]
      have e : isW (.int i) (.int j) .non = (decide (j ≤ i) && true) := rfl
      rw [e] at q
      by_cases hj : j ≤ i
      · rw [if_pos hj]; rw [decide_eq_true hj] at q; exact ends_rt rfl q
      · rw [if_neg hj]; rw [decide_eq_false hj] at q; exact ends_rt rfl q
    · simp (maxSteps := 2000000) only [dVar_ap, dC_ap, dEsc_ap, dPure_ap, dOp_ap, dUn_ap, dNil_ap, dCons_ap, hNil_ap, hCons_ap, dCB_ap, dTup_ap, dLst_ap, dTest_ap, dTru_ap, dAnd_ap, dOr_ap, dNot_ap, dAndV_ap, dOrV_ap, dNotV_ap, dIf_ap, mNil_ap, mPu_ap, mOw_ap, gdName_ap, gdNil_ap, gdCons_ap, gdSeq_ap, dNext_ap, dBreak_ap, dCont_ap, dNever_ap, dDrop_ap, dRet_ap, dRetN_ap, dRetV_ap, dIfS_ap, dAsg_ap, dAsgN_ap, dPar_ap, dPar3_ap, dParT_ap, dIt_ap, dItAny_ap, dItA_ap, dRng1_ap, dRng2_ap, dEnum_ap, dZip_ap, dFor_ap, dWhile_ap, dLc_ap, dRepN_ap, dCatN_ap, dNoPart_ap, dPart_ap, dSl_ap, dSlN_ap, dChain_ap, dListOf_ap, dSortI_ap, dApp_ap, dExt_ap, dSetI_ap, dPop_ap, dPopAt_ap, kNil_ap, kPu_ap, kIo_ap, dCall_ap, kApp_ap, kPerm_ap, dYes_ap, dZipM_ap, dEq, dNe, dEqA, dNeA, dAdd, dI, dI0, dMul, dIx, dIsN, dNotN, dIn, dLen, dInt1, dAbs, dMM, dSum, dMaxL, dMinL, dAll, dTupOf, dIsi, dStrI, dNeg, dSub, dDiv, dMod, dPow, dShl, dShr, dBand, dLt, dLe, dGt, dGe, dCallG, entryN, entry, slotsOf, putOuts, putL, Sl.put, ownL, resolve, look, slD, looks, Sl.ownd, forW, compW, wipeP, backP, D.bls, D.ints, kp, perm, List.filterMap_cons, List.filterMap_nil, List.getElem?_cons_zero, List.getElem?_cons_succ, List.getElem?_nil, List.set_cons_zero, List.set_cons_succ, List.length_cons, List.length_nil, List.replicate_succ, List.replicate_zero, List.append_nil, List.nil_append, List.cons_append, List.map_cons, List.map_nil, Option.bind_some, Option.map_some, Option.isSome_some, Nat.reduceAdd, Nat.reduceSub, Nat.zero_add, Option.bind, Option.map, ↓reduceIte, decide_eq_true_eq, decide_true, decide_false, Bool.false_eq_true, Bool.true_eq_false, Bool.not_true, Bool.not_false, Bool.not_eq_true, Bool.not_eq_false, reduceCtorEq, true_and, and_true, okEq_int, okEq_bl, okEq_non, okEq_ints, okEq_nil, eqv_int, eqv_bl, eqv_nil, List.map_eq_nil_iff, truD, D.isNon, tyName, tyB, tyKnown, isTy, tyBD, List.all_cons, List.all_nil, List.any_cons, List.any_nil, List.contains_cons, List.contains_nil, String.reduceBEq, Bool.true_or, Bool.or_true, Bool.false_or, Bool.or_false, Bool.true_and, Bool.and_true, Bool.false_and, Bool.and_false, cast_0, cast_1, cast_2, cast_3, two_le_size, zero_lt_size, one_lt_size, nodup_nilN, nodup_1, zero_le_size, atI_0, atI_1, atI_2, ixN_30, ixN_31, ixN_32, Option.some.injEq, List.cons.injEq, true_or, or_true, false_or, or_false, isI]
      have e : isW (.int i) (.int j) (.int k) = (decide (j ≤ i) && decide (i ≤ k)) := rfl
      rw [e] at q
      by_cases hj : j ≤ i
      · rw [if_pos hj]; rw [decide_eq_true hj, Bool.true_and] at q; exact ends_rt rfl q
      · rw [if_neg hj]; rw [decide_eq_false hj, Bool.false_and] at q; exact ends_rt rfl q
  · simp (maxSteps := 2000000) only [dVar_ap, dC_ap, dEsc_ap, dPure_ap, dOp_ap, dUn_ap, dNil_ap, dCons_ap, hNil_ap, hCons_ap, dCB_ap, dTup_ap, dLst_ap, dTest_ap, dTru_ap, dAnd_ap, dOr_ap, dNot_ap, dAndV_ap, dOrV_ap, dNotV_ap, dIf_ap, mNil_ap, mPu_ap, mOw_ap, gdName_ap, gdNil_ap, gdCons_ap, gdSeq_ap, dNext_ap, dBreak_ap, dCont_ap, dNever_ap, dDrop_ap, dRet_ap, dRetN_ap, dRetV_ap, dIfS_ap, dAsg_ap, dAsgN_ap, dPar_ap, dPar3_ap, dParT_ap, dIt_ap, dItAny_ap, dItA_ap, dRng1_ap, dRng2_ap, dEnum_ap, dZip_ap, dFor_ap, dWhile_ap, dLc_ap, dRepN_ap, dCatN_ap, dNoPart_ap, dPart_ap, dSl_ap, dSlN_ap, dChain_ap, dListOf_ap, dSortI_ap, dApp_ap, dExt_ap, dSetI_ap, dPop_ap, dPopAt_ap, kNil_ap, kPu_ap, kIo_ap, dCall_ap, kApp_ap, kPerm_ap, dYes_ap, dZipM_ap, dEq, dNe, dEqA, dNeA, dAdd, dI, dI0, dMul, dIx, dIsN, dNotN, dIn, dLen, dInt1, dAbs, dMM, dSum, dMaxL, dMinL, dAll, dTupOf, dIsi, dStrI, dNeg, dSub, dDiv, dMod, dPow, dShl, dShr, dBand, dLt, dLe, dGt, dGe, dCallG, entryN, entry, slotsOf, putOuts, putL, Sl.put, ownL, resolve, look, slD, looks, Sl.ownd, forW, compW, wipeP, backP, D.bls, D.ints, kp, perm, List.filterMap_cons, List.filterMap_nil, List.getElem?_cons_zero, List.getElem?_cons_succ, List.getElem?_nil, List.set_cons_zero, List.set_cons_succ, List.length_cons, List.length_nil, List.replicate_succ, List.replicate_zero, List.append_nil, List.nil_append, List.cons_append, List.map_cons, List.map_nil, Option.bind_some, Option.map_some, Option.isSome_some, Nat.reduceAdd, Nat.reduceSub, Nat.zero_add, Option.bind, Option.map, ↓reduceIte, decide_eq_true_eq, decide_true, decide_false, Bool.false_eq_true, Bool.true_eq_false, Bool.not_true, Bool.not_false, Bool.not_eq_true, Bool.not_eq_false, reduceCtorEq, true_and, and_true, okEq_int, okEq_bl, okEq_non, okEq_ints, okEq_nil, eqv_int, eqv_bl, eqv_nil, List.map_eq_nil_iff, truD, D.isNon, tyName, tyB, tyKnown, isTy, tyBD, List.all_cons, List.all_nil, List.any_cons, List.any_nil, List.contains_cons, List.contains_nil, String.reduceBEq, Bool.true_or, Bool.or_true, Bool.false_or, Bool.or_false, Bool.true_and, Bool.and_true, Bool.false_and, Bool.and_false, cast_0, cast_1, cast_2, cast_3, two_le_size, zero_lt_size, one_lt_size, nodup_nilN, nodup_1, zero_le_size, atI_0, atI_1, atI_2, ixN_30, ixN_31, ixN_32, Option.some.injEq, List.cons.injEq, true_or, or_true, false_or, or_false, isI]; exact ends_rt rfl q
  · simp (maxSteps := 2000000) only [dVar_ap, dC_ap, dEsc_ap, dPure_ap, dOp_ap, dUn_ap, dNil_ap, dCons_ap, hNil_ap, hCons_ap, dCB_ap, dTup_ap, dLst_ap, dTest_ap, dTru_ap, dAnd_ap, dOr_ap, dNot_ap, dAndV_ap, dOrV_ap, dNotV_ap, dIf_ap, mNil_ap, mPu_ap, mOw_ap, gdName_ap, gdNil_ap, gdCons_ap, gdSeq_ap, dNext_ap, dBreak_ap, dCont_ap, dNever_ap, dDrop_ap, dRet_ap, dRetN_ap, dRetV_ap, dIfS_ap, dAsg_ap, dAsgN_ap, dPar_ap, dPar3_ap, dParT_ap, dIt_ap, dItAny_ap, dItA_ap, dRng1_ap, dRng2_ap, dEnum_ap, dZip_ap, dFor_ap, dWhile_ap, dLc_ap, dRepN_ap, dCatN_ap, dNoPart_ap, dPart_ap, dSl_ap, dSlN_ap, dChain_ap, dListOf_ap, dSortI_ap, dApp_ap, dExt_ap, dSetI_ap, dPop_ap, dPopAt_ap, kNil_ap, kPu_ap, kIo_ap, dCall_ap, kApp_ap, kPerm_ap, dYes_ap, dZipM_ap, dEq, dNe, dEqA, dNeA, dAdd, dI, dI0, dMul, dIx, dIsN, dNotN, dIn, dLen, dInt1, dAbs, dMM, dSum, dMaxL, dMinL, dAll, dTupOf, dIsi, dStrI, dNeg, dSub, dDiv, dMod, dPow, dShl, dShr, dBand, dLt, dLe, dGt, dGe, dCallG, entryN, entry, slotsOf, putOuts, putL, Sl.put, ownL, resolve, look, slD, looks, Sl.ownd, forW, compW, wipeP, backP, D.bls, D.ints, kp, perm, List.filterMap_cons, List.filterMap_nil, List.getElem?_cons_zero, List.getElem?_cons_succ, List.getElem?_nil, List.set_cons_zero, List.set_cons_succ, List.length_cons, List.length_nil, List.replicate_succ, List.replicate_zero, List.append_nil, List.nil_append, List.cons_append, List.map_cons, List.map_nil, Option.bind_some, Option.map_some, Option.isSome_some, Nat.reduceAdd, Nat.reduceSub, Nat.zero_add, Option.bind, Option.map, ↓reduceIte, decide_eq_true_eq, decide_true, decide_false, Bool.false_eq_true, Bool.true_eq_false, Bool.not_true, Bool.not_false, Bool.not_eq_true, Bool.not_eq_false, reduceCtorEq, true_and, and_true, okEq_int, okEq_bl, okEq_non, okEq_ints, okEq_nil, eqv_int, eqv_bl, eqv_nil, List.map_eq_nil_iff, truD, D.isNon, tyName, tyB, tyKnown, isTy, tyBD, List.all_cons, List.all_nil, List.any_cons, List.any_nil, List.contains_cons, List.contains_nil, String.reduceBEq, Bool.true_or, Bool.or_true, Bool.false_or, Bool.or_false, Bool.true_and, Bool.and_true, Bool.false_and, Bool.and_false, cast_0, cast_1, cast_2, cast_3, two_le_size, zero_lt_size, one_lt_size, nodup_nilN, nodup_1, zero_le_size, atI_0, atI_1, atI_2, ixN_30, ixN_31, ixN_32, Option.some.injEq, List.cons.injEq, true_or, or_true, false_or, or_false, isI]; exact ends_rt rfl q
  · simp (maxSteps := 2000000) only [dVar_ap, dC_ap, dEsc_ap, dPure_ap, dOp_ap, dUn_ap, dNil_ap, dCons_ap, hNil_ap, hCons_ap, dCB_ap, dTup_ap, dLst_ap, dTest_ap, dTru_ap, dAnd_ap, dOr_ap, dNot_ap, dAndV_ap, dOrV_ap, dNotV_ap, dIf_ap, mNil_ap, mPu_ap, mOw_ap, gdName_ap, gdNil_ap, gdCons_ap, gdSeq_ap, dNext_ap, dBreak_ap, dCont_ap, dNever_ap, dDrop_ap, dRet_ap, dRetN_ap, dRetV_ap, dIfS_ap, dAsg_ap, dAsgN_ap, dPar_ap, dPar3_ap, dParT_ap, dIt_ap, dItAny_ap, dItA_ap, dRng1_ap, dRng2_ap, dEnum_ap, dZip_ap, dFor_ap, dWhile_ap, dLc_ap, dRepN_ap, dCatN_ap, dNoPart_ap, dPart_ap, dSl_ap, dSlN_ap, dChain_ap, dListOf_ap, dSortI_ap, dApp_ap, dExt_ap, dSetI_ap, dPop_ap, dPopAt_ap, kNil_ap, kPu_ap, kIo_ap, dCall_ap, kApp_ap, kPerm_ap, dYes_ap, dZipM_ap, dEq, dNe, dEqA, dNeA, dAdd, dI, dI0, dMul, dIx, dIsN, dNotN, dIn, dLen, dInt1, dAbs, dMM, dSum, dMaxL, dMinL, dAll, dTupOf, dIsi, dStrI, dNeg, dSub, dDiv, dMod, dPow, dShl, dShr, dBand, dLt, dLe, dGt, dGe, dCallG, entryN, entry, slotsOf, putOuts, putL, Sl.put, ownL, resolve, look, slD, looks, Sl.ownd, forW, compW, wipeP, backP, D.bls, D.ints, kp, perm, List.filterMap_cons, List.filterMap_nil, List.getElem?_cons_zero, List.getElem?_cons_succ, List.getElem?_nil, List.set_cons_zero, List.set_cons_succ, List.length_cons, List.length_nil, List.replicate_succ, List.replicate_zero, List.append_nil, List.nil_append, List.cons_append, List.map_cons, List.map_nil, Option.bind_some, Option.map_some, Option.isSome_some, Nat.reduceAdd, Nat.reduceSub, Nat.zero_add, Option.bind, Option.map, ↓reduceIte, decide_eq_true_eq, decide_true, decide_false, Bool.false_eq_true, Bool.true_eq_false, Bool.not_true, Bool.not_false, Bool.not_eq_true, Bool.not_eq_false, reduceCtorEq, true_and, and_true, okEq_int, okEq_bl, okEq_non, okEq_ints, okEq_nil, eqv_int, eqv_bl, eqv_nil, List.map_eq_nil_iff, truD, D.isNon, tyName, tyB, tyKnown, isTy, tyBD, List.all_cons, List.all_nil, List.any_cons, List.any_nil, List.contains_cons, List.contains_nil, String.reduceBEq, Bool.true_or, Bool.or_true, Bool.false_or, Bool.or_false, Bool.true_and, Bool.and_true, Bool.false_and, Bool.and_false, cast_0, cast_1, cast_2, cast_3, two_le_size, zero_lt_size, one_lt_size, nodup_nilN, nodup_1, zero_le_size, atI_0, atI_1, atI_2, ixN_30, ixN_31, ixN_32, Option.some.injEq, List.cons.injEq, true_or, or_true, false_or, or_false, isI]; exact ends_rt rfl q
  · simp (maxSteps := 2000000) only [dVar_ap, dC_ap, dEsc_ap, dPure_ap, dOp_ap, dUn_ap, dNil_ap, dCons_ap, hNil_ap, hCons_ap, dCB_ap, dTup_ap, dLst_ap, dTest_ap, dTru_ap, dAnd_ap, dOr_ap, dNot_ap, dAndV_ap, dOrV_ap, dNotV_ap, dIf_ap, mNil_ap, mPu_ap, mOw_ap, gdName_ap, gdNil_ap, gdCons_ap, gdSeq_ap, dNext_ap, dBreak_ap, dCont_ap, dNever_ap, dDrop_ap, dRet_ap, dRetN_ap, dRetV_ap, dIfS_ap, dAsg_ap, dAsgN_ap, dPar_ap, dPar3_ap, dParT_ap, dIt_ap, dItAny_ap, dItA_ap, dRng1_ap, dRng2_ap, dEnum_ap, dZip_ap, dFor_ap, dWhile_ap, dLc_ap, dRepN_ap, dCatN_ap, dNoPart_ap, dPart_ap, dSl_ap, dSlN_ap, dChain_ap, dListOf_ap, dSortI_ap, dApp_ap, dExt_ap, dSetI_ap, dPop_ap, dPopAt_ap, kNil_ap, kPu_ap, kIo_ap, dCall_ap, kApp_ap, kPerm_ap, dYes_ap, dZipM_ap, dEq, dNe, dEqA, dNeA, dAdd, dI, dI0, dMul, dIx, dIsN, dNotN, dIn, dLen, dInt1, dAbs, dMM, dSum, dMaxL, dMinL, dAll, dTupOf, dIsi, dStrI, dNeg, dSub, dDiv, dMod, dPow, dShl, dShr, dBand, dLt, dLe, dGt, dGe, dCallG, entryN, entry, slotsOf, putOuts, putL, Sl.put, ownL, resolve, look, slD, looks, Sl.ownd, forW, compW, wipeP, backP, D.bls, D.ints, kp, perm, List.filterMap_cons, List.filterMap_nil, List.getElem?_cons_zero, List.getElem?_cons_succ, List.getElem?_nil, List.set_cons_zero, List.set_cons_succ, List.length_cons, List.length_nil, List.replicate_succ, List.replicate_zero, List.append_nil, List.nil_append, List.cons_append, List.map_cons, List.map_nil, Option.bind_some, Option.map_some, Option.isSome_some, Nat.reduceAdd, Nat.reduceSub, Nat.zero_add, Option.bind, Option.map, ↓reduceIte, decide_eq_true_eq, decide_true, decide_false, Bool.false_eq_true, Bool.true_eq_false, Bool.not_true, Bool.not_false, Bool.not_eq_true, Bool.not_eq_false, reduceCtorEq, true_and, and_true, okEq_int, okEq_bl, okEq_non, okEq_ints, okEq_nil, eqv_int, eqv_bl, eqv_nil, List.map_eq_nil_iff, truD, D.isNon, tyName, tyB, tyKnown, isTy, tyBD, List.all_cons, List.all_nil, List.any_cons, List.any_nil, List.contains_cons, List.contains_nil, String.reduceBEq, Bool.true_or, Bool.or_true, Bool.false_or, Bool.or_false, Bool.true_and, Bool.and_true, Bool.false_and, Bool.and_false, cast_0, cast_1, cast_2, cast_3, two_le_size, zero_lt_size, one_lt_size, nodup_nilN, nodup_1, zero_le_size, atI_0, atI_1, atI_2, ixN_30, ixN_31, ixN_32, Option.some.injEq, List.cons.injEq, true_or, or_true, false_or, or_false, isI]; exact ends_rt rfl q
theorem sg_01 (n : Nat) : decide (n ∈ (("01" : Str)).cps.toList) = sign01 n := by
  have e : (("01" : Str)).cps.toList = [48, 49] := by decide
  rw [e]
  unfold sign01
  simp only [List.mem_cons, List.not_mem_nil, or_false, Bool.decide_or]
theorem sg_eq (n : Nat) : (((⟨#[n]⟩ : Str) = ("0" : Str)) = (n = 48)) ∧ (((⟨#[n]⟩ : Str) = ("1" : Str)) = (n = 49)) := by
  have e0 : ("0" : Str) = ⟨#[48]⟩ := by decide
  have e1 : ("1" : Str) = ⟨#[49]⟩ := by decide
  rw [e0, e1]
  constructor <;> (apply propext; simp)
theorem leni (z : Str) : ((1 : Int) ≤ ((z.length : Nat) : Int)) = (1 ≤ z.length) := by apply propext; omega
def sp_is_name : DSp := fun ds Q _ => ∃ v, ds = [v] ∧ Val v ∧ Q (.bl (isN v)) []
theorem hd_is_name : ∀ ds Q (E : D → List D → Prop), sp_is_name ds Q E → rd_is_name (dEnds [false] Q) (entryN 2 [false] ds) := by
  rintro ds Q E ⟨v, rfl, h, q⟩
  unfold rd_is_name
  rcases h with rfl | ⟨b, rfl⟩ | ⟨i, rfl⟩ | ⟨z, rfl, hz⟩ | ⟨l, rfl | rfl, _⟩ | ⟨ks, ds, rfl⟩
  · simp (maxSteps := 2000000) only [dVar_ap, dC_ap, dEsc_ap, dPure_ap, dOp_ap, dUn_ap, dNil_ap, dCons_ap, hNil_ap, hCons_ap, dCB_ap, dTup_ap, dLst_ap, dTest_ap, dTru_ap, dAnd_ap, dOr_ap, dNot_ap, dAndV_ap, dOrV_ap, dNotV_ap, dIf_ap, mNil_ap, mPu_ap, mOw_ap, gdName_ap, gdNil_ap, gdCons_ap, gdSeq_ap, dNext_ap, dBreak_ap, dCont_ap, dNever_ap, dDrop_ap, dRet_ap, dRetN_ap, dRetV_ap, dIfS_ap, dAsg_ap, dAsgN_ap, dPar_ap, dPar3_ap, dParT_ap, dIt_ap, dItAny_ap, dItA_ap, dRng1_ap, dRng2_ap, dEnum_ap, dZip_ap, dFor_ap, dWhile_ap, dLc_ap, dRepN_ap, dCatN_ap, dNoPart_ap, dPart_ap, dSl_ap, dSlN_ap, dChain_ap, dListOf_ap, dSortI_ap, dApp_ap, dExt_ap, dSetI_ap, dPop_ap, dPopAt_ap, kNil_ap, kPu_ap, kIo_ap, dCall_ap, kApp_ap, kPerm_ap, dYes_ap, dZipM_ap, dEq, dNe, dEqA, dNeA, dAdd, dI, dI0, dMul, dIx, dIsN, dNotN, dIn, dLen, dInt1, dAbs, dMM, dSum, dMaxL, dMinL, dAll, dTupOf, dIsi, dStrI, dNeg, dSub, dDiv, dMod, dPow, dShl, dShr, dBand, dLt, dLe, dGt, dGe, dCallG, entryN, entry, slotsOf, putOuts, putL, Sl.put, ownL, resolve, look, slD, looks, Sl.ownd, forW, compW, wipeP, backP, D.bls, D.ints, kp, perm, List.filterMap_cons, List.filterMap_nil, List.getElem?_cons_zero, List.getElem?_cons_succ, List.getElem?_nil, List.set_cons_zero, List.set_cons_succ, List.length_cons, List.length_nil, List.replicate_succ, List.replicate_zero, List.append_nil, List.nil_append, List.cons_append, List.map_cons, List.map_nil, Option.bind_some, Option.map_some, Option.isSome_some, Nat.reduceAdd, Nat.reduceSub, Nat.zero_add, Option.bind, Option.map, ↓reduceIte, decide_eq_true_eq, decide_true, decide_false, Bool.false_eq_true, Bool.true_eq_false, Bool.not_true, Bool.not_false, Bool.not_eq_true, Bool.not_eq_false, reduceCtorEq, true_and, and_true, okEq_int, okEq_bl, okEq_non, okEq_ints, okEq_nil, eqv_int, eqv_bl, eqv_nil, List.map_eq_nil_iff, truD, D.isNon, tyName, tyB, tyKnown, isTy, tyBD, List.all_cons, List.all_nil, List.any_cons, List.any_nil, List.contains_cons, List.contains_nil, String.reduceBEq, Bool.true_or, Bool.or_true, Bool.false_or, Bool.or_false, Bool.true_and, Bool.and_true, Bool.false_and, Bool.and_false, cast_0, cast_1, cast_2, cast_3, two_le_size, zero_lt_size, one_lt_size, nodup_nilN, nodup_1, zero_le_size, atI_0, atI_1, atI_2, ixN_30, ixN_31, ixN_32, Option.some.injEq, List.cons.injEq, true_or, or_true, false_or, or_false]; exact ends_rt rfl q
  · simp (maxSteps := 2000000) only [dVar_ap, dC_ap, dEsc_ap, dPure_ap, dOp_ap, dUn_ap, dNil_ap, dCons_ap, hNil_ap, hCons_ap, dCB_ap, dTup_ap, dLst_ap, dTest_ap, dTru_ap, dAnd_ap, dOr_ap, dNot_ap, dAndV_ap, dOrV_ap, dNotV_ap, dIf_ap, mNil_ap, mPu_ap, mOw_ap, gdName_ap, gdNil_ap, gdCons_ap, gdSeq_ap, dNext_ap, dBreak_ap, dCont_ap, dNever_ap, dDrop_ap, dRet_ap, dRetN_ap, dRetV_ap, dIfS_ap, dAsg_ap, dAsgN_ap, dPar_ap, dPar3_ap, dParT_ap, dIt_ap, dItAny_ap, dItA_ap, dRng1_ap, dRng2_ap, dEnum_ap, dZip_ap, dFor_ap, dWhile_ap, dLc_ap, dRepN_ap, dCatN_ap, dNoPart_ap, dPart_ap, dSl_ap, dSlN_ap, dChain_ap, dListOf_ap, dSortI_ap, dApp_ap, dExt_ap, dSetI_ap, dPop_ap, dPopAt_ap, kNil_ap, kPu_ap, kIo_ap, dCall_ap, kApp_ap, kPerm_ap, dYes_ap, dZipM_ap, dEq, dNe, dEqA, dNeA, dAdd, dI, dI0, dMul, dIx, dIsN, dNotN, dIn, dLen, dInt1, dAbs, dMM, dSum, dMaxL, dMinL, dAll, dTupOf, dIsi, dStrI, dNeg, dSub, dDiv, dMod, dPow, dShl, dShr, dBand, dLt, dLe, dGt, dGe, dCallG, entryN, entry, slotsOf, putOuts, putL, Sl.put, ownL, resolve, look, slD, looks, Sl.ownd, forW, compW, wipeP, backP, D.bls, D.ints, kp, perm, List.filterMap_cons, List.filterMap_nil, List.getElem?_cons_zero, List.getElem?_cons_succ, List.getElem?_nil, List.set_cons_zero, List.set_cons_succ, List.length_cons, List.length_nil, List.replicate_succ, List.replicate_zero, List.append_nil, List.nil_append, List.cons_append, List.map_cons, List.map_nil, Option.bind_some, Option.map_some, Option.isSome_some, Nat.reduceAdd, Nat.reduceSub, Nat.zero_add, Option.bind, Option.map, ↓reduceIte, decide_eq_true_eq, decide_true, decide_false, Bool.false_eq_true, Bool.true_eq_false, Bool.not_true, Bool.not_false, Bool.not_eq_true, Bool.not_eq_false, reduceCtorEq, true_and, and_true, okEq_int, okEq_bl, okEq_non, okEq_ints, okEq_nil, eqv_int, eqv_bl, eqv_nil, List.map_eq_nil_iff, truD, D.isNon, tyName, tyB, tyKnown, isTy, tyBD, List.all_cons, List.all_nil, List.any_cons, List.any_nil, List.contains_cons, List.contains_nil, String.reduceBEq, Bool.true_or, Bool.or_true, Bool.false_or, Bool.or_false, Bool.true_and, Bool.and_true, Bool.false_and, Bool.and_false, cast_0, cast_1, cast_2, cast_3, two_le_size, zero_lt_size, one_lt_size, nodup_nilN, nodup_1, zero_le_size, atI_0, atI_1, atI_2, ixN_30, ixN_31, ixN_32, Option.some.injEq, List.cons.injEq, true_or, or_true, false_or, or_false]; exact ends_rt rfl q
  · simp (maxSteps := 2000000) only [dVar_ap, dC_ap, dEsc_ap, dPure_ap, dOp_ap, dUn_ap, dNil_ap, dCons_ap, hNil_ap, hCons_ap, dCB_ap, dTup_ap, dLst_ap, dTest_ap, dTru_ap, dAnd_ap, dOr_ap, dNot_ap, dAndV_ap, dOrV_ap, dNotV_ap, dIf_ap, mNil_ap, mPu_ap, mOw_ap, gdName_ap, gdNil_ap, gdCons_ap, gdSeq_ap, dNext_ap, dBreak_ap, dCont_ap, dNever_ap, dDrop_ap, dRet_ap, dRetN_ap, dRetV_ap, dIfS_ap, dAsg_ap, dAsgN_ap, dPar_ap, dPar3_ap, dParT_ap, dIt_ap, dItAny_ap, dItA_ap, dRng1_ap, dRng2_ap, dEnum_ap, dZip_ap, dFor_ap, dWhile_ap, dLc_ap, dRepN_ap, dCatN_ap, dNoPart_ap, dPart_ap, dSl_ap, dSlN_ap, dChain_ap, dListOf_ap, dSortI_ap, dApp_ap, dExt_ap, dSetI_ap, dPop_ap, dPopAt_ap, kNil_ap, kPu_ap, kIo_ap, dCall_ap, kApp_ap, kPerm_ap, dYes_ap, dZipM_ap, dEq, dNe, dEqA, dNeA, dAdd, dI, dI0, dMul, dIx, dIsN, dNotN, dIn, dLen, dInt1, dAbs, dMM, dSum, dMaxL, dMinL, dAll, dTupOf, dIsi, dStrI, dNeg, dSub, dDiv, dMod, dPow, dShl, dShr, dBand, dLt, dLe, dGt, dGe, dCallG, entryN, entry, slotsOf, putOuts, putL, Sl.put, ownL, resolve, look, slD, looks, Sl.ownd, forW, compW, wipeP, backP, D.bls, D.ints, kp, perm, List.filterMap_cons, List.filterMap_nil, List.getElem?_cons_zero, List.getElem?_cons_succ, List.getElem?_nil, List.set_cons_zero, List.set_cons_succ, List.length_cons, List.length_nil, List.replicate_succ, List.replicate_zero, List.append_nil, List.nil_append, List.cons_append, List.map_cons, List.map_nil, Option.bind_some, Option.map_some, Option.isSome_some, Nat.reduceAdd, Nat.reduceSub, Nat.zero_add, Option.bind, Option.map, ↓reduceIte, decide_eq_true_eq, decide_true, decide_false, Bool.false_eq_true, Bool.true_eq_false, Bool.not_true, Bool.not_false, Bool.not_eq_true, Bool.not_eq_false, reduceCtorEq, true_and, and_true, okEq_int, okEq_bl, okEq_non, okEq_ints, okEq_nil, eqv_int, eqv_bl, eqv_nil, List.map_eq_nil_iff, truD, D.isNon, tyName, tyB, tyKnown, isTy, tyBD, List.all_cons, List.all_nil, List.any_cons, List.any_nil, List.contains_cons, List.contains_nil, String.reduceBEq, Bool.true_or, Bool.or_true, Bool.false_or, Bool.or_false, Bool.true_and, Bool.and_true, Bool.false_and, Bool.and_false, cast_0, cast_1, cast_2, cast_3, two_le_size, zero_lt_size, one_lt_size, nodup_nilN, nodup_1, zero_le_size, atI_0, atI_1, atI_2, ixN_30, ixN_31, ixN_32, Option.some.injEq, List.cons.injEq, true_or, or_true, false_or, or_false]; exact ends_rt rfl q
  · have hzs : z.length ≤ sizeLine := Nat.le_trans hz.1 (lt_size (by decide))
    by_cases h1 : (1 : Int) ≤ ((z.length : Nat) : Int)
    · by_cases h2 : ((z.length : Nat) : Int) ≤ 60
      · simp (maxSteps := 2000000) only [dVar_ap, dC_ap, dEsc_ap, dPure_ap, dOp_ap, dUn_ap, dNil_ap, dCons_ap, hNil_ap, hCons_ap, dCB_ap, dTup_ap, dLst_ap, dTest_ap, dTru_ap, dAnd_ap, dOr_ap, dNot_ap, dAndV_ap, dOrV_ap, dNotV_ap, dIf_ap, mNil_ap, mPu_ap, mOw_ap, gdName_ap, gdNil_ap, gdCons_ap, gdSeq_ap, dNext_ap, dBreak_ap, dCont_ap, dNever_ap, dDrop_ap, dRet_ap, dRetN_ap, dRetV_ap, dIfS_ap, dAsg_ap, dAsgN_ap, dPar_ap, dPar3_ap, dParT_ap, dIt_ap, dItAny_ap, dItA_ap, dRng1_ap, dRng2_ap, dEnum_ap, dZip_ap, dFor_ap, dWhile_ap, dLc_ap, dRepN_ap, dCatN_ap, dNoPart_ap, dPart_ap, dSl_ap, dSlN_ap, dChain_ap, dListOf_ap, dSortI_ap, dApp_ap, dExt_ap, dSetI_ap, dPop_ap, dPopAt_ap, kNil_ap, kPu_ap, kIo_ap, dCall_ap, kApp_ap, kPerm_ap, dYes_ap, dZipM_ap, dEq, dNe, dEqA, dNeA, dAdd, dI, dI0, dMul, dIx, dIsN, dNotN, dIn, dLen, dInt1, dAbs, dMM, dSum, dMaxL, dMinL, dAll, dTupOf, dIsi, dStrI, dNeg, dSub, dDiv, dMod, dPow, dShl, dShr, dBand, dLt, dLe, dGt, dGe, dCallG, entryN, entry, slotsOf, putOuts, putL, Sl.put, ownL, resolve, look, slD, looks, Sl.ownd, forW, compW, wipeP, backP, D.bls, D.ints, kp, perm, List.filterMap_cons, List.filterMap_nil, List.getElem?_cons_zero, List.getElem?_cons_succ, List.getElem?_nil, List.set_cons_zero, List.set_cons_succ, List.length_cons, List.length_nil, List.replicate_succ, List.replicate_zero, List.append_nil, List.nil_append, List.cons_append, List.map_cons, List.map_nil, Option.bind_some, Option.map_some, Option.isSome_some, Nat.reduceAdd, Nat.reduceSub, Nat.zero_add, Option.bind, Option.map, ↓reduceIte, decide_eq_true_eq, decide_true, decide_false, Bool.false_eq_true, Bool.true_eq_false, Bool.not_true, Bool.not_false, Bool.not_eq_true, Bool.not_eq_false, reduceCtorEq, true_and, and_true, okEq_int, okEq_bl, okEq_non, okEq_ints, okEq_nil, eqv_int, eqv_bl, eqv_nil, List.map_eq_nil_iff, truD, D.isNon, tyName, tyB, tyKnown, isTy, tyBD, List.all_cons, List.all_nil, List.any_cons, List.any_nil, List.contains_cons, List.contains_nil, String.reduceBEq, Bool.true_or, Bool.or_true, Bool.false_or, Bool.or_false, Bool.true_and, Bool.and_true, Bool.false_and, Bool.and_false, cast_0, cast_1, cast_2, cast_3, two_le_size, zero_lt_size, one_lt_size, nodup_nilN, nodup_1, zero_le_size, atI_0, atI_1, atI_2, ixN_30, ixN_31, ixN_32, Option.some.injEq, List.cons.injEq, true_or, or_true, false_or, or_false, hzs, h1, h2]
        unfold Z.signs
        refine compW_map _ (fun n => .bl (decide (n ∈ (("01" : Str)).cps.toList))) _ z.cps.toList (lt_size (by have := hz.1; have e : z.length = z.cps.toList.length := (Array.length_toList).symm; omega)) (fun n acc R hn ha hR => ?_) ?_
        · simp (maxSteps := 2000000) only [dVar_ap, dC_ap, dEsc_ap, dPure_ap, dOp_ap, dUn_ap, dNil_ap, dCons_ap, hNil_ap, hCons_ap, dCB_ap, dTup_ap, dLst_ap, dTest_ap, dTru_ap, dAnd_ap, dOr_ap, dNot_ap, dAndV_ap, dOrV_ap, dNotV_ap, dIf_ap, mNil_ap, mPu_ap, mOw_ap, gdName_ap, gdNil_ap, gdCons_ap, gdSeq_ap, dNext_ap, dBreak_ap, dCont_ap, dNever_ap, dDrop_ap, dRet_ap, dRetN_ap, dRetV_ap, dIfS_ap, dAsg_ap, dAsgN_ap, dPar_ap, dPar3_ap, dParT_ap, dIt_ap, dItAny_ap, dItA_ap, dRng1_ap, dRng2_ap, dEnum_ap, dZip_ap, dFor_ap, dWhile_ap, dLc_ap, dRepN_ap, dCatN_ap, dNoPart_ap, dPart_ap, dSl_ap, dSlN_ap, dChain_ap, dListOf_ap, dSortI_ap, dApp_ap, dExt_ap, dSetI_ap, dPop_ap, dPopAt_ap, kNil_ap, kPu_ap, kIo_ap, dCall_ap, kApp_ap, kPerm_ap, dYes_ap, dZipM_ap, dEq, dNe, dEqA, dNeA, dAdd, dI, dI0, dMul, dIx, dIsN, dNotN, dIn, dLen, dInt1, dAbs, dMM, dSum, dMaxL, dMinL, dAll, dTupOf, dIsi, dStrI, dNeg, dSub, dDiv, dMod, dPow, dShl, dShr, dBand, dLt, dLe, dGt, dGe, dCallG, entryN, entry, slotsOf, putOuts, putL, Sl.put, ownL, resolve, look, slD, looks, Sl.ownd, forW, compW, wipeP, backP, D.bls, D.ints, kp, perm, List.filterMap_cons, List.filterMap_nil, List.getElem?_cons_zero, List.getElem?_cons_succ, List.getElem?_nil, List.set_cons_zero, List.set_cons_succ, List.length_cons, List.length_nil, List.replicate_succ, List.replicate_zero, List.append_nil, List.nil_append, List.cons_append, List.map_cons, List.map_nil, Option.bind_some, Option.map_some, Option.isSome_some, Nat.reduceAdd, Nat.reduceSub, Nat.zero_add, Option.bind, Option.map, ↓reduceIte, decide_eq_true_eq, decide_true, decide_false, Bool.false_eq_true, Bool.true_eq_false, Bool.not_true, Bool.not_false, Bool.not_eq_true, Bool.not_eq_false, reduceCtorEq, true_and, and_true, okEq_int, okEq_bl, okEq_non, okEq_ints, okEq_nil, eqv_int, eqv_bl, eqv_nil, List.map_eq_nil_iff, truD, D.isNon, tyName, tyB, tyKnown, isTy, tyBD, List.all_cons, List.all_nil, List.any_cons, List.any_nil, List.contains_cons, List.contains_nil, String.reduceBEq, Bool.true_or, Bool.or_true, Bool.false_or, Bool.or_false, Bool.true_and, Bool.and_true, Bool.false_and, Bool.and_false, cast_0, cast_1, cast_2, cast_3, two_le_size, zero_lt_size, one_lt_size, nodup_nilN, nodup_1, zero_le_size, atI_0, atI_1, atI_2, ixN_30, ixN_31, ixN_32, Option.some.injEq, List.cons.injEq, true_or, or_true, false_or, or_false, dInSign, ha]
          exact ⟨n, rfl, hR⟩
        · simp (maxSteps := 2000000) only [dVar_ap, dC_ap, dEsc_ap, dPure_ap, dOp_ap, dUn_ap, dNil_ap, dCons_ap, hNil_ap, hCons_ap, dCB_ap, dTup_ap, dLst_ap, dTest_ap, dTru_ap, dAnd_ap, dOr_ap, dNot_ap, dAndV_ap, dOrV_ap, dNotV_ap, dIf_ap, mNil_ap, mPu_ap, mOw_ap, gdName_ap, gdNil_ap, gdCons_ap, gdSeq_ap, dNext_ap, dBreak_ap, dCont_ap, dNever_ap, dDrop_ap, dRet_ap, dRetN_ap, dRetV_ap, dIfS_ap, dAsg_ap, dAsgN_ap, dPar_ap, dPar3_ap, dParT_ap, dIt_ap, dItAny_ap, dItA_ap, dRng1_ap, dRng2_ap, dEnum_ap, dZip_ap, dFor_ap, dWhile_ap, dLc_ap, dRepN_ap, dCatN_ap, dNoPart_ap, dPart_ap, dSl_ap, dSlN_ap, dChain_ap, dListOf_ap, dSortI_ap, dApp_ap, dExt_ap, dSetI_ap, dPop_ap, dPopAt_ap, kNil_ap, kPu_ap, kIo_ap, dCall_ap, kApp_ap, kPerm_ap, dYes_ap, dZipM_ap, dEq, dNe, dEqA, dNeA, dAdd, dI, dI0, dMul, dIx, dIsN, dNotN, dIn, dLen, dInt1, dAbs, dMM, dSum, dMaxL, dMinL, dAll, dTupOf, dIsi, dStrI, dNeg, dSub, dDiv, dMod, dPow, dShl, dShr, dBand, dLt, dLe, dGt, dGe, dCallG, entryN, entry, slotsOf, putOuts, putL, Sl.put, ownL, resolve, look, slD, looks, Sl.ownd, forW, compW, wipeP, backP, D.bls, D.ints, kp, perm, List.filterMap_cons, List.filterMap_nil, List.getElem?_cons_zero, List.getElem?_cons_succ, List.getElem?_nil, List.set_cons_zero, List.set_cons_succ, List.length_cons, List.length_nil, List.replicate_succ, List.replicate_zero, List.append_nil, List.nil_append, List.cons_append, List.map_cons, List.map_nil, Option.bind_some, Option.map_some, Option.isSome_some, Nat.reduceAdd, Nat.reduceSub, Nat.zero_add, Option.bind, Option.map, ↓reduceIte, decide_eq_true_eq, decide_true, decide_false, Bool.false_eq_true, Bool.true_eq_false, Bool.not_true, Bool.not_false, Bool.not_eq_true, Bool.not_eq_false, reduceCtorEq, true_and, and_true, okEq_int, okEq_bl, okEq_non, okEq_ints, okEq_nil, eqv_int, eqv_bl, eqv_nil, List.map_eq_nil_iff, truD, D.isNon, tyName, tyB, tyKnown, isTy, tyBD, List.all_cons, List.all_nil, List.any_cons, List.any_nil, List.contains_cons, List.contains_nil, String.reduceBEq, Bool.true_or, Bool.or_true, Bool.false_or, Bool.or_false, Bool.true_and, Bool.and_true, Bool.false_and, Bool.and_false, cast_0, cast_1, cast_2, cast_3, two_le_size, zero_lt_size, one_lt_size, nodup_nilN, nodup_1, zero_le_size, atI_0, atI_1, atI_2, ixN_30, ixN_31, ixN_32, Option.some.injEq, List.cons.injEq, true_or, or_true, false_or, or_false, bls_map]
          have e : isN (.str z) = (z.cps.toList.map fun n => decide (n ∈ (("01" : Str)).cps.toList)).all id := by
            have d1 : 1 ≤ z.length := by omega
            have d2 : z.length ≤ 60 := by omega
            unfold isN
            dsimp only
            rw [decide_eq_true d1, decide_eq_true d2, Bool.true_and, Bool.true_and, List.all_map]
            congr 1
            funext n
            exact (sg_01 n).symm
          rw [e] at q
          exact ends_rt rfl q
      · simp (maxSteps := 2000000) only [dVar_ap, dC_ap, dEsc_ap, dPure_ap, dOp_ap, dUn_ap, dNil_ap, dCons_ap, hNil_ap, hCons_ap, dCB_ap, dTup_ap, dLst_ap, dTest_ap, dTru_ap, dAnd_ap, dOr_ap, dNot_ap, dAndV_ap, dOrV_ap, dNotV_ap, dIf_ap, mNil_ap, mPu_ap, mOw_ap, gdName_ap, gdNil_ap, gdCons_ap, gdSeq_ap, dNext_ap, dBreak_ap, dCont_ap, dNever_ap, dDrop_ap, dRet_ap, dRetN_ap, dRetV_ap, dIfS_ap, dAsg_ap, dAsgN_ap, dPar_ap, dPar3_ap, dParT_ap, dIt_ap, dItAny_ap, dItA_ap, dRng1_ap, dRng2_ap, dEnum_ap, dZip_ap, dFor_ap, dWhile_ap, dLc_ap, dRepN_ap, dCatN_ap, dNoPart_ap, dPart_ap, dSl_ap, dSlN_ap, dChain_ap, dListOf_ap, dSortI_ap, dApp_ap, dExt_ap, dSetI_ap, dPop_ap, dPopAt_ap, kNil_ap, kPu_ap, kIo_ap, dCall_ap, kApp_ap, kPerm_ap, dYes_ap, dZipM_ap, dEq, dNe, dEqA, dNeA, dAdd, dI, dI0, dMul, dIx, dIsN, dNotN, dIn, dLen, dInt1, dAbs, dMM, dSum, dMaxL, dMinL, dAll, dTupOf, dIsi, dStrI, dNeg, dSub, dDiv, dMod, dPow, dShl, dShr, dBand, dLt, dLe, dGt, dGe, dCallG, entryN, entry, slotsOf, putOuts, putL, Sl.put, ownL, resolve, look, slD, looks, Sl.ownd, forW, compW, wipeP, backP, D.bls, D.ints, kp, perm, List.filterMap_cons, List.filterMap_nil, List.getElem?_cons_zero, List.getElem?_cons_succ, List.getElem?_nil, List.set_cons_zero, List.set_cons_succ, List.length_cons, List.length_nil, List.replicate_succ, List.replicate_zero, List.append_nil, List.nil_append, List.cons_append, List.map_cons, List.map_nil, Option.bind_some, Option.map_some, Option.isSome_some, Nat.reduceAdd, Nat.reduceSub, Nat.zero_add, Option.bind, Option.map, ↓reduceIte, decide_eq_true_eq, decide_true, decide_false, Bool.false_eq_true, Bool.true_eq_false, Bool.not_true, Bool.not_false, Bool.not_eq_true, Bool.not_eq_false, reduceCtorEq, true_and, and_true, okEq_int, okEq_bl, okEq_non, okEq_ints, okEq_nil, eqv_int, eqv_bl, eqv_nil, List.map_eq_nil_iff, truD, D.isNon, tyName, tyB, tyKnown, isTy, tyBD, List.all_cons, List.all_nil, List.any_cons, List.any_nil, List.contains_cons, List.contains_nil, String.reduceBEq, Bool.true_or, Bool.or_true, Bool.false_or, Bool.or_false, Bool.true_and, Bool.and_true, Bool.false_and, Bool.and_false, cast_0, cast_1, cast_2, cast_3, two_le_size, zero_lt_size, one_lt_size, nodup_nilN, nodup_1, zero_le_size, atI_0, atI_1, atI_2, ixN_30, ixN_31, ixN_32, Option.some.injEq, List.cons.injEq, true_or, or_true, false_or, or_false, hzs, h1, h2]
        have e : isN (.str z) = false := by
          unfold isN
          dsimp only
          rw [decide_eq_false (show ¬ z.length ≤ 60 by omega), Bool.false_and, Bool.and_false]
        rw [e] at q
        exact ends_rt rfl q
    · simp (maxSteps := 2000000) only [dVar_ap, dC_ap, dEsc_ap, dPure_ap, dOp_ap, dUn_ap, dNil_ap, dCons_ap, hNil_ap, hCons_ap, dCB_ap, dTup_ap, dLst_ap, dTest_ap, dTru_ap, dAnd_ap, dOr_ap, dNot_ap, dAndV_ap, dOrV_ap, dNotV_ap, dIf_ap, mNil_ap, mPu_ap, mOw_ap, gdName_ap, gdNil_ap, gdCons_ap, gdSeq_ap, dNext_ap, dBreak_ap, dCont_ap, dNever_ap, dDrop_ap, dRet_ap, dRetN_ap, dRetV_ap, dIfS_ap, dAsg_ap, dAsgN_ap, dPar_ap, dPar3_ap, dParT_ap, dIt_ap, dItAny_ap, dItA_ap, dRng1_ap, dRng2_ap, dEnum_ap, dZip_ap, dFor_ap, dWhile_ap, dLc_ap, dRepN_ap, dCatN_ap, dNoPart_ap, dPart_ap, dSl_ap, dSlN_ap, dChain_ap, dListOf_ap, dSortI_ap, dApp_ap, dExt_ap, dSetI_ap, dPop_ap, dPopAt_ap, kNil_ap, kPu_ap, kIo_ap, dCall_ap, kApp_ap, kPerm_ap, dYes_ap, dZipM_ap, dEq, dNe, dEqA, dNeA, dAdd, dI, dI0, dMul, dIx, dIsN, dNotN, dIn, dLen, dInt1, dAbs, dMM, dSum, dMaxL, dMinL, dAll, dTupOf, dIsi, dStrI, dNeg, dSub, dDiv, dMod, dPow, dShl, dShr, dBand, dLt, dLe, dGt, dGe, dCallG, entryN, entry, slotsOf, putOuts, putL, Sl.put, ownL, resolve, look, slD, looks, Sl.ownd, forW, compW, wipeP, backP, D.bls, D.ints, kp, perm, List.filterMap_cons, List.filterMap_nil, List.getElem?_cons_zero, List.getElem?_cons_succ, List.getElem?_nil, List.set_cons_zero, List.set_cons_succ, List.length_cons, List.length_nil, List.replicate_succ, List.replicate_zero, List.append_nil, List.nil_append, List.cons_append, List.map_cons, List.map_nil, Option.bind_some, Option.map_some, Option.isSome_some, Nat.reduceAdd, Nat.reduceSub, Nat.zero_add, Option.bind, Option.map, ↓reduceIte, decide_eq_true_eq, decide_true, decide_false, Bool.false_eq_true, Bool.true_eq_false, Bool.not_true, Bool.not_false, Bool.not_eq_true, Bool.not_eq_false, reduceCtorEq, true_and, and_true, okEq_int, okEq_bl, okEq_non, okEq_ints, okEq_nil, eqv_int, eqv_bl, eqv_nil, List.map_eq_nil_iff, truD, D.isNon, tyName, tyB, tyKnown, isTy, tyBD, List.all_cons, List.all_nil, List.any_cons, List.any_nil, List.contains_cons, List.contains_nil, String.reduceBEq, Bool.true_or, Bool.or_true, Bool.false_or, Bool.or_false, Bool.true_and, Bool.and_true, Bool.false_and, Bool.and_false, cast_0, cast_1, cast_2, cast_3, two_le_size, zero_lt_size, one_lt_size, nodup_nilN, nodup_1, zero_le_size, atI_0, atI_1, atI_2, ixN_30, ixN_31, ixN_32, Option.some.injEq, List.cons.injEq, true_or, or_true, false_or, or_false, hzs, h1]
      have e : isN (.str z) = false := by
        unfold isN
        dsimp only
        rw [decide_eq_false (show ¬ 1 ≤ z.length by omega), Bool.false_and]
      rw [e] at q
      exact ends_rt rfl q
  · simp (maxSteps := 2000000) only [dVar_ap, dC_ap, dEsc_ap, dPure_ap, dOp_ap, dUn_ap, dNil_ap, dCons_ap, hNil_ap, hCons_ap, dCB_ap, dTup_ap, dLst_ap, dTest_ap, dTru_ap, dAnd_ap, dOr_ap, dNot_ap, dAndV_ap, dOrV_ap, dNotV_ap, dIf_ap, mNil_ap, mPu_ap, mOw_ap, gdName_ap, gdNil_ap, gdCons_ap, gdSeq_ap, dNext_ap, dBreak_ap, dCont_ap, dNever_ap, dDrop_ap, dRet_ap, dRetN_ap, dRetV_ap, dIfS_ap, dAsg_ap, dAsgN_ap, dPar_ap, dPar3_ap, dParT_ap, dIt_ap, dItAny_ap, dItA_ap, dRng1_ap, dRng2_ap, dEnum_ap, dZip_ap, dFor_ap, dWhile_ap, dLc_ap, dRepN_ap, dCatN_ap, dNoPart_ap, dPart_ap, dSl_ap, dSlN_ap, dChain_ap, dListOf_ap, dSortI_ap, dApp_ap, dExt_ap, dSetI_ap, dPop_ap, dPopAt_ap, kNil_ap, kPu_ap, kIo_ap, dCall_ap, kApp_ap, kPerm_ap, dYes_ap, dZipM_ap, dEq, dNe, dEqA, dNeA, dAdd, dI, dI0, dMul, dIx, dIsN, dNotN, dIn, dLen, dInt1, dAbs, dMM, dSum, dMaxL, dMinL, dAll, dTupOf, dIsi, dStrI, dNeg, dSub, dDiv, dMod, dPow, dShl, dShr, dBand, dLt, dLe, dGt, dGe, dCallG, entryN, entry, slotsOf, putOuts, putL, Sl.put, ownL, resolve, look, slD, looks, Sl.ownd, forW, compW, wipeP, backP, D.bls, D.ints, kp, perm, List.filterMap_cons, List.filterMap_nil, List.getElem?_cons_zero, List.getElem?_cons_succ, List.getElem?_nil, List.set_cons_zero, List.set_cons_succ, List.length_cons, List.length_nil, List.replicate_succ, List.replicate_zero, List.append_nil, List.nil_append, List.cons_append, List.map_cons, List.map_nil, Option.bind_some, Option.map_some, Option.isSome_some, Nat.reduceAdd, Nat.reduceSub, Nat.zero_add, Option.bind, Option.map, ↓reduceIte, decide_eq_true_eq, decide_true, decide_false, Bool.false_eq_true, Bool.true_eq_false, Bool.not_true, Bool.not_false, Bool.not_eq_true, Bool.not_eq_false, reduceCtorEq, true_and, and_true, okEq_int, okEq_bl, okEq_non, okEq_ints, okEq_nil, eqv_int, eqv_bl, eqv_nil, List.map_eq_nil_iff, truD, D.isNon, tyName, tyB, tyKnown, isTy, tyBD, List.all_cons, List.all_nil, List.any_cons, List.any_nil, List.contains_cons, List.contains_nil, String.reduceBEq, Bool.true_or, Bool.or_true, Bool.false_or, Bool.or_false, Bool.true_and, Bool.and_true, Bool.false_and, Bool.and_false, cast_0, cast_1, cast_2, cast_3, two_le_size, zero_lt_size, one_lt_size, nodup_nilN, nodup_1, zero_le_size, atI_0, atI_1, atI_2, ixN_30, ixN_31, ixN_32, Option.some.injEq, List.cons.injEq, true_or, or_true, false_or, or_false]; exact ends_rt rfl q
  · simp (maxSteps := 2000000) only [dVar_ap, dC_ap, dEsc_ap, dPure_ap, dOp_ap, dUn_ap, dNil_ap, dCons_ap, hNil_ap, hCons_ap, dCB_ap, dTup_ap, dLst_ap, dTest_ap, dTru_ap, dAnd_ap, dOr_ap, dNot_ap, dAndV_ap, dOrV_ap, dNotV_ap, dIf_ap, mNil_ap, mPu_ap, mOw_ap, gdName_ap, gdNil_ap, gdCons_ap, gdSeq_ap, dNext_ap, dBreak_ap, dCont_ap, dNever_ap, dDrop_ap, dRet_ap, dRetN_ap, dRetV_ap, dIfS_ap, dAsg_ap, dAsgN_ap, dPar_ap, dPar3_ap, dParT_ap, dIt_ap, dItAny_ap, dItA_ap, dRng1_ap, dRng2_ap, dEnum_ap, dZip_ap, dFor_ap, dWhile_ap, dLc_ap, dRepN_ap, dCatN_ap, dNoPart_ap, dPart_ap, dSl_ap, dSlN_ap, dChain_ap, dListOf_ap, dSortI_ap, dApp_ap, dExt_ap, dSetI_ap, dPop_ap, dPopAt_ap, kNil_ap, kPu_ap, kIo_ap, dCall_ap, kApp_ap, kPerm_ap, dYes_ap, dZipM_ap, dEq, dNe, dEqA, dNeA, dAdd, dI, dI0, dMul, dIx, dIsN, dNotN, dIn, dLen, dInt1, dAbs, dMM, dSum, dMaxL, dMinL, dAll, dTupOf, dIsi, dStrI, dNeg, dSub, dDiv, dMod, dPow, dShl, dShr, dBand, dLt, dLe, dGt, dGe, dCallG, entryN, entry, slotsOf, putOuts, putL, Sl.put, ownL, resolve, look, slD, looks, Sl.ownd, forW, compW, wipeP, backP, D.bls, D.ints, kp, perm, List.filterMap_cons, List.filterMap_nil, List.getElem?_cons_zero, List.getElem?_cons_succ, List.getElem?_nil, List.set_cons_zero, List.set_cons_succ, List.length_cons, List.length_nil, List.replicate_succ, List.replicate_zero, List.append_nil, List.nil_append, List.cons_append, List.map_cons, List.map_nil, Option.bind_some, Option.map_some, Option.isSome_some, Nat.reduceAdd, Nat.reduceSub, Nat.zero_add, Option.bind, Option.map, ↓reduceIte, decide_eq_true_eq, decide_true, decide_false, Bool.false_eq_true, Bool.true_eq_false, Bool.not_true, Bool.not_false, Bool.not_eq_true, Bool.not_eq_false, reduceCtorEq, true_and, and_true, okEq_int, okEq_bl, okEq_non, okEq_ints, okEq_nil, eqv_int, eqv_bl, eqv_nil, List.map_eq_nil_iff, truD, D.isNon, tyName, tyB, tyKnown, isTy, tyBD, List.all_cons, List.all_nil, List.any_cons, List.any_nil, List.contains_cons, List.contains_nil, String.reduceBEq, Bool.true_or, Bool.or_true, Bool.false_or, Bool.or_false, Bool.true_and, Bool.and_true, Bool.false_and, Bool.and_false, cast_0, cast_1, cast_2, cast_3, two_le_size, zero_lt_size, one_lt_size, nodup_nilN, nodup_1, zero_le_size, atI_0, atI_1, atI_2, ixN_30, ixN_31, ixN_32, Option.some.injEq, List.cons.injEq, true_or, or_true, false_or, or_false]; exact ends_rt rfl q
  · simp (maxSteps := 2000000) only [dVar_ap, dC_ap, dEsc_ap, dPure_ap, dOp_ap, dUn_ap, dNil_ap, dCons_ap, hNil_ap, hCons_ap, dCB_ap, dTup_ap, dLst_ap, dTest_ap, dTru_ap, dAnd_ap, dOr_ap, dNot_ap, dAndV_ap, dOrV_ap, dNotV_ap, dIf_ap, mNil_ap, mPu_ap, mOw_ap, gdName_ap, gdNil_ap, gdCons_ap, gdSeq_ap, dNext_ap, dBreak_ap, dCont_ap, dNever_ap, dDrop_ap, dRet_ap, dRetN_ap, dRetV_ap, dIfS_ap, dAsg_ap, dAsgN_ap, dPar_ap, dPar3_ap, dParT_ap, dIt_ap, dItAny_ap, dItA_ap, dRng1_ap, dRng2_ap, dEnum_ap, dZip_ap, dFor_ap, dWhile_ap, dLc_ap, dRepN_ap, dCatN_ap, dNoPart_ap, dPart_ap, dSl_ap, dSlN_ap, dChain_ap, dListOf_ap, dSortI_ap, dApp_ap, dExt_ap, dSetI_ap, dPop_ap, dPopAt_ap, kNil_ap, kPu_ap, kIo_ap, dCall_ap, kApp_ap, kPerm_ap, dYes_ap, dZipM_ap, dEq, dNe, dEqA, dNeA, dAdd, dI, dI0, dMul, dIx, dIsN, dNotN, dIn, dLen, dInt1, dAbs, dMM, dSum, dMaxL, dMinL, dAll, dTupOf, dIsi, dStrI, dNeg, dSub, dDiv, dMod, dPow, dShl, dShr, dBand, dLt, dLe, dGt, dGe, dCallG, entryN, entry, slotsOf, putOuts, putL, Sl.put, ownL, resolve, look, slD, looks, Sl.ownd, forW, compW, wipeP, backP, D.bls, D.ints, kp, perm, List.filterMap_cons, List.filterMap_nil, List.getElem?_cons_zero, List.getElem?_cons_succ, List.getElem?_nil, List.set_cons_zero, List.set_cons_succ, List.length_cons, List.length_nil, List.replicate_succ, List.replicate_zero, List.append_nil, List.nil_append, List.cons_append, List.map_cons, List.map_nil, Option.bind_some, Option.map_some, Option.isSome_some, Nat.reduceAdd, Nat.reduceSub, Nat.zero_add, Option.bind, Option.map, ↓reduceIte, decide_eq_true_eq, decide_true, decide_false, Bool.false_eq_true, Bool.true_eq_false, Bool.not_true, Bool.not_false, Bool.not_eq_true, Bool.not_eq_false, reduceCtorEq, true_and, and_true, okEq_int, okEq_bl, okEq_non, okEq_ints, okEq_nil, eqv_int, eqv_bl, eqv_nil, List.map_eq_nil_iff, truD, D.isNon, tyName, tyB, tyKnown, isTy, tyBD, List.all_cons, List.all_nil, List.any_cons, List.any_nil, List.contains_cons, List.contains_nil, String.reduceBEq, Bool.true_or, Bool.or_true, Bool.false_or, Bool.or_false, Bool.true_and, Bool.and_true, Bool.false_and, Bool.and_false, cast_0, cast_1, cast_2, cast_3, two_le_size, zero_lt_size, one_lt_size, nodup_nilN, nodup_1, zero_le_size, atI_0, atI_1, atI_2, ixN_30, ixN_31, ixN_32, Option.some.injEq, List.cons.injEq, true_or, or_true, false_or, or_false]; exact ends_rt rfl q
def sp_is_pair : DSp := fun ds Q _ => ∃ v, ds = [v] ∧ Val v ∧ Q (.bl (isP v)) []
theorem hd_is_pair : ∀ ds Q (E : D → List D → Prop), sp_is_pair ds Q E → rd_is_pair sp_is_within (dEnds [false] Q) (entryN 2 [false] ds) := by
  rintro ds Q E ⟨v, rfl, h, q⟩
  unfold rd_is_pair
  have b1 : Bd (.int 1) := .inr ⟨_, rfl⟩
  have b6 : Bd (.int 1000000) := .inr ⟨_, rfl⟩
  rcases h with rfl | ⟨b, rfl⟩ | ⟨i, rfl⟩ | ⟨z, rfl, hz⟩ | ⟨l, rfl | rfl, hl, he⟩ | ⟨ks, ds, rfl⟩
  · (try dsimp only); rw [dSeq_ap]; simp (maxSteps := 2000000) only [dVar_ap, dC_ap, dEsc_ap, dPure_ap, dOp_ap, dUn_ap, dNil_ap, dCons_ap, hNil_ap, hCons_ap, dCB_ap, dTup_ap, dLst_ap, dTest_ap, dTru_ap, dAnd_ap, dOr_ap, dNot_ap, dAndV_ap, dOrV_ap, dNotV_ap, dIf_ap, mNil_ap, mPu_ap, mOw_ap, gdName_ap, gdNil_ap, gdCons_ap, gdSeq_ap, dNext_ap, dBreak_ap, dCont_ap, dNever_ap, dDrop_ap, dRet_ap, dRetN_ap, dRetV_ap, dIfS_ap, dAsg_ap, dAsgN_ap, dPar_ap, dPar3_ap, dParT_ap, dIt_ap, dItAny_ap, dItA_ap, dRng1_ap, dRng2_ap, dEnum_ap, dZip_ap, dFor_ap, dWhile_ap, dLc_ap, dRepN_ap, dCatN_ap, dNoPart_ap, dPart_ap, dSl_ap, dSlN_ap, dChain_ap, dListOf_ap, dSortI_ap, dApp_ap, dExt_ap, dSetI_ap, dPop_ap, dPopAt_ap, kNil_ap, kPu_ap, kIo_ap, dCall_ap, kApp_ap, kPerm_ap, dYes_ap, dZipM_ap, dEq, dNe, dEqA, dNeA, dAdd, dI, dI0, dMul, dIx, dIsN, dNotN, dIn, dLen, dInt1, dAbs, dMM, dSum, dMaxL, dMinL, dAll, dTupOf, dIsi, dStrI, dNeg, dSub, dDiv, dMod, dPow, dShl, dShr, dBand, dLt, dLe, dGt, dGe, dCallG, entryN, entry, slotsOf, putOuts, putL, Sl.put, ownL, resolve, look, slD, looks, Sl.ownd, forW, compW, wipeP, backP, D.bls, D.ints, kp, perm, List.filterMap_cons, List.filterMap_nil, List.getElem?_cons_zero, List.getElem?_cons_succ, List.getElem?_nil, List.set_cons_zero, List.set_cons_succ, List.length_cons, List.length_nil, List.replicate_succ, List.replicate_zero, List.append_nil, List.nil_append, List.cons_append, List.map_cons, List.map_nil, Option.bind_some, Option.map_some, Option.isSome_some, Nat.reduceAdd, Nat.reduceSub, Nat.zero_add, Option.bind, Option.map, ↓reduceIte, decide_eq_true_eq, decide_true, decide_false, Bool.false_eq_true, Bool.true_eq_false, Bool.not_true, Bool.not_false, Bool.not_eq_true, Bool.not_eq_false, reduceCtorEq, true_and, and_true, okEq_int, okEq_bl, okEq_non, okEq_ints, okEq_nil, eqv_int, eqv_bl, eqv_nil, List.map_eq_nil_iff, truD, D.isNon, tyName, tyB, tyKnown, isTy, tyBD, List.all_cons, List.all_nil, List.any_cons, List.any_nil, List.contains_cons, List.contains_nil, String.reduceBEq, Bool.true_or, Bool.or_true, Bool.false_or, Bool.or_false, Bool.true_and, Bool.and_true, Bool.false_and, Bool.and_false, cast_0, cast_1, cast_2, cast_3, two_le_size, zero_lt_size, one_lt_size, nodup_nilN, nodup_1, zero_le_size, atI_0, atI_1, atI_2, ixN_30, ixN_31, ixN_32, Option.some.injEq, List.cons.injEq, true_or, or_true, false_or, or_false]; exact ends_rt rfl q
  · (try dsimp only); rw [dSeq_ap]; simp (maxSteps := 2000000) only [dVar_ap, dC_ap, dEsc_ap, dPure_ap, dOp_ap, dUn_ap, dNil_ap, dCons_ap, hNil_ap, hCons_ap, dCB_ap, dTup_ap, dLst_ap, dTest_ap, dTru_ap, dAnd_ap, dOr_ap, dNot_ap, dAndV_ap, dOrV_ap, dNotV_ap, dIf_ap, mNil_ap, mPu_ap, mOw_ap, gdName_ap, gdNil_ap, gdCons_ap, gdSeq_ap, dNext_ap, dBreak_ap, dCont_ap, dNever_ap, dDrop_ap, dRet_ap, dRetN_ap, dRetV_ap, dIfS_ap, dAsg_ap, dAsgN_ap, dPar_ap, dPar3_ap, dParT_ap, dIt_ap, dItAny_ap, dItA_ap, dRng1_ap, dRng2_ap, dEnum_ap, dZip_ap, dFor_ap, dWhile_ap, dLc_ap, dRepN_ap, dCatN_ap, dNoPart_ap, dPart_ap, dSl_ap, dSlN_ap, dChain_ap, dListOf_ap, dSortI_ap, dApp_ap, dExt_ap, dSetI_ap, dPop_ap, dPopAt_ap, kNil_ap, kPu_ap, kIo_ap, dCall_ap, kApp_ap, kPerm_ap, dYes_ap, dZipM_ap, dEq, dNe, dEqA, dNeA, dAdd, dI, dI0, dMul, dIx, dIsN, dNotN, dIn, dLen, dInt1, dAbs, dMM, dSum, dMaxL, dMinL, dAll, dTupOf, dIsi, dStrI, dNeg, dSub, dDiv, dMod, dPow, dShl, dShr, dBand, dLt, dLe, dGt, dGe, dCallG, entryN, entry, slotsOf, putOuts, putL, Sl.put, ownL, resolve, look, slD, looks, Sl.ownd, forW, compW, wipeP, backP, D.bls, D.ints, kp, perm, List.filterMap_cons, List.filterMap_nil, List.getElem?_cons_zero, List.getElem?_cons_succ, List.getElem?_nil, List.set_cons_zero, List.set_cons_succ, List.length_cons, List.length_nil, List.replicate_succ, List.replicate_zero, List.append_nil, List.nil_append, List.cons_append, List.map_cons, List.map_nil, Option.bind_some, Option.map_some, Option.isSome_some, Nat.reduceAdd, Nat.reduceSub, Nat.zero_add, Option.bind, Option.map, ↓reduceIte, decide_eq_true_eq, decide_true, decide_false, Bool.false_eq_true, Bool.true_eq_false, Bool.not_true, Bool.not_false, Bool.not_eq_true, Bool.not_eq_false, reduceCtorEq, true_and, and_true, okEq_int, okEq_bl, okEq_non, okEq_ints, okEq_nil, eqv_int, eqv_bl, eqv_nil, List.map_eq_nil_iff, truD, D.isNon, tyName, tyB, tyKnown, isTy, tyBD, List.all_cons, List.all_nil, List.any_cons, List.any_nil, List.contains_cons, List.contains_nil, String.reduceBEq, Bool.true_or, Bool.or_true, Bool.false_or, Bool.or_false, Bool.true_and, Bool.and_true, Bool.false_and, Bool.and_false, cast_0, cast_1, cast_2, cast_3, two_le_size, zero_lt_size, one_lt_size, nodup_nilN, nodup_1, zero_le_size, atI_0, atI_1, atI_2, ixN_30, ixN_31, ixN_32, Option.some.injEq, List.cons.injEq, true_or, or_true, false_or, or_false]; exact ends_rt rfl q
  · (try dsimp only); rw [dSeq_ap]; simp (maxSteps := 2000000) only [dVar_ap, dC_ap, dEsc_ap, dPure_ap, dOp_ap, dUn_ap, dNil_ap, dCons_ap, hNil_ap, hCons_ap, dCB_ap, dTup_ap, dLst_ap, dTest_ap, dTru_ap, dAnd_ap, dOr_ap, dNot_ap, dAndV_ap, dOrV_ap, dNotV_ap, dIf_ap, mNil_ap, mPu_ap, mOw_ap, gdName_ap, gdNil_ap, gdCons_ap, gdSeq_ap, dNext_ap, dBreak_ap, dCont_ap, dNever_ap, dDrop_ap, dRet_ap, dRetN_ap, dRetV_ap, dIfS_ap, dAsg_ap, dAsgN_ap, dPar_ap, dPar3_ap, dParT_ap, dIt_ap, dItAny_ap, dItA_ap, dRng1_ap, dRng2_ap, dEnum_ap, dZip_ap, dFor_ap, dWhile_ap, dLc_ap, dRepN_ap, dCatN_ap, dNoPart_ap, dPart_ap, dSl_ap, dSlN_ap, dChain_ap, dListOf_ap, dSortI_ap, dApp_ap, dExt_ap, dSetI_ap, dPop_ap, dPopAt_ap, kNil_ap, kPu_ap, kIo_ap, dCall_ap, kApp_ap, kPerm_ap, dYes_ap, dZipM_ap, dEq, dNe, dEqA, dNeA, dAdd, dI, dI0, dMul, dIx, dIsN, dNotN, dIn, dLen, dInt1, dAbs, dMM, dSum, dMaxL, dMinL, dAll, dTupOf, dIsi, dStrI, dNeg, dSub, dDiv, dMod, dPow, dShl, dShr, dBand, dLt, dLe, dGt, dGe, dCallG, entryN, entry, slotsOf, putOuts, putL, Sl.put, ownL, resolve, look, slD, looks, Sl.ownd, forW, compW, wipeP, backP, D.bls, D.ints, kp, perm, List.filterMap_cons, List.filterMap_nil, List.getElem?_cons_zero, List.getElem?_cons_succ, List.getElem?_nil, List.set_cons_zero, List.set_cons_succ, List.length_cons, List.length_nil, List.replicate_succ, List.replicate_zero, List.append_nil, List.nil_append, List.cons_append, List.map_cons, List.map_nil, Option.bind_some, Option.map_some, Option.isSome_some, Nat.reduceAdd, Nat.reduceSub, Nat.zero_add, Option.bind, Option.map, ↓reduceIte, decide_eq_true_eq, decide_true, decide_false, Bool.false_eq_true, Bool.true_eq_false, Bool.not_true, Bool.not_false, Bool.not_eq_true, Bool.not_eq_false, reduceCtorEq, true_and, and_true, okEq_int, okEq_bl, okEq_non, okEq_ints, okEq_nil, eqv_int, eqv_bl, eqv_nil, List.map_eq_nil_iff, truD, D.isNon, tyName, tyB, tyKnown, isTy, tyBD, List.all_cons, List.all_nil, List.any_cons, List.any_nil, List.contains_cons, List.contains_nil, String.reduceBEq, Bool.true_or, Bool.or_true, Bool.false_or, Bool.or_false, Bool.true_and, Bool.and_true, Bool.false_and, Bool.and_false, cast_0, cast_1, cast_2, cast_3, two_le_size, zero_lt_size, one_lt_size, nodup_nilN, nodup_1, zero_le_size, atI_0, atI_1, atI_2, ixN_30, ixN_31, ixN_32, Option.some.injEq, List.cons.injEq, true_or, or_true, false_or, or_false]; exact ends_rt rfl q
  · (try dsimp only); rw [dSeq_ap]; simp (maxSteps := 2000000) only [dVar_ap, dC_ap, dEsc_ap, dPure_ap, dOp_ap, dUn_ap, dNil_ap, dCons_ap, hNil_ap, hCons_ap, dCB_ap, dTup_ap, dLst_ap, dTest_ap, dTru_ap, dAnd_ap, dOr_ap, dNot_ap, dAndV_ap, dOrV_ap, dNotV_ap, dIf_ap, mNil_ap, mPu_ap, mOw_ap, gdName_ap, gdNil_ap, gdCons_ap, gdSeq_ap, dNext_ap, dBreak_ap, dCont_ap, dNever_ap, dDrop_ap, dRet_ap, dRetN_ap, dRetV_ap, dIfS_ap, dAsg_ap, dAsgN_ap, dPar_ap, dPar3_ap, dParT_ap, dIt_ap, dItAny_ap, dItA_ap, dRng1_ap, dRng2_ap, dEnum_ap, dZip_ap, dFor_ap, dWhile_ap, dLc_ap, dRepN_ap, dCatN_ap, dNoPart_ap, dPart_ap, dSl_ap, dSlN_ap, dChain_ap, dListOf_ap, dSortI_ap, dApp_ap, dExt_ap, dSetI_ap, dPop_ap, dPopAt_ap, kNil_ap, kPu_ap, kIo_ap, dCall_ap, kApp_ap, kPerm_ap, dYes_ap, dZipM_ap, dEq, dNe, dEqA, dNeA, dAdd, dI, dI0, dMul, dIx, dIsN, dNotN, dIn, dLen, dInt1, dAbs, dMM, dSum, dMaxL, dMinL, dAll, dTupOf, dIsi, dStrI, dNeg, dSub, dDiv, dMod, dPow, dShl, dShr, dBand, dLt, dLe, dGt, dGe, dCallG, entryN, entry, slotsOf, putOuts, putL, Sl.put, ownL, resolve, look, slD, looks, Sl.ownd, forW, compW, wipeP, backP, D.bls, D.ints, kp, perm, List.filterMap_cons, List.filterMap_nil, List.getElem?_cons_zero, List.getElem?_cons_succ, List.getElem?_nil, List.set_cons_zero, List.set_cons_succ, List.length_cons, List.length_nil, List.replicate_succ, List.replicate_zero, List.append_nil, List.nil_append, List.cons_append, List.map_cons, List.map_nil, Option.bind_some, Option.map_some, Option.isSome_some, Nat.reduceAdd, Nat.reduceSub, Nat.zero_add, Option.bind, Option.map, ↓reduceIte, decide_eq_true_eq, decide_true, decide_false, Bool.false_eq_true, Bool.true_eq_false, Bool.not_true, Bool.not_false, Bool.not_eq_true, Bool.not_eq_false, reduceCtorEq, true_and, and_true, okEq_int, okEq_bl, okEq_non, okEq_ints, okEq_nil, eqv_int, eqv_bl, eqv_nil, List.map_eq_nil_iff, truD, D.isNon, tyName, tyB, tyKnown, isTy, tyBD, List.all_cons, List.all_nil, List.any_cons, List.any_nil, List.contains_cons, List.contains_nil, String.reduceBEq, Bool.true_or, Bool.or_true, Bool.false_or, Bool.or_false, Bool.true_and, Bool.and_true, Bool.false_and, Bool.and_false, cast_0, cast_1, cast_2, cast_3, two_le_size, zero_lt_size, one_lt_size, nodup_nilN, nodup_1, zero_le_size, atI_0, atI_1, atI_2, ixN_30, ixN_31, ixN_32, Option.some.injEq, List.cons.injEq, true_or, or_true, false_or, or_false]; exact ends_rt rfl q
  · by_cases h2 : l.length = 2
    · obtain ⟨x, y, rfl⟩ : ∃ x y, l = [x, y] := by
        match l, h2 with
        | [x, y], _ => exact ⟨x, y, rfl⟩
      (try dsimp only); rw [dSeq_ap]; simp (maxSteps := 2000000) only [dVar_ap, dC_ap, dEsc_ap, dPure_ap, dOp_ap, dUn_ap, dNil_ap, dCons_ap, hNil_ap, hCons_ap, dCB_ap, dTup_ap, dLst_ap, dTest_ap, dTru_ap, dAnd_ap, dOr_ap, dNot_ap, dAndV_ap, dOrV_ap, dNotV_ap, dIf_ap, mNil_ap, mPu_ap, mOw_ap, gdName_ap, gdNil_ap, gdCons_ap, gdSeq_ap, dNext_ap, dBreak_ap, dCont_ap, dNever_ap, dDrop_ap, dRet_ap, dRetN_ap, dRetV_ap, dIfS_ap, dAsg_ap, dAsgN_ap, dPar_ap, dPar3_ap, dParT_ap, dIt_ap, dItAny_ap, dItA_ap, dRng1_ap, dRng2_ap, dEnum_ap, dZip_ap, dFor_ap, dWhile_ap, dLc_ap, dRepN_ap, dCatN_ap, dNoPart_ap, dPart_ap, dSl_ap, dSlN_ap, dChain_ap, dListOf_ap, dSortI_ap, dApp_ap, dExt_ap, dSetI_ap, dPop_ap, dPopAt_ap, kNil_ap, kPu_ap, kIo_ap, dCall_ap, kApp_ap, kPerm_ap, dYes_ap, dZipM_ap, dEq, dNe, dEqA, dNeA, dAdd, dI, dI0, dMul, dIx, dIsN, dNotN, dIn, dLen, dInt1, dAbs, dMM, dSum, dMaxL, dMinL, dAll, dTupOf, dIsi, dStrI, dNeg, dSub, dDiv, dMod, dPow, dShl, dShr, dBand, dLt, dLe, dGt, dGe, dCallG, entryN, entry, slotsOf, putOuts, putL, Sl.put, ownL, resolve, look, slD, looks, Sl.ownd, forW, compW, wipeP, backP, D.bls, D.ints, kp, perm, List.filterMap_cons, List.filterMap_nil, List.getElem?_cons_zero, List.getElem?_cons_succ, List.getElem?_nil, List.set_cons_zero, List.set_cons_succ, List.length_cons, List.length_nil, List.replicate_succ, List.replicate_zero, List.append_nil, List.nil_append, List.cons_append, List.map_cons, List.map_nil, Option.bind_some, Option.map_some, Option.isSome_some, Nat.reduceAdd, Nat.reduceSub, Nat.zero_add, Option.bind, Option.map, ↓reduceIte, decide_eq_true_eq, decide_true, decide_false, Bool.false_eq_true, Bool.true_eq_false, Bool.not_true, Bool.not_false, Bool.not_eq_true, Bool.not_eq_false, reduceCtorEq, true_and, and_true, okEq_int, okEq_bl, okEq_non, okEq_ints, okEq_nil, eqv_int, eqv_bl, eqv_nil, List.map_eq_nil_iff, truD, D.isNon, tyName, tyB, tyKnown, isTy, tyBD, List.all_cons, List.all_nil, List.any_cons, List.any_nil, List.contains_cons, List.contains_nil, String.reduceBEq, Bool.true_or, Bool.or_true, Bool.false_or, Bool.or_false, Bool.true_and, Bool.and_true, Bool.false_and, Bool.and_false, cast_0, cast_1, cast_2, cast_3, two_le_size, zero_lt_size, one_lt_size, nodup_nilN, nodup_1, zero_le_size, atI_0, atI_1, atI_2, ixN_30, ixN_31, ixN_32, Option.some.injEq, List.cons.injEq, true_or, or_true, false_or, or_false]
      refine ⟨x, _, _, rfl, (he x (by simp)).val, b1, b6, ?_⟩
      simp (maxSteps := 2000000) only [dVar_ap, dC_ap, dEsc_ap, dPure_ap, dOp_ap, dUn_ap, dNil_ap, dCons_ap, hNil_ap, hCons_ap, dCB_ap, dTup_ap, dLst_ap, dTest_ap, dTru_ap, dAnd_ap, dOr_ap, dNot_ap, dAndV_ap, dOrV_ap, dNotV_ap, dIf_ap, mNil_ap, mPu_ap, mOw_ap, gdName_ap, gdNil_ap, gdCons_ap, gdSeq_ap, dNext_ap, dBreak_ap, dCont_ap, dNever_ap, dDrop_ap, dRet_ap, dRetN_ap, dRetV_ap, dIfS_ap, dAsg_ap, dAsgN_ap, dPar_ap, dPar3_ap, dParT_ap, dIt_ap, dItAny_ap, dItA_ap, dRng1_ap, dRng2_ap, dEnum_ap, dZip_ap, dFor_ap, dWhile_ap, dLc_ap, dRepN_ap, dCatN_ap, dNoPart_ap, dPart_ap, dSl_ap, dSlN_ap, dChain_ap, dListOf_ap, dSortI_ap, dApp_ap, dExt_ap, dSetI_ap, dPop_ap, dPopAt_ap, kNil_ap, kPu_ap, kIo_ap, dCall_ap, kApp_ap, kPerm_ap, dYes_ap, dZipM_ap, dEq, dNe, dEqA, dNeA, dAdd, dI, dI0, dMul, dIx, dIsN, dNotN, dIn, dLen, dInt1, dAbs, dMM, dSum, dMaxL, dMinL, dAll, dTupOf, dIsi, dStrI, dNeg, dSub, dDiv, dMod, dPow, dShl, dShr, dBand, dLt, dLe, dGt, dGe, dCallG, entryN, entry, slotsOf, putOuts, putL, Sl.put, ownL, resolve, look, slD, looks, Sl.ownd, forW, compW, wipeP, backP, D.bls, D.ints, kp, perm, List.filterMap_cons, List.filterMap_nil, List.getElem?_cons_zero, List.getElem?_cons_succ, List.getElem?_nil, List.set_cons_zero, List.set_cons_succ, List.length_cons, List.length_nil, List.replicate_succ, List.replicate_zero, List.append_nil, List.nil_append, List.cons_append, List.map_cons, List.map_nil, Option.bind_some, Option.map_some, Option.isSome_some, Nat.reduceAdd, Nat.reduceSub, Nat.zero_add, Option.bind, Option.map, ↓reduceIte, decide_eq_true_eq, decide_true, decide_false, Bool.false_eq_true, Bool.true_eq_false, Bool.not_true, Bool.not_false, Bool.not_eq_true, Bool.not_eq_false, reduceCtorEq, true_and, and_true, okEq_int, okEq_bl, okEq_non, okEq_ints, okEq_nil, eqv_int, eqv_bl, eqv_nil, List.map_eq_nil_iff, truD, D.isNon, tyName, tyB, tyKnown, isTy, tyBD, List.all_cons, List.all_nil, List.any_cons, List.any_nil, List.contains_cons, List.contains_nil, String.reduceBEq, Bool.true_or, Bool.or_true, Bool.false_or, Bool.or_false, Bool.true_and, Bool.and_true, Bool.false_and, Bool.and_false, cast_0, cast_1, cast_2, cast_3, two_le_size, zero_lt_size, one_lt_size, nodup_nilN, nodup_1, zero_le_size, atI_0, atI_1, atI_2, ixN_30, ixN_31, ixN_32, Option.some.injEq, List.cons.injEq, true_or, or_true, false_or, or_false]
      refine ⟨y, _, _, rfl, (he y (by simp)).val, b1, b6, ?_⟩
      simp (maxSteps := 2000000) only [dVar_ap, dC_ap, dEsc_ap, dPure_ap, dOp_ap, dUn_ap, dNil_ap, dCons_ap, hNil_ap, hCons_ap, dCB_ap, dTup_ap, dLst_ap, dTest_ap, dTru_ap, dAnd_ap, dOr_ap, dNot_ap, dAndV_ap, dOrV_ap, dNotV_ap, dIf_ap, mNil_ap, mPu_ap, mOw_ap, gdName_ap, gdNil_ap, gdCons_ap, gdSeq_ap, dNext_ap, dBreak_ap, dCont_ap, dNever_ap, dDrop_ap, dRet_ap, dRetN_ap, dRetV_ap, dIfS_ap, dAsg_ap, dAsgN_ap, dPar_ap, dPar3_ap, dParT_ap, dIt_ap, dItAny_ap, dItA_ap, dRng1_ap, dRng2_ap, dEnum_ap, dZip_ap, dFor_ap, dWhile_ap, dLc_ap, dRepN_ap, dCatN_ap, dNoPart_ap, dPart_ap, dSl_ap, dSlN_ap, dChain_ap, dListOf_ap, dSortI_ap, dApp_ap, dExt_ap, dSetI_ap, dPop_ap, dPopAt_ap, kNil_ap, kPu_ap, kIo_ap, dCall_ap, kApp_ap, kPerm_ap, dYes_ap, dZipM_ap, dEq, dNe, dEqA, dNeA, dAdd, dI, dI0, dMul, dIx, dIsN, dNotN, dIn, dLen, dInt1, dAbs, dMM, dSum, dMaxL, dMinL, dAll, dTupOf, dIsi, dStrI, dNeg, dSub, dDiv, dMod, dPow, dShl, dShr, dBand, dLt, dLe, dGt, dGe, dCallG, entryN, entry, slotsOf, putOuts, putL, Sl.put, ownL, resolve, look, slD, looks, Sl.ownd, forW, compW, wipeP, backP, D.bls, D.ints, kp, perm, List.filterMap_cons, List.filterMap_nil, List.getElem?_cons_zero, List.getElem?_cons_succ, List.getElem?_nil, List.set_cons_zero, List.set_cons_succ, List.length_cons, List.length_nil, List.replicate_succ, List.replicate_zero, List.append_nil, List.nil_append, List.cons_append, List.map_cons, List.map_nil, Option.bind_some, Option.map_some, Option.isSome_some, Nat.reduceAdd, Nat.reduceSub, Nat.zero_add, Option.bind, Option.map, ↓reduceIte, decide_eq_true_eq, decide_true, decide_false, Bool.false_eq_true, Bool.true_eq_false, Bool.not_true, Bool.not_false, Bool.not_eq_true, Bool.not_eq_false, reduceCtorEq, true_and, and_true, okEq_int, okEq_bl, okEq_non, okEq_ints, okEq_nil, eqv_int, eqv_bl, eqv_nil, List.map_eq_nil_iff, truD, D.isNon, tyName, tyB, tyKnown, isTy, tyBD, List.all_cons, List.all_nil, List.any_cons, List.any_nil, List.contains_cons, List.contains_nil, String.reduceBEq, Bool.true_or, Bool.or_true, Bool.false_or, Bool.or_false, Bool.true_and, Bool.and_true, Bool.false_and, Bool.and_false, cast_0, cast_1, cast_2, cast_3, two_le_size, zero_lt_size, one_lt_size, nodup_nilN, nodup_1, zero_le_size, atI_0, atI_1, atI_2, ixN_30, ixN_31, ixN_32, Option.some.injEq, List.cons.injEq, true_or, or_true, false_or, or_false, id_eq]
      have e : isP (.lst [x, y]) = (isW x (.int 1) (.int 1000000) && isW y (.int 1) (.int 1000000)) := by simp [isP, one6]
      rw [e] at q
      exact ends_rt rfl q
    · have h3 : ¬ (((l.length : Nat) : Int) = 2) := by omega
      (try dsimp only); rw [dSeq_ap]; simp (maxSteps := 2000000) only [dVar_ap, dC_ap, dEsc_ap, dPure_ap, dOp_ap, dUn_ap, dNil_ap, dCons_ap, hNil_ap, hCons_ap, dCB_ap, dTup_ap, dLst_ap, dTest_ap, dTru_ap, dAnd_ap, dOr_ap, dNot_ap, dAndV_ap, dOrV_ap, dNotV_ap, dIf_ap, mNil_ap, mPu_ap, mOw_ap, gdName_ap, gdNil_ap, gdCons_ap, gdSeq_ap, dNext_ap, dBreak_ap, dCont_ap, dNever_ap, dDrop_ap, dRet_ap, dRetN_ap, dRetV_ap, dIfS_ap, dAsg_ap, dAsgN_ap, dPar_ap, dPar3_ap, dParT_ap, dIt_ap, dItAny_ap, dItA_ap, dRng1_ap, dRng2_ap, dEnum_ap, dZip_ap, dFor_ap, dWhile_ap, dLc_ap, dRepN_ap, dCatN_ap, dNoPart_ap, dPart_ap, dSl_ap, dSlN_ap, dChain_ap, dListOf_ap, dSortI_ap, dApp_ap, dExt_ap, dSetI_ap, dPop_ap, dPopAt_ap, kNil_ap, kPu_ap, kIo_ap, dCall_ap, kApp_ap, kPerm_ap, dYes_ap, dZipM_ap, dEq, dNe, dEqA, dNeA, dAdd, dI, dI0, dMul, dIx, dIsN, dNotN, dIn, dLen, dInt1, dAbs, dMM, dSum, dMaxL, dMinL, dAll, dTupOf, dIsi, dStrI, dNeg, dSub, dDiv, dMod, dPow, dShl, dShr, dBand, dLt, dLe, dGt, dGe, dCallG, entryN, entry, slotsOf, putOuts, putL, Sl.put, ownL, resolve, look, slD, looks, Sl.ownd, forW, compW, wipeP, backP, D.bls, D.ints, kp, perm, List.filterMap_cons, List.filterMap_nil, List.getElem?_cons_zero, List.getElem?_cons_succ, List.getElem?_nil, List.set_cons_zero, List.set_cons_succ, List.length_cons, List.length_nil, List.replicate_succ, List.replicate_zero, List.append_nil, List.nil_append, List.cons_append, List.map_cons, List.map_nil, Option.bind_some, Option.map_some, Option.isSome_some, Nat.reduceAdd, Nat.reduceSub, Nat.zero_add, Option.bind, Option.map, ↓reduceIte, decide_eq_true_eq, decide_true, decide_false, Bool.false_eq_true, Bool.true_eq_false, Bool.not_true, Bool.not_false, Bool.not_eq_true, Bool.not_eq_false, reduceCtorEq, true_and, and_true, okEq_int, okEq_bl, okEq_non, okEq_ints, okEq_nil, eqv_int, eqv_bl, eqv_nil, List.map_eq_nil_iff, truD, D.isNon, tyName, tyB, tyKnown, isTy, tyBD, List.all_cons, List.all_nil, List.any_cons, List.any_nil, List.contains_cons, List.contains_nil, String.reduceBEq, Bool.true_or, Bool.or_true, Bool.false_or, Bool.or_false, Bool.true_and, Bool.and_true, Bool.false_and, Bool.and_false, cast_0, cast_1, cast_2, cast_3, two_le_size, zero_lt_size, one_lt_size, nodup_nilN, nodup_1, zero_le_size, atI_0, atI_1, atI_2, ixN_30, ixN_31, ixN_32, Option.some.injEq, List.cons.injEq, true_or, or_true, false_or, or_false, h3]
      have e : isP (.lst l) = false := by simp [isP, h2]
      rw [e] at q
      exact ends_rt rfl q
  · by_cases h2 : l.length = 2
    · obtain ⟨x, y, rfl⟩ : ∃ x y, l = [x, y] := by
        match l, h2 with
        | [x, y], _ => exact ⟨x, y, rfl⟩
      (try dsimp only); rw [dSeq_ap]; simp (maxSteps := 2000000) only [dVar_ap, dC_ap, dEsc_ap, dPure_ap, dOp_ap, dUn_ap, dNil_ap, dCons_ap, hNil_ap, hCons_ap, dCB_ap, dTup_ap, dLst_ap, dTest_ap, dTru_ap, dAnd_ap, dOr_ap, dNot_ap, dAndV_ap, dOrV_ap, dNotV_ap, dIf_ap, mNil_ap, mPu_ap, mOw_ap, gdName_ap, gdNil_ap, gdCons_ap, gdSeq_ap, dNext_ap, dBreak_ap, dCont_ap, dNever_ap, dDrop_ap, dRet_ap, dRetN_ap, dRetV_ap, dIfS_ap, dAsg_ap, dAsgN_ap, dPar_ap, dPar3_ap, dParT_ap, dIt_ap, dItAny_ap, dItA_ap, dRng1_ap, dRng2_ap, dEnum_ap, dZip_ap, dFor_ap, dWhile_ap, dLc_ap, dRepN_ap, dCatN_ap, dNoPart_ap, dPart_ap, dSl_ap, dSlN_ap, dChain_ap, dListOf_ap, dSortI_ap, dApp_ap, dExt_ap, dSetI_ap, dPop_ap, dPopAt_ap, kNil_ap, kPu_ap, kIo_ap, dCall_ap, kApp_ap, kPerm_ap, dYes_ap, dZipM_ap, dEq, dNe, dEqA, dNeA, dAdd, dI, dI0, dMul, dIx, dIsN, dNotN, dIn, dLen, dInt1, dAbs, dMM, dSum, dMaxL, dMinL, dAll, dTupOf, dIsi, dStrI, dNeg, dSub, dDiv, dMod, dPow, dShl, dShr, dBand, dLt, dLe, dGt, dGe, dCallG, entryN, entry, slotsOf, putOuts, putL, Sl.put, ownL, resolve, look, slD, looks, Sl.ownd, forW, compW, wipeP, backP, D.bls, D.ints, kp, perm, List.filterMap_cons, List.filterMap_nil, List.getElem?_cons_zero, List.getElem?_cons_succ, List.getElem?_nil, List.set_cons_zero, List.set_cons_succ, List.length_cons, List.length_nil, List.replicate_succ, List.replicate_zero, List.append_nil, List.nil_append, List.cons_append, List.map_cons, List.map_nil, Option.bind_some, Option.map_some, Option.isSome_some, Nat.reduceAdd, Nat.reduceSub, Nat.zero_add, Option.bind, Option.map, ↓reduceIte, decide_eq_true_eq, decide_true, decide_false, Bool.false_eq_true, Bool.true_eq_false, Bool.not_true, Bool.not_false, Bool.not_eq_true, Bool.not_eq_false, reduceCtorEq, true_and, and_true, okEq_int, okEq_bl, okEq_non, okEq_ints, okEq_nil, eqv_int, eqv_bl, eqv_nil, List.map_eq_nil_iff, truD, D.isNon, tyName, tyB, tyKnown, isTy, tyBD, List.all_cons, List.all_nil, List.any_cons, List.any_nil, List.contains_cons, List.contains_nil, String.reduceBEq, Bool.true_or, Bool.or_true, Bool.false_or, Bool.or_false, Bool.true_and, Bool.and_true, Bool.false_and, Bool.and_false, cast_0, cast_1, cast_2, cast_3, two_le_size, zero_lt_size, one_lt_size, nodup_nilN, nodup_1, zero_le_size, atI_0, atI_1, atI_2, ixN_30, ixN_31, ixN_32, Option.some.injEq, List.cons.injEq, true_or, or_true, false_or, or_false]
      refine ⟨x, _, _, rfl, (he x (by simp)).val, b1, b6, ?_⟩
      simp (maxSteps := 2000000) only [dVar_ap, dC_ap, dEsc_ap, dPure_ap, dOp_ap, dUn_ap, dNil_ap, dCons_ap, hNil_ap, hCons_ap, dCB_ap, dTup_ap, dLst_ap, dTest_ap, dTru_ap, dAnd_ap, dOr_ap, dNot_ap, dAndV_ap, dOrV_ap, dNotV_ap, dIf_ap, mNil_ap, mPu_ap, mOw_ap, gdName_ap, gdNil_ap, gdCons_ap, gdSeq_ap, dNext_ap, dBreak_ap, dCont_ap, dNever_ap, dDrop_ap, dRet_ap, dRetN_ap, dRetV_ap, dIfS_ap, dAsg_ap, dAsgN_ap, dPar_ap, dPar3_ap, dParT_ap, dIt_ap, dItAny_ap, dItA_ap, dRng1_ap, dRng2_ap, dEnum_ap, dZip_ap, dFor_ap, dWhile_ap, dLc_ap, dRepN_ap, dCatN_ap, dNoPart_ap, dPart_ap, dSl_ap, dSlN_ap, dChain_ap, dListOf_ap, dSortI_ap, dApp_ap, dExt_ap, dSetI_ap, dPop_ap, dPopAt_ap, kNil_ap, kPu_ap, kIo_ap, dCall_ap, kApp_ap, kPerm_ap, dYes_ap, dZipM_ap, dEq, dNe, dEqA, dNeA, dAdd, dI, dI0, dMul, dIx, dIsN, dNotN, dIn, dLen, dInt1, dAbs, dMM, dSum, dMaxL, dMinL, dAll, dTupOf, dIsi, dStrI, dNeg, dSub, dDiv, dMod, dPow, dShl, dShr, dBand, dLt, dLe, dGt, dGe, dCallG, entryN, entry, slotsOf, putOuts, putL, Sl.put, ownL, resolve, look, slD, looks, Sl.ownd, forW, compW, wipeP, backP, D.bls, D.ints, kp, perm, List.filterMap_cons, List.filterMap_nil, List.getElem?_cons_zero, List.getElem?_cons_succ, List.getElem?_nil, List.set_cons_zero, List.set_cons_succ, List.length_cons, List.length_nil, List.replicate_succ, List.replicate_zero, List.append_nil, List.nil_append, List.cons_append, List.map_cons, List.map_nil, Option.bind_some, Option.map_some, Option.isSome_some, Nat.reduceAdd, Nat.reduceSub, Nat.zero_add, Option.bind, Option.map, ↓reduceIte, decide_eq_true_eq, decide_true, decide_false, Bool.false_eq_true, Bool.true_eq_false, Bool.not_true, Bool.not_false, Bool.not_eq_true, Bool.not_eq_false, reduceCtorEq, true_and, and_true, okEq_int, okEq_bl, okEq_non, okEq_ints, okEq_nil, eqv_int, eqv_bl, eqv_nil, List.map_eq_nil_iff, truD, D.isNon, tyName, tyB, tyKnown, isTy, tyBD, List.all_cons, List.all_nil, List.any_cons, List.any_nil, List.contains_cons, List.contains_nil, String.reduceBEq, Bool.true_or, Bool.or_true, Bool.false_or, Bool.or_false, Bool.true_and, Bool.and_true, Bool.false_and, Bool.and_false, cast_0, cast_1, cast_2, cast_3, two_le_size, zero_lt_size, one_lt_size, nodup_nilN, nodup_1, zero_le_size, atI_0, atI_1, atI_2, ixN_30, ixN_31, ixN_32, Option.some.injEq, List.cons.injEq, true_or, or_true, false_or, or_false]
      refine ⟨y, _, _, rfl, (he y (by simp)).val, b1, b6, ?_⟩
      simp (maxSteps := 2000000) only [dVar_ap, dC_ap, dEsc_ap, dPure_ap, dOp_ap, dUn_ap, dNil_ap, dCons_ap, hNil_ap, hCons_ap, dCB_ap, dTup_ap, dLst_ap, dTest_ap, dTru_ap, dAnd_ap, dOr_ap, dNot_ap, dAndV_ap, dOrV_ap, dNotV_ap, dIf_ap, mNil_ap, mPu_ap, mOw_ap, gdName_ap, gdNil_ap, gdCons_ap, gdSeq_ap, dNext_ap, dBreak_ap, dCont_ap, dNever_ap, dDrop_ap, dRet_ap, dRetN_ap, dRetV_ap, dIfS_ap, dAsg_ap, dAsgN_ap, dPar_ap, dPar3_ap, dParT_ap, dIt_ap, dItAny_ap, dItA_ap, dRng1_ap, dRng2_ap, dEnum_ap, dZip_ap, dFor_ap, dWhile_ap, dLc_ap, dRepN_ap, dCatN_ap, dNoPart_ap, dPart_ap, dSl_ap, dSlN_ap, dChain_ap, dListOf_ap, dSortI_ap, dApp_ap, dExt_ap, dSetI_ap, dPop_ap, dPopAt_ap, kNil_ap, kPu_ap, kIo_ap, dCall_ap, kApp_ap, kPerm_ap, dYes_ap, dZipM_ap, dEq, dNe, dEqA, dNeA, dAdd, dI, dI0, dMul, dIx, dIsN, dNotN, dIn, dLen, dInt1, dAbs, dMM, dSum, dMaxL, dMinL, dAll, dTupOf, dIsi, dStrI, dNeg, dSub, dDiv, dMod, dPow, dShl, dShr, dBand, dLt, dLe, dGt, dGe, dCallG, entryN, entry, slotsOf, putOuts, putL, Sl.put, ownL, resolve, look, slD, looks, Sl.ownd, forW, compW, wipeP, backP, D.bls, D.ints, kp, perm, List.filterMap_cons, List.filterMap_nil, List.getElem?_cons_zero, List.getElem?_cons_succ, List.getElem?_nil, List.set_cons_zero, List.set_cons_succ, List.length_cons, List.length_nil, List.replicate_succ, List.replicate_zero, List.append_nil, List.nil_append, List.cons_append, List.map_cons, List.map_nil, Option.bind_some, Option.map_some, Option.isSome_some, Nat.reduceAdd, Nat.reduceSub, Nat.zero_add, Option.bind, Option.map, ↓reduceIte, decide_eq_true_eq, decide_true, decide_false, Bool.false_eq_true, Bool.true_eq_false, Bool.not_true, Bool.not_false, Bool.not_eq_true, Bool.not_eq_false, reduceCtorEq, true_and, and_true, okEq_int, okEq_bl, okEq_non, okEq_ints, okEq_nil, eqv_int, eqv_bl, eqv_nil, List.map_eq_nil_iff, truD, D.isNon, tyName, tyB, tyKnown, isTy, tyBD, List.all_cons, List.all_nil, List.any_cons, List.any_nil, List.contains_cons, List.contains_nil, String.reduceBEq, Bool.true_or, Bool.or_true, Bool.false_or, Bool.or_false, Bool.true_and, Bool.and_true, Bool.false_and, Bool.and_false, cast_0, cast_1, cast_2, cast_3, two_le_size, zero_lt_size, one_lt_size, nodup_nilN, nodup_1, zero_le_size, atI_0, atI_1, atI_2, ixN_30, ixN_31, ixN_32, Option.some.injEq, List.cons.injEq, true_or, or_true, false_or, or_false, id_eq]
      have e : isP (.tup [x, y]) = (isW x (.int 1) (.int 1000000) && isW y (.int 1) (.int 1000000)) := by simp [isP, one6]
      rw [e] at q
      exact ends_rt rfl q
    · have h3 : ¬ (((l.length : Nat) : Int) = 2) := by omega
      (try dsimp only); rw [dSeq_ap]; simp (maxSteps := 2000000) only [dVar_ap, dC_ap, dEsc_ap, dPure_ap, dOp_ap, dUn_ap, dNil_ap, dCons_ap, hNil_ap, hCons_ap, dCB_ap, dTup_ap, dLst_ap, dTest_ap, dTru_ap, dAnd_ap, dOr_ap, dNot_ap, dAndV_ap, dOrV_ap, dNotV_ap, dIf_ap, mNil_ap, mPu_ap, mOw_ap, gdName_ap, gdNil_ap, gdCons_ap, gdSeq_ap, dNext_ap, dBreak_ap, dCont_ap, dNever_ap, dDrop_ap, dRet_ap, dRetN_ap, dRetV_ap, dIfS_ap, dAsg_ap, dAsgN_ap, dPar_ap, dPar3_ap, dParT_ap, dIt_ap, dItAny_ap, dItA_ap, dRng1_ap, dRng2_ap, dEnum_ap, dZip_ap, dFor_ap, dWhile_ap, dLc_ap, dRepN_ap, dCatN_ap, dNoPart_ap, dPart_ap, dSl_ap, dSlN_ap, dChain_ap, dListOf_ap, dSortI_ap, dApp_ap, dExt_ap, dSetI_ap, dPop_ap, dPopAt_ap, kNil_ap, kPu_ap, kIo_ap, dCall_ap, kApp_ap, kPerm_ap, dYes_ap, dZipM_ap, dEq, dNe, dEqA, dNeA, dAdd, dI, dI0, dMul, dIx, dIsN, dNotN, dIn, dLen, dInt1, dAbs, dMM, dSum, dMaxL, dMinL, dAll, dTupOf, dIsi, dStrI, dNeg, dSub, dDiv, dMod, dPow, dShl, dShr, dBand, dLt, dLe, dGt, dGe, dCallG, entryN, entry, slotsOf, putOuts, putL, Sl.put, ownL, resolve, look, slD, looks, Sl.ownd, forW, compW, wipeP, backP, D.bls, D.ints, kp, perm, List.filterMap_cons, List.filterMap_nil, List.getElem?_cons_zero, List.getElem?_cons_succ, List.getElem?_nil, List.set_cons_zero, List.set_cons_succ, List.length_cons, List.length_nil, List.replicate_succ, List.replicate_zero, List.append_nil, List.nil_append, List.cons_append, List.map_cons, List.map_nil, Option.bind_some, Option.map_some, Option.isSome_some, Nat.reduceAdd, Nat.reduceSub, Nat.zero_add, Option.bind, Option.map, ↓reduceIte, decide_eq_true_eq, decide_true, decide_false, Bool.false_eq_true, Bool.true_eq_false, Bool.not_true, Bool.not_false, Bool.not_eq_true, Bool.not_eq_false, reduceCtorEq, true_and, and_true, okEq_int, okEq_bl, okEq_non, okEq_ints, okEq_nil, eqv_int, eqv_bl, eqv_nil, List.map_eq_nil_iff, truD, D.isNon, tyName, tyB, tyKnown, isTy, tyBD, List.all_cons, List.all_nil, List.any_cons, List.any_nil, List.contains_cons, List.contains_nil, String.reduceBEq, Bool.true_or, Bool.or_true, Bool.false_or, Bool.or_false, Bool.true_and, Bool.and_true, Bool.false_and, Bool.and_false, cast_0, cast_1, cast_2, cast_3, two_le_size, zero_lt_size, one_lt_size, nodup_nilN, nodup_1, zero_le_size, atI_0, atI_1, atI_2, ixN_30, ixN_31, ixN_32, Option.some.injEq, List.cons.injEq, true_or, or_true, false_or, or_false, h3]
      have e : isP (.tup l) = false := by simp [isP, h2]
      rw [e] at q
      exact ends_rt rfl q
  · (try dsimp only); rw [dSeq_ap]; simp (maxSteps := 2000000) only [dVar_ap, dC_ap, dEsc_ap, dPure_ap, dOp_ap, dUn_ap, dNil_ap, dCons_ap, hNil_ap, hCons_ap, dCB_ap, dTup_ap, dLst_ap, dTest_ap, dTru_ap, dAnd_ap, dOr_ap, dNot_ap, dAndV_ap, dOrV_ap, dNotV_ap, dIf_ap, mNil_ap, mPu_ap, mOw_ap, gdName_ap, gdNil_ap, gdCons_ap, gdSeq_ap, dNext_ap, dBreak_ap, dCont_ap, dNever_ap, dDrop_ap, dRet_ap, dRetN_ap, dRetV_ap, dIfS_ap, dAsg_ap, dAsgN_ap, dPar_ap, dPar3_ap, dParT_ap, dIt_ap, dItAny_ap, dItA_ap, dRng1_ap, dRng2_ap, dEnum_ap, dZip_ap, dFor_ap, dWhile_ap, dLc_ap, dRepN_ap, dCatN_ap, dNoPart_ap, dPart_ap, dSl_ap, dSlN_ap, dChain_ap, dListOf_ap, dSortI_ap, dApp_ap, dExt_ap, dSetI_ap, dPop_ap, dPopAt_ap, kNil_ap, kPu_ap, kIo_ap, dCall_ap, kApp_ap, kPerm_ap, dYes_ap, dZipM_ap, dEq, dNe, dEqA, dNeA, dAdd, dI, dI0, dMul, dIx, dIsN, dNotN, dIn, dLen, dInt1, dAbs, dMM, dSum, dMaxL, dMinL, dAll, dTupOf, dIsi, dStrI, dNeg, dSub, dDiv, dMod, dPow, dShl, dShr, dBand, dLt, dLe, dGt, dGe, dCallG, entryN, entry, slotsOf, putOuts, putL, Sl.put, ownL, resolve, look, slD, looks, Sl.ownd, forW, compW, wipeP, backP, D.bls, D.ints, kp, perm, List.filterMap_cons, List.filterMap_nil, List.getElem?_cons_zero, List.getElem?_cons_succ, List.getElem?_nil, List.set_cons_zero, List.set_cons_succ, List.length_cons, List.length_nil, List.replicate_succ, List.replicate_zero, List.append_nil, List.nil_append, List.cons_append, List.map_cons, List.map_nil, Option.bind_some, Option.map_some, Option.isSome_some, Nat.reduceAdd, Nat.reduceSub, Nat.zero_add, Option.bind, Option.map, ↓reduceIte, decide_eq_true_eq, decide_true, decide_false, Bool.false_eq_true, Bool.true_eq_false, Bool.not_true, Bool.not_false, Bool.not_eq_true, Bool.not_eq_false, reduceCtorEq, true_and, and_true, okEq_int, okEq_bl, okEq_non, okEq_ints, okEq_nil, eqv_int, eqv_bl, eqv_nil, List.map_eq_nil_iff, truD, D.isNon, tyName, tyB, tyKnown, isTy, tyBD, List.all_cons, List.all_nil, List.any_cons, List.any_nil, List.contains_cons, List.contains_nil, String.reduceBEq, Bool.true_or, Bool.or_true, Bool.false_or, Bool.or_false, Bool.true_and, Bool.and_true, Bool.false_and, Bool.and_false, cast_0, cast_1, cast_2, cast_3, two_le_size, zero_lt_size, one_lt_size, nodup_nilN, nodup_1, zero_le_size, atI_0, atI_1, atI_2, ixN_30, ixN_31, ixN_32, Option.some.injEq, List.cons.injEq, true_or, or_true, false_or, or_false]; exact ends_rt rfl q
/-! ## any value -/
theorem okS_of (s : String) (h : s.length ≤ 100) : okS (Str.ofString s) := by
  refine ⟨by rw [PySem.ofString_length]; exact h, fun c hc => ?_⟩
  rw [Str.ofString_eq_toList] at hc
  obtain ⟨x, _, rfl⟩ := List.mem_map.mp (show c ∈ s.toList.map Char.toNat by simpa using hc)
  have := x.valid
  have e : x.toNat = x.val.toNat := rfl
  rcases this with h | ⟨_, h⟩ <;> omega
theorem okS_rep (c n : Nat) (h : n ≤ 100) (hc : c < 1114112) : okS (repS c n) :=
  ⟨by rw [repS_len]; exact h, fun x hx => by rw [repS_list] at hx; rw [(List.mem_replicate.mp hx).2]; exact hc⟩
theorem okS_app {a b : Str} (ha : okS a) (hb : okS b) (h : a.length + b.length ≤ 100) : okS (a ++ b) := by
  refine ⟨by rw [strLen_append]; exact h, fun c hc => ?_⟩
  have e : (a ++ b).cps.toList = a.cps.toList ++ b.cps.toList := by
    show (a.cps ++ b.cps).toList = _
    simp
  rw [e] at hc
  exact (List.mem_append.mp hc).elim (ha.2 c) (hb.2 c)
end G

set_option Elab.async false
set_option linter.all false
set_option maxRecDepth 100000
set_option maxHeartbeats 400000
set_option exponentiation.threshold 4000
namespace G
open PySem PySem.Spec PyProof.Rows L2 Z
def sp__law_any : DSp := fun ds Q _ => ∃ (b : D) (N : Nat), ds = [b] ∧ Bell N b ∧ N ≤ 50000 ∧ ∀ v b', Val v → Bell (N + 10) b' → Q v [b']
theorem hd__law_any : ∀ ds Q (E : D → List D → Prop), sp__law_any ds Q E → rd__law_any sp__law_one sp__law_sift (dEnds [true] Q) (entryN 3 [true] ds) := by
  rintro ds Q E ⟨b, N, rfl, hb, hN, q⟩
  have h6 : CPow 10 6 := cpow_of (h3 := by decide)
  have h7 : CPow 10 7 := cpow_of (h3 := by decide)
  have e6 : (10 : Int) ^ 6 = 1000000 := by decide
  have e7 : (10 : Int) ^ 7 = 10000000 := by decide
  have toNat7 : (7 : Int).toNat = 7 := rfl
  unfold rd__law_any
  (try dsimp only); rw [dSeq_ap]; simp (maxSteps := 2000000) only [↓dVar_ap, ↓dC_ap, ↓dEsc_ap, ↓dPure_ap, ↓dOp_ap, ↓dUn_ap, ↓dNil_ap, ↓dCons_ap, ↓hNil_ap, ↓hCons_ap, ↓dCB_ap, ↓dTup_ap, ↓dLst_ap, ↓dTest_ap, ↓dTru_ap, ↓dAnd_ap, ↓dOr_ap, ↓dNot_ap, ↓dAndV_ap, ↓dOrV_ap, ↓dNotV_ap, ↓dIf_ap, ↓mNil_ap, ↓mPu_ap, ↓mOw_ap, ↓gdName_ap, ↓gdNil_ap, ↓gdCons_ap, ↓gdSeq_ap, ↓dNext_ap, ↓dBreak_ap, ↓dCont_ap, ↓dNever_ap, ↓dDrop_ap, ↓dRet_ap, ↓dRetN_ap, ↓dRetV_ap, ↓dIfS_ap, ↓dAsg_ap, ↓dAsgN_ap, ↓dPar_ap, ↓dPar3_ap, ↓dParT_ap, ↓dIt_ap, ↓dItAny_ap, ↓dItA_ap, ↓dRng1_ap, ↓dRng2_ap, ↓dEnum_ap, ↓dZip_ap, ↓dFor_ap, ↓dWhile_ap, ↓dLc_ap, ↓dRepN_ap, ↓dCatN_ap, ↓dNoPart_ap, ↓dPart_ap, ↓dSl_ap, ↓dSlN_ap, ↓dChain_ap, ↓dListOf_ap, ↓dSortI_ap, ↓dApp_ap, ↓dExt_ap, ↓dSetI_ap, ↓dPop_ap, ↓dPopAt_ap, ↓kNil_ap, ↓kPu_ap, ↓kIo_ap, ↓dCall_ap, ↓kApp_ap, ↓kPerm_ap, ↓dYes_ap, ↓dZipM_ap, dEq, dNe, dEqA, dNeA, dAdd, dI, dI0, dMul, dIx, dIsN, dNotN, dIn, dLen, dInt1, dAbs, dMM, dSum, dMaxL, dMinL, dAll, dTupOf, dIsi, dStrI, dNeg, dSub, dDiv, dMod, dPow, dShl, dShr, dBand, dLt, dLe, dGt, dGe, dCallG, entryN, entry, slotsOf, putOuts, putL, Sl.put, ownL, resolve, look, slD, looks, Sl.ownd, forW, compW, wipeP, backP, D.bls, D.ints, kp, perm, List.filterMap_cons, List.filterMap_nil, List.getElem?_cons_zero, List.getElem?_cons_succ, List.getElem?_nil, List.set_cons_zero, List.set_cons_succ, List.length_cons, List.length_nil, List.replicate_succ, List.replicate_zero, List.append_nil, List.nil_append, List.cons_append, List.map_cons, List.map_nil, Option.bind_some, Option.map_some, Option.isSome_some, Nat.reduceAdd, Nat.reduceSub, Nat.zero_add, Option.bind, Option.map, ↓reduceIte, decide_eq_true_eq, decide_true, decide_false, Bool.false_eq_true, Bool.true_eq_false, Bool.not_true, Bool.not_false, Bool.not_eq_true, Bool.not_eq_false, reduceCtorEq, true_and, and_true, okEq_int, okEq_bl, okEq_non, okEq_ints, okEq_nil, eqv_int, eqv_bl, eqv_nil, List.map_eq_nil_iff, truD, D.isNon, tyName, tyB, tyKnown, isTy, tyBD, List.all_cons, List.all_nil, List.any_cons, List.any_nil, List.contains_cons, List.contains_nil, String.reduceBEq, Bool.true_or, Bool.or_true, Bool.false_or, Bool.or_false, Bool.true_and, Bool.and_true, Bool.false_and, Bool.and_false, cast_0, cast_1, cast_2, cast_3, two_le_size, zero_lt_size, one_lt_size, nodup_nilN, nodup_1, zero_le_size, atI_0, atI_1, atI_2, ixN_30, ixN_31, ixN_32, Option.some.injEq, List.cons.injEq, true_or, or_true, false_or, or_false, h6, h7, toNat6, toNat7, e6, e7]
  refine count_in hb (by omega) (by decide) (by decide) fun k b1 k0 k1 hb1 => ?_
  simp (maxSteps := 2000000) only [↓dVar_ap, ↓dC_ap, ↓dEsc_ap, ↓dPure_ap, ↓dOp_ap, ↓dUn_ap, ↓dNil_ap, ↓dCons_ap, ↓hNil_ap, ↓hCons_ap, ↓dCB_ap, ↓dTup_ap, ↓dLst_ap, ↓dTest_ap, ↓dTru_ap, ↓dAnd_ap, ↓dOr_ap, ↓dNot_ap, ↓dAndV_ap, ↓dOrV_ap, ↓dNotV_ap, ↓dIf_ap, ↓mNil_ap, ↓mPu_ap, ↓mOw_ap, ↓gdName_ap, ↓gdNil_ap, ↓gdCons_ap, ↓gdSeq_ap, ↓dNext_ap, ↓dBreak_ap, ↓dCont_ap, ↓dNever_ap, ↓dDrop_ap, ↓dRet_ap, ↓dRetN_ap, ↓dRetV_ap, ↓dIfS_ap, ↓dAsg_ap, ↓dAsgN_ap, ↓dPar_ap, ↓dPar3_ap, ↓dParT_ap, ↓dIt_ap, ↓dItAny_ap, ↓dItA_ap, ↓dRng1_ap, ↓dRng2_ap, ↓dEnum_ap, ↓dZip_ap, ↓dFor_ap, ↓dWhile_ap, ↓dLc_ap, ↓dRepN_ap, ↓dCatN_ap, ↓dNoPart_ap, ↓dPart_ap, ↓dSl_ap, ↓dSlN_ap, ↓dChain_ap, ↓dListOf_ap, ↓dSortI_ap, ↓dApp_ap, ↓dExt_ap, ↓dSetI_ap, ↓dPop_ap, ↓dPopAt_ap, ↓kNil_ap, ↓kPu_ap, ↓kIo_ap, ↓dCall_ap, ↓kApp_ap, ↓kPerm_ap, ↓dYes_ap, ↓dZipM_ap, dEq, dNe, dEqA, dNeA, dAdd, dI, dI0, dMul, dIx, dIsN, dNotN, dIn, dLen, dInt1, dAbs, dMM, dSum, dMaxL, dMinL, dAll, dTupOf, dIsi, dStrI, dNeg, dSub, dDiv, dMod, dPow, dShl, dShr, dBand, dLt, dLe, dGt, dGe, dCallG, entryN, entry, slotsOf, putOuts, putL, Sl.put, ownL, resolve, look, slD, looks, Sl.ownd, forW, compW, wipeP, backP, D.bls, D.ints, kp, perm, List.filterMap_cons, List.filterMap_nil, List.getElem?_cons_zero, List.getElem?_cons_succ, List.getElem?_nil, List.set_cons_zero, List.set_cons_succ, List.length_cons, List.length_nil, List.replicate_succ, List.replicate_zero, List.append_nil, List.nil_append, List.cons_append, List.map_cons, List.map_nil, Option.bind_some, Option.map_some, Option.isSome_some, Nat.reduceAdd, Nat.reduceSub, Nat.zero_add, Option.bind, Option.map, ↓reduceIte, decide_eq_true_eq, decide_true, decide_false, Bool.false_eq_true, Bool.true_eq_false, Bool.not_true, Bool.not_false, Bool.not_eq_true, Bool.not_eq_false, reduceCtorEq, true_and, and_true, okEq_int, okEq_bl, okEq_non, okEq_ints, okEq_nil, eqv_int, eqv_bl, eqv_nil, List.map_eq_nil_iff, truD, D.isNon, tyName, tyB, tyKnown, isTy, tyBD, List.all_cons, List.all_nil, List.any_cons, List.any_nil, List.contains_cons, List.contains_nil, String.reduceBEq, Bool.true_or, Bool.or_true, Bool.false_or, Bool.or_false, Bool.true_and, Bool.and_true, Bool.false_and, Bool.and_false, cast_0, cast_1, cast_2, cast_3, two_le_size, zero_lt_size, one_lt_size, nodup_nilN, nodup_1, zero_le_size, atI_0, atI_1, atI_2, ixN_30, ixN_31, ixN_32, Option.some.injEq, List.cons.injEq, true_or, or_true, false_or, or_false]
  refine ⟨by decide, pick_in (-1) 10000000 hb1 (by omega) ⟨by simp, by simp⟩ (by repeat (first | exact .nil | refine .cons (by omega) ?_)) fun n b2 n0 n1 hb2 => ?_⟩
  have hlog : n.natAbs.log2 < 1920 := by
    by_cases z : n.natAbs = 0
    · rw [z]; decide
    · have := (Nat.log2_lt (k := 1920) z).mpr (Nat.lt_trans (show n.natAbs < 2 ^ 30 by omega) (Nat.pow_lt_pow_right (by decide) (by decide)))
      exact this
  (try dsimp only); rw [dSeq_ap]; simp (maxSteps := 2000000) only [↓dVar_ap, ↓dC_ap, ↓dEsc_ap, ↓dPure_ap, ↓dOp_ap, ↓dUn_ap, ↓dNil_ap, ↓dCons_ap, ↓hNil_ap, ↓hCons_ap, ↓dCB_ap, ↓dTup_ap, ↓dLst_ap, ↓dTest_ap, ↓dTru_ap, ↓dAnd_ap, ↓dOr_ap, ↓dNot_ap, ↓dAndV_ap, ↓dOrV_ap, ↓dNotV_ap, ↓dIf_ap, ↓mNil_ap, ↓mPu_ap, ↓mOw_ap, ↓gdName_ap, ↓gdNil_ap, ↓gdCons_ap, ↓gdSeq_ap, ↓dNext_ap, ↓dBreak_ap, ↓dCont_ap, ↓dNever_ap, ↓dDrop_ap, ↓dRet_ap, ↓dRetN_ap, ↓dRetV_ap, ↓dIfS_ap, ↓dAsg_ap, ↓dAsgN_ap, ↓dPar_ap, ↓dPar3_ap, ↓dParT_ap, ↓dIt_ap, ↓dItAny_ap, ↓dItA_ap, ↓dRng1_ap, ↓dRng2_ap, ↓dEnum_ap, ↓dZip_ap, ↓dFor_ap, ↓dWhile_ap, ↓dLc_ap, ↓dRepN_ap, ↓dCatN_ap, ↓dNoPart_ap, ↓dPart_ap, ↓dSl_ap, ↓dSlN_ap, ↓dChain_ap, ↓dListOf_ap, ↓dSortI_ap, ↓dApp_ap, ↓dExt_ap, ↓dSetI_ap, ↓dPop_ap, ↓dPopAt_ap, ↓kNil_ap, ↓kPu_ap, ↓kIo_ap, ↓dCall_ap, ↓kApp_ap, ↓kPerm_ap, ↓dYes_ap, ↓dZipM_ap, dEq, dNe, dEqA, dNeA, dAdd, dI, dI0, dMul, dIx, dIsN, dNotN, dIn, dLen, dInt1, dAbs, dMM, dSum, dMaxL, dMinL, dAll, dTupOf, dIsi, dStrI, dNeg, dSub, dDiv, dMod, dPow, dShl, dShr, dBand, dLt, dLe, dGt, dGe, dCallG, entryN, entry, slotsOf, putOuts, putL, Sl.put, ownL, resolve, look, slD, looks, Sl.ownd, forW, compW, wipeP, backP, D.bls, D.ints, kp, perm, List.filterMap_cons, List.filterMap_nil, List.getElem?_cons_zero, List.getElem?_cons_succ, List.getElem?_nil, List.set_cons_zero, List.set_cons_succ, List.length_cons, List.length_nil, List.replicate_succ, List.replicate_zero, List.append_nil, List.nil_append, List.cons_append, List.map_cons, List.map_nil, Option.bind_some, Option.map_some, Option.isSome_some, Nat.reduceAdd, Nat.reduceSub, Nat.zero_add, Option.bind, Option.map, ↓reduceIte, decide_eq_true_eq, decide_true, decide_false, Bool.false_eq_true, Bool.true_eq_false, Bool.not_true, Bool.not_false, Bool.not_eq_true, Bool.not_eq_false, reduceCtorEq, true_and, and_true, okEq_int, okEq_bl, okEq_non, okEq_ints, okEq_nil, eqv_int, eqv_bl, eqv_nil, List.map_eq_nil_iff, truD, D.isNon, tyName, tyB, tyKnown, isTy, tyBD, List.all_cons, List.all_nil, List.any_cons, List.any_nil, List.contains_cons, List.contains_nil, String.reduceBEq, Bool.true_or, Bool.or_true, Bool.false_or, Bool.or_false, Bool.true_and, Bool.and_true, Bool.false_and, Bool.and_false, cast_0, cast_1, cast_2, cast_3, two_le_size, zero_lt_size, one_lt_size, nodup_nilN, nodup_1, zero_le_size, atI_0, atI_1, atI_2, ixN_30, ixN_31, ixN_32, Option.some.injEq, List.cons.injEq, true_or, or_true, false_or, or_false, hlog]
  refine ⟨by decide, by decide, by decide, ?_⟩
  have s0 : ("0" : Str) = ⟨#[48]⟩ := by decide
  have s1 : ("1" : Str) = ⟨#[49]⟩ := by decide
  refine count_in hb2 (by omega) (by decide) (by decide) fun k' b3 k0' k1' hb3 => ?_
  refine ⟨48, s0, k0', by omega, by decide, ?_⟩
  have z1 : okS (repS 48 k'.toNat) := okS_rep _ _ (by omega) (by decide)
  generalize repS 48 k'.toNat = zk at z1 ⊢
  (try dsimp only); rw [dSeq_ap]; simp (maxSteps := 2000000) only [↓dVar_ap, ↓dC_ap, ↓dEsc_ap, ↓dPure_ap, ↓dOp_ap, ↓dUn_ap, ↓dNil_ap, ↓dCons_ap, ↓hNil_ap, ↓hCons_ap, ↓dCB_ap, ↓dTup_ap, ↓dLst_ap, ↓dTest_ap, ↓dTru_ap, ↓dAnd_ap, ↓dOr_ap, ↓dNot_ap, ↓dAndV_ap, ↓dOrV_ap, ↓dNotV_ap, ↓dIf_ap, ↓mNil_ap, ↓mPu_ap, ↓mOw_ap, ↓gdName_ap, ↓gdNil_ap, ↓gdCons_ap, ↓gdSeq_ap, ↓dNext_ap, ↓dBreak_ap, ↓dCont_ap, ↓dNever_ap, ↓dDrop_ap, ↓dRet_ap, ↓dRetN_ap, ↓dRetV_ap, ↓dIfS_ap, ↓dAsg_ap, ↓dAsgN_ap, ↓dPar_ap, ↓dPar3_ap, ↓dParT_ap, ↓dIt_ap, ↓dItAny_ap, ↓dItA_ap, ↓dRng1_ap, ↓dRng2_ap, ↓dEnum_ap, ↓dZip_ap, ↓dFor_ap, ↓dWhile_ap, ↓dLc_ap, ↓dRepN_ap, ↓dCatN_ap, ↓dNoPart_ap, ↓dPart_ap, ↓dSl_ap, ↓dSlN_ap, ↓dChain_ap, ↓dListOf_ap, ↓dSortI_ap, ↓dApp_ap, ↓dExt_ap, ↓dSetI_ap, ↓dPop_ap, ↓dPopAt_ap, ↓kNil_ap, ↓kPu_ap, ↓kIo_ap, ↓dCall_ap, ↓kApp_ap, ↓kPerm_ap, ↓dYes_ap, ↓dZipM_ap, dEq, dNe, dEqA, dNeA, dAdd, dI, dI0, dMul, dIx, dIsN, dNotN, dIn, dLen, dInt1, dAbs, dMM, dSum, dMaxL, dMinL, dAll, dTupOf, dIsi, dStrI, dNeg, dSub, dDiv, dMod, dPow, dShl, dShr, dBand, dLt, dLe, dGt, dGe, dCallG, entryN, entry, slotsOf, putOuts, putL, Sl.put, ownL, resolve, look, slD, looks, Sl.ownd, forW, compW, wipeP, backP, D.bls, D.ints, kp, perm, List.filterMap_cons, List.filterMap_nil, List.getElem?_cons_zero, List.getElem?_cons_succ, List.getElem?_nil, List.set_cons_zero, List.set_cons_succ, List.length_cons, List.length_nil, List.replicate_succ, List.replicate_zero, List.append_nil, List.nil_append, List.cons_append, List.map_cons, List.map_nil, Option.bind_some, Option.map_some, Option.isSome_some, Nat.reduceAdd, Nat.reduceSub, Nat.zero_add, Option.bind, Option.map, ↓reduceIte, decide_eq_true_eq, decide_true, decide_false, Bool.false_eq_true, Bool.true_eq_false, Bool.not_true, Bool.not_false, Bool.not_eq_true, Bool.not_eq_false, reduceCtorEq, true_and, and_true, okEq_int, okEq_bl, okEq_non, okEq_ints, okEq_nil, eqv_int, eqv_bl, eqv_nil, List.map_eq_nil_iff, truD, D.isNon, tyName, tyB, tyKnown, isTy, tyBD, List.all_cons, List.all_nil, List.any_cons, List.any_nil, List.contains_cons, List.contains_nil, String.reduceBEq, Bool.true_or, Bool.or_true, Bool.false_or, Bool.or_false, Bool.true_and, Bool.and_true, Bool.false_and, Bool.and_false, cast_0, cast_1, cast_2, cast_3, two_le_size, zero_lt_size, one_lt_size, nodup_nilN, nodup_1, zero_le_size, atI_0, atI_1, atI_2, ixN_30, ixN_31, ixN_32, Option.some.injEq, List.cons.injEq, true_or, or_true, false_or, or_false]
  refine ⟨48, s0, by decide, by decide, ?_⟩
  simp (maxSteps := 2000000) only [↓dVar_ap, ↓dC_ap, ↓dEsc_ap, ↓dPure_ap, ↓dOp_ap, ↓dUn_ap, ↓dNil_ap, ↓dCons_ap, ↓hNil_ap, ↓hCons_ap, ↓dCB_ap, ↓dTup_ap, ↓dLst_ap, ↓dTest_ap, ↓dTru_ap, ↓dAnd_ap, ↓dOr_ap, ↓dNot_ap, ↓dAndV_ap, ↓dOrV_ap, ↓dNotV_ap, ↓dIf_ap, ↓mNil_ap, ↓mPu_ap, ↓mOw_ap, ↓gdName_ap, ↓gdNil_ap, ↓gdCons_ap, ↓gdSeq_ap, ↓dNext_ap, ↓dBreak_ap, ↓dCont_ap, ↓dNever_ap, ↓dDrop_ap, ↓dRet_ap, ↓dRetN_ap, ↓dRetV_ap, ↓dIfS_ap, ↓dAsg_ap, ↓dAsgN_ap, ↓dPar_ap, ↓dPar3_ap, ↓dParT_ap, ↓dIt_ap, ↓dItAny_ap, ↓dItA_ap, ↓dRng1_ap, ↓dRng2_ap, ↓dEnum_ap, ↓dZip_ap, ↓dFor_ap, ↓dWhile_ap, ↓dLc_ap, ↓dRepN_ap, ↓dCatN_ap, ↓dNoPart_ap, ↓dPart_ap, ↓dSl_ap, ↓dSlN_ap, ↓dChain_ap, ↓dListOf_ap, ↓dSortI_ap, ↓dApp_ap, ↓dExt_ap, ↓dSetI_ap, ↓dPop_ap, ↓dPopAt_ap, ↓kNil_ap, ↓kPu_ap, ↓kIo_ap, ↓dCall_ap, ↓kApp_ap, ↓kPerm_ap, ↓dYes_ap, ↓dZipM_ap, dEq, dNe, dEqA, dNeA, dAdd, dI, dI0, dMul, dIx, dIsN, dNotN, dIn, dLen, dInt1, dAbs, dMM, dSum, dMaxL, dMinL, dAll, dTupOf, dIsi, dStrI, dNeg, dSub, dDiv, dMod, dPow, dShl, dShr, dBand, dLt, dLe, dGt, dGe, dCallG, entryN, entry, slotsOf, putOuts, putL, Sl.put, ownL, resolve, look, slD, looks, Sl.ownd, forW, compW, wipeP, backP, D.bls, D.ints, kp, perm, List.filterMap_cons, List.filterMap_nil, List.getElem?_cons_zero, List.getElem?_cons_succ, List.getElem?_nil, List.set_cons_zero, List.set_cons_succ, List.length_cons, List.length_nil, List.replicate_succ, List.replicate_zero, List.append_nil, List.nil_append, List.cons_append, List.map_cons, List.map_nil, Option.bind_some, Option.map_some, Option.isSome_some, Nat.reduceAdd, Nat.reduceSub, Nat.zero_add, Option.bind, Option.map, ↓reduceIte, decide_eq_true_eq, decide_true, decide_false, Bool.false_eq_true, Bool.true_eq_false, Bool.not_true, Bool.not_false, Bool.not_eq_true, Bool.not_eq_false, reduceCtorEq, true_and, and_true, okEq_int, okEq_bl, okEq_non, okEq_ints, okEq_nil, eqv_int, eqv_bl, eqv_nil, List.map_eq_nil_iff, truD, D.isNon, tyName, tyB, tyKnown, isTy, tyBD, List.all_cons, List.all_nil, List.any_cons, List.any_nil, List.contains_cons, List.contains_nil, String.reduceBEq, Bool.true_or, Bool.or_true, Bool.false_or, Bool.or_false, Bool.true_and, Bool.and_true, Bool.false_and, Bool.and_false, cast_0, cast_1, cast_2, cast_3, two_le_size, zero_lt_size, one_lt_size, nodup_nilN, nodup_1, zero_le_size, atI_0, atI_1, atI_2, ixN_30, ixN_31, ixN_32, Option.some.injEq, List.cons.injEq, true_or, or_true, false_or, or_false]
  refine ⟨by decide, b3, _, _, rfl, hb3, by omega, by simp, by simp, fun x hx b4 hb4 => ?_⟩
  obtain ⟨z, rfl, hz, hzl⟩ : ∃ z, x = .str z ∧ okS z ∧ z.length ≤ 2 := by
    simp only [List.mem_cons, List.not_mem_nil, or_false] at hx
    rcases hx with rfl | rfl | rfl | rfl | rfl
    · exact ⟨_, rfl, okS_of _ (by decide), by decide⟩
    · exact ⟨_, rfl, okS_of _ (by decide), by decide⟩
    · exact ⟨_, rfl, okS_of _ (by decide), by decide⟩
    · exact ⟨_, rfl, okS_of _ (by decide), by decide⟩
    · exact ⟨_, rfl, okS_of _ (by decide), by decide⟩
  have l59 : (repS 48 (Int.toNat 59)).length = 59 := repS_len _ _
  have z2 : okS (repS 48 (Int.toNat 59) ++ z) := okS_app (okS_rep _ _ (by decide) (by decide)) hz (by omega)
  simp (maxSteps := 2000000) only [↓dVar_ap, ↓dC_ap, ↓dEsc_ap, ↓dPure_ap, ↓dOp_ap, ↓dUn_ap, ↓dNil_ap, ↓dCons_ap, ↓hNil_ap, ↓hCons_ap, ↓dCB_ap, ↓dTup_ap, ↓dLst_ap, ↓dTest_ap, ↓dTru_ap, ↓dAnd_ap, ↓dOr_ap, ↓dNot_ap, ↓dAndV_ap, ↓dOrV_ap, ↓dNotV_ap, ↓dIf_ap, ↓mNil_ap, ↓mPu_ap, ↓mOw_ap, ↓gdName_ap, ↓gdNil_ap, ↓gdCons_ap, ↓gdSeq_ap, ↓dNext_ap, ↓dBreak_ap, ↓dCont_ap, ↓dNever_ap, ↓dDrop_ap, ↓dRet_ap, ↓dRetN_ap, ↓dRetV_ap, ↓dIfS_ap, ↓dAsg_ap, ↓dAsgN_ap, ↓dPar_ap, ↓dPar3_ap, ↓dParT_ap, ↓dIt_ap, ↓dItAny_ap, ↓dItA_ap, ↓dRng1_ap, ↓dRng2_ap, ↓dEnum_ap, ↓dZip_ap, ↓dFor_ap, ↓dWhile_ap, ↓dLc_ap, ↓dRepN_ap, ↓dCatN_ap, ↓dNoPart_ap, ↓dPart_ap, ↓dSl_ap, ↓dSlN_ap, ↓dChain_ap, ↓dListOf_ap, ↓dSortI_ap, ↓dApp_ap, ↓dExt_ap, ↓dSetI_ap, ↓dPop_ap, ↓dPopAt_ap, ↓kNil_ap, ↓kPu_ap, ↓kIo_ap, ↓dCall_ap, ↓kApp_ap, ↓kPerm_ap, ↓dYes_ap, ↓dZipM_ap, dEq, dNe, dEqA, dNeA, dAdd, dI, dI0, dMul, dIx, dIsN, dNotN, dIn, dLen, dInt1, dAbs, dMM, dSum, dMaxL, dMinL, dAll, dTupOf, dIsi, dStrI, dNeg, dSub, dDiv, dMod, dPow, dShl, dShr, dBand, dLt, dLe, dGt, dGe, dCallG, entryN, entry, slotsOf, putOuts, putL, Sl.put, ownL, resolve, look, slD, looks, Sl.ownd, forW, compW, wipeP, backP, D.bls, D.ints, kp, perm, List.filterMap_cons, List.filterMap_nil, List.getElem?_cons_zero, List.getElem?_cons_succ, List.getElem?_nil, List.set_cons_zero, List.set_cons_succ, List.length_cons, List.length_nil, List.replicate_succ, List.replicate_zero, List.append_nil, List.nil_append, List.cons_append, List.map_cons, List.map_nil, Option.bind_some, Option.map_some, Option.isSome_some, Nat.reduceAdd, Nat.reduceSub, Nat.zero_add, Option.bind, Option.map, ↓reduceIte, decide_eq_true_eq, decide_true, decide_false, Bool.false_eq_true, Bool.true_eq_false, Bool.not_true, Bool.not_false, Bool.not_eq_true, Bool.not_eq_false, reduceCtorEq, true_and, and_true, okEq_int, okEq_bl, okEq_non, okEq_ints, okEq_nil, eqv_int, eqv_bl, eqv_nil, List.map_eq_nil_iff, truD, D.isNon, tyName, tyB, tyKnown, isTy, tyBD, List.all_cons, List.all_nil, List.any_cons, List.any_nil, List.contains_cons, List.contains_nil, String.reduceBEq, Bool.true_or, Bool.or_true, Bool.false_or, Bool.or_false, Bool.true_and, Bool.and_true, Bool.false_and, Bool.and_false, cast_0, cast_1, cast_2, cast_3, two_le_size, zero_lt_size, one_lt_size, nodup_nilN, nodup_1, zero_le_size, atI_0, atI_1, atI_2, ixN_30, ixN_31, ixN_32, Option.some.injEq, List.cons.injEq, true_or, or_true, false_or, or_false, dDict0, dDict1, keyD, exists_eq_left']
  have hlog2 : n.natAbs.log2 < 30 := by
    by_cases z : n.natAbs = 0
    · rw [z]; decide
    · exact (Nat.log2_lt (k := 30) z).mpr (by omega)
  have zt : okS (Str.ofString (toString n)) := okS_of _ (by have := int_text_length_le (a := n) (k := 30) (by decide) hlog2; omega)
  have z60 : okS (repS 49 (Int.toNat 60)) := okS_rep _ _ (by decide) (by decide)
  have z61 : okS (repS 49 (Int.toNat 61)) := okS_rep _ _ (by decide) (by decide)
  have vs : ∀ z, okS z → Val (.str z) := fun z h => .inr (.inr (.inr (.inl ⟨z, rfl, h⟩)))
  have vi : ∀ i, Elt (.int i) := fun i => .inr (.inr (.inl ⟨i, rfl⟩))
  have vl : ∀ l : List D, l.length ≤ 100 → (∀ x ∈ l, Elt x) → Val (.lst l) := fun l h1 h2 => .inr (.inr (.inr (.inr (.inl ⟨l, .inl rfl, h1, h2⟩))))
  have vt : ∀ l : List D, l.length ≤ 100 → (∀ x ∈ l, Elt x) → Val (.tup l) := fun l h1 h2 => .inr (.inr (.inr (.inr (.inl ⟨l, .inr rfl, h1, h2⟩))))
  refine ⟨by rw [l59]; exact lt_size (by omega), by decide, 49, s1, by decide, by decide, 49, s1, by decide, by decide, by decide, by decide, b4, _, _, rfl, hb4, by omega, by simp, by simp, fun x hx b5 hb5 => ends_rt rfl (q x b5 ?_ (hb5.mono (by omega)))⟩
  simp only [List.mem_cons, List.not_mem_nil, or_false] at hx
  have e1 : ∀ a : D, Elt a → ∀ x ∈ [a], Elt x := fun a h x hx => by rw [List.mem_singleton.mp hx]; exact h
  have e2 : ∀ a b : D, Elt a → Elt b → ∀ x ∈ [a, b], Elt x := fun a b h h' x hx => by
    rcases List.mem_cons.mp hx with rfl | hx
    · exact h
    · rw [List.mem_singleton.mp hx]; exact h'
  have e3 : ∀ a b c : D, Elt a → Elt b → Elt c → ∀ x ∈ [a, b, c], Elt x := fun a b c h h' h'' x hx => by
    rcases List.mem_cons.mp hx with rfl | hx
    · exact h
    · exact e2 b c h' h'' x hx
  rcases hx with rfl | rfl | rfl | rfl | rfl | rfl | rfl | rfl | rfl | rfl | rfl | rfl | rfl | rfl | rfl | rfl | rfl | rfl | rfl | rfl | rfl | rfl | rfl | rfl | rfl
  · exact .inl rfl
  · exact .inr (.inl ⟨_, rfl⟩)
  · exact .inr (.inl ⟨_, rfl⟩)
  · exact .inr (.inr (.inl ⟨_, rfl⟩))
  · exact vs _ zt
  · exact vl _ (by simp) (e1 _ (vi _))
  · exact vt _ (by simp) (e2 _ _ (vi _) (vi _))
  · exact vl _ (by simp) (e2 _ _ (vi _) (vi _))
  · exact vt _ (by simp) (e1 _ (vi _))
  · exact vl _ (by simp) (e3 _ _ _ (vi _) (vi _) (vi _))
  · exact vl _ (by simp) (e2 _ _ (vi _) (.inr (.inl ⟨_, rfl⟩)))
  · exact vl _ (by simp) (e2 _ _ (.inl rfl) (vi _))
  · exact vs _ (okS_of _ (by decide))
  · exact vs _ z1
  · exact vs _ z2
  · exact vs _ (okS_of _ (by decide))
  · exact vs _ (okS_of _ (by decide))
  · exact vs _ (okS_of _ (by decide))
  · exact vs _ (okS_of _ (by decide))
  · exact .inr (.inr (.inr (.inr (.inr ⟨_, _, rfl⟩))))
  · exact .inr (.inr (.inr (.inr (.inr ⟨_, _, rfl⟩))))
  · exact vl _ (by simp) (e2 _ _ (.inr (.inr (.inr (.inr ⟨_, rfl⟩)))) (vi _))
  · exact vs _ z60
  · exact vs _ z61
  · exact vl _ (by simp) (e2 _ _ (.inr (.inr (.inr (.inl ⟨_, rfl, okS_of _ (by decide)⟩)))) (.inr (.inr (.inr (.inl ⟨_, rfl, okS_of _ (by decide)⟩)))))
end G

set_option Elab.async false
set_option linter.all false
set_option maxRecDepth 100000
set_option maxHeartbeats 400000
set_option exponentiation.threshold 4000
namespace G
open PySem PySem.Spec PyProof.Rows L2 Z
theorem st_within {Dd : DEnds} {x0 x1 x2 x7 x8 x9 x10 x11 x12 : Sl} {v lo hi : D} (hv : Val v) (h1 : Bd lo) (h2 : Bd hi) (k : Dd.nx [x0, x1, x2, .pu v, .pu lo, .pu hi, .pu (.bl (isI v)), .pu (.bl (isW v lo hi)), x8, x9, x10, x11, x12]) :
    (dAsg (dEsc (dAndV (dVar 6) (dAndV (dOrV (dOp dIsN (dVar 4) (dC .non)) (dOp dGe (dVar 3) (dVar 4))) (dOrV (dOp dIsN (dVar 5) (dC .non)) (dOp dLe (dVar 3) (dVar 5)))))) (gdName 7)) Dd [x0, x1, x2, .pu v, .pu lo, .pu hi, .pu (.bl (isI v)), x7, x8, x9, x10, x11, x12] := by
  rcases hv with rfl | ⟨b, rfl⟩ | ⟨i, rfl⟩ | ⟨z, rfl, _⟩ | ⟨l, rfl | rfl, _⟩ | ⟨ks, ds, rfl⟩
  · simp (maxSteps := 2000000) only [↓dVar_ap, ↓dC_ap, ↓dEsc_ap, ↓dPure_ap, ↓dOp_ap, ↓dUn_ap, ↓dNil_ap, ↓dCons_ap, ↓hNil_ap, ↓hCons_ap, ↓dCB_ap, ↓dTup_ap, ↓dLst_ap, ↓dTest_ap, ↓dTru_ap, ↓dAnd_ap, ↓dOr_ap, ↓dNot_ap, ↓dAndV_ap, ↓dOrV_ap, ↓dNotV_ap, ↓dIf_ap, ↓mNil_ap, ↓mPu_ap, ↓mOw_ap, ↓gdName_ap, ↓gdNil_ap, ↓gdCons_ap, ↓gdSeq_ap, ↓dNext_ap, ↓dBreak_ap, ↓dCont_ap, ↓dNever_ap, ↓dDrop_ap, ↓dRet_ap, ↓dRetN_ap, ↓dRetV_ap, ↓dIfS_ap, ↓dAsg_ap, ↓dAsgN_ap, ↓dPar_ap, ↓dPar3_ap, ↓dParT_ap, ↓dIt_ap, ↓dItAny_ap, ↓dItA_ap, ↓dRng1_ap, ↓dRng2_ap, ↓dEnum_ap, ↓dZip_ap, ↓dFor_ap, ↓dWhile_ap, ↓dLc_ap, ↓dRepN_ap, ↓dCatN_ap, ↓dNoPart_ap, ↓dPart_ap, ↓dSl_ap, ↓dSlN_ap, ↓dChain_ap, ↓dListOf_ap, ↓dSortI_ap, ↓dApp_ap, ↓dExt_ap, ↓dSetI_ap, ↓dPop_ap, ↓dPopAt_ap, ↓kNil_ap, ↓kPu_ap, ↓kIo_ap, ↓dCall_ap, ↓kApp_ap, ↓kPerm_ap, ↓dYes_ap, ↓dZipM_ap, dEq, dNe, dEqA, dNeA, dAdd, dI, dI0, dMul, dIx, dIsN, dNotN, dIn, dLen, dInt1, dAbs, dMM, dSum, dMaxL, dMinL, dAll, dTupOf, dIsi, dStrI, dNeg, dSub, dDiv, dMod, dPow, dShl, dShr, dBand, dLt, dLe, dGt, dGe, dCallG, entryN, entry, slotsOf, putOuts, putL, Sl.put, ownL, resolve, look, slD, looks, Sl.ownd, forW, compW, wipeP, backP, D.bls, D.ints, kp, perm, List.filterMap_cons, List.filterMap_nil, List.getElem?_cons_zero, List.getElem?_cons_succ, List.getElem?_nil, List.set_cons_zero, List.set_cons_succ, List.length_cons, List.length_nil, List.replicate_succ, List.replicate_zero, List.append_nil, List.nil_append, List.cons_append, List.map_cons, List.map_nil, Option.bind_some, Option.map_some, Option.isSome_some, Nat.reduceAdd, Nat.reduceSub, Nat.zero_add, Option.bind, Option.map, ↓reduceIte, decide_eq_true_eq, decide_true, decide_false, Bool.false_eq_true, Bool.true_eq_false, Bool.not_true, Bool.not_false, Bool.not_eq_true, Bool.not_eq_false, reduceCtorEq, true_and, and_true, okEq_int, okEq_bl, okEq_non, okEq_ints, okEq_nil, eqv_int, eqv_bl, eqv_nil, List.map_eq_nil_iff, truD, D.isNon, tyName, tyB, tyKnown, isTy, tyBD, List.all_cons, List.all_nil, List.any_cons, List.any_nil, List.contains_cons, List.contains_nil, String.reduceBEq, Bool.true_or, Bool.or_true, Bool.false_or, Bool.or_false, Bool.true_and, Bool.and_true, Bool.false_and, Bool.and_false, cast_0, cast_1, cast_2, cast_3, two_le_size, zero_lt_size, one_lt_size, nodup_nilN, nodup_1, zero_le_size, atI_0, atI_1, atI_2, ixN_30, ixN_31, ixN_32, Option.some.injEq, List.cons.injEq, true_or, or_true, false_or, or_false, isI]; exact k
  · simp (maxSteps := 2000000) only [↓dVar_ap, ↓dC_ap, ↓dEsc_ap, ↓dPure_ap, ↓dOp_ap, ↓dUn_ap, ↓dNil_ap, ↓dCons_ap, ↓hNil_ap, ↓hCons_ap, ↓dCB_ap, ↓dTup_ap, ↓dLst_ap, ↓dTest_ap, ↓dTru_ap, ↓dAnd_ap, ↓dOr_ap, ↓dNot_ap, ↓dAndV_ap, ↓dOrV_ap, ↓dNotV_ap, ↓dIf_ap, ↓mNil_ap, ↓mPu_ap, ↓mOw_ap, ↓gdName_ap, ↓gdNil_ap, ↓gdCons_ap, ↓gdSeq_ap, ↓dNext_ap, ↓dBreak_ap, ↓dCont_ap, ↓dNever_ap, ↓dDrop_ap, ↓dRet_ap, ↓dRetN_ap, ↓dRetV_ap, ↓dIfS_ap, ↓dAsg_ap, ↓dAsgN_ap, ↓dPar_ap, ↓dPar3_ap, ↓dParT_ap, ↓dIt_ap, ↓dItAny_ap, ↓dItA_ap, ↓dRng1_ap, ↓dRng2_ap, ↓dEnum_ap, ↓dZip_ap, ↓dFor_ap, ↓dWhile_ap, ↓dLc_ap, ↓dRepN_ap, ↓dCatN_ap, ↓dNoPart_ap, ↓dPart_ap, ↓dSl_ap, ↓dSlN_ap, ↓dChain_ap, ↓dListOf_ap, ↓dSortI_ap, ↓dApp_ap, ↓dExt_ap, ↓dSetI_ap, ↓dPop_ap, ↓dPopAt_ap, ↓kNil_ap, ↓kPu_ap, ↓kIo_ap, ↓dCall_ap, ↓kApp_ap, ↓kPerm_ap, ↓dYes_ap, ↓dZipM_ap, dEq, dNe, dEqA, dNeA, dAdd, dI, dI0, dMul, dIx, dIsN, dNotN, dIn, dLen, dInt1, dAbs, dMM, dSum, dMaxL, dMinL, dAll, dTupOf, dIsi, dStrI, dNeg, dSub, dDiv, dMod, dPow, dShl, dShr, dBand, dLt, dLe, dGt, dGe, dCallG, entryN, entry, slotsOf, putOuts, putL, Sl.put, ownL, resolve, look, slD, looks, Sl.ownd, forW, compW, wipeP, backP, D.bls, D.ints, kp, perm, List.filterMap_cons, List.filterMap_nil, List.getElem?_cons_zero, List.getElem?_cons_succ, List.getElem?_nil, List.set_cons_zero, List.set_cons_succ, List.length_cons, List.length_nil, List.replicate_succ, List.replicate_zero, List.append_nil, List.nil_append, List.cons_append, List.map_cons, List.map_nil, Option.bind_some, Option.map_some, Option.isSome_some, Nat.reduceAdd, Nat.reduceSub, Nat.zero_add, Option.bind, Option.map, ↓reduceIte, decide_eq_true_eq, decide_true, decide_false, Bool.false_eq_true, Bool.true_eq_false, Bool.not_true, Bool.not_false, Bool.not_eq_true, Bool.not_eq_false, reduceCtorEq, true_and, and_true, okEq_int, okEq_bl, okEq_non, okEq_ints, okEq_nil, eqv_int, eqv_bl, eqv_nil, List.map_eq_nil_iff, truD, D.isNon, tyName, tyB, tyKnown, isTy, tyBD, List.all_cons, List.all_nil, List.any_cons, List.any_nil, List.contains_cons, List.contains_nil, String.reduceBEq, Bool.true_or, Bool.or_true, Bool.false_or, Bool.or_false, Bool.true_and, Bool.and_true, Bool.false_and, Bool.and_false, cast_0, cast_1, cast_2, cast_3, two_le_size, zero_lt_size, one_lt_size, nodup_nilN, nodup_1, zero_le_size, atI_0, atI_1, atI_2, ixN_30, ixN_31, ixN_32, Option.some.injEq, List.cons.injEq, true_or, or_true, false_or, or_false, isI]; exact k
  · rcases h1 with rfl | ⟨j, rfl⟩ <;> rcases h2 with rfl | ⟨m, rfl⟩
    · simp (maxSteps := 2000000) only [↓dVar_ap, ↓dC_ap, ↓dEsc_ap, ↓dPure_ap, ↓dOp_ap, ↓dUn_ap, ↓dNil_ap, ↓dCons_ap, ↓hNil_ap, ↓hCons_ap, ↓dCB_ap, ↓dTup_ap, ↓dLst_ap, ↓dTest_ap, ↓dTru_ap, ↓dAnd_ap, ↓dOr_ap, ↓dNot_ap, ↓dAndV_ap, ↓dOrV_ap, ↓dNotV_ap, ↓dIf_ap, ↓mNil_ap, ↓mPu_ap, ↓mOw_ap, ↓gdName_ap, ↓gdNil_ap, ↓gdCons_ap, ↓gdSeq_ap, ↓dNext_ap, ↓dBreak_ap, ↓dCont_ap, ↓dNever_ap, ↓dDrop_ap, ↓dRet_ap, ↓dRetN_ap, ↓dRetV_ap, ↓dIfS_ap, ↓dAsg_ap, ↓dAsgN_ap, ↓dPar_ap, ↓dPar3_ap, ↓dParT_ap, ↓dIt_ap, ↓dItAny_ap, ↓dItA_ap, ↓dRng1_ap, ↓dRng2_ap, ↓dEnum_ap, ↓dZip_ap, ↓dFor_ap, ↓dWhile_ap, ↓dLc_ap, ↓dRepN_ap, ↓dCatN_ap, ↓dNoPart_ap, ↓dPart_ap, ↓dSl_ap, ↓dSlN_ap, ↓dChain_ap, ↓dListOf_ap, ↓dSortI_ap, ↓dApp_ap, ↓dExt_ap, ↓dSetI_ap, ↓dPop_ap, ↓dPopAt_ap, ↓kNil_ap, ↓kPu_ap, ↓kIo_ap, ↓dCall_ap, ↓kApp_ap, ↓kPerm_ap, ↓dYes_ap, ↓dZipM_ap, dEq, dNe, dEqA, dNeA, dAdd, dI, dI0, dMul, dIx, dIsN, dNotN, dIn, dLen, dInt1, dAbs, dMM, dSum, dMaxL, dMinL, dAll, dTupOf, dIsi, dStrI, dNeg, dSub, dDiv, dMod, dPow, dShl, dShr, dBand, dLt, dLe, dGt, dGe, dCallG, entryN, entry, slotsOf, putOuts, putL, Sl.put, ownL, resolve, look, slD, looks, Sl.ownd, forW, compW, wipeP, backP, D.bls, D.ints, kp, perm, List.filterMap_cons, List.filterMap_nil, List.getElem?_cons_zero, List.getElem?_cons_succ, List.getElem?_nil, List.set_cons_zero, List.set_cons_succ, List.length_cons, List.length_nil, List.replicate_succ, List.replicate_zero, List.append_nil, List.nil_append, List.cons_append, List.map_cons, List.map_nil, Option.bind_some, Option.map_some, Option.isSome_some, Nat.reduceAdd, Nat.reduceSub, Nat.zero_add, Option.bind, Option.map, ↓reduceIte, decide_eq_true_eq, decide_true, decide_false, Bool.false_eq_true, Bool.true_eq_false, Bool.not_true, Bool.not_false, Bool.not_eq_true, Bool.not_eq_false, reduceCtorEq, true_and, and_true, okEq_int, okEq_bl, okEq_non, okEq_ints, okEq_nil, eqv_int, eqv_bl, eqv_nil, List.map_eq_nil_iff, truD, D.isNon, tyName, tyB, tyKnown, isTy, tyBD, List.all_cons, List.all_nil, List.any_cons, List.any_nil, List.contains_cons, List.contains_nil, String.reduceBEq, Bool.true_or, Bool.or_true, Bool.false_or, Bool.or_false, Bool.true_and, Bool.and_true, Bool.false_and, Bool.and_false, cast_0, cast_1, cast_2, cast_3, two_le_size, zero_lt_size, one_lt_size, nodup_nilN, nodup_1, zero_le_size, atI_0, atI_1, atI_2, ixN_30, ixN_31, ixN_32, Option.some.injEq, List.cons.injEq, true_or, or_true, false_or, or_false, isI]; exact k
    · simp (maxSteps := 2000000) only [↓dVar_ap, ↓dC_ap, ↓dEsc_ap, ↓dPure_ap, ↓dOp_ap, ↓dUn_ap, ↓dNil_ap, ↓dCons_ap, ↓hNil_ap, ↓hCons_ap, ↓dCB_ap, ↓dTup_ap, ↓dLst_ap, ↓dTest_ap, ↓dTru_ap, ↓dAnd_ap, ↓dOr_ap, ↓dNot_ap, ↓dAndV_ap, ↓dOrV_ap, ↓dNotV_ap, ↓dIf_ap, ↓mNil_ap, ↓mPu_ap, ↓mOw_ap, ↓gdName_ap, ↓gdNil_ap, ↓gdCons_ap, ↓gdSeq_ap, ↓dNext_ap, ↓dBreak_ap, ↓dCont_ap, ↓dNever_ap, ↓dDrop_ap, ↓dRet_ap, ↓dRetN_ap, ↓dRetV_ap, ↓dIfS_ap, ↓dAsg_ap, ↓dAsgN_ap, ↓dPar_ap, ↓dPar3_ap, ↓dParT_ap, ↓dIt_ap, ↓dItAny_ap, ↓dItA_ap, ↓dRng1_ap, ↓dRng2_ap, ↓dEnum_ap, ↓dZip_ap, ↓dFor_ap, ↓dWhile_ap, ↓dLc_ap, ↓dRepN_ap, ↓dCatN_ap, ↓dNoPart_ap, ↓dPart_ap, ↓dSl_ap, ↓dSlN_ap, ↓dChain_ap, ↓dListOf_ap, ↓dSortI_ap, ↓dApp_ap, ↓dExt_ap, ↓dSetI_ap, ↓dPop_ap, ↓dPopAt_ap, ↓kNil_ap, ↓kPu_ap, ↓kIo_ap, ↓dCall_ap, ↓kApp_ap, ↓kPerm_ap, ↓dYes_ap, ↓dZipM_ap, dEq, dNe, dEqA, dNeA, dAdd, dI, dI0, dMul, dIx, dIsN, dNotN, dIn, dLen, dInt1, dAbs, dMM, dSum, dMaxL, dMinL, dAll, dTupOf, dIsi, dStrI, dNeg, dSub, dDiv, dMod, dPow, dShl, dShr, dBand, dLt, dLe, dGt, dGe, dCallG, entryN, entry, slotsOf, putOuts, putL, Sl.put, ownL, resolve, look, slD, looks, Sl.ownd, forW, compW, wipeP, backP, D.bls, D.ints, kp, perm, List.filterMap_cons, List.filterMap_nil, List.getElem?_cons_zero, List.getElem?_cons_succ, List.getElem?_nil, List.set_cons_zero, List.set_cons_succ, List.length_cons, List.length_nil, List.replicate_succ, List.replicate_zero, List.append_nil, List.nil_append, List.cons_append, List.map_cons, List.map_nil, Option.bind_some, Option.map_some, Option.isSome_some, Nat.reduceAdd, Nat.reduceSub, Nat.zero_add, Option.bind, Option.map, ↓reduceIte, decide_eq_true_eq, decide_true, decide_false, Bool.false_eq_true, Bool.true_eq_false, Bool.not_true, Bool.not_false, Bool.not_eq_true, Bool.not_eq_false, reduceCtorEq, true_and, and_true, okEq_int, okEq_bl, okEq_non, okEq_ints, okEq_nil, eqv_int, eqv_bl, eqv_nil, List.map_eq_nil_iff, truD, D.isNon, tyName, tyB, tyKnown, isTy, tyBD, List.all_cons, List.all_nil, List.any_cons, List.any_nil, List.contains_cons, List.contains_nil, String.reduceBEq, Bool.true_or, Bool.or_true, Bool.false_or, Bool.or_false, Bool.true_and, Bool.and_true, Bool.false_and, Bool.and_false, cast_0, cast_1, cast_2, cast_3, two_le_size, zero_lt_size, one_lt_size, nodup_nilN, nodup_1, zero_le_size, atI_0, atI_1, atI_2, ixN_30, ixN_31, ixN_32, Option.some.injEq, List.cons.injEq, true_or, or_true, false_or, or_false, isI]; exact k
    · have e : isW (.int i) (.int j) .non = (decide (j ≤ i) && true) := rfl
      rw [e] at k
      by_cases hj : j ≤ i
      · simp (maxSteps := 2000000) only [↓dVar_ap, ↓dC_ap, ↓dEsc_ap, ↓dPure_ap, ↓dOp_ap, ↓dUn_ap, ↓dNil_ap, ↓dCons_ap, ↓hNil_ap, ↓hCons_ap, ↓dCB_ap, ↓dTup_ap, ↓dLst_ap, ↓dTest_ap, ↓dTru_ap, ↓dAnd_ap, ↓dOr_ap, ↓dNot_ap, ↓dAndV_ap, ↓dOrV_ap, ↓dNotV_ap, ↓dIf_ap, ↓mNil_ap, ↓mPu_ap, ↓mOw_ap, ↓gdName_ap, ↓gdNil_ap, ↓gdCons_ap, ↓gdSeq_ap, ↓dNext_ap, ↓dBreak_ap, ↓dCont_ap, ↓dNever_ap, ↓dDrop_ap, ↓dRet_ap, ↓dRetN_ap, ↓dRetV_ap, ↓dIfS_ap, ↓dAsg_ap, ↓dAsgN_ap, ↓dPar_ap, ↓dPar3_ap, ↓dParT_ap, ↓dIt_ap, ↓dItAny_ap, ↓dItA_ap, ↓dRng1_ap, ↓dRng2_ap, ↓dEnum_ap, ↓dZip_ap, ↓dFor_ap, ↓dWhile_ap, ↓dLc_ap, ↓dRepN_ap, ↓dCatN_ap, ↓dNoPart_ap, ↓dPart_ap, ↓dSl_ap, ↓dSlN_ap, ↓dChain_ap, ↓dListOf_ap, ↓dSortI_ap, ↓dApp_ap, ↓dExt_ap, ↓dSetI_ap, ↓dPop_ap, ↓dPopAt_ap, ↓kNil_ap, ↓kPu_ap, ↓kIo_ap, ↓dCall_ap, ↓kApp_ap, ↓kPerm_ap, ↓dYes_ap, ↓dZipM_ap, dEq, dNe, dEqA, dNeA, dAdd, dI, dI0, dMul, dIx, dIsN, dNotN, dIn, dLen, dInt1, dAbs, dMM, dSum, dMaxL, dMinL, dAll, dTupOf, dIsi, dStrI, dNeg, dSub, dDiv, dMod, dPow, dShl, dShr, dBand, dLt, dLe, dGt, dGe, dCallG, entryN, entry, slotsOf, putOuts, putL, Sl.put, ownL, resolve, look, slD, looks, Sl.ownd, forW, compW, wipeP, backP, D.bls, D.ints, kp, perm, List.filterMap_cons, List.filterMap_nil, List.getElem?_cons_zero, List.getElem?_cons_succ, List.getElem?_nil, List.set_cons_zero, List.set_cons_succ, List.length_cons, List.length_nil, List.replicate_succ, List.replicate_zero, List.append_nil, List.nil_append, List.cons_append, List.map_cons, List.map_nil, Option.bind_some, Option.map_some, Option.isSome_some, Nat.reduceAdd, Nat.reduceSub, Nat.zero_add, Option.bind, Option.map, ↓reduceIte, decide_eq_true_eq, decide_true, decide_false, Bool.false_eq_true, Bool.true_eq_false, Bool.not_true, Bool.not_false, Bool.not_eq_true, Bool.not_eq_false, reduceCtorEq, true_and, and_true, okEq_int, okEq_bl, okEq_non, okEq_ints, okEq_nil, eqv_int, eqv_bl, eqv_nil, List.map_eq_nil_iff, truD, D.isNon, tyName, tyB, tyKnown, isTy, tyBD, List.all_cons, List.all_nil, List.any_cons, List.any_nil, List.contains_cons, List.contains_nil, String.reduceBEq, Bool.true_or, Bool.or_true, Bool.false_or, Bool.or_false, Bool.true_and, Bool.and_true, Bool.false_and, Bool.and_false, cast_0, cast_1, cast_2, cast_3, two_le_size, zero_lt_size, one_lt_size, nodup_nilN, nodup_1, zero_le_size, atI_0, atI_1, atI_2, ixN_30, ixN_31, ixN_32, Option.some.injEq, List.cons.injEq, true_or, or_true, false_or, or_false, isI, hj]; rw [decide_eq_true hj] at k; exact k
      · simp (maxSteps := 2000000) only [↓dVar_ap, ↓dC_ap, ↓dEsc_ap, ↓dPure_ap, ↓dOp_ap, ↓dUn_ap, ↓dNil_ap, ↓dCons_ap, ↓hNil_ap, ↓hCons_ap, ↓dCB_ap, ↓dTup_ap, ↓dLst_ap, ↓dTest_ap, ↓dTru_ap, ↓dAnd_ap, ↓dOr_ap, ↓dNot_ap, ↓dAndV_ap, ↓dOrV_ap, ↓dNotV_ap, ↓dIf_ap, ↓mNil_ap, ↓mPu_ap, ↓mOw_ap, ↓gdName_ap, ↓gdNil_ap, ↓gdCons_ap, ↓gdSeq_ap, ↓dNext_ap, ↓dBreak_ap, ↓dCont_ap, ↓dNever_ap, ↓dDrop_ap, ↓dRet_ap, ↓dRetN_ap, ↓dRetV_ap, ↓dIfS_ap, ↓dAsg_ap, ↓dAsgN_ap, ↓dPar_ap, ↓dPar3_ap, ↓dParT_ap, ↓dIt_ap, ↓dItAny_ap, ↓dItA_ap, ↓dRng1_ap, ↓dRng2_ap, ↓dEnum_ap, ↓dZip_ap, ↓dFor_ap, ↓dWhile_ap, ↓dLc_ap, ↓dRepN_ap, ↓dCatN_ap, ↓dNoPart_ap, ↓dPart_ap, ↓dSl_ap, ↓dSlN_ap, ↓dChain_ap, ↓dListOf_ap, ↓dSortI_ap, ↓dApp_ap, ↓dExt_ap, ↓dSetI_ap, ↓dPop_ap, ↓dPopAt_ap, ↓kNil_ap, ↓kPu_ap, ↓kIo_ap, ↓dCall_ap, ↓kApp_ap, ↓kPerm_ap, ↓dYes_ap, ↓dZipM_ap, dEq, dNe, dEqA, dNeA, dAdd, dI, dI0, dMul, dIx, dIsN, dNotN, dIn, dLen, dInt1, dAbs, dMM, dSum, dMaxL, dMinL, dAll, dTupOf, dIsi, dStrI, dNeg, dSub, dDiv, dMod, dPow, dShl, dShr, dBand, dLt, dLe, dGt, dGe, dCallG, entryN, entry, slotsOf, putOuts, putL, Sl.put, ownL, resolve, look, slD, looks, Sl.ownd, forW, compW, wipeP, backP, D.bls, D.ints, kp, perm, List.filterMap_cons, List.filterMap_nil, List.getElem?_cons_zero, List.getElem?_cons_succ, List.getElem?_nil, List.set_cons_zero, List.set_cons_succ, List.length_cons, List.length_nil, List.replicate_succ, List.replicate_zero, List.append_nil, List.nil_append, List.cons_append, List.map_cons, List.map_nil, Option.bind_some, Option.map_some, Option.isSome_some, Nat.reduceAdd, Nat.reduceSub, Nat.zero_add, Option.bind, Option.map, ↓reduceIte, decide_eq_true_eq, decide_true, decide_false, Bool.false_eq_true, Bool.true_eq_false, Bool.not_true, Bool.not_false, Bool.not_eq_true, Bool.not_eq_false, reduceCtorEq, true_and, and_true, okEq_int, okEq_bl, okEq_non, okEq_ints, okEq_nil, eqv_int, eqv_bl, eqv_nil, List.map_eq_nil_iff, truD, D.isNon, tyName, tyB, tyKnown, isTy, tyBD, List.all_cons, List.all_nil, List.any_cons, List.any_nil, List.contains_cons, List.contains_nil, String.reduceBEq, Bool.true_or, Bool.or_true, Bool.false_or, Bool.or_false, Bool.true_and, Bool.and_true, Bool.false_and, Bool.and_false, cast_0, cast_1, cast_2, cast_3, two_le_size, zero_lt_size, one_lt_size, nodup_nilN, nodup_1, zero_le_size, atI_0, atI_1, atI_2, ixN_30, ixN_31, ixN_32, Option.some.injEq, List.cons.injEq, true_or, or_true, false_or, or_false, isI, hj]; rw [decide_eq_false hj] at k; exact k
    · have e : isW (.int i) (.int j) (.int m) = (decide (j ≤ i) && decide (i ≤ m)) := rfl
      rw [e] at k
      by_cases hj : j ≤ i
      · simp (maxSteps := 2000000) only [↓dVar_ap, ↓dC_ap, ↓dEsc_ap, ↓dPure_ap, ↓dOp_ap, ↓dUn_ap, ↓dNil_ap, ↓dCons_ap, ↓hNil_ap, ↓hCons_ap, ↓dCB_ap, ↓dTup_ap, ↓dLst_ap, ↓dTest_ap, ↓dTru_ap, ↓dAnd_ap, ↓dOr_ap, ↓dNot_ap, ↓dAndV_ap, ↓dOrV_ap, ↓dNotV_ap, ↓dIf_ap, ↓mNil_ap, ↓mPu_ap, ↓mOw_ap, ↓gdName_ap, ↓gdNil_ap, ↓gdCons_ap, ↓gdSeq_ap, ↓dNext_ap, ↓dBreak_ap, ↓dCont_ap, ↓dNever_ap, ↓dDrop_ap, ↓dRet_ap, ↓dRetN_ap, ↓dRetV_ap, ↓dIfS_ap, ↓dAsg_ap, ↓dAsgN_ap, ↓dPar_ap, ↓dPar3_ap, ↓dParT_ap, ↓dIt_ap, ↓dItAny_ap, ↓dItA_ap, ↓dRng1_ap, ↓dRng2_ap, ↓dEnum_ap, ↓dZip_ap, ↓dFor_ap, ↓dWhile_ap, ↓dLc_ap, ↓dRepN_ap, ↓dCatN_ap, ↓dNoPart_ap, ↓dPart_ap, ↓dSl_ap, ↓dSlN_ap, ↓dChain_ap, ↓dListOf_ap, ↓dSortI_ap, ↓dApp_ap, ↓dExt_ap, ↓dSetI_ap, ↓dPop_ap, ↓dPopAt_ap, ↓kNil_ap, ↓kPu_ap, ↓kIo_ap, ↓dCall_ap, ↓kApp_ap, ↓kPerm_ap, ↓dYes_ap, ↓dZipM_ap, dEq, dNe, dEqA, dNeA, dAdd, dI, dI0, dMul, dIx, dIsN, dNotN, dIn, dLen, dInt1, dAbs, dMM, dSum, dMaxL, dMinL, dAll, dTupOf, dIsi, dStrI, dNeg, dSub, dDiv, dMod, dPow, dShl, dShr, dBand, dLt, dLe, dGt, dGe, dCallG, entryN, entry, slotsOf, putOuts, putL, Sl.put, ownL, resolve, look, slD, looks, Sl.ownd, forW, compW, wipeP, backP, D.bls, D.ints, kp, perm, List.filterMap_cons, List.filterMap_nil, List.getElem?_cons_zero, List.getElem?_cons_succ, List.getElem?_nil, List.set_cons_zero, List.set_cons_succ, List.length_cons, List.length_nil, List.replicate_succ, List.replicate_zero, List.append_nil, List.nil_append, List.cons_append, List.map_cons, List.map_nil, Option.bind_some, Option.map_some, Option.isSome_some, Nat.reduceAdd, Nat.reduceSub, Nat.zero_add, Option.bind, Option.map, ↓reduceIte, decide_eq_true_eq, decide_true, decide_false, Bool.false_eq_true, Bool.true_eq_false, Bool.not_true, Bool.not_false, Bool.not_eq_true, Bool.not_eq_false, reduceCtorEq, true_and, and_true, okEq_int, okEq_bl, okEq_non, okEq_ints, okEq_nil, eqv_int, eqv_bl, eqv_nil, List.map_eq_nil_iff, truD, D.isNon, tyName, tyB, tyKnown, isTy, tyBD, List.all_cons, List.all_nil, List.any_cons, List.any_nil, List.contains_cons, List.contains_nil, String.reduceBEq, Bool.true_or, Bool.or_true, Bool.false_or, Bool.or_false, Bool.true_and, Bool.and_true, Bool.false_and, Bool.and_false, cast_0, cast_1, cast_2, cast_3, two_le_size, zero_lt_size, one_lt_size, nodup_nilN, nodup_1, zero_le_size, atI_0, atI_1, atI_2, ixN_30, ixN_31, ixN_32, Option.some.injEq, List.cons.injEq, true_or, or_true, false_or, or_false, isI, hj]; rw [decide_eq_true hj, Bool.true_and] at k; exact k
      · simp (maxSteps := 2000000) only [↓dVar_ap, ↓dC_ap, ↓dEsc_ap, ↓dPure_ap, ↓dOp_ap, ↓dUn_ap, ↓dNil_ap, ↓dCons_ap, ↓hNil_ap, ↓hCons_ap, ↓dCB_ap, ↓dTup_ap, ↓dLst_ap, ↓dTest_ap, ↓dTru_ap, ↓dAnd_ap, ↓dOr_ap, ↓dNot_ap, ↓dAndV_ap, ↓dOrV_ap, ↓dNotV_ap, ↓dIf_ap, ↓mNil_ap, ↓mPu_ap, ↓mOw_ap, ↓gdName_ap, ↓gdNil_ap, ↓gdCons_ap, ↓gdSeq_ap, ↓dNext_ap, ↓dBreak_ap, ↓dCont_ap, ↓dNever_ap, ↓dDrop_ap, ↓dRet_ap, ↓dRetN_ap, ↓dRetV_ap, ↓dIfS_ap, ↓dAsg_ap, ↓dAsgN_ap, ↓dPar_ap, ↓dPar3_ap, ↓dParT_ap, ↓dIt_ap, ↓dItAny_ap, ↓dItA_ap, ↓dRng1_ap, ↓dRng2_ap, ↓dEnum_ap, ↓dZip_ap, ↓dFor_ap, ↓dWhile_ap, ↓dLc_ap, ↓dRepN_ap, ↓dCatN_ap, ↓dNoPart_ap, ↓dPart_ap, ↓dSl_ap, ↓dSlN_ap, ↓dChain_ap, ↓dListOf_ap, ↓dSortI_ap, ↓dApp_ap, ↓dExt_ap, ↓dSetI_ap, ↓dPop_ap, ↓dPopAt_ap, ↓kNil_ap, ↓kPu_ap, ↓kIo_ap, ↓dCall_ap, ↓kApp_ap, ↓kPerm_ap, ↓dYes_ap, ↓dZipM_ap, dEq, dNe, dEqA, dNeA, dAdd, dI, dI0, dMul, dIx, dIsN, dNotN, dIn, dLen, dInt1, dAbs, dMM, dSum, dMaxL, dMinL, dAll, dTupOf, dIsi, dStrI, dNeg, dSub, dDiv, dMod, dPow, dShl, dShr, dBand, dLt, dLe, dGt, dGe, dCallG, entryN, entry, slotsOf, putOuts, putL, Sl.put, ownL, resolve, look, slD, looks, Sl.ownd, forW, compW, wipeP, backP, D.bls, D.ints, kp, perm, List.filterMap_cons, List.filterMap_nil, List.getElem?_cons_zero, List.getElem?_cons_succ, List.getElem?_nil, List.set_cons_zero, List.set_cons_succ, List.length_cons, List.length_nil, List.replicate_succ, List.replicate_zero, List.append_nil, List.nil_append, List.cons_append, List.map_cons, List.map_nil, Option.bind_some, Option.map_some, Option.isSome_some, Nat.reduceAdd, Nat.reduceSub, Nat.zero_add, Option.bind, Option.map, ↓reduceIte, decide_eq_true_eq, decide_true, decide_false, Bool.false_eq_true, Bool.true_eq_false, Bool.not_true, Bool.not_false, Bool.not_eq_true, Bool.not_eq_false, reduceCtorEq, true_and, and_true, okEq_int, okEq_bl, okEq_non, okEq_ints, okEq_nil, eqv_int, eqv_bl, eqv_nil, List.map_eq_nil_iff, truD, D.isNon, tyName, tyB, tyKnown, isTy, tyBD, List.all_cons, List.all_nil, List.any_cons, List.any_nil, List.contains_cons, List.contains_nil, String.reduceBEq, Bool.true_or, Bool.or_true, Bool.false_or, Bool.or_false, Bool.true_and, Bool.and_true, Bool.false_and, Bool.and_false, cast_0, cast_1, cast_2, cast_3, two_le_size, zero_lt_size, one_lt_size, nodup_nilN, nodup_1, zero_le_size, atI_0, atI_1, atI_2, ixN_30, ixN_31, ixN_32, Option.some.injEq, List.cons.injEq, true_or, or_true, false_or, or_false, isI, hj]; rw [decide_eq_false hj, Bool.false_and] at k; exact k
  · simp (maxSteps := 2000000) only [↓dVar_ap, ↓dC_ap, ↓dEsc_ap, ↓dPure_ap, ↓dOp_ap, ↓dUn_ap, ↓dNil_ap, ↓dCons_ap, ↓hNil_ap, ↓hCons_ap, ↓dCB_ap, ↓dTup_ap, ↓dLst_ap, ↓dTest_ap, ↓dTru_ap, ↓dAnd_ap, ↓dOr_ap, ↓dNot_ap, ↓dAndV_ap, ↓dOrV_ap, ↓dNotV_ap, ↓dIf_ap, ↓mNil_ap, ↓mPu_ap, ↓mOw_ap, ↓gdName_ap, ↓gdNil_ap, ↓gdCons_ap, ↓gdSeq_ap, ↓dNext_ap, ↓dBreak_ap, ↓dCont_ap, ↓dNever_ap, ↓dDrop_ap, ↓dRet_ap, ↓dRetN_ap, ↓dRetV_ap, ↓dIfS_ap, ↓dAsg_ap, ↓dAsgN_ap, ↓dPar_ap, ↓dPar3_ap, ↓dParT_ap, ↓dIt_ap, ↓dItAny_ap, ↓dItA_ap, ↓dRng1_ap, ↓dRng2_ap, ↓dEnum_ap, ↓dZip_ap, ↓dFor_ap, ↓dWhile_ap, ↓dLc_ap, ↓dRepN_ap, ↓dCatN_ap, ↓dNoPart_ap, ↓dPart_ap, ↓dSl_ap, ↓dSlN_ap, ↓dChain_ap, ↓dListOf_ap, ↓dSortI_ap, ↓dApp_ap, ↓dExt_ap, ↓dSetI_ap, ↓dPop_ap, ↓dPopAt_ap, ↓kNil_ap, ↓kPu_ap, ↓kIo_ap, ↓dCall_ap, ↓kApp_ap, ↓kPerm_ap, ↓dYes_ap, ↓dZipM_ap, dEq, dNe, dEqA, dNeA, dAdd, dI, dI0, dMul, dIx, dIsN, dNotN, dIn, dLen, dInt1, dAbs, dMM, dSum, dMaxL, dMinL, dAll, dTupOf, dIsi, dStrI, dNeg, dSub, dDiv, dMod, dPow, dShl, dShr, dBand, dLt, dLe, dGt, dGe, dCallG, entryN, entry, slotsOf, putOuts, putL, Sl.put, ownL, resolve, look, slD, looks, Sl.ownd, forW, compW, wipeP, backP, D.bls, D.ints, kp, perm, List.filterMap_cons, List.filterMap_nil, List.getElem?_cons_zero, List.getElem?_cons_succ, List.getElem?_nil, List.set_cons_zero, List.set_cons_succ, List.length_cons, List.length_nil, List.replicate_succ, List.replicate_zero, List.append_nil, List.nil_append, List.cons_append, List.map_cons, List.map_nil, Option.bind_some, Option.map_some, Option.isSome_some, Nat.reduceAdd, Nat.reduceSub, Nat.zero_add, Option.bind, Option.map, ↓reduceIte, decide_eq_true_eq, decide_true, decide_false, Bool.false_eq_true, Bool.true_eq_false, Bool.not_true, Bool.not_false, Bool.not_eq_true, Bool.not_eq_false, reduceCtorEq, true_and, and_true, okEq_int, okEq_bl, okEq_non, okEq_ints, okEq_nil, eqv_int, eqv_bl, eqv_nil, List.map_eq_nil_iff, truD, D.isNon, tyName, tyB, tyKnown, isTy, tyBD, List.all_cons, List.all_nil, List.any_cons, List.any_nil, List.contains_cons, List.contains_nil, String.reduceBEq, Bool.true_or, Bool.or_true, Bool.false_or, Bool.or_false, Bool.true_and, Bool.and_true, Bool.false_and, Bool.and_false, cast_0, cast_1, cast_2, cast_3, two_le_size, zero_lt_size, one_lt_size, nodup_nilN, nodup_1, zero_le_size, atI_0, atI_1, atI_2, ixN_30, ixN_31, ixN_32, Option.some.injEq, List.cons.injEq, true_or, or_true, false_or, or_false, isI]; exact k
  · simp (maxSteps := 2000000) only [↓dVar_ap, ↓dC_ap, ↓dEsc_ap, ↓dPure_ap, ↓dOp_ap, ↓dUn_ap, ↓dNil_ap, ↓dCons_ap, ↓hNil_ap, ↓hCons_ap, ↓dCB_ap, ↓dTup_ap, ↓dLst_ap, ↓dTest_ap, ↓dTru_ap, ↓dAnd_ap, ↓dOr_ap, ↓dNot_ap, ↓dAndV_ap, ↓dOrV_ap, ↓dNotV_ap, ↓dIf_ap, ↓mNil_ap, ↓mPu_ap, ↓mOw_ap, ↓gdName_ap, ↓gdNil_ap, ↓gdCons_ap, ↓gdSeq_ap, ↓dNext_ap, ↓dBreak_ap, ↓dCont_ap, ↓dNever_ap, ↓dDrop_ap, ↓dRet_ap, ↓dRetN_ap, ↓dRetV_ap, ↓dIfS_ap, ↓dAsg_ap, ↓dAsgN_ap, ↓dPar_ap, ↓dPar3_ap, ↓dParT_ap, ↓dIt_ap, ↓dItAny_ap, ↓dItA_ap, ↓dRng1_ap, ↓dRng2_ap, ↓dEnum_ap, ↓dZip_ap, ↓dFor_ap, ↓dWhile_ap, ↓dLc_ap, ↓dRepN_ap, ↓dCatN_ap, ↓dNoPart_ap, ↓dPart_ap, ↓dSl_ap, ↓dSlN_ap, ↓dChain_ap, ↓dListOf_ap, ↓dSortI_ap, ↓dApp_ap, ↓dExt_ap, ↓dSetI_ap, ↓dPop_ap, ↓dPopAt_ap, ↓kNil_ap, ↓kPu_ap, ↓kIo_ap, ↓dCall_ap, ↓kApp_ap, ↓kPerm_ap, ↓dYes_ap, ↓dZipM_ap, dEq, dNe, dEqA, dNeA, dAdd, dI, dI0, dMul, dIx, dIsN, dNotN, dIn, dLen, dInt1, dAbs, dMM, dSum, dMaxL, dMinL, dAll, dTupOf, dIsi, dStrI, dNeg, dSub, dDiv, dMod, dPow, dShl, dShr, dBand, dLt, dLe, dGt, dGe, dCallG, entryN, entry, slotsOf, putOuts, putL, Sl.put, ownL, resolve, look, slD, looks, Sl.ownd, forW, compW, wipeP, backP, D.bls, D.ints, kp, perm, List.filterMap_cons, List.filterMap_nil, List.getElem?_cons_zero, List.getElem?_cons_succ, List.getElem?_nil, List.set_cons_zero, List.set_cons_succ, List.length_cons, List.length_nil, List.replicate_succ, List.replicate_zero, List.append_nil, List.nil_append, List.cons_append, List.map_cons, List.map_nil, Option.bind_some, Option.map_some, Option.isSome_some, Nat.reduceAdd, Nat.reduceSub, Nat.zero_add, Option.bind, Option.map, ↓reduceIte, decide_eq_true_eq, decide_true, decide_false, Bool.false_eq_true, Bool.true_eq_false, Bool.not_true, Bool.not_false, Bool.not_eq_true, Bool.not_eq_false, reduceCtorEq, true_and, and_true, okEq_int, okEq_bl, okEq_non, okEq_ints, okEq_nil, eqv_int, eqv_bl, eqv_nil, List.map_eq_nil_iff, truD, D.isNon, tyName, tyB, tyKnown, isTy, tyBD, List.all_cons, List.all_nil, List.any_cons, List.any_nil, List.contains_cons, List.contains_nil, String.reduceBEq, Bool.true_or, Bool.or_true, Bool.false_or, Bool.or_false, Bool.true_and, Bool.and_true, Bool.false_and, Bool.and_false, cast_0, cast_1, cast_2, cast_3, two_le_size, zero_lt_size, one_lt_size, nodup_nilN, nodup_1, zero_le_size, atI_0, atI_1, atI_2, ixN_30, ixN_31, ixN_32, Option.some.injEq, List.cons.injEq, true_or, or_true, false_or, or_false, isI]; exact k
  · simp (maxSteps := 2000000) only [↓dVar_ap, ↓dC_ap, ↓dEsc_ap, ↓dPure_ap, ↓dOp_ap, ↓dUn_ap, ↓dNil_ap, ↓dCons_ap, ↓hNil_ap, ↓hCons_ap, ↓dCB_ap, ↓dTup_ap, ↓dLst_ap, ↓dTest_ap, ↓dTru_ap, ↓dAnd_ap, ↓dOr_ap, ↓dNot_ap, ↓dAndV_ap, ↓dOrV_ap, ↓dNotV_ap, ↓dIf_ap, ↓mNil_ap, ↓mPu_ap, ↓mOw_ap, ↓gdName_ap, ↓gdNil_ap, ↓gdCons_ap, ↓gdSeq_ap, ↓dNext_ap, ↓dBreak_ap, ↓dCont_ap, ↓dNever_ap, ↓dDrop_ap, ↓dRet_ap, ↓dRetN_ap, ↓dRetV_ap, ↓dIfS_ap, ↓dAsg_ap, ↓dAsgN_ap, ↓dPar_ap, ↓dPar3_ap, ↓dParT_ap, ↓dIt_ap, ↓dItAny_ap, ↓dItA_ap, ↓dRng1_ap, ↓dRng2_ap, ↓dEnum_ap, ↓dZip_ap, ↓dFor_ap, ↓dWhile_ap, ↓dLc_ap, ↓dRepN_ap, ↓dCatN_ap, ↓dNoPart_ap, ↓dPart_ap, ↓dSl_ap, ↓dSlN_ap, ↓dChain_ap, ↓dListOf_ap, ↓dSortI_ap, ↓dApp_ap, ↓dExt_ap, ↓dSetI_ap, ↓dPop_ap, ↓dPopAt_ap, ↓kNil_ap, ↓kPu_ap, ↓kIo_ap, ↓dCall_ap, ↓kApp_ap, ↓kPerm_ap, ↓dYes_ap, ↓dZipM_ap, dEq, dNe, dEqA, dNeA, dAdd, dI, dI0, dMul, dIx, dIsN, dNotN, dIn, dLen, dInt1, dAbs, dMM, dSum, dMaxL, dMinL, dAll, dTupOf, dIsi, dStrI, dNeg, dSub, dDiv, dMod, dPow, dShl, dShr, dBand, dLt, dLe, dGt, dGe, dCallG, entryN, entry, slotsOf, putOuts, putL, Sl.put, ownL, resolve, look, slD, looks, Sl.ownd, forW, compW, wipeP, backP, D.bls, D.ints, kp, perm, List.filterMap_cons, List.filterMap_nil, List.getElem?_cons_zero, List.getElem?_cons_succ, List.getElem?_nil, List.set_cons_zero, List.set_cons_succ, List.length_cons, List.length_nil, List.replicate_succ, List.replicate_zero, List.append_nil, List.nil_append, List.cons_append, List.map_cons, List.map_nil, Option.bind_some, Option.map_some, Option.isSome_some, Nat.reduceAdd, Nat.reduceSub, Nat.zero_add, Option.bind, Option.map, ↓reduceIte, decide_eq_true_eq, decide_true, decide_false, Bool.false_eq_true, Bool.true_eq_false, Bool.not_true, Bool.not_false, Bool.not_eq_true, Bool.not_eq_false, reduceCtorEq, true_and, and_true, okEq_int, okEq_bl, okEq_non, okEq_ints, okEq_nil, eqv_int, eqv_bl, eqv_nil, List.map_eq_nil_iff, truD, D.isNon, tyName, tyB, tyKnown, isTy, tyBD, List.all_cons, List.all_nil, List.any_cons, List.any_nil, List.contains_cons, List.contains_nil, String.reduceBEq, Bool.true_or, Bool.or_true, Bool.false_or, Bool.or_false, Bool.true_and, Bool.and_true, Bool.false_and, Bool.and_false, cast_0, cast_1, cast_2, cast_3, two_le_size, zero_lt_size, one_lt_size, nodup_nilN, nodup_1, zero_le_size, atI_0, atI_1, atI_2, ixN_30, ixN_31, ixN_32, Option.some.injEq, List.cons.injEq, true_or, or_true, false_or, or_false, isI]; exact k
  · simp (maxSteps := 2000000) only [↓dVar_ap, ↓dC_ap, ↓dEsc_ap, ↓dPure_ap, ↓dOp_ap, ↓dUn_ap, ↓dNil_ap, ↓dCons_ap, ↓hNil_ap, ↓hCons_ap, ↓dCB_ap, ↓dTup_ap, ↓dLst_ap, ↓dTest_ap, ↓dTru_ap, ↓dAnd_ap, ↓dOr_ap, ↓dNot_ap, ↓dAndV_ap, ↓dOrV_ap, ↓dNotV_ap, ↓dIf_ap, ↓mNil_ap, ↓mPu_ap, ↓mOw_ap, ↓gdName_ap, ↓gdNil_ap, ↓gdCons_ap, ↓gdSeq_ap, ↓dNext_ap, ↓dBreak_ap, ↓dCont_ap, ↓dNever_ap, ↓dDrop_ap, ↓dRet_ap, ↓dRetN_ap, ↓dRetV_ap, ↓dIfS_ap, ↓dAsg_ap, ↓dAsgN_ap, ↓dPar_ap, ↓dPar3_ap, ↓dParT_ap, ↓dIt_ap, ↓dItAny_ap, ↓dItA_ap, ↓dRng1_ap, ↓dRng2_ap, ↓dEnum_ap, ↓dZip_ap, ↓dFor_ap, ↓dWhile_ap, ↓dLc_ap, ↓dRepN_ap, ↓dCatN_ap, ↓dNoPart_ap, ↓dPart_ap, ↓dSl_ap, ↓dSlN_ap, ↓dChain_ap, ↓dListOf_ap, ↓dSortI_ap, ↓dApp_ap, ↓dExt_ap, ↓dSetI_ap, ↓dPop_ap, ↓dPopAt_ap, ↓kNil_ap, ↓kPu_ap, ↓kIo_ap, ↓dCall_ap, ↓kApp_ap, ↓kPerm_ap, ↓dYes_ap, ↓dZipM_ap, dEq, dNe, dEqA, dNeA, dAdd, dI, dI0, dMul, dIx, dIsN, dNotN, dIn, dLen, dInt1, dAbs, dMM, dSum, dMaxL, dMinL, dAll, dTupOf, dIsi, dStrI, dNeg, dSub, dDiv, dMod, dPow, dShl, dShr, dBand, dLt, dLe, dGt, dGe, dCallG, entryN, entry, slotsOf, putOuts, putL, Sl.put, ownL, resolve, look, slD, looks, Sl.ownd, forW, compW, wipeP, backP, D.bls, D.ints, kp, perm, List.filterMap_cons, List.filterMap_nil, List.getElem?_cons_zero, List.getElem?_cons_succ, List.getElem?_nil, List.set_cons_zero, List.set_cons_succ, List.length_cons, List.length_nil, List.replicate_succ, List.replicate_zero, List.append_nil, List.nil_append, List.cons_append, List.map_cons, List.map_nil, Option.bind_some, Option.map_some, Option.isSome_some, Nat.reduceAdd, Nat.reduceSub, Nat.zero_add, Option.bind, Option.map, ↓reduceIte, decide_eq_true_eq, decide_true, decide_false, Bool.false_eq_true, Bool.true_eq_false, Bool.not_true, Bool.not_false, Bool.not_eq_true, Bool.not_eq_false, reduceCtorEq, true_and, and_true, okEq_int, okEq_bl, okEq_non, okEq_ints, okEq_nil, eqv_int, eqv_bl, eqv_nil, List.map_eq_nil_iff, truD, D.isNon, tyName, tyB, tyKnown, isTy, tyBD, List.all_cons, List.all_nil, List.any_cons, List.any_nil, List.contains_cons, List.contains_nil, String.reduceBEq, Bool.true_or, Bool.or_true, Bool.false_or, Bool.or_false, Bool.true_and, Bool.and_true, Bool.false_and, Bool.and_false, cast_0, cast_1, cast_2, cast_3, two_le_size, zero_lt_size, one_lt_size, nodup_nilN, nodup_1, zero_le_size, atI_0, atI_1, atI_2, ixN_30, ixN_31, ixN_32, Option.some.injEq, List.cons.injEq, true_or, or_true, false_or, or_false, isI]; exact k
theorem st_name {Dd : DEnds} {x0 x1 x2 x4 x5 x6 x7 x8 x9 x10 x12 : Sl} {v : D} (hv : Val v) (k : Dd.nx [x0, x1, x2, .pu v, x4, x5, x6, x7, .pu (.bl (isN v)), x9, x10, .un, x12]) :
    (dAsg (dEsc (dAndV (dCB dIsi (hCons (dVar 3) (hCons (dC (.ty "str")) hNil))) (dAndV (dChain dLt dLt (dC (.int 0)) (dCB dLen (hCons (dVar 3) hNil)) (dC (.int 61))) (dOp dEqA (dPure (dLc (dItA 3) (gdName 11) (dAnd (dTest (dOp dNeA (dVar 11) (dC (.str "0")))) (dTest (dOp dNeA (dVar 11) (dC (.str "1"))))) (dEsc (dVar 11)) [11])) (dPure (dLst dNil)))))) (gdName 8)) Dd [x0, x1, x2, .pu v, x4, x5, x6, x7, x8, x9, x10, .un, x12] := by
  rcases hv with rfl | ⟨b, rfl⟩ | ⟨i, rfl⟩ | ⟨z, rfl, hz⟩ | ⟨l, rfl | rfl, _⟩ | ⟨ks, ds, rfl⟩
  · simp (maxSteps := 2000000) only [↓dVar_ap, ↓dC_ap, ↓dEsc_ap, ↓dPure_ap, ↓dOp_ap, ↓dUn_ap, ↓dNil_ap, ↓dCons_ap, ↓hNil_ap, ↓hCons_ap, ↓dCB_ap, ↓dTup_ap, ↓dLst_ap, ↓dTest_ap, ↓dTru_ap, ↓dAnd_ap, ↓dOr_ap, ↓dNot_ap, ↓dAndV_ap, ↓dOrV_ap, ↓dNotV_ap, ↓dIf_ap, ↓mNil_ap, ↓mPu_ap, ↓mOw_ap, ↓gdName_ap, ↓gdNil_ap, ↓gdCons_ap, ↓gdSeq_ap, ↓dNext_ap, ↓dBreak_ap, ↓dCont_ap, ↓dNever_ap, ↓dDrop_ap, ↓dRet_ap, ↓dRetN_ap, ↓dRetV_ap, ↓dIfS_ap, ↓dAsg_ap, ↓dAsgN_ap, ↓dPar_ap, ↓dPar3_ap, ↓dParT_ap, ↓dIt_ap, ↓dItAny_ap, ↓dItA_ap, ↓dRng1_ap, ↓dRng2_ap, ↓dEnum_ap, ↓dZip_ap, ↓dFor_ap, ↓dWhile_ap, ↓dLc_ap, ↓dRepN_ap, ↓dCatN_ap, ↓dNoPart_ap, ↓dPart_ap, ↓dSl_ap, ↓dSlN_ap, ↓dChain_ap, ↓dListOf_ap, ↓dSortI_ap, ↓dApp_ap, ↓dExt_ap, ↓dSetI_ap, ↓dPop_ap, ↓dPopAt_ap, ↓kNil_ap, ↓kPu_ap, ↓kIo_ap, ↓dCall_ap, ↓kApp_ap, ↓kPerm_ap, ↓dYes_ap, ↓dZipM_ap, dEq, dNe, dEqA, dNeA, dAdd, dI, dI0, dMul, dIx, dIsN, dNotN, dIn, dLen, dInt1, dAbs, dMM, dSum, dMaxL, dMinL, dAll, dTupOf, dIsi, dStrI, dNeg, dSub, dDiv, dMod, dPow, dShl, dShr, dBand, dLt, dLe, dGt, dGe, dCallG, entryN, entry, slotsOf, putOuts, putL, Sl.put, ownL, resolve, look, slD, looks, Sl.ownd, forW, compW, wipeP, backP, D.bls, D.ints, kp, perm, List.filterMap_cons, List.filterMap_nil, List.getElem?_cons_zero, List.getElem?_cons_succ, List.getElem?_nil, List.set_cons_zero, List.set_cons_succ, List.length_cons, List.length_nil, List.replicate_succ, List.replicate_zero, List.append_nil, List.nil_append, List.cons_append, List.map_cons, List.map_nil, Option.bind_some, Option.map_some, Option.isSome_some, Nat.reduceAdd, Nat.reduceSub, Nat.zero_add, Option.bind, Option.map, ↓reduceIte, decide_eq_true_eq, decide_true, decide_false, Bool.false_eq_true, Bool.true_eq_false, Bool.not_true, Bool.not_false, Bool.not_eq_true, Bool.not_eq_false, reduceCtorEq, true_and, and_true, okEq_int, okEq_bl, okEq_non, okEq_ints, okEq_nil, eqv_int, eqv_bl, eqv_nil, List.map_eq_nil_iff, truD, D.isNon, tyName, tyB, tyKnown, isTy, tyBD, List.all_cons, List.all_nil, List.any_cons, List.any_nil, List.contains_cons, List.contains_nil, String.reduceBEq, Bool.true_or, Bool.or_true, Bool.false_or, Bool.or_false, Bool.true_and, Bool.and_true, Bool.false_and, Bool.and_false, cast_0, cast_1, cast_2, cast_3, two_le_size, zero_lt_size, one_lt_size, nodup_nilN, nodup_1, zero_le_size, atI_0, atI_1, atI_2, ixN_30, ixN_31, ixN_32, Option.some.injEq, List.cons.injEq, true_or, or_true, false_or, or_false]; exact k
  · simp (maxSteps := 2000000) only [↓dVar_ap, ↓dC_ap, ↓dEsc_ap, ↓dPure_ap, ↓dOp_ap, ↓dUn_ap, ↓dNil_ap, ↓dCons_ap, ↓hNil_ap, ↓hCons_ap, ↓dCB_ap, ↓dTup_ap, ↓dLst_ap, ↓dTest_ap, ↓dTru_ap, ↓dAnd_ap, ↓dOr_ap, ↓dNot_ap, ↓dAndV_ap, ↓dOrV_ap, ↓dNotV_ap, ↓dIf_ap, ↓mNil_ap, ↓mPu_ap, ↓mOw_ap, ↓gdName_ap, ↓gdNil_ap, ↓gdCons_ap, ↓gdSeq_ap, ↓dNext_ap, ↓dBreak_ap, ↓dCont_ap, ↓dNever_ap, ↓dDrop_ap, ↓dRet_ap, ↓dRetN_ap, ↓dRetV_ap, ↓dIfS_ap, ↓dAsg_ap, ↓dAsgN_ap, ↓dPar_ap, ↓dPar3_ap, ↓dParT_ap, ↓dIt_ap, ↓dItAny_ap, ↓dItA_ap, ↓dRng1_ap, ↓dRng2_ap, ↓dEnum_ap, ↓dZip_ap, ↓dFor_ap, ↓dWhile_ap, ↓dLc_ap, ↓dRepN_ap, ↓dCatN_ap, ↓dNoPart_ap, ↓dPart_ap, ↓dSl_ap, ↓dSlN_ap, ↓dChain_ap, ↓dListOf_ap, ↓dSortI_ap, ↓dApp_ap, ↓dExt_ap, ↓dSetI_ap, ↓dPop_ap, ↓dPopAt_ap, ↓kNil_ap, ↓kPu_ap, ↓kIo_ap, ↓dCall_ap, ↓kApp_ap, ↓kPerm_ap, ↓dYes_ap, ↓dZipM_ap, dEq, dNe, dEqA, dNeA, dAdd, dI, dI0, dMul, dIx, dIsN, dNotN, dIn, dLen, dInt1, dAbs, dMM, dSum, dMaxL, dMinL, dAll, dTupOf, dIsi, dStrI, dNeg, dSub, dDiv, dMod, dPow, dShl, dShr, dBand, dLt, dLe, dGt, dGe, dCallG, entryN, entry, slotsOf, putOuts, putL, Sl.put, ownL, resolve, look, slD, looks, Sl.ownd, forW, compW, wipeP, backP, D.bls, D.ints, kp, perm, List.filterMap_cons, List.filterMap_nil, List.getElem?_cons_zero, List.getElem?_cons_succ, List.getElem?_nil, List.set_cons_zero, List.set_cons_succ, List.length_cons, List.length_nil, List.replicate_succ, List.replicate_zero, List.append_nil, List.nil_append, List.cons_append, List.map_cons, List.map_nil, Option.bind_some, Option.map_some, Option.isSome_some, Nat.reduceAdd, Nat.reduceSub, Nat.zero_add, Option.bind, Option.map, ↓reduceIte, decide_eq_true_eq, decide_true, decide_false, Bool.false_eq_true, Bool.true_eq_false, Bool.not_true, Bool.not_false, Bool.not_eq_true, Bool.not_eq_false, reduceCtorEq, true_and, and_true, okEq_int, okEq_bl, okEq_non, okEq_ints, okEq_nil, eqv_int, eqv_bl, eqv_nil, List.map_eq_nil_iff, truD, D.isNon, tyName, tyB, tyKnown, isTy, tyBD, List.all_cons, List.all_nil, List.any_cons, List.any_nil, List.contains_cons, List.contains_nil, String.reduceBEq, Bool.true_or, Bool.or_true, Bool.false_or, Bool.or_false, Bool.true_and, Bool.and_true, Bool.false_and, Bool.and_false, cast_0, cast_1, cast_2, cast_3, two_le_size, zero_lt_size, one_lt_size, nodup_nilN, nodup_1, zero_le_size, atI_0, atI_1, atI_2, ixN_30, ixN_31, ixN_32, Option.some.injEq, List.cons.injEq, true_or, or_true, false_or, or_false]; exact k
  · simp (maxSteps := 2000000) only [↓dVar_ap, ↓dC_ap, ↓dEsc_ap, ↓dPure_ap, ↓dOp_ap, ↓dUn_ap, ↓dNil_ap, ↓dCons_ap, ↓hNil_ap, ↓hCons_ap, ↓dCB_ap, ↓dTup_ap, ↓dLst_ap, ↓dTest_ap, ↓dTru_ap, ↓dAnd_ap, ↓dOr_ap, ↓dNot_ap, ↓dAndV_ap, ↓dOrV_ap, ↓dNotV_ap, ↓dIf_ap, ↓mNil_ap, ↓mPu_ap, ↓mOw_ap, ↓gdName_ap, ↓gdNil_ap, ↓gdCons_ap, ↓gdSeq_ap, ↓dNext_ap, ↓dBreak_ap, ↓dCont_ap, ↓dNever_ap, ↓dDrop_ap, ↓dRet_ap, ↓dRetN_ap, ↓dRetV_ap, ↓dIfS_ap, ↓dAsg_ap, ↓dAsgN_ap, ↓dPar_ap, ↓dPar3_ap, ↓dParT_ap, ↓dIt_ap, ↓dItAny_ap, ↓dItA_ap, ↓dRng1_ap, ↓dRng2_ap, ↓dEnum_ap, ↓dZip_ap, ↓dFor_ap, ↓dWhile_ap, ↓dLc_ap, ↓dRepN_ap, ↓dCatN_ap, ↓dNoPart_ap, ↓dPart_ap, ↓dSl_ap, ↓dSlN_ap, ↓dChain_ap, ↓dListOf_ap, ↓dSortI_ap, ↓dApp_ap, ↓dExt_ap, ↓dSetI_ap, ↓dPop_ap, ↓dPopAt_ap, ↓kNil_ap, ↓kPu_ap, ↓kIo_ap, ↓dCall_ap, ↓kApp_ap, ↓kPerm_ap, ↓dYes_ap, ↓dZipM_ap, dEq, dNe, dEqA, dNeA, dAdd, dI, dI0, dMul, dIx, dIsN, dNotN, dIn, dLen, dInt1, dAbs, dMM, dSum, dMaxL, dMinL, dAll, dTupOf, dIsi, dStrI, dNeg, dSub, dDiv, dMod, dPow, dShl, dShr, dBand, dLt, dLe, dGt, dGe, dCallG, entryN, entry, slotsOf, putOuts, putL, Sl.put, ownL, resolve, look, slD, looks, Sl.ownd, forW, compW, wipeP, backP, D.bls, D.ints, kp, perm, List.filterMap_cons, List.filterMap_nil, List.getElem?_cons_zero, List.getElem?_cons_succ, List.getElem?_nil, List.set_cons_zero, List.set_cons_succ, List.length_cons, List.length_nil, List.replicate_succ, List.replicate_zero, List.append_nil, List.nil_append, List.cons_append, List.map_cons, List.map_nil, Option.bind_some, Option.map_some, Option.isSome_some, Nat.reduceAdd, Nat.reduceSub, Nat.zero_add, Option.bind, Option.map, ↓reduceIte, decide_eq_true_eq, decide_true, decide_false, Bool.false_eq_true, Bool.true_eq_false, Bool.not_true, Bool.not_false, Bool.not_eq_true, Bool.not_eq_false, reduceCtorEq, true_and, and_true, okEq_int, okEq_bl, okEq_non, okEq_ints, okEq_nil, eqv_int, eqv_bl, eqv_nil, List.map_eq_nil_iff, truD, D.isNon, tyName, tyB, tyKnown, isTy, tyBD, List.all_cons, List.all_nil, List.any_cons, List.any_nil, List.contains_cons, List.contains_nil, String.reduceBEq, Bool.true_or, Bool.or_true, Bool.false_or, Bool.or_false, Bool.true_and, Bool.and_true, Bool.false_and, Bool.and_false, cast_0, cast_1, cast_2, cast_3, two_le_size, zero_lt_size, one_lt_size, nodup_nilN, nodup_1, zero_le_size, atI_0, atI_1, atI_2, ixN_30, ixN_31, ixN_32, Option.some.injEq, List.cons.injEq, true_or, or_true, false_or, or_false]; exact k
  · have hzs : z.length ≤ sizeLine := Nat.le_trans hz.1 (lt_size (by decide))
    by_cases g1 : (0 : Int) < ((z.length : Nat) : Int)
    · by_cases g2 : ((z.length : Nat) : Int) < 61
      · simp (maxSteps := 2000000) only [↓dVar_ap, ↓dC_ap, ↓dEsc_ap, ↓dPure_ap, ↓dOp_ap, ↓dUn_ap, ↓dNil_ap, ↓dCons_ap, ↓hNil_ap, ↓hCons_ap, ↓dCB_ap, ↓dTup_ap, ↓dLst_ap, ↓dTest_ap, ↓dTru_ap, ↓dAnd_ap, ↓dOr_ap, ↓dNot_ap, ↓dAndV_ap, ↓dOrV_ap, ↓dNotV_ap, ↓dIf_ap, ↓mNil_ap, ↓mPu_ap, ↓mOw_ap, ↓gdName_ap, ↓gdNil_ap, ↓gdCons_ap, ↓gdSeq_ap, ↓dNext_ap, ↓dBreak_ap, ↓dCont_ap, ↓dNever_ap, ↓dDrop_ap, ↓dRet_ap, ↓dRetN_ap, ↓dRetV_ap, ↓dIfS_ap, ↓dAsg_ap, ↓dAsgN_ap, ↓dPar_ap, ↓dPar3_ap, ↓dParT_ap, ↓dIt_ap, ↓dItAny_ap, ↓dItA_ap, ↓dRng1_ap, ↓dRng2_ap, ↓dEnum_ap, ↓dZip_ap, ↓dFor_ap, ↓dWhile_ap, ↓dLc_ap, ↓dRepN_ap, ↓dCatN_ap, ↓dNoPart_ap, ↓dPart_ap, ↓dSl_ap, ↓dSlN_ap, ↓dChain_ap, ↓dListOf_ap, ↓dSortI_ap, ↓dApp_ap, ↓dExt_ap, ↓dSetI_ap, ↓dPop_ap, ↓dPopAt_ap, ↓kNil_ap, ↓kPu_ap, ↓kIo_ap, ↓dCall_ap, ↓kApp_ap, ↓kPerm_ap, ↓dYes_ap, ↓dZipM_ap, dEq, dNe, dEqA, dNeA, dAdd, dI, dI0, dMul, dIx, dIsN, dNotN, dIn, dLen, dInt1, dAbs, dMM, dSum, dMaxL, dMinL, dAll, dTupOf, dIsi, dStrI, dNeg, dSub, dDiv, dMod, dPow, dShl, dShr, dBand, dLt, dLe, dGt, dGe, dCallG, entryN, entry, slotsOf, putOuts, putL, Sl.put, ownL, resolve, look, slD, looks, Sl.ownd, forW, compW, wipeP, backP, D.bls, D.ints, kp, perm, List.filterMap_cons, List.filterMap_nil, List.getElem?_cons_zero, List.getElem?_cons_succ, List.getElem?_nil, List.set_cons_zero, List.set_cons_succ, List.length_cons, List.length_nil, List.replicate_succ, List.replicate_zero, List.append_nil, List.nil_append, List.cons_append, List.map_cons, List.map_nil, Option.bind_some, Option.map_some, Option.isSome_some, Nat.reduceAdd, Nat.reduceSub, Nat.zero_add, Option.bind, Option.map, ↓reduceIte, decide_eq_true_eq, decide_true, decide_false, Bool.false_eq_true, Bool.true_eq_false, Bool.not_true, Bool.not_false, Bool.not_eq_true, Bool.not_eq_false, reduceCtorEq, true_and, and_true, okEq_int, okEq_bl, okEq_non, okEq_ints, okEq_nil, eqv_int, eqv_bl, eqv_nil, List.map_eq_nil_iff, truD, D.isNon, tyName, tyB, tyKnown, isTy, tyBD, List.all_cons, List.all_nil, List.any_cons, List.any_nil, List.contains_cons, List.contains_nil, String.reduceBEq, Bool.true_or, Bool.or_true, Bool.false_or, Bool.or_false, Bool.true_and, Bool.and_true, Bool.false_and, Bool.and_false, cast_0, cast_1, cast_2, cast_3, two_le_size, zero_lt_size, one_lt_size, nodup_nilN, nodup_1, zero_le_size, atI_0, atI_1, atI_2, ixN_30, ixN_31, ixN_32, Option.some.injEq, List.cons.injEq, true_or, or_true, false_or, or_false, hzs, g1, g2]
        unfold Z.signs
        refine compW_st _ (fun pre acc ps => acc = (pre.filter fun n => !sign01 n).map (fun n => D.str ⟨#[n]⟩) ∧ ps = [x0, x1, x2, .pu (.str z), x4, x5, x6, x7, x8, x9, x10, .un, x12]) z.cps.toList _ ⟨rfl, rfl⟩ ?_ ?_
        · rintro n pre acc R ps hn hlt ⟨rfl, rfl⟩ kk
          have hlen : ((pre.filter fun n => !sign01 n).map (fun n => D.str ⟨#[n]⟩)).length < sizeLine := by
            rw [List.length_map]
            have a1 := List.length_filter_le (fun n => !sign01 n) pre
            have a2 : z.cps.toList.length = z.length := Array.length_toList
            have a3 := hz.1
            have a4 : sizeLine = 16777216 := by decide
            omega
          by_cases m1 : n = 48
          · simp (maxSteps := 2000000) only [↓dVar_ap, ↓dC_ap, ↓dEsc_ap, ↓dPure_ap, ↓dOp_ap, ↓dUn_ap, ↓dNil_ap, ↓dCons_ap, ↓hNil_ap, ↓hCons_ap, ↓dCB_ap, ↓dTup_ap, ↓dLst_ap, ↓dTest_ap, ↓dTru_ap, ↓dAnd_ap, ↓dOr_ap, ↓dNot_ap, ↓dAndV_ap, ↓dOrV_ap, ↓dNotV_ap, ↓dIf_ap, ↓mNil_ap, ↓mPu_ap, ↓mOw_ap, ↓gdName_ap, ↓gdNil_ap, ↓gdCons_ap, ↓gdSeq_ap, ↓dNext_ap, ↓dBreak_ap, ↓dCont_ap, ↓dNever_ap, ↓dDrop_ap, ↓dRet_ap, ↓dRetN_ap, ↓dRetV_ap, ↓dIfS_ap, ↓dAsg_ap, ↓dAsgN_ap, ↓dPar_ap, ↓dPar3_ap, ↓dParT_ap, ↓dIt_ap, ↓dItAny_ap, ↓dItA_ap, ↓dRng1_ap, ↓dRng2_ap, ↓dEnum_ap, ↓dZip_ap, ↓dFor_ap, ↓dWhile_ap, ↓dLc_ap, ↓dRepN_ap, ↓dCatN_ap, ↓dNoPart_ap, ↓dPart_ap, ↓dSl_ap, ↓dSlN_ap, ↓dChain_ap, ↓dListOf_ap, ↓dSortI_ap, ↓dApp_ap, ↓dExt_ap, ↓dSetI_ap, ↓dPop_ap, ↓dPopAt_ap, ↓kNil_ap, ↓kPu_ap, ↓kIo_ap, ↓dCall_ap, ↓kApp_ap, ↓kPerm_ap, ↓dYes_ap, ↓dZipM_ap, dEq, dNe, dEqA, dNeA, dAdd, dI, dI0, dMul, dIx, dIsN, dNotN, dIn, dLen, dInt1, dAbs, dMM, dSum, dMaxL, dMinL, dAll, dTupOf, dIsi, dStrI, dNeg, dSub, dDiv, dMod, dPow, dShl, dShr, dBand, dLt, dLe, dGt, dGe, dCallG, entryN, entry, slotsOf, putOuts, putL, Sl.put, ownL, resolve, look, slD, looks, Sl.ownd, forW, compW, wipeP, backP, D.bls, D.ints, kp, perm, List.filterMap_cons, List.filterMap_nil, List.getElem?_cons_zero, List.getElem?_cons_succ, List.getElem?_nil, List.set_cons_zero, List.set_cons_succ, List.length_cons, List.length_nil, List.replicate_succ, List.replicate_zero, List.append_nil, List.nil_append, List.cons_append, List.map_cons, List.map_nil, Option.bind_some, Option.map_some, Option.isSome_some, Nat.reduceAdd, Nat.reduceSub, Nat.zero_add, Option.bind, Option.map, ↓reduceIte, decide_eq_true_eq, decide_true, decide_false, Bool.false_eq_true, Bool.true_eq_false, Bool.not_true, Bool.not_false, Bool.not_eq_true, Bool.not_eq_false, reduceCtorEq, true_and, and_true, okEq_int, okEq_bl, okEq_non, okEq_ints, okEq_nil, eqv_int, eqv_bl, eqv_nil, List.map_eq_nil_iff, truD, D.isNon, tyName, tyB, tyKnown, isTy, tyBD, List.all_cons, List.all_nil, List.any_cons, List.any_nil, List.contains_cons, List.contains_nil, String.reduceBEq, Bool.true_or, Bool.or_true, Bool.false_or, Bool.or_false, Bool.true_and, Bool.and_true, Bool.false_and, Bool.and_false, cast_0, cast_1, cast_2, cast_3, two_le_size, zero_lt_size, one_lt_size, nodup_nilN, nodup_1, zero_le_size, atI_0, atI_1, atI_2, ixN_30, ixN_31, ixN_32, Option.some.injEq, List.cons.injEq, true_or, or_true, false_or, or_false, (sg_eq n).1, m1]
            refine kk _ _ ⟨?_, rfl⟩
            rw [List.filter_append, m1]; simp [sign01]
          · by_cases m2 : n = 49
            · simp (maxSteps := 2000000) only [↓dVar_ap, ↓dC_ap, ↓dEsc_ap, ↓dPure_ap, ↓dOp_ap, ↓dUn_ap, ↓dNil_ap, ↓dCons_ap, ↓hNil_ap, ↓hCons_ap, ↓dCB_ap, ↓dTup_ap, ↓dLst_ap, ↓dTest_ap, ↓dTru_ap, ↓dAnd_ap, ↓dOr_ap, ↓dNot_ap, ↓dAndV_ap, ↓dOrV_ap, ↓dNotV_ap, ↓dIf_ap, ↓mNil_ap, ↓mPu_ap, ↓mOw_ap, ↓gdName_ap, ↓gdNil_ap, ↓gdCons_ap, ↓gdSeq_ap, ↓dNext_ap, ↓dBreak_ap, ↓dCont_ap, ↓dNever_ap, ↓dDrop_ap, ↓dRet_ap, ↓dRetN_ap, ↓dRetV_ap, ↓dIfS_ap, ↓dAsg_ap, ↓dAsgN_ap, ↓dPar_ap, ↓dPar3_ap, ↓dParT_ap, ↓dIt_ap, ↓dItAny_ap, ↓dItA_ap, ↓dRng1_ap, ↓dRng2_ap, ↓dEnum_ap, ↓dZip_ap, ↓dFor_ap, ↓dWhile_ap, ↓dLc_ap, ↓dRepN_ap, ↓dCatN_ap, ↓dNoPart_ap, ↓dPart_ap, ↓dSl_ap, ↓dSlN_ap, ↓dChain_ap, ↓dListOf_ap, ↓dSortI_ap, ↓dApp_ap, ↓dExt_ap, ↓dSetI_ap, ↓dPop_ap, ↓dPopAt_ap, ↓kNil_ap, ↓kPu_ap, ↓kIo_ap, ↓dCall_ap, ↓kApp_ap, ↓kPerm_ap, ↓dYes_ap, ↓dZipM_ap, dEq, dNe, dEqA, dNeA, dAdd, dI, dI0, dMul, dIx, dIsN, dNotN, dIn, dLen, dInt1, dAbs, dMM, dSum, dMaxL, dMinL, dAll, dTupOf, dIsi, dStrI, dNeg, dSub, dDiv, dMod, dPow, dShl, dShr, dBand, dLt, dLe, dGt, dGe, dCallG, entryN, entry, slotsOf, putOuts, putL, Sl.put, ownL, resolve, look, slD, looks, Sl.ownd, forW, compW, wipeP, backP, D.bls, D.ints, kp, perm, List.filterMap_cons, List.filterMap_nil, List.getElem?_cons_zero, List.getElem?_cons_succ, List.getElem?_nil, List.set_cons_zero, List.set_cons_succ, List.length_cons, List.length_nil, List.replicate_succ, List.replicate_zero, List.append_nil, List.nil_append, List.cons_append, List.map_cons, List.map_nil, Option.bind_some, Option.map_some, Option.isSome_some, Nat.reduceAdd, Nat.reduceSub, Nat.zero_add, Option.bind, Option.map, ↓reduceIte, decide_eq_true_eq, decide_true, decide_false, Bool.false_eq_true, Bool.true_eq_false, Bool.not_true, Bool.not_false, Bool.not_eq_true, Bool.not_eq_false, reduceCtorEq, true_and, and_true, okEq_int, okEq_bl, okEq_non, okEq_ints, okEq_nil, eqv_int, eqv_bl, eqv_nil, List.map_eq_nil_iff, truD, D.isNon, tyName, tyB, tyKnown, isTy, tyBD, List.all_cons, List.all_nil, List.any_cons, List.any_nil, List.contains_cons, List.contains_nil, String.reduceBEq, Bool.true_or, Bool.or_true, Bool.false_or, Bool.or_false, Bool.true_and, Bool.and_true, Bool.false_and, Bool.and_false, cast_0, cast_1, cast_2, cast_3, two_le_size, zero_lt_size, one_lt_size, nodup_nilN, nodup_1, zero_le_size, atI_0, atI_1, atI_2, ixN_30, ixN_31, ixN_32, Option.some.injEq, List.cons.injEq, true_or, or_true, false_or, or_false, (sg_eq n).1, (sg_eq n).2, m1, m2]
              refine kk _ _ ⟨?_, rfl⟩
              rw [List.filter_append, m2]; simp [sign01]
            · simp (maxSteps := 2000000) only [↓dVar_ap, ↓dC_ap, ↓dEsc_ap, ↓dPure_ap, ↓dOp_ap, ↓dUn_ap, ↓dNil_ap, ↓dCons_ap, ↓hNil_ap, ↓hCons_ap, ↓dCB_ap, ↓dTup_ap, ↓dLst_ap, ↓dTest_ap, ↓dTru_ap, ↓dAnd_ap, ↓dOr_ap, ↓dNot_ap, ↓dAndV_ap, ↓dOrV_ap, ↓dNotV_ap, ↓dIf_ap, ↓mNil_ap, ↓mPu_ap, ↓mOw_ap, ↓gdName_ap, ↓gdNil_ap, ↓gdCons_ap, ↓gdSeq_ap, ↓dNext_ap, ↓dBreak_ap, ↓dCont_ap, ↓dNever_ap, ↓dDrop_ap, ↓dRet_ap, ↓dRetN_ap, ↓dRetV_ap, ↓dIfS_ap, ↓dAsg_ap, ↓dAsgN_ap, ↓dPar_ap, ↓dPar3_ap, ↓dParT_ap, ↓dIt_ap, ↓dItAny_ap, ↓dItA_ap, ↓dRng1_ap, ↓dRng2_ap, ↓dEnum_ap, ↓dZip_ap, ↓dFor_ap, ↓dWhile_ap, ↓dLc_ap, ↓dRepN_ap, ↓dCatN_ap, ↓dNoPart_ap, ↓dPart_ap, ↓dSl_ap, ↓dSlN_ap, ↓dChain_ap, ↓dListOf_ap, ↓dSortI_ap, ↓dApp_ap, ↓dExt_ap, ↓dSetI_ap, ↓dPop_ap, ↓dPopAt_ap, ↓kNil_ap, ↓kPu_ap, ↓kIo_ap, ↓dCall_ap, ↓kApp_ap, ↓kPerm_ap, ↓dYes_ap, ↓dZipM_ap, dEq, dNe, dEqA, dNeA, dAdd, dI, dI0, dMul, dIx, dIsN, dNotN, dIn, dLen, dInt1, dAbs, dMM, dSum, dMaxL, dMinL, dAll, dTupOf, dIsi, dStrI, dNeg, dSub, dDiv, dMod, dPow, dShl, dShr, dBand, dLt, dLe, dGt, dGe, dCallG, entryN, entry, slotsOf, putOuts, putL, Sl.put, ownL, resolve, look, slD, looks, Sl.ownd, forW, compW, wipeP, backP, D.bls, D.ints, kp, perm, List.filterMap_cons, List.filterMap_nil, List.getElem?_cons_zero, List.getElem?_cons_succ, List.getElem?_nil, List.set_cons_zero, List.set_cons_succ, List.length_cons, List.length_nil, List.replicate_succ, List.replicate_zero, List.append_nil, List.nil_append, List.cons_append, List.map_cons, List.map_nil, Option.bind_some, Option.map_some, Option.isSome_some, Nat.reduceAdd, Nat.reduceSub, Nat.zero_add, Option.bind, Option.map, ↓reduceIte, decide_eq_true_eq, decide_true, decide_false, Bool.false_eq_true, Bool.true_eq_false, Bool.not_true, Bool.not_false, Bool.not_eq_true, Bool.not_eq_false, reduceCtorEq, true_and, and_true, okEq_int, okEq_bl, okEq_non, okEq_ints, okEq_nil, eqv_int, eqv_bl, eqv_nil, List.map_eq_nil_iff, truD, D.isNon, tyName, tyB, tyKnown, isTy, tyBD, List.all_cons, List.all_nil, List.any_cons, List.any_nil, List.contains_cons, List.contains_nil, String.reduceBEq, Bool.true_or, Bool.or_true, Bool.false_or, Bool.or_false, Bool.true_and, Bool.and_true, Bool.false_and, Bool.and_false, cast_0, cast_1, cast_2, cast_3, two_le_size, zero_lt_size, one_lt_size, nodup_nilN, nodup_1, zero_le_size, atI_0, atI_1, atI_2, ixN_30, ixN_31, ixN_32, Option.some.injEq, List.cons.injEq, true_or, or_true, false_or, or_false, (sg_eq n).1, (sg_eq n).2, m1, m2, hlen]
              refine kk _ _ ⟨?_, rfl⟩
              rw [List.filter_append]; simp [sign01, m1, m2]
        · rintro acc ps ⟨rfl, rfl⟩
          have ok : (D.lst ((z.cps.toList.filter fun n => !sign01 n).map (fun n => D.str ⟨#[n]⟩))).okEq := (Sh.lst (n := 0) fun d hd => by
            obtain ⟨n, hn, rfl⟩ := List.mem_map.mp hd
            have hc := hz.2 n (List.mem_filter.mp hn).1
            refine ⟨rfl, ?_, Nat.zero_le _⟩
            show PyData.strOk ⟨#[n]⟩ = true
            unfold PyData.strOk
            simp; omega).okEq (by decide)
          simp (maxSteps := 2000000) only [↓dVar_ap, ↓dC_ap, ↓dEsc_ap, ↓dPure_ap, ↓dOp_ap, ↓dUn_ap, ↓dNil_ap, ↓dCons_ap, ↓hNil_ap, ↓hCons_ap, ↓dCB_ap, ↓dTup_ap, ↓dLst_ap, ↓dTest_ap, ↓dTru_ap, ↓dAnd_ap, ↓dOr_ap, ↓dNot_ap, ↓dAndV_ap, ↓dOrV_ap, ↓dNotV_ap, ↓dIf_ap, ↓mNil_ap, ↓mPu_ap, ↓mOw_ap, ↓gdName_ap, ↓gdNil_ap, ↓gdCons_ap, ↓gdSeq_ap, ↓dNext_ap, ↓dBreak_ap, ↓dCont_ap, ↓dNever_ap, ↓dDrop_ap, ↓dRet_ap, ↓dRetN_ap, ↓dRetV_ap, ↓dIfS_ap, ↓dAsg_ap, ↓dAsgN_ap, ↓dPar_ap, ↓dPar3_ap, ↓dParT_ap, ↓dIt_ap, ↓dItAny_ap, ↓dItA_ap, ↓dRng1_ap, ↓dRng2_ap, ↓dEnum_ap, ↓dZip_ap, ↓dFor_ap, ↓dWhile_ap, ↓dLc_ap, ↓dRepN_ap, ↓dCatN_ap, ↓dNoPart_ap, ↓dPart_ap, ↓dSl_ap, ↓dSlN_ap, ↓dChain_ap, ↓dListOf_ap, ↓dSortI_ap, ↓dApp_ap, ↓dExt_ap, ↓dSetI_ap, ↓dPop_ap, ↓dPopAt_ap, ↓kNil_ap, ↓kPu_ap, ↓kIo_ap, ↓dCall_ap, ↓kApp_ap, ↓kPerm_ap, ↓dYes_ap, ↓dZipM_ap, dEq, dNe, dEqA, dNeA, dAdd, dI, dI0, dMul, dIx, dIsN, dNotN, dIn, dLen, dInt1, dAbs, dMM, dSum, dMaxL, dMinL, dAll, dTupOf, dIsi, dStrI, dNeg, dSub, dDiv, dMod, dPow, dShl, dShr, dBand, dLt, dLe, dGt, dGe, dCallG, entryN, entry, slotsOf, putOuts, putL, Sl.put, ownL, resolve, look, slD, looks, Sl.ownd, forW, compW, wipeP, backP, D.bls, D.ints, kp, perm, List.filterMap_cons, List.filterMap_nil, List.getElem?_cons_zero, List.getElem?_cons_succ, List.getElem?_nil, List.set_cons_zero, List.set_cons_succ, List.length_cons, List.length_nil, List.replicate_succ, List.replicate_zero, List.append_nil, List.nil_append, List.cons_append, List.map_cons, List.map_nil, Option.bind_some, Option.map_some, Option.isSome_some, Nat.reduceAdd, Nat.reduceSub, Nat.zero_add, Option.bind, Option.map, ↓reduceIte, decide_eq_true_eq, decide_true, decide_false, Bool.false_eq_true, Bool.true_eq_false, Bool.not_true, Bool.not_false, Bool.not_eq_true, Bool.not_eq_false, reduceCtorEq, true_and, and_true, okEq_int, okEq_bl, okEq_non, okEq_ints, okEq_nil, eqv_int, eqv_bl, eqv_nil, List.map_eq_nil_iff, truD, D.isNon, tyName, tyB, tyKnown, isTy, tyBD, List.all_cons, List.all_nil, List.any_cons, List.any_nil, List.contains_cons, List.contains_nil, String.reduceBEq, Bool.true_or, Bool.or_true, Bool.false_or, Bool.or_false, Bool.true_and, Bool.and_true, Bool.false_and, Bool.and_false, cast_0, cast_1, cast_2, cast_3, two_le_size, zero_lt_size, one_lt_size, nodup_nilN, nodup_1, zero_le_size, atI_0, atI_1, atI_2, ixN_30, ixN_31, ixN_32, Option.some.injEq, List.cons.injEq, true_or, or_true, false_or, or_false, ok]
          have e : isN (.str z) = decide ((z.cps.toList.filter fun n => !sign01 n) = []) := by
            unfold isN
            dsimp only
            rw [decide_eq_true (show 1 ≤ z.length by omega), decide_eq_true (show z.length ≤ 60 by omega), Bool.true_and, Bool.true_and, Bool.eq_iff_iff, List.all_eq_true, decide_eq_true_iff, List.filter_eq_nil_iff]
            exact ⟨fun h x hx => by rw [h x hx]; decide, fun h x hx => by have := h x hx; cases e : sign01 x <;> simp [e] at this ⊢⟩
          rw [e] at k
          exact k
      · simp (maxSteps := 2000000) only [↓dVar_ap, ↓dC_ap, ↓dEsc_ap, ↓dPure_ap, ↓dOp_ap, ↓dUn_ap, ↓dNil_ap, ↓dCons_ap, ↓hNil_ap, ↓hCons_ap, ↓dCB_ap, ↓dTup_ap, ↓dLst_ap, ↓dTest_ap, ↓dTru_ap, ↓dAnd_ap, ↓dOr_ap, ↓dNot_ap, ↓dAndV_ap, ↓dOrV_ap, ↓dNotV_ap, ↓dIf_ap, ↓mNil_ap, ↓mPu_ap, ↓mOw_ap, ↓gdName_ap, ↓gdNil_ap, ↓gdCons_ap, ↓gdSeq_ap, ↓dNext_ap, ↓dBreak_ap, ↓dCont_ap, ↓dNever_ap, ↓dDrop_ap, ↓dRet_ap, ↓dRetN_ap, ↓dRetV_ap, ↓dIfS_ap, ↓dAsg_ap, ↓dAsgN_ap, ↓dPar_ap, ↓dPar3_ap, ↓dParT_ap, ↓dIt_ap, ↓dItAny_ap, ↓dItA_ap, ↓dRng1_ap, ↓dRng2_ap, ↓dEnum_ap, ↓dZip_ap, ↓dFor_ap, ↓dWhile_ap, ↓dLc_ap, ↓dRepN_ap, ↓dCatN_ap, ↓dNoPart_ap, ↓dPart_ap, ↓dSl_ap, ↓dSlN_ap, ↓dChain_ap, ↓dListOf_ap, ↓dSortI_ap, ↓dApp_ap, ↓dExt_ap, ↓dSetI_ap, ↓dPop_ap, ↓dPopAt_ap, ↓kNil_ap, ↓kPu_ap, ↓kIo_ap, ↓dCall_ap, ↓kApp_ap, ↓kPerm_ap, ↓dYes_ap, ↓dZipM_ap, dEq, dNe, dEqA, dNeA, dAdd, dI, dI0, dMul, dIx, dIsN, dNotN, dIn, dLen, dInt1, dAbs, dMM, dSum, dMaxL, dMinL, dAll, dTupOf, dIsi, dStrI, dNeg, dSub, dDiv, dMod, dPow, dShl, dShr, dBand, dLt, dLe, dGt, dGe, dCallG, entryN, entry, slotsOf, putOuts, putL, Sl.put, ownL, resolve, look, slD, looks, Sl.ownd, forW, compW, wipeP, backP, D.bls, D.ints, kp, perm, List.filterMap_cons, List.filterMap_nil, List.getElem?_cons_zero, List.getElem?_cons_succ, List.getElem?_nil, List.set_cons_zero, List.set_cons_succ, List.length_cons, List.length_nil, List.replicate_succ, List.replicate_zero, List.append_nil, List.nil_append, List.cons_append, List.map_cons, List.map_nil, Option.bind_some, Option.map_some, Option.isSome_some, Nat.reduceAdd, Nat.reduceSub, Nat.zero_add, Option.bind, Option.map, ↓reduceIte, decide_eq_true_eq, decide_true, decide_false, Bool.false_eq_true, Bool.true_eq_false, Bool.not_true, Bool.not_false, Bool.not_eq_true, Bool.not_eq_false, reduceCtorEq, true_and, and_true, okEq_int, okEq_bl, okEq_non, okEq_ints, okEq_nil, eqv_int, eqv_bl, eqv_nil, List.map_eq_nil_iff, truD, D.isNon, tyName, tyB, tyKnown, isTy, tyBD, List.all_cons, List.all_nil, List.any_cons, List.any_nil, List.contains_cons, List.contains_nil, String.reduceBEq, Bool.true_or, Bool.or_true, Bool.false_or, Bool.or_false, Bool.true_and, Bool.and_true, Bool.false_and, Bool.and_false, cast_0, cast_1, cast_2, cast_3, two_le_size, zero_lt_size, one_lt_size, nodup_nilN, nodup_1, zero_le_size, atI_0, atI_1, atI_2, ixN_30, ixN_31, ixN_32, Option.some.injEq, List.cons.injEq, true_or, or_true, false_or, or_false, hzs, g1, g2]
        have e : isN (.str z) = false := by
          unfold isN
          dsimp only
          rw [decide_eq_false (show ¬ z.length ≤ 60 by omega), Bool.false_and, Bool.and_false]
        rw [e] at k
        exact k
    · simp (maxSteps := 2000000) only [↓dVar_ap, ↓dC_ap, ↓dEsc_ap, ↓dPure_ap, ↓dOp_ap, ↓dUn_ap, ↓dNil_ap, ↓dCons_ap, ↓hNil_ap, ↓hCons_ap, ↓dCB_ap, ↓dTup_ap, ↓dLst_ap, ↓dTest_ap, ↓dTru_ap, ↓dAnd_ap, ↓dOr_ap, ↓dNot_ap, ↓dAndV_ap, ↓dOrV_ap, ↓dNotV_ap, ↓dIf_ap, ↓mNil_ap, ↓mPu_ap, ↓mOw_ap, ↓gdName_ap, ↓gdNil_ap, ↓gdCons_ap, ↓gdSeq_ap, ↓dNext_ap, ↓dBreak_ap, ↓dCont_ap, ↓dNever_ap, ↓dDrop_ap, ↓dRet_ap, ↓dRetN_ap, ↓dRetV_ap, ↓dIfS_ap, ↓dAsg_ap, ↓dAsgN_ap, ↓dPar_ap, ↓dPar3_ap, ↓dParT_ap, ↓dIt_ap, ↓dItAny_ap, ↓dItA_ap, ↓dRng1_ap, ↓dRng2_ap, ↓dEnum_ap, ↓dZip_ap, ↓dFor_ap, ↓dWhile_ap, ↓dLc_ap, ↓dRepN_ap, ↓dCatN_ap, ↓dNoPart_ap, ↓dPart_ap, ↓dSl_ap, ↓dSlN_ap, ↓dChain_ap, ↓dListOf_ap, ↓dSortI_ap, ↓dApp_ap, ↓dExt_ap, ↓dSetI_ap, ↓dPop_ap, ↓dPopAt_ap, ↓kNil_ap, ↓kPu_ap, ↓kIo_ap, ↓dCall_ap, ↓kApp_ap, ↓kPerm_ap, ↓dYes_ap, ↓dZipM_ap, dEq, dNe, dEqA, dNeA, dAdd, dI, dI0, dMul, dIx, dIsN, dNotN, dIn, dLen, dInt1, dAbs, dMM, dSum, dMaxL, dMinL, dAll, dTupOf, dIsi, dStrI, dNeg, dSub, dDiv, dMod, dPow, dShl, dShr, dBand, dLt, dLe, dGt, dGe, dCallG, entryN, entry, slotsOf, putOuts, putL, Sl.put, ownL, resolve, look, slD, looks, Sl.ownd, forW, compW, wipeP, backP, D.bls, D.ints, kp, perm, List.filterMap_cons, List.filterMap_nil, List.getElem?_cons_zero, List.getElem?_cons_succ, List.getElem?_nil, List.set_cons_zero, List.set_cons_succ, List.length_cons, List.length_nil, List.replicate_succ, List.replicate_zero, List.append_nil, List.nil_append, List.cons_append, List.map_cons, List.map_nil, Option.bind_some, Option.map_some, Option.isSome_some, Nat.reduceAdd, Nat.reduceSub, Nat.zero_add, Option.bind, Option.map, ↓reduceIte, decide_eq_true_eq, decide_true, decide_false, Bool.false_eq_true, Bool.true_eq_false, Bool.not_true, Bool.not_false, Bool.not_eq_true, Bool.not_eq_false, reduceCtorEq, true_and, and_true, okEq_int, okEq_bl, okEq_non, okEq_ints, okEq_nil, eqv_int, eqv_bl, eqv_nil, List.map_eq_nil_iff, truD, D.isNon, tyName, tyB, tyKnown, isTy, tyBD, List.all_cons, List.all_nil, List.any_cons, List.any_nil, List.contains_cons, List.contains_nil, String.reduceBEq, Bool.true_or, Bool.or_true, Bool.false_or, Bool.or_false, Bool.true_and, Bool.and_true, Bool.false_and, Bool.and_false, cast_0, cast_1, cast_2, cast_3, two_le_size, zero_lt_size, one_lt_size, nodup_nilN, nodup_1, zero_le_size, atI_0, atI_1, atI_2, ixN_30, ixN_31, ixN_32, Option.some.injEq, List.cons.injEq, true_or, or_true, false_or, or_false, hzs, g1]
      have e : isN (.str z) = false := by
        unfold isN
        dsimp only
        rw [decide_eq_false (show ¬ 1 ≤ z.length by omega), Bool.false_and]
      rw [e] at k
      exact k
  · simp (maxSteps := 2000000) only [↓dVar_ap, ↓dC_ap, ↓dEsc_ap, ↓dPure_ap, ↓dOp_ap, ↓dUn_ap, ↓dNil_ap, ↓dCons_ap, ↓hNil_ap, ↓hCons_ap, ↓dCB_ap, ↓dTup_ap, ↓dLst_ap, ↓dTest_ap, ↓dTru_ap, ↓dAnd_ap, ↓dOr_ap, ↓dNot_ap, ↓dAndV_ap, ↓dOrV_ap, ↓dNotV_ap, ↓dIf_ap, ↓mNil_ap, ↓mPu_ap, ↓mOw_ap, ↓gdName_ap, ↓gdNil_ap, ↓gdCons_ap, ↓gdSeq_ap, ↓dNext_ap, ↓dBreak_ap, ↓dCont_ap, ↓dNever_ap, ↓dDrop_ap, ↓dRet_ap, ↓dRetN_ap, ↓dRetV_ap, ↓dIfS_ap, ↓dAsg_ap, ↓dAsgN_ap, ↓dPar_ap, ↓dPar3_ap, ↓dParT_ap, ↓dIt_ap, ↓dItAny_ap, ↓dItA_ap, ↓dRng1_ap, ↓dRng2_ap, ↓dEnum_ap, ↓dZip_ap, ↓dFor_ap, ↓dWhile_ap, ↓dLc_ap, ↓dRepN_ap, ↓dCatN_ap, ↓dNoPart_ap, ↓dPart_ap, ↓dSl_ap, ↓dSlN_ap, ↓dChain_ap, ↓dListOf_ap, ↓dSortI_ap, ↓dApp_ap, ↓dExt_ap, ↓dSetI_ap, ↓dPop_ap, ↓dPopAt_ap, ↓kNil_ap, ↓kPu_ap, ↓kIo_ap, ↓dCall_ap, ↓kApp_ap, ↓kPerm_ap, ↓dYes_ap, ↓dZipM_ap, dEq, dNe, dEqA, dNeA, dAdd, dI, dI0, dMul, dIx, dIsN, dNotN, dIn, dLen, dInt1, dAbs, dMM, dSum, dMaxL, dMinL, dAll, dTupOf, dIsi, dStrI, dNeg, dSub, dDiv, dMod, dPow, dShl, dShr, dBand, dLt, dLe, dGt, dGe, dCallG, entryN, entry, slotsOf, putOuts, putL, Sl.put, ownL, resolve, look, slD, looks, Sl.ownd, forW, compW, wipeP, backP, D.bls, D.ints, kp, perm, List.filterMap_cons, List.filterMap_nil, List.getElem?_cons_zero, List.getElem?_cons_succ, List.getElem?_nil, List.set_cons_zero, List.set_cons_succ, List.length_cons, List.length_nil, List.replicate_succ, List.replicate_zero, List.append_nil, List.nil_append, List.cons_append, List.map_cons, List.map_nil, Option.bind_some, Option.map_some, Option.isSome_some, Nat.reduceAdd, Nat.reduceSub, Nat.zero_add, Option.bind, Option.map, ↓reduceIte, decide_eq_true_eq, decide_true, decide_false, Bool.false_eq_true, Bool.true_eq_false, Bool.not_true, Bool.not_false, Bool.not_eq_true, Bool.not_eq_false, reduceCtorEq, true_and, and_true, okEq_int, okEq_bl, okEq_non, okEq_ints, okEq_nil, eqv_int, eqv_bl, eqv_nil, List.map_eq_nil_iff, truD, D.isNon, tyName, tyB, tyKnown, isTy, tyBD, List.all_cons, List.all_nil, List.any_cons, List.any_nil, List.contains_cons, List.contains_nil, String.reduceBEq, Bool.true_or, Bool.or_true, Bool.false_or, Bool.or_false, Bool.true_and, Bool.and_true, Bool.false_and, Bool.and_false, cast_0, cast_1, cast_2, cast_3, two_le_size, zero_lt_size, one_lt_size, nodup_nilN, nodup_1, zero_le_size, atI_0, atI_1, atI_2, ixN_30, ixN_31, ixN_32, Option.some.injEq, List.cons.injEq, true_or, or_true, false_or, or_false]; exact k
  · simp (maxSteps := 2000000) only [↓dVar_ap, ↓dC_ap, ↓dEsc_ap, ↓dPure_ap, ↓dOp_ap, ↓dUn_ap, ↓dNil_ap, ↓dCons_ap, ↓hNil_ap, ↓hCons_ap, ↓dCB_ap, ↓dTup_ap, ↓dLst_ap, ↓dTest_ap, ↓dTru_ap, ↓dAnd_ap, ↓dOr_ap, ↓dNot_ap, ↓dAndV_ap, ↓dOrV_ap, ↓dNotV_ap, ↓dIf_ap, ↓mNil_ap, ↓mPu_ap, ↓mOw_ap, ↓gdName_ap, ↓gdNil_ap, ↓gdCons_ap, ↓gdSeq_ap, ↓dNext_ap, ↓dBreak_ap, ↓dCont_ap, ↓dNever_ap, ↓dDrop_ap, ↓dRet_ap, ↓dRetN_ap, ↓dRetV_ap, ↓dIfS_ap, ↓dAsg_ap, ↓dAsgN_ap, ↓dPar_ap, ↓dPar3_ap, ↓dParT_ap, ↓dIt_ap, ↓dItAny_ap, ↓dItA_ap, ↓dRng1_ap, ↓dRng2_ap, ↓dEnum_ap, ↓dZip_ap, ↓dFor_ap, ↓dWhile_ap, ↓dLc_ap, ↓dRepN_ap, ↓dCatN_ap, ↓dNoPart_ap, ↓dPart_ap, ↓dSl_ap, ↓dSlN_ap, ↓dChain_ap, ↓dListOf_ap, ↓dSortI_ap, ↓dApp_ap, ↓dExt_ap, ↓dSetI_ap, ↓dPop_ap, ↓dPopAt_ap, ↓kNil_ap, ↓kPu_ap, ↓kIo_ap, ↓dCall_ap, ↓kApp_ap, ↓kPerm_ap, ↓dYes_ap, ↓dZipM_ap, dEq, dNe, dEqA, dNeA, dAdd, dI, dI0, dMul, dIx, dIsN, dNotN, dIn, dLen, dInt1, dAbs, dMM, dSum, dMaxL, dMinL, dAll, dTupOf, dIsi, dStrI, dNeg, dSub, dDiv, dMod, dPow, dShl, dShr, dBand, dLt, dLe, dGt, dGe, dCallG, entryN, entry, slotsOf, putOuts, putL, Sl.put, ownL, resolve, look, slD, looks, Sl.ownd, forW, compW, wipeP, backP, D.bls, D.ints, kp, perm, List.filterMap_cons, List.filterMap_nil, List.getElem?_cons_zero, List.getElem?_cons_succ, List.getElem?_nil, List.set_cons_zero, List.set_cons_succ, List.length_cons, List.length_nil, List.replicate_succ, List.replicate_zero, List.append_nil, List.nil_append, List.cons_append, List.map_cons, List.map_nil, Option.bind_some, Option.map_some, Option.isSome_some, Nat.reduceAdd, Nat.reduceSub, Nat.zero_add, Option.bind, Option.map, ↓reduceIte, decide_eq_true_eq, decide_true, decide_false, Bool.false_eq_true, Bool.true_eq_false, Bool.not_true, Bool.not_false, Bool.not_eq_true, Bool.not_eq_false, reduceCtorEq, true_and, and_true, okEq_int, okEq_bl, okEq_non, okEq_ints, okEq_nil, eqv_int, eqv_bl, eqv_nil, List.map_eq_nil_iff, truD, D.isNon, tyName, tyB, tyKnown, isTy, tyBD, List.all_cons, List.all_nil, List.any_cons, List.any_nil, List.contains_cons, List.contains_nil, String.reduceBEq, Bool.true_or, Bool.or_true, Bool.false_or, Bool.or_false, Bool.true_and, Bool.and_true, Bool.false_and, Bool.and_false, cast_0, cast_1, cast_2, cast_3, two_le_size, zero_lt_size, one_lt_size, nodup_nilN, nodup_1, zero_le_size, atI_0, atI_1, atI_2, ixN_30, ixN_31, ixN_32, Option.some.injEq, List.cons.injEq, true_or, or_true, false_or, or_false]; exact k
  · simp (maxSteps := 2000000) only [↓dVar_ap, ↓dC_ap, ↓dEsc_ap, ↓dPure_ap, ↓dOp_ap, ↓dUn_ap, ↓dNil_ap, ↓dCons_ap, ↓hNil_ap, ↓hCons_ap, ↓dCB_ap, ↓dTup_ap, ↓dLst_ap, ↓dTest_ap, ↓dTru_ap, ↓dAnd_ap, ↓dOr_ap, ↓dNot_ap, ↓dAndV_ap, ↓dOrV_ap, ↓dNotV_ap, ↓dIf_ap, ↓mNil_ap, ↓mPu_ap, ↓mOw_ap, ↓gdName_ap, ↓gdNil_ap, ↓gdCons_ap, ↓gdSeq_ap, ↓dNext_ap, ↓dBreak_ap, ↓dCont_ap, ↓dNever_ap, ↓dDrop_ap, ↓dRet_ap, ↓dRetN_ap, ↓dRetV_ap, ↓dIfS_ap, ↓dAsg_ap, ↓dAsgN_ap, ↓dPar_ap, ↓dPar3_ap, ↓dParT_ap, ↓dIt_ap, ↓dItAny_ap, ↓dItA_ap, ↓dRng1_ap, ↓dRng2_ap, ↓dEnum_ap, ↓dZip_ap, ↓dFor_ap, ↓dWhile_ap, ↓dLc_ap, ↓dRepN_ap, ↓dCatN_ap, ↓dNoPart_ap, ↓dPart_ap, ↓dSl_ap, ↓dSlN_ap, ↓dChain_ap, ↓dListOf_ap, ↓dSortI_ap, ↓dApp_ap, ↓dExt_ap, ↓dSetI_ap, ↓dPop_ap, ↓dPopAt_ap, ↓kNil_ap, ↓kPu_ap, ↓kIo_ap, ↓dCall_ap, ↓kApp_ap, ↓kPerm_ap, ↓dYes_ap, ↓dZipM_ap, dEq, dNe, dEqA, dNeA, dAdd, dI, dI0, dMul, dIx, dIsN, dNotN, dIn, dLen, dInt1, dAbs, dMM, dSum, dMaxL, dMinL, dAll, dTupOf, dIsi, dStrI, dNeg, dSub, dDiv, dMod, dPow, dShl, dShr, dBand, dLt, dLe, dGt, dGe, dCallG, entryN, entry, slotsOf, putOuts, putL, Sl.put, ownL, resolve, look, slD, looks, Sl.ownd, forW, compW, wipeP, backP, D.bls, D.ints, kp, perm, List.filterMap_cons, List.filterMap_nil, List.getElem?_cons_zero, List.getElem?_cons_succ, List.getElem?_nil, List.set_cons_zero, List.set_cons_succ, List.length_cons, List.length_nil, List.replicate_succ, List.replicate_zero, List.append_nil, List.nil_append, List.cons_append, List.map_cons, List.map_nil, Option.bind_some, Option.map_some, Option.isSome_some, Nat.reduceAdd, Nat.reduceSub, Nat.zero_add, Option.bind, Option.map, ↓reduceIte, decide_eq_true_eq, decide_true, decide_false, Bool.false_eq_true, Bool.true_eq_false, Bool.not_true, Bool.not_false, Bool.not_eq_true, Bool.not_eq_false, reduceCtorEq, true_and, and_true, okEq_int, okEq_bl, okEq_non, okEq_ints, okEq_nil, eqv_int, eqv_bl, eqv_nil, List.map_eq_nil_iff, truD, D.isNon, tyName, tyB, tyKnown, isTy, tyBD, List.all_cons, List.all_nil, List.any_cons, List.any_nil, List.contains_cons, List.contains_nil, String.reduceBEq, Bool.true_or, Bool.or_true, Bool.false_or, Bool.or_false, Bool.true_and, Bool.and_true, Bool.false_and, Bool.and_false, cast_0, cast_1, cast_2, cast_3, two_le_size, zero_lt_size, one_lt_size, nodup_nilN, nodup_1, zero_le_size, atI_0, atI_1, atI_2, ixN_30, ixN_31, ixN_32, Option.some.injEq, List.cons.injEq, true_or, or_true, false_or, or_false]; exact k
theorem Elt.sh {d : D} (h : Elt d) : Sh d 2 := by
  rcases h with rfl | ⟨b, rfl⟩ | ⟨i, rfl⟩ | ⟨z, rfl, hz⟩ | ⟨i, rfl⟩
  · exact Sh.non 2
  · exact Sh.bl b 2
  · exact Sh.int i 2
  · refine ⟨rfl, ?_, Nat.zero_le _⟩
    show PyData.strOk z = true
    unfold PyData.strOk
    rw [Array.all_eq_true']
    intro c hc
    have := hz.2 c (Array.mem_toList_iff.mpr hc)
    simp; omega
  · exact (Sh.lst (n := 1) fun d hd => by rw [List.mem_singleton.mp hd]; exact Sh.int i 1)
theorem st_each {Q : Bool → Pst → Prop} {x0 x1 x2 x3 x4 x5 x6 x7 x8 x9 x10 x11 : Sl} {x : D} (hx : Elt x) (k : Q (!one6 x) [x0, x1, x2, x3, x4, x5, x6, x7, x8, x9, x10, x11, .pu x]) :
    (dOr (dNot (dTru (dPure (dCall [false] sp__law_is_integer (kPu (dEsc (dVar 12)) kNil))))) (dOr (dTest (dOp dLt (dVar 12) (dC (.int 1)))) (dTest (dOp dGt (dVar 12) (dOp dPow (dC (.int 10)) (dC (.int 6))))))) [x0, x1, x2, x3, x4, x5, x6, x7, x8, x9, x10, x11, .pu x] Q := by
  have h6 : CPow 10 6 := cpow_of (h3 := by decide)
  have e6 : (10 : Int) ^ 6 = 1000000 := by decide
  have hv := hx.val
  rcases hx with rfl | ⟨b, rfl⟩ | ⟨i, rfl⟩ | ⟨z, rfl, hz⟩ | ⟨i, rfl⟩
  · simp (maxSteps := 2000000) only [↓dVar_ap, ↓dC_ap, ↓dEsc_ap, ↓dPure_ap, ↓dOp_ap, ↓dUn_ap, ↓dNil_ap, ↓dCons_ap, ↓hNil_ap, ↓hCons_ap, ↓dCB_ap, ↓dTup_ap, ↓dLst_ap, ↓dTest_ap, ↓dTru_ap, ↓dAnd_ap, ↓dOr_ap, ↓dNot_ap, ↓dAndV_ap, ↓dOrV_ap, ↓dNotV_ap, ↓dIf_ap, ↓mNil_ap, ↓mPu_ap, ↓mOw_ap, ↓gdName_ap, ↓gdNil_ap, ↓gdCons_ap, ↓gdSeq_ap, ↓dNext_ap, ↓dBreak_ap, ↓dCont_ap, ↓dNever_ap, ↓dDrop_ap, ↓dRet_ap, ↓dRetN_ap, ↓dRetV_ap, ↓dIfS_ap, ↓dAsg_ap, ↓dAsgN_ap, ↓dPar_ap, ↓dPar3_ap, ↓dParT_ap, ↓dIt_ap, ↓dItAny_ap, ↓dItA_ap, ↓dRng1_ap, ↓dRng2_ap, ↓dEnum_ap, ↓dZip_ap, ↓dFor_ap, ↓dWhile_ap, ↓dLc_ap, ↓dRepN_ap, ↓dCatN_ap, ↓dNoPart_ap, ↓dPart_ap, ↓dSl_ap, ↓dSlN_ap, ↓dChain_ap, ↓dListOf_ap, ↓dSortI_ap, ↓dApp_ap, ↓dExt_ap, ↓dSetI_ap, ↓dPop_ap, ↓dPopAt_ap, ↓kNil_ap, ↓kPu_ap, ↓kIo_ap, ↓dCall_ap, ↓kApp_ap, ↓kPerm_ap, ↓dYes_ap, ↓dZipM_ap, dEq, dNe, dEqA, dNeA, dAdd, dI, dI0, dMul, dIx, dIsN, dNotN, dIn, dLen, dInt1, dAbs, dMM, dSum, dMaxL, dMinL, dAll, dTupOf, dIsi, dStrI, dNeg, dSub, dDiv, dMod, dPow, dShl, dShr, dBand, dLt, dLe, dGt, dGe, dCallG, entryN, entry, slotsOf, putOuts, putL, Sl.put, ownL, resolve, look, slD, looks, Sl.ownd, forW, compW, wipeP, backP, D.bls, D.ints, kp, perm, List.filterMap_cons, List.filterMap_nil, List.getElem?_cons_zero, List.getElem?_cons_succ, List.getElem?_nil, List.set_cons_zero, List.set_cons_succ, List.length_cons, List.length_nil, List.replicate_succ, List.replicate_zero, List.append_nil, List.nil_append, List.cons_append, List.map_cons, List.map_nil, Option.bind_some, Option.map_some, Option.isSome_some, Nat.reduceAdd, Nat.reduceSub, Nat.zero_add, Option.bind, Option.map, ↓reduceIte, decide_eq_true_eq, decide_true, decide_false, Bool.false_eq_true, Bool.true_eq_false, Bool.not_true, Bool.not_false, Bool.not_eq_true, Bool.not_eq_false, reduceCtorEq, true_and, and_true, okEq_int, okEq_bl, okEq_non, okEq_ints, okEq_nil, eqv_int, eqv_bl, eqv_nil, List.map_eq_nil_iff, truD, D.isNon, tyName, tyB, tyKnown, isTy, tyBD, List.all_cons, List.all_nil, List.any_cons, List.any_nil, List.contains_cons, List.contains_nil, String.reduceBEq, Bool.true_or, Bool.or_true, Bool.false_or, Bool.or_false, Bool.true_and, Bool.and_true, Bool.false_and, Bool.and_false, cast_0, cast_1, cast_2, cast_3, two_le_size, zero_lt_size, one_lt_size, nodup_nilN, nodup_1, zero_le_size, atI_0, atI_1, atI_2, ixN_30, ixN_31, ixN_32, Option.some.injEq, List.cons.injEq, true_or, or_true, false_or, or_false]; refine ⟨_, rfl, hv, ?_⟩; simp (maxSteps := 2000000) only [↓dVar_ap, ↓dC_ap, ↓dEsc_ap, ↓dPure_ap, ↓dOp_ap, ↓dUn_ap, ↓dNil_ap, ↓dCons_ap, ↓hNil_ap, ↓hCons_ap, ↓dCB_ap, ↓dTup_ap, ↓dLst_ap, ↓dTest_ap, ↓dTru_ap, ↓dAnd_ap, ↓dOr_ap, ↓dNot_ap, ↓dAndV_ap, ↓dOrV_ap, ↓dNotV_ap, ↓dIf_ap, ↓mNil_ap, ↓mPu_ap, ↓mOw_ap, ↓gdName_ap, ↓gdNil_ap, ↓gdCons_ap, ↓gdSeq_ap, ↓dNext_ap, ↓dBreak_ap, ↓dCont_ap, ↓dNever_ap, ↓dDrop_ap, ↓dRet_ap, ↓dRetN_ap, ↓dRetV_ap, ↓dIfS_ap, ↓dAsg_ap, ↓dAsgN_ap, ↓dPar_ap, ↓dPar3_ap, ↓dParT_ap, ↓dIt_ap, ↓dItAny_ap, ↓dItA_ap, ↓dRng1_ap, ↓dRng2_ap, ↓dEnum_ap, ↓dZip_ap, ↓dFor_ap, ↓dWhile_ap, ↓dLc_ap, ↓dRepN_ap, ↓dCatN_ap, ↓dNoPart_ap, ↓dPart_ap, ↓dSl_ap, ↓dSlN_ap, ↓dChain_ap, ↓dListOf_ap, ↓dSortI_ap, ↓dApp_ap, ↓dExt_ap, ↓dSetI_ap, ↓dPop_ap, ↓dPopAt_ap, ↓kNil_ap, ↓kPu_ap, ↓kIo_ap, ↓dCall_ap, ↓kApp_ap, ↓kPerm_ap, ↓dYes_ap, ↓dZipM_ap, dEq, dNe, dEqA, dNeA, dAdd, dI, dI0, dMul, dIx, dIsN, dNotN, dIn, dLen, dInt1, dAbs, dMM, dSum, dMaxL, dMinL, dAll, dTupOf, dIsi, dStrI, dNeg, dSub, dDiv, dMod, dPow, dShl, dShr, dBand, dLt, dLe, dGt, dGe, dCallG, entryN, entry, slotsOf, putOuts, putL, Sl.put, ownL, resolve, look, slD, looks, Sl.ownd, forW, compW, wipeP, backP, D.bls, D.ints, kp, perm, List.filterMap_cons, List.filterMap_nil, List.getElem?_cons_zero, List.getElem?_cons_succ, List.getElem?_nil, List.set_cons_zero, List.set_cons_succ, List.length_cons, List.length_nil, List.replicate_succ, List.replicate_zero, List.append_nil, List.nil_append, List.cons_append, List.map_cons, List.map_nil, Option.bind_some, Option.map_some, Option.isSome_some, Nat.reduceAdd, Nat.reduceSub, Nat.zero_add, Option.bind, Option.map, ↓reduceIte, decide_eq_true_eq, decide_true, decide_false, Bool.false_eq_true, Bool.true_eq_false, Bool.not_true, Bool.not_false, Bool.not_eq_true, Bool.not_eq_false, reduceCtorEq, true_and, and_true, okEq_int, okEq_bl, okEq_non, okEq_ints, okEq_nil, eqv_int, eqv_bl, eqv_nil, List.map_eq_nil_iff, truD, D.isNon, tyName, tyB, tyKnown, isTy, tyBD, List.all_cons, List.all_nil, List.any_cons, List.any_nil, List.contains_cons, List.contains_nil, String.reduceBEq, Bool.true_or, Bool.or_true, Bool.false_or, Bool.or_false, Bool.true_and, Bool.and_true, Bool.false_and, Bool.and_false, cast_0, cast_1, cast_2, cast_3, two_le_size, zero_lt_size, one_lt_size, nodup_nilN, nodup_1, zero_le_size, atI_0, atI_1, atI_2, ixN_30, ixN_31, ixN_32, Option.some.injEq, List.cons.injEq, true_or, or_true, false_or, or_false, isI]; exact k
  · simp (maxSteps := 2000000) only [↓dVar_ap, ↓dC_ap, ↓dEsc_ap, ↓dPure_ap, ↓dOp_ap, ↓dUn_ap, ↓dNil_ap, ↓dCons_ap, ↓hNil_ap, ↓hCons_ap, ↓dCB_ap, ↓dTup_ap, ↓dLst_ap, ↓dTest_ap, ↓dTru_ap, ↓dAnd_ap, ↓dOr_ap, ↓dNot_ap, ↓dAndV_ap, ↓dOrV_ap, ↓dNotV_ap, ↓dIf_ap, ↓mNil_ap, ↓mPu_ap, ↓mOw_ap, ↓gdName_ap, ↓gdNil_ap, ↓gdCons_ap, ↓gdSeq_ap, ↓dNext_ap, ↓dBreak_ap, ↓dCont_ap, ↓dNever_ap, ↓dDrop_ap, ↓dRet_ap, ↓dRetN_ap, ↓dRetV_ap, ↓dIfS_ap, ↓dAsg_ap, ↓dAsgN_ap, ↓dPar_ap, ↓dPar3_ap, ↓dParT_ap, ↓dIt_ap, ↓dItAny_ap, ↓dItA_ap, ↓dRng1_ap, ↓dRng2_ap, ↓dEnum_ap, ↓dZip_ap, ↓dFor_ap, ↓dWhile_ap, ↓dLc_ap, ↓dRepN_ap, ↓dCatN_ap, ↓dNoPart_ap, ↓dPart_ap, ↓dSl_ap, ↓dSlN_ap, ↓dChain_ap, ↓dListOf_ap, ↓dSortI_ap, ↓dApp_ap, ↓dExt_ap, ↓dSetI_ap, ↓dPop_ap, ↓dPopAt_ap, ↓kNil_ap, ↓kPu_ap, ↓kIo_ap, ↓dCall_ap, ↓kApp_ap, ↓kPerm_ap, ↓dYes_ap, ↓dZipM_ap, dEq, dNe, dEqA, dNeA, dAdd, dI, dI0, dMul, dIx, dIsN, dNotN, dIn, dLen, dInt1, dAbs, dMM, dSum, dMaxL, dMinL, dAll, dTupOf, dIsi, dStrI, dNeg, dSub, dDiv, dMod, dPow, dShl, dShr, dBand, dLt, dLe, dGt, dGe, dCallG, entryN, entry, slotsOf, putOuts, putL, Sl.put, ownL, resolve, look, slD, looks, Sl.ownd, forW, compW, wipeP, backP, D.bls, D.ints, kp, perm, List.filterMap_cons, List.filterMap_nil, List.getElem?_cons_zero, List.getElem?_cons_succ, List.getElem?_nil, List.set_cons_zero, List.set_cons_succ, List.length_cons, List.length_nil, List.replicate_succ, List.replicate_zero, List.append_nil, List.nil_append, List.cons_append, List.map_cons, List.map_nil, Option.bind_some, Option.map_some, Option.isSome_some, Nat.reduceAdd, Nat.reduceSub, Nat.zero_add, Option.bind, Option.map, ↓reduceIte, decide_eq_true_eq, decide_true, decide_false, Bool.false_eq_true, Bool.true_eq_false, Bool.not_true, Bool.not_false, Bool.not_eq_true, Bool.not_eq_false, reduceCtorEq, true_and, and_true, okEq_int, okEq_bl, okEq_non, okEq_ints, okEq_nil, eqv_int, eqv_bl, eqv_nil, List.map_eq_nil_iff, truD, D.isNon, tyName, tyB, tyKnown, isTy, tyBD, List.all_cons, List.all_nil, List.any_cons, List.any_nil, List.contains_cons, List.contains_nil, String.reduceBEq, Bool.true_or, Bool.or_true, Bool.false_or, Bool.or_false, Bool.true_and, Bool.and_true, Bool.false_and, Bool.and_false, cast_0, cast_1, cast_2, cast_3, two_le_size, zero_lt_size, one_lt_size, nodup_nilN, nodup_1, zero_le_size, atI_0, atI_1, atI_2, ixN_30, ixN_31, ixN_32, Option.some.injEq, List.cons.injEq, true_or, or_true, false_or, or_false]; refine ⟨_, rfl, hv, ?_⟩; simp (maxSteps := 2000000) only [↓dVar_ap, ↓dC_ap, ↓dEsc_ap, ↓dPure_ap, ↓dOp_ap, ↓dUn_ap, ↓dNil_ap, ↓dCons_ap, ↓hNil_ap, ↓hCons_ap, ↓dCB_ap, ↓dTup_ap, ↓dLst_ap, ↓dTest_ap, ↓dTru_ap, ↓dAnd_ap, ↓dOr_ap, ↓dNot_ap, ↓dAndV_ap, ↓dOrV_ap, ↓dNotV_ap, ↓dIf_ap, ↓mNil_ap, ↓mPu_ap, ↓mOw_ap, ↓gdName_ap, ↓gdNil_ap, ↓gdCons_ap, ↓gdSeq_ap, ↓dNext_ap, ↓dBreak_ap, ↓dCont_ap, ↓dNever_ap, ↓dDrop_ap, ↓dRet_ap, ↓dRetN_ap, ↓dRetV_ap, ↓dIfS_ap, ↓dAsg_ap, ↓dAsgN_ap, ↓dPar_ap, ↓dPar3_ap, ↓dParT_ap, ↓dIt_ap, ↓dItAny_ap, ↓dItA_ap, ↓dRng1_ap, ↓dRng2_ap, ↓dEnum_ap, ↓dZip_ap, ↓dFor_ap, ↓dWhile_ap, ↓dLc_ap, ↓dRepN_ap, ↓dCatN_ap, ↓dNoPart_ap, ↓dPart_ap, ↓dSl_ap, ↓dSlN_ap, ↓dChain_ap, ↓dListOf_ap, ↓dSortI_ap, ↓dApp_ap, ↓dExt_ap, ↓dSetI_ap, ↓dPop_ap, ↓dPopAt_ap, ↓kNil_ap, ↓kPu_ap, ↓kIo_ap, ↓dCall_ap, ↓kApp_ap, ↓kPerm_ap, ↓dYes_ap, ↓dZipM_ap, dEq, dNe, dEqA, dNeA, dAdd, dI, dI0, dMul, dIx, dIsN, dNotN, dIn, dLen, dInt1, dAbs, dMM, dSum, dMaxL, dMinL, dAll, dTupOf, dIsi, dStrI, dNeg, dSub, dDiv, dMod, dPow, dShl, dShr, dBand, dLt, dLe, dGt, dGe, dCallG, entryN, entry, slotsOf, putOuts, putL, Sl.put, ownL, resolve, look, slD, looks, Sl.ownd, forW, compW, wipeP, backP, D.bls, D.ints, kp, perm, List.filterMap_cons, List.filterMap_nil, List.getElem?_cons_zero, List.getElem?_cons_succ, List.getElem?_nil, List.set_cons_zero, List.set_cons_succ, List.length_cons, List.length_nil, List.replicate_succ, List.replicate_zero, List.append_nil, List.nil_append, List.cons_append, List.map_cons, List.map_nil, Option.bind_some, Option.map_some, Option.isSome_some, Nat.reduceAdd, Nat.reduceSub, Nat.zero_add, Option.bind, Option.map, ↓reduceIte, decide_eq_true_eq, decide_true, decide_false, Bool.false_eq_true, Bool.true_eq_false, Bool.not_true, Bool.not_false, Bool.not_eq_true, Bool.not_eq_false, reduceCtorEq, true_and, and_true, okEq_int, okEq_bl, okEq_non, okEq_ints, okEq_nil, eqv_int, eqv_bl, eqv_nil, List.map_eq_nil_iff, truD, D.isNon, tyName, tyB, tyKnown, isTy, tyBD, List.all_cons, List.all_nil, List.any_cons, List.any_nil, List.contains_cons, List.contains_nil, String.reduceBEq, Bool.true_or, Bool.or_true, Bool.false_or, Bool.or_false, Bool.true_and, Bool.and_true, Bool.false_and, Bool.and_false, cast_0, cast_1, cast_2, cast_3, two_le_size, zero_lt_size, one_lt_size, nodup_nilN, nodup_1, zero_le_size, atI_0, atI_1, atI_2, ixN_30, ixN_31, ixN_32, Option.some.injEq, List.cons.injEq, true_or, or_true, false_or, or_false, isI]; exact k
  · simp (maxSteps := 2000000) only [↓dVar_ap, ↓dC_ap, ↓dEsc_ap, ↓dPure_ap, ↓dOp_ap, ↓dUn_ap, ↓dNil_ap, ↓dCons_ap, ↓hNil_ap, ↓hCons_ap, ↓dCB_ap, ↓dTup_ap, ↓dLst_ap, ↓dTest_ap, ↓dTru_ap, ↓dAnd_ap, ↓dOr_ap, ↓dNot_ap, ↓dAndV_ap, ↓dOrV_ap, ↓dNotV_ap, ↓dIf_ap, ↓mNil_ap, ↓mPu_ap, ↓mOw_ap, ↓gdName_ap, ↓gdNil_ap, ↓gdCons_ap, ↓gdSeq_ap, ↓dNext_ap, ↓dBreak_ap, ↓dCont_ap, ↓dNever_ap, ↓dDrop_ap, ↓dRet_ap, ↓dRetN_ap, ↓dRetV_ap, ↓dIfS_ap, ↓dAsg_ap, ↓dAsgN_ap, ↓dPar_ap, ↓dPar3_ap, ↓dParT_ap, ↓dIt_ap, ↓dItAny_ap, ↓dItA_ap, ↓dRng1_ap, ↓dRng2_ap, ↓dEnum_ap, ↓dZip_ap, ↓dFor_ap, ↓dWhile_ap, ↓dLc_ap, ↓dRepN_ap, ↓dCatN_ap, ↓dNoPart_ap, ↓dPart_ap, ↓dSl_ap, ↓dSlN_ap, ↓dChain_ap, ↓dListOf_ap, ↓dSortI_ap, ↓dApp_ap, ↓dExt_ap, ↓dSetI_ap, ↓dPop_ap, ↓dPopAt_ap, ↓kNil_ap, ↓kPu_ap, ↓kIo_ap, ↓dCall_ap, ↓kApp_ap, ↓kPerm_ap, ↓dYes_ap, ↓dZipM_ap, dEq, dNe, dEqA, dNeA, dAdd, dI, dI0, dMul, dIx, dIsN, dNotN, dIn, dLen, dInt1, dAbs, dMM, dSum, dMaxL, dMinL, dAll, dTupOf, dIsi, dStrI, dNeg, dSub, dDiv, dMod, dPow, dShl, dShr, dBand, dLt, dLe, dGt, dGe, dCallG, entryN, entry, slotsOf, putOuts, putL, Sl.put, ownL, resolve, look, slD, looks, Sl.ownd, forW, compW, wipeP, backP, D.bls, D.ints, kp, perm, List.filterMap_cons, List.filterMap_nil, List.getElem?_cons_zero, List.getElem?_cons_succ, List.getElem?_nil, List.set_cons_zero, List.set_cons_succ, List.length_cons, List.length_nil, List.replicate_succ, List.replicate_zero, List.append_nil, List.nil_append, List.cons_append, List.map_cons, List.map_nil, Option.bind_some, Option.map_some, Option.isSome_some, Nat.reduceAdd, Nat.reduceSub, Nat.zero_add, Option.bind, Option.map, ↓reduceIte, decide_eq_true_eq, decide_true, decide_false, Bool.false_eq_true, Bool.true_eq_false, Bool.not_true, Bool.not_false, Bool.not_eq_true, Bool.not_eq_false, reduceCtorEq, true_and, and_true, okEq_int, okEq_bl, okEq_non, okEq_ints, okEq_nil, eqv_int, eqv_bl, eqv_nil, List.map_eq_nil_iff, truD, D.isNon, tyName, tyB, tyKnown, isTy, tyBD, List.all_cons, List.all_nil, List.any_cons, List.any_nil, List.contains_cons, List.contains_nil, String.reduceBEq, Bool.true_or, Bool.or_true, Bool.false_or, Bool.or_false, Bool.true_and, Bool.and_true, Bool.false_and, Bool.and_false, cast_0, cast_1, cast_2, cast_3, two_le_size, zero_lt_size, one_lt_size, nodup_nilN, nodup_1, zero_le_size, atI_0, atI_1, atI_2, ixN_30, ixN_31, ixN_32, Option.some.injEq, List.cons.injEq, true_or, or_true, false_or, or_false]; refine ⟨_, rfl, hv, ?_⟩
    have e : one6 (.int i) = (decide (1 ≤ i) && decide (i ≤ 1000000)) := rfl
    rw [e] at k
    by_cases g1 : i < 1
    · simp (maxSteps := 2000000) only [↓dVar_ap, ↓dC_ap, ↓dEsc_ap, ↓dPure_ap, ↓dOp_ap, ↓dUn_ap, ↓dNil_ap, ↓dCons_ap, ↓hNil_ap, ↓hCons_ap, ↓dCB_ap, ↓dTup_ap, ↓dLst_ap, ↓dTest_ap, ↓dTru_ap, ↓dAnd_ap, ↓dOr_ap, ↓dNot_ap, ↓dAndV_ap, ↓dOrV_ap, ↓dNotV_ap, ↓dIf_ap, ↓mNil_ap, ↓mPu_ap, ↓mOw_ap, ↓gdName_ap, ↓gdNil_ap, ↓gdCons_ap, ↓gdSeq_ap, ↓dNext_ap, ↓dBreak_ap, ↓dCont_ap, ↓dNever_ap, ↓dDrop_ap, ↓dRet_ap, ↓dRetN_ap, ↓dRetV_ap, ↓dIfS_ap, ↓dAsg_ap, ↓dAsgN_ap, ↓dPar_ap, ↓dPar3_ap, ↓dParT_ap, ↓dIt_ap, ↓dItAny_ap, ↓dItA_ap, ↓dRng1_ap, ↓dRng2_ap, ↓dEnum_ap, ↓dZip_ap, ↓dFor_ap, ↓dWhile_ap, ↓dLc_ap, ↓dRepN_ap, ↓dCatN_ap, ↓dNoPart_ap, ↓dPart_ap, ↓dSl_ap, ↓dSlN_ap, ↓dChain_ap, ↓dListOf_ap, ↓dSortI_ap, ↓dApp_ap, ↓dExt_ap, ↓dSetI_ap, ↓dPop_ap, ↓dPopAt_ap, ↓kNil_ap, ↓kPu_ap, ↓kIo_ap, ↓dCall_ap, ↓kApp_ap, ↓kPerm_ap, ↓dYes_ap, ↓dZipM_ap, dEq, dNe, dEqA, dNeA, dAdd, dI, dI0, dMul, dIx, dIsN, dNotN, dIn, dLen, dInt1, dAbs, dMM, dSum, dMaxL, dMinL, dAll, dTupOf, dIsi, dStrI, dNeg, dSub, dDiv, dMod, dPow, dShl, dShr, dBand, dLt, dLe, dGt, dGe, dCallG, entryN, entry, slotsOf, putOuts, putL, Sl.put, ownL, resolve, look, slD, looks, Sl.ownd, forW, compW, wipeP, backP, D.bls, D.ints, kp, perm, List.filterMap_cons, List.filterMap_nil, List.getElem?_cons_zero, List.getElem?_cons_succ, List.getElem?_nil, List.set_cons_zero, List.set_cons_succ, List.length_cons, List.length_nil, List.replicate_succ, List.replicate_zero, List.append_nil, List.nil_append, List.cons_append, List.map_cons, List.map_nil, Option.bind_some, Option.map_some, Option.isSome_some, Nat.reduceAdd, Nat.reduceSub, Nat.zero_add, Option.bind, Option.map, ↓reduceIte, decide_eq_true_eq, decide_true, decide_false, Bool.false_eq_true, Bool.true_eq_false, Bool.not_true, Bool.not_false, Bool.not_eq_true, Bool.not_eq_false, reduceCtorEq, true_and, and_true, okEq_int, okEq_bl, okEq_non, okEq_ints, okEq_nil, eqv_int, eqv_bl, eqv_nil, List.map_eq_nil_iff, truD, D.isNon, tyName, tyB, tyKnown, isTy, tyBD, List.all_cons, List.all_nil, List.any_cons, List.any_nil, List.contains_cons, List.contains_nil, String.reduceBEq, Bool.true_or, Bool.or_true, Bool.false_or, Bool.or_false, Bool.true_and, Bool.and_true, Bool.false_and, Bool.and_false, cast_0, cast_1, cast_2, cast_3, two_le_size, zero_lt_size, one_lt_size, nodup_nilN, nodup_1, zero_le_size, atI_0, atI_1, atI_2, ixN_30, ixN_31, ixN_32, Option.some.injEq, List.cons.injEq, true_or, or_true, false_or, or_false, isI, g1]
      rw [decide_eq_false (show ¬ 1 ≤ i by omega)] at k
      exact k
    · rw [decide_eq_true (show 1 ≤ i by omega)] at k
      by_cases g2 : 1000000 < i
      · simp (maxSteps := 2000000) only [↓dVar_ap, ↓dC_ap, ↓dEsc_ap, ↓dPure_ap, ↓dOp_ap, ↓dUn_ap, ↓dNil_ap, ↓dCons_ap, ↓hNil_ap, ↓hCons_ap, ↓dCB_ap, ↓dTup_ap, ↓dLst_ap, ↓dTest_ap, ↓dTru_ap, ↓dAnd_ap, ↓dOr_ap, ↓dNot_ap, ↓dAndV_ap, ↓dOrV_ap, ↓dNotV_ap, ↓dIf_ap, ↓mNil_ap, ↓mPu_ap, ↓mOw_ap, ↓gdName_ap, ↓gdNil_ap, ↓gdCons_ap, ↓gdSeq_ap, ↓dNext_ap, ↓dBreak_ap, ↓dCont_ap, ↓dNever_ap, ↓dDrop_ap, ↓dRet_ap, ↓dRetN_ap, ↓dRetV_ap, ↓dIfS_ap, ↓dAsg_ap, ↓dAsgN_ap, ↓dPar_ap, ↓dPar3_ap, ↓dParT_ap, ↓dIt_ap, ↓dItAny_ap, ↓dItA_ap, ↓dRng1_ap, ↓dRng2_ap, ↓dEnum_ap, ↓dZip_ap, ↓dFor_ap, ↓dWhile_ap, ↓dLc_ap, ↓dRepN_ap, ↓dCatN_ap, ↓dNoPart_ap, ↓dPart_ap, ↓dSl_ap, ↓dSlN_ap, ↓dChain_ap, ↓dListOf_ap, ↓dSortI_ap, ↓dApp_ap, ↓dExt_ap, ↓dSetI_ap, ↓dPop_ap, ↓dPopAt_ap, ↓kNil_ap, ↓kPu_ap, ↓kIo_ap, ↓dCall_ap, ↓kApp_ap, ↓kPerm_ap, ↓dYes_ap, ↓dZipM_ap, dEq, dNe, dEqA, dNeA, dAdd, dI, dI0, dMul, dIx, dIsN, dNotN, dIn, dLen, dInt1, dAbs, dMM, dSum, dMaxL, dMinL, dAll, dTupOf, dIsi, dStrI, dNeg, dSub, dDiv, dMod, dPow, dShl, dShr, dBand, dLt, dLe, dGt, dGe, dCallG, entryN, entry, slotsOf, putOuts, putL, Sl.put, ownL, resolve, look, slD, looks, Sl.ownd, forW, compW, wipeP, backP, D.bls, D.ints, kp, perm, List.filterMap_cons, List.filterMap_nil, List.getElem?_cons_zero, List.getElem?_cons_succ, List.getElem?_nil, List.set_cons_zero, List.set_cons_succ, List.length_cons, List.length_nil, List.replicate_succ, List.replicate_zero, List.append_nil, List.nil_append, List.cons_append, List.map_cons, List.map_nil, Option.bind_some, Option.map_some, Option.isSome_some, Nat.reduceAdd, Nat.reduceSub, Nat.zero_add, Option.bind, Option.map, ↓reduceIte, decide_eq_true_eq, decide_true, decide_false, Bool.false_eq_true, Bool.true_eq_false, Bool.not_true, Bool.not_false, Bool.not_eq_true, Bool.not_eq_false, reduceCtorEq, true_and, and_true, okEq_int, okEq_bl, okEq_non, okEq_ints, okEq_nil, eqv_int, eqv_bl, eqv_nil, List.map_eq_nil_iff, truD, D.isNon, tyName, tyB, tyKnown, isTy, tyBD, List.all_cons, List.all_nil, List.any_cons, List.any_nil, List.contains_cons, List.contains_nil, String.reduceBEq, Bool.true_or, Bool.or_true, Bool.false_or, Bool.or_false, Bool.true_and, Bool.and_true, Bool.false_and, Bool.and_false, cast_0, cast_1, cast_2, cast_3, two_le_size, zero_lt_size, one_lt_size, nodup_nilN, nodup_1, zero_le_size, atI_0, atI_1, atI_2, ixN_30, ixN_31, ixN_32, Option.some.injEq, List.cons.injEq, true_or, or_true, false_or, or_false, isI, g1, g2, h6, toNat6, e6]
        rw [decide_eq_false (show ¬ i ≤ 1000000 by omega)] at k
        exact k
      · simp (maxSteps := 2000000) only [↓dVar_ap, ↓dC_ap, ↓dEsc_ap, ↓dPure_ap, ↓dOp_ap, ↓dUn_ap, ↓dNil_ap, ↓dCons_ap, ↓hNil_ap, ↓hCons_ap, ↓dCB_ap, ↓dTup_ap, ↓dLst_ap, ↓dTest_ap, ↓dTru_ap, ↓dAnd_ap, ↓dOr_ap, ↓dNot_ap, ↓dAndV_ap, ↓dOrV_ap, ↓dNotV_ap, ↓dIf_ap, ↓mNil_ap, ↓mPu_ap, ↓mOw_ap, ↓gdName_ap, ↓gdNil_ap, ↓gdCons_ap, ↓gdSeq_ap, ↓dNext_ap, ↓dBreak_ap, ↓dCont_ap, ↓dNever_ap, ↓dDrop_ap, ↓dRet_ap, ↓dRetN_ap, ↓dRetV_ap, ↓dIfS_ap, ↓dAsg_ap, ↓dAsgN_ap, ↓dPar_ap, ↓dPar3_ap, ↓dParT_ap, ↓dIt_ap, ↓dItAny_ap, ↓dItA_ap, ↓dRng1_ap, ↓dRng2_ap, ↓dEnum_ap, ↓dZip_ap, ↓dFor_ap, ↓dWhile_ap, ↓dLc_ap, ↓dRepN_ap, ↓dCatN_ap, ↓dNoPart_ap, ↓dPart_ap, ↓dSl_ap, ↓dSlN_ap, ↓dChain_ap, ↓dListOf_ap, ↓dSortI_ap, ↓dApp_ap, ↓dExt_ap, ↓dSetI_ap, ↓dPop_ap, ↓dPopAt_ap, ↓kNil_ap, ↓kPu_ap, ↓kIo_ap, ↓dCall_ap, ↓kApp_ap, ↓kPerm_ap, ↓dYes_ap, ↓dZipM_ap, dEq, dNe, dEqA, dNeA, dAdd, dI, dI0, dMul, dIx, dIsN, dNotN, dIn, dLen, dInt1, dAbs, dMM, dSum, dMaxL, dMinL, dAll, dTupOf, dIsi, dStrI, dNeg, dSub, dDiv, dMod, dPow, dShl, dShr, dBand, dLt, dLe, dGt, dGe, dCallG, entryN, entry, slotsOf, putOuts, putL, Sl.put, ownL, resolve, look, slD, looks, Sl.ownd, forW, compW, wipeP, backP, D.bls, D.ints, kp, perm, List.filterMap_cons, List.filterMap_nil, List.getElem?_cons_zero, List.getElem?_cons_succ, List.getElem?_nil, List.set_cons_zero, List.set_cons_succ, List.length_cons, List.length_nil, List.replicate_succ, List.replicate_zero, List.append_nil, List.nil_append, List.cons_append, List.map_cons, List.map_nil, Option.bind_some, Option.map_some, Option.isSome_some, Nat.reduceAdd, Nat.reduceSub, Nat.zero_add, Option.bind, Option.map, ↓reduceIte, decide_eq_true_eq, decide_true, decide_false, Bool.false_eq_true, Bool.true_eq_false, Bool.not_true, Bool.not_false, Bool.not_eq_true, Bool.not_eq_false, reduceCtorEq, true_and, and_true, okEq_int, okEq_bl, okEq_non, okEq_ints, okEq_nil, eqv_int, eqv_bl, eqv_nil, List.map_eq_nil_iff, truD, D.isNon, tyName, tyB, tyKnown, isTy, tyBD, List.all_cons, List.all_nil, List.any_cons, List.any_nil, List.contains_cons, List.contains_nil, String.reduceBEq, Bool.true_or, Bool.or_true, Bool.false_or, Bool.or_false, Bool.true_and, Bool.and_true, Bool.false_and, Bool.and_false, cast_0, cast_1, cast_2, cast_3, two_le_size, zero_lt_size, one_lt_size, nodup_nilN, nodup_1, zero_le_size, atI_0, atI_1, atI_2, ixN_30, ixN_31, ixN_32, Option.some.injEq, List.cons.injEq, true_or, or_true, false_or, or_false, isI, g1, g2, h6, toNat6, e6]
        rw [decide_eq_true (show i ≤ 1000000 by omega)] at k
        exact k
  · simp (maxSteps := 2000000) only [↓dVar_ap, ↓dC_ap, ↓dEsc_ap, ↓dPure_ap, ↓dOp_ap, ↓dUn_ap, ↓dNil_ap, ↓dCons_ap, ↓hNil_ap, ↓hCons_ap, ↓dCB_ap, ↓dTup_ap, ↓dLst_ap, ↓dTest_ap, ↓dTru_ap, ↓dAnd_ap, ↓dOr_ap, ↓dNot_ap, ↓dAndV_ap, ↓dOrV_ap, ↓dNotV_ap, ↓dIf_ap, ↓mNil_ap, ↓mPu_ap, ↓mOw_ap, ↓gdName_ap, ↓gdNil_ap, ↓gdCons_ap, ↓gdSeq_ap, ↓dNext_ap, ↓dBreak_ap, ↓dCont_ap, ↓dNever_ap, ↓dDrop_ap, ↓dRet_ap, ↓dRetN_ap, ↓dRetV_ap, ↓dIfS_ap, ↓dAsg_ap, ↓dAsgN_ap, ↓dPar_ap, ↓dPar3_ap, ↓dParT_ap, ↓dIt_ap, ↓dItAny_ap, ↓dItA_ap, ↓dRng1_ap, ↓dRng2_ap, ↓dEnum_ap, ↓dZip_ap, ↓dFor_ap, ↓dWhile_ap, ↓dLc_ap, ↓dRepN_ap, ↓dCatN_ap, ↓dNoPart_ap, ↓dPart_ap, ↓dSl_ap, ↓dSlN_ap, ↓dChain_ap, ↓dListOf_ap, ↓dSortI_ap, ↓dApp_ap, ↓dExt_ap, ↓dSetI_ap, ↓dPop_ap, ↓dPopAt_ap, ↓kNil_ap, ↓kPu_ap, ↓kIo_ap, ↓dCall_ap, ↓kApp_ap, ↓kPerm_ap, ↓dYes_ap, ↓dZipM_ap, dEq, dNe, dEqA, dNeA, dAdd, dI, dI0, dMul, dIx, dIsN, dNotN, dIn, dLen, dInt1, dAbs, dMM, dSum, dMaxL, dMinL, dAll, dTupOf, dIsi, dStrI, dNeg, dSub, dDiv, dMod, dPow, dShl, dShr, dBand, dLt, dLe, dGt, dGe, dCallG, entryN, entry, slotsOf, putOuts, putL, Sl.put, ownL, resolve, look, slD, looks, Sl.ownd, forW, compW, wipeP, backP, D.bls, D.ints, kp, perm, List.filterMap_cons, List.filterMap_nil, List.getElem?_cons_zero, List.getElem?_cons_succ, List.getElem?_nil, List.set_cons_zero, List.set_cons_succ, List.length_cons, List.length_nil, List.replicate_succ, List.replicate_zero, List.append_nil, List.nil_append, List.cons_append, List.map_cons, List.map_nil, Option.bind_some, Option.map_some, Option.isSome_some, Nat.reduceAdd, Nat.reduceSub, Nat.zero_add, Option.bind, Option.map, ↓reduceIte, decide_eq_true_eq, decide_true, decide_false, Bool.false_eq_true, Bool.true_eq_false, Bool.not_true, Bool.not_false, Bool.not_eq_true, Bool.not_eq_false, reduceCtorEq, true_and, and_true, okEq_int, okEq_bl, okEq_non, okEq_ints, okEq_nil, eqv_int, eqv_bl, eqv_nil, List.map_eq_nil_iff, truD, D.isNon, tyName, tyB, tyKnown, isTy, tyBD, List.all_cons, List.all_nil, List.any_cons, List.any_nil, List.contains_cons, List.contains_nil, String.reduceBEq, Bool.true_or, Bool.or_true, Bool.false_or, Bool.or_false, Bool.true_and, Bool.and_true, Bool.false_and, Bool.and_false, cast_0, cast_1, cast_2, cast_3, two_le_size, zero_lt_size, one_lt_size, nodup_nilN, nodup_1, zero_le_size, atI_0, atI_1, atI_2, ixN_30, ixN_31, ixN_32, Option.some.injEq, List.cons.injEq, true_or, or_true, false_or, or_false]; refine ⟨_, rfl, hv, ?_⟩; simp (maxSteps := 2000000) only [↓dVar_ap, ↓dC_ap, ↓dEsc_ap, ↓dPure_ap, ↓dOp_ap, ↓dUn_ap, ↓dNil_ap, ↓dCons_ap, ↓hNil_ap, ↓hCons_ap, ↓dCB_ap, ↓dTup_ap, ↓dLst_ap, ↓dTest_ap, ↓dTru_ap, ↓dAnd_ap, ↓dOr_ap, ↓dNot_ap, ↓dAndV_ap, ↓dOrV_ap, ↓dNotV_ap, ↓dIf_ap, ↓mNil_ap, ↓mPu_ap, ↓mOw_ap, ↓gdName_ap, ↓gdNil_ap, ↓gdCons_ap, ↓gdSeq_ap, ↓dNext_ap, ↓dBreak_ap, ↓dCont_ap, ↓dNever_ap, ↓dDrop_ap, ↓dRet_ap, ↓dRetN_ap, ↓dRetV_ap, ↓dIfS_ap, ↓dAsg_ap, ↓dAsgN_ap, ↓dPar_ap, ↓dPar3_ap, ↓dParT_ap, ↓dIt_ap, ↓dItAny_ap, ↓dItA_ap, ↓dRng1_ap, ↓dRng2_ap, ↓dEnum_ap, ↓dZip_ap, ↓dFor_ap, ↓dWhile_ap, ↓dLc_ap, ↓dRepN_ap, ↓dCatN_ap, ↓dNoPart_ap, ↓dPart_ap, ↓dSl_ap, ↓dSlN_ap, ↓dChain_ap, ↓dListOf_ap, ↓dSortI_ap, ↓dApp_ap, ↓dExt_ap, ↓dSetI_ap, ↓dPop_ap, ↓dPopAt_ap, ↓kNil_ap, ↓kPu_ap, ↓kIo_ap, ↓dCall_ap, ↓kApp_ap, ↓kPerm_ap, ↓dYes_ap, ↓dZipM_ap, dEq, dNe, dEqA, dNeA, dAdd, dI, dI0, dMul, dIx, dIsN, dNotN, dIn, dLen, dInt1, dAbs, dMM, dSum, dMaxL, dMinL, dAll, dTupOf, dIsi, dStrI, dNeg, dSub, dDiv, dMod, dPow, dShl, dShr, dBand, dLt, dLe, dGt, dGe, dCallG, entryN, entry, slotsOf, putOuts, putL, Sl.put, ownL, resolve, look, slD, looks, Sl.ownd, forW, compW, wipeP, backP, D.bls, D.ints, kp, perm, List.filterMap_cons, List.filterMap_nil, List.getElem?_cons_zero, List.getElem?_cons_succ, List.getElem?_nil, List.set_cons_zero, List.set_cons_succ, List.length_cons, List.length_nil, List.replicate_succ, List.replicate_zero, List.append_nil, List.nil_append, List.cons_append, List.map_cons, List.map_nil, Option.bind_some, Option.map_some, Option.isSome_some, Nat.reduceAdd, Nat.reduceSub, Nat.zero_add, Option.bind, Option.map, ↓reduceIte, decide_eq_true_eq, decide_true, decide_false, Bool.false_eq_true, Bool.true_eq_false, Bool.not_true, Bool.not_false, Bool.not_eq_true, Bool.not_eq_false, reduceCtorEq, true_and, and_true, okEq_int, okEq_bl, okEq_non, okEq_ints, okEq_nil, eqv_int, eqv_bl, eqv_nil, List.map_eq_nil_iff, truD, D.isNon, tyName, tyB, tyKnown, isTy, tyBD, List.all_cons, List.all_nil, List.any_cons, List.any_nil, List.contains_cons, List.contains_nil, String.reduceBEq, Bool.true_or, Bool.or_true, Bool.false_or, Bool.or_false, Bool.true_and, Bool.and_true, Bool.false_and, Bool.and_false, cast_0, cast_1, cast_2, cast_3, two_le_size, zero_lt_size, one_lt_size, nodup_nilN, nodup_1, zero_le_size, atI_0, atI_1, atI_2, ixN_30, ixN_31, ixN_32, Option.some.injEq, List.cons.injEq, true_or, or_true, false_or, or_false, isI]; exact k
  · simp (maxSteps := 2000000) only [↓dVar_ap, ↓dC_ap, ↓dEsc_ap, ↓dPure_ap, ↓dOp_ap, ↓dUn_ap, ↓dNil_ap, ↓dCons_ap, ↓hNil_ap, ↓hCons_ap, ↓dCB_ap, ↓dTup_ap, ↓dLst_ap, ↓dTest_ap, ↓dTru_ap, ↓dAnd_ap, ↓dOr_ap, ↓dNot_ap, ↓dAndV_ap, ↓dOrV_ap, ↓dNotV_ap, ↓dIf_ap, ↓mNil_ap, ↓mPu_ap, ↓mOw_ap, ↓gdName_ap, ↓gdNil_ap, ↓gdCons_ap, ↓gdSeq_ap, ↓dNext_ap, ↓dBreak_ap, ↓dCont_ap, ↓dNever_ap, ↓dDrop_ap, ↓dRet_ap, ↓dRetN_ap, ↓dRetV_ap, ↓dIfS_ap, ↓dAsg_ap, ↓dAsgN_ap, ↓dPar_ap, ↓dPar3_ap, ↓dParT_ap, ↓dIt_ap, ↓dItAny_ap, ↓dItA_ap, ↓dRng1_ap, ↓dRng2_ap, ↓dEnum_ap, ↓dZip_ap, ↓dFor_ap, ↓dWhile_ap, ↓dLc_ap, ↓dRepN_ap, ↓dCatN_ap, ↓dNoPart_ap, ↓dPart_ap, ↓dSl_ap, ↓dSlN_ap, ↓dChain_ap, ↓dListOf_ap, ↓dSortI_ap, ↓dApp_ap, ↓dExt_ap, ↓dSetI_ap, ↓dPop_ap, ↓dPopAt_ap, ↓kNil_ap, ↓kPu_ap, ↓kIo_ap, ↓dCall_ap, ↓kApp_ap, ↓kPerm_ap, ↓dYes_ap, ↓dZipM_ap, dEq, dNe, dEqA, dNeA, dAdd, dI, dI0, dMul, dIx, dIsN, dNotN, dIn, dLen, dInt1, dAbs, dMM, dSum, dMaxL, dMinL, dAll, dTupOf, dIsi, dStrI, dNeg, dSub, dDiv, dMod, dPow, dShl, dShr, dBand, dLt, dLe, dGt, dGe, dCallG, entryN, entry, slotsOf, putOuts, putL, Sl.put, ownL, resolve, look, slD, looks, Sl.ownd, forW, compW, wipeP, backP, D.bls, D.ints, kp, perm, List.filterMap_cons, List.filterMap_nil, List.getElem?_cons_zero, List.getElem?_cons_succ, List.getElem?_nil, List.set_cons_zero, List.set_cons_succ, List.length_cons, List.length_nil, List.replicate_succ, List.replicate_zero, List.append_nil, List.nil_append, List.cons_append, List.map_cons, List.map_nil, Option.bind_some, Option.map_some, Option.isSome_some, Nat.reduceAdd, Nat.reduceSub, Nat.zero_add, Option.bind, Option.map, ↓reduceIte, decide_eq_true_eq, decide_true, decide_false, Bool.false_eq_true, Bool.true_eq_false, Bool.not_true, Bool.not_false, Bool.not_eq_true, Bool.not_eq_false, reduceCtorEq, true_and, and_true, okEq_int, okEq_bl, okEq_non, okEq_ints, okEq_nil, eqv_int, eqv_bl, eqv_nil, List.map_eq_nil_iff, truD, D.isNon, tyName, tyB, tyKnown, isTy, tyBD, List.all_cons, List.all_nil, List.any_cons, List.any_nil, List.contains_cons, List.contains_nil, String.reduceBEq, Bool.true_or, Bool.or_true, Bool.false_or, Bool.or_false, Bool.true_and, Bool.and_true, Bool.false_and, Bool.and_false, cast_0, cast_1, cast_2, cast_3, two_le_size, zero_lt_size, one_lt_size, nodup_nilN, nodup_1, zero_le_size, atI_0, atI_1, atI_2, ixN_30, ixN_31, ixN_32, Option.some.injEq, List.cons.injEq, true_or, or_true, false_or, or_false]; refine ⟨_, rfl, hv, ?_⟩; simp (maxSteps := 2000000) only [↓dVar_ap, ↓dC_ap, ↓dEsc_ap, ↓dPure_ap, ↓dOp_ap, ↓dUn_ap, ↓dNil_ap, ↓dCons_ap, ↓hNil_ap, ↓hCons_ap, ↓dCB_ap, ↓dTup_ap, ↓dLst_ap, ↓dTest_ap, ↓dTru_ap, ↓dAnd_ap, ↓dOr_ap, ↓dNot_ap, ↓dAndV_ap, ↓dOrV_ap, ↓dNotV_ap, ↓dIf_ap, ↓mNil_ap, ↓mPu_ap, ↓mOw_ap, ↓gdName_ap, ↓gdNil_ap, ↓gdCons_ap, ↓gdSeq_ap, ↓dNext_ap, ↓dBreak_ap, ↓dCont_ap, ↓dNever_ap, ↓dDrop_ap, ↓dRet_ap, ↓dRetN_ap, ↓dRetV_ap, ↓dIfS_ap, ↓dAsg_ap, ↓dAsgN_ap, ↓dPar_ap, ↓dPar3_ap, ↓dParT_ap, ↓dIt_ap, ↓dItAny_ap, ↓dItA_ap, ↓dRng1_ap, ↓dRng2_ap, ↓dEnum_ap, ↓dZip_ap, ↓dFor_ap, ↓dWhile_ap, ↓dLc_ap, ↓dRepN_ap, ↓dCatN_ap, ↓dNoPart_ap, ↓dPart_ap, ↓dSl_ap, ↓dSlN_ap, ↓dChain_ap, ↓dListOf_ap, ↓dSortI_ap, ↓dApp_ap, ↓dExt_ap, ↓dSetI_ap, ↓dPop_ap, ↓dPopAt_ap, ↓kNil_ap, ↓kPu_ap, ↓kIo_ap, ↓dCall_ap, ↓kApp_ap, ↓kPerm_ap, ↓dYes_ap, ↓dZipM_ap, dEq, dNe, dEqA, dNeA, dAdd, dI, dI0, dMul, dIx, dIsN, dNotN, dIn, dLen, dInt1, dAbs, dMM, dSum, dMaxL, dMinL, dAll, dTupOf, dIsi, dStrI, dNeg, dSub, dDiv, dMod, dPow, dShl, dShr, dBand, dLt, dLe, dGt, dGe, dCallG, entryN, entry, slotsOf, putOuts, putL, Sl.put, ownL, resolve, look, slD, looks, Sl.ownd, forW, compW, wipeP, backP, D.bls, D.ints, kp, perm, List.filterMap_cons, List.filterMap_nil, List.getElem?_cons_zero, List.getElem?_cons_succ, List.getElem?_nil, List.set_cons_zero, List.set_cons_succ, List.length_cons, List.length_nil, List.replicate_succ, List.replicate_zero, List.append_nil, List.nil_append, List.cons_append, List.map_cons, List.map_nil, Option.bind_some, Option.map_some, Option.isSome_some, Nat.reduceAdd, Nat.reduceSub, Nat.zero_add, Option.bind, Option.map, ↓reduceIte, decide_eq_true_eq, decide_true, decide_false, Bool.false_eq_true, Bool.true_eq_false, Bool.not_true, Bool.not_false, Bool.not_eq_true, Bool.not_eq_false, reduceCtorEq, true_and, and_true, okEq_int, okEq_bl, okEq_non, okEq_ints, okEq_nil, eqv_int, eqv_bl, eqv_nil, List.map_eq_nil_iff, truD, D.isNon, tyName, tyB, tyKnown, isTy, tyBD, List.all_cons, List.all_nil, List.any_cons, List.any_nil, List.contains_cons, List.contains_nil, String.reduceBEq, Bool.true_or, Bool.or_true, Bool.false_or, Bool.or_false, Bool.true_and, Bool.and_true, Bool.false_and, Bool.and_false, cast_0, cast_1, cast_2, cast_3, two_le_size, zero_lt_size, one_lt_size, nodup_nilN, nodup_1, zero_le_size, atI_0, atI_1, atI_2, ixN_30, ixN_31, ixN_32, Option.some.injEq, List.cons.injEq, true_or, or_true, false_or, or_false, isI]; exact k
theorem st_pair {Dd : DEnds} {x0 x1 x2 x4 x5 x6 x7 x8 x9 x10 x11 : Sl} {v : D} (hv : Val v) (k : Dd.nx [x0, x1, x2, .pu v, x4, x5, x6, x7, x8, .pu (.bl (isP v)), x10, x11, .un]) :
    (dAsg (dEsc (dAndV (dCB dIsi (hCons (dVar 3) (hCons (dPure (dTup (dCons (dEsc (dC (.ty "list"))) (dCons (dEsc (dC (.ty "tuple"))) dNil)))) hNil))) (dAndV (dOp dEqA (dCB dLen (hCons (dVar 3) hNil)) (dC (.int 2))) (dOp dEqA (dPure (dLc (dItA 3) (gdName 12) (dOr (dNot (dTru (dPure (dCall [false] sp__law_is_integer (kPu (dEsc (dVar 12)) kNil))))) (dOr (dTest (dOp dLt (dVar 12) (dC (.int 1)))) (dTest (dOp dGt (dVar 12) (dOp dPow (dC (.int 10)) (dC (.int 6))))))) (dEsc (dVar 12)) [12])) (dPure (dLst dNil)))))) (gdName 9)) Dd [x0, x1, x2, .pu v, x4, x5, x6, x7, x8, x9, x10, x11, .un] := by
  rcases hv with rfl | ⟨b, rfl⟩ | ⟨i, rfl⟩ | ⟨z, rfl, hz⟩ | ⟨l, rfl | rfl, hl, he⟩ | ⟨ks, ds, rfl⟩
  · simp (maxSteps := 2000000) only [↓dVar_ap, ↓dC_ap, ↓dEsc_ap, ↓dPure_ap, ↓dOp_ap, ↓dUn_ap, ↓dNil_ap, ↓dCons_ap, ↓hNil_ap, ↓hCons_ap, ↓dCB_ap, ↓dTup_ap, ↓dLst_ap, ↓dTest_ap, ↓dTru_ap, ↓dAnd_ap, ↓dOr_ap, ↓dNot_ap, ↓dAndV_ap, ↓dOrV_ap, ↓dNotV_ap, ↓dIf_ap, ↓mNil_ap, ↓mPu_ap, ↓mOw_ap, ↓gdName_ap, ↓gdNil_ap, ↓gdCons_ap, ↓gdSeq_ap, ↓dNext_ap, ↓dBreak_ap, ↓dCont_ap, ↓dNever_ap, ↓dDrop_ap, ↓dRet_ap, ↓dRetN_ap, ↓dRetV_ap, ↓dIfS_ap, ↓dAsg_ap, ↓dAsgN_ap, ↓dPar_ap, ↓dPar3_ap, ↓dParT_ap, ↓dIt_ap, ↓dItAny_ap, ↓dItA_ap, ↓dRng1_ap, ↓dRng2_ap, ↓dEnum_ap, ↓dZip_ap, ↓dFor_ap, ↓dWhile_ap, ↓dLc_ap, ↓dRepN_ap, ↓dCatN_ap, ↓dNoPart_ap, ↓dPart_ap, ↓dSl_ap, ↓dSlN_ap, ↓dChain_ap, ↓dListOf_ap, ↓dSortI_ap, ↓dApp_ap, ↓dExt_ap, ↓dSetI_ap, ↓dPop_ap, ↓dPopAt_ap, ↓kNil_ap, ↓kPu_ap, ↓kIo_ap, ↓dCall_ap, ↓kApp_ap, ↓kPerm_ap, ↓dYes_ap, ↓dZipM_ap, dEq, dNe, dEqA, dNeA, dAdd, dI, dI0, dMul, dIx, dIsN, dNotN, dIn, dLen, dInt1, dAbs, dMM, dSum, dMaxL, dMinL, dAll, dTupOf, dIsi, dStrI, dNeg, dSub, dDiv, dMod, dPow, dShl, dShr, dBand, dLt, dLe, dGt, dGe, dCallG, entryN, entry, slotsOf, putOuts, putL, Sl.put, ownL, resolve, look, slD, looks, Sl.ownd, forW, compW, wipeP, backP, D.bls, D.ints, kp, perm, List.filterMap_cons, List.filterMap_nil, List.getElem?_cons_zero, List.getElem?_cons_succ, List.getElem?_nil, List.set_cons_zero, List.set_cons_succ, List.length_cons, List.length_nil, List.replicate_succ, List.replicate_zero, List.append_nil, List.nil_append, List.cons_append, List.map_cons, List.map_nil, Option.bind_some, Option.map_some, Option.isSome_some, Nat.reduceAdd, Nat.reduceSub, Nat.zero_add, Option.bind, Option.map, ↓reduceIte, decide_eq_true_eq, decide_true, decide_false, Bool.false_eq_true, Bool.true_eq_false, Bool.not_true, Bool.not_false, Bool.not_eq_true, Bool.not_eq_false, reduceCtorEq, true_and, and_true, okEq_int, okEq_bl, okEq_non, okEq_ints, okEq_nil, eqv_int, eqv_bl, eqv_nil, List.map_eq_nil_iff, truD, D.isNon, tyName, tyB, tyKnown, isTy, tyBD, List.all_cons, List.all_nil, List.any_cons, List.any_nil, List.contains_cons, List.contains_nil, String.reduceBEq, Bool.true_or, Bool.or_true, Bool.false_or, Bool.or_false, Bool.true_and, Bool.and_true, Bool.false_and, Bool.and_false, cast_0, cast_1, cast_2, cast_3, two_le_size, zero_lt_size, one_lt_size, nodup_nilN, nodup_1, zero_le_size, atI_0, atI_1, atI_2, ixN_30, ixN_31, ixN_32, Option.some.injEq, List.cons.injEq, true_or, or_true, false_or, or_false]; exact k
  · simp (maxSteps := 2000000) only [↓dVar_ap, ↓dC_ap, ↓dEsc_ap, ↓dPure_ap, ↓dOp_ap, ↓dUn_ap, ↓dNil_ap, ↓dCons_ap, ↓hNil_ap, ↓hCons_ap, ↓dCB_ap, ↓dTup_ap, ↓dLst_ap, ↓dTest_ap, ↓dTru_ap, ↓dAnd_ap, ↓dOr_ap, ↓dNot_ap, ↓dAndV_ap, ↓dOrV_ap, ↓dNotV_ap, ↓dIf_ap, ↓mNil_ap, ↓mPu_ap, ↓mOw_ap, ↓gdName_ap, ↓gdNil_ap, ↓gdCons_ap, ↓gdSeq_ap, ↓dNext_ap, ↓dBreak_ap, ↓dCont_ap, ↓dNever_ap, ↓dDrop_ap, ↓dRet_ap, ↓dRetN_ap, ↓dRetV_ap, ↓dIfS_ap, ↓dAsg_ap, ↓dAsgN_ap, ↓dPar_ap, ↓dPar3_ap, ↓dParT_ap, ↓dIt_ap, ↓dItAny_ap, ↓dItA_ap, ↓dRng1_ap, ↓dRng2_ap, ↓dEnum_ap, ↓dZip_ap, ↓dFor_ap, ↓dWhile_ap, ↓dLc_ap, ↓dRepN_ap, ↓dCatN_ap, ↓dNoPart_ap, ↓dPart_ap, ↓dSl_ap, ↓dSlN_ap, ↓dChain_ap, ↓dListOf_ap, ↓dSortI_ap, ↓dApp_ap, ↓dExt_ap, ↓dSetI_ap, ↓dPop_ap, ↓dPopAt_ap, ↓kNil_ap, ↓kPu_ap, ↓kIo_ap, ↓dCall_ap, ↓kApp_ap, ↓kPerm_ap, ↓dYes_ap, ↓dZipM_ap, dEq, dNe, dEqA, dNeA, dAdd, dI, dI0, dMul, dIx, dIsN, dNotN, dIn, dLen, dInt1, dAbs, dMM, dSum, dMaxL, dMinL, dAll, dTupOf, dIsi, dStrI, dNeg, dSub, dDiv, dMod, dPow, dShl, dShr, dBand, dLt, dLe, dGt, dGe, dCallG, entryN, entry, slotsOf, putOuts, putL, Sl.put, ownL, resolve, look, slD, looks, Sl.ownd, forW, compW, wipeP, backP, D.bls, D.ints, kp, perm, List.filterMap_cons, List.filterMap_nil, List.getElem?_cons_zero, List.getElem?_cons_succ, List.getElem?_nil, List.set_cons_zero, List.set_cons_succ, List.length_cons, List.length_nil, List.replicate_succ, List.replicate_zero, List.append_nil, List.nil_append, List.cons_append, List.map_cons, List.map_nil, Option.bind_some, Option.map_some, Option.isSome_some, Nat.reduceAdd, Nat.reduceSub, Nat.zero_add, Option.bind, Option.map, ↓reduceIte, decide_eq_true_eq, decide_true, decide_false, Bool.false_eq_true, Bool.true_eq_false, Bool.not_true, Bool.not_false, Bool.not_eq_true, Bool.not_eq_false, reduceCtorEq, true_and, and_true, okEq_int, okEq_bl, okEq_non, okEq_ints, okEq_nil, eqv_int, eqv_bl, eqv_nil, List.map_eq_nil_iff, truD, D.isNon, tyName, tyB, tyKnown, isTy, tyBD, List.all_cons, List.all_nil, List.any_cons, List.any_nil, List.contains_cons, List.contains_nil, String.reduceBEq, Bool.true_or, Bool.or_true, Bool.false_or, Bool.or_false, Bool.true_and, Bool.and_true, Bool.false_and, Bool.and_false, cast_0, cast_1, cast_2, cast_3, two_le_size, zero_lt_size, one_lt_size, nodup_nilN, nodup_1, zero_le_size, atI_0, atI_1, atI_2, ixN_30, ixN_31, ixN_32, Option.some.injEq, List.cons.injEq, true_or, or_true, false_or, or_false]; exact k
  · simp (maxSteps := 2000000) only [↓dVar_ap, ↓dC_ap, ↓dEsc_ap, ↓dPure_ap, ↓dOp_ap, ↓dUn_ap, ↓dNil_ap, ↓dCons_ap, ↓hNil_ap, ↓hCons_ap, ↓dCB_ap, ↓dTup_ap, ↓dLst_ap, ↓dTest_ap, ↓dTru_ap, ↓dAnd_ap, ↓dOr_ap, ↓dNot_ap, ↓dAndV_ap, ↓dOrV_ap, ↓dNotV_ap, ↓dIf_ap, ↓mNil_ap, ↓mPu_ap, ↓mOw_ap, ↓gdName_ap, ↓gdNil_ap, ↓gdCons_ap, ↓gdSeq_ap, ↓dNext_ap, ↓dBreak_ap, ↓dCont_ap, ↓dNever_ap, ↓dDrop_ap, ↓dRet_ap, ↓dRetN_ap, ↓dRetV_ap, ↓dIfS_ap, ↓dAsg_ap, ↓dAsgN_ap, ↓dPar_ap, ↓dPar3_ap, ↓dParT_ap, ↓dIt_ap, ↓dItAny_ap, ↓dItA_ap, ↓dRng1_ap, ↓dRng2_ap, ↓dEnum_ap, ↓dZip_ap, ↓dFor_ap, ↓dWhile_ap, ↓dLc_ap, ↓dRepN_ap, ↓dCatN_ap, ↓dNoPart_ap, ↓dPart_ap, ↓dSl_ap, ↓dSlN_ap, ↓dChain_ap, ↓dListOf_ap, ↓dSortI_ap, ↓dApp_ap, ↓dExt_ap, ↓dSetI_ap, ↓dPop_ap, ↓dPopAt_ap, ↓kNil_ap, ↓kPu_ap, ↓kIo_ap, ↓dCall_ap, ↓kApp_ap, ↓kPerm_ap, ↓dYes_ap, ↓dZipM_ap, dEq, dNe, dEqA, dNeA, dAdd, dI, dI0, dMul, dIx, dIsN, dNotN, dIn, dLen, dInt1, dAbs, dMM, dSum, dMaxL, dMinL, dAll, dTupOf, dIsi, dStrI, dNeg, dSub, dDiv, dMod, dPow, dShl, dShr, dBand, dLt, dLe, dGt, dGe, dCallG, entryN, entry, slotsOf, putOuts, putL, Sl.put, ownL, resolve, look, slD, looks, Sl.ownd, forW, compW, wipeP, backP, D.bls, D.ints, kp, perm, List.filterMap_cons, List.filterMap_nil, List.getElem?_cons_zero, List.getElem?_cons_succ, List.getElem?_nil, List.set_cons_zero, List.set_cons_succ, List.length_cons, List.length_nil, List.replicate_succ, List.replicate_zero, List.append_nil, List.nil_append, List.cons_append, List.map_cons, List.map_nil, Option.bind_some, Option.map_some, Option.isSome_some, Nat.reduceAdd, Nat.reduceSub, Nat.zero_add, Option.bind, Option.map, ↓reduceIte, decide_eq_true_eq, decide_true, decide_false, Bool.false_eq_true, Bool.true_eq_false, Bool.not_true, Bool.not_false, Bool.not_eq_true, Bool.not_eq_false, reduceCtorEq, true_and, and_true, okEq_int, okEq_bl, okEq_non, okEq_ints, okEq_nil, eqv_int, eqv_bl, eqv_nil, List.map_eq_nil_iff, truD, D.isNon, tyName, tyB, tyKnown, isTy, tyBD, List.all_cons, List.all_nil, List.any_cons, List.any_nil, List.contains_cons, List.contains_nil, String.reduceBEq, Bool.true_or, Bool.or_true, Bool.false_or, Bool.or_false, Bool.true_and, Bool.and_true, Bool.false_and, Bool.and_false, cast_0, cast_1, cast_2, cast_3, two_le_size, zero_lt_size, one_lt_size, nodup_nilN, nodup_1, zero_le_size, atI_0, atI_1, atI_2, ixN_30, ixN_31, ixN_32, Option.some.injEq, List.cons.injEq, true_or, or_true, false_or, or_false]; exact k
  · simp (maxSteps := 2000000) only [↓dVar_ap, ↓dC_ap, ↓dEsc_ap, ↓dPure_ap, ↓dOp_ap, ↓dUn_ap, ↓dNil_ap, ↓dCons_ap, ↓hNil_ap, ↓hCons_ap, ↓dCB_ap, ↓dTup_ap, ↓dLst_ap, ↓dTest_ap, ↓dTru_ap, ↓dAnd_ap, ↓dOr_ap, ↓dNot_ap, ↓dAndV_ap, ↓dOrV_ap, ↓dNotV_ap, ↓dIf_ap, ↓mNil_ap, ↓mPu_ap, ↓mOw_ap, ↓gdName_ap, ↓gdNil_ap, ↓gdCons_ap, ↓gdSeq_ap, ↓dNext_ap, ↓dBreak_ap, ↓dCont_ap, ↓dNever_ap, ↓dDrop_ap, ↓dRet_ap, ↓dRetN_ap, ↓dRetV_ap, ↓dIfS_ap, ↓dAsg_ap, ↓dAsgN_ap, ↓dPar_ap, ↓dPar3_ap, ↓dParT_ap, ↓dIt_ap, ↓dItAny_ap, ↓dItA_ap, ↓dRng1_ap, ↓dRng2_ap, ↓dEnum_ap, ↓dZip_ap, ↓dFor_ap, ↓dWhile_ap, ↓dLc_ap, ↓dRepN_ap, ↓dCatN_ap, ↓dNoPart_ap, ↓dPart_ap, ↓dSl_ap, ↓dSlN_ap, ↓dChain_ap, ↓dListOf_ap, ↓dSortI_ap, ↓dApp_ap, ↓dExt_ap, ↓dSetI_ap, ↓dPop_ap, ↓dPopAt_ap, ↓kNil_ap, ↓kPu_ap, ↓kIo_ap, ↓dCall_ap, ↓kApp_ap, ↓kPerm_ap, ↓dYes_ap, ↓dZipM_ap, dEq, dNe, dEqA, dNeA, dAdd, dI, dI0, dMul, dIx, dIsN, dNotN, dIn, dLen, dInt1, dAbs, dMM, dSum, dMaxL, dMinL, dAll, dTupOf, dIsi, dStrI, dNeg, dSub, dDiv, dMod, dPow, dShl, dShr, dBand, dLt, dLe, dGt, dGe, dCallG, entryN, entry, slotsOf, putOuts, putL, Sl.put, ownL, resolve, look, slD, looks, Sl.ownd, forW, compW, wipeP, backP, D.bls, D.ints, kp, perm, List.filterMap_cons, List.filterMap_nil, List.getElem?_cons_zero, List.getElem?_cons_succ, List.getElem?_nil, List.set_cons_zero, List.set_cons_succ, List.length_cons, List.length_nil, List.replicate_succ, List.replicate_zero, List.append_nil, List.nil_append, List.cons_append, List.map_cons, List.map_nil, Option.bind_some, Option.map_some, Option.isSome_some, Nat.reduceAdd, Nat.reduceSub, Nat.zero_add, Option.bind, Option.map, ↓reduceIte, decide_eq_true_eq, decide_true, decide_false, Bool.false_eq_true, Bool.true_eq_false, Bool.not_true, Bool.not_false, Bool.not_eq_true, Bool.not_eq_false, reduceCtorEq, true_and, and_true, okEq_int, okEq_bl, okEq_non, okEq_ints, okEq_nil, eqv_int, eqv_bl, eqv_nil, List.map_eq_nil_iff, truD, D.isNon, tyName, tyB, tyKnown, isTy, tyBD, List.all_cons, List.all_nil, List.any_cons, List.any_nil, List.contains_cons, List.contains_nil, String.reduceBEq, Bool.true_or, Bool.or_true, Bool.false_or, Bool.or_false, Bool.true_and, Bool.and_true, Bool.false_and, Bool.and_false, cast_0, cast_1, cast_2, cast_3, two_le_size, zero_lt_size, one_lt_size, nodup_nilN, nodup_1, zero_le_size, atI_0, atI_1, atI_2, ixN_30, ixN_31, ixN_32, Option.some.injEq, List.cons.injEq, true_or, or_true, false_or, or_false]; exact k
  · skip
    have hl2 : ∀ pre : List D, pre.length < l.length → (pre.filter fun x => !one6 x).length < sizeLine := fun pre h => by
      have a1 := List.length_filter_le (fun x => !one6 x) pre
      have a4 : sizeLine = 16777216 := by decide
      omega
    by_cases h2 : ((l.length : Nat) : Int) = 2
    · simp (maxSteps := 2000000) only [↓dVar_ap, ↓dC_ap, ↓dEsc_ap, ↓dPure_ap, ↓dOp_ap, ↓dUn_ap, ↓dNil_ap, ↓dCons_ap, ↓hNil_ap, ↓hCons_ap, ↓dCB_ap, ↓dTup_ap, ↓dLst_ap, ↓dTest_ap, ↓dTru_ap, ↓dAnd_ap, ↓dOr_ap, ↓dNot_ap, ↓dAndV_ap, ↓dOrV_ap, ↓dNotV_ap, ↓dIf_ap, ↓mNil_ap, ↓mPu_ap, ↓mOw_ap, ↓gdName_ap, ↓gdNil_ap, ↓gdCons_ap, ↓gdSeq_ap, ↓dNext_ap, ↓dBreak_ap, ↓dCont_ap, ↓dNever_ap, ↓dDrop_ap, ↓dRet_ap, ↓dRetN_ap, ↓dRetV_ap, ↓dIfS_ap, ↓dAsg_ap, ↓dAsgN_ap, ↓dPar_ap, ↓dPar3_ap, ↓dParT_ap, ↓dIt_ap, ↓dItAny_ap, ↓dItA_ap, ↓dRng1_ap, ↓dRng2_ap, ↓dEnum_ap, ↓dZip_ap, ↓dFor_ap, ↓dWhile_ap, ↓dLc_ap, ↓dRepN_ap, ↓dCatN_ap, ↓dNoPart_ap, ↓dPart_ap, ↓dSl_ap, ↓dSlN_ap, ↓dChain_ap, ↓dListOf_ap, ↓dSortI_ap, ↓dApp_ap, ↓dExt_ap, ↓dSetI_ap, ↓dPop_ap, ↓dPopAt_ap, ↓kNil_ap, ↓kPu_ap, ↓kIo_ap, ↓dCall_ap, ↓kApp_ap, ↓kPerm_ap, ↓dYes_ap, ↓dZipM_ap, dEq, dNe, dEqA, dNeA, dAdd, dI, dI0, dMul, dIx, dIsN, dNotN, dIn, dLen, dInt1, dAbs, dMM, dSum, dMaxL, dMinL, dAll, dTupOf, dIsi, dStrI, dNeg, dSub, dDiv, dMod, dPow, dShl, dShr, dBand, dLt, dLe, dGt, dGe, dCallG, entryN, entry, slotsOf, putOuts, putL, Sl.put, ownL, resolve, look, slD, looks, Sl.ownd, forW, compW, wipeP, backP, D.bls, D.ints, kp, perm, List.filterMap_cons, List.filterMap_nil, List.getElem?_cons_zero, List.getElem?_cons_succ, List.getElem?_nil, List.set_cons_zero, List.set_cons_succ, List.length_cons, List.length_nil, List.replicate_succ, List.replicate_zero, List.append_nil, List.nil_append, List.cons_append, List.map_cons, List.map_nil, Option.bind_some, Option.map_some, Option.isSome_some, Nat.reduceAdd, Nat.reduceSub, Nat.zero_add, Option.bind, Option.map, ↓reduceIte, decide_eq_true_eq, decide_true, decide_false, Bool.false_eq_true, Bool.true_eq_false, Bool.not_true, Bool.not_false, Bool.not_eq_true, Bool.not_eq_false, reduceCtorEq, true_and, and_true, okEq_int, okEq_bl, okEq_non, okEq_ints, okEq_nil, eqv_int, eqv_bl, eqv_nil, List.map_eq_nil_iff, truD, D.isNon, tyName, tyB, tyKnown, isTy, tyBD, List.all_cons, List.all_nil, List.any_cons, List.any_nil, List.contains_cons, List.contains_nil, String.reduceBEq, Bool.true_or, Bool.or_true, Bool.false_or, Bool.or_false, Bool.true_and, Bool.and_true, Bool.false_and, Bool.and_false, cast_0, cast_1, cast_2, cast_3, two_le_size, zero_lt_size, one_lt_size, nodup_nilN, nodup_1, zero_le_size, atI_0, atI_1, atI_2, ixN_30, ixN_31, ixN_32, Option.some.injEq, List.cons.injEq, true_or, or_true, false_or, or_false, h2]
      rw [← List.map_id l]
      refine compW_st id (fun pre acc ps => acc = (pre.filter fun x => !one6 x) ∧ ps = [x0, x1, x2, .pu (.lst (l.map id)), x4, x5, x6, x7, x8, x9, x10, x11, .un]) l _ ⟨rfl, rfl⟩ ?_ ?_
      · rintro x pre acc R ps hn hlt ⟨rfl, rfl⟩ kk
        have hh := hl2 pre hlt
        dsimp only [id_eq, gdName_ap, List.set_cons_zero, List.set_cons_succ]
        refine st_each (he x hn) ?_
        cases e : one6 x with
        | true =>
          simp (maxSteps := 2000000) only [↓dVar_ap, ↓dC_ap, ↓dEsc_ap, ↓dPure_ap, ↓dOp_ap, ↓dUn_ap, ↓dNil_ap, ↓dCons_ap, ↓hNil_ap, ↓hCons_ap, ↓dCB_ap, ↓dTup_ap, ↓dLst_ap, ↓dTest_ap, ↓dTru_ap, ↓dAnd_ap, ↓dOr_ap, ↓dNot_ap, ↓dAndV_ap, ↓dOrV_ap, ↓dNotV_ap, ↓dIf_ap, ↓mNil_ap, ↓mPu_ap, ↓mOw_ap, ↓gdName_ap, ↓gdNil_ap, ↓gdCons_ap, ↓gdSeq_ap, ↓dNext_ap, ↓dBreak_ap, ↓dCont_ap, ↓dNever_ap, ↓dDrop_ap, ↓dRet_ap, ↓dRetN_ap, ↓dRetV_ap, ↓dIfS_ap, ↓dAsg_ap, ↓dAsgN_ap, ↓dPar_ap, ↓dPar3_ap, ↓dParT_ap, ↓dIt_ap, ↓dItAny_ap, ↓dItA_ap, ↓dRng1_ap, ↓dRng2_ap, ↓dEnum_ap, ↓dZip_ap, ↓dFor_ap, ↓dWhile_ap, ↓dLc_ap, ↓dRepN_ap, ↓dCatN_ap, ↓dNoPart_ap, ↓dPart_ap, ↓dSl_ap, ↓dSlN_ap, ↓dChain_ap, ↓dListOf_ap, ↓dSortI_ap, ↓dApp_ap, ↓dExt_ap, ↓dSetI_ap, ↓dPop_ap, ↓dPopAt_ap, ↓kNil_ap, ↓kPu_ap, ↓kIo_ap, ↓dCall_ap, ↓kApp_ap, ↓kPerm_ap, ↓dYes_ap, ↓dZipM_ap, dEq, dNe, dEqA, dNeA, dAdd, dI, dI0, dMul, dIx, dIsN, dNotN, dIn, dLen, dInt1, dAbs, dMM, dSum, dMaxL, dMinL, dAll, dTupOf, dIsi, dStrI, dNeg, dSub, dDiv, dMod, dPow, dShl, dShr, dBand, dLt, dLe, dGt, dGe, dCallG, entryN, entry, slotsOf, putOuts, putL, Sl.put, ownL, resolve, look, slD, looks, Sl.ownd, forW, compW, wipeP, backP, D.bls, D.ints, kp, perm, List.filterMap_cons, List.filterMap_nil, List.getElem?_cons_zero, List.getElem?_cons_succ, List.getElem?_nil, List.set_cons_zero, List.set_cons_succ, List.length_cons, List.length_nil, List.replicate_succ, List.replicate_zero, List.append_nil, List.nil_append, List.cons_append, List.map_cons, List.map_nil, Option.bind_some, Option.map_some, Option.isSome_some, Nat.reduceAdd, Nat.reduceSub, Nat.zero_add, Option.bind, Option.map, ↓reduceIte, decide_eq_true_eq, decide_true, decide_false, Bool.false_eq_true, Bool.true_eq_false, Bool.not_true, Bool.not_false, Bool.not_eq_true, Bool.not_eq_false, reduceCtorEq, true_and, and_true, okEq_int, okEq_bl, okEq_non, okEq_ints, okEq_nil, eqv_int, eqv_bl, eqv_nil, List.map_eq_nil_iff, truD, D.isNon, tyName, tyB, tyKnown, isTy, tyBD, List.all_cons, List.all_nil, List.any_cons, List.any_nil, List.contains_cons, List.contains_nil, String.reduceBEq, Bool.true_or, Bool.or_true, Bool.false_or, Bool.or_false, Bool.true_and, Bool.and_true, Bool.false_and, Bool.and_false, cast_0, cast_1, cast_2, cast_3, two_le_size, zero_lt_size, one_lt_size, nodup_nilN, nodup_1, zero_le_size, atI_0, atI_1, atI_2, ixN_30, ixN_31, ixN_32, Option.some.injEq, List.cons.injEq, true_or, or_true, false_or, or_false]
          exact kk _ _ ⟨by rw [List.filter_append]; simp [e], rfl⟩
        | false =>
          simp (maxSteps := 2000000) only [↓dVar_ap, ↓dC_ap, ↓dEsc_ap, ↓dPure_ap, ↓dOp_ap, ↓dUn_ap, ↓dNil_ap, ↓dCons_ap, ↓hNil_ap, ↓hCons_ap, ↓dCB_ap, ↓dTup_ap, ↓dLst_ap, ↓dTest_ap, ↓dTru_ap, ↓dAnd_ap, ↓dOr_ap, ↓dNot_ap, ↓dAndV_ap, ↓dOrV_ap, ↓dNotV_ap, ↓dIf_ap, ↓mNil_ap, ↓mPu_ap, ↓mOw_ap, ↓gdName_ap, ↓gdNil_ap, ↓gdCons_ap, ↓gdSeq_ap, ↓dNext_ap, ↓dBreak_ap, ↓dCont_ap, ↓dNever_ap, ↓dDrop_ap, ↓dRet_ap, ↓dRetN_ap, ↓dRetV_ap, ↓dIfS_ap, ↓dAsg_ap, ↓dAsgN_ap, ↓dPar_ap, ↓dPar3_ap, ↓dParT_ap, ↓dIt_ap, ↓dItAny_ap, ↓dItA_ap, ↓dRng1_ap, ↓dRng2_ap, ↓dEnum_ap, ↓dZip_ap, ↓dFor_ap, ↓dWhile_ap, ↓dLc_ap, ↓dRepN_ap, ↓dCatN_ap, ↓dNoPart_ap, ↓dPart_ap, ↓dSl_ap, ↓dSlN_ap, ↓dChain_ap, ↓dListOf_ap, ↓dSortI_ap, ↓dApp_ap, ↓dExt_ap, ↓dSetI_ap, ↓dPop_ap, ↓dPopAt_ap, ↓kNil_ap, ↓kPu_ap, ↓kIo_ap, ↓dCall_ap, ↓kApp_ap, ↓kPerm_ap, ↓dYes_ap, ↓dZipM_ap, dEq, dNe, dEqA, dNeA, dAdd, dI, dI0, dMul, dIx, dIsN, dNotN, dIn, dLen, dInt1, dAbs, dMM, dSum, dMaxL, dMinL, dAll, dTupOf, dIsi, dStrI, dNeg, dSub, dDiv, dMod, dPow, dShl, dShr, dBand, dLt, dLe, dGt, dGe, dCallG, entryN, entry, slotsOf, putOuts, putL, Sl.put, ownL, resolve, look, slD, looks, Sl.ownd, forW, compW, wipeP, backP, D.bls, D.ints, kp, perm, List.filterMap_cons, List.filterMap_nil, List.getElem?_cons_zero, List.getElem?_cons_succ, List.getElem?_nil, List.set_cons_zero, List.set_cons_succ, List.length_cons, List.length_nil, List.replicate_succ, List.replicate_zero, List.append_nil, List.nil_append, List.cons_append, List.map_cons, List.map_nil, Option.bind_some, Option.map_some, Option.isSome_some, Nat.reduceAdd, Nat.reduceSub, Nat.zero_add, Option.bind, Option.map, ↓reduceIte, decide_eq_true_eq, decide_true, decide_false, Bool.false_eq_true, Bool.true_eq_false, Bool.not_true, Bool.not_false, Bool.not_eq_true, Bool.not_eq_false, reduceCtorEq, true_and, and_true, okEq_int, okEq_bl, okEq_non, okEq_ints, okEq_nil, eqv_int, eqv_bl, eqv_nil, List.map_eq_nil_iff, truD, D.isNon, tyName, tyB, tyKnown, isTy, tyBD, List.all_cons, List.all_nil, List.any_cons, List.any_nil, List.contains_cons, List.contains_nil, String.reduceBEq, Bool.true_or, Bool.or_true, Bool.false_or, Bool.or_false, Bool.true_and, Bool.and_true, Bool.false_and, Bool.and_false, cast_0, cast_1, cast_2, cast_3, two_le_size, zero_lt_size, one_lt_size, nodup_nilN, nodup_1, zero_le_size, atI_0, atI_1, atI_2, ixN_30, ixN_31, ixN_32, Option.some.injEq, List.cons.injEq, true_or, or_true, false_or, or_false, hh]
          exact kk _ _ ⟨by rw [List.filter_append]; simp [e], rfl⟩
      · rintro acc ps ⟨rfl, rfl⟩
        rw [List.map_id]
        have ok : (D.lst (l.filter fun x => !one6 x)).okEq := (Sh.lst (n := 2) fun d hd => (he d (List.mem_filter.mp hd).1).sh).okEq (by decide)
        simp (maxSteps := 2000000) only [↓dVar_ap, ↓dC_ap, ↓dEsc_ap, ↓dPure_ap, ↓dOp_ap, ↓dUn_ap, ↓dNil_ap, ↓dCons_ap, ↓hNil_ap, ↓hCons_ap, ↓dCB_ap, ↓dTup_ap, ↓dLst_ap, ↓dTest_ap, ↓dTru_ap, ↓dAnd_ap, ↓dOr_ap, ↓dNot_ap, ↓dAndV_ap, ↓dOrV_ap, ↓dNotV_ap, ↓dIf_ap, ↓mNil_ap, ↓mPu_ap, ↓mOw_ap, ↓gdName_ap, ↓gdNil_ap, ↓gdCons_ap, ↓gdSeq_ap, ↓dNext_ap, ↓dBreak_ap, ↓dCont_ap, ↓dNever_ap, ↓dDrop_ap, ↓dRet_ap, ↓dRetN_ap, ↓dRetV_ap, ↓dIfS_ap, ↓dAsg_ap, ↓dAsgN_ap, ↓dPar_ap, ↓dPar3_ap, ↓dParT_ap, ↓dIt_ap, ↓dItAny_ap, ↓dItA_ap, ↓dRng1_ap, ↓dRng2_ap, ↓dEnum_ap, ↓dZip_ap, ↓dFor_ap, ↓dWhile_ap, ↓dLc_ap, ↓dRepN_ap, ↓dCatN_ap, ↓dNoPart_ap, ↓dPart_ap, ↓dSl_ap, ↓dSlN_ap, ↓dChain_ap, ↓dListOf_ap, ↓dSortI_ap, ↓dApp_ap, ↓dExt_ap, ↓dSetI_ap, ↓dPop_ap, ↓dPopAt_ap, ↓kNil_ap, ↓kPu_ap, ↓kIo_ap, ↓dCall_ap, ↓kApp_ap, ↓kPerm_ap, ↓dYes_ap, ↓dZipM_ap, dEq, dNe, dEqA, dNeA, dAdd, dI, dI0, dMul, dIx, dIsN, dNotN, dIn, dLen, dInt1, dAbs, dMM, dSum, dMaxL, dMinL, dAll, dTupOf, dIsi, dStrI, dNeg, dSub, dDiv, dMod, dPow, dShl, dShr, dBand, dLt, dLe, dGt, dGe, dCallG, entryN, entry, slotsOf, putOuts, putL, Sl.put, ownL, resolve, look, slD, looks, Sl.ownd, forW, compW, wipeP, backP, D.bls, D.ints, kp, perm, List.filterMap_cons, List.filterMap_nil, List.getElem?_cons_zero, List.getElem?_cons_succ, List.getElem?_nil, List.set_cons_zero, List.set_cons_succ, List.length_cons, List.length_nil, List.replicate_succ, List.replicate_zero, List.append_nil, List.nil_append, List.cons_append, List.map_cons, List.map_nil, Option.bind_some, Option.map_some, Option.isSome_some, Nat.reduceAdd, Nat.reduceSub, Nat.zero_add, Option.bind, Option.map, ↓reduceIte, decide_eq_true_eq, decide_true, decide_false, Bool.false_eq_true, Bool.true_eq_false, Bool.not_true, Bool.not_false, Bool.not_eq_true, Bool.not_eq_false, reduceCtorEq, true_and, and_true, okEq_int, okEq_bl, okEq_non, okEq_ints, okEq_nil, eqv_int, eqv_bl, eqv_nil, List.map_eq_nil_iff, truD, D.isNon, tyName, tyB, tyKnown, isTy, tyBD, List.all_cons, List.all_nil, List.any_cons, List.any_nil, List.contains_cons, List.contains_nil, String.reduceBEq, Bool.true_or, Bool.or_true, Bool.false_or, Bool.or_false, Bool.true_and, Bool.and_true, Bool.false_and, Bool.and_false, cast_0, cast_1, cast_2, cast_3, two_le_size, zero_lt_size, one_lt_size, nodup_nilN, nodup_1, zero_le_size, atI_0, atI_1, atI_2, ixN_30, ixN_31, ixN_32, Option.some.injEq, List.cons.injEq, true_or, or_true, false_or, or_false, ok]
        have e : isP (.lst l) = decide ((l.filter fun x => !one6 x) = []) := by
          unfold isP
          dsimp only
          rw [decide_eq_true (show l.length = 2 by omega), Bool.true_and, Bool.eq_iff_iff, List.all_eq_true, decide_eq_true_iff, List.filter_eq_nil_iff]
          exact ⟨fun h x hx => by rw [h x hx]; decide, fun h x hx => by have := h x hx; cases e : one6 x <;> simp [e] at this ⊢⟩
        rw [e] at k
        exact k
    · simp (maxSteps := 2000000) only [↓dVar_ap, ↓dC_ap, ↓dEsc_ap, ↓dPure_ap, ↓dOp_ap, ↓dUn_ap, ↓dNil_ap, ↓dCons_ap, ↓hNil_ap, ↓hCons_ap, ↓dCB_ap, ↓dTup_ap, ↓dLst_ap, ↓dTest_ap, ↓dTru_ap, ↓dAnd_ap, ↓dOr_ap, ↓dNot_ap, ↓dAndV_ap, ↓dOrV_ap, ↓dNotV_ap, ↓dIf_ap, ↓mNil_ap, ↓mPu_ap, ↓mOw_ap, ↓gdName_ap, ↓gdNil_ap, ↓gdCons_ap, ↓gdSeq_ap, ↓dNext_ap, ↓dBreak_ap, ↓dCont_ap, ↓dNever_ap, ↓dDrop_ap, ↓dRet_ap, ↓dRetN_ap, ↓dRetV_ap, ↓dIfS_ap, ↓dAsg_ap, ↓dAsgN_ap, ↓dPar_ap, ↓dPar3_ap, ↓dParT_ap, ↓dIt_ap, ↓dItAny_ap, ↓dItA_ap, ↓dRng1_ap, ↓dRng2_ap, ↓dEnum_ap, ↓dZip_ap, ↓dFor_ap, ↓dWhile_ap, ↓dLc_ap, ↓dRepN_ap, ↓dCatN_ap, ↓dNoPart_ap, ↓dPart_ap, ↓dSl_ap, ↓dSlN_ap, ↓dChain_ap, ↓dListOf_ap, ↓dSortI_ap, ↓dApp_ap, ↓dExt_ap, ↓dSetI_ap, ↓dPop_ap, ↓dPopAt_ap, ↓kNil_ap, ↓kPu_ap, ↓kIo_ap, ↓dCall_ap, ↓kApp_ap, ↓kPerm_ap, ↓dYes_ap, ↓dZipM_ap, dEq, dNe, dEqA, dNeA, dAdd, dI, dI0, dMul, dIx, dIsN, dNotN, dIn, dLen, dInt1, dAbs, dMM, dSum, dMaxL, dMinL, dAll, dTupOf, dIsi, dStrI, dNeg, dSub, dDiv, dMod, dPow, dShl, dShr, dBand, dLt, dLe, dGt, dGe, dCallG, entryN, entry, slotsOf, putOuts, putL, Sl.put, ownL, resolve, look, slD, looks, Sl.ownd, forW, compW, wipeP, backP, D.bls, D.ints, kp, perm, List.filterMap_cons, List.filterMap_nil, List.getElem?_cons_zero, List.getElem?_cons_succ, List.getElem?_nil, List.set_cons_zero, List.set_cons_succ, List.length_cons, List.length_nil, List.replicate_succ, List.replicate_zero, List.append_nil, List.nil_append, List.cons_append, List.map_cons, List.map_nil, Option.bind_some, Option.map_some, Option.isSome_some, Nat.reduceAdd, Nat.reduceSub, Nat.zero_add, Option.bind, Option.map, ↓reduceIte, decide_eq_true_eq, decide_true, decide_false, Bool.false_eq_true, Bool.true_eq_false, Bool.not_true, Bool.not_false, Bool.not_eq_true, Bool.not_eq_false, reduceCtorEq, true_and, and_true, okEq_int, okEq_bl, okEq_non, okEq_ints, okEq_nil, eqv_int, eqv_bl, eqv_nil, List.map_eq_nil_iff, truD, D.isNon, tyName, tyB, tyKnown, isTy, tyBD, List.all_cons, List.all_nil, List.any_cons, List.any_nil, List.contains_cons, List.contains_nil, String.reduceBEq, Bool.true_or, Bool.or_true, Bool.false_or, Bool.or_false, Bool.true_and, Bool.and_true, Bool.false_and, Bool.and_false, cast_0, cast_1, cast_2, cast_3, two_le_size, zero_lt_size, one_lt_size, nodup_nilN, nodup_1, zero_le_size, atI_0, atI_1, atI_2, ixN_30, ixN_31, ixN_32, Option.some.injEq, List.cons.injEq, true_or, or_true, false_or, or_false, h2]
      have e : isP (.lst l) = false := by
        unfold isP
        dsimp only
        rw [decide_eq_false (show ¬ l.length = 2 by omega), Bool.false_and]
      rw [e] at k
      exact k
  · skip
    have hl2 : ∀ pre : List D, pre.length < l.length → (pre.filter fun x => !one6 x).length < sizeLine := fun pre h => by
      have a1 := List.length_filter_le (fun x => !one6 x) pre
      have a4 : sizeLine = 16777216 := by decide
      omega
    by_cases h2 : ((l.length : Nat) : Int) = 2
    · simp (maxSteps := 2000000) only [↓dVar_ap, ↓dC_ap, ↓dEsc_ap, ↓dPure_ap, ↓dOp_ap, ↓dUn_ap, ↓dNil_ap, ↓dCons_ap, ↓hNil_ap, ↓hCons_ap, ↓dCB_ap, ↓dTup_ap, ↓dLst_ap, ↓dTest_ap, ↓dTru_ap, ↓dAnd_ap, ↓dOr_ap, ↓dNot_ap, ↓dAndV_ap, ↓dOrV_ap, ↓dNotV_ap, ↓dIf_ap, ↓mNil_ap, ↓mPu_ap, ↓mOw_ap, ↓gdName_ap, ↓gdNil_ap, ↓gdCons_ap, ↓gdSeq_ap, ↓dNext_ap, ↓dBreak_ap, ↓dCont_ap, ↓dNever_ap, ↓dDrop_ap, ↓dRet_ap, ↓dRetN_ap, ↓dRetV_ap, ↓dIfS_ap, ↓dAsg_ap, ↓dAsgN_ap, ↓dPar_ap, ↓dPar3_ap, ↓dParT_ap, ↓dIt_ap, ↓dItAny_ap, ↓dItA_ap, ↓dRng1_ap, ↓dRng2_ap, ↓dEnum_ap, ↓dZip_ap, ↓dFor_ap, ↓dWhile_ap, ↓dLc_ap, ↓dRepN_ap, ↓dCatN_ap, ↓dNoPart_ap, ↓dPart_ap, ↓dSl_ap, ↓dSlN_ap, ↓dChain_ap, ↓dListOf_ap, ↓dSortI_ap, ↓dApp_ap, ↓dExt_ap, ↓dSetI_ap, ↓dPop_ap, ↓dPopAt_ap, ↓kNil_ap, ↓kPu_ap, ↓kIo_ap, ↓dCall_ap, ↓kApp_ap, ↓kPerm_ap, ↓dYes_ap, ↓dZipM_ap, dEq, dNe, dEqA, dNeA, dAdd, dI, dI0, dMul, dIx, dIsN, dNotN, dIn, dLen, dInt1, dAbs, dMM, dSum, dMaxL, dMinL, dAll, dTupOf, dIsi, dStrI, dNeg, dSub, dDiv, dMod, dPow, dShl, dShr, dBand, dLt, dLe, dGt, dGe, dCallG, entryN, entry, slotsOf, putOuts, putL, Sl.put, ownL, resolve, look, slD, looks, Sl.ownd, forW, compW, wipeP, backP, D.bls, D.ints, kp, perm, List.filterMap_cons, List.filterMap_nil, List.getElem?_cons_zero, List.getElem?_cons_succ, List.getElem?_nil, List.set_cons_zero, List.set_cons_succ, List.length_cons, List.length_nil, List.replicate_succ, List.replicate_zero, List.append_nil, List.nil_append, List.cons_append, List.map_cons, List.map_nil, Option.bind_some, Option.map_some, Option.isSome_some, Nat.reduceAdd, Nat.reduceSub, Nat.zero_add, Option.bind, Option.map, ↓reduceIte, decide_eq_true_eq, decide_true, decide_false, Bool.false_eq_true, Bool.true_eq_false, Bool.not_true, Bool.not_false, Bool.not_eq_true, Bool.not_eq_false, reduceCtorEq, true_and, and_true, okEq_int, okEq_bl, okEq_non, okEq_ints, okEq_nil, eqv_int, eqv_bl, eqv_nil, List.map_eq_nil_iff, truD, D.isNon, tyName, tyB, tyKnown, isTy, tyBD, List.all_cons, List.all_nil, List.any_cons, List.any_nil, List.contains_cons, List.contains_nil, String.reduceBEq, Bool.true_or, Bool.or_true, Bool.false_or, Bool.or_false, Bool.true_and, Bool.and_true, Bool.false_and, Bool.and_false, cast_0, cast_1, cast_2, cast_3, two_le_size, zero_lt_size, one_lt_size, nodup_nilN, nodup_1, zero_le_size, atI_0, atI_1, atI_2, ixN_30, ixN_31, ixN_32, Option.some.injEq, List.cons.injEq, true_or, or_true, false_or, or_false, h2]
      rw [← List.map_id l]
      refine compW_st id (fun pre acc ps => acc = (pre.filter fun x => !one6 x) ∧ ps = [x0, x1, x2, .pu (.tup (l.map id)), x4, x5, x6, x7, x8, x9, x10, x11, .un]) l _ ⟨rfl, rfl⟩ ?_ ?_
      · rintro x pre acc R ps hn hlt ⟨rfl, rfl⟩ kk
        have hh := hl2 pre hlt
        dsimp only [id_eq, gdName_ap, List.set_cons_zero, List.set_cons_succ]
        refine st_each (he x hn) ?_
        cases e : one6 x with
        | true =>
          simp (maxSteps := 2000000) only [↓dVar_ap, ↓dC_ap, ↓dEsc_ap, ↓dPure_ap, ↓dOp_ap, ↓dUn_ap, ↓dNil_ap, ↓dCons_ap, ↓hNil_ap, ↓hCons_ap, ↓dCB_ap, ↓dTup_ap, ↓dLst_ap, ↓dTest_ap, ↓dTru_ap, ↓dAnd_ap, ↓dOr_ap, ↓dNot_ap, ↓dAndV_ap, ↓dOrV_ap, ↓dNotV_ap, ↓dIf_ap, ↓mNil_ap, ↓mPu_ap, ↓mOw_ap, ↓gdName_ap, ↓gdNil_ap, ↓gdCons_ap, ↓gdSeq_ap, ↓dNext_ap, ↓dBreak_ap, ↓dCont_ap, ↓dNever_ap, ↓dDrop_ap, ↓dRet_ap, ↓dRetN_ap, ↓dRetV_ap, ↓dIfS_ap, ↓dAsg_ap, ↓dAsgN_ap, ↓dPar_ap, ↓dPar3_ap, ↓dParT_ap, ↓dIt_ap, ↓dItAny_ap, ↓dItA_ap, ↓dRng1_ap, ↓dRng2_ap, ↓dEnum_ap, ↓dZip_ap, ↓dFor_ap, ↓dWhile_ap, ↓dLc_ap, ↓dRepN_ap, ↓dCatN_ap, ↓dNoPart_ap, ↓dPart_ap, ↓dSl_ap, ↓dSlN_ap, ↓dChain_ap, ↓dListOf_ap, ↓dSortI_ap, ↓dApp_ap, ↓dExt_ap, ↓dSetI_ap, ↓dPop_ap, ↓dPopAt_ap, ↓kNil_ap, ↓kPu_ap, ↓kIo_ap, ↓dCall_ap, ↓kApp_ap, ↓kPerm_ap, ↓dYes_ap, ↓dZipM_ap, dEq, dNe, dEqA, dNeA, dAdd, dI, dI0, dMul, dIx, dIsN, dNotN, dIn, dLen, dInt1, dAbs, dMM, dSum, dMaxL, dMinL, dAll, dTupOf, dIsi, dStrI, dNeg, dSub, dDiv, dMod, dPow, dShl, dShr, dBand, dLt, dLe, dGt, dGe, dCallG, entryN, entry, slotsOf, putOuts, putL, Sl.put, ownL, resolve, look, slD, looks, Sl.ownd, forW, compW, wipeP, backP, D.bls, D.ints, kp, perm, List.filterMap_cons, List.filterMap_nil, List.getElem?_cons_zero, List.getElem?_cons_succ, List.getElem?_nil, List.set_cons_zero, List.set_cons_succ, List.length_cons, List.length_nil, List.replicate_succ, List.replicate_zero, List.append_nil, List.nil_append, List.cons_append, List.map_cons, List.map_nil, Option.bind_some, Option.map_some, Option.isSome_some, Nat.reduceAdd, Nat.reduceSub, Nat.zero_add, Option.bind, Option.map, ↓reduceIte, decide_eq_true_eq, decide_true, decide_false, Bool.false_eq_true, Bool.true_eq_false, Bool.not_true, Bool.not_false, Bool.not_eq_true, Bool.not_eq_false, reduceCtorEq, true_and, and_true, okEq_int, okEq_bl, okEq_non, okEq_ints, okEq_nil, eqv_int, eqv_bl, eqv_nil, List.map_eq_nil_iff, truD, D.isNon, tyName, tyB, tyKnown, isTy, tyBD, List.all_cons, List.all_nil, List.any_cons, List.any_nil, List.contains_cons, List.contains_nil, String.reduceBEq, Bool.true_or, Bool.or_true, Bool.false_or, Bool.or_false, Bool.true_and, Bool.and_true, Bool.false_and, Bool.and_false, cast_0, cast_1, cast_2, cast_3, two_le_size, zero_lt_size, one_lt_size, nodup_nilN, nodup_1, zero_le_size, atI_0, atI_1, atI_2, ixN_30, ixN_31, ixN_32, Option.some.injEq, List.cons.injEq, true_or, or_true, false_or, or_false]
          exact kk _ _ ⟨by rw [List.filter_append]; simp [e], rfl⟩
        | false =>
          simp (maxSteps := 2000000) only [↓dVar_ap, ↓dC_ap, ↓dEsc_ap, ↓dPure_ap, ↓dOp_ap, ↓dUn_ap, ↓dNil_ap, ↓dCons_ap, ↓hNil_ap, ↓hCons_ap, ↓dCB_ap, ↓dTup_ap, ↓dLst_ap, ↓dTest_ap, ↓dTru_ap, ↓dAnd_ap, ↓dOr_ap, ↓dNot_ap, ↓dAndV_ap, ↓dOrV_ap, ↓dNotV_ap, ↓dIf_ap, ↓mNil_ap, ↓mPu_ap, ↓mOw_ap, ↓gdName_ap, ↓gdNil_ap, ↓gdCons_ap, ↓gdSeq_ap, ↓dNext_ap, ↓dBreak_ap, ↓dCont_ap, ↓dNever_ap, ↓dDrop_ap, ↓dRet_ap, ↓dRetN_ap, ↓dRetV_ap, ↓dIfS_ap, ↓dAsg_ap, ↓dAsgN_ap, ↓dPar_ap, ↓dPar3_ap, ↓dParT_ap, ↓dIt_ap, ↓dItAny_ap, ↓dItA_ap, ↓dRng1_ap, ↓dRng2_ap, ↓dEnum_ap, ↓dZip_ap, ↓dFor_ap, ↓dWhile_ap, ↓dLc_ap, ↓dRepN_ap, ↓dCatN_ap, ↓dNoPart_ap, ↓dPart_ap, ↓dSl_ap, ↓dSlN_ap, ↓dChain_ap, ↓dListOf_ap, ↓dSortI_ap, ↓dApp_ap, ↓dExt_ap, ↓dSetI_ap, ↓dPop_ap, ↓dPopAt_ap, ↓kNil_ap, ↓kPu_ap, ↓kIo_ap, ↓dCall_ap, ↓kApp_ap, ↓kPerm_ap, ↓dYes_ap, ↓dZipM_ap, dEq, dNe, dEqA, dNeA, dAdd, dI, dI0, dMul, dIx, dIsN, dNotN, dIn, dLen, dInt1, dAbs, dMM, dSum, dMaxL, dMinL, dAll, dTupOf, dIsi, dStrI, dNeg, dSub, dDiv, dMod, dPow, dShl, dShr, dBand, dLt, dLe, dGt, dGe, dCallG, entryN, entry, slotsOf, putOuts, putL, Sl.put, ownL, resolve, look, slD, looks, Sl.ownd, forW, compW, wipeP, backP, D.bls, D.ints, kp, perm, List.filterMap_cons, List.filterMap_nil, List.getElem?_cons_zero, List.getElem?_cons_succ, List.getElem?_nil, List.set_cons_zero, List.set_cons_succ, List.length_cons, List.length_nil, List.replicate_succ, List.replicate_zero, List.append_nil, List.nil_append, List.cons_append, List.map_cons, List.map_nil, Option.bind_some, Option.map_some, Option.isSome_some, Nat.reduceAdd, Nat.reduceSub, Nat.zero_add, Option.bind, Option.map, ↓reduceIte, decide_eq_true_eq, decide_true, decide_false, Bool.false_eq_true, Bool.true_eq_false, Bool.not_true, Bool.not_false, Bool.not_eq_true, Bool.not_eq_false, reduceCtorEq, true_and, and_true, okEq_int, okEq_bl, okEq_non, okEq_ints, okEq_nil, eqv_int, eqv_bl, eqv_nil, List.map_eq_nil_iff, truD, D.isNon, tyName, tyB, tyKnown, isTy, tyBD, List.all_cons, List.all_nil, List.any_cons, List.any_nil, List.contains_cons, List.contains_nil, String.reduceBEq, Bool.true_or, Bool.or_true, Bool.false_or, Bool.or_false, Bool.true_and, Bool.and_true, Bool.false_and, Bool.and_false, cast_0, cast_1, cast_2, cast_3, two_le_size, zero_lt_size, one_lt_size, nodup_nilN, nodup_1, zero_le_size, atI_0, atI_1, atI_2, ixN_30, ixN_31, ixN_32, Option.some.injEq, List.cons.injEq, true_or, or_true, false_or, or_false, hh]
          exact kk _ _ ⟨by rw [List.filter_append]; simp [e], rfl⟩
      · rintro acc ps ⟨rfl, rfl⟩
        rw [List.map_id]
        have ok : (D.lst (l.filter fun x => !one6 x)).okEq := (Sh.lst (n := 2) fun d hd => (he d (List.mem_filter.mp hd).1).sh).okEq (by decide)
        simp (maxSteps := 2000000) only [↓dVar_ap, ↓dC_ap, ↓dEsc_ap, ↓dPure_ap, ↓dOp_ap, ↓dUn_ap, ↓dNil_ap, ↓dCons_ap, ↓hNil_ap, ↓hCons_ap, ↓dCB_ap, ↓dTup_ap, ↓dLst_ap, ↓dTest_ap, ↓dTru_ap, ↓dAnd_ap, ↓dOr_ap, ↓dNot_ap, ↓dAndV_ap, ↓dOrV_ap, ↓dNotV_ap, ↓dIf_ap, ↓mNil_ap, ↓mPu_ap, ↓mOw_ap, ↓gdName_ap, ↓gdNil_ap, ↓gdCons_ap, ↓gdSeq_ap, ↓dNext_ap, ↓dBreak_ap, ↓dCont_ap, ↓dNever_ap, ↓dDrop_ap, ↓dRet_ap, ↓dRetN_ap, ↓dRetV_ap, ↓dIfS_ap, ↓dAsg_ap, ↓dAsgN_ap, ↓dPar_ap, ↓dPar3_ap, ↓dParT_ap, ↓dIt_ap, ↓dItAny_ap, ↓dItA_ap, ↓dRng1_ap, ↓dRng2_ap, ↓dEnum_ap, ↓dZip_ap, ↓dFor_ap, ↓dWhile_ap, ↓dLc_ap, ↓dRepN_ap, ↓dCatN_ap, ↓dNoPart_ap, ↓dPart_ap, ↓dSl_ap, ↓dSlN_ap, ↓dChain_ap, ↓dListOf_ap, ↓dSortI_ap, ↓dApp_ap, ↓dExt_ap, ↓dSetI_ap, ↓dPop_ap, ↓dPopAt_ap, ↓kNil_ap, ↓kPu_ap, ↓kIo_ap, ↓dCall_ap, ↓kApp_ap, ↓kPerm_ap, ↓dYes_ap, ↓dZipM_ap, dEq, dNe, dEqA, dNeA, dAdd, dI, dI0, dMul, dIx, dIsN, dNotN, dIn, dLen, dInt1, dAbs, dMM, dSum, dMaxL, dMinL, dAll, dTupOf, dIsi, dStrI, dNeg, dSub, dDiv, dMod, dPow, dShl, dShr, dBand, dLt, dLe, dGt, dGe, dCallG, entryN, entry, slotsOf, putOuts, putL, Sl.put, ownL, resolve, look, slD, looks, Sl.ownd, forW, compW, wipeP, backP, D.bls, D.ints, kp, perm, List.filterMap_cons, List.filterMap_nil, List.getElem?_cons_zero, List.getElem?_cons_succ, List.getElem?_nil, List.set_cons_zero, List.set_cons_succ, List.length_cons, List.length_nil, List.replicate_succ, List.replicate_zero, List.append_nil, List.nil_append, List.cons_append, List.map_cons, List.map_nil, Option.bind_some, Option.map_some, Option.isSome_some, Nat.reduceAdd, Nat.reduceSub, Nat.zero_add, Option.bind, Option.map, ↓reduceIte, decide_eq_true_eq, decide_true, decide_false, Bool.false_eq_true, Bool.true_eq_false, Bool.not_true, Bool.not_false, Bool.not_eq_true, Bool.not_eq_false, reduceCtorEq, true_and, and_true, okEq_int, okEq_bl, okEq_non, okEq_ints, okEq_nil, eqv_int, eqv_bl, eqv_nil, List.map_eq_nil_iff, truD, D.isNon, tyName, tyB, tyKnown, isTy, tyBD, List.all_cons, List.all_nil, List.any_cons, List.any_nil, List.contains_cons, List.contains_nil, String.reduceBEq, Bool.true_or, Bool.or_true, Bool.false_or, Bool.or_false, Bool.true_and, Bool.and_true, Bool.false_and, Bool.and_false, cast_0, cast_1, cast_2, cast_3, two_le_size, zero_lt_size, one_lt_size, nodup_nilN, nodup_1, zero_le_size, atI_0, atI_1, atI_2, ixN_30, ixN_31, ixN_32, Option.some.injEq, List.cons.injEq, true_or, or_true, false_or, or_false, ok]
        have e : isP (.tup l) = decide ((l.filter fun x => !one6 x) = []) := by
          unfold isP
          dsimp only
          rw [decide_eq_true (show l.length = 2 by omega), Bool.true_and, Bool.eq_iff_iff, List.all_eq_true, decide_eq_true_iff, List.filter_eq_nil_iff]
          exact ⟨fun h x hx => by rw [h x hx]; decide, fun h x hx => by have := h x hx; cases e : one6 x <;> simp [e] at this ⊢⟩
        rw [e] at k
        exact k
    · simp (maxSteps := 2000000) only [↓dVar_ap, ↓dC_ap, ↓dEsc_ap, ↓dPure_ap, ↓dOp_ap, ↓dUn_ap, ↓dNil_ap, ↓dCons_ap, ↓hNil_ap, ↓hCons_ap, ↓dCB_ap, ↓dTup_ap, ↓dLst_ap, ↓dTest_ap, ↓dTru_ap, ↓dAnd_ap, ↓dOr_ap, ↓dNot_ap, ↓dAndV_ap, ↓dOrV_ap, ↓dNotV_ap, ↓dIf_ap, ↓mNil_ap, ↓mPu_ap, ↓mOw_ap, ↓gdName_ap, ↓gdNil_ap, ↓gdCons_ap, ↓gdSeq_ap, ↓dNext_ap, ↓dBreak_ap, ↓dCont_ap, ↓dNever_ap, ↓dDrop_ap, ↓dRet_ap, ↓dRetN_ap, ↓dRetV_ap, ↓dIfS_ap, ↓dAsg_ap, ↓dAsgN_ap, ↓dPar_ap, ↓dPar3_ap, ↓dParT_ap, ↓dIt_ap, ↓dItAny_ap, ↓dItA_ap, ↓dRng1_ap, ↓dRng2_ap, ↓dEnum_ap, ↓dZip_ap, ↓dFor_ap, ↓dWhile_ap, ↓dLc_ap, ↓dRepN_ap, ↓dCatN_ap, ↓dNoPart_ap, ↓dPart_ap, ↓dSl_ap, ↓dSlN_ap, ↓dChain_ap, ↓dListOf_ap, ↓dSortI_ap, ↓dApp_ap, ↓dExt_ap, ↓dSetI_ap, ↓dPop_ap, ↓dPopAt_ap, ↓kNil_ap, ↓kPu_ap, ↓kIo_ap, ↓dCall_ap, ↓kApp_ap, ↓kPerm_ap, ↓dYes_ap, ↓dZipM_ap, dEq, dNe, dEqA, dNeA, dAdd, dI, dI0, dMul, dIx, dIsN, dNotN, dIn, dLen, dInt1, dAbs, dMM, dSum, dMaxL, dMinL, dAll, dTupOf, dIsi, dStrI, dNeg, dSub, dDiv, dMod, dPow, dShl, dShr, dBand, dLt, dLe, dGt, dGe, dCallG, entryN, entry, slotsOf, putOuts, putL, Sl.put, ownL, resolve, look, slD, looks, Sl.ownd, forW, compW, wipeP, backP, D.bls, D.ints, kp, perm, List.filterMap_cons, List.filterMap_nil, List.getElem?_cons_zero, List.getElem?_cons_succ, List.getElem?_nil, List.set_cons_zero, List.set_cons_succ, List.length_cons, List.length_nil, List.replicate_succ, List.replicate_zero, List.append_nil, List.nil_append, List.cons_append, List.map_cons, List.map_nil, Option.bind_some, Option.map_some, Option.isSome_some, Nat.reduceAdd, Nat.reduceSub, Nat.zero_add, Option.bind, Option.map, ↓reduceIte, decide_eq_true_eq, decide_true, decide_false, Bool.false_eq_true, Bool.true_eq_false, Bool.not_true, Bool.not_false, Bool.not_eq_true, Bool.not_eq_false, reduceCtorEq, true_and, and_true, okEq_int, okEq_bl, okEq_non, okEq_ints, okEq_nil, eqv_int, eqv_bl, eqv_nil, List.map_eq_nil_iff, truD, D.isNon, tyName, tyB, tyKnown, isTy, tyBD, List.all_cons, List.all_nil, List.any_cons, List.any_nil, List.contains_cons, List.contains_nil, String.reduceBEq, Bool.true_or, Bool.or_true, Bool.false_or, Bool.or_false, Bool.true_and, Bool.and_true, Bool.false_and, Bool.and_false, cast_0, cast_1, cast_2, cast_3, two_le_size, zero_lt_size, one_lt_size, nodup_nilN, nodup_1, zero_le_size, atI_0, atI_1, atI_2, ixN_30, ixN_31, ixN_32, Option.some.injEq, List.cons.injEq, true_or, or_true, false_or, or_false, h2]
      have e : isP (.tup l) = false := by
        unfold isP
        dsimp only
        rw [decide_eq_false (show ¬ l.length = 2 by omega), Bool.false_and]
      rw [e] at k
      exact k
  · simp (maxSteps := 2000000) only [↓dVar_ap, ↓dC_ap, ↓dEsc_ap, ↓dPure_ap, ↓dOp_ap, ↓dUn_ap, ↓dNil_ap, ↓dCons_ap, ↓hNil_ap, ↓hCons_ap, ↓dCB_ap, ↓dTup_ap, ↓dLst_ap, ↓dTest_ap, ↓dTru_ap, ↓dAnd_ap, ↓dOr_ap, ↓dNot_ap, ↓dAndV_ap, ↓dOrV_ap, ↓dNotV_ap, ↓dIf_ap, ↓mNil_ap, ↓mPu_ap, ↓mOw_ap, ↓gdName_ap, ↓gdNil_ap, ↓gdCons_ap, ↓gdSeq_ap, ↓dNext_ap, ↓dBreak_ap, ↓dCont_ap, ↓dNever_ap, ↓dDrop_ap, ↓dRet_ap, ↓dRetN_ap, ↓dRetV_ap, ↓dIfS_ap, ↓dAsg_ap, ↓dAsgN_ap, ↓dPar_ap, ↓dPar3_ap, ↓dParT_ap, ↓dIt_ap, ↓dItAny_ap, ↓dItA_ap, ↓dRng1_ap, ↓dRng2_ap, ↓dEnum_ap, ↓dZip_ap, ↓dFor_ap, ↓dWhile_ap, ↓dLc_ap, ↓dRepN_ap, ↓dCatN_ap, ↓dNoPart_ap, ↓dPart_ap, ↓dSl_ap, ↓dSlN_ap, ↓dChain_ap, ↓dListOf_ap, ↓dSortI_ap, ↓dApp_ap, ↓dExt_ap, ↓dSetI_ap, ↓dPop_ap, ↓dPopAt_ap, ↓kNil_ap, ↓kPu_ap, ↓kIo_ap, ↓dCall_ap, ↓kApp_ap, ↓kPerm_ap, ↓dYes_ap, ↓dZipM_ap, dEq, dNe, dEqA, dNeA, dAdd, dI, dI0, dMul, dIx, dIsN, dNotN, dIn, dLen, dInt1, dAbs, dMM, dSum, dMaxL, dMinL, dAll, dTupOf, dIsi, dStrI, dNeg, dSub, dDiv, dMod, dPow, dShl, dShr, dBand, dLt, dLe, dGt, dGe, dCallG, entryN, entry, slotsOf, putOuts, putL, Sl.put, ownL, resolve, look, slD, looks, Sl.ownd, forW, compW, wipeP, backP, D.bls, D.ints, kp, perm, List.filterMap_cons, List.filterMap_nil, List.getElem?_cons_zero, List.getElem?_cons_succ, List.getElem?_nil, List.set_cons_zero, List.set_cons_succ, List.length_cons, List.length_nil, List.replicate_succ, List.replicate_zero, List.append_nil, List.nil_append, List.cons_append, List.map_cons, List.map_nil, Option.bind_some, Option.map_some, Option.isSome_some, Nat.reduceAdd, Nat.reduceSub, Nat.zero_add, Option.bind, Option.map, ↓reduceIte, decide_eq_true_eq, decide_true, decide_false, Bool.false_eq_true, Bool.true_eq_false, Bool.not_true, Bool.not_false, Bool.not_eq_true, Bool.not_eq_false, reduceCtorEq, true_and, and_true, okEq_int, okEq_bl, okEq_non, okEq_ints, okEq_nil, eqv_int, eqv_bl, eqv_nil, List.map_eq_nil_iff, truD, D.isNon, tyName, tyB, tyKnown, isTy, tyBD, List.all_cons, List.all_nil, List.any_cons, List.any_nil, List.contains_cons, List.contains_nil, String.reduceBEq, Bool.true_or, Bool.or_true, Bool.false_or, Bool.or_false, Bool.true_and, Bool.and_true, Bool.false_and, Bool.and_false, cast_0, cast_1, cast_2, cast_3, two_le_size, zero_lt_size, one_lt_size, nodup_nilN, nodup_1, zero_le_size, atI_0, atI_1, atI_2, ixN_30, ixN_31, ixN_32, Option.some.injEq, List.cons.injEq, true_or, or_true, false_or, or_false]; exact k
theorem hd_law : ∀ ds Q (E : D → List D → Prop), spLaw ds Q E → rd_law sp__law_sieve sp__law_any sp__law_one sp__law_is_integer sp_is_pair sp_is_name sp_is_within sp_is_integer (dEnds [false] Q) (entryN 13 [false] ds) := by
  rintro ds Q E ⟨ns, rfl, hn, q⟩
  have h6 : CPow 10 6 := cpow_of (h3 := by decide)
  have h7 : CPow 10 7 := cpow_of (h3 := by decide)
  have e6 : (10 : Int) ^ 6 = 1000000 := by decide
  have e7 : (10 : Int) ^ 7 = 10000000 := by decide
  have toNat7 : (7 : Int).toNat = 7 := rfl
  unfold rd_law
  (try dsimp only); rw [dSeq_ap]; simp (maxSteps := 2000000) only [↓dVar_ap, ↓dC_ap, ↓dEsc_ap, ↓dPure_ap, ↓dOp_ap, ↓dUn_ap, ↓dNil_ap, ↓dCons_ap, ↓hNil_ap, ↓hCons_ap, ↓dCB_ap, ↓dTup_ap, ↓dLst_ap, ↓dTest_ap, ↓dTru_ap, ↓dAnd_ap, ↓dOr_ap, ↓dNot_ap, ↓dAndV_ap, ↓dOrV_ap, ↓dNotV_ap, ↓dIf_ap, ↓mNil_ap, ↓mPu_ap, ↓mOw_ap, ↓gdName_ap, ↓gdNil_ap, ↓gdCons_ap, ↓gdSeq_ap, ↓dNext_ap, ↓dBreak_ap, ↓dCont_ap, ↓dNever_ap, ↓dDrop_ap, ↓dRet_ap, ↓dRetN_ap, ↓dRetV_ap, ↓dIfS_ap, ↓dAsg_ap, ↓dAsgN_ap, ↓dPar_ap, ↓dPar3_ap, ↓dParT_ap, ↓dIt_ap, ↓dItAny_ap, ↓dItA_ap, ↓dRng1_ap, ↓dRng2_ap, ↓dEnum_ap, ↓dZip_ap, ↓dFor_ap, ↓dWhile_ap, ↓dLc_ap, ↓dRepN_ap, ↓dCatN_ap, ↓dNoPart_ap, ↓dPart_ap, ↓dSl_ap, ↓dSlN_ap, ↓dChain_ap, ↓dListOf_ap, ↓dSortI_ap, ↓dApp_ap, ↓dExt_ap, ↓dSetI_ap, ↓dPop_ap, ↓dPopAt_ap, ↓kNil_ap, ↓kPu_ap, ↓kIo_ap, ↓dCall_ap, ↓kApp_ap, ↓kPerm_ap, ↓dYes_ap, ↓dZipM_ap, dEq, dNe, dEqA, dNeA, dAdd, dI, dI0, dMul, dIx, dIsN, dNotN, dIn, dLen, dInt1, dAbs, dMM, dSum, dMaxL, dMinL, dAll, dTupOf, dIsi, dStrI, dNeg, dSub, dDiv, dMod, dPow, dShl, dShr, dBand, dLt, dLe, dGt, dGe, dCallG, entryN, entry, slotsOf, putOuts, putL, Sl.put, ownL, resolve, look, slD, looks, Sl.ownd, forW, compW, wipeP, backP, D.bls, D.ints, kp, perm, List.filterMap_cons, List.filterMap_nil, List.getElem?_cons_zero, List.getElem?_cons_succ, List.getElem?_nil, List.set_cons_zero, List.set_cons_succ, List.length_cons, List.length_nil, List.replicate_succ, List.replicate_zero, List.append_nil, List.nil_append, List.cons_append, List.map_cons, List.map_nil, Option.bind_some, Option.map_some, Option.isSome_some, Nat.reduceAdd, Nat.reduceSub, Nat.zero_add, Option.bind, Option.map, ↓reduceIte, decide_eq_true_eq, decide_true, decide_false, Bool.false_eq_true, Bool.true_eq_false, Bool.not_true, Bool.not_false, Bool.not_eq_true, Bool.not_eq_false, reduceCtorEq, true_and, and_true, okEq_int, okEq_bl, okEq_non, okEq_ints, okEq_nil, eqv_int, eqv_bl, eqv_nil, List.map_eq_nil_iff, truD, D.isNon, tyName, tyB, tyKnown, isTy, tyBD, List.all_cons, List.all_nil, List.any_cons, List.any_nil, List.contains_cons, List.contains_nil, String.reduceBEq, Bool.true_or, Bool.or_true, Bool.false_or, Bool.or_false, Bool.true_and, Bool.and_true, Bool.false_and, Bool.and_false, cast_0, cast_1, cast_2, cast_3, two_le_size, zero_lt_size, one_lt_size, nodup_nilN, nodup_1, zero_le_size, atI_0, atI_1, atI_2, ixN_30, ixN_31, ixN_32, Option.some.injEq, List.cons.injEq, true_or, or_true, false_or, or_false]
  refine ⟨ns, rfl, hn, fun b hb => ?_⟩
  (try dsimp only); rw [dSeq_ap]; simp (maxSteps := 2000000) only [↓dVar_ap, ↓dC_ap, ↓dEsc_ap, ↓dPure_ap, ↓dOp_ap, ↓dUn_ap, ↓dNil_ap, ↓dCons_ap, ↓hNil_ap, ↓hCons_ap, ↓dCB_ap, ↓dTup_ap, ↓dLst_ap, ↓dTest_ap, ↓dTru_ap, ↓dAnd_ap, ↓dOr_ap, ↓dNot_ap, ↓dAndV_ap, ↓dOrV_ap, ↓dNotV_ap, ↓dIf_ap, ↓mNil_ap, ↓mPu_ap, ↓mOw_ap, ↓gdName_ap, ↓gdNil_ap, ↓gdCons_ap, ↓gdSeq_ap, ↓dNext_ap, ↓dBreak_ap, ↓dCont_ap, ↓dNever_ap, ↓dDrop_ap, ↓dRet_ap, ↓dRetN_ap, ↓dRetV_ap, ↓dIfS_ap, ↓dAsg_ap, ↓dAsgN_ap, ↓dPar_ap, ↓dPar3_ap, ↓dParT_ap, ↓dIt_ap, ↓dItAny_ap, ↓dItA_ap, ↓dRng1_ap, ↓dRng2_ap, ↓dEnum_ap, ↓dZip_ap, ↓dFor_ap, ↓dWhile_ap, ↓dLc_ap, ↓dRepN_ap, ↓dCatN_ap, ↓dNoPart_ap, ↓dPart_ap, ↓dSl_ap, ↓dSlN_ap, ↓dChain_ap, ↓dListOf_ap, ↓dSortI_ap, ↓dApp_ap, ↓dExt_ap, ↓dSetI_ap, ↓dPop_ap, ↓dPopAt_ap, ↓kNil_ap, ↓kPu_ap, ↓kIo_ap, ↓dCall_ap, ↓kApp_ap, ↓kPerm_ap, ↓dYes_ap, ↓dZipM_ap, dEq, dNe, dEqA, dNeA, dAdd, dI, dI0, dMul, dIx, dIsN, dNotN, dIn, dLen, dInt1, dAbs, dMM, dSum, dMaxL, dMinL, dAll, dTupOf, dIsi, dStrI, dNeg, dSub, dDiv, dMod, dPow, dShl, dShr, dBand, dLt, dLe, dGt, dGe, dCallG, entryN, entry, slotsOf, putOuts, putL, Sl.put, ownL, resolve, look, slD, looks, Sl.ownd, forW, compW, wipeP, backP, D.bls, D.ints, kp, perm, List.filterMap_cons, List.filterMap_nil, List.getElem?_cons_zero, List.getElem?_cons_succ, List.getElem?_nil, List.set_cons_zero, List.set_cons_succ, List.length_cons, List.length_nil, List.replicate_succ, List.replicate_zero, List.append_nil, List.nil_append, List.cons_append, List.map_cons, List.map_nil, Option.bind_some, Option.map_some, Option.isSome_some, Nat.reduceAdd, Nat.reduceSub, Nat.zero_add, Option.bind, Option.map, ↓reduceIte, decide_eq_true_eq, decide_true, decide_false, Bool.false_eq_true, Bool.true_eq_false, Bool.not_true, Bool.not_false, Bool.not_eq_true, Bool.not_eq_false, reduceCtorEq, true_and, and_true, okEq_int, okEq_bl, okEq_non, okEq_ints, okEq_nil, eqv_int, eqv_bl, eqv_nil, List.map_eq_nil_iff, truD, D.isNon, tyName, tyB, tyKnown, isTy, tyBD, List.all_cons, List.all_nil, List.any_cons, List.any_nil, List.contains_cons, List.contains_nil, String.reduceBEq, Bool.true_or, Bool.or_true, Bool.false_or, Bool.or_false, Bool.true_and, Bool.and_true, Bool.false_and, Bool.and_false, cast_0, cast_1, cast_2, cast_3, two_le_size, zero_lt_size, one_lt_size, nodup_nilN, nodup_1, zero_le_size, atI_0, atI_1, atI_2, ixN_30, ixN_31, ixN_32, Option.some.injEq, List.cons.injEq, true_or, or_true, false_or, or_false, show (-2 ^ 62 ≤ (8 : Int) ∧ (8 : Int) < 2 ^ 62) = True by decide]
  unfold rangeD
  refine forW_ind _ (fun pre ps => ∃ (b' : D) (x2 x3 x4 x5 x6 x7 x8 x9 x10 : Sl), Bell (100 * pre.length) b' ∧ ps = [.pu (.frl (ns.map D.int)), .ow b', x2, x3, x4, x5, x6, x7, x8, x9, x10, .un, .un])
    (List.range (Int.toNat 8)) _ ⟨b, .un, .un, .un, .un, .un, .un, .un, .un, .un, hb, rfl⟩ ?_ ?_
  · rintro i pre R ps hi hlt ⟨b0, x2, x3, x4, x5, x6, x7, x8, x9, x10, hb0, rfl⟩ k
    have hpre : pre.length < 8 := by rw [List.length_range] at hlt; exact hlt
    simp (maxSteps := 2000000) only [↓dVar_ap, ↓dC_ap, ↓dEsc_ap, ↓dPure_ap, ↓dOp_ap, ↓dUn_ap, ↓dNil_ap, ↓dCons_ap, ↓hNil_ap, ↓hCons_ap, ↓dCB_ap, ↓dTup_ap, ↓dLst_ap, ↓dTest_ap, ↓dTru_ap, ↓dAnd_ap, ↓dOr_ap, ↓dNot_ap, ↓dAndV_ap, ↓dOrV_ap, ↓dNotV_ap, ↓dIf_ap, ↓mNil_ap, ↓mPu_ap, ↓mOw_ap, ↓gdName_ap, ↓gdNil_ap, ↓gdCons_ap, ↓gdSeq_ap, ↓dNext_ap, ↓dBreak_ap, ↓dCont_ap, ↓dNever_ap, ↓dDrop_ap, ↓dRet_ap, ↓dRetN_ap, ↓dRetV_ap, ↓dIfS_ap, ↓dAsg_ap, ↓dAsgN_ap, ↓dPar_ap, ↓dPar3_ap, ↓dParT_ap, ↓dIt_ap, ↓dItAny_ap, ↓dItA_ap, ↓dRng1_ap, ↓dRng2_ap, ↓dEnum_ap, ↓dZip_ap, ↓dFor_ap, ↓dWhile_ap, ↓dLc_ap, ↓dRepN_ap, ↓dCatN_ap, ↓dNoPart_ap, ↓dPart_ap, ↓dSl_ap, ↓dSlN_ap, ↓dChain_ap, ↓dListOf_ap, ↓dSortI_ap, ↓dApp_ap, ↓dExt_ap, ↓dSetI_ap, ↓dPop_ap, ↓dPopAt_ap, ↓kNil_ap, ↓kPu_ap, ↓kIo_ap, ↓dCall_ap, ↓kApp_ap, ↓kPerm_ap, ↓dYes_ap, ↓dZipM_ap, dEq, dNe, dEqA, dNeA, dAdd, dI, dI0, dMul, dIx, dIsN, dNotN, dIn, dLen, dInt1, dAbs, dMM, dSum, dMaxL, dMinL, dAll, dTupOf, dIsi, dStrI, dNeg, dSub, dDiv, dMod, dPow, dShl, dShr, dBand, dLt, dLe, dGt, dGe, dCallG, entryN, entry, slotsOf, putOuts, putL, Sl.put, ownL, resolve, look, slD, looks, Sl.ownd, forW, compW, wipeP, backP, D.bls, D.ints, kp, perm, List.filterMap_cons, List.filterMap_nil, List.getElem?_cons_zero, List.getElem?_cons_succ, List.getElem?_nil, List.set_cons_zero, List.set_cons_succ, List.length_cons, List.length_nil, List.replicate_succ, List.replicate_zero, List.append_nil, List.nil_append, List.cons_append, List.map_cons, List.map_nil, Option.bind_some, Option.map_some, Option.isSome_some, Nat.reduceAdd, Nat.reduceSub, Nat.zero_add, Option.bind, Option.map, ↓reduceIte, decide_eq_true_eq, decide_true, decide_false, Bool.false_eq_true, Bool.true_eq_false, Bool.not_true, Bool.not_false, Bool.not_eq_true, Bool.not_eq_false, reduceCtorEq, true_and, and_true, okEq_int, okEq_bl, okEq_non, okEq_ints, okEq_nil, eqv_int, eqv_bl, eqv_nil, List.map_eq_nil_iff, truD, D.isNon, tyName, tyB, tyKnown, isTy, tyBD, List.all_cons, List.all_nil, List.any_cons, List.any_nil, List.contains_cons, List.contains_nil, String.reduceBEq, Bool.true_or, Bool.or_true, Bool.false_or, Bool.or_false, Bool.true_and, Bool.and_true, Bool.false_and, Bool.and_false, cast_0, cast_1, cast_2, cast_3, two_le_size, zero_lt_size, one_lt_size, nodup_nilN, nodup_1, zero_le_size, atI_0, atI_1, atI_2, ixN_30, ixN_31, ixN_32, Option.some.injEq, List.cons.injEq, true_or, or_true, false_or, or_false]
    (try dsimp only); rw [dSeq_ap]; simp (maxSteps := 2000000) only [↓dVar_ap, ↓dC_ap, ↓dEsc_ap, ↓dPure_ap, ↓dOp_ap, ↓dUn_ap, ↓dNil_ap, ↓dCons_ap, ↓hNil_ap, ↓hCons_ap, ↓dCB_ap, ↓dTup_ap, ↓dLst_ap, ↓dTest_ap, ↓dTru_ap, ↓dAnd_ap, ↓dOr_ap, ↓dNot_ap, ↓dAndV_ap, ↓dOrV_ap, ↓dNotV_ap, ↓dIf_ap, ↓mNil_ap, ↓mPu_ap, ↓mOw_ap, ↓gdName_ap, ↓gdNil_ap, ↓gdCons_ap, ↓gdSeq_ap, ↓dNext_ap, ↓dBreak_ap, ↓dCont_ap, ↓dNever_ap, ↓dDrop_ap, ↓dRet_ap, ↓dRetN_ap, ↓dRetV_ap, ↓dIfS_ap, ↓dAsg_ap, ↓dAsgN_ap, ↓dPar_ap, ↓dPar3_ap, ↓dParT_ap, ↓dIt_ap, ↓dItAny_ap, ↓dItA_ap, ↓dRng1_ap, ↓dRng2_ap, ↓dEnum_ap, ↓dZip_ap, ↓dFor_ap, ↓dWhile_ap, ↓dLc_ap, ↓dRepN_ap, ↓dCatN_ap, ↓dNoPart_ap, ↓dPart_ap, ↓dSl_ap, ↓dSlN_ap, ↓dChain_ap, ↓dListOf_ap, ↓dSortI_ap, ↓dApp_ap, ↓dExt_ap, ↓dSetI_ap, ↓dPop_ap, ↓dPopAt_ap, ↓kNil_ap, ↓kPu_ap, ↓kIo_ap, ↓dCall_ap, ↓kApp_ap, ↓kPerm_ap, ↓dYes_ap, ↓dZipM_ap, dEq, dNe, dEqA, dNeA, dAdd, dI, dI0, dMul, dIx, dIsN, dNotN, dIn, dLen, dInt1, dAbs, dMM, dSum, dMaxL, dMinL, dAll, dTupOf, dIsi, dStrI, dNeg, dSub, dDiv, dMod, dPow, dShl, dShr, dBand, dLt, dLe, dGt, dGe, dCallG, entryN, entry, slotsOf, putOuts, putL, Sl.put, ownL, resolve, look, slD, looks, Sl.ownd, forW, compW, wipeP, backP, D.bls, D.ints, kp, perm, List.filterMap_cons, List.filterMap_nil, List.getElem?_cons_zero, List.getElem?_cons_succ, List.getElem?_nil, List.set_cons_zero, List.set_cons_succ, List.length_cons, List.length_nil, List.replicate_succ, List.replicate_zero, List.append_nil, List.nil_append, List.cons_append, List.map_cons, List.map_nil, Option.bind_some, Option.map_some, Option.isSome_some, Nat.reduceAdd, Nat.reduceSub, Nat.zero_add, Option.bind, Option.map, ↓reduceIte, decide_eq_true_eq, decide_true, decide_false, Bool.false_eq_true, Bool.true_eq_false, Bool.not_true, Bool.not_false, Bool.not_eq_true, Bool.not_eq_false, reduceCtorEq, true_and, and_true, okEq_int, okEq_bl, okEq_non, okEq_ints, okEq_nil, eqv_int, eqv_bl, eqv_nil, List.map_eq_nil_iff, truD, D.isNon, tyName, tyB, tyKnown, isTy, tyBD, List.all_cons, List.all_nil, List.any_cons, List.any_nil, List.contains_cons, List.contains_nil, String.reduceBEq, Bool.true_or, Bool.or_true, Bool.false_or, Bool.or_false, Bool.true_and, Bool.and_true, Bool.false_and, Bool.and_false, cast_0, cast_1, cast_2, cast_3, two_le_size, zero_lt_size, one_lt_size, nodup_nilN, nodup_1, zero_le_size, atI_0, atI_1, atI_2, ixN_30, ixN_31, ixN_32, Option.some.injEq, List.cons.injEq, true_or, or_true, false_or, or_false]
    refine ⟨b0, _, rfl, hb0, by omega, fun v b1 hv hb1 => ?_⟩
    (try dsimp only); rw [dSeq_ap]; simp (maxSteps := 2000000) only [↓dVar_ap, ↓dC_ap, ↓dEsc_ap, ↓dPure_ap, ↓dOp_ap, ↓dUn_ap, ↓dNil_ap, ↓dCons_ap, ↓hNil_ap, ↓hCons_ap, ↓dCB_ap, ↓dTup_ap, ↓dLst_ap, ↓dTest_ap, ↓dTru_ap, ↓dAnd_ap, ↓dOr_ap, ↓dNot_ap, ↓dAndV_ap, ↓dOrV_ap, ↓dNotV_ap, ↓dIf_ap, ↓mNil_ap, ↓mPu_ap, ↓mOw_ap, ↓gdName_ap, ↓gdNil_ap, ↓gdCons_ap, ↓gdSeq_ap, ↓dNext_ap, ↓dBreak_ap, ↓dCont_ap, ↓dNever_ap, ↓dDrop_ap, ↓dRet_ap, ↓dRetN_ap, ↓dRetV_ap, ↓dIfS_ap, ↓dAsg_ap, ↓dAsgN_ap, ↓dPar_ap, ↓dPar3_ap, ↓dParT_ap, ↓dIt_ap, ↓dItAny_ap, ↓dItA_ap, ↓dRng1_ap, ↓dRng2_ap, ↓dEnum_ap, ↓dZip_ap, ↓dFor_ap, ↓dWhile_ap, ↓dLc_ap, ↓dRepN_ap, ↓dCatN_ap, ↓dNoPart_ap, ↓dPart_ap, ↓dSl_ap, ↓dSlN_ap, ↓dChain_ap, ↓dListOf_ap, ↓dSortI_ap, ↓dApp_ap, ↓dExt_ap, ↓dSetI_ap, ↓dPop_ap, ↓dPopAt_ap, ↓kNil_ap, ↓kPu_ap, ↓kIo_ap, ↓dCall_ap, ↓kApp_ap, ↓kPerm_ap, ↓dYes_ap, ↓dZipM_ap, dEq, dNe, dEqA, dNeA, dAdd, dI, dI0, dMul, dIx, dIsN, dNotN, dIn, dLen, dInt1, dAbs, dMM, dSum, dMaxL, dMinL, dAll, dTupOf, dIsi, dStrI, dNeg, dSub, dDiv, dMod, dPow, dShl, dShr, dBand, dLt, dLe, dGt, dGe, dCallG, entryN, entry, slotsOf, putOuts, putL, Sl.put, ownL, resolve, look, slD, looks, Sl.ownd, forW, compW, wipeP, backP, D.bls, D.ints, kp, perm, List.filterMap_cons, List.filterMap_nil, List.getElem?_cons_zero, List.getElem?_cons_succ, List.getElem?_nil, List.set_cons_zero, List.set_cons_succ, List.length_cons, List.length_nil, List.replicate_succ, List.replicate_zero, List.append_nil, List.nil_append, List.cons_append, List.map_cons, List.map_nil, Option.bind_some, Option.map_some, Option.isSome_some, Nat.reduceAdd, Nat.reduceSub, Nat.zero_add, Option.bind, Option.map, ↓reduceIte, decide_eq_true_eq, decide_true, decide_false, Bool.false_eq_true, Bool.true_eq_false, Bool.not_true, Bool.not_false, Bool.not_eq_true, Bool.not_eq_false, reduceCtorEq, true_and, and_true, okEq_int, okEq_bl, okEq_non, okEq_ints, okEq_nil, eqv_int, eqv_bl, eqv_nil, List.map_eq_nil_iff, truD, D.isNon, tyName, tyB, tyKnown, isTy, tyBD, List.all_cons, List.all_nil, List.any_cons, List.any_nil, List.contains_cons, List.contains_nil, String.reduceBEq, Bool.true_or, Bool.or_true, Bool.false_or, Bool.or_false, Bool.true_and, Bool.and_true, Bool.false_and, Bool.and_false, cast_0, cast_1, cast_2, cast_3, two_le_size, zero_lt_size, one_lt_size, nodup_nilN, nodup_1, zero_le_size, atI_0, atI_1, atI_2, ixN_30, ixN_31, ixN_32, Option.some.injEq, List.cons.injEq, true_or, or_true, false_or, or_false, h6, h7, toNat6, toNat7, e6, e7]
    refine ⟨by decide, b1, _, _, rfl, hb1, by omega, by simp, by simp, fun lo hlo b2 hb2 => ?_⟩
    have blo : Bd lo := by
      simp only [List.mem_cons, List.not_mem_nil, or_false] at hlo
      rcases hlo with rfl | rfl | rfl | rfl | rfl
      · exact .inl rfl
      all_goals exact .inr ⟨_, rfl⟩
    simp (maxSteps := 2000000) only [↓dVar_ap, ↓dC_ap, ↓dEsc_ap, ↓dPure_ap, ↓dOp_ap, ↓dUn_ap, ↓dNil_ap, ↓dCons_ap, ↓hNil_ap, ↓hCons_ap, ↓dCB_ap, ↓dTup_ap, ↓dLst_ap, ↓dTest_ap, ↓dTru_ap, ↓dAnd_ap, ↓dOr_ap, ↓dNot_ap, ↓dAndV_ap, ↓dOrV_ap, ↓dNotV_ap, ↓dIf_ap, ↓mNil_ap, ↓mPu_ap, ↓mOw_ap, ↓gdName_ap, ↓gdNil_ap, ↓gdCons_ap, ↓gdSeq_ap, ↓dNext_ap, ↓dBreak_ap, ↓dCont_ap, ↓dNever_ap, ↓dDrop_ap, ↓dRet_ap, ↓dRetN_ap, ↓dRetV_ap, ↓dIfS_ap, ↓dAsg_ap, ↓dAsgN_ap, ↓dPar_ap, ↓dPar3_ap, ↓dParT_ap, ↓dIt_ap, ↓dItAny_ap, ↓dItA_ap, ↓dRng1_ap, ↓dRng2_ap, ↓dEnum_ap, ↓dZip_ap, ↓dFor_ap, ↓dWhile_ap, ↓dLc_ap, ↓dRepN_ap, ↓dCatN_ap, ↓dNoPart_ap, ↓dPart_ap, ↓dSl_ap, ↓dSlN_ap, ↓dChain_ap, ↓dListOf_ap, ↓dSortI_ap, ↓dApp_ap, ↓dExt_ap, ↓dSetI_ap, ↓dPop_ap, ↓dPopAt_ap, ↓kNil_ap, ↓kPu_ap, ↓kIo_ap, ↓dCall_ap, ↓kApp_ap, ↓kPerm_ap, ↓dYes_ap, ↓dZipM_ap, dEq, dNe, dEqA, dNeA, dAdd, dI, dI0, dMul, dIx, dIsN, dNotN, dIn, dLen, dInt1, dAbs, dMM, dSum, dMaxL, dMinL, dAll, dTupOf, dIsi, dStrI, dNeg, dSub, dDiv, dMod, dPow, dShl, dShr, dBand, dLt, dLe, dGt, dGe, dCallG, entryN, entry, slotsOf, putOuts, putL, Sl.put, ownL, resolve, look, slD, looks, Sl.ownd, forW, compW, wipeP, backP, D.bls, D.ints, kp, perm, List.filterMap_cons, List.filterMap_nil, List.getElem?_cons_zero, List.getElem?_cons_succ, List.getElem?_nil, List.set_cons_zero, List.set_cons_succ, List.length_cons, List.length_nil, List.replicate_succ, List.replicate_zero, List.append_nil, List.nil_append, List.cons_append, List.map_cons, List.map_nil, Option.bind_some, Option.map_some, Option.isSome_some, Nat.reduceAdd, Nat.reduceSub, Nat.zero_add, Option.bind, Option.map, ↓reduceIte, decide_eq_true_eq, decide_true, decide_false, Bool.false_eq_true, Bool.true_eq_false, Bool.not_true, Bool.not_false, Bool.not_eq_true, Bool.not_eq_false, reduceCtorEq, true_and, and_true, okEq_int, okEq_bl, okEq_non, okEq_ints, okEq_nil, eqv_int, eqv_bl, eqv_nil, List.map_eq_nil_iff, truD, D.isNon, tyName, tyB, tyKnown, isTy, tyBD, List.all_cons, List.all_nil, List.any_cons, List.any_nil, List.contains_cons, List.contains_nil, String.reduceBEq, Bool.true_or, Bool.or_true, Bool.false_or, Bool.or_false, Bool.true_and, Bool.and_true, Bool.false_and, Bool.and_false, cast_0, cast_1, cast_2, cast_3, two_le_size, zero_lt_size, one_lt_size, nodup_nilN, nodup_1, zero_le_size, atI_0, atI_1, atI_2, ixN_30, ixN_31, ixN_32, Option.some.injEq, List.cons.injEq, true_or, or_true, false_or, or_false, h6, h7, toNat6, toNat7, e6, e7]
    refine ⟨by decide, b2, _, _, rfl, hb2, by omega, by simp, by simp, fun hi2 hhi b3 hb3 => ?_⟩
    have bhi : Bd hi2 := by
      simp only [List.mem_cons, List.not_mem_nil, or_false] at hhi
      rcases hhi with rfl | rfl | rfl | rfl | rfl
      · exact .inl rfl
      all_goals exact .inr ⟨_, rfl⟩
    simp (maxSteps := 2000000) only [↓dVar_ap, ↓dC_ap, ↓dEsc_ap, ↓dPure_ap, ↓dOp_ap, ↓dUn_ap, ↓dNil_ap, ↓dCons_ap, ↓hNil_ap, ↓hCons_ap, ↓dCB_ap, ↓dTup_ap, ↓dLst_ap, ↓dTest_ap, ↓dTru_ap, ↓dAnd_ap, ↓dOr_ap, ↓dNot_ap, ↓dAndV_ap, ↓dOrV_ap, ↓dNotV_ap, ↓dIf_ap, ↓mNil_ap, ↓mPu_ap, ↓mOw_ap, ↓gdName_ap, ↓gdNil_ap, ↓gdCons_ap, ↓gdSeq_ap, ↓dNext_ap, ↓dBreak_ap, ↓dCont_ap, ↓dNever_ap, ↓dDrop_ap, ↓dRet_ap, ↓dRetN_ap, ↓dRetV_ap, ↓dIfS_ap, ↓dAsg_ap, ↓dAsgN_ap, ↓dPar_ap, ↓dPar3_ap, ↓dParT_ap, ↓dIt_ap, ↓dItAny_ap, ↓dItA_ap, ↓dRng1_ap, ↓dRng2_ap, ↓dEnum_ap, ↓dZip_ap, ↓dFor_ap, ↓dWhile_ap, ↓dLc_ap, ↓dRepN_ap, ↓dCatN_ap, ↓dNoPart_ap, ↓dPart_ap, ↓dSl_ap, ↓dSlN_ap, ↓dChain_ap, ↓dListOf_ap, ↓dSortI_ap, ↓dApp_ap, ↓dExt_ap, ↓dSetI_ap, ↓dPop_ap, ↓dPopAt_ap, ↓kNil_ap, ↓kPu_ap, ↓kIo_ap, ↓dCall_ap, ↓kApp_ap, ↓kPerm_ap, ↓dYes_ap, ↓dZipM_ap, dEq, dNe, dEqA, dNeA, dAdd, dI, dI0, dMul, dIx, dIsN, dNotN, dIn, dLen, dInt1, dAbs, dMM, dSum, dMaxL, dMinL, dAll, dTupOf, dIsi, dStrI, dNeg, dSub, dDiv, dMod, dPow, dShl, dShr, dBand, dLt, dLe, dGt, dGe, dCallG, entryN, entry, slotsOf, putOuts, putL, Sl.put, ownL, resolve, look, slD, looks, Sl.ownd, forW, compW, wipeP, backP, D.bls, D.ints, kp, perm, List.filterMap_cons, List.filterMap_nil, List.getElem?_cons_zero, List.getElem?_cons_succ, List.getElem?_nil, List.set_cons_zero, List.set_cons_succ, List.length_cons, List.length_nil, List.replicate_succ, List.replicate_zero, List.append_nil, List.nil_append, List.cons_append, List.map_cons, List.map_nil, Option.bind_some, Option.map_some, Option.isSome_some, Nat.reduceAdd, Nat.reduceSub, Nat.zero_add, Option.bind, Option.map, ↓reduceIte, decide_eq_true_eq, decide_true, decide_false, Bool.false_eq_true, Bool.true_eq_false, Bool.not_true, Bool.not_false, Bool.not_eq_true, Bool.not_eq_false, reduceCtorEq, true_and, and_true, okEq_int, okEq_bl, okEq_non, okEq_ints, okEq_nil, eqv_int, eqv_bl, eqv_nil, List.map_eq_nil_iff, truD, D.isNon, tyName, tyB, tyKnown, isTy, tyBD, List.all_cons, List.all_nil, List.any_cons, List.any_nil, List.contains_cons, List.contains_nil, String.reduceBEq, Bool.true_or, Bool.or_true, Bool.false_or, Bool.or_false, Bool.true_and, Bool.and_true, Bool.false_and, Bool.and_false, cast_0, cast_1, cast_2, cast_3, two_le_size, zero_lt_size, one_lt_size, nodup_nilN, nodup_1, zero_le_size, atI_0, atI_1, atI_2, ixN_30, ixN_31, ixN_32, Option.some.injEq, List.cons.injEq, true_or, or_true, false_or, or_false]
    (try dsimp only); rw [dSeq_ap]; simp (maxSteps := 2000000) only [↓dVar_ap, ↓dC_ap, ↓dEsc_ap, ↓dPure_ap, ↓dOp_ap, ↓dUn_ap, ↓dNil_ap, ↓dCons_ap, ↓hNil_ap, ↓hCons_ap, ↓dCB_ap, ↓dTup_ap, ↓dLst_ap, ↓dTest_ap, ↓dTru_ap, ↓dAnd_ap, ↓dOr_ap, ↓dNot_ap, ↓dAndV_ap, ↓dOrV_ap, ↓dNotV_ap, ↓dIf_ap, ↓mNil_ap, ↓mPu_ap, ↓mOw_ap, ↓gdName_ap, ↓gdNil_ap, ↓gdCons_ap, ↓gdSeq_ap, ↓dNext_ap, ↓dBreak_ap, ↓dCont_ap, ↓dNever_ap, ↓dDrop_ap, ↓dRet_ap, ↓dRetN_ap, ↓dRetV_ap, ↓dIfS_ap, ↓dAsg_ap, ↓dAsgN_ap, ↓dPar_ap, ↓dPar3_ap, ↓dParT_ap, ↓dIt_ap, ↓dItAny_ap, ↓dItA_ap, ↓dRng1_ap, ↓dRng2_ap, ↓dEnum_ap, ↓dZip_ap, ↓dFor_ap, ↓dWhile_ap, ↓dLc_ap, ↓dRepN_ap, ↓dCatN_ap, ↓dNoPart_ap, ↓dPart_ap, ↓dSl_ap, ↓dSlN_ap, ↓dChain_ap, ↓dListOf_ap, ↓dSortI_ap, ↓dApp_ap, ↓dExt_ap, ↓dSetI_ap, ↓dPop_ap, ↓dPopAt_ap, ↓kNil_ap, ↓kPu_ap, ↓kIo_ap, ↓dCall_ap, ↓kApp_ap, ↓kPerm_ap, ↓dYes_ap, ↓dZipM_ap, dEq, dNe, dEqA, dNeA, dAdd, dI, dI0, dMul, dIx, dIsN, dNotN, dIn, dLen, dInt1, dAbs, dMM, dSum, dMaxL, dMinL, dAll, dTupOf, dIsi, dStrI, dNeg, dSub, dDiv, dMod, dPow, dShl, dShr, dBand, dLt, dLe, dGt, dGe, dCallG, entryN, entry, slotsOf, putOuts, putL, Sl.put, ownL, resolve, look, slD, looks, Sl.ownd, forW, compW, wipeP, backP, D.bls, D.ints, kp, perm, List.filterMap_cons, List.filterMap_nil, List.getElem?_cons_zero, List.getElem?_cons_succ, List.getElem?_nil, List.set_cons_zero, List.set_cons_succ, List.length_cons, List.length_nil, List.replicate_succ, List.replicate_zero, List.append_nil, List.nil_append, List.cons_append, List.map_cons, List.map_nil, Option.bind_some, Option.map_some, Option.isSome_some, Nat.reduceAdd, Nat.reduceSub, Nat.zero_add, Option.bind, Option.map, ↓reduceIte, decide_eq_true_eq, decide_true, decide_false, Bool.false_eq_true, Bool.true_eq_false, Bool.not_true, Bool.not_false, Bool.not_eq_true, Bool.not_eq_false, reduceCtorEq, true_and, and_true, okEq_int, okEq_bl, okEq_non, okEq_ints, okEq_nil, eqv_int, eqv_bl, eqv_nil, List.map_eq_nil_iff, truD, D.isNon, tyName, tyB, tyKnown, isTy, tyBD, List.all_cons, List.all_nil, List.any_cons, List.any_nil, List.contains_cons, List.contains_nil, String.reduceBEq, Bool.true_or, Bool.or_true, Bool.false_or, Bool.or_false, Bool.true_and, Bool.and_true, Bool.false_and, Bool.and_false, cast_0, cast_1, cast_2, cast_3, two_le_size, zero_lt_size, one_lt_size, nodup_nilN, nodup_1, zero_le_size, atI_0, atI_1, atI_2, ixN_30, ixN_31, ixN_32, Option.some.injEq, List.cons.injEq, true_or, or_true, false_or, or_false]
    refine ⟨v, rfl, hv, ?_⟩
    dsimp only
    rw [dSeq_ap]
    refine st_within hv blo bhi ?_
    dsimp only
    rw [dSeq_ap]
    refine st_name hv ?_
    dsimp only
    rw [dSeq_ap]
    refine st_pair hv ?_
    have okr : ∀ a b c d : Bool, (D.lst [.bl a, .bl b, .bl c, .bl d]).okRepr := fun a b c d => okRepr_of (n := 1) rfl (Sh.lst (n := 0) fun x hx => by
      simp only [List.mem_cons, List.not_mem_nil, or_false] at hx
      rcases hx with rfl | rfl | rfl | rfl <;> exact Sh.bl _ 0) (by decide) (Rp.lst (w := 0) (v := 4) (fun x hx => by
      simp only [List.mem_cons, List.not_mem_nil, or_false] at hx
      rcases hx with rfl | rfl | rfl | rfl <;> exact Rp.bl _ 0) (Nat.le_refl 4)) (by decide)
    have shb : ∀ a b c d : Bool, Sh (D.lst [.bl a, .bl b, .bl c, .bl d]) 1 := fun a b c d => Sh.lst (n := 0) fun x hx => by
      simp only [List.mem_cons, List.not_mem_nil, or_false] at hx
      rcases hx with rfl | rfl | rfl | rfl <;> exact Sh.bl _ 0
    have okE := fun a b c d : Bool => (shb a b c d).okEq (by decide)
    have rfE := fun a b c d : Bool => (shb a b c d).refl
    (try dsimp only); rw [dSeq_ap]; simp (maxSteps := 2000000) only [↓dVar_ap, ↓dC_ap, ↓dEsc_ap, ↓dPure_ap, ↓dOp_ap, ↓dUn_ap, ↓dNil_ap, ↓dCons_ap, ↓hNil_ap, ↓hCons_ap, ↓dCB_ap, ↓dTup_ap, ↓dLst_ap, ↓dTest_ap, ↓dTru_ap, ↓dAnd_ap, ↓dOr_ap, ↓dNot_ap, ↓dAndV_ap, ↓dOrV_ap, ↓dNotV_ap, ↓dIf_ap, ↓mNil_ap, ↓mPu_ap, ↓mOw_ap, ↓gdName_ap, ↓gdNil_ap, ↓gdCons_ap, ↓gdSeq_ap, ↓dNext_ap, ↓dBreak_ap, ↓dCont_ap, ↓dNever_ap, ↓dDrop_ap, ↓dRet_ap, ↓dRetN_ap, ↓dRetV_ap, ↓dIfS_ap, ↓dAsg_ap, ↓dAsgN_ap, ↓dPar_ap, ↓dPar3_ap, ↓dParT_ap, ↓dIt_ap, ↓dItAny_ap, ↓dItA_ap, ↓dRng1_ap, ↓dRng2_ap, ↓dEnum_ap, ↓dZip_ap, ↓dFor_ap, ↓dWhile_ap, ↓dLc_ap, ↓dRepN_ap, ↓dCatN_ap, ↓dNoPart_ap, ↓dPart_ap, ↓dSl_ap, ↓dSlN_ap, ↓dChain_ap, ↓dListOf_ap, ↓dSortI_ap, ↓dApp_ap, ↓dExt_ap, ↓dSetI_ap, ↓dPop_ap, ↓dPopAt_ap, ↓kNil_ap, ↓kPu_ap, ↓kIo_ap, ↓dCall_ap, ↓kApp_ap, ↓kPerm_ap, ↓dYes_ap, ↓dZipM_ap, dEq, dNe, dEqA, dNeA, dAdd, dI, dI0, dMul, dIx, dIsN, dNotN, dIn, dLen, dInt1, dAbs, dMM, dSum, dMaxL, dMinL, dAll, dTupOf, dIsi, dStrI, dNeg, dSub, dDiv, dMod, dPow, dShl, dShr, dBand, dLt, dLe, dGt, dGe, dCallG, entryN, entry, slotsOf, putOuts, putL, Sl.put, ownL, resolve, look, slD, looks, Sl.ownd, forW, compW, wipeP, backP, D.bls, D.ints, kp, perm, List.filterMap_cons, List.filterMap_nil, List.getElem?_cons_zero, List.getElem?_cons_succ, List.getElem?_nil, List.set_cons_zero, List.set_cons_succ, List.length_cons, List.length_nil, List.replicate_succ, List.replicate_zero, List.append_nil, List.nil_append, List.cons_append, List.map_cons, List.map_nil, Option.bind_some, Option.map_some, Option.isSome_some, Nat.reduceAdd, Nat.reduceSub, Nat.zero_add, Option.bind, Option.map, ↓reduceIte, decide_eq_true_eq, decide_true, decide_false, Bool.false_eq_true, Bool.true_eq_false, Bool.not_true, Bool.not_false, Bool.not_eq_true, Bool.not_eq_false, reduceCtorEq, true_and, and_true, okEq_int, okEq_bl, okEq_non, okEq_ints, okEq_nil, eqv_int, eqv_bl, eqv_nil, List.map_eq_nil_iff, truD, D.isNon, tyName, tyB, tyKnown, isTy, tyBD, List.all_cons, List.all_nil, List.any_cons, List.any_nil, List.contains_cons, List.contains_nil, String.reduceBEq, Bool.true_or, Bool.or_true, Bool.false_or, Bool.or_false, Bool.true_and, Bool.and_true, Bool.false_and, Bool.and_false, cast_0, cast_1, cast_2, cast_3, two_le_size, zero_lt_size, one_lt_size, nodup_nilN, nodup_1, zero_le_size, atI_0, atI_1, atI_2, ixN_30, ixN_31, ixN_32, Option.some.injEq, List.cons.injEq, true_or, or_true, false_or, or_false]
    refine ⟨v, rfl, hv, ?_⟩
    simp (maxSteps := 2000000) only [↓dVar_ap, ↓dC_ap, ↓dEsc_ap, ↓dPure_ap, ↓dOp_ap, ↓dUn_ap, ↓dNil_ap, ↓dCons_ap, ↓hNil_ap, ↓hCons_ap, ↓dCB_ap, ↓dTup_ap, ↓dLst_ap, ↓dTest_ap, ↓dTru_ap, ↓dAnd_ap, ↓dOr_ap, ↓dNot_ap, ↓dAndV_ap, ↓dOrV_ap, ↓dNotV_ap, ↓dIf_ap, ↓mNil_ap, ↓mPu_ap, ↓mOw_ap, ↓gdName_ap, ↓gdNil_ap, ↓gdCons_ap, ↓gdSeq_ap, ↓dNext_ap, ↓dBreak_ap, ↓dCont_ap, ↓dNever_ap, ↓dDrop_ap, ↓dRet_ap, ↓dRetN_ap, ↓dRetV_ap, ↓dIfS_ap, ↓dAsg_ap, ↓dAsgN_ap, ↓dPar_ap, ↓dPar3_ap, ↓dParT_ap, ↓dIt_ap, ↓dItAny_ap, ↓dItA_ap, ↓dRng1_ap, ↓dRng2_ap, ↓dEnum_ap, ↓dZip_ap, ↓dFor_ap, ↓dWhile_ap, ↓dLc_ap, ↓dRepN_ap, ↓dCatN_ap, ↓dNoPart_ap, ↓dPart_ap, ↓dSl_ap, ↓dSlN_ap, ↓dChain_ap, ↓dListOf_ap, ↓dSortI_ap, ↓dApp_ap, ↓dExt_ap, ↓dSetI_ap, ↓dPop_ap, ↓dPopAt_ap, ↓kNil_ap, ↓kPu_ap, ↓kIo_ap, ↓dCall_ap, ↓kApp_ap, ↓kPerm_ap, ↓dYes_ap, ↓dZipM_ap, dEq, dNe, dEqA, dNeA, dAdd, dI, dI0, dMul, dIx, dIsN, dNotN, dIn, dLen, dInt1, dAbs, dMM, dSum, dMaxL, dMinL, dAll, dTupOf, dIsi, dStrI, dNeg, dSub, dDiv, dMod, dPow, dShl, dShr, dBand, dLt, dLe, dGt, dGe, dCallG, entryN, entry, slotsOf, putOuts, putL, Sl.put, ownL, resolve, look, slD, looks, Sl.ownd, forW, compW, wipeP, backP, D.bls, D.ints, kp, perm, List.filterMap_cons, List.filterMap_nil, List.getElem?_cons_zero, List.getElem?_cons_succ, List.getElem?_nil, List.set_cons_zero, List.set_cons_succ, List.length_cons, List.length_nil, List.replicate_succ, List.replicate_zero, List.append_nil, List.nil_append, List.cons_append, List.map_cons, List.map_nil, Option.bind_some, Option.map_some, Option.isSome_some, Nat.reduceAdd, Nat.reduceSub, Nat.zero_add, Option.bind, Option.map, ↓reduceIte, decide_eq_true_eq, decide_true, decide_false, Bool.false_eq_true, Bool.true_eq_false, Bool.not_true, Bool.not_false, Bool.not_eq_true, Bool.not_eq_false, reduceCtorEq, true_and, and_true, okEq_int, okEq_bl, okEq_non, okEq_ints, okEq_nil, eqv_int, eqv_bl, eqv_nil, List.map_eq_nil_iff, truD, D.isNon, tyName, tyB, tyKnown, isTy, tyBD, List.all_cons, List.all_nil, List.any_cons, List.any_nil, List.contains_cons, List.contains_nil, String.reduceBEq, Bool.true_or, Bool.or_true, Bool.false_or, Bool.or_false, Bool.true_and, Bool.and_true, Bool.false_and, Bool.and_false, cast_0, cast_1, cast_2, cast_3, two_le_size, zero_lt_size, one_lt_size, nodup_nilN, nodup_1, zero_le_size, atI_0, atI_1, atI_2, ixN_30, ixN_31, ixN_32, Option.some.injEq, List.cons.injEq, true_or, or_true, false_or, or_false]
    refine ⟨v, lo, hi2, rfl, hv, blo, bhi, ?_⟩
    simp (maxSteps := 2000000) only [↓dVar_ap, ↓dC_ap, ↓dEsc_ap, ↓dPure_ap, ↓dOp_ap, ↓dUn_ap, ↓dNil_ap, ↓dCons_ap, ↓hNil_ap, ↓hCons_ap, ↓dCB_ap, ↓dTup_ap, ↓dLst_ap, ↓dTest_ap, ↓dTru_ap, ↓dAnd_ap, ↓dOr_ap, ↓dNot_ap, ↓dAndV_ap, ↓dOrV_ap, ↓dNotV_ap, ↓dIf_ap, ↓mNil_ap, ↓mPu_ap, ↓mOw_ap, ↓gdName_ap, ↓gdNil_ap, ↓gdCons_ap, ↓gdSeq_ap, ↓dNext_ap, ↓dBreak_ap, ↓dCont_ap, ↓dNever_ap, ↓dDrop_ap, ↓dRet_ap, ↓dRetN_ap, ↓dRetV_ap, ↓dIfS_ap, ↓dAsg_ap, ↓dAsgN_ap, ↓dPar_ap, ↓dPar3_ap, ↓dParT_ap, ↓dIt_ap, ↓dItAny_ap, ↓dItA_ap, ↓dRng1_ap, ↓dRng2_ap, ↓dEnum_ap, ↓dZip_ap, ↓dFor_ap, ↓dWhile_ap, ↓dLc_ap, ↓dRepN_ap, ↓dCatN_ap, ↓dNoPart_ap, ↓dPart_ap, ↓dSl_ap, ↓dSlN_ap, ↓dChain_ap, ↓dListOf_ap, ↓dSortI_ap, ↓dApp_ap, ↓dExt_ap, ↓dSetI_ap, ↓dPop_ap, ↓dPopAt_ap, ↓kNil_ap, ↓kPu_ap, ↓kIo_ap, ↓dCall_ap, ↓kApp_ap, ↓kPerm_ap, ↓dYes_ap, ↓dZipM_ap, dEq, dNe, dEqA, dNeA, dAdd, dI, dI0, dMul, dIx, dIsN, dNotN, dIn, dLen, dInt1, dAbs, dMM, dSum, dMaxL, dMinL, dAll, dTupOf, dIsi, dStrI, dNeg, dSub, dDiv, dMod, dPow, dShl, dShr, dBand, dLt, dLe, dGt, dGe, dCallG, entryN, entry, slotsOf, putOuts, putL, Sl.put, ownL, resolve, look, slD, looks, Sl.ownd, forW, compW, wipeP, backP, D.bls, D.ints, kp, perm, List.filterMap_cons, List.filterMap_nil, List.getElem?_cons_zero, List.getElem?_cons_succ, List.getElem?_nil, List.set_cons_zero, List.set_cons_succ, List.length_cons, List.length_nil, List.replicate_succ, List.replicate_zero, List.append_nil, List.nil_append, List.cons_append, List.map_cons, List.map_nil, Option.bind_some, Option.map_some, Option.isSome_some, Nat.reduceAdd, Nat.reduceSub, Nat.zero_add, Option.bind, Option.map, ↓reduceIte, decide_eq_true_eq, decide_true, decide_false, Bool.false_eq_true, Bool.true_eq_false, Bool.not_true, Bool.not_false, Bool.not_eq_true, Bool.not_eq_false, reduceCtorEq, true_and, and_true, okEq_int, okEq_bl, okEq_non, okEq_ints, okEq_nil, eqv_int, eqv_bl, eqv_nil, List.map_eq_nil_iff, truD, D.isNon, tyName, tyB, tyKnown, isTy, tyBD, List.all_cons, List.all_nil, List.any_cons, List.any_nil, List.contains_cons, List.contains_nil, String.reduceBEq, Bool.true_or, Bool.or_true, Bool.false_or, Bool.or_false, Bool.true_and, Bool.and_true, Bool.false_and, Bool.and_false, cast_0, cast_1, cast_2, cast_3, two_le_size, zero_lt_size, one_lt_size, nodup_nilN, nodup_1, zero_le_size, atI_0, atI_1, atI_2, ixN_30, ixN_31, ixN_32, Option.some.injEq, List.cons.injEq, true_or, or_true, false_or, or_false]
    refine ⟨v, rfl, hv, ?_⟩
    simp (maxSteps := 2000000) only [↓dVar_ap, ↓dC_ap, ↓dEsc_ap, ↓dPure_ap, ↓dOp_ap, ↓dUn_ap, ↓dNil_ap, ↓dCons_ap, ↓hNil_ap, ↓hCons_ap, ↓dCB_ap, ↓dTup_ap, ↓dLst_ap, ↓dTest_ap, ↓dTru_ap, ↓dAnd_ap, ↓dOr_ap, ↓dNot_ap, ↓dAndV_ap, ↓dOrV_ap, ↓dNotV_ap, ↓dIf_ap, ↓mNil_ap, ↓mPu_ap, ↓mOw_ap, ↓gdName_ap, ↓gdNil_ap, ↓gdCons_ap, ↓gdSeq_ap, ↓dNext_ap, ↓dBreak_ap, ↓dCont_ap, ↓dNever_ap, ↓dDrop_ap, ↓dRet_ap, ↓dRetN_ap, ↓dRetV_ap, ↓dIfS_ap, ↓dAsg_ap, ↓dAsgN_ap, ↓dPar_ap, ↓dPar3_ap, ↓dParT_ap, ↓dIt_ap, ↓dItAny_ap, ↓dItA_ap, ↓dRng1_ap, ↓dRng2_ap, ↓dEnum_ap, ↓dZip_ap, ↓dFor_ap, ↓dWhile_ap, ↓dLc_ap, ↓dRepN_ap, ↓dCatN_ap, ↓dNoPart_ap, ↓dPart_ap, ↓dSl_ap, ↓dSlN_ap, ↓dChain_ap, ↓dListOf_ap, ↓dSortI_ap, ↓dApp_ap, ↓dExt_ap, ↓dSetI_ap, ↓dPop_ap, ↓dPopAt_ap, ↓kNil_ap, ↓kPu_ap, ↓kIo_ap, ↓dCall_ap, ↓kApp_ap, ↓kPerm_ap, ↓dYes_ap, ↓dZipM_ap, dEq, dNe, dEqA, dNeA, dAdd, dI, dI0, dMul, dIx, dIsN, dNotN, dIn, dLen, dInt1, dAbs, dMM, dSum, dMaxL, dMinL, dAll, dTupOf, dIsi, dStrI, dNeg, dSub, dDiv, dMod, dPow, dShl, dShr, dBand, dLt, dLe, dGt, dGe, dCallG, entryN, entry, slotsOf, putOuts, putL, Sl.put, ownL, resolve, look, slD, looks, Sl.ownd, forW, compW, wipeP, backP, D.bls, D.ints, kp, perm, List.filterMap_cons, List.filterMap_nil, List.getElem?_cons_zero, List.getElem?_cons_succ, List.getElem?_nil, List.set_cons_zero, List.set_cons_succ, List.length_cons, List.length_nil, List.replicate_succ, List.replicate_zero, List.append_nil, List.nil_append, List.cons_append, List.map_cons, List.map_nil, Option.bind_some, Option.map_some, Option.isSome_some, Nat.reduceAdd, Nat.reduceSub, Nat.zero_add, Option.bind, Option.map, ↓reduceIte, decide_eq_true_eq, decide_true, decide_false, Bool.false_eq_true, Bool.true_eq_false, Bool.not_true, Bool.not_false, Bool.not_eq_true, Bool.not_eq_false, reduceCtorEq, true_and, and_true, okEq_int, okEq_bl, okEq_non, okEq_ints, okEq_nil, eqv_int, eqv_bl, eqv_nil, List.map_eq_nil_iff, truD, D.isNon, tyName, tyB, tyKnown, isTy, tyBD, List.all_cons, List.all_nil, List.any_cons, List.any_nil, List.contains_cons, List.contains_nil, String.reduceBEq, Bool.true_or, Bool.or_true, Bool.false_or, Bool.or_false, Bool.true_and, Bool.and_true, Bool.false_and, Bool.and_false, cast_0, cast_1, cast_2, cast_3, two_le_size, zero_lt_size, one_lt_size, nodup_nilN, nodup_1, zero_le_size, atI_0, atI_1, atI_2, ixN_30, ixN_31, ixN_32, Option.some.injEq, List.cons.injEq, true_or, or_true, false_or, or_false]
    refine ⟨v, rfl, hv, ?_⟩
    simp (maxSteps := 2000000) only [↓dVar_ap, ↓dC_ap, ↓dEsc_ap, ↓dPure_ap, ↓dOp_ap, ↓dUn_ap, ↓dNil_ap, ↓dCons_ap, ↓hNil_ap, ↓hCons_ap, ↓dCB_ap, ↓dTup_ap, ↓dLst_ap, ↓dTest_ap, ↓dTru_ap, ↓dAnd_ap, ↓dOr_ap, ↓dNot_ap, ↓dAndV_ap, ↓dOrV_ap, ↓dNotV_ap, ↓dIf_ap, ↓mNil_ap, ↓mPu_ap, ↓mOw_ap, ↓gdName_ap, ↓gdNil_ap, ↓gdCons_ap, ↓gdSeq_ap, ↓dNext_ap, ↓dBreak_ap, ↓dCont_ap, ↓dNever_ap, ↓dDrop_ap, ↓dRet_ap, ↓dRetN_ap, ↓dRetV_ap, ↓dIfS_ap, ↓dAsg_ap, ↓dAsgN_ap, ↓dPar_ap, ↓dPar3_ap, ↓dParT_ap, ↓dIt_ap, ↓dItAny_ap, ↓dItA_ap, ↓dRng1_ap, ↓dRng2_ap, ↓dEnum_ap, ↓dZip_ap, ↓dFor_ap, ↓dWhile_ap, ↓dLc_ap, ↓dRepN_ap, ↓dCatN_ap, ↓dNoPart_ap, ↓dPart_ap, ↓dSl_ap, ↓dSlN_ap, ↓dChain_ap, ↓dListOf_ap, ↓dSortI_ap, ↓dApp_ap, ↓dExt_ap, ↓dSetI_ap, ↓dPop_ap, ↓dPopAt_ap, ↓kNil_ap, ↓kPu_ap, ↓kIo_ap, ↓dCall_ap, ↓kApp_ap, ↓kPerm_ap, ↓dYes_ap, ↓dZipM_ap, dEq, dNe, dEqA, dNeA, dAdd, dI, dI0, dMul, dIx, dIsN, dNotN, dIn, dLen, dInt1, dAbs, dMM, dSum, dMaxL, dMinL, dAll, dTupOf, dIsi, dStrI, dNeg, dSub, dDiv, dMod, dPow, dShl, dShr, dBand, dLt, dLe, dGt, dGe, dCallG, entryN, entry, slotsOf, putOuts, putL, Sl.put, ownL, resolve, look, slD, looks, Sl.ownd, forW, compW, wipeP, backP, D.bls, D.ints, kp, perm, List.filterMap_cons, List.filterMap_nil, List.getElem?_cons_zero, List.getElem?_cons_succ, List.getElem?_nil, List.set_cons_zero, List.set_cons_succ, List.length_cons, List.length_nil, List.replicate_succ, List.replicate_zero, List.append_nil, List.nil_append, List.cons_append, List.map_cons, List.map_nil, Option.bind_some, Option.map_some, Option.isSome_some, Nat.reduceAdd, Nat.reduceSub, Nat.zero_add, Option.bind, Option.map, ↓reduceIte, decide_eq_true_eq, decide_true, decide_false, Bool.false_eq_true, Bool.true_eq_false, Bool.not_true, Bool.not_false, Bool.not_eq_true, Bool.not_eq_false, reduceCtorEq, true_and, and_true, okEq_int, okEq_bl, okEq_non, okEq_ints, okEq_nil, eqv_int, eqv_bl, eqv_nil, List.map_eq_nil_iff, truD, D.isNon, tyName, tyB, tyKnown, isTy, tyBD, List.all_cons, List.all_nil, List.any_cons, List.any_nil, List.contains_cons, List.contains_nil, String.reduceBEq, Bool.true_or, Bool.or_true, Bool.false_or, Bool.or_false, Bool.true_and, Bool.and_true, Bool.false_and, Bool.and_false, cast_0, cast_1, cast_2, cast_3, two_le_size, zero_lt_size, one_lt_size, nodup_nilN, nodup_1, zero_le_size, atI_0, atI_1, atI_2, ixN_30, ixN_31, ixN_32, Option.some.injEq, List.cons.injEq, true_or, or_true, false_or, or_false]
    refine ⟨by decide, ?_⟩
    (try dsimp only); rw [dSeq_ap]; simp (maxSteps := 2000000) only [↓dVar_ap, ↓dC_ap, ↓dEsc_ap, ↓dPure_ap, ↓dOp_ap, ↓dUn_ap, ↓dNil_ap, ↓dCons_ap, ↓hNil_ap, ↓hCons_ap, ↓dCB_ap, ↓dTup_ap, ↓dLst_ap, ↓dTest_ap, ↓dTru_ap, ↓dAnd_ap, ↓dOr_ap, ↓dNot_ap, ↓dAndV_ap, ↓dOrV_ap, ↓dNotV_ap, ↓dIf_ap, ↓mNil_ap, ↓mPu_ap, ↓mOw_ap, ↓gdName_ap, ↓gdNil_ap, ↓gdCons_ap, ↓gdSeq_ap, ↓dNext_ap, ↓dBreak_ap, ↓dCont_ap, ↓dNever_ap, ↓dDrop_ap, ↓dRet_ap, ↓dRetN_ap, ↓dRetV_ap, ↓dIfS_ap, ↓dAsg_ap, ↓dAsgN_ap, ↓dPar_ap, ↓dPar3_ap, ↓dParT_ap, ↓dIt_ap, ↓dItAny_ap, ↓dItA_ap, ↓dRng1_ap, ↓dRng2_ap, ↓dEnum_ap, ↓dZip_ap, ↓dFor_ap, ↓dWhile_ap, ↓dLc_ap, ↓dRepN_ap, ↓dCatN_ap, ↓dNoPart_ap, ↓dPart_ap, ↓dSl_ap, ↓dSlN_ap, ↓dChain_ap, ↓dListOf_ap, ↓dSortI_ap, ↓dApp_ap, ↓dExt_ap, ↓dSetI_ap, ↓dPop_ap, ↓dPopAt_ap, ↓kNil_ap, ↓kPu_ap, ↓kIo_ap, ↓dCall_ap, ↓kApp_ap, ↓kPerm_ap, ↓dYes_ap, ↓dZipM_ap, dEq, dNe, dEqA, dNeA, dAdd, dI, dI0, dMul, dIx, dIsN, dNotN, dIn, dLen, dInt1, dAbs, dMM, dSum, dMaxL, dMinL, dAll, dTupOf, dIsi, dStrI, dNeg, dSub, dDiv, dMod, dPow, dShl, dShr, dBand, dLt, dLe, dGt, dGe, dCallG, entryN, entry, slotsOf, putOuts, putL, Sl.put, ownL, resolve, look, slD, looks, Sl.ownd, forW, compW, wipeP, backP, D.bls, D.ints, kp, perm, List.filterMap_cons, List.filterMap_nil, List.getElem?_cons_zero, List.getElem?_cons_succ, List.getElem?_nil, List.set_cons_zero, List.set_cons_succ, List.length_cons, List.length_nil, List.replicate_succ, List.replicate_zero, List.append_nil, List.nil_append, List.cons_append, List.map_cons, List.map_nil, Option.bind_some, Option.map_some, Option.isSome_some, Nat.reduceAdd, Nat.reduceSub, Nat.zero_add, Option.bind, Option.map, ↓reduceIte, decide_eq_true_eq, decide_true, decide_false, Bool.false_eq_true, Bool.true_eq_false, Bool.not_true, Bool.not_false, Bool.not_eq_true, Bool.not_eq_false, reduceCtorEq, true_and, and_true, okEq_int, okEq_bl, okEq_non, okEq_ints, okEq_nil, eqv_int, eqv_bl, eqv_nil, List.map_eq_nil_iff, truD, D.isNon, tyName, tyB, tyKnown, isTy, tyBD, List.all_cons, List.all_nil, List.any_cons, List.any_nil, List.contains_cons, List.contains_nil, String.reduceBEq, Bool.true_or, Bool.or_true, Bool.false_or, Bool.or_false, Bool.true_and, Bool.and_true, Bool.false_and, Bool.and_false, cast_0, cast_1, cast_2, cast_3, two_le_size, zero_lt_size, one_lt_size, nodup_nilN, nodup_1, zero_le_size, atI_0, atI_1, atI_2, ixN_30, ixN_31, ixN_32, Option.some.injEq, List.cons.injEq, true_or, or_true, false_or, or_false]
    refine ⟨_, rfl, okr _ _ _ _, ?_⟩
    simp (maxSteps := 2000000) only [↓dVar_ap, ↓dC_ap, ↓dEsc_ap, ↓dPure_ap, ↓dOp_ap, ↓dUn_ap, ↓dNil_ap, ↓dCons_ap, ↓hNil_ap, ↓hCons_ap, ↓dCB_ap, ↓dTup_ap, ↓dLst_ap, ↓dTest_ap, ↓dTru_ap, ↓dAnd_ap, ↓dOr_ap, ↓dNot_ap, ↓dAndV_ap, ↓dOrV_ap, ↓dNotV_ap, ↓dIf_ap, ↓mNil_ap, ↓mPu_ap, ↓mOw_ap, ↓gdName_ap, ↓gdNil_ap, ↓gdCons_ap, ↓gdSeq_ap, ↓dNext_ap, ↓dBreak_ap, ↓dCont_ap, ↓dNever_ap, ↓dDrop_ap, ↓dRet_ap, ↓dRetN_ap, ↓dRetV_ap, ↓dIfS_ap, ↓dAsg_ap, ↓dAsgN_ap, ↓dPar_ap, ↓dPar3_ap, ↓dParT_ap, ↓dIt_ap, ↓dItAny_ap, ↓dItA_ap, ↓dRng1_ap, ↓dRng2_ap, ↓dEnum_ap, ↓dZip_ap, ↓dFor_ap, ↓dWhile_ap, ↓dLc_ap, ↓dRepN_ap, ↓dCatN_ap, ↓dNoPart_ap, ↓dPart_ap, ↓dSl_ap, ↓dSlN_ap, ↓dChain_ap, ↓dListOf_ap, ↓dSortI_ap, ↓dApp_ap, ↓dExt_ap, ↓dSetI_ap, ↓dPop_ap, ↓dPopAt_ap, ↓kNil_ap, ↓kPu_ap, ↓kIo_ap, ↓dCall_ap, ↓kApp_ap, ↓kPerm_ap, ↓dYes_ap, ↓dZipM_ap, dEq, dNe, dEqA, dNeA, dAdd, dI, dI0, dMul, dIx, dIsN, dNotN, dIn, dLen, dInt1, dAbs, dMM, dSum, dMaxL, dMinL, dAll, dTupOf, dIsi, dStrI, dNeg, dSub, dDiv, dMod, dPow, dShl, dShr, dBand, dLt, dLe, dGt, dGe, dCallG, entryN, entry, slotsOf, putOuts, putL, Sl.put, ownL, resolve, look, slD, looks, Sl.ownd, forW, compW, wipeP, backP, D.bls, D.ints, kp, perm, List.filterMap_cons, List.filterMap_nil, List.getElem?_cons_zero, List.getElem?_cons_succ, List.getElem?_nil, List.set_cons_zero, List.set_cons_succ, List.length_cons, List.length_nil, List.replicate_succ, List.replicate_zero, List.append_nil, List.nil_append, List.cons_append, List.map_cons, List.map_nil, Option.bind_some, Option.map_some, Option.isSome_some, Nat.reduceAdd, Nat.reduceSub, Nat.zero_add, Option.bind, Option.map, ↓reduceIte, decide_eq_true_eq, decide_true, decide_false, Bool.false_eq_true, Bool.true_eq_false, Bool.not_true, Bool.not_false, Bool.not_eq_true, Bool.not_eq_false, reduceCtorEq, true_and, and_true, okEq_int, okEq_bl, okEq_non, okEq_ints, okEq_nil, eqv_int, eqv_bl, eqv_nil, List.map_eq_nil_iff, truD, D.isNon, tyName, tyB, tyKnown, isTy, tyBD, List.all_cons, List.all_nil, List.any_cons, List.any_nil, List.contains_cons, List.contains_nil, String.reduceBEq, Bool.true_or, Bool.or_true, Bool.false_or, Bool.or_false, Bool.true_and, Bool.and_true, Bool.false_and, Bool.and_false, cast_0, cast_1, cast_2, cast_3, two_le_size, zero_lt_size, one_lt_size, nodup_nilN, nodup_1, zero_le_size, atI_0, atI_1, atI_2, ixN_30, ixN_31, ixN_32, Option.some.injEq, List.cons.injEq, true_or, or_true, false_or, or_false]
    refine ⟨by decide, _, rfl, okr _ _ _ _, ?_⟩
    simp (maxSteps := 2000000) only [↓dVar_ap, ↓dC_ap, ↓dEsc_ap, ↓dPure_ap, ↓dOp_ap, ↓dUn_ap, ↓dNil_ap, ↓dCons_ap, ↓hNil_ap, ↓hCons_ap, ↓dCB_ap, ↓dTup_ap, ↓dLst_ap, ↓dTest_ap, ↓dTru_ap, ↓dAnd_ap, ↓dOr_ap, ↓dNot_ap, ↓dAndV_ap, ↓dOrV_ap, ↓dNotV_ap, ↓dIf_ap, ↓mNil_ap, ↓mPu_ap, ↓mOw_ap, ↓gdName_ap, ↓gdNil_ap, ↓gdCons_ap, ↓gdSeq_ap, ↓dNext_ap, ↓dBreak_ap, ↓dCont_ap, ↓dNever_ap, ↓dDrop_ap, ↓dRet_ap, ↓dRetN_ap, ↓dRetV_ap, ↓dIfS_ap, ↓dAsg_ap, ↓dAsgN_ap, ↓dPar_ap, ↓dPar3_ap, ↓dParT_ap, ↓dIt_ap, ↓dItAny_ap, ↓dItA_ap, ↓dRng1_ap, ↓dRng2_ap, ↓dEnum_ap, ↓dZip_ap, ↓dFor_ap, ↓dWhile_ap, ↓dLc_ap, ↓dRepN_ap, ↓dCatN_ap, ↓dNoPart_ap, ↓dPart_ap, ↓dSl_ap, ↓dSlN_ap, ↓dChain_ap, ↓dListOf_ap, ↓dSortI_ap, ↓dApp_ap, ↓dExt_ap, ↓dSetI_ap, ↓dPop_ap, ↓dPopAt_ap, ↓kNil_ap, ↓kPu_ap, ↓kIo_ap, ↓dCall_ap, ↓kApp_ap, ↓kPerm_ap, ↓dYes_ap, ↓dZipM_ap, dEq, dNe, dEqA, dNeA, dAdd, dI, dI0, dMul, dIx, dIsN, dNotN, dIn, dLen, dInt1, dAbs, dMM, dSum, dMaxL, dMinL, dAll, dTupOf, dIsi, dStrI, dNeg, dSub, dDiv, dMod, dPow, dShl, dShr, dBand, dLt, dLe, dGt, dGe, dCallG, entryN, entry, slotsOf, putOuts, putL, Sl.put, ownL, resolve, look, slD, looks, Sl.ownd, forW, compW, wipeP, backP, D.bls, D.ints, kp, perm, List.filterMap_cons, List.filterMap_nil, List.getElem?_cons_zero, List.getElem?_cons_succ, List.getElem?_nil, List.set_cons_zero, List.set_cons_succ, List.length_cons, List.length_nil, List.replicate_succ, List.replicate_zero, List.append_nil, List.nil_append, List.cons_append, List.map_cons, List.map_nil, Option.bind_some, Option.map_some, Option.isSome_some, Nat.reduceAdd, Nat.reduceSub, Nat.zero_add, Option.bind, Option.map, ↓reduceIte, decide_eq_true_eq, decide_true, decide_false, Bool.false_eq_true, Bool.true_eq_false, Bool.not_true, Bool.not_false, Bool.not_eq_true, Bool.not_eq_false, reduceCtorEq, true_and, and_true, okEq_int, okEq_bl, okEq_non, okEq_ints, okEq_nil, eqv_int, eqv_bl, eqv_nil, List.map_eq_nil_iff, truD, D.isNon, tyName, tyB, tyKnown, isTy, tyBD, List.all_cons, List.all_nil, List.any_cons, List.any_nil, List.contains_cons, List.contains_nil, String.reduceBEq, Bool.true_or, Bool.or_true, Bool.false_or, Bool.or_false, Bool.true_and, Bool.and_true, Bool.false_and, Bool.and_false, cast_0, cast_1, cast_2, cast_3, two_le_size, zero_lt_size, one_lt_size, nodup_nilN, nodup_1, zero_le_size, atI_0, atI_1, atI_2, ixN_30, ixN_31, ixN_32, Option.some.injEq, List.cons.injEq, true_or, or_true, false_or, or_false]
    refine ⟨v, rfl, hv, ?_⟩
    simp (maxSteps := 2000000) only [↓dVar_ap, ↓dC_ap, ↓dEsc_ap, ↓dPure_ap, ↓dOp_ap, ↓dUn_ap, ↓dNil_ap, ↓dCons_ap, ↓hNil_ap, ↓hCons_ap, ↓dCB_ap, ↓dTup_ap, ↓dLst_ap, ↓dTest_ap, ↓dTru_ap, ↓dAnd_ap, ↓dOr_ap, ↓dNot_ap, ↓dAndV_ap, ↓dOrV_ap, ↓dNotV_ap, ↓dIf_ap, ↓mNil_ap, ↓mPu_ap, ↓mOw_ap, ↓gdName_ap, ↓gdNil_ap, ↓gdCons_ap, ↓gdSeq_ap, ↓dNext_ap, ↓dBreak_ap, ↓dCont_ap, ↓dNever_ap, ↓dDrop_ap, ↓dRet_ap, ↓dRetN_ap, ↓dRetV_ap, ↓dIfS_ap, ↓dAsg_ap, ↓dAsgN_ap, ↓dPar_ap, ↓dPar3_ap, ↓dParT_ap, ↓dIt_ap, ↓dItAny_ap, ↓dItA_ap, ↓dRng1_ap, ↓dRng2_ap, ↓dEnum_ap, ↓dZip_ap, ↓dFor_ap, ↓dWhile_ap, ↓dLc_ap, ↓dRepN_ap, ↓dCatN_ap, ↓dNoPart_ap, ↓dPart_ap, ↓dSl_ap, ↓dSlN_ap, ↓dChain_ap, ↓dListOf_ap, ↓dSortI_ap, ↓dApp_ap, ↓dExt_ap, ↓dSetI_ap, ↓dPop_ap, ↓dPopAt_ap, ↓kNil_ap, ↓kPu_ap, ↓kIo_ap, ↓dCall_ap, ↓kApp_ap, ↓kPerm_ap, ↓dYes_ap, ↓dZipM_ap, dEq, dNe, dEqA, dNeA, dAdd, dI, dI0, dMul, dIx, dIsN, dNotN, dIn, dLen, dInt1, dAbs, dMM, dSum, dMaxL, dMinL, dAll, dTupOf, dIsi, dStrI, dNeg, dSub, dDiv, dMod, dPow, dShl, dShr, dBand, dLt, dLe, dGt, dGe, dCallG, entryN, entry, slotsOf, putOuts, putL, Sl.put, ownL, resolve, look, slD, looks, Sl.ownd, forW, compW, wipeP, backP, D.bls, D.ints, kp, perm, List.filterMap_cons, List.filterMap_nil, List.getElem?_cons_zero, List.getElem?_cons_succ, List.getElem?_nil, List.set_cons_zero, List.set_cons_succ, List.length_cons, List.length_nil, List.replicate_succ, List.replicate_zero, List.append_nil, List.nil_append, List.cons_append, List.map_cons, List.map_nil, Option.bind_some, Option.map_some, Option.isSome_some, Nat.reduceAdd, Nat.reduceSub, Nat.zero_add, Option.bind, Option.map, ↓reduceIte, decide_eq_true_eq, decide_true, decide_false, Bool.false_eq_true, Bool.true_eq_false, Bool.not_true, Bool.not_false, Bool.not_eq_true, Bool.not_eq_false, reduceCtorEq, true_and, and_true, okEq_int, okEq_bl, okEq_non, okEq_ints, okEq_nil, eqv_int, eqv_bl, eqv_nil, List.map_eq_nil_iff, truD, D.isNon, tyName, tyB, tyKnown, isTy, tyBD, List.all_cons, List.all_nil, List.any_cons, List.any_nil, List.contains_cons, List.contains_nil, String.reduceBEq, Bool.true_or, Bool.or_true, Bool.false_or, Bool.or_false, Bool.true_and, Bool.and_true, Bool.false_and, Bool.and_false, cast_0, cast_1, cast_2, cast_3, two_le_size, zero_lt_size, one_lt_size, nodup_nilN, nodup_1, zero_le_size, atI_0, atI_1, atI_2, ixN_30, ixN_31, ixN_32, Option.some.injEq, List.cons.injEq, true_or, or_true, false_or, or_false]
    refine ⟨v, lo, hi2, rfl, hv, blo, bhi, ?_⟩
    simp (maxSteps := 2000000) only [↓dVar_ap, ↓dC_ap, ↓dEsc_ap, ↓dPure_ap, ↓dOp_ap, ↓dUn_ap, ↓dNil_ap, ↓dCons_ap, ↓hNil_ap, ↓hCons_ap, ↓dCB_ap, ↓dTup_ap, ↓dLst_ap, ↓dTest_ap, ↓dTru_ap, ↓dAnd_ap, ↓dOr_ap, ↓dNot_ap, ↓dAndV_ap, ↓dOrV_ap, ↓dNotV_ap, ↓dIf_ap, ↓mNil_ap, ↓mPu_ap, ↓mOw_ap, ↓gdName_ap, ↓gdNil_ap, ↓gdCons_ap, ↓gdSeq_ap, ↓dNext_ap, ↓dBreak_ap, ↓dCont_ap, ↓dNever_ap, ↓dDrop_ap, ↓dRet_ap, ↓dRetN_ap, ↓dRetV_ap, ↓dIfS_ap, ↓dAsg_ap, ↓dAsgN_ap, ↓dPar_ap, ↓dPar3_ap, ↓dParT_ap, ↓dIt_ap, ↓dItAny_ap, ↓dItA_ap, ↓dRng1_ap, ↓dRng2_ap, ↓dEnum_ap, ↓dZip_ap, ↓dFor_ap, ↓dWhile_ap, ↓dLc_ap, ↓dRepN_ap, ↓dCatN_ap, ↓dNoPart_ap, ↓dPart_ap, ↓dSl_ap, ↓dSlN_ap, ↓dChain_ap, ↓dListOf_ap, ↓dSortI_ap, ↓dApp_ap, ↓dExt_ap, ↓dSetI_ap, ↓dPop_ap, ↓dPopAt_ap, ↓kNil_ap, ↓kPu_ap, ↓kIo_ap, ↓dCall_ap, ↓kApp_ap, ↓kPerm_ap, ↓dYes_ap, ↓dZipM_ap, dEq, dNe, dEqA, dNeA, dAdd, dI, dI0, dMul, dIx, dIsN, dNotN, dIn, dLen, dInt1, dAbs, dMM, dSum, dMaxL, dMinL, dAll, dTupOf, dIsi, dStrI, dNeg, dSub, dDiv, dMod, dPow, dShl, dShr, dBand, dLt, dLe, dGt, dGe, dCallG, entryN, entry, slotsOf, putOuts, putL, Sl.put, ownL, resolve, look, slD, looks, Sl.ownd, forW, compW, wipeP, backP, D.bls, D.ints, kp, perm, List.filterMap_cons, List.filterMap_nil, List.getElem?_cons_zero, List.getElem?_cons_succ, List.getElem?_nil, List.set_cons_zero, List.set_cons_succ, List.length_cons, List.length_nil, List.replicate_succ, List.replicate_zero, List.append_nil, List.nil_append, List.cons_append, List.map_cons, List.map_nil, Option.bind_some, Option.map_some, Option.isSome_some, Nat.reduceAdd, Nat.reduceSub, Nat.zero_add, Option.bind, Option.map, ↓reduceIte, decide_eq_true_eq, decide_true, decide_false, Bool.false_eq_true, Bool.true_eq_false, Bool.not_true, Bool.not_false, Bool.not_eq_true, Bool.not_eq_false, reduceCtorEq, true_and, and_true, okEq_int, okEq_bl, okEq_non, okEq_ints, okEq_nil, eqv_int, eqv_bl, eqv_nil, List.map_eq_nil_iff, truD, D.isNon, tyName, tyB, tyKnown, isTy, tyBD, List.all_cons, List.all_nil, List.any_cons, List.any_nil, List.contains_cons, List.contains_nil, String.reduceBEq, Bool.true_or, Bool.or_true, Bool.false_or, Bool.or_false, Bool.true_and, Bool.and_true, Bool.false_and, Bool.and_false, cast_0, cast_1, cast_2, cast_3, two_le_size, zero_lt_size, one_lt_size, nodup_nilN, nodup_1, zero_le_size, atI_0, atI_1, atI_2, ixN_30, ixN_31, ixN_32, Option.some.injEq, List.cons.injEq, true_or, or_true, false_or, or_false]
    refine ⟨v, rfl, hv, ?_⟩
    simp (maxSteps := 2000000) only [↓dVar_ap, ↓dC_ap, ↓dEsc_ap, ↓dPure_ap, ↓dOp_ap, ↓dUn_ap, ↓dNil_ap, ↓dCons_ap, ↓hNil_ap, ↓hCons_ap, ↓dCB_ap, ↓dTup_ap, ↓dLst_ap, ↓dTest_ap, ↓dTru_ap, ↓dAnd_ap, ↓dOr_ap, ↓dNot_ap, ↓dAndV_ap, ↓dOrV_ap, ↓dNotV_ap, ↓dIf_ap, ↓mNil_ap, ↓mPu_ap, ↓mOw_ap, ↓gdName_ap, ↓gdNil_ap, ↓gdCons_ap, ↓gdSeq_ap, ↓dNext_ap, ↓dBreak_ap, ↓dCont_ap, ↓dNever_ap, ↓dDrop_ap, ↓dRet_ap, ↓dRetN_ap, ↓dRetV_ap, ↓dIfS_ap, ↓dAsg_ap, ↓dAsgN_ap, ↓dPar_ap, ↓dPar3_ap, ↓dParT_ap, ↓dIt_ap, ↓dItAny_ap, ↓dItA_ap, ↓dRng1_ap, ↓dRng2_ap, ↓dEnum_ap, ↓dZip_ap, ↓dFor_ap, ↓dWhile_ap, ↓dLc_ap, ↓dRepN_ap, ↓dCatN_ap, ↓dNoPart_ap, ↓dPart_ap, ↓dSl_ap, ↓dSlN_ap, ↓dChain_ap, ↓dListOf_ap, ↓dSortI_ap, ↓dApp_ap, ↓dExt_ap, ↓dSetI_ap, ↓dPop_ap, ↓dPopAt_ap, ↓kNil_ap, ↓kPu_ap, ↓kIo_ap, ↓dCall_ap, ↓kApp_ap, ↓kPerm_ap, ↓dYes_ap, ↓dZipM_ap, dEq, dNe, dEqA, dNeA, dAdd, dI, dI0, dMul, dIx, dIsN, dNotN, dIn, dLen, dInt1, dAbs, dMM, dSum, dMaxL, dMinL, dAll, dTupOf, dIsi, dStrI, dNeg, dSub, dDiv, dMod, dPow, dShl, dShr, dBand, dLt, dLe, dGt, dGe, dCallG, entryN, entry, slotsOf, putOuts, putL, Sl.put, ownL, resolve, look, slD, looks, Sl.ownd, forW, compW, wipeP, backP, D.bls, D.ints, kp, perm, List.filterMap_cons, List.filterMap_nil, List.getElem?_cons_zero, List.getElem?_cons_succ, List.getElem?_nil, List.set_cons_zero, List.set_cons_succ, List.length_cons, List.length_nil, List.replicate_succ, List.replicate_zero, List.append_nil, List.nil_append, List.cons_append, List.map_cons, List.map_nil, Option.bind_some, Option.map_some, Option.isSome_some, Nat.reduceAdd, Nat.reduceSub, Nat.zero_add, Option.bind, Option.map, ↓reduceIte, decide_eq_true_eq, decide_true, decide_false, Bool.false_eq_true, Bool.true_eq_false, Bool.not_true, Bool.not_false, Bool.not_eq_true, Bool.not_eq_false, reduceCtorEq, true_and, and_true, okEq_int, okEq_bl, okEq_non, okEq_ints, okEq_nil, eqv_int, eqv_bl, eqv_nil, List.map_eq_nil_iff, truD, D.isNon, tyName, tyB, tyKnown, isTy, tyBD, List.all_cons, List.all_nil, List.any_cons, List.any_nil, List.contains_cons, List.contains_nil, String.reduceBEq, Bool.true_or, Bool.or_true, Bool.false_or, Bool.or_false, Bool.true_and, Bool.and_true, Bool.false_and, Bool.and_false, cast_0, cast_1, cast_2, cast_3, two_le_size, zero_lt_size, one_lt_size, nodup_nilN, nodup_1, zero_le_size, atI_0, atI_1, atI_2, ixN_30, ixN_31, ixN_32, Option.some.injEq, List.cons.injEq, true_or, or_true, false_or, or_false]
    refine ⟨v, rfl, hv, ?_⟩
    simp (maxSteps := 2000000) only [↓dVar_ap, ↓dC_ap, ↓dEsc_ap, ↓dPure_ap, ↓dOp_ap, ↓dUn_ap, ↓dNil_ap, ↓dCons_ap, ↓hNil_ap, ↓hCons_ap, ↓dCB_ap, ↓dTup_ap, ↓dLst_ap, ↓dTest_ap, ↓dTru_ap, ↓dAnd_ap, ↓dOr_ap, ↓dNot_ap, ↓dAndV_ap, ↓dOrV_ap, ↓dNotV_ap, ↓dIf_ap, ↓mNil_ap, ↓mPu_ap, ↓mOw_ap, ↓gdName_ap, ↓gdNil_ap, ↓gdCons_ap, ↓gdSeq_ap, ↓dNext_ap, ↓dBreak_ap, ↓dCont_ap, ↓dNever_ap, ↓dDrop_ap, ↓dRet_ap, ↓dRetN_ap, ↓dRetV_ap, ↓dIfS_ap, ↓dAsg_ap, ↓dAsgN_ap, ↓dPar_ap, ↓dPar3_ap, ↓dParT_ap, ↓dIt_ap, ↓dItAny_ap, ↓dItA_ap, ↓dRng1_ap, ↓dRng2_ap, ↓dEnum_ap, ↓dZip_ap, ↓dFor_ap, ↓dWhile_ap, ↓dLc_ap, ↓dRepN_ap, ↓dCatN_ap, ↓dNoPart_ap, ↓dPart_ap, ↓dSl_ap, ↓dSlN_ap, ↓dChain_ap, ↓dListOf_ap, ↓dSortI_ap, ↓dApp_ap, ↓dExt_ap, ↓dSetI_ap, ↓dPop_ap, ↓dPopAt_ap, ↓kNil_ap, ↓kPu_ap, ↓kIo_ap, ↓dCall_ap, ↓kApp_ap, ↓kPerm_ap, ↓dYes_ap, ↓dZipM_ap, dEq, dNe, dEqA, dNeA, dAdd, dI, dI0, dMul, dIx, dIsN, dNotN, dIn, dLen, dInt1, dAbs, dMM, dSum, dMaxL, dMinL, dAll, dTupOf, dIsi, dStrI, dNeg, dSub, dDiv, dMod, dPow, dShl, dShr, dBand, dLt, dLe, dGt, dGe, dCallG, entryN, entry, slotsOf, putOuts, putL, Sl.put, ownL, resolve, look, slD, looks, Sl.ownd, forW, compW, wipeP, backP, D.bls, D.ints, kp, perm, List.filterMap_cons, List.filterMap_nil, List.getElem?_cons_zero, List.getElem?_cons_succ, List.getElem?_nil, List.set_cons_zero, List.set_cons_succ, List.length_cons, List.length_nil, List.replicate_succ, List.replicate_zero, List.append_nil, List.nil_append, List.cons_append, List.map_cons, List.map_nil, Option.bind_some, Option.map_some, Option.isSome_some, Nat.reduceAdd, Nat.reduceSub, Nat.zero_add, Option.bind, Option.map, ↓reduceIte, decide_eq_true_eq, decide_true, decide_false, Bool.false_eq_true, Bool.true_eq_false, Bool.not_true, Bool.not_false, Bool.not_eq_true, Bool.not_eq_false, reduceCtorEq, true_and, and_true, okEq_int, okEq_bl, okEq_non, okEq_ints, okEq_nil, eqv_int, eqv_bl, eqv_nil, List.map_eq_nil_iff, truD, D.isNon, tyName, tyB, tyKnown, isTy, tyBD, List.all_cons, List.all_nil, List.any_cons, List.any_nil, List.contains_cons, List.contains_nil, String.reduceBEq, Bool.true_or, Bool.or_true, Bool.false_or, Bool.or_false, Bool.true_and, Bool.and_true, Bool.false_and, Bool.and_false, cast_0, cast_1, cast_2, cast_3, two_le_size, zero_lt_size, one_lt_size, nodup_nilN, nodup_1, zero_le_size, atI_0, atI_1, atI_2, ixN_30, ixN_31, ixN_32, Option.some.injEq, List.cons.injEq, true_or, or_true, false_or, or_false, okE, rfE]
    refine ⟨by decide, k _ ⟨b3, _, _, _, _, _, _, _, _, _, hb3.mono (by rw [List.length_append, List.length_singleton]; omega), rfl⟩⟩
  · rintro ps ⟨b0, x2, x3, x4, x5, x6, x7, x8, x9, x10, hb0, rfl⟩
    simp (maxSteps := 2000000) only [↓dVar_ap, ↓dC_ap, ↓dEsc_ap, ↓dPure_ap, ↓dOp_ap, ↓dUn_ap, ↓dNil_ap, ↓dCons_ap, ↓hNil_ap, ↓hCons_ap, ↓dCB_ap, ↓dTup_ap, ↓dLst_ap, ↓dTest_ap, ↓dTru_ap, ↓dAnd_ap, ↓dOr_ap, ↓dNot_ap, ↓dAndV_ap, ↓dOrV_ap, ↓dNotV_ap, ↓dIf_ap, ↓mNil_ap, ↓mPu_ap, ↓mOw_ap, ↓gdName_ap, ↓gdNil_ap, ↓gdCons_ap, ↓gdSeq_ap, ↓dNext_ap, ↓dBreak_ap, ↓dCont_ap, ↓dNever_ap, ↓dDrop_ap, ↓dRet_ap, ↓dRetN_ap, ↓dRetV_ap, ↓dIfS_ap, ↓dAsg_ap, ↓dAsgN_ap, ↓dPar_ap, ↓dPar3_ap, ↓dParT_ap, ↓dIt_ap, ↓dItAny_ap, ↓dItA_ap, ↓dRng1_ap, ↓dRng2_ap, ↓dEnum_ap, ↓dZip_ap, ↓dFor_ap, ↓dWhile_ap, ↓dLc_ap, ↓dRepN_ap, ↓dCatN_ap, ↓dNoPart_ap, ↓dPart_ap, ↓dSl_ap, ↓dSlN_ap, ↓dChain_ap, ↓dListOf_ap, ↓dSortI_ap, ↓dApp_ap, ↓dExt_ap, ↓dSetI_ap, ↓dPop_ap, ↓dPopAt_ap, ↓kNil_ap, ↓kPu_ap, ↓kIo_ap, ↓dCall_ap, ↓kApp_ap, ↓kPerm_ap, ↓dYes_ap, ↓dZipM_ap, dEq, dNe, dEqA, dNeA, dAdd, dI, dI0, dMul, dIx, dIsN, dNotN, dIn, dLen, dInt1, dAbs, dMM, dSum, dMaxL, dMinL, dAll, dTupOf, dIsi, dStrI, dNeg, dSub, dDiv, dMod, dPow, dShl, dShr, dBand, dLt, dLe, dGt, dGe, dCallG, entryN, entry, slotsOf, putOuts, putL, Sl.put, ownL, resolve, look, slD, looks, Sl.ownd, forW, compW, wipeP, backP, D.bls, D.ints, kp, perm, List.filterMap_cons, List.filterMap_nil, List.getElem?_cons_zero, List.getElem?_cons_succ, List.getElem?_nil, List.set_cons_zero, List.set_cons_succ, List.length_cons, List.length_nil, List.replicate_succ, List.replicate_zero, List.append_nil, List.nil_append, List.cons_append, List.map_cons, List.map_nil, Option.bind_some, Option.map_some, Option.isSome_some, Nat.reduceAdd, Nat.reduceSub, Nat.zero_add, Option.bind, Option.map, ↓reduceIte, decide_eq_true_eq, decide_true, decide_false, Bool.false_eq_true, Bool.true_eq_false, Bool.not_true, Bool.not_false, Bool.not_eq_true, Bool.not_eq_false, reduceCtorEq, true_and, and_true, okEq_int, okEq_bl, okEq_non, okEq_ints, okEq_nil, eqv_int, eqv_bl, eqv_nil, List.map_eq_nil_iff, truD, D.isNon, tyName, tyB, tyKnown, isTy, tyBD, List.all_cons, List.all_nil, List.any_cons, List.any_nil, List.contains_cons, List.contains_nil, String.reduceBEq, Bool.true_or, Bool.or_true, Bool.false_or, Bool.or_false, Bool.true_and, Bool.and_true, Bool.false_and, Bool.and_false, cast_0, cast_1, cast_2, cast_3, two_le_size, zero_lt_size, one_lt_size, nodup_nilN, nodup_1, zero_le_size, atI_0, atI_1, atI_2, ixN_30, ixN_31, ixN_32, Option.some.injEq, List.cons.injEq, true_or, or_true, false_or, or_false]
    exact ends_rt rfl q
end G

set_option Elab.async false
set_option linter.all false
set_option maxRecDepth 100000
set_option maxHeartbeats 0
namespace G
open PySem PySem.Spec PyProof.Rows L2 Z
def dd_law : He.DefD := ⟨("law", none), "law", "law", defArgs (top 14), defBody (top 14), defScope (top 14), [], []⟩
def dd__law_sieve : He.DefD := ⟨("_law_sieve", none), "_law_sieve", "_law_sieve", defArgs (top 9), defBody (top 9), defScope (top 9), [], []⟩
def dd__law_any : He.DefD := ⟨("_law_any", none), "_law_any", "_law_any", defArgs (top 12), defBody (top 12), defScope (top 12), [], []⟩
def dd__law_one : He.DefD := ⟨("_law_one", none), "_law_one", "_law_one", defArgs (top 11), defBody (top 11), defScope (top 11), [], []⟩
def dd__law_sift : He.DefD := ⟨("_law_sift", none), "_law_sift", "_law_sift", defArgs (top 10), defBody (top 10), defScope (top 10), [], []⟩
def dd__law_is_integer : He.DefD := ⟨("_law_is_integer", none), "_law_is_integer", "_law_is_integer", defArgs (top 13), defBody (top 13), defScope (top 13), [], []⟩
def dd_is_integer : He.DefD := ⟨("is_integer", none), "is_integer", "is_integer", defArgs (top 4), defBody (top 4), defScope (top 4), [], []⟩
def dd_is_within : He.DefD := ⟨("is_within", none), "is_within", "is_within", defArgs (top 5), defBody (top 5), defScope (top 5), [], []⟩
def dd_is_name : He.DefD := ⟨("is_name", none), "is_name", "is_name", defArgs (top 6), defBody (top 6), defScope (top 6), [], []⟩
def dd_is_pair : He.DefD := ⟨("is_pair", none), "is_pair", "is_pair", defArgs (top 7), defBody (top 7), defScope (top 7), [], []⟩
def fn : List He.DefD := [dd_law, dd__law_sieve, dd__law_any, dd__law_one, dd__law_sift, dd__law_is_integer, dd_is_integer, dd_is_within, dd_is_name, dd_is_pair]
def fa : List He.Fa := [.glo "law", .glo "_law_sieve", .glo "_law_any", .glo "_law_one", .glo "_law_sift", .glo "_law_is_integer", .glo "is_integer", .glo "is_within", .glo "is_name", .glo "is_pair", .free "abs", .free "all", .free "bool", .free "int", .free "isinstance", .free "len", .free "list", .free "range", .free "repr", .free "str", .free "tuple", .int "MOST_PART" 1000000, .int "MOST_SIGNS" 60, .str "SIGNS" "01"]
def loose : List PySem.Str := (["__name__", "SIGNS", "MOST_SIGNS", "MOST_PART", "is_integer", "is_within", "is_name", "is_pair", "_law_sieve", "_law_sift", "_law_one", "_law_any", "_law_is_integer"] : List PySem.Str)
abbrev R : PySem.W.OpenRow := PySem.W.OpenLaw.row PySem.Challenge.rw_duetickers_k02_what_any_value_is
abbrev hk : PySem.W.Hook := He.hookD 4 fa fn
def ob (s : PySem.W.SharedT) : He.AlD := He.obsDG 4 fa fn (HandSHeadRun.getT s)
theorem ob_eq (s : PySem.W.SharedT) : ob s = hk.obs s.abs := He.obsDG_eq (HandSHeadRun.getT_eq s)
theorem run (w : World) : HandSHeadRun.RunEq R (PySem.W.view R.prog [14]) hk ob 3000 loose w := by
  intro os
  kernel_rfl
theorem txt {K : PySem.W.Frag} {h : Heap} {mg : Str → Option Value} (X : K.In h) (G : h.Ns mainGlobals mg) (c : He.SaysD fa fn K) : Txt mg where
  n_abs := He.free_ok X G (c.fact 10 (f := .free "abs") rfl)
  n_all := He.free_ok X G (c.fact 11 (f := .free "all") rfl)
  n_bool := He.free_ok X G (c.fact 12 (f := .free "bool") rfl)
  n_int := He.free_ok X G (c.fact 13 (f := .free "int") rfl)
  n_isinstance := He.free_ok X G (c.fact 14 (f := .free "isinstance") rfl)
  n_len := He.free_ok X G (c.fact 15 (f := .free "len") rfl)
  n_list := He.free_ok X G (c.fact 16 (f := .free "list") rfl)
  n_range := He.free_ok X G (c.fact 17 (f := .free "range") rfl)
  n_repr := He.free_ok X G (c.fact 18 (f := .free "repr") rfl)
  n_str := He.free_ok X G (c.fact 19 (f := .free "str") rfl)
  n_tuple := He.free_ok X G (c.fact 20 (f := .free "tuple") rfl)
  k_MOST_PART := let ⟨t, e⟩ := He.int_ok X G (c.fact 21 (f := .int "MOST_PART" 1000000) rfl); ⟨_, e, t, rfl⟩
  k_MOST_SIGNS := let ⟨t, e⟩ := He.int_ok X G (c.fact 22 (f := .int "MOST_SIGNS" 60) rfl); ⟨_, e, t, rfl⟩
  k_SIGNS := let ⟨t, e⟩ := He.str_ok X G (c.fact 23 (f := .str "SIGNS" "01") rfl); ⟨_, e, t, rfl⟩
theorem facts {P : Program} {w : World} {K : PySem.W.Frag} {h : Heap} {mg : Str → Option Value} {f : Addr} (X : K.In h) (G : h.Ns mainGlobals mg) (hfa : mg ("law" : Str) = some (.ref f)) (c : He.SaysD fa fn K) :
    ∃ fd : FuncData, (∀ (s : Shared) (v : Value), BindsTo s fd ⟨[v], []⟩ [("_law_script", v)]) ∧ ∀ base : Heap, K.In base → base.Ns mainGlobals mg → FnG P w K mg base CX0 4 f fd ["_law_script"] (lift K [false] false spLaw) := by
  have T := txt X G c
  obtain ⟨fd_law, F_law⟩ := c.def_ 0 (d := dd_law) rfl
  have m_law := He.glo_ok X G (c.fact 0 (f := .glo "law") rfl)
  have U_law : Fun K "law" "law" s_law _ fd_law := toFun F_law
  obtain ⟨fd__law_sieve, F__law_sieve⟩ := c.def_ 1 (d := dd__law_sieve) rfl
  have m__law_sieve := He.glo_ok X G (c.fact 1 (f := .glo "_law_sieve") rfl)
  have U__law_sieve : Fun K "_law_sieve" "_law_sieve" s__law_sieve _ fd__law_sieve := toFun F__law_sieve
  obtain ⟨fd__law_any, F__law_any⟩ := c.def_ 2 (d := dd__law_any) rfl
  have m__law_any := He.glo_ok X G (c.fact 2 (f := .glo "_law_any") rfl)
  have U__law_any : Fun K "_law_any" "_law_any" s__law_any _ fd__law_any := toFun F__law_any
  obtain ⟨fd__law_one, F__law_one⟩ := c.def_ 3 (d := dd__law_one) rfl
  have m__law_one := He.glo_ok X G (c.fact 3 (f := .glo "_law_one") rfl)
  have U__law_one : Fun K "_law_one" "_law_one" s__law_one _ fd__law_one := toFun F__law_one
  obtain ⟨fd__law_sift, F__law_sift⟩ := c.def_ 4 (d := dd__law_sift) rfl
  have m__law_sift := He.glo_ok X G (c.fact 4 (f := .glo "_law_sift") rfl)
  have U__law_sift : Fun K "_law_sift" "_law_sift" s__law_sift _ fd__law_sift := toFun F__law_sift
  obtain ⟨fd__law_is_integer, F__law_is_integer⟩ := c.def_ 5 (d := dd__law_is_integer) rfl
  have m__law_is_integer := He.glo_ok X G (c.fact 5 (f := .glo "_law_is_integer") rfl)
  have U__law_is_integer : Fun K "_law_is_integer" "_law_is_integer" s__law_is_integer _ fd__law_is_integer := toFun F__law_is_integer
  obtain ⟨fd_is_integer, F_is_integer⟩ := c.def_ 6 (d := dd_is_integer) rfl
  have m_is_integer := He.glo_ok X G (c.fact 6 (f := .glo "is_integer") rfl)
  have U_is_integer : Fun K "is_integer" "is_integer" s_is_integer _ fd_is_integer := toFun F_is_integer
  obtain ⟨fd_is_within, F_is_within⟩ := c.def_ 7 (d := dd_is_within) rfl
  have m_is_within := He.glo_ok X G (c.fact 7 (f := .glo "is_within") rfl)
  have U_is_within : Fun K "is_within" "is_within" s_is_within _ fd_is_within := toFun F_is_within
  obtain ⟨fd_is_name, F_is_name⟩ := c.def_ 8 (d := dd_is_name) rfl
  have m_is_name := He.glo_ok X G (c.fact 8 (f := .glo "is_name") rfl)
  have U_is_name : Fun K "is_name" "is_name" s_is_name _ fd_is_name := toFun F_is_name
  obtain ⟨fd_is_pair, F_is_pair⟩ := c.def_ 9 (d := dd_is_pair) rfl
  have m_is_pair := He.glo_ok X G (c.fact 9 (f := .glo "is_pair") rfl)
  have U_is_pair : Fun K "is_pair" "is_pair" s_is_pair _ fd_is_pair := toFun F_is_pair
  have eL := hfa.symm.trans m_law
  cases eL
  have b := FunD.bindsA (ps := ["_law_script"]) F_law fun _ _ _ _ _ _ us hl => match us, hl with | [_], _ => rfl
  refine ⟨fd_law, fun s v => b s [v] rfl, fun base _ _ => ?_⟩
  have G__law_sieve := ok__law_sieve (P := P) (w := w) (base := base) T U__law_sieve m__law_sieve (sp := sp__law_sieve) hd__law_sieve
  have G__law_sift := ok__law_sift (P := P) (w := w) (base := base) T U__law_sift m__law_sift (sp := sp__law_sift) hd__law_sift
  have G__law_one := ok__law_one (P := P) (w := w) (base := base) T U__law_one m__law_one G__law_sift (sp := sp__law_one) hd__law_one
  have G__law_any := ok__law_any (P := P) (w := w) (base := base) T U__law_any m__law_any G__law_one G__law_sift (sp := sp__law_any) hd__law_any
  have G__law_is_integer := ok__law_is_integer (P := P) (w := w) (base := base) T U__law_is_integer m__law_is_integer (sp := sp__law_is_integer) hd__law_is_integer
  have G_is_integer := ok_is_integer (P := P) (w := w) (base := base) T U_is_integer m_is_integer (sp := sp_is_integer) hd_is_integer
  have G_is_within := ok_is_within (P := P) (w := w) (base := base) T U_is_within m_is_within G_is_integer (sp := sp_is_within) hd_is_within
  have G_is_name := ok_is_name (P := P) (w := w) (base := base) T U_is_name m_is_name (sp := sp_is_name) hd_is_name
  have G_is_pair := ok_is_pair (P := P) (w := w) (base := base) T U_is_pair m_is_pair G_is_within (sp := sp_is_pair) hd_is_pair
  have G_law := ok_law (P := P) (w := w) (base := base) T U_law m_law G__law_sieve G__law_any G__law_one G__law_is_integer G_is_pair G_is_name G_is_within G_is_integer (sp := spLaw) hd_law
  exact G_law.at_ m_law U_law
end G
open PySem PySem.W PySem.Calls PyProof.Rows
theorem PySem.Challenge.cw_duetickers_k02_what_any_value_is_holds : PySem.Challenge.rw_duetickers_k02_what_any_value_is.Holds := by
  w_on; o_law
  refine HandSHeadRun.head_any (r := OpenLaw.row PySem.Challenge.rw_duetickers_k02_what_any_value_is) (q := view (OpenLaw.row PySem.Challenge.rw_duetickers_k02_what_any_value_is).prog [14]) (H := G.hk) (ob := G.ob) (M := 3000) (loose := G.loose) (d := HandSHeadRun.topDef (OpenLaw.row PySem.Challenge.rw_duetickers_k02_what_any_value_is).prog 14) (kwd := []) G.ob_eq
    (by kernel_rfl) (fun s => by kernel_rfl) G.run (by kernel_rfl) (by kernel_rfl) (by kernel_rfl) (by rfl) (by first | assumption | decide +kernel) (by decide +kernel) ⟨rfl, rfl, rfl, rfl, rfl, by decide +kernel⟩ ?hw ?hc
  case hw => w_witness2
  case hc =>
    refine Z.walk_ofGE (l := PySem.Challenge.rw_duetickers_k02_what_any_value_is) (n := 63) (k := 4) (x := "_law_script") (CX := L2.CX0) rfl (by decide) (by kernel_rfl) ⟨rfl, by decide, by decide⟩ ?F (fun _ _ _ _ z => z)
    intro w mg fa h Y G hmg0
    obtain ⟨K, KX, c⟩ := Y
    have hmg : mg ("law" : PySem.Str) = some (.ref fa) := by
      have e : (HandSHeadRun.topDef (OpenLaw.row PySem.Challenge.rw_duetickers_k02_what_any_value_is).prog 14).name = ("law" : PySem.Str) := by kernel_rfl
      rw [← e]
      exact hmg0
    obtain ⟨fd, hb, hF⟩ := _root_.G.facts (P := (PySem.Challenge.rw_duetickers_k02_what_any_value_is).prog) (w := w) KX G hmg c
    exact ⟨K, fd, _, KX, hb, fun H a ns hl hS => Z.law_lift hl hS, hF⟩

