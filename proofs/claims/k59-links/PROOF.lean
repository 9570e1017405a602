import PyProof.Rows.All
import Wide.All
import OpenK.AllK
import Wide.FinOn
import HandS.ForMost
import HandS.ForExc
import HandS.CallSlots
import HandS.Wide
import HandS.WideMore
import HandS.SortOrd
import HandS.SortRule
import HandS.Deep
import HandS.Flow
import HandS.Style
import HandS.IsInst
import HandS.Walk
import HandS.TryMany
import HandS.TupAny
import HandS.SortInts
import KE.KSortTupAny
import HandS.Text
import HandS.Strs
import PySem.Challenge.RW_callweir_k59_links
set_option Elab.async false
set_option linter.all false
set_option maxRecDepth 100000
set_option maxHeartbeats 2000000
/-! # Data, a store of what changes, and how both lie in the abstract heap -/
namespace Py
open PySem PySem.Spec PyProof.Rows L2

/-- data: what never changes, and handles (ref k) of the store -/
inductive D where
  | non | bl (b : Bool) | int (i : Int) | str (s : Str)
  | tup (xs : List D) | lst (xs : List D)
  | obj (c : Str) (ns : List Str) (xs : List D)
  | ref (k : Nat)
instance : Inhabited D := ⟨.non⟩
/-- what changes -/
inductive O where
  | lst (xs : List D)
  | dK (kvs : List (Key × D))
  | dT (kvs : List (List Key × D))
  | ins (c : Str) (fs : List (Str × D))
abbrev Store := List O
/-- an exception of an own class, its fields -/
structure Exn where
  c : Str
  fs : List (Str × D)

/-- the places: of the handles, in order; of what is being made and is no handle (hid) -/
structure Pl where
  hs : List Addr
  hid : List Addr
def Pl.out (ρ : Pl) (a : Addr) : Prop := a ∉ ρ.hs ∧ a ∉ ρ.hid
def FzL (K : PySem.W.Frag) (ρ : Pl) (H : Hp) (a : Addr) (vs : List V) : Prop := (ρ.out a ∧ Rd H a (.lst vs)) ∨ (SqL K (fun _ => none) a vs ∧ ∃ (its : Array Value) (n : Nat), K.lookup a = some { cls := .type "list", data := .seq its n })
/-- a tuple: its object is known, and has no dict -/
def FzT (K : PySem.W.Frag) (ρ : Pl) (H : Hp) (a : Addr) (vs : List V) : Prop := (ρ.out a ∧ ∃ o : Obj, o.dict = none ∧ H a = some (.frz o (.tup vs))) ∨ (SqT K (fun _ => none) a vs ∧ ∃ o : Obj, K.lookup a = some o ∧ o.dict = none)
theorem FzL.sq {K : PySem.W.Frag} {ρ : Pl} {H : Hp} {a : Addr} {vs : List V} (h : FzL K ρ H a vs) : SqL K H a vs := by
  rcases h with ⟨_, h⟩ | ⟨h, _⟩
  · exact .inl h
  · rcases h with (h | ⟨_, h⟩) | h
    · cases h
    · cases h
    · exact .inr h
theorem FzT.sq {K : PySem.W.Frag} {ρ : Pl} {H : Hp} {a : Addr} {vs : List V} (h : FzT K ρ H a vs) : SqT K H a vs := by
  rcases h with ⟨_, o, _, h⟩ | ⟨h, _⟩
  · exact .inl (.inr ⟨o, h⟩)
  · rcases h with (h | ⟨_, h⟩) | h
    · cases h
    · cases h
    · exact .inr h

mutual
inductive Rep (K : PySem.W.Frag) (mg : Str → Option Value) (ρ : Pl) (H : Hp) : V → D → Prop
  | non : Rep K mg ρ H .non .non
  | bl (b : Bool) : Rep K mg ρ H (.bl b) (.bl b)
  | int (i : Int) : Rep K mg ρ H (.int i) (.int i)
  | str (x : Str) : Rep K mg ρ H (.str x) (.str x)
  | tup {a : Addr} {vs : List V} {ds : List D} : FzT K ρ H a vs → vs.length ≤ sizeLine → RepAll K mg ρ H vs ds → Rep K mg ρ H (.ref a) (.tup ds)
  | lst {a : Addr} {vs : List V} {ds : List D} : FzL K ρ H a vs → vs.length ≤ sizeLine → RepAll K mg ρ H vs ds → Rep K mg ρ H (.ref a) (.lst ds)
  | obj {a C dx : Addr} {c : Str} {fs : List (Str × V)} {ns : List Str} {ds : List D} : H a = some (.ins C dx fs) → ρ.out a → mg c = some (.ref C) → fs.map (·.1) = ns →
      RepAll K mg ρ H (fs.map (·.2)) ds → Rep K mg ρ H (.ref a) (.obj c ns ds)
  | ref {k : Nat} {a : Addr} : ρ.hs[k]? = some a → Rep K mg ρ H (.ref a) (.ref k)
inductive RepAll (K : PySem.W.Frag) (mg : Str → Option Value) (ρ : Pl) (H : Hp) : List V → List D → Prop
  | nil : RepAll K mg ρ H [] []
  | cons {v : V} {vs : List V} {d : D} {ds : List D} : Rep K mg ρ H v d → RepAll K mg ρ H vs ds → RepAll K mg ρ H (v :: vs) (d :: ds)
end

/-- from (ρ, H) to (ρ', H'): more handles, all of them new; what is no handle's stands -/
structure Step (ρ : Pl) (H : Hp) (ρ' : Pl) (H' : Hp) : Prop where
  ext : ∃ new, ρ' = ⟨ρ.hs ++ new, ρ.hid⟩ ∧ ∀ a ∈ new, H a = none
  keep : ∀ a o, a ∉ ρ.hs → H a = some o → H' a = some o
  dom : ∀ a, H' a = none → H a = none

theorem Step.refl {ρ : Pl} {H : Hp} : Step ρ H ρ H := ⟨⟨[], by simp, by simp⟩, fun _ _ _ h => h, fun _ h => h⟩
theorem Step.mem {ρ ρ' : Pl} {H H' : Hp} (s : Step ρ H ρ' H') {a : Addr} (h : a ∈ ρ.hs) : a ∈ ρ'.hs := by
  obtain ⟨n, rfl, _⟩ := s.ext
  exact List.mem_append_left _ h
theorem Step.get {ρ ρ' : Pl} {H H' : Hp} (s : Step ρ H ρ' H') {k : Nat} {a : Addr} (h : ρ.hs[k]? = some a) : ρ'.hs[k]? = some a := by
  obtain ⟨n, rfl, _⟩ := s.ext
  obtain ⟨hk, e⟩ := List.getElem?_eq_some_iff.mp h
  show (ρ.hs ++ n)[k]? = some a
  rw [List.getElem?_append_left hk]; exact h
theorem Step.hnm {ρ ρ' : Pl} {H H' : Hp} (s : Step ρ H ρ' H') {a : Addr} {o : HO} (h : a ∉ ρ.hs) (e : H a = some o) : a ∉ ρ'.hs := by
  obtain ⟨n, rfl, hn⟩ := s.ext
  intro hm
  rcases List.mem_append.mp hm with z | z
  · exact h z
  · rw [hn a z] at e; cases e
theorem Step.hid {ρ ρ' : Pl} {H H' : Hp} (s : Step ρ H ρ' H') : ρ'.hid = ρ.hid := by
  obtain ⟨n, rfl, hn⟩ := s.ext
  rfl
theorem Step.nmem {ρ ρ' : Pl} {H H' : Hp} (s : Step ρ H ρ' H') {a : Addr} {o : HO} (h : ρ.out a) (e : H a = some o) : ρ'.out a :=
  ⟨s.hnm h.1 e, by rw [s.hid]; exact h.2⟩
theorem Step.trans {ρ ρ1 ρ2 : Pl} {H H1 H2 : Hp} (s : Step ρ H ρ1 H1) (t : Step ρ1 H1 ρ2 H2) : Step ρ H ρ2 H2 := by
  obtain ⟨n1, e1, h1⟩ := s.ext
  obtain ⟨n2, e2, h2⟩ := t.ext
  refine ⟨⟨n1 ++ n2, by rw [e2, e1, List.append_assoc], fun a ha => ?_⟩, fun a o ha e => t.keep a o (s.hnm ha e) (s.keep a o ha e), fun a h => s.dom a (t.dom a h)⟩
  rcases List.mem_append.mp ha with z | z
  · exact h1 a z
  · exact s.dom a (h2 a z)

section
variable {K : PySem.W.Frag} {mg : Str → Option Value} {ρ ρ' : Pl} {H H' : Hp}
theorem FzL.step (s : Step ρ H ρ' H') {a : Addr} {vs : List V} (h : FzL K ρ H a vs) : FzL K ρ' H' a vs := by
  rcases h with ⟨n, h⟩ | h
  · rcases h with h | ⟨o, h⟩
    · exact .inl ⟨s.nmem n h, .inl (s.keep _ _ n.1 h)⟩
    · exact .inl ⟨s.nmem n h, .inr ⟨o, s.keep _ _ n.1 h⟩⟩
  · exact .inr h
theorem FzT.step (s : Step ρ H ρ' H') {a : Addr} {vs : List V} (h : FzT K ρ H a vs) : FzT K ρ' H' a vs := by
  rcases h with ⟨n, o, d, h⟩ | h
  · exact .inl ⟨s.nmem n h, o, d, s.keep _ _ n.1 h⟩
  · exact .inr h
mutual
theorem Rep.step (s : Step ρ H ρ' H') : ∀ {v : V} {d : D}, Rep K mg ρ H v d → Rep K mg ρ' H' v d
  | _, _, .non => .non
  | _, _, .bl b => .bl b
  | _, _, .int i => .int i
  | _, _, .str x => .str x
  | _, _, .tup h z r => .tup (h.step s) z (RepAll.step s r)
  | _, _, .lst h z r => .lst (h.step s) z (RepAll.step s r)
  | _, _, .obj h n m e r => .obj (s.keep _ _ n.1 h) (s.nmem n h) m e (RepAll.step s r)
  | _, _, .ref h => .ref (s.get h)
theorem RepAll.step (s : Step ρ H ρ' H') : ∀ {vs : List V} {ds : List D}, RepAll K mg ρ H vs ds → RepAll K mg ρ' H' vs ds
  | _, _, .nil => .nil
  | _, _, .cons a b => .cons (Rep.step s a) (RepAll.step s b)
end
theorem RepAll.length : ∀ {vs : List V} {ds : List D}, RepAll K mg ρ H vs ds → vs.length = ds.length
  | _, _, .nil => rfl
  | _, _, .cons _ b => by rw [List.length_cons, List.length_cons, RepAll.length b]
theorem RepAll.append : ∀ {vs ws : List V} {ds es : List D}, RepAll K mg ρ H vs ds → RepAll K mg ρ H ws es → RepAll K mg ρ H (vs ++ ws) (ds ++ es)
  | _, _, _, _, .nil, h => h
  | _, _, _, _, .cons a b, h => .cons a (RepAll.append b h)
theorem RepAll.get : ∀ {vs : List V} {ds : List D} {i : Nat} {d : D}, RepAll K mg ρ H vs ds → ds[i]? = some d → ∃ v, vs[i]? = some v ∧ Rep K mg ρ H v d
  | _, _, _, _, .nil, e => by simp at e
  | _, _, 0, _, .cons a _, e => ⟨_, rfl, by simp at e; rw [← e]; exact a⟩
  | _, _, i + 1, d, .cons _ b, e => by
    obtain ⟨v, h1, h2⟩ := RepAll.get (i := i) (d := d) b (by simpa using e)
    exact ⟨v, by simpa using h1, h2⟩
theorem RepAll.getV : ∀ {vs : List V} {ds : List D} {i : Nat} {v : V}, RepAll K mg ρ H vs ds → vs[i]? = some v → ∃ d, ds[i]? = some d ∧ Rep K mg ρ H v d
  | _, _, _, _, .nil, e => by simp at e
  | _, _, 0, _, .cons a _, e => ⟨_, rfl, by simp at e; rw [← e]; exact a⟩
  | _, _, i + 1, v, .cons _ b, e => by
    obtain ⟨d, h1, h2⟩ := RepAll.getV (i := i) (v := v) b (by simpa using e)
    exact ⟨d, by simpa using h1, h2⟩
theorem RepAll.set {v : V} {d : D} (r : Rep K mg ρ H v d) : ∀ {vs : List V} {ds : List D} (i : Nat), RepAll K mg ρ H vs ds → RepAll K mg ρ H (vs.set i v) (ds.set i d)
  | _, _, _, .nil => .nil
  | _, _, 0, .cons _ t => .cons r t
  | _, _, i + 1, .cons q t => .cons q (RepAll.set r i t)
theorem RepAll.take : ∀ {vs : List V} {ds : List D} (n : Nat), RepAll K mg ρ H vs ds → RepAll K mg ρ H (vs.take n) (ds.take n)
  | _, _, 0, _ => .nil
  | _, _, _ + 1, .nil => .nil
  | _, _, n + 1, .cons r t => .cons r (RepAll.take n t)
theorem RepAll.drop : ∀ {vs : List V} {ds : List D} (n : Nat), RepAll K mg ρ H vs ds → RepAll K mg ρ H (vs.drop n) (ds.drop n)
  | _, _, 0, r => r
  | _, _, _ + 1, .nil => .nil
  | _, _, n + 1, .cons r t => RepAll.drop n t
theorem RepAll.dropLast {vs : List V} {ds : List D} (h : RepAll K mg ρ H vs ds) : RepAll K mg ρ H vs.dropLast ds.dropLast := by
  rw [List.dropLast_eq_take, List.dropLast_eq_take, h.length]; exact h.take _
theorem RepAll.eraseIdx : ∀ {vs : List V} {ds : List D} (i : Nat), RepAll K mg ρ H vs ds → RepAll K mg ρ H (vs.eraseIdx i) (ds.eraseIdx i)
  | _, _, _, .nil => .nil
  | _, _, 0, .cons _ t => t
  | _, _, i + 1, .cons r t => .cons r (RepAll.eraseIdx i t)
theorem RepAll.reverse {vs : List V} {ds : List D} (h : RepAll K mg ρ H vs ds) : RepAll K mg ρ H vs.reverse ds.reverse := by
  induction ds generalizing vs with
  | nil => cases h; exact .nil
  | cons d ds ih =>
    cases h with
    | cons a b =>
      rw [List.reverse_cons, List.reverse_cons]
      exact (ih b).append (.cons a .nil)
theorem RepAll.mapInt (ns : List Int) : RepAll K mg ρ H (ns.map V.int) (ns.map D.int) := by
  induction ns with
  | nil => exact .nil
  | cons n ns ih => exact .cons (.int n) ih
theorem RepAll.ofInt : ∀ {vs : List V} {ns : List Int}, RepAll K mg ρ H vs (ns.map D.int) → vs = ns.map V.int
  | _, [], h => by cases h; rfl
  | _, n :: ns, h => by
    cases h with
    | cons a b => cases a; rw [RepAll.ofInt b] <;> rfl

/-- an object of the store lies at a -/
def ObRep (K : PySem.W.Frag) (mg : Str → Option Value) (ρ : Pl) (H : Hp) (a : Addr) : O → Prop
  | .lst ds => ∃ vs, H a = some (.lst vs) ∧ vs.length ≤ sizeLine ∧ RepAll K mg ρ H vs ds
  | .dK kvs => ∃ ws : List (Key × V), H a = some (.dK ws) ∧ ws.map (·.1) = kvs.map (·.1) ∧ RepAll K mg ρ H (ws.map (·.2)) (kvs.map (·.2))
  | .dT kvs => ∃ ws : List (List Key × V), H a = some (.dT ws) ∧ ws.map (·.1) = kvs.map (·.1) ∧ RepAll K mg ρ H (ws.map (·.2)) (kvs.map (·.2))
  | .ins c fs => ∃ (C dx : Addr) (ws : List (Str × V)), H a = some (.ins C dx ws) ∧ mg c = some (.ref C) ∧ ws.map (·.1) = fs.map (·.1) ∧ RepAll K mg ρ H (ws.map (·.2)) (fs.map (·.2))
/-- the store lies in the heap -/
structure SOk (K : PySem.W.Frag) (mg : Str → Option Value) (ρ : Pl) (H : Hp) (M : Store) : Prop where
  len : ρ.hs.length = M.length
  nd : ρ.hs.Nodup
  hd : ∀ a ∈ ρ.hid, H a ≠ none ∧ a ∉ ρ.hs
  at' : ∀ (k : Nat) (o : O) (a : Addr), M[k]? = some o → ρ.hs[k]? = some a → ObRep K mg ρ H a o
theorem SOk.has {M : Store} (s : SOk K mg ρ H M) {k : Nat} {o : O} (h : M[k]? = some o) : ∃ a, ρ.hs[k]? = some a ∧ a ∈ ρ.hs ∧ ObRep K mg ρ H a o := by
  obtain ⟨hk, _⟩ := List.getElem?_eq_some_iff.mp h
  have hk' : k < ρ.hs.length := by rw [s.len]; exact hk
  exact ⟨ρ.hs[k], List.getElem?_eq_getElem hk', List.getElem_mem hk', s.at' k o _ h (List.getElem?_eq_getElem hk')⟩
theorem ObRep.some {a : Addr} {o : O} (h : ObRep K mg ρ H a o) : ∃ u, H a = some u := by
  cases o with
  | lst xs => obtain ⟨_, h, _⟩ := h; exact ⟨_, h⟩
  | dK xs => obtain ⟨_, h, _⟩ := h; exact ⟨_, h⟩
  | dT xs => obtain ⟨_, h, _⟩ := h; exact ⟨_, h⟩
  | ins c fs => obtain ⟨_, _, _, h, _⟩ := h; exact ⟨_, h⟩
theorem SOk.dom {M : Store} (s : SOk K mg ρ H M) {a : Addr} (h : H a = none) : ρ.out a := by
  refine ⟨fun hm => ?_, fun hm => (s.hd a hm).1 h⟩
  obtain ⟨k, hk, e⟩ := List.getElem_of_mem hm
  have hk' : k < M.length := by rw [← s.len]; exact hk
  obtain ⟨u, hu⟩ := (s.at' k M[k] a (List.getElem?_eq_getElem hk') (by rw [List.getElem?_eq_getElem hk, e])).some
  rw [h] at hu; cases hu
theorem ObRep.step {a : Addr} {o : O} (s : Step ρ H ρ' H') (e : H' a = H a) (h : ObRep K mg ρ H a o) : ObRep K mg ρ' H' a o := by
  cases o with
  | lst xs => obtain ⟨vs, h, z, r⟩ := h; exact ⟨vs, e.trans h, z, r.step s⟩
  | dK xs => obtain ⟨vs, h, z, r⟩ := h; exact ⟨vs, e.trans h, z, r.step s⟩
  | dT xs => obtain ⟨vs, h, z, r⟩ := h; exact ⟨vs, e.trans h, z, r.step s⟩
  | ins c fs => obtain ⟨C, dx, ws, h, m, z, r⟩ := h; exact ⟨C, dx, ws, e.trans h, m, z, r.step s⟩

/-- something new that is no handle -/
theorem Step.new {p : Addr} {u : HO} (h : H p = none) : Step ρ H ρ (upd H p u) :=
  ⟨⟨[], by simp, by simp⟩, fun a o _ e => by rw [upd_ne (ne_of_none e h)]; exact e, fun a e => by
    by_cases q : a = p
    · subst q; rw [upd_same] at e; cases e
    · rw [upd_ne q] at e; exact e⟩
theorem upd_some {H : Hp} {a p : Addr} {u : HO} (h : H a ≠ none) : upd H p u a ≠ none := by
  by_cases q : a = p
  · subst q; rw [upd_same]; simp
  · rw [upd_ne q]; exact h
theorem SOk.new {M : Store} {p : Addr} {u : HO} (s : SOk K mg ρ H M) (h : H p = none) : SOk K mg ρ (upd H p u) M :=
  ⟨s.len, s.nd, fun a ha => ⟨upd_some (s.hd a ha).1, (s.hd a ha).2⟩, fun k o a e1 e2 => (s.at' k o a e1 e2).step (Step.new h) (upd_ne fun q => by
    subst q
    exact (s.dom h).1 (List.mem_of_getElem? e2))⟩
/-- a new handle -/
theorem Step.newH {p : Addr} {u : HO} (h : H p = none) : Step ρ H ⟨ρ.hs ++ [p], ρ.hid⟩ (upd H p u) :=
  ⟨⟨[p], rfl, fun a ha => by rw [List.mem_singleton.mp ha]; exact h⟩, (Step.new h).keep, (Step.new (ρ := ρ) h).dom⟩
theorem SOk.newH {M : Store} {p : Addr} {u : HO} {o : O} (s : SOk K mg ρ H M) (h : H p = none) (r : ObRep K mg ⟨ρ.hs ++ [p], ρ.hid⟩ (upd H p u) p o) : SOk K mg ⟨ρ.hs ++ [p], ρ.hid⟩ (upd H p u) (M ++ [o]) := by
  refine ⟨by simp [s.len], List.nodup_append.mpr ⟨s.nd, by simp, fun a ha b hb => ?_⟩, fun a ha => ⟨upd_some (s.hd a ha).1, fun hm => ?_⟩, fun k o' a e1 e2 => ?_⟩
  · rw [List.mem_singleton.mp hb]
    intro q
    subst q
    exact (s.dom h).1 ha
  · rcases List.mem_append.mp hm with z | z
    · exact (s.hd a ha).2 z
    · rw [List.mem_singleton.mp z] at ha
      exact (s.hd p ha).1 h
  · have e2' : (ρ.hs ++ [p])[k]? = some a := e2
    by_cases hk : k < M.length
    · rw [List.getElem?_append_left hk] at e1
      rw [List.getElem?_append_left (by rw [s.len]; exact hk)] at e2'
      exact (s.at' k o' a e1 e2').step (Step.newH h) (upd_ne fun q => by
        subst q
        exact (s.dom h).1 (List.mem_of_getElem? e2'))
    · have hl : k < (M ++ [o]).length := (List.getElem?_eq_some_iff.mp e1).1
      have ek : k = M.length := by simp at hl; omega
      subst ek
      rw [List.getElem?_append_right (Nat.le_refl _), Nat.sub_self] at e1
      rw [← s.len, List.getElem?_append_right (Nat.le_refl _), Nat.sub_self] at e2'
      simp at e1 e2'
      subst e1 e2'
      exact r
/-- a handle's object changes -/
theorem Step.write {p : Addr} {u : HO} (h : p ∈ ρ.hs) : Step ρ H ρ (upd H p u) :=
  ⟨⟨[], by simp, by simp⟩, fun a o n e => by rw [upd_ne (fun q => n (by rw [q]; exact h))]; exact e, fun a e => by
    by_cases q : a = p
    · subst q; rw [upd_same] at e; cases e
    · rw [upd_ne q] at e; exact e⟩
theorem SOk.write {M : Store} {k : Nat} {p : Addr} {u : HO} {o : O} (s : SOk K mg ρ H M) (hk : ρ.hs[k]? = some p) (r : ObRep K mg ρ (upd H p u) p o) : SOk K mg ρ (upd H p u) (M.set k o) := by
  refine ⟨by simp [s.len], s.nd, fun a ha => ⟨upd_some (s.hd a ha).1, (s.hd a ha).2⟩, fun j o' a e1 e2 => ?_⟩
  by_cases hj : j = k
  · subst hj
    have hl : j < M.length := by rw [← s.len]; exact (List.getElem?_eq_some_iff.mp hk).1
    rw [List.getElem?_set_self hl] at e1
    rw [hk] at e2
    cases e1; cases e2
    exact r
  · rw [List.getElem?_set_ne (Ne.symm hj)] at e1
    refine (s.at' j o' a e1 e2).step (Step.write (List.mem_of_getElem? hk)) (upd_ne fun q => hj ?_)
    subst q
    obtain ⟨h1, e1'⟩ := List.getElem?_eq_some_iff.mp e2
    obtain ⟨h2, e2'⟩ := List.getElem?_eq_some_iff.mp hk
    exact (List.getElem_inj s.nd).mp (e1'.trans e2'.symm)
/-- what is being made grows: nobody looks at it -/
theorem FzL.hidw {p : Addr} {u : HO} (hp : p ∈ ρ.hid) {a : Addr} {vs : List V} (h : FzL K ρ H a vs) : FzL K ρ (upd H p u) a vs := by
  rcases h with ⟨n, h⟩ | h
  · have e : upd H p u a = H a := upd_ne fun q => n.2 (by rw [q]; exact hp)
    rcases h with h | ⟨o, h⟩
    · exact .inl ⟨n, .inl (e.trans h)⟩
    · exact .inl ⟨n, .inr ⟨o, e.trans h⟩⟩
  · exact .inr h
theorem FzT.hidw {p : Addr} {u : HO} (hp : p ∈ ρ.hid) {a : Addr} {vs : List V} (h : FzT K ρ H a vs) : FzT K ρ (upd H p u) a vs := by
  rcases h with ⟨n, o, d, h⟩ | h
  · have e : upd H p u a = H a := upd_ne fun q => n.2 (by rw [q]; exact hp)
    exact .inl ⟨n, o, d, e.trans h⟩
  · exact .inr h
mutual
theorem Rep.hidw {p : Addr} {u : HO} (hp : p ∈ ρ.hid) : ∀ {v : V} {d : D}, Rep K mg ρ H v d → Rep K mg ρ (upd H p u) v d
  | _, _, .non => .non
  | _, _, .bl b => .bl b
  | _, _, .int i => .int i
  | _, _, .str x => .str x
  | _, _, .tup h z r => .tup (h.hidw hp) z (RepAll.hidw hp r)
  | _, _, .lst h z r => .lst (h.hidw hp) z (RepAll.hidw hp r)
  | _, _, .obj h n m e r => .obj ((upd_ne fun q => n.2 (by rw [q]; exact hp)).trans h) n m e (RepAll.hidw hp r)
  | _, _, .ref h => .ref h
theorem RepAll.hidw {p : Addr} {u : HO} (hp : p ∈ ρ.hid) : ∀ {vs : List V} {ds : List D}, RepAll K mg ρ H vs ds → RepAll K mg ρ (upd H p u) vs ds
  | _, _, .nil => .nil
  | _, _, .cons a b => .cons (Rep.hidw hp a) (RepAll.hidw hp b)
end
theorem ObRep.hidw {p a : Addr} {u : HO} (hp : p ∈ ρ.hid) (ne : a ≠ p) {o : O} (h : ObRep K mg ρ H a o) : ObRep K mg ρ (upd H p u) a o := by
  cases o with
  | lst xs => obtain ⟨vs, h, z, r⟩ := h; exact ⟨vs, (upd_ne ne).trans h, z, r.hidw hp⟩
  | dK xs => obtain ⟨vs, h, z, r⟩ := h; exact ⟨vs, (upd_ne ne).trans h, z, r.hidw hp⟩
  | dT xs => obtain ⟨vs, h, z, r⟩ := h; exact ⟨vs, (upd_ne ne).trans h, z, r.hidw hp⟩
  | ins c fs => obtain ⟨C, dx, ws, h, m, z, r⟩ := h; exact ⟨C, dx, ws, (upd_ne ne).trans h, m, z, r.hidw hp⟩
theorem SOk.hidw {M : Store} {p : Addr} {u : HO} (hp : p ∈ ρ.hid) (s : SOk K mg ρ H M) : SOk K mg ρ (upd H p u) M :=
  ⟨s.len, s.nd, fun a ha => ⟨upd_some (s.hd a ha).1, (s.hd a ha).2⟩, fun k o a e1 e2 => (s.at' k o a e1 e2).hidw hp fun q => (s.hd p hp).2 (by
    rw [← q]; exact List.mem_of_getElem? e2)⟩
/-- what was being made is made -/
def Pl.less (ρ : Pl) (h : List Addr) : Pl := ⟨ρ.hs, h⟩
theorem FzL.unhid {h' : List Addr} (hs : ∀ a ∈ h', a ∈ ρ.hid) {a : Addr} {vs : List V} (h : FzL K ρ H a vs) : FzL K (ρ.less h') H a vs := by
  rcases h with ⟨n, h⟩ | h
  · exact .inl ⟨⟨n.1, fun z => n.2 (hs a z)⟩, h⟩
  · exact .inr h
theorem FzT.unhid {h' : List Addr} (hs : ∀ a ∈ h', a ∈ ρ.hid) {a : Addr} {vs : List V} (h : FzT K ρ H a vs) : FzT K (ρ.less h') H a vs := by
  rcases h with ⟨n, h⟩ | h
  · exact .inl ⟨⟨n.1, fun z => n.2 (hs a z)⟩, h⟩
  · exact .inr h
mutual
theorem Rep.unhid {h' : List Addr} (hs : ∀ a ∈ h', a ∈ ρ.hid) : ∀ {v : V} {d : D}, Rep K mg ρ H v d → Rep K mg (ρ.less h') H v d
  | _, _, .non => .non
  | _, _, .bl b => .bl b
  | _, _, .int i => .int i
  | _, _, .str x => .str x
  | _, _, .tup h z r => .tup (h.unhid hs) z (RepAll.unhid hs r)
  | _, _, .lst h z r => .lst (h.unhid hs) z (RepAll.unhid hs r)
  | _, _, .obj h n m e r => .obj h ⟨n.1, fun z => n.2 (hs _ z)⟩ m e (RepAll.unhid hs r)
  | _, _, .ref h => .ref h
theorem RepAll.unhid {h' : List Addr} (hs : ∀ a ∈ h', a ∈ ρ.hid) : ∀ {vs : List V} {ds : List D}, RepAll K mg ρ H vs ds → RepAll K mg (ρ.less h') H vs ds
  | _, _, .nil => .nil
  | _, _, .cons a b => .cons (Rep.unhid hs a) (RepAll.unhid hs b)
end
theorem ObRep.unhid {h' : List Addr} (hs : ∀ a ∈ h', a ∈ ρ.hid) {a : Addr} {o : O} (h : ObRep K mg ρ H a o) : ObRep K mg (ρ.less h') H a o := by
  cases o with
  | lst xs => obtain ⟨vs, h, z, r⟩ := h; exact ⟨vs, h, z, r.unhid hs⟩
  | dK xs => obtain ⟨vs, h, z, r⟩ := h; exact ⟨vs, h, z, r.unhid hs⟩
  | dT xs => obtain ⟨vs, h, z, r⟩ := h; exact ⟨vs, h, z, r.unhid hs⟩
  | ins c fs => obtain ⟨C, dx, ws, h, m, z, r⟩ := h; exact ⟨C, dx, ws, h, m, z, r.unhid hs⟩
theorem SOk.unhid {h' : List Addr} (hs : ∀ a ∈ h', a ∈ ρ.hid) {M : Store} (s : SOk K mg ρ H M) : SOk K mg (ρ.less h') H M :=
  ⟨s.len, s.nd, fun a ha => s.hd a (hs a ha), fun k o a e1 e2 => (s.at' k o a e1 e2).unhid hs⟩
/-- by what it leans on -/
structure Tr (K : PySem.W.Frag) (ρ : Pl) (H : Hp) (ρ' : Pl) (H' : Hp) : Prop where
  l : ∀ a vs, FzL K ρ H a vs → FzL K ρ' H' a vs
  t : ∀ a vs, FzT K ρ H a vs → FzT K ρ' H' a vs
  o : ∀ a C dx fs, H a = some (.ins C dx fs) → ρ.out a → H' a = some (.ins C dx fs) ∧ ρ'.out a
  r : ∀ (k : Nat) a, ρ.hs[k]? = some a → ρ'.hs[k]? = some a
mutual
theorem Rep.tr (s : Tr K ρ H ρ' H') : ∀ {v : V} {d : D}, Rep K mg ρ H v d → Rep K mg ρ' H' v d
  | _, _, .non => .non
  | _, _, .bl b => .bl b
  | _, _, .int i => .int i
  | _, _, .str x => .str x
  | _, _, .tup h z r => .tup (s.t _ _ h) z (RepAll.tr s r)
  | _, _, .lst h z r => .lst (s.l _ _ h) z (RepAll.tr s r)
  | _, _, .obj h n m e r => .obj (s.o _ _ _ _ h n).1 (s.o _ _ _ _ h n).2 m e (RepAll.tr s r)
  | _, _, .ref h => .ref (s.r _ _ h)
theorem RepAll.tr (s : Tr K ρ H ρ' H') : ∀ {vs : List V} {ds : List D}, RepAll K mg ρ H vs ds → RepAll K mg ρ' H' vs ds
  | _, _, .nil => .nil
  | _, _, .cons a b => .cons (Rep.tr s a) (RepAll.tr s b)
end
theorem ObRep.tr (s : Tr K ρ H ρ' H') {a : Addr} (e : H' a = H a) {o : O} (h : ObRep K mg ρ H a o) : ObRep K mg ρ' H' a o := by
  cases o with
  | lst xs => obtain ⟨vs, h, z, r⟩ := h; exact ⟨vs, e.trans h, z, r.tr s⟩
  | dK xs => obtain ⟨vs, h, z, r⟩ := h; exact ⟨vs, e.trans h, z, r.tr s⟩
  | dT xs => obtain ⟨vs, h, z, r⟩ := h; exact ⟨vs, e.trans h, z, r.tr s⟩
  | ins c fs => obtain ⟨C, dx, ws, h, m, z, r⟩ := h; exact ⟨C, dx, ws, e.trans h, m, z, r.tr s⟩
/-- something begins to be made -/
def Pl.more (ρ : Pl) (p : Addr) : Pl := ⟨ρ.hs, p :: ρ.hid⟩
theorem Tr.begin {p : Addr} {u : HO} (h : H p = none) : Tr K ρ H (ρ.more p) (upd H p u) := by
  have out : ∀ {a : Addr} {o : HO}, ρ.out a → H a = some o → (ρ.more p).out a := fun {a o} n e => ⟨n.1, fun z => by
    rcases List.mem_cons.mp z with z | z
    · rw [z, h] at e; cases e
    · exact n.2 z⟩
  have st : ∀ {a : Addr} {o : HO}, H a = some o → upd H p u a = some o := fun {a o} e => by rw [upd_ne (ne_of_none e h)]; exact e
  refine ⟨fun a vs q => ?_, fun a vs q => ?_, fun a C dx fs e n => ⟨st e, out n e⟩, fun k a q => q⟩
  · rcases q with ⟨n, q | ⟨o, q⟩⟩ | q
    · exact .inl ⟨out n q, .inl (st q)⟩
    · exact .inl ⟨out n q, .inr ⟨o, st q⟩⟩
    · exact .inr q
  · rcases q with ⟨n, o, d, q⟩ | q
    · exact .inl ⟨out n q, o, d, st q⟩
    · exact .inr q
theorem SOk.begin {M : Store} {p : Addr} {u : HO} (s : SOk K mg ρ H M) (h : H p = none) : SOk K mg (ρ.more p) (upd H p u) M :=
  ⟨s.len, s.nd, fun a ha => by
    rcases List.mem_cons.mp ha with z | z
    · subst z; exact ⟨by rw [upd_same]; simp, (s.dom h).1⟩
    · exact ⟨upd_some (s.hd a z).1, (s.hd a z).2⟩, fun k o a e1 e2 => (s.at' k o a e1 e2).tr (Tr.begin h) (upd_ne fun q => by
    subst q
    exact (s.dom h).1 (List.mem_of_getElem? e2))⟩
end
end Py
set_option Elab.async false
set_option linter.all false
set_option maxRecDepth 100000
set_option maxHeartbeats 2000000
/-! # Functions of data, and what it is that a piece of Python computes one -/
namespace Py
open PySem PySem.Spec PyProof.Rows L2

inductive Res (α : Type) where
  | ok (a : α) (M : Store)
  | ex (x : Exn) (M : Store)
  | no
def Res.bind {α β : Type} (r : Res α) (f : α → Store → Res β) : Res β := match r with
  | .ok a M => f a M
  | .ex x M => .ex x M
  | .no => .no
abbrev En := List (Option D)
abbrev EF := En → Store → Res D
abbrev BF := En → Store → Res Bool
abbrev AF := En → Store → Res (List D)
inductive SR where
  | nx (e : En) (M : Store)
  | rt (d : D) (M : Store)
  | bk (e : En) (M : Store)
  | ct (e : En) (M : Store)
  | ex (x : Exn) (e : En) (M : Store)
  | no
abbrev SF := En → Store → SR
/-- the value of a def, of its arguments -/
abbrev MF := List D → Store → Res D

structure EnRep (K : PySem.W.Frag) (mg : Str → Option Value) (ρ : Pl) (H : Hp) (σ : L2.St) (e : En) : Prop where
  len : σ.length = e.length
  at' : ∀ (i : Nat) (d : D), e[i]? = some (some d) → ∃ v, σ[i]? = some (some v) ∧ Rep K mg ρ H v d
def ExRep (K : PySem.W.Frag) (mg : Str → Option Value) (ρ : Pl) (H : Hp) (cls : Value) (dd : Option Addr) (x : Exn) : Prop :=
  ∃ (C a : Addr) (ws : List (Str × V)), cls = .ref C ∧ mg x.c = some (.ref C) ∧ dd = some a ∧ ρ.out a ∧ H a = some (.xd ws) ∧ ws.map (·.1) = x.fs.map (·.1) ∧ RepAll K mg ρ H (ws.map (·.2)) (x.fs.map (·.2))

section
variable {K : PySem.W.Frag} {mg : Str → Option Value} {ρ ρ' : Pl} {H H' : Hp} {σ : L2.St} {e : En}
theorem EnRep.step (s : Step ρ H ρ' H') (h : EnRep K mg ρ H σ e) : EnRep K mg ρ' H' σ e :=
  ⟨h.len, fun i d q => let ⟨v, a, b⟩ := h.at' i d q; ⟨v, a, b.step s⟩⟩
theorem EnRep.tr (s : Tr K ρ H ρ' H') (h : EnRep K mg ρ H σ e) : EnRep K mg ρ' H' σ e :=
  ⟨h.len, fun i d q => let ⟨v, a, b⟩ := h.at' i d q; ⟨v, a, b.tr s⟩⟩
theorem EnRep.set {i : Nat} {v : V} {d : D} (h : EnRep K mg ρ H σ e) (r : Rep K mg ρ H v d) : EnRep K mg ρ H (σ.set i (some v)) (e.set i (some d)) := by
  refine ⟨by simp [h.len], fun j d' q => ?_⟩
  by_cases hj : j = i
  · subst hj
    have hl : j < e.length := by
      have := (List.getElem?_eq_some_iff.mp q).1
      simpa using this
    rw [List.getElem?_set_self hl] at q
    cases q
    exact ⟨v, by rw [List.getElem?_set_self (by rw [h.len]; exact hl)], r⟩
  · rw [List.getElem?_set_ne (Ne.symm hj)] at q
    obtain ⟨w, a, b⟩ := h.at' j d' q
    exact ⟨w, by rw [List.getElem?_set_ne (Ne.symm hj)]; exact a, b⟩
theorem EnRep.unset {i : Nat} (h : EnRep K mg ρ H σ e) : EnRep K mg ρ H (σ.set i none) (e.set i none) := by
  refine ⟨by simp [h.len], fun j d' q => ?_⟩
  by_cases hj : j = i
  · subst hj
    have hl : j < e.length := by
      have := (List.getElem?_eq_some_iff.mp q).1
      simpa using this
    rw [List.getElem?_set_self hl] at q
    cases q
  · rw [List.getElem?_set_ne (Ne.symm hj)] at q
    obtain ⟨w, a, b⟩ := h.at' j d' q
    exact ⟨w, by rw [List.getElem?_set_ne (Ne.symm hj)]; exact a, b⟩
end

/-! ### behind -/
section
variable (K : PySem.W.Frag) (mg : Str → Option Value)
def Aft {α β : Type} (R : Pl → Hp → β → α → Prop) (r : Res α) (ρ : Pl) (H : Hp) (E : XK) (Q : β → Hp → Prop) : Prop := match r with
  | .ok d M' => ∀ v ρ' H', Step ρ H ρ' H' → SOk K mg ρ' H' M' → R ρ' H' v d → Q v H'
  | .ex x M' => ∀ cls dd ρ' H', Step ρ H ρ' H' → SOk K mg ρ' H' M' → ExRep K mg ρ' H' cls dd x → E cls dd H'
  | .no => False
def AftS (r : SR) (ρ : Pl) (H : Hp) (D : Ends) (W : WX) : Prop := match r with
  | .nx e M' => ∀ σ' ρ' H', Step ρ H ρ' H' → SOk K mg ρ' H' M' → EnRep K mg ρ' H' σ' e → D.nx σ' H'
  | .rt d M' => ∀ v ρ' H', Step ρ H ρ' H' → SOk K mg ρ' H' M' → Rep K mg ρ' H' v d → D.rt v H'
  | .bk e M' => ∀ σ' ρ' H', Step ρ H ρ' H' → SOk K mg ρ' H' M' → EnRep K mg ρ' H' σ' e → D.bk σ' H'
  | .ct e M' => ∀ σ' ρ' H', Step ρ H ρ' H' → SOk K mg ρ' H' M' → EnRep K mg ρ' H' σ' e → D.ct σ' H'
  | .ex x e M' => ∀ cls dd σ' ρ' H', Step ρ H ρ' H' → SOk K mg ρ' H' M' → EnRep K mg ρ' H' σ' e → ExRep K mg ρ' H' cls dd x → W cls dd σ' H'
  | .no => False
def tE (W : WX) (f : EF) : TE := fun σ H Q => ∃ e ρ M, EnRep K mg ρ H σ e ∧ SOk K mg ρ H M ∧ Aft K mg (Rep K mg) (f e M) ρ H (WE W σ) Q
def tB' (W : WX) (f : BF) : TT := fun σ H Q => ∃ e ρ M, EnRep K mg ρ H σ e ∧ SOk K mg ρ H M ∧ Aft K mg (fun _ _ (b c : Bool) => b = c) (f e M) ρ H (WE W σ) Q
def tA (W : WX) (f : AF) : TA := fun σ H Q => ∃ e ρ M, EnRep K mg ρ H σ e ∧ SOk K mg ρ H M ∧ Aft K mg (RepAll K mg) (f e M) ρ H (WE W σ) Q
def tS (W : WX) (f : SF) : TS := fun D σ H => ∃ e ρ M, EnRep K mg ρ H σ e ∧ SOk K mg ρ H M ∧ AftS K mg (f e M) ρ H D W
/-- a def's promise: it computes m -/
def spD (m : MF) (n : Nat) : Sp := fun vs H Q E => vs.length = n ∧ ∃ ρ M ds, RepAll K mg ρ H vs ds ∧ SOk K mg ρ H M ∧ Aft K mg (Rep K mg) (m ds M) ρ H E Q
end
section
variable {K : PySem.W.Frag} {mg : Str → Option Value} {α β γ δ : Type} {R : Pl → Hp → β → α → Prop} {R' : Pl → Hp → δ → γ → Prop} {r : Res α} {ρ ρ' : Pl} {H H' : Hp} {E : XK} {Q : β → Hp → Prop}
theorem Aft.mono (h : Aft K mg R r ρ H E Q) {Q' : β → Hp → Prop} (k : ∀ v H', Q v H' → Q' v H') : Aft K mg R r ρ H E Q' := by
  cases r with
  | ok d M => exact fun v ρ' H' a b c => k _ _ (h v ρ' H' a b c)
  | ex x M => exact h
  | no => exact h
theorem Aft.step (h : Aft K mg R r ρ H E Q) (s : Step ρ H ρ' H') : Aft K mg R r ρ' H' E Q := by
  cases r with
  | ok d M => exact fun v ρ2 H2 a b c => h v ρ2 H2 (s.trans a) b c
  | ex x M => exact fun cls dd ρ2 H2 a b c => h cls dd ρ2 H2 (s.trans a) b c
  | no => exact h
theorem Aft.bind {f : α → Store → Res γ} {Q' : δ → Hp → Prop} (h : Aft K mg R' (r.bind f) ρ H E Q')
    (k : ∀ d M' v ρ' H', Step ρ H ρ' H' → SOk K mg ρ' H' M' → R ρ' H' v d → Aft K mg R' (f d M') ρ' H' E Q' → Q v H') : Aft K mg R r ρ H E Q := by
  cases r with
  | ok d M => exact fun v ρ' H' a b c => k d M v ρ' H' a b c (Aft.step h a)
  | ex x M => exact h
  | no => exact h
theorem AftS.step {r : SR} {D : Ends} {W : WX} (h : AftS K mg r ρ H D W) (s : Step ρ H ρ' H') : AftS K mg r ρ' H' D W := by
  cases r with
  | nx e M => exact fun σ ρ2 H2 a b c => h σ ρ2 H2 (s.trans a) b c
  | rt e M => exact fun σ ρ2 H2 a b c => h σ ρ2 H2 (s.trans a) b c
  | bk e M => exact fun σ ρ2 H2 a b c => h σ ρ2 H2 (s.trans a) b c
  | ct e M => exact fun σ ρ2 H2 a b c => h σ ρ2 H2 (s.trans a) b c
  | ex x e M => exact fun cls dd σ ρ2 H2 a b c d => h cls dd σ ρ2 H2 (s.trans a) b c d
  | no => exact h
theorem AftS.ends {r : SR} {D D' : Ends} {W W' : WX} (h : AftS K mg r ρ H D W) (k1 : ∀ σ H, D.nx σ H → D'.nx σ H) (k2 : ∀ v H, D.rt v H → D'.rt v H) (k3 : ∀ σ H, D.bk σ H → D'.bk σ H) (k4 : ∀ σ H, D.ct σ H → D'.ct σ H)
    (k5 : ∀ c d σ H, W c d σ H → W' c d σ H) : AftS K mg r ρ H D' W' := by
  cases r with
  | nx e M => exact fun σ ρ2 H2 a b c => k1 _ _ (h σ ρ2 H2 a b c)
  | rt e M => exact fun σ ρ2 H2 a b c => k2 _ _ (h σ ρ2 H2 a b c)
  | bk e M => exact fun σ ρ2 H2 a b c => k3 _ _ (h σ ρ2 H2 a b c)
  | ct e M => exact fun σ ρ2 H2 a b c => k4 _ _ (h σ ρ2 H2 a b c)
  | ex x e M => exact fun cls dd σ ρ2 H2 a b c d => k5 _ _ _ _ (h cls dd σ ρ2 H2 a b c d)
  | no => exact h
end

/-! ### a stronger reading -/
section
variable {X : Cx} {e : Expr} {es : List Expr} {st : Stmt} {sts : List Stmt}
theorem peImp {t t' : TE} (h : PE X e t) (i : ∀ σ H Q, t' σ H Q → t σ H Q) : PE X e t' := ⟨fun pins s σ H Q I q => h.run pins s σ H Q I (i σ H Q q)⟩
theorem ptImp {t t' : TT} (h : PT X e t) (i : ∀ σ H Q, t' σ H Q → t σ H Q) : PT X e t' := ⟨fun pins s σ H Q I q => h.run pins s σ H Q I (i σ H Q q)⟩
theorem pwImp {t t' : TT} (h : PW X e t) (i : ∀ σ H Q, t' σ H Q → t σ H Q) : PW X e t' := ⟨fun w pins s σ H Q I q => h.run w pins s σ H Q I (i σ H Q q)⟩
theorem paImp {t t' : TA} (h : PA X es t) (i : ∀ σ H Q, t' σ H Q → t σ H Q) : PA X es t' := ⟨fun pos pins s σ H Q I q => h.run pos pins s σ H Q I (i σ H Q q)⟩
theorem psImp {t t' : TS} (h : PS X st t) (i : ∀ D σ H, t' D σ H → t D σ H) : PS X st t' := ⟨fun pins s σ H D I q => h.run pins s σ H D I (i D σ H q)⟩
theorem pssImp {t t' : TS} (h : PSs X sts t) (i : ∀ D σ H, t' D σ H → t D σ H) : PSs X sts t' := ⟨fun pins s σ H D I q => h.run pins s σ H D I (i D σ H q)⟩
end

/-! ### names, constants, arguments -/
def eVar (i : Nat) : EF := fun e M => match e[i]? with
  | some (some d) => .ok d M
  | _ => .no
def eC (d : D) : EF := fun _ M => .ok d M
def aNil : AF := fun _ M => .ok [] M
def aCons (f : EF) (g : AF) : AF := fun e M => (f e M).bind fun d M1 => (g e M1).bind fun ds M2 => .ok (d :: ds) M2
section
variable {X : Cx} {W : WX} {K : PySem.W.Frag} {mg : Str → Option Value}
theorem r_var {i : Nat} {x : Str} {pos : Pos} (hN : X.N[i]? = some x) (hv : Vis X.env.scope x) (hd : (x == ("__debug__" : Str)) = false := by decide) (hcd : (x == ("__classdict__" : Str)) = false := by decide) :
    PE X (.Name x pos) (tE K mg W (eVar i)) := by
  refine peImp (pe_var hN hv hd hcd) fun σ H Q h => ?_
  obtain ⟨e, ρ, M, he, hs, h⟩ := h
  unfold eVar at h
  cases q : e[i]? with
  | none => rw [q] at h; exact h.elim
  | some o =>
    cases o with
    | none => rw [q] at h; exact h.elim
    | some d =>
      rw [q] at h
      obtain ⟨v, a, b⟩ := he.at' i d q
      exact ⟨v, a, h v ρ H Step.refl hs b⟩
theorem r_c {e : Expr} {v : V} {d : D} (h : PE X e (tC v)) (r : ∀ ρ H, Rep K mg ρ H v d) : PE X e (tE K mg W (eC d)) :=
  peImp h fun σ H Q ⟨_, ρ, _, _, hs, q⟩ => q v ρ H Step.refl hs (r ρ H)
theorem r_int {i : Int} {j : Nat} {pos : Pos} : PE X (.Constant (.int i) j pos) (tE K mg W (eC (.int i))) := r_c pe_int fun _ _ => .int i
theorem r_bl {i : Bool} {j : Nat} {pos : Pos} : PE X (.Constant (.bool i) j pos) (tE K mg W (eC (.bl i))) := r_c pe_bl fun _ _ => .bl i
theorem r_non {j : Nat} {pos : Pos} : PE X (.Constant .none j pos) (tE K mg W (eC .non)) := r_c pe_non fun _ _ => .non
theorem r_str {x : Str} {j : Nat} {pos : Pos} : PE X (.Constant (.str x) j pos) (tE K mg W (eC (.str x))) := r_c pe_str fun _ _ => .str x
theorem ra_nil : PA X [] (tA K mg W aNil) := paImp pa_nil fun σ H Q ⟨_, ρ, _, _, hs, q⟩ => q [] ρ H Step.refl hs .nil
theorem ra_cons {e : Expr} {es : List Expr} {f : EF} {g : AF} (ha : PE X e (tE K mg W f)) (hr : PA X es (tA K mg W g)) (hs : starEach (e :: es) X.env = (false, eval e X.env) :: starEach es X.env := by rfl) : PA X (e :: es) (tA K mg W (aCons f g)) := by
  refine paImp (pa_cons ha hr hs) fun σ H Q ⟨en, ρ, M, he, hs, h⟩ => ?_
  refine ⟨en, ρ, M, he, hs, Aft.bind h fun d M1 v ρ1 H1 s1 o1 r1 h1 => ?_⟩
  refine ⟨en, ρ1, M1, he.step s1, o1, Aft.bind h1 fun ds M2 vs ρ2 H2 s2 o2 r2 h2 => ?_⟩
  exact h2 (v :: vs) ρ2 H2 Step.refl o2 (.cons (r1.step s2) r2)

/-! ### operations by values -/
abbrev F2 := Store → D → D → Option D
def r2D (K : PySem.W.Frag) (mg : Str → Option Value) (F : F2) : R2 := fun x y H Q => ∃ ρ M d e z, SOk K mg ρ H M ∧ Rep K mg ρ H x d ∧ Rep K mg ρ H y e ∧ F M d e = some z ∧ ∀ v H', Step ρ H ρ H' → SOk K mg ρ H' M → Rep K mg ρ H' v z → Q v H'
def eBin (F : F2) (f g : EF) : EF := fun e M => (f e M).bind fun x M1 => (g e M1).bind fun y M2 => match F M2 x y with
  | some z => .ok z M2
  | none => .no
theorem bin_go {F : F2} {f g : EF} {σ : L2.St} {H : Hp} {Q : VK} (h : tE K mg W (eBin F f g) σ H Q) : tOp (r2D K mg F) (tE K mg W f) (tE K mg W g) σ H Q := by
  obtain ⟨en, ρ, M, he, hs, h⟩ := h
  refine ⟨en, ρ, M, he, hs, Aft.bind h fun d M1 v ρ1 H1 s1 o1 r1 h1 => ?_⟩
  refine ⟨en, ρ1, M1, he.step s1, o1, Aft.bind h1 fun e M2 w ρ2 H2 s2 o2 r2 h2 => ?_⟩
  cases q : F M2 d e with
  | none => rw [q] at h2; exact h2.elim
  | some z =>
    rw [q] at h2
    exact ⟨ρ2, M2, d, e, z, o2, r1.step s2, r2, q, fun u H3 s3 o3 r3 => h2 u ρ2 H3 s3 o3 r3⟩
theorem r_bin {op : Operator} {F : F2} {f g : EF} {a b : Expr} {pos : Pos} (ho : OpR X (binaryOp op) (r2D K mg F)) (ha : PE X a (tE K mg W f)) (hb : PE X b (tE K mg W g)) : PE X (.BinOp a op b pos) (tE K mg W (eBin F f g)) :=
  peImp (pe_op ho ha hb) fun _ _ _ => bin_go
theorem r_cmp {op : CmpOp} {F : F2} {f g : EF} {a b : Expr} {pos : Pos} (ho : OpR X (compareOp op) (r2D K mg F)) (ha : PE X a (tE K mg W f)) (hb : PE X b (tE K mg W g)) (hm : behindInMarks op b = false) :
    PE X (.Compare a [op] [b] pos) (tE K mg W (eBin F f g)) := peImp (pe_cmpR ho ha hb hm) fun _ _ _ => bin_go
theorem r_ix {F : F2} {f g : EF} {a b : Expr} {pos : Pos} (hr : IxR X (r2D K mg F)) (ha : PE X a (tE K mg W f)) (hb : PE X b (tE K mg W g)) (hs : PlainIx b) : PE X (.Subscript a b pos) (tE K mg W (eBin F f g)) :=
  peImp (pe_ix hr ha hb hs) fun _ _ _ => bin_go
abbrev F1 := Store → D → Option D
def r1D (K : PySem.W.Frag) (mg : Str → Option Value) (F : F1) : V → Hp → VK → Prop := fun x H Q => ∃ ρ M d z, SOk K mg ρ H M ∧ Rep K mg ρ H x d ∧ F M d = some z ∧ ∀ v H', Step ρ H ρ H' → SOk K mg ρ H' M → Rep K mg ρ H' v z → Q v H'
def eUn (F : F1) (f : EF) : EF := fun e M => (f e M).bind fun x M1 => match F M1 x with
  | some z => .ok z M1
  | none => .no
theorem un_go {F : F1} {f : EF} {σ : L2.St} {H : Hp} {Q : VK} (h : tE K mg W (eUn F f) σ H Q) : tUn (r1D K mg F) (tE K mg W f) σ H Q := by
  obtain ⟨en, ρ, M, he, hs, h⟩ := h
  refine ⟨en, ρ, M, he, hs, Aft.bind h fun d M1 v ρ1 H1 s1 o1 r1 h1 => ?_⟩
  cases q : F M1 d with
  | none => rw [q] at h1; exact h1.elim
  | some z =>
    rw [q] at h1
    exact ⟨ρ1, M1, d, z, o1, r1, q, fun u H3 s3 o3 r3 => h1 u ρ1 H3 s3 o3 r3⟩
theorem r_un {op : UnaryOp} {F : F1} {f : EF} {a : Expr} {pos : Pos} (ho : UnR X (unaryOp op) (r1D K mg F)) (ha : PE X a (tE K mg W f)) : PE X (.UnaryOp op a pos) (tE K mg W (eUn F f)) :=
  peImp (pe_un ho ha) fun _ _ _ => un_go

/-! ### tests -/
def bVal (f : EF) : BF := fun e M => (f e M).bind fun d M1 => match d with
  | .bl b => .ok b M1
  | _ => .no
def bNot (b : BF) : BF := fun e M => (b e M).bind fun c M1 => .ok (!c) M1
def bAnd (a b : BF) : BF := fun e M => (a e M).bind fun c M1 => if c = true then b e M1 else .ok false M1
def bOr (a b : BF) : BF := fun e M => (a e M).bind fun c M1 => if c = true then .ok true M1 else b e M1
theorem val_go {f : EF} {σ : L2.St} {H : Hp} {Q : Bool → Hp → Prop} (h : tB' K mg W (bVal f) σ H Q) : tE K mg W f σ H fun x H1 => ∃ c, x = .bl c ∧ Q c H1 := by
  obtain ⟨en, ρ, M, he, hs, h⟩ := h
  refine ⟨en, ρ, M, he, hs, Aft.bind h fun d M1 v ρ1 H1 s1 o1 r1 h1 => ?_⟩
  cases r1 with
  | bl b => exact ⟨b, rfl, h1 b ρ1 H1 Step.refl o1 rfl⟩
  | non => exact h1.elim
  | int i => exact h1.elim
  | str x => exact h1.elim
  | tup _ _ _ => exact h1.elim
  | lst _ _ _ => exact h1.elim
  | obj _ _ _ _ _ => exact h1.elim
  | ref _ => exact h1.elim
theorem rt_val {e : Expr} {f : EF} (h : PE X e (tE K mg W f)) (he : ∀ whole, isTrue e X.env whole = (do let v ← whole; standAt e.pos; holding [v] (truthy v)) := by intro _; rfl) : PT X e (tB' K mg W (bVal f)) :=
  ptImp (pt_val h he) fun _ _ _ q => val_go q
theorem rt_cmp {op : CmpOp} {F : F2} {f g : EF} {a b : Expr} {pos : Pos} (ho : OpR X (compareOp op) (r2D K mg F)) (ha : PE X a (tE K mg W f)) (hb : PE X b (tE K mg W g)) (hm : behindInMarks op b = false) :
    PT X (.Compare a [op] [b] pos) (tB' K mg W (bVal (eBin F f g))) := by
  refine ptImp (pt_cmpR ho ha hb hm) fun σ H Q h => ?_
  obtain ⟨en, ρ, M, he, hs, h⟩ := val_go h
  exact bin_go ⟨en, ρ, M, he, hs, h⟩
theorem rt_not {a : Expr} {b : BF} {pos : Pos} (h : PT X a (tB' K mg W b)) : PT X (.UnaryOp .Not a pos) (tB' K mg W (bNot b)) := by
  refine ptImp (pt_not h) fun σ H Q ⟨en, ρ, M, he, hs, h⟩ => ?_
  exact ⟨en, ρ, M, he, hs, Aft.bind h fun c M1 v ρ1 H1 s1 o1 r1 h1 => by subst r1; exact h1 _ ρ1 H1 Step.refl o1 rfl⟩
theorem rw_and1 {a : Expr} {f : BF} {pos : Pos} (h : PT X a (tB' K mg W f)) : PW X (.BoolOp .And [a] pos) (tB' K mg W f) := pw_and1 h
theorem rw_or1 {a : Expr} {f : BF} {pos : Pos} (h : PT X a (tB' K mg W f)) : PW X (.BoolOp .Or [a] pos) (tB' K mg W f) := pw_or1 h
theorem rw_and {a b : Expr} {rest : List Expr} {f g : BF} {pos : Pos} (ha : PT X a (tB' K mg W f)) (hb : PW X (.BoolOp .And (b :: rest) pos) (tB' K mg W g)) : PW X (.BoolOp .And (a :: b :: rest) pos) (tB' K mg W (bAnd f g)) := by
  refine pwImp (pw_and ha hb) fun σ H Q ⟨en, ρ, M, he, hs, h⟩ => ?_
  refine ⟨en, ρ, M, he, hs, Aft.bind h fun c M1 v ρ1 H1 s1 o1 r1 h1 => ?_⟩
  subst r1
  cases v with
  | true => rw [if_pos rfl]; exact ⟨en, ρ1, M1, he.step s1, o1, h1⟩
  | false => rw [if_neg Bool.false_ne_true]; exact h1 _ ρ1 H1 Step.refl o1 rfl
theorem rw_or {a b : Expr} {rest : List Expr} {f g : BF} {pos : Pos} (ha : PT X a (tB' K mg W f)) (hb : PW X (.BoolOp .Or (b :: rest) pos) (tB' K mg W g)) : PW X (.BoolOp .Or (a :: b :: rest) pos) (tB' K mg W (bOr f g)) := by
  refine pwImp (pw_or ha hb) fun σ H Q ⟨en, ρ, M, he, hs, h⟩ => ?_
  refine ⟨en, ρ, M, he, hs, Aft.bind h fun c M1 v ρ1 H1 s1 o1 r1 h1 => ?_⟩
  subst r1
  cases v with
  | true => rw [if_pos rfl]; exact h1 _ ρ1 H1 Step.refl o1 rfl
  | false => rw [if_neg Bool.false_ne_true]; exact ⟨en, ρ1, M1, he.step s1, o1, h1⟩
/-- and, or, not as values: all but the last True or False -/
def eAnd (f g : EF) : EF := fun e M => (f e M).bind fun d M1 => match d with
  | .bl true => g e M1
  | .bl false => .ok (.bl false) M1
  | _ => .no
def eOr (f g : EF) : EF := fun e M => (f e M).bind fun d M1 => match d with
  | .bl true => .ok (.bl true) M1
  | .bl false => g e M1
  | _ => .no
def eNot (f : EF) : EF := fun e M => (f e M).bind fun d M1 => match d with
  | .bl b => .ok (.bl (!b)) M1
  | _ => .no
theorem r_one {op : BoolOp} {a : Expr} {f : EF} {pos : Pos} (h : PE X a (tE K mg W f)) : PE X (.BoolOp op [a] pos) (tE K mg W f) := pe_one h
theorem r_and {a b : Expr} {rest : List Expr} {f g : EF} {pos : Pos} (ha : PE X a (tE K mg W f)) (hb : PE X (.BoolOp .And (b :: rest) pos) (tE K mg W g)) : PE X (.BoolOp .And (a :: b :: rest) pos) (tE K mg W (eAnd f g)) := by
  refine peImp (pe_and ha hb) fun σ H Q ⟨en, ρ, M, he, hs, h⟩ => ?_
  refine ⟨en, ρ, M, he, hs, Aft.bind h fun d M1 v ρ1 H1 s1 o1 r1 h1 => ?_⟩
  cases r1 with
  | bl b =>
    refine ⟨b, rfl, ?_⟩
    cases b with
    | true => rw [if_pos rfl]; exact ⟨en, ρ1, M1, he.step s1, o1, h1⟩
    | false => rw [if_neg Bool.false_ne_true]; exact h1 _ ρ1 H1 Step.refl o1 (.bl false)
  | non => exact h1.elim
  | int i => exact h1.elim
  | str x => exact h1.elim
  | tup _ _ _ => exact h1.elim
  | lst _ _ _ => exact h1.elim
  | obj _ _ _ _ _ => exact h1.elim
  | ref _ => exact h1.elim
theorem r_or {a b : Expr} {rest : List Expr} {f g : EF} {pos : Pos} (ha : PE X a (tE K mg W f)) (hb : PE X (.BoolOp .Or (b :: rest) pos) (tE K mg W g)) : PE X (.BoolOp .Or (a :: b :: rest) pos) (tE K mg W (eOr f g)) := by
  refine peImp (pe_or ha hb) fun σ H Q ⟨en, ρ, M, he, hs, h⟩ => ?_
  refine ⟨en, ρ, M, he, hs, Aft.bind h fun d M1 v ρ1 H1 s1 o1 r1 h1 => ?_⟩
  cases r1 with
  | bl b =>
    refine ⟨b, rfl, ?_⟩
    cases b with
    | true => rw [if_pos rfl]; exact h1 _ ρ1 H1 Step.refl o1 (.bl true)
    | false => rw [if_neg Bool.false_ne_true]; exact ⟨en, ρ1, M1, he.step s1, o1, h1⟩
  | non => exact h1.elim
  | int i => exact h1.elim
  | str x => exact h1.elim
  | tup _ _ _ => exact h1.elim
  | lst _ _ _ => exact h1.elim
  | obj _ _ _ _ _ => exact h1.elim
  | ref _ => exact h1.elim
theorem r_not {a : Expr} {f : EF} {pos : Pos} (ha : PE X a (tE K mg W f)) : PE X (.UnaryOp .Not a pos) (tE K mg W (eNot f)) := by
  refine peImp (pe_not ha) fun σ H Q ⟨en, ρ, M, he, hs, h⟩ => ?_
  refine ⟨en, ρ, M, he, hs, Aft.bind h fun d M1 v ρ1 H1 s1 o1 r1 h1 => ?_⟩
  cases r1 with
  | bl b => exact ⟨b, rfl, h1 _ ρ1 H1 Step.refl o1 (.bl _)⟩
  | non => exact h1.elim
  | int i => exact h1.elim
  | str x => exact h1.elim
  | tup _ _ _ => exact h1.elim
  | lst _ _ _ => exact h1.elim
  | obj _ _ _ _ _ => exact h1.elim
  | ref _ => exact h1.elim
def eIf (b : BF) (f g : EF) : EF := fun e M => (b e M).bind fun c M1 => if c = true then f e M1 else g e M1
theorem r_if {c a b : Expr} {t : BF} {f g : EF} {pos : Pos} (hc : PT X c (tB' K mg W t)) (ha : PE X a (tE K mg W f)) (hb : PE X b (tE K mg W g)) : PE X (.IfExp c a b pos) (tE K mg W (eIf t f g)) := by
  refine peImp (pe_ifExp hc ha hb) fun σ H Q ⟨en, ρ, M, he, hs, h⟩ => ?_
  refine ⟨en, ρ, M, he, hs, Aft.bind h fun d M1 v ρ1 H1 s1 o1 r1 h1 => ?_⟩
  subst r1
  cases v with
  | true => rw [if_pos rfl] at h1 ⊢; exact ⟨en, ρ1, M1, he.step s1, o1, h1⟩
  | false => rw [if_neg Bool.false_ne_true] at h1 ⊢; exact ⟨en, ρ1, M1, he.step s1, o1, h1⟩
/-- a < b < c -/
def eChain (F G : F2) (f g h : EF) : EF := fun e M => (f e M).bind fun x M1 => (g e M1).bind fun y M2 => match F M2 x y with
  | some (.bl true) => (h e M2).bind fun z M3 => match G M3 y z with
    | some u => .ok u M3
    | none => .no
  | some (.bl false) => .ok (.bl false) M2
  | _ => .no
end
end Py
set_option Elab.async false
set_option linter.all false
set_option maxRecDepth 100000
set_option maxHeartbeats 2000000
/-! # Calls, displays, attributes, statements -/
namespace Py
open PySem PySem.Spec PyProof.Rows L2

/-! ### built-ins by values -/
abbrev FN := Store → List D → Option (D × Store)
def rcD (K : PySem.W.Frag) (mg : Str → Option Value) (F : FN) : List V → Hp → VK → Prop := fun xs H Q => ∃ ρ M ds z M', SOk K mg ρ H M ∧ RepAll K mg ρ H xs ds ∧ F M ds = some (z, M') ∧
  ∀ v ρ' H', Step ρ H ρ' H' → SOk K mg ρ' H' M' → Rep K mg ρ' H' v z → Q v H'
def Res.ofO (o : Option (D × Store)) : Res D := match o with
  | some (z, M) => .ok z M
  | none => .no
def eB (F : FN) (g : AF) : EF := fun e M => (g e M).bind fun ds M1 => Res.ofO (F M1 ds)
/-- the type of a receiver, at the time it is looked at -/
def tyO (T : String) : Option O → Bool
  | some (.lst _) => T == "list"
  | some (.dK _) => T == "dict"
  | some (.dT _) => T == "dict"
  | _ => false
def tyD (T : String) (M : Store) : D → Bool
  | .str _ => T == "str"
  | .int _ => T == "int"
  | .lst _ => T == "list"
  | .ref k => tyO T M[k]?
  | _ => false
/-- a method of a built-in type: the receiver, the arguments; T tells what the receiver may be -/
def eMT (T : String) (F : FN) (f : EF) (g : AF) : EF := fun e M => (f e M).bind fun x M1 => if tyD T M1 x = true then (g e M1).bind fun ds M2 => Res.ofO (F M2 (x :: ds)) else .no
section
variable {K : PySem.W.Frag} {mg : Str → Option Value} {ρ ρ' : Pl} {H H' : Hp} {σ : L2.St} {M : Store}
theorem tyD_ok {T : String} {x : V} {d : D} (s : SOk K mg ρ H M) (r : Rep K mg ρ H x d) (h : tyD T M d = true) : tyV K T x H := by
  cases r with
  | str x => exact beq_iff_eq.mp h
  | int x => exact beq_iff_eq.mp h
  | lst z _ _ => exact .inl ⟨beq_iff_eq.mp h, _, z.sq⟩
  | @ref k a e =>
    have h' : tyO T M[k]? = true := h
    cases q : M[k]? with
    | none => rw [q] at h'; cases h'
    | some o =>
      rw [q] at h'
      have r := s.at' k o a q e
      cases o with
      | lst xs =>
        obtain ⟨vs, h1, _⟩ := r
        exact .inl ⟨beq_iff_eq.mp h', vs, SqL.of h1⟩
      | dK xs =>
        obtain ⟨vs, h1, _⟩ := r
        exact .inr (.inr (.inl ⟨beq_iff_eq.mp h', .inl ⟨vs, h1⟩⟩))
      | dT xs =>
        obtain ⟨vs, h1, _⟩ := r
        exact .inr (.inr (.inl ⟨beq_iff_eq.mp h', .inr ⟨vs, h1⟩⟩))
      | ins c fs => cases h'
  | non => cases h
  | bl b => cases h
  | tup _ _ _ => cases h
  | obj _ _ _ _ _ => cases h
theorem ofO_go {F : FN} {ds : List D} {xs : List V} {E : XK} {Q : VK} (s : SOk K mg ρ H M) (r : RepAll K mg ρ H xs ds) (h : Aft K mg (Rep K mg) (Res.ofO (F M ds)) ρ H E Q) : rcD K mg F xs H Q := by
  cases q : F M ds with
  | none => rw [q] at h; exact h.elim
  | some z =>
    obtain ⟨z, M2⟩ := z
    rw [q] at h
    exact ⟨ρ, M, ds, z, M2, s, r, q, fun u ρ3 H3 s3 o3 r3 => h u ρ3 H3 s3 o3 r3⟩
end
section
variable {X : Cx} {W : WX} {K : PySem.W.Frag} {mg : Str → Option Value}
theorem cb_go {F : FN} {g : AF} {σ : L2.St} {H : Hp} {Q : VK} (h : tE K mg W (eB F g) σ H Q) : tA K mg W g σ H fun xs H1 => rcD K mg F xs H1 Q := by
  obtain ⟨en, ρ, M, he, hs, h⟩ := h
  exact ⟨en, ρ, M, he, hs, Aft.bind h fun ds M1 v ρ1 H1 s1 o1 r1 h1 => ofO_go o1 r1 h1⟩
variable {x : Str} {p pos apos : Pos} {e o : Expr} {es : List Expr}
theorem r_callB {id : String} {F : FN} {g : AF} (hc : CallR X (.builtin id) (rcD K mg F)) (hg : Gl X x) (hm : X.mg x = none) (hv : bootBuiltins x = some (.builtin id)) (ha : PA X (e :: es) (tA K mg W g)) (hn : x ≠ "__name__" := by decide)
    (hdb : (x == ("__debug__" : Str)) = false := by decide) (he : starEach (e :: es) X.env = (false, eval e X.env) :: starEach es X.env := by rfl) (hpl : (backTo pos (starEach es X.env)).any (·.1) = false := by rfl) :
    PE X (.Call (.Name x p) (e :: es) [] pos) (tE K mg W (eB F g)) := peImp (pe_callB hc hg hm hv ha hn hdb he hpl) fun _ _ _ => cb_go
theorem r_callTy {T : String} {F : FN} {g : AF} (hc : CallR X (.type T) (rcD K mg F)) (hg : Gl X x) (hm : X.mg x = none) (hv : bootBuiltins x = some (.type T)) (ha : PA X (e :: es) (tA K mg W g)) (hn : x ≠ "__name__" := by decide)
    (hdb : (x == ("__debug__" : Str)) = false := by decide) (he : starEach (e :: es) X.env = (false, eval e X.env) :: starEach es X.env := by rfl) (hpl : (backTo pos (starEach es X.env)).any (·.1) = false := by rfl) :
    PE X (.Call (.Name x p) (e :: es) [] pos) (tE K mg W (eB F g)) := peImp (pe_callTy hc hg hm hv ha hn hdb he hpl) fun _ _ _ => cb_go
/-- a method by values -/
def rmD (K : PySem.W.Frag) (mg : Str → Option Value) (F : FN) : V → List V → Hp → VK → Prop := fun x xs H Q => rcD K mg F (x :: xs) H Q
theorem r_meth {T : String} {id : String} {name : Str} {F : FN} {f : EF} {g : AF} (pa : PlainAttrs T) (slot : Slot T name id) (hty : typeOf (.builtin id) = pure (.type "method_descriptor")) (hm : MtR X id (rmD X.K mg F))
    (ho : PE X o (tE X.K mg W f)) (ha : PA X (e :: es) (tA X.K mg W g)) (hbase : attributeBase o name X.env (eval o X.env) = eval o X.env := by rfl)
    (hfew : ((backTo pos (starEach (e :: es) X.env)).all (fun x => !x.1) && (backToKw pos (keywordEach [] X.env)).all (fun x => x.1.isSome)
      && decide ((e :: es).length + ([] : List Keyword).length + (if ([] : List Keyword).isEmpty then 0 else 1) < 30)) = true := by rfl)
    (hline : (apos.endLine == pos.line) = true := by rfl) (hs : starEach (e :: es) X.env = (false, eval e X.env) :: starEach es X.env := by rfl) (hplain : (backTo pos (starEach es X.env)).any (·.1) = false := by rfl) :
    PE X (.Call (.Attribute o name apos) (e :: es) [] pos) (tE X.K mg W (eMT T F f g)) := by
  refine peImp (pe_bm pa slot hty hm ho ha hbase hfew hline hs hplain) fun σ H Q ⟨en, ρ, M, he, hs, h⟩ => ?_
  refine ⟨en, ρ, M, he, hs, Aft.bind h fun d M1 v ρ1 H1 s1 o1 r1 h1 => ?_⟩
  cases ht : tyD T M1 d with
  | false => rw [ht, if_neg Bool.false_ne_true] at h1; exact h1.elim
  | true =>
    rw [ht, if_pos rfl] at h1
    refine ⟨tyD_ok o1 r1 ht, en, ρ1, M1, he.step s1, o1, Aft.bind h1 fun ds M2 vs ρ2 H2 s2 o2 r2 h2 => ?_⟩
    exact ofO_go o2 (.cons (r1.step s2) r2) h2
theorem r_meth0 {T : String} {id : String} {name : Str} {F : FN} {f : EF} (pa : PlainAttrs T) (slot : Slot T name id) (hty : typeOf (.builtin id) = pure (.type "method_descriptor")) (hm : MtR X id (rmD X.K mg F))
    (ho : PE X o (tE X.K mg W f)) (hbase : attributeBase o name X.env (eval o X.env) = eval o X.env := by rfl)
    (hline : (apos.endLine == pos.line) = true := by rfl) : PE X (.Call (.Attribute o name apos) [] [] pos) (tE X.K mg W (eMT T F f aNil)) := by
  refine peImp (pe_bm0 pa slot hty hm ho hbase hline) fun σ H Q ⟨en, ρ, M, he, hs, h⟩ => ?_
  refine ⟨en, ρ, M, he, hs, Aft.bind h fun d M1 v ρ1 H1 s1 o1 r1 h1 => ?_⟩
  cases ht : tyD T M1 d with
  | false => rw [ht, if_neg Bool.false_ne_true] at h1; exact h1.elim
  | true =>
    rw [ht, if_pos rfl] at h1
    have h2 : Aft X.K mg (Rep X.K mg) (Res.ofO (F M1 [d])) ρ1 H1 (WE W σ) Q := h1
    exact ⟨tyD_ok o1 r1 ht, ofO_go o1 (.cons r1 .nil) h2⟩

/-! ### displays -/
def eTup (g : AF) : EF := fun e M => (g e M).bind fun ds M1 => if ds.length ≤ 1000 then .ok (.tup ds) M1 else .no
def eLst (g : AF) : EF := fun e M => (g e M).bind fun ds M1 => if ds.length ≤ 1000 then .ok (.lst ds) M1 else .no
def eLstR (g : AF) : EF := fun e M => (g e M).bind fun ds M1 => if ds.length ≤ 1000 then .ok (.ref M1.length) (M1 ++ [.lst ds]) else .no
theorem few_line {n : Nat} (h : n ≤ 1000) : n ≤ sizeLine := Nat.le_trans h (by decide)
/-- a new tuple's object is known, and has no dict -/
def rTupN (xs : List V) (H : Hp) (Q : VK) : Prop := xs.length ≤ sizeLine ∧ ∀ p o, H p = none → o.dict = none → Q (.ref p) (upd H p (.frz o (.tup xs)))
def tTupF (t : TA) : TE := fun σ H Q => t σ H fun xs H1 => rTupN xs H1 Q
theorem tup_laid {X : Cx} {pins : List (Addr × Obj)} {σ : L2.St} {H : Hp} {s : Shared} {xs : List V} {us : List Value} {t' : Nat} {Q : VK} (I : Inv X pins σ H s) (r : Vals xs us) (h : rTupN xs H Q) :
    EP X pins σ Q (.ref s.heap.objs.size) { s with heap := s.heap.push { cls := .type "tuple", data := .seq us.toArray }, toks := t' } := by
  have hf : H s.heap.objs.size = none := I.hok.fresh (Nat.le_refl _)
  refine ⟨.ref s.heap.objs.size, upd H s.heap.objs.size (.frz { cls := .type "tuple", data := .seq us.toArray } (.tup xs)), I.laid (t' := t') (fun b u e => Heap.get?_push_of_some _ e) (Nat.le_refl _) ?_, rfl, h.2 _ _ hf rfl⟩
  exact ⟨Heap.get?_push_size _ rfl, h.1, us, r, ⟨_, Heap.get?_push_size _ rfl, rfl, _, rfl⟩⟩
theorem pe_tupF {X : Cx} {es : List Expr} {t : TA} {pos : Pos} {x1 : Nat} (h : PA X es t) : PE X (.Tuple es x1 pos) (tTupF t) := by
  refine ⟨fun pins s σ H Q I hq => ?_⟩
  refine wpAny_Tuple_spliced (thn (h.run pos pins s σ H _ I hq) fun us s1 ⟨xs, H1, I1, r, q⟩ => ⟨by rw [← r.length]; exact q.1, ?_⟩)
  exact tup_laid I1 r q
theorem newTup {ρ : Pl} {H : Hp} {M : Store} {vs : List V} {ds : List D} {p : Addr} {o : Obj} (s : SOk K mg ρ H M) (hp : H p = none) (ho : o.dict = none) (r : RepAll K mg ρ H vs ds) (z : vs.length ≤ sizeLine) :
    Step ρ H ρ (upd H p (.frz o (.tup vs))) ∧ SOk K mg ρ (upd H p (.frz o (.tup vs))) M ∧ Rep K mg ρ (upd H p (.frz o (.tup vs))) (.ref p) (.tup ds) :=
  ⟨Step.new hp, s.new hp, .tup (.inl ⟨s.dom hp, o, ho, upd_same⟩) z (r.step (Step.new hp))⟩
theorem newLst {ρ : Pl} {H : Hp} {M : Store} {vs : List V} {ds : List D} {p : Addr} (s : SOk K mg ρ H M) (hp : H p = none) (r : RepAll K mg ρ H vs ds) (z : vs.length ≤ sizeLine) :
    Step ρ H ρ (upd H p (.lst vs)) ∧ SOk K mg ρ (upd H p (.lst vs)) M ∧ Rep K mg ρ (upd H p (.lst vs)) (.ref p) (.lst ds) :=
  ⟨Step.new hp, s.new hp, .lst (.inl ⟨s.dom hp, .inl upd_same⟩) z (r.step (Step.new hp))⟩
theorem newLstR {ρ : Pl} {H : Hp} {M : Store} {vs : List V} {ds : List D} {p : Addr} (s : SOk K mg ρ H M) (hp : H p = none) (r : RepAll K mg ρ H vs ds) (z : vs.length ≤ sizeLine) :
    Step ρ H ⟨ρ.hs ++ [p], ρ.hid⟩ (upd H p (.lst vs)) ∧ SOk K mg ⟨ρ.hs ++ [p], ρ.hid⟩ (upd H p (.lst vs)) (M ++ [.lst ds]) ∧ Rep K mg ⟨ρ.hs ++ [p], ρ.hid⟩ (upd H p (.lst vs)) (.ref p) (.ref M.length) :=
  ⟨Step.newH hp, s.newH hp ⟨vs, upd_same, z, r.step (Step.newH hp)⟩, .ref (by
    show (ρ.hs ++ [p])[M.length]? = some p
    rw [← s.len, List.getElem?_append_right (Nat.le_refl _), Nat.sub_self] <;> rfl)⟩
theorem r_tup {x1 : Nat} {g : AF} (h : PA X es (tA K mg W g)) : PE X (.Tuple es x1 pos) (tE K mg W (eTup g)) := by
  refine peImp (pe_tupF h) fun σ H Q ⟨en, ρ, M, he, hs, h⟩ => ?_
  refine ⟨en, ρ, M, he, hs, Aft.bind h fun ds M1 vs ρ1 H1 s1 o1 r1 h1 => ?_⟩
  by_cases hz : ds.length ≤ 1000
  · rw [if_pos hz] at h1
    have z : vs.length ≤ sizeLine := by rw [r1.length]; exact few_line hz
    exact ⟨z, fun p o hp ho => let ⟨a, b, c⟩ := newTup o1 hp ho r1 z; h1 _ _ _ a b c⟩
  · rw [if_neg hz] at h1; exact h1.elim
theorem r_lst {g : AF} (h : PA X es (tA K mg W g)) : PE X (.List es pos) (tE K mg W (eLst g)) := by
  refine peImp (pe_lst h) fun σ H Q ⟨en, ρ, M, he, hs, h⟩ => ?_
  refine ⟨en, ρ, M, he, hs, Aft.bind h fun ds M1 vs ρ1 H1 s1 o1 r1 h1 => ?_⟩
  by_cases hz : ds.length ≤ 1000
  · rw [if_pos hz] at h1
    have z : vs.length ≤ sizeLine := by rw [r1.length]; exact few_line hz
    exact ⟨z, fun p hp => let ⟨a, b, c⟩ := newLst o1 hp r1 z; h1 _ _ _ a b c⟩
  · rw [if_neg hz] at h1; exact h1.elim
theorem r_lstR {g : AF} (h : PA X es (tA K mg W g)) : PE X (.List es pos) (tE K mg W (eLstR g)) := by
  refine peImp (pe_lst h) fun σ H Q ⟨en, ρ, M, he, hs, h⟩ => ?_
  refine ⟨en, ρ, M, he, hs, Aft.bind h fun ds M1 vs ρ1 H1 s1 o1 r1 h1 => ?_⟩
  by_cases hz : ds.length ≤ 1000
  · rw [if_pos hz] at h1
    have z : vs.length ≤ sizeLine := by rw [r1.length]; exact few_line hz
    exact ⟨z, fun p hp => let ⟨a, b, c⟩ := newLstR o1 hp r1 z; h1 _ _ _ a b c⟩
  · rw [if_neg hz] at h1; exact h1.elim

/-! ### own defs -/
def eCall (m : MF) (g : AF) : EF := fun e M => (g e M).bind fun ds M1 => m ds M1
theorem RepAll.len2 {ρ : Pl} {H : Hp} {vs : List V} {ds : List D} (r : RepAll K mg ρ H vs ds) {n : Nat} (h : ds.length = n) : vs.length = n := r.length.trans h
/-- the arity is told by the text; the value of a wrong one is no value -/
def arity (n : Nat) (m : MF) : MF := fun ds M => if ds.length = n then m ds M else .no
theorem spD_of {m : MF} {n : Nat} {ρ : Pl} {H : Hp} {M : Store} {vs : List V} {ds : List D} {E : XK} {Q : VK} (r : RepAll K mg ρ H vs ds) (s : SOk K mg ρ H M) (h : Aft K mg (Rep K mg) (arity n m ds M) ρ H E Q) : spD K mg m n vs H Q E := by
  unfold arity at h
  by_cases hz : ds.length = n
  · rw [if_pos hz] at h
    exact ⟨r.length.trans hz, ρ, M, ds, r, s, h⟩
  · rw [if_neg hz] at h; exact h.elim
variable {k : Nat} {f : Addr} {fd : FuncData} {ps : List Str}
theorem r_call {m : MF} {n : Nat} {g : AF} (F : FnOk X.prog X.w X.K X.mg X.base (L2.CX X.prog X.w) k f fd ps (spD K mg m n)) (hr : Room k X.A) (hm : X.mg x = some (.ref f)) (hk : PySem.W.keepIn X.K (.ref f) = true) (hb : Binds X.K fd ps []) (tk : Takes X W)
    (hg : Gl X x) (ha : PA X (e :: es) (tA K mg W g)) (hdb : (x == ("__debug__" : Str)) = false := by decide) (he : starEach (e :: es) X.env = (false, eval e X.env) :: starEach es X.env := by rfl) (hpl : (backTo pos (starEach es X.env)).any (·.1) = false := by rfl) :
    PE X (.Call (.Name x p) (e :: es) [] pos) (tE K mg W (eCall (arity n m) g)) := by
  refine peImp (pe_callSD F hr hg hm hk hb .nil (E := WE W) (fun σ => passAt tk σ) ha hdb he hpl) fun σ H Q ⟨en, ρ, M, he, hs, h⟩ => ?_
  refine ⟨en, ρ, M, he, hs, Aft.bind h fun ds M1 vs ρ1 H1 s1 o1 r1 h1 => ?_⟩
  rw [List.append_nil]
  exact spD_of r1 o1 h1
end
end Py
set_option Elab.async false
set_option linter.all false
set_option maxRecDepth 100000
set_option maxHeartbeats 2000000
/-! # Statements, loops, comprehensions -/
namespace Py
open PySem PySem.Spec PyProof.Rows L2

section
variable {K : PySem.W.Frag} {mg : Str → Option Value} {ρ ρ' : Pl} {H H' : Hp} {σ : L2.St} {M : Store}
theorem Step.tr (s : Step ρ H ρ' H') : Tr K ρ H ρ' H' := ⟨fun _ _ h => h.step s, fun _ _ h => h.step s, fun _ _ _ _ h n => ⟨s.keep _ _ n.1 h, s.nmem n h⟩, fun _ _ h => s.get h⟩
theorem Tr.hidw {p : Addr} {u : HO} (hp : p ∈ ρ.hid) : Tr K ρ H ρ (upd H p u) := ⟨fun _ _ h => h.hidw hp, fun _ _ h => h.hidw hp, fun _ _ _ _ h n => ⟨(upd_ne fun q => n.2 (by rw [q]; exact hp)).trans h, n⟩, fun _ _ h => h⟩
end

/-! ### plain statements -/
def sSeq (f g : SF) : SF := fun e M => match f e M with
  | .nx e1 M1 => g e1 M1
  | r => r
def sNil : SF := fun e M => .nx e M
def sSet (i : Nat) (f : EF) : SF := fun e M => match f e M with
  | .ok d M1 => .nx (e.set i (some d)) M1
  | .ex x M1 => .ex x e M1
  | .no => .no
def sExpr (f : EF) : SF := fun e M => match f e M with
  | .ok _ M1 => .nx e M1
  | .ex x M1 => .ex x e M1
  | .no => .no
def sRet (f : EF) : SF := fun e M => match f e M with
  | .ok d M1 => .rt d M1
  | .ex x M1 => .ex x e M1
  | .no => .no
def sRetN : SF := fun _ M => .rt .non M
def sBrk : SF := fun e M => .bk e M
def sCont : SF := fun e M => .ct e M
def sIf (b : BF) (f g : SF) : SF := fun e M => match b e M with
  | .ok true M1 => f e M1
  | .ok false M1 => g e M1
  | .ex x M1 => .ex x e M1
  | .no => .no
section
variable {X : Cx} {W : WX} {K : PySem.W.Frag} {mg : Str → Option Value} {st : Stmt} {rest sts : List Stmt} {pos pos' : Pos}
/-- an expression's reading ahead of a statement's end -/
theorem AftS.ofE {f : EF} {e : En} {M : Store} {ρ : Pl} {H : Hp} {σ : L2.St} {N : Ends} {k : Py.D → Store → SR} {Q : VK} (he : EnRep K mg ρ H σ e)
    (h : AftS K mg (match f e M with | .ok d M1 => k d M1 | .ex x M1 => .ex x e M1 | .no => .no) ρ H N W)
    (q : ∀ d M1 v ρ1 H1, Step ρ H ρ1 H1 → SOk K mg ρ1 H1 M1 → Rep K mg ρ1 H1 v d → AftS K mg (k d M1) ρ1 H1 N W → Q v H1) : Aft K mg (Rep K mg) (f e M) ρ H (WE W σ) Q := by
  cases z : f e M with
  | ok d M1 =>
    rw [z] at h
    exact fun v ρ1 H1 s1 o1 r1 => q d M1 v ρ1 H1 s1 o1 r1 (AftS.step h s1)
  | ex x M1 =>
    rw [z] at h
    exact fun cls dd ρ1 H1 s1 o1 r1 => h cls dd σ ρ1 H1 s1 o1 (he.step s1) r1
  | no => rw [z] at h; exact h
theorem rs_nil : PSs X [] (tS K mg W sNil) := pssImp pss_nil fun D σ H ⟨_, ρ, _, he, hs, h⟩ => h σ ρ H Step.refl hs he
theorem rs_cons {f g : SF} (h1 : PS X st (tS K mg W f)) (h2 : PSs X rest (tS K mg W g)) : PSs X (st :: rest) (tS K mg W (sSeq f g)) := by
  refine pssImp (pss_cons h1 h2) fun D σ H ⟨e, ρ, M, he, hs, h⟩ => ?_
  refine ⟨e, ρ, M, he, hs, ?_⟩
  unfold sSeq at h
  cases q : f e M with
  | nx e1 M1 =>
    rw [q] at h
    exact fun σ' ρ1 H1 s1 o1 r1 => ⟨e1, ρ1, M1, r1, o1, AftS.step h s1⟩
  | rt d M1 => rw [q] at h; exact h
  | bk e1 M1 => rw [q] at h; exact h
  | ct e1 M1 => rw [q] at h; exact h
  | ex x e1 M1 => rw [q] at h; exact h
  | no => rw [q] at h; exact h
theorem rs_one {f : SF} (h1 : PS X st (tS K mg W f)) : PSs X [st] (tS K mg W f) := pss_one h1
theorem rs_pass : PS X (.Pass pos) (tS K mg W sNil) := psImp ps_pass fun D σ H ⟨_, ρ, _, he, hs, h⟩ => h σ ρ H Step.refl hs he
theorem rs_brk : PS X (.Break pos) (tS K mg W sBrk) := psImp ps_break fun D σ H ⟨_, ρ, _, he, hs, h⟩ => h σ ρ H Step.refl hs he
theorem rs_cont : PS X (.Continue pos) (tS K mg W sCont) := psImp ps_continue fun D σ H ⟨_, ρ, _, he, hs, h⟩ => h σ ρ H Step.refl hs he
theorem rs_retN : PS X (.Return none pos) (tS K mg W sRetN) := psImp ps_retN fun D σ H ⟨_, ρ, _, he, hs, h⟩ => h .non ρ H Step.refl hs .non
theorem rs_doc {x : Str} {j : Nat} : PS X (.Expr (.Constant (.str x) j pos) pos') (tS K mg W sNil) := psImp ps_doc fun D σ H ⟨_, ρ, _, he, hs, h⟩ => h σ ρ H Step.refl hs he
theorem rs_expr {e : Expr} {f : EF} (he : PE X e (tE K mg W f)) (hs : swapsWith e none pos.line X.env = pure false := by rfl) : PS X (.Expr e pos) (tS K mg W (sExpr f)) := by
  refine psImp (ps_expr he hs) fun D σ H ⟨e, ρ, M, hen, hs, h⟩ => ⟨e, ρ, M, hen, hs, AftS.ofE hen h fun d M1 v ρ1 H1 s1 o1 r1 h1 => ?_⟩
  exact h1 σ ρ1 H1 Step.refl o1 (hen.step s1)
theorem rs_ret {e : Expr} {f : EF} (he : PE X e (tE K mg W f)) : PS X (.Return (some e) pos) (tS K mg W (sRet f)) := by
  refine psImp (ps_ret he) fun D σ H ⟨e, ρ, M, hen, hs, h⟩ => ⟨e, ρ, M, hen, hs, AftS.ofE hen h fun d M1 v ρ1 H1 s1 o1 r1 h1 => ?_⟩
  exact h1 v ρ1 H1 Step.refl o1 r1
theorem rs_if {c : Expr} {a b : List Stmt} {t : BF} {f g : SF} (hc : PT X c (tB' K mg W t)) (ha : PSs X a (tS K mg W f)) (hb : PSs X b (tS K mg W g)) : PS X (.If c a b pos) (tS K mg W (sIf t f g)) := by
  refine psImp (ps_if hc ha hb) fun D σ H ⟨e, ρ, M, hen, hs, h⟩ => ⟨e, ρ, M, hen, hs, ?_⟩
  unfold sIf at h
  cases z : t e M with
  | ok d M1 =>
    rw [z] at h
    intro v ρ1 H1 s1 o1 r1
    subst r1
    cases v with
    | true => rw [if_pos rfl]; exact ⟨e, ρ1, M1, hen.step s1, o1, AftS.step h s1⟩
    | false => rw [if_neg Bool.false_ne_true]; exact ⟨e, ρ1, M1, hen.step s1, o1, AftS.step h s1⟩
  | ex x M1 =>
    rw [z] at h
    exact fun cls dd ρ1 H1 s1 o1 r1 => h cls dd σ ρ1 H1 s1 o1 (hen.step s1) r1
  | no => rw [z] at h; exact h
theorem rs_set {i : Nat} {x : Str} {e : Expr} {f : EF} (hN : X.N.Nodup) (hi : X.N[i]? = some x) (hx : Loc X.env.scope x) (he : PE X e (tE K mg W f)) (hs : swapsWith e (some (.Name x pos')) pos.line X.env = pure false := by rfl)
    (hf : X.fn x = true ∨ X.env.scope.names.lookup x = some .local := by first | exact .inl rfl | exact .inr rfl | assumption) : PS X (.Assign [.Name x pos'] e pos) (tS K mg W (sSet i f)) := by
  refine psImp (ps_set hN hi hx he hs hf) fun D σ H ⟨e, ρ, M, hen, hs, h⟩ => ⟨e, ρ, M, hen, hs, AftS.ofE hen h fun d M1 v ρ1 H1 s1 o1 r1 h1 => ?_⟩
  exact h1 _ ρ1 H1 Step.refl o1 ((hen.step s1).set r1)
end

/-! ### targets -/
abbrev GF := D → En → Option En
theorem wipe_get (σ : L2.St) (i : Nat) : ∀ vs : List Nat, (wipe σ vs)[i]? = if i ∈ vs then (if i < σ.length then some none else none) else σ[i]?
  | [] => by unfold wipe; simp
  | v :: vs => by
    unfold wipe
    have ih := wipe_get σ i vs
    by_cases hv : v = i
    · subst hv
      rw [if_pos List.mem_cons_self]
      by_cases hl : v < σ.length
      · rw [if_pos hl, List.getElem?_set_self (by rw [wipe_length]; exact hl)]
      · rw [if_neg hl, List.getElem?_eq_none (by rw [List.length_set, wipe_length]; omega)]
    · rw [List.getElem?_set_ne hv, ih]
      by_cases hm : i ∈ vs
      · rw [if_pos hm, if_pos (List.mem_cons_of_mem _ hm)]
      · rw [if_neg hm, if_neg (fun z => (List.mem_cons.mp z).elim (fun q => hv q.symm) hm)]
theorem wipe_set {σ : L2.St} {i : Nat} {x : Option V} {vs : List Nat} (h : i ∈ vs) : wipe (σ.set i x) vs = wipe σ vs := by
  refine List.ext_getElem? fun j => ?_
  rw [wipe_get, wipe_get, List.length_set]
  by_cases hj : j ∈ vs
  · rw [if_pos hj, if_pos hj]
  · rw [if_neg hj, if_neg hj, List.getElem?_set_ne (fun e => hj (by rw [← e]; exact h))]
theorem wipe_wipe {σ : L2.St} {vs : List Nat} : wipe (wipe σ vs) vs = wipe σ vs := by
  refine List.ext_getElem? fun j => ?_
  rw [wipe_get, wipe_length, wipe_get]
  by_cases hj : j ∈ vs
  · rw [if_pos hj, if_pos hj]
  · rw [if_neg hj, if_neg hj]
def wipeE (e : En) : List Nat → En
  | [] => e
  | v :: vs => (wipeE e vs).set v none
structure TgOk (K : PySem.W.Frag) (mg : Str → Option Value) (vs : List Nat) (t : TG) (g : GF) : Prop where
  go : ∀ (ρ : Pl) (H : Hp) (σ : L2.St) (e : En) (v : V) (d : D) (e' : En) (Q : L2.St → Hp → Prop), EnRep K mg ρ H σ e → Rep K mg ρ H v d → g d e = some e' →
    (∀ σ', EnRep K mg ρ H σ' e' → (∀ us : List Nat, (∀ i ∈ vs, i ∈ us) → wipe σ' us = wipe σ us) → Q σ' H) → t v σ H Q
def gN (i : Nat) : GF := fun d e => some (e.set i (some d))
abbrev GsF := List D → En → Option En
structure TgsOk (K : PySem.W.Frag) (mg : Str → Option Value) (vs : List Nat) (t : TGs) (g : GsF) : Prop where
  go : ∀ (ρ : Pl) (H : Hp) (σ : L2.St) (e : En) (ws : List V) (ds : List D) (e' : En) (Q : L2.St → Hp → Prop), EnRep K mg ρ H σ e → RepAll K mg ρ H ws ds → g ds e = some e' →
    (∀ σ', EnRep K mg ρ H σ' e' → (∀ us : List Nat, (∀ i ∈ vs, i ∈ us) → wipe σ' us = wipe σ us) → Q σ' H) → t ws σ H Q
def gsN : GsF := fun ds e => match ds with
  | [] => some e
  | _ => none
def gsC (g : GF) (gs : GsF) : GsF := fun ds e => match ds with
  | d :: r => (g d e).bind fun e1 => gs r e1
  | [] => none
/-- a, b, .. = a tuple -/
def gT (n : Nat) (gs : GsF) : GF := fun d e => match d with
  | .tup ds => if ds.length = n then gs ds e else none
  | _ => none
section
variable {K : PySem.W.Frag} {mg : Str → Option Value} {vs us : List Nat}
theorem tg_name {i : Nat} : TgOk K mg [i] (gName i) (gN i) := ⟨fun ρ H σ e v d e' Q he r h q => by
  cases h
  exact q _ (he.set r) fun us hu => wipe_set (hu i List.mem_cons_self)⟩
theorem tgs_nil : TgsOk K mg [] gNil gsN := ⟨fun ρ H σ e ws ds e' Q he r h q => by
  cases r with
  | nil =>
    cases h
    exact ⟨rfl, q _ he fun _ _ => rfl⟩
  | cons _ _ => cases h⟩
theorem tgs_cons {t : TG} {u : TGs} {g : GF} {gs : GsF} (h1 : TgOk K mg vs t g) (h2 : TgsOk K mg us u gs) : TgsOk K mg (vs ++ us) (gCons t u) (gsC g gs) := ⟨fun ρ H σ e ws ds e' Q he r h q => by
  cases r with
  | nil => cases h
  | cons a b =>
    rename_i v ws d ds
    have h : (g d e).bind (fun e1 => gs ds e1) = some e' := h
    cases z : g d e with
    | none => rw [z] at h; cases h
    | some e1 =>
      rw [z] at h
      exact ⟨_, _, rfl, h1.go ρ H σ e _ _ e1 _ he a z fun σ1 he1 w1 => h2.go ρ H σ1 e1 _ _ e' _ he1 b h fun σ2 he2 w2 => q σ2 he2 fun us' hu =>
        (w2 us' fun i hi => hu i (List.mem_append_right _ hi)).trans (w1 us' fun i hi => hu i (List.mem_append_left _ hi))⟩⟩
theorem tg_tup {n : Nat} {u : TGs} {gs : GsF} (h : TgsOk K mg us u gs) : TgOk K mg us (gTup K n u) (gT n gs) := ⟨fun ρ H σ e v d e' Q he r hg q => by
  cases r with
  | @tup a ws ds z l r =>
    have hg : (if ds.length = n then gs ds e else none) = some e' := hg
    by_cases hz : ds.length = n
    · rw [if_pos hz] at hg
      exact ⟨a, ws, rfl, z.sq, r.length.trans hz, h.go ρ H σ e ws ds e' Q he r hg q⟩
    · rw [if_neg hz] at hg; cases hg
  | _ => cases hg⟩
end

/-! ### what is walked -/
/-- a handle's list is looked at at each turn: it is as it was -/
def cdOk (c : Option Nat) (xs : List D) (M : Store) : Prop := match c with
  | none => True
  | some k => M[k]? = some (.lst xs)
abbrev IF := En → Store → Res (List D × Option Nat)
structure SrcG (K : PySem.W.Frag) (mg : Str → Option Value) (J : It) (xs : List D) (c : Option Nat) (G : Pl → Hp → Prop) : Prop where
  tr : ∀ ρ H ρ' H', Tr K ρ H ρ' H' → G ρ H → G ρ' H'
  go : ∀ i ρ H M, i < xs.length → G ρ H → SOk K mg ρ H M → cdOk c xs M → J.go i H
  stop : ∀ ρ H M, G ρ H → SOk K mg ρ H M → cdOk c xs M → J.stop xs.length H
  yld : ∀ i x ρ H H' M d, xs[i]? = some d → G ρ H → SOk K mg ρ H M → cdOk c xs M → J.yld i H x H' → Step ρ H ρ H' ∧ SOk K mg ρ H' M ∧ Rep K mg ρ H' x d
def Src (K : PySem.W.Frag) (mg : Str → Option Value) (ρ : Pl) (H : Hp) (J : It) (xc : List D × Option Nat) : Prop := xc.1.length ≤ sizeLine ∧ ∃ G, SrcG K mg J xc.1 xc.2 G ∧ G ρ H
def tI (K : PySem.W.Frag) (mg : Str → Option Value) (W : WX) (f : IF) : TI := fun σ H R => ∃ e ρ M, EnRep K mg ρ H σ e ∧ SOk K mg ρ H M ∧ Aft K mg (Src K mg) (f e M) ρ H (WE W σ) R
/-- items of a list or a tuple -/
def seqD (M : Store) : D → Option (List D × Option Nat)
  | .lst xs => some (xs, none)
  | .tup xs => some (xs, none)
  | .ref k => match M[k]? with
    | some (.lst xs) => some (xs, some k)
    | _ => none
  | _ => none
def Res.opt {α : Type} (o : Option α) (M : Store) : Res α := match o with
  | some a => .ok a M
  | none => .no
def iSeq (f : EF) : IF := fun e M => (f e M).bind fun d M1 => Res.opt (seqD M1 d) M1
def iRange1 (g : AF) : IF := fun e M => (g e M).bind fun ds M1 => match ds with
  | [.int n] => if n ≤ 16777216 ∧ -(2 ^ 62) ≤ n then .ok ((List.range n.toNat).map fun i => D.int (i : Nat), none) M1 else .no
  | _ => .no
def iRange2 (g : AF) : IF := fun e M => (g e M).bind fun ds M1 => match ds with
  | [.int m, .int n] => if (-(2 ^ 61) ≤ m ∧ m < 2 ^ 61) ∧ -(2 ^ 61) ≤ n ∧ n ≤ m + 16777216 then .ok ((List.range (n - m).toNat).map fun i => D.int (m + (i : Nat)), none) M1 else .no
  | _ => .no
section
variable {K : PySem.W.Frag} {mg : Str → Option Value}
theorem src_fzl {ρ : Pl} {H : Hp} {a : Addr} {vs : List V} {xs : List D} (z : FzL K ρ H a vs) (l : vs.length ≤ sizeLine) (r : RepAll K mg ρ H vs xs) : Src K mg ρ H (Itl K a) (xs, none) := by
  refine ⟨by rw [← r.length]; exact l, fun ρ H => FzL K ρ H a vs ∧ RepAll K mg ρ H vs xs, ⟨fun ρ H ρ' H' t h => ⟨t.l _ _ h.1, h.2.tr t⟩, fun i ρ H M hi h _ _ => ?_, fun ρ H M h _ _ => ⟨vs, h.1.sq, Nat.le_of_eq h.2.length⟩, fun i x ρ H H' M d hd h s _ y => ?_⟩, z, r⟩
  · have hi' : i < vs.length := by rw [h.2.length]; exact hi
    exact ⟨vs, vs[i], h.1.sq, List.getElem?_eq_getElem hi'⟩
  · obtain ⟨e, y⟩ := y
    subst e
    obtain ⟨w, h1, h2⟩ := h.2.get hd
    have := y vs h.1.sq
    rw [h1] at this
    cases this
    exact ⟨Step.refl, s, h2⟩
theorem src_fzt {ρ : Pl} {H : Hp} {a : Addr} {vs : List V} {xs : List D} (z : FzT K ρ H a vs) (l : vs.length ≤ sizeLine) (r : RepAll K mg ρ H vs xs) : Src K mg ρ H (Itt K a) (xs, none) := by
  refine ⟨by rw [← r.length]; exact l, fun ρ H => FzT K ρ H a vs ∧ RepAll K mg ρ H vs xs, ⟨fun ρ H ρ' H' t h => ⟨t.t _ _ h.1, h.2.tr t⟩, fun i ρ H M hi h _ _ => ?_, fun ρ H M h _ _ => ⟨vs, h.1.sq, Nat.le_of_eq h.2.length⟩, fun i x ρ H H' M d hd h s _ y => ?_⟩, z, r⟩
  · have hi' : i < vs.length := by rw [h.2.length]; exact hi
    exact ⟨vs, vs[i], h.1.sq, List.getElem?_eq_getElem hi'⟩
  · obtain ⟨e, y⟩ := y
    subst e
    obtain ⟨w, h1, h2⟩ := h.2.get hd
    have := y vs h.1.sq
    rw [h1] at this
    cases this
    exact ⟨Step.refl, s, h2⟩
theorem src_ref {ρ : Pl} {H : Hp} {k : Nat} {a : Addr} {xs : List D} (e : ρ.hs[k]? = some a) (l : xs.length ≤ sizeLine) : Src K mg ρ H (Itl K a) (xs, some k) := by
  refine ⟨l, fun ρ _ => ρ.hs[k]? = some a, ⟨fun ρ H ρ' H' t h => t.r _ _ h, fun i ρ H M hi h s c => ?_, fun ρ H M h s c => ?_, fun i x ρ H H' M d hd h s c y => ?_⟩, e⟩
  · obtain ⟨vs, h1, _, h2⟩ := s.at' k _ a c h
    have hi' : i < vs.length := by rw [h2.length]; exact hi
    exact ⟨vs, vs[i], SqL.of h1, List.getElem?_eq_getElem hi'⟩
  · obtain ⟨vs, h1, _, h2⟩ := s.at' k _ a c h
    exact ⟨vs, SqL.of h1, Nat.le_of_eq h2.length⟩
  · obtain ⟨e, y⟩ := y
    subst e
    obtain ⟨vs, h1, _, h2⟩ := s.at' k _ a c h
    obtain ⟨w, h3, h4⟩ := h2.get hd
    have := y vs (SqL.of h1)
    rw [h3] at this
    cases this
    exact ⟨Step.refl, s, h4⟩
theorem src_rng {ρ : Pl} {H : Hp} {lo : Int} {n : Nat} (l : n ≤ sizeLine) : Src K mg ρ H (Itr lo n) ((List.range n).map (fun i => D.int (lo + (i : Nat))), none) := by
  refine ⟨by simpa using l, fun _ _ => True, ⟨fun _ _ _ _ _ h => h, fun i ρ H M hi _ _ _ => ?_, fun ρ H M _ _ _ => ?_, fun i x ρ H H' M d hd _ s _ y => ?_⟩, trivial⟩
  · show i < n
    simpa using hi
  · show n ≤ _
    simp
  · obtain ⟨e, y⟩ := y
    subst e; subst y
    rw [List.getElem?_map] at hd
    cases q : (List.range n)[i]? with
    | none => rw [q] at hd; cases hd
    | some j =>
      rw [q] at hd
      have e1 : j = i := by
        rw [List.getElem?_range (by have := (List.getElem?_eq_some_iff.mp q).1; simpa using this)] at q
        exact (Option.some.inj q).symm
      subst e1
      cases hd
      exact ⟨Step.refl, s, .int _⟩
end
section
variable {X : Cx} {W : WX} {mg : Str → Option Value} {tg : Expr}
theorem PI.or {it : Expr} {w w' : TI} (h : PI X tg it w) (h' : PI X tg it w') : PI X tg it (fun σ H R => w σ H R ∨ w' σ H R) := ⟨fun pins s σ H R I q => q.elim (h.run pins s σ H R I) (h'.run pins s σ H R I)⟩
theorem piImp {it : Expr} {w w' : TI} (h : PI X tg it w) (i : ∀ σ H R, w' σ H R → w σ H R) : PI X tg it w' := ⟨fun pins s σ H R I q => h.run pins s σ H R I (i σ H R q)⟩
end
end Py
set_option Elab.async false
set_option linter.all false
set_option maxRecDepth 100000
set_option maxHeartbeats 2000000
/-! # for, while, comprehensions -/
namespace Py
open PySem PySem.Spec PyProof.Rows L2

section
variable {X : Cx} {W : WX} {mg : Str → Option Value} {tg : Expr}
theorem ri_seq {l : Expr} {f : EF} (hl : PE X l (tE X.K mg W f)) : PI X tg l (tI X.K mg W (iSeq f)) := by
  refine piImp (PI.or (pi_list hl) (pi_tup hl)) fun σ H R ⟨e, ρ, M, he, hs, h⟩ => ?_
  have h : Aft X.K mg (Src X.K mg) ((f e M).bind fun d M1 => Res.opt (seqD M1 d) M1) ρ H (WE W σ) R := h
  cases q : f e M with
  | ex x M1 =>
    rw [q] at h
    exact .inl ⟨e, ρ, M, he, hs, by rw [q]; exact h⟩
  | no => rw [q] at h; exact h.elim
  | ok d M1 =>
    rw [q] at h
    have h : Aft X.K mg (Src X.K mg) (Res.opt (seqD M1 d) M1) ρ H (WE W σ) R := h
    cases d with
    | tup xs =>
      refine .inr ⟨e, ρ, M, he, hs, ?_⟩
      rw [q]
      intro v ρ1 H1 s1 o1 r1
      cases r1 with
      | @tup a vs _ z l r => exact ⟨a, rfl, ⟨vs, z.sq⟩, h _ ρ1 H1 s1 o1 (src_fzt z l r)⟩
    | lst xs =>
      refine .inl ⟨e, ρ, M, he, hs, ?_⟩
      rw [q]
      intro v ρ1 H1 s1 o1 r1
      cases r1 with
      | @lst a vs _ z l r => exact ⟨a, rfl, ⟨vs, z.sq⟩, h _ ρ1 H1 s1 o1 (src_fzl z l r)⟩
    | ref k =>
      refine .inl ⟨e, ρ, M, he, hs, ?_⟩
      rw [q]
      intro v ρ1 H1 s1 o1 r1
      have h : Aft X.K mg (Src X.K mg) (Res.opt (match M1[k]? with | some (.lst xs) => some (xs, some k) | _ => none) M1) ρ H (WE W σ) R := h
      cases r1 with
      | @ref _ a z =>
        cases y : M1[k]? with
        | none => rw [y] at h; exact h.elim
        | some o =>
          rw [y] at h
          cases o with
          | lst xs =>
            obtain ⟨vs, h1, l, r⟩ := o1.at' k _ a y z
            exact ⟨a, rfl, ⟨vs, SqL.of h1⟩, h _ ρ1 H1 s1 o1 (src_ref z (by rw [← r.length]; exact l))⟩
          | _ => exact h.elim
    | _ => exact h.elim
theorem ri_range1 {a : Expr} {g : AF} {p pos : Pos} (hg : Gl X "range") (hm : X.mg "range" = none) (ha : PA X [a] (tA X.K mg W g)) (hs : starEach [a] X.env = [(false, eval a X.env)] := by rfl) :
    PI X tg (.Call (.Name "range" p) [a] [] pos) (tI X.K mg W (iRange1 g)) := by
  refine piImp (pi_range1 hg hm ha hs) fun σ H R ⟨e, ρ, M, he, hs, h⟩ => ⟨e, ρ, M, he, hs, Aft.bind h fun ds M1 vs ρ1 H1 s1 o1 r1 h1 => ?_⟩
  cases r1 with
  | nil => exact h1.elim
  | cons a b =>
    cases b with
    | nil =>
      cases a with
      | int n =>
        have h1 : Aft X.K mg (Src X.K mg) (if n ≤ 16777216 ∧ -(2 ^ 62) ≤ n then (.ok ((List.range n.toNat).map fun i => D.int (i : Nat), none) M1 : Res (List D × Option Nat)) else .no) ρ1 H1 (WE W σ) R := h1
        by_cases c : n ≤ 16777216 ∧ -(2 ^ 62) ≤ n
        · rw [if_pos c] at h1
          refine ⟨n, rfl, c.2, by omega, h1 _ ρ1 H1 Step.refl o1 ?_⟩
          have := src_rng (K := X.K) (mg := mg) (ρ := ρ1) (H := H1) (lo := 0) (n := n.toNat) (by rw [sizeLine_eq]; omega)
          simpa only [Int.zero_add] using this
        · rw [if_neg c] at h1; exact h1.elim
      | _ => exact h1.elim
    | cons _ _ => cases a <;> exact h1.elim
theorem ri_range2 {a b : Expr} {g : AF} {p pos : Pos} (hg : Gl X "range") (hm : X.mg "range" = none) (ha : PA X [a, b] (tA X.K mg W g)) (hs : starEach [a, b] X.env = [(false, eval a X.env), (false, eval b X.env)] := by rfl)
    (hs2 : starEach [b] X.env = [(false, eval b X.env)] := by rfl) : PI X tg (.Call (.Name "range" p) [a, b] [] pos) (tI X.K mg W (iRange2 g)) := by
  refine piImp (pi_range2 hg hm ha hs hs2) fun σ H R ⟨e, ρ, M, he, hs, h⟩ => ⟨e, ρ, M, he, hs, Aft.bind h fun ds M1 vs ρ1 H1 s1 o1 r1 h1 => ?_⟩
  cases r1 with
  | nil => exact h1.elim
  | cons a b =>
    cases b with
    | nil => cases a <;> exact h1.elim
    | cons b c =>
      cases c with
      | cons _ _ => cases a <;> cases b <;> exact h1.elim
      | nil =>
        cases a with
        | int m =>
          cases b with
          | int n =>
            have h1 : Aft X.K mg (Src X.K mg) (if (-(2 ^ 61) ≤ m ∧ m < 2 ^ 61) ∧ -(2 ^ 61) ≤ n ∧ n ≤ m + 16777216 then (.ok ((List.range (n - m).toNat).map fun i => D.int (m + (i : Nat)), none) M1 : Res (List D × Option Nat)) else .no) ρ1 H1 (WE W σ) R := h1
            by_cases c : (-(2 ^ 61) ≤ m ∧ m < 2 ^ 61) ∧ -(2 ^ 61) ≤ n ∧ n ≤ m + 16777216
            · rw [if_pos c] at h1
              exact ⟨m, n, rfl, ⟨by omega, by omega, by omega, by omega⟩, h1 _ ρ1 H1 Step.refl o1 (src_rng (by rw [sizeLine_eq]; omega))⟩
            · rw [if_neg c] at h1; exact h1.elim
          | _ => exact h1.elim
        | _ => exact h1.elim
end

open Classical in
noncomputable def fIter (c : Option Nat) (all : List D) (g : GF) (f : SF) : List D → En → Store → SR
  | [], e, M => if cdOk c all M then .nx e M else .no
  | d :: r, e, M => if cdOk c all M then match g d e with
      | some e1 => match f e1 M with
        | .nx e2 M2 => fIter c all g f r e2 M2
        | .ct e2 M2 => fIter c all g f r e2 M2
        | .bk e2 M2 => .nx e2 M2
        | .rt d M2 => .rt d M2
        | .ex x e2 M2 => .ex x e2 M2
        | .no => .no
      | none => .no
    else .no
noncomputable def sFor (it : IF) (g : GF) (f : SF) : SF := fun e M => match it e M with
  | .ok xc M1 => fIter xc.2 xc.1 g f xc.1 e M1
  | .ex x M1 => .ex x e M1
  | .no => .no
section
variable {X : Cx} {W : WX} {mg : Str → Option Value} {tg iter : Expr} {body : List Stmt} {pos : Pos}
theorem rs_for {it : IF} {t : TG} {g : GF} {f : SF} {vs : List Nat} (hp : PassesOwn (model X.prog X.w) X.A X.env X.xe) (hc : X.calm = true) (hi : PI X tg iter (tI X.K mg W it)) (hg : PG X tg t) (ht : TgOk X.K mg vs t g) (hb : PSs X body (tS X.K mg W f))
    (hs : ∀ x, foldedSetIterable iter X.env x = pure x := by intro _; rfl) : PS X (.For tg iter body [] pos) (tS X.K mg W (sFor it g f)) := by
  refine psImp (ps_for hp hc hi hg hb hs) fun D σ H ⟨e, ρ, M, he, hs, h⟩ => ⟨e, ρ, M, he, hs, ?_⟩
  unfold sFor at h
  cases q : it e M with
  | ex x M1 =>
    rw [q] at h
    exact fun cls dd ρ1 H1 s1 o1 r1 => h cls dd σ ρ1 H1 s1 o1 (he.step s1) r1
  | no => rw [q] at h; exact h
  | ok xc M1 =>
    obtain ⟨xs, c⟩ := xc
    rw [q] at h
    rintro J ρ1 H1 s1 o1 ⟨_, G, sg, g0⟩
    have h := AftS.step h s1
    refine ⟨fun i m σ' H' => i ≤ xs.length ∧ m = xs.length - i ∧ ∃ e' ρ' M', EnRep X.K mg ρ' H' σ' e' ∧ SOk X.K mg ρ' H' M' ∧ G ρ' H' ∧ AftS X.K mg (fIter c xs g f (xs.drop i) e' M') ρ' H' D W,
      ⟨xs.length, Nat.zero_le _, rfl, e, ρ1, M1, he.step s1, o1, g0, h⟩, ?_⟩
    rintro i m σ2 H2 ⟨hle, rfl, e2, ρ2, M2, he2, o2, g2, h2⟩
    by_cases hlt : i < xs.length
    · rw [List.drop_eq_getElem_cons hlt] at h2
      unfold fIter at h2
      by_cases cd : cdOk c xs M2
      · rw [if_pos cd] at h2
        refine .inr ⟨sg.go i ρ2 H2 M2 hlt g2 o2 cd, fun σ' H' => ∃ e' ρ' M', EnRep X.K mg ρ' H' σ' e' ∧ SOk X.K mg ρ' H' M' ∧ G ρ' H' ∧ AftS X.K mg (fIter c xs g f (xs.drop (i + 1)) e' M') ρ' H' D W,
          fun σ' H' hn => ⟨xs.length - (i + 1), by omega, hlt, rfl, hn⟩, fun x H' y => ?_⟩
        obtain ⟨s3, o3, r3⟩ := sg.yld i x ρ2 H2 H' M2 xs[i] (List.getElem?_eq_getElem hlt) g2 o2 cd y
        have he3 := he2.step s3
        have g3 := sg.tr _ _ _ _ s3.tr g2
        have h3 := AftS.step h2 s3
        cases z : g xs[i] e2 with
        | none => rw [z] at h3; exact h3.elim
        | some e4 =>
          rw [z] at h3
          refine ht.go ρ2 H' σ2 e2 x xs[i] e4 _ he3 r3 z fun σ4 he4 _ => ⟨e4, ρ2, M2, he4, o3, ?_⟩
          have h3 : AftS X.K mg (match f e4 M2 with
            | .nx e2 M2 => fIter c xs g f (xs.drop (i + 1)) e2 M2
            | .ct e2 M2 => fIter c xs g f (xs.drop (i + 1)) e2 M2
            | .bk e2 M2 => .nx e2 M2
            | .rt d M2 => .rt d M2
            | .ex x e2 M2 => .ex x e2 M2
            | .no => .no) ρ2 H' D W := h3
          cases w : f e4 M2 with
          | nx e5 M5 =>
            rw [w] at h3
            exact fun σ5 ρ5 H5 s5 o5 he5 => ⟨e5, ρ5, M5, he5, o5, sg.tr _ _ _ _ s5.tr g3, AftS.step h3 s5⟩
          | ct e5 M5 =>
            rw [w] at h3
            exact fun σ5 ρ5 H5 s5 o5 he5 => ⟨e5, ρ5, M5, he5, o5, sg.tr _ _ _ _ s5.tr g3, AftS.step h3 s5⟩
          | bk e5 M5 => rw [w] at h3; exact h3
          | rt e5 M5 => rw [w] at h3; exact h3
          | ex e5 M5 => rw [w] at h3; exact h3
          | no => rw [w] at h3; exact h3
      · rw [if_neg cd] at h2; exact h2.elim
    · have ei : i = xs.length := by omega
      subst ei
      rw [List.drop_length] at h2
      unfold fIter at h2
      by_cases cd : cdOk c xs M2
      · rw [if_pos cd] at h2
        exact .inl ⟨sg.stop ρ2 H2 M2 g2 o2 cd, h2 σ2 ρ2 H2 Step.refl o2 he2⟩
      · rw [if_neg cd] at h2; exact h2.elim
end

/-! ### while -/
def wIter (b : BF) (f : SF) : Nat → En → Store → Option SR
  | 0, _, _ => none
  | n + 1, e, M => match b e M with
    | .ok false M1 => some (.nx e M1)
    | .ok true M1 => match f e M1 with
      | .nx e2 M2 => wIter b f n e2 M2
      | .ct e2 M2 => wIter b f n e2 M2
      | .bk e2 M2 => some (.nx e2 M2)
      | .rt d M2 => some (.rt d M2)
      | .ex x e2 M2 => some (.ex x e2 M2)
      | .no => some .no
    | .ex x M1 => some (.ex x e M1)
    | .no => some .no
theorem wIter_mono {b : BF} {f : SF} : ∀ {n : Nat} {e : En} {M : Store} {r : SR}, wIter b f n e M = some r → wIter b f (n + 1) e M = some r
  | 0, _, _, _, h => by cases h
  | n + 1, e, M, r, h => by
    unfold wIter at h ⊢
    cases z : b e M with
    | ex x M1 => rw [z] at h; exact h
    | no => rw [z] at h; exact h
    | ok c M1 =>
      rw [z] at h
      cases c with
      | false => exact h
      | true =>
        dsimp only at h ⊢
        cases w : f e M1 with
        | nx e2 M2 => rw [w] at h; exact wIter_mono h
        | ct e2 M2 => rw [w] at h; exact wIter_mono h
        | bk e2 M2 => rw [w] at h; exact h
        | rt e2 M2 => rw [w] at h; exact h
        | ex e2 M2 => rw [w] at h; exact h
        | no => rw [w] at h; exact h
theorem wIter_le {b : BF} {f : SF} {n m : Nat} (hle : n ≤ m) {e : En} {M : Store} {r : SR} (h : wIter b f n e M = some r) : wIter b f m e M = some r := by
  induction hle with
  | refl => exact h
  | step _ ih => exact wIter_mono ih
open Classical in
noncomputable def sWhile (b : BF) (f : SF) : SF := fun e M => if h : ∃ n r, wIter b f n e M = some r then h.choose_spec.choose else .no
theorem sWhile_of {b : BF} {f : SF} {n : Nat} {e : En} {M : Store} {r : SR} (h : wIter b f n e M = some r) : sWhile b f e M = r := by
  have hx : ∃ n r, wIter b f n e M = some r := ⟨n, r, h⟩
  unfold sWhile
  rw [dif_pos hx]
  have h2 : wIter b f hx.choose e M = some hx.choose_spec.choose := hx.choose_spec.choose_spec
  have a := wIter_le (Nat.le_max_left n hx.choose) h
  have c := wIter_le (Nat.le_max_right n hx.choose) h2
  rw [a] at c
  exact (Option.some.inj c).symm
/-- one turn -/
theorem sWhile_eq (b : BF) (f : SF) (e : En) (M : Store) : sWhile b f e M = match b e M with
    | .ok false M1 => .nx e M1
    | .ok true M1 => match f e M1 with
      | .nx e2 M2 => sWhile b f e2 M2
      | .ct e2 M2 => sWhile b f e2 M2
      | .bk e2 M2 => .nx e2 M2
      | .rt d M2 => .rt d M2
      | .ex x e2 M2 => .ex x e2 M2
      | .no => .no
    | .ex x M1 => .ex x e M1
    | .no => .no := by
  cases z : b e M with
  | ex x M1 => exact sWhile_of (n := 1) (by unfold wIter; rw [z])
  | no => exact sWhile_of (n := 1) (by unfold wIter; rw [z])
  | ok c M1 =>
    cases c with
    | false => exact sWhile_of (n := 1) (by unfold wIter; rw [z])
    | true =>
      dsimp only
      have go : ∀ e2 M2, (∀ n, wIter b f (n + 1) e M = wIter b f n e2 M2) → sWhile b f e M = sWhile b f e2 M2 := by
        intro e2 M2 k
        by_cases hx : ∃ n r, wIter b f n e2 M2 = some r
        · obtain ⟨n, r, h⟩ := hx
          rw [sWhile_of h]
          exact sWhile_of ((k n).trans h)
        · have hy : ¬ ∃ n r, wIter b f n e M = some r := by
            rintro ⟨n, r, h⟩
            cases n with
            | zero => cases h
            | succ n => exact hx ⟨n, r, (k n).symm.trans h⟩
          unfold sWhile
          rw [dif_neg hx, dif_neg hy]
      cases w : f e M1 with
      | nx e2 M2 => exact go e2 M2 fun n => by rw [wIter, z]; dsimp only; rw [w]
      | ct e2 M2 => exact go e2 M2 fun n => by rw [wIter, z]; dsimp only; rw [w]
      | bk e2 M2 => exact sWhile_of (n := 1) (by rw [wIter, z]; dsimp only; rw [w])
      | rt e2 M2 => exact sWhile_of (n := 1) (by rw [wIter, z]; dsimp only; rw [w])
      | ex x e2 M2 => exact sWhile_of (n := 1) (by rw [wIter, z]; dsimp only; rw [w])
      | no => exact sWhile_of (n := 1) (by rw [wIter, z]; dsimp only; rw [w])
section
variable {X : Cx} {W : WX} {mg : Str → Option Value} {c : Expr} {body : List Stmt} {pos : Pos}
theorem rs_while {b : BF} {f : SF} (hp : PassesOwn (model X.prog X.w) X.A X.env X.xe) (hc : PT X c (tB' X.K mg W b)) (hb : PSs X body (tS X.K mg W f)) : PS X (.While c body [] pos) (tS X.K mg W (sWhile b f)) := by
  refine psImp (ps_while hp hc hb) fun D σ H ⟨e, ρ, M, he, hs, h⟩ => ?_
  by_cases hx : ∃ n r, wIter b f n e M = some r
  · obtain ⟨n, r, h0⟩ := hx
    rw [sWhile_of h0] at h
    refine ⟨fun m σ' H' => ∃ e' ρ' M', EnRep X.K mg ρ' H' σ' e' ∧ SOk X.K mg ρ' H' M' ∧ wIter b f m e' M' = some r ∧ AftS X.K mg r ρ' H' D W, ⟨n, e, ρ, M, he, hs, h0, h⟩, ?_⟩
    rintro m σ1 H1 ⟨e1, ρ1, M1, he1, o1, h1, a1⟩
    cases m with
    | zero => cases h1
    | succ m =>
      unfold wIter at h1
      refine ⟨e1, ρ1, M1, he1, o1, ?_⟩
      cases z : b e1 M1 with
      | ex x M2 =>
        rw [z] at h1
        cases h1
        exact fun cls dd ρ2 H2 s2 o2 r2 => a1 cls dd σ1 ρ2 H2 s2 o2 (he1.step s2) r2
      | no =>
        rw [z] at h1
        cases h1
        exact a1
      | ok t M2 =>
        rw [z] at h1
        intro v ρ2 H2 s2 o2 r2
        subst r2
        cases v with
        | false =>
          dsimp only at h1
          cases h1
          rw [if_neg Bool.false_ne_true]
          exact a1 σ1 ρ2 H2 s2 o2 (he1.step s2)
        | true =>
          dsimp only at h1
          rw [if_pos rfl]
          refine ⟨fun σ' H' => ∃ e' ρ' M', EnRep X.K mg ρ' H' σ' e' ∧ SOk X.K mg ρ' H' M' ∧ wIter b f m e' M' = some r ∧ AftS X.K mg r ρ' H' D W, fun σ' H' hn => ⟨m, Nat.lt_succ_self m, hn⟩, e1, ρ2, M2, he1.step s2, o2, ?_⟩
          have a2 := AftS.step a1 s2
          cases w : f e1 M2 with
          | nx e3 M3 => rw [w] at h1; exact fun σ3 ρ3 H3 s3 o3 he3 => ⟨e3, ρ3, M3, he3, o3, h1, AftS.step a2 s3⟩
          | ct e3 M3 => rw [w] at h1; exact fun σ3 ρ3 H3 s3 o3 he3 => ⟨e3, ρ3, M3, he3, o3, h1, AftS.step a2 s3⟩
          | bk e3 M3 => rw [w] at h1; cases h1; exact a2
          | rt e3 M3 => rw [w] at h1; cases h1; exact a2
          | ex x e3 M3 => rw [w] at h1; cases h1; exact a2
          | no => rw [w] at h1; cases h1; exact a2
  · have : sWhile b f e M = .no := by unfold sWhile; rw [dif_neg hx]
    rw [this] at h
    exact h.elim
end
end Py
set_option Elab.async false
set_option linter.all false
set_option maxRecDepth 100000
set_option maxHeartbeats 2000000
/-! # Comprehensions -/
namespace Py
open PySem PySem.Spec PyProof.Rows L2

/-- no exception is let out -/
def Res.quiet {α : Type} : Res α → Res α
  | .ok a M => .ok a M
  | _ => .no
open Classical in
noncomputable def lcIter (c : Option Nat) (all : List D) (g : GF) (b : BF) (f : EF) (e0 : En) : List D → Store → Res (List D)
  | [], M => if cdOk c all M then .ok [] M else .no
  | d :: r, M => if cdOk c all M then match g d e0 with
      | some e1 => (b e1 M).quiet.bind fun t M1 => if t = true then (f e1 M1).quiet.bind fun y M2 => (lcIter c all g b f e0 r M2).bind fun ys M3 => .ok (y :: ys) M3 else lcIter c all g b f e0 r M1
      | none => .no
    else .no
/-- the list that is made: it stays as it is (false), or is a handle (true) -/
def lcFin (k : Bool) (ys : List D) (M : Store) : Res D := if k = true then .ok (.ref M.length) (M ++ [.lst ys]) else .ok (.lst ys) M
noncomputable def eLc (k : Bool) (it : IF) (g : GF) (b : BF) (f : EF) (vs : List Nat) : EF := fun e M => (it e M).bind fun xc M1 => (lcIter xc.2 xc.1 g b f (wipeE e vs) xc.1 M1).bind (lcFin k)
def bYes : BF := fun _ M => .ok true M
abbrev W0 : WX := fun _ _ _ _ => False

theorem Res.bind_assoc {α β γ : Type} (r : Res α) (f : α → Store → Res β) (g : β → Store → Res γ) : (r.bind f).bind g = r.bind fun a M => (f a M).bind g := by cases r <;> rfl
section
variable {K : PySem.W.Frag} {mg : Str → Option Value} {ρ ρ1 ρ2 ρ' : Pl} {H H1 H2 H' : Hp} {σ : L2.St} {M : Store}
theorem EnRep.wipe {e : En} (h : EnRep K mg ρ H σ e) : ∀ vs : List Nat, EnRep K mg ρ H (wipe σ vs) (wipeE e vs)
  | [] => h
  | v :: vs => (EnRep.wipe h vs).unset
theorem Step.less {h' : List Addr} (s : Step ρ H ρ' H') : Step (ρ.less h') H (ρ'.less h') H' := by
  obtain ⟨n, rfl, hn⟩ := s.ext
  exact ⟨⟨n, rfl, hn⟩, s.keep, s.dom⟩
theorem Step.afterHid {p : Addr} {u : HO} (s : Step ρ1 H1 ρ2 H2) (h : H1 p = none) : Step ρ1 H1 ρ2 (upd H2 p u) :=
  ⟨s.ext, fun a o n e => by rw [upd_ne (ne_of_none e h)]; exact s.keep a o n e, fun a e => s.dom a (by
    by_cases q : a = p
    · subst q; rw [upd_same] at e; cases e
    · rw [upd_ne q] at e; exact e)⟩
/-- what was being made becomes a handle -/
theorem Tr.toH {p : Addr} {h' : List Addr} (hp : ρ.hid = p :: h') : Tr K ρ H ⟨ρ.hs ++ [p], h'⟩ H := by
  have out : ∀ {a : Addr}, ρ.out a → Pl.out ⟨ρ.hs ++ [p], h'⟩ a := fun {a} n => ⟨fun z => by
    rcases List.mem_append.mp z with z | z
    · exact n.1 z
    · exact n.2 (by rw [hp, List.mem_singleton.mp z]; exact List.mem_cons_self), fun z => n.2 (by rw [hp]; exact List.mem_cons_of_mem _ z)⟩
  refine ⟨fun a vs q => ?_, fun a vs q => ?_, fun a C dx fs e n => ⟨e, out n⟩, fun k a q => ?_⟩
  · rcases q with ⟨n, q⟩ | q
    · exact .inl ⟨out n, q⟩
    · exact .inr q
  · rcases q with ⟨n, q⟩ | q
    · exact .inl ⟨out n, q⟩
    · exact .inr q
  · show (ρ.hs ++ [p])[k]? = some a
    rw [List.getElem?_append_left (List.getElem?_eq_some_iff.mp q).1]
    exact q
theorem SOk.toH {p : Addr} {h' : List Addr} {o : O} (s : SOk K mg ρ H M) (hp : ρ.hid = p :: h') (nh : p ∉ h') (r : ObRep K mg ⟨ρ.hs ++ [p], h'⟩ H p o) : SOk K mg ⟨ρ.hs ++ [p], h'⟩ H (M ++ [o]) := by
  have hpm : p ∈ ρ.hid := by rw [hp]; exact List.mem_cons_self
  refine ⟨by simp [s.len], List.nodup_append.mpr ⟨s.nd, by simp, fun a ha b hb => ?_⟩, fun a ha => ⟨(s.hd a (by rw [hp]; exact List.mem_cons_of_mem _ ha)).1, fun hm => ?_⟩, fun k o' a e1 e2 => ?_⟩
  · rw [List.mem_singleton.mp hb]
    intro q
    subst q
    exact (s.hd a hpm).2 ha
  · rcases List.mem_append.mp hm with z | z
    · exact (s.hd a (by rw [hp]; exact List.mem_cons_of_mem _ ha)).2 z
    · rw [List.mem_singleton.mp z] at ha
      exact nh ha
  · have e2' : (ρ.hs ++ [p])[k]? = some a := e2
    by_cases hk : k < M.length
    · rw [List.getElem?_append_left hk] at e1
      rw [List.getElem?_append_left (by rw [s.len]; exact hk)] at e2'
      exact (s.at' k o' a e1 e2').tr (Tr.toH hp) rfl
    · have hl : k < (M ++ [o]).length := (List.getElem?_eq_some_iff.mp e1).1
      have ek : k = M.length := by simp at hl; omega
      subst ek
      rw [List.getElem?_append_right (Nat.le_refl _), Nat.sub_self] at e1
      rw [← s.len, List.getElem?_append_right (Nat.le_refl _), Nat.sub_self] at e2'
      simp at e1 e2'
      subst e1 e2'
      exact r
end

section
variable {W : WX} {K : PySem.W.Frag} {mg : Str → Option Value}
theorem lc_go {k : Bool} {it : IF} {t : TG} {g : GF} {b : BF} {f : EF} {vs us : List Nat} (ht : TgOk K mg us t g) (hu : ∀ i ∈ us, i ∈ vs) {σ : L2.St} {H : Hp} {Q : VK} (h : tE K mg W (eLc k it g b f vs) σ H Q) :
    tLc (tI K mg W it) t (tB' K mg W0 b) (tE K mg W0 f) vs σ H Q := by
  obtain ⟨e, ρ, M, he, hs, h⟩ := h
  refine ⟨e, ρ, M, he, hs, Aft.bind h fun xc M1 J ρ1 H1 s1 o1 sr h1 => ?_⟩
  obtain ⟨xs, c⟩ := xc
  obtain ⟨hz, G, sg, g0⟩ := sr
  have hz : xs.length ≤ sizeLine := hz
  intro p hp
  have he1 := he.step s1
  -- what is made: p
  have o2 : SOk K mg (ρ1.more p) (upd H1 p (.lst [])) M1 := o1.begin hp
  have np : p ∉ ρ1.hs := (o1.dom hp).1
  have nh : p ∉ ρ1.hid := (o1.dom hp).2
  refine ⟨fun i m H' => i ≤ xs.length ∧ m = xs.length - i ∧ ∃ ρ' M' av ad, ρ'.hid = p :: ρ1.hid ∧ Step ρ1 H1 (ρ'.less ρ1.hid) H' ∧ SOk K mg ρ' H' M' ∧ EnRep K mg ρ' H' (wipe σ vs) (wipeE e vs) ∧ G ρ' H' ∧ H' p = some (.lst av) ∧
      RepAll K mg ρ' H' av ad ∧ av.length ≤ i ∧ Aft K mg (Rep K mg) ((lcIter c xs g b f (wipeE e vs) (xs.drop i) M').bind fun ys M3 => lcFin k (ad ++ ys) M3) ρ1 H1 (WE W σ) Q,
    ⟨xs.length, Nat.zero_le _, rfl, ρ1.more p, M1, [], [], rfl, Step.new hp, o2, (he1.tr (Tr.begin hp)).wipe vs, sg.tr _ _ _ _ (Tr.begin hp) g0, upd_same, .nil, Nat.le_refl _, h1⟩, ?_⟩
  rintro i m H2 ⟨hle, rfl, ρ2, M2, av, ad, hh, st, o3, he3, g3, hpv, ra, hl, fin⟩
  have hpm : p ∈ ρ2.hid := by rw [hh]; exact List.mem_cons_self
  by_cases hlt : i < xs.length
  · rw [List.drop_eq_getElem_cons hlt] at fin
    unfold lcIter at fin
    by_cases cd : cdOk c xs M2
    · rw [if_pos cd] at fin
      refine .inr ⟨sg.go i ρ2 H2 M2 hlt g3 o3 cd, fun H' => ∃ ρ' M' av ad, ρ'.hid = p :: ρ1.hid ∧ Step ρ1 H1 (ρ'.less ρ1.hid) H' ∧ SOk K mg ρ' H' M' ∧ EnRep K mg ρ' H' (wipe σ vs) (wipeE e vs) ∧ G ρ' H' ∧ H' p = some (.lst av) ∧
        RepAll K mg ρ' H' av ad ∧ av.length ≤ i + 1 ∧ Aft K mg (Rep K mg) ((lcIter c xs g b f (wipeE e vs) (xs.drop (i + 1)) M').bind fun ys M3 => lcFin k (ad ++ ys) M3) ρ1 H1 (WE W σ) Q,
        fun H' hn => ⟨xs.length - (i + 1), by omega, hlt, rfl, hn⟩, fun x H' y => ?_⟩
      obtain ⟨s4, o4, r4⟩ := sg.yld i x ρ2 H2 H' M2 xs[i] (List.getElem?_eq_getElem hlt) g3 o3 cd y
      have he4 := he3.step s4
      have g4 := sg.tr _ _ _ _ s4.tr g3
      have ra4 := ra.step s4
      have hp4 := s4.keep p _ (o3.hd p hpm).2 hpv
      have st4 : Step ρ1 H1 (ρ2.less ρ1.hid) H' := st.trans s4.less
      cases z : g xs[i] (wipeE e vs) with
      | none => rw [z] at fin; exact fin.elim
      | some e5 =>
        rw [z] at fin
        refine ht.go ρ2 H' (wipe σ vs) (wipeE e vs) x xs[i] e5 _ he4 r4 z fun σ5 he5 w5 => ⟨(w5 vs hu).trans wipe_wipe, e5, ρ2, M2, he5, o4, ?_⟩
        dsimp only at fin
        rw [Res.bind_assoc] at fin
        cases w : b e5 M2 with
        | ex xx M6 => rw [w] at fin; exact fin.elim
        | no => rw [w] at fin; exact fin
        | ok tt M6 =>
          rw [w] at fin
          have fin : Aft K mg (Rep K mg) ((if tt = true then (f e5 M6).quiet.bind fun y M2 => (lcIter c xs g b f (wipeE e vs) (xs.drop (i + 1)) M2).bind fun ys M3 => .ok (y :: ys) M3 else lcIter c xs g b f (wipeE e vs) (xs.drop (i + 1)) M6).bind fun ys M3 => lcFin k (ad ++ ys) M3) ρ1 H1 (WE W σ) Q := fin
          intro v ρ6 H6 s6 o6 r6
          subst r6
          have he6 := he5.step s6
          have st6 : Step ρ1 H1 (ρ6.less ρ1.hid) H6 := st4.trans s6.less
          have hh6 : ρ6.hid = p :: ρ1.hid := s6.hid.trans hh
          have hp6 := s6.keep p _ (o4.hd p hpm).2 hp4
          cases v with
          | false =>
            rw [if_neg Bool.false_ne_true] at fin ⊢
            exact ⟨ρ6, M6, av, ad, hh6, st6, o6, he4.step s6, sg.tr _ _ _ _ s6.tr g4, hp6, ra4.step s6, by omega, fin⟩
          | true =>
            rw [if_pos rfl] at fin ⊢
            rw [Res.bind_assoc] at fin
            refine ⟨e5, ρ6, M6, he6, o6, ?_⟩
            cases u : f e5 M6 with
            | ex xx M7 => rw [u] at fin; exact fin.elim
            | no => rw [u] at fin; exact fin
            | ok y7 M7 =>
              rw [u] at fin
              have fin : Aft K mg (Rep K mg) (((lcIter c xs g b f (wipeE e vs) (xs.drop (i + 1)) M7).bind fun ys M3 => .ok (y7 :: ys) M3).bind fun ys M3 => lcFin k (ad ++ ys) M3) ρ1 H1 (WE W σ) Q := fin
              rw [Res.bind_assoc] at fin
              intro yv ρ7 H7 s7 o7 r7
              have hh7 : ρ7.hid = p :: ρ1.hid := s7.hid.trans hh6
              have pm6 : p ∈ ρ6.hid := by rw [hh6]; exact List.mem_cons_self
              have pm7 : p ∈ ρ7.hid := by rw [hh7]; exact List.mem_cons_self
              have hp7 := s7.keep p _ (o6.hd p pm6).2 hp6
              have st7 : Step ρ1 H1 (ρ7.less ρ1.hid) H7 := st6.trans s7.less
              refine ⟨av, hp7, by omega, ρ7, M7, av ++ [yv], ad ++ [y7], hh7, st7.afterHid hp, o7.hidw pm7, ((he4.step s6).step s7).tr (Tr.hidw pm7), sg.tr _ _ _ _ (Tr.hidw pm7) (sg.tr _ _ _ _ s7.tr (sg.tr _ _ _ _ s6.tr g4)), upd_same,
                (((ra4.step s6).step s7).hidw pm7).append (.cons (r7.hidw pm7) .nil), by rw [List.length_append]; show av.length + 1 ≤ i + 1; omega, ?_⟩
              have ef : (fun ys M3 => lcFin k (ad ++ [y7] ++ ys) M3) = fun ys M3 => (Res.ok (y7 :: ys) M3).bind fun ys M3 => lcFin k (ad ++ ys) M3 := by
                funext ys M3
                show _ = lcFin k (ad ++ (y7 :: ys)) M3
                rw [List.append_assoc]
                rfl
              rw [ef]
              exact fin
    · rw [if_neg cd] at fin; exact fin.elim
  · have ei : i = xs.length := by omega
    subst ei
    rw [List.drop_length] at fin
    unfold lcIter at fin
    by_cases cd : cdOk c xs M2
    · rw [if_pos cd] at fin
      have fin : Aft K mg (Rep K mg) (lcFin k (ad ++ []) M2) ρ1 H1 (WE W σ) Q := fin
      rw [List.append_nil] at fin
      refine .inl ⟨sg.stop ρ2 H2 M2 g3 o3 cd, ?_⟩
      have zl : av.length ≤ sizeLine := Nat.le_trans hl hz
      have hsub : ∀ a ∈ ρ1.hid, a ∈ ρ2.hid := fun a ha => by rw [hh]; exact List.mem_cons_of_mem _ ha
      have pn : p ∉ ρ2.hs := (o3.hd p hpm).2
      unfold lcFin at fin
      cases k with
      | false =>
        rw [if_neg Bool.false_ne_true] at fin
        exact fin (.ref p) (ρ2.less ρ1.hid) H2 st (o3.unhid hsub) (.lst (.inl ⟨⟨pn, nh⟩, .inl hpv⟩) zl (ra.unhid hsub))
      | true =>
        rw [if_pos rfl] at fin
        have ra' : RepAll K mg ⟨ρ2.hs ++ [p], ρ1.hid⟩ H2 av ad := ra.tr (Tr.toH hh)
        refine fin (.ref p) ⟨ρ2.hs ++ [p], ρ1.hid⟩ H2 ?_ (o3.toH hh nh ⟨av, hpv, zl, ra'⟩) (.ref ?_)
        · obtain ⟨new, e1, hn⟩ := st.ext
          have e1' : ρ2.hs = ρ1.hs ++ new := congrArg Pl.hs e1
          refine ⟨⟨new ++ [p], by rw [e1', List.append_assoc], fun a ha => ?_⟩, st.keep, st.dom⟩
          rcases List.mem_append.mp ha with z | z
          · exact hn a z
          · rw [List.mem_singleton.mp z]; exact hp
        · show (ρ2.hs ++ [p])[M2.length]? = some p
          rw [← o3.len, List.getElem?_append_right (Nat.le_refl _), Nat.sub_self] <;> rfl
    · rw [if_neg cd] at fin; exact fin.elim
end

section
variable {X : Cx} {W : WX} {mg : Str → Option Value} {elt tg iter : Expr} {ifs : List Expr} {scope : Scope} {own : List (Str × Nat)} {pos spos : Pos}
theorem rts_nil {W : WX} {K : PySem.W.Frag} : PTs X [] (tB' K mg W bYes) := ⟨fun pins s σ H Q I ⟨_, ρ, _, _, hs, h⟩ => pts_nil.run pins s σ H Q I (h true ρ H Step.refl hs rfl)⟩
theorem rts_one {W : WX} {K : PySem.W.Frag} {c : Expr} {b : BF} (h : PT X c (tB' K mg W b)) : PTs X [c] (tB' K mg W b) := pts_one h
theorem r_lc (k : Bool) {it : IF} {t : TG} {g : GF} {b : BF} {f : EF} {us : List Nat} (hc : X.calm = true) (hN : X.N.Nodup) (hi : PI X tg iter (tI X.K mg W it)) (ok : BlkOk X.N X.env.scope scope own) (ht : TgOk X.K mg us t g) (hu : ∀ i ∈ us, i ∈ own.map (·.2))
    (hg : ∀ (s : Shared) (H : Hp) (C : Addr) (cl : List (Str × Addr)) (fp : List Addr), PG (X.blk s H scope (compEnvC scope cl C X.env) fp) tg t)
    (htt : ∀ (s : Shared) (H : Hp) (C : Addr) (cl : List (Str × Addr)) (fp : List Addr), PTs (X.blk s H scope (compEnvC scope cl C X.env) fp) ifs (tB' X.K mg W0 b))
    (he : ∀ (s : Shared) (H : Hp) (C : Addr) (cl : List (Str × Addr)) (fp : List Addr), PE (X.blk s H scope (compEnvC scope cl C X.env) fp) elt (tE X.K mg W0 f)) (hs : ∀ x, foldedSetIterable iter X.env x = pure x := by intro _; rfl) :
    PE X (.ListComp elt [⟨tg, iter, ifs, 0⟩] scope pos) (tE X.K mg W (eLc k it g b f (own.map (·.2)))) := peImp (pe_lc hc hN hi ok hg htt he hs) fun _ _ _ h => lc_go ht hu h
theorem rs_setLc (k : Bool) {i : Nat} {y : Str} {py : Pos} {it : IF} {t : TG} {g : GF} {b : BF} {f : EF} {us : List Nat} (hc : X.calm = true) (hN : X.N.Nodup) (hy : X.N[i]? = some y) (hyl : X.env.scope.names.lookup y = some .local)
    (hsw : swapsWith (.ListComp elt [⟨tg, iter, ifs, 0⟩] scope pos) (some (.Name y py)) spos.line X.env = pure true) (hi : PI X tg iter (tI X.K mg W it)) (ok : BlkOk X.N X.env.scope scope own) (ht : TgOk X.K mg us t g) (hu : ∀ i ∈ us, i ∈ own.map (·.2))
    (hg : ∀ (s : Shared) (H : Hp) (C : Addr) (cl : List (Str × Addr)) (fp : List Addr), PG (X.blk s H scope (compEnvC scope cl C X.env) fp) tg t)
    (htt : ∀ (s : Shared) (H : Hp) (C : Addr) (cl : List (Str × Addr)) (fp : List Addr), PTs (X.blk s H scope (compEnvC scope cl C X.env) fp) ifs (tB' X.K mg W0 b))
    (he : ∀ (s : Shared) (H : Hp) (C : Addr) (cl : List (Str × Addr)) (fp : List Addr), PE (X.blk s H scope (compEnvC scope cl C X.env) fp) elt (tE X.K mg W0 f)) (hs : ∀ x, foldedSetIterable iter X.env x = pure x := by intro _; rfl) :
    PS X (.Assign [.Name y py] (.ListComp elt [⟨tg, iter, ifs, 0⟩] scope pos) spos) (tS X.K mg W (sSet i (eLc k it g b f (own.map (·.2))))) := by
  refine psImp (ps_setLc hc hN hy hyl hsw hi ok hg htt he hs) fun D σ H ⟨e, ρ, M, hen, hs, h⟩ => ?_
  refine lc_go (W := W) (k := k) ht hu ⟨e, ρ, M, hen, hs, AftS.ofE hen h fun d M1 v ρ1 H1 s1 o1 r1 h1 => ?_⟩
  exact h1 _ ρ1 H1 Step.refl o1 ((hen.step s1).set r1)
end
end Py
set_option Elab.async false
set_option linter.all false
set_option maxRecDepth 100000
set_option maxHeartbeats 2000000
/-! # Defs: what they compute, told by a function of one's own -/
namespace Py
open PySem PySem.Spec PyProof.Rows L2

/-! ### handles below a number -/
mutual
def bel (n : Nat) : D → Bool
  | .ref k => decide (k < n)
  | .tup xs => belL n xs
  | .lst xs => belL n xs
  | .obj _ _ xs => belL n xs
  | _ => true
def belL (n : Nat) : List D → Bool
  | [] => true
  | d :: ds => bel n d && belL n ds
end
def belO (n : Nat) : O → Bool
  | .lst xs => belL n xs
  | .dK kvs => belL n (kvs.map (·.2))
  | .dT kvs => belL n (kvs.map (·.2))
  | .ins _ fs => belL n (fs.map (·.2))
theorem belL_cons {n : Nat} {d : D} {ds : List D} : belL n (d :: ds) = (bel n d && belL n ds) := by rw [belL]
theorem belL_nil {n : Nat} : belL n [] = true := by rw [belL]
theorem belL_append {n : Nat} : ∀ {xs ys : List D}, belL n (xs ++ ys) = (belL n xs && belL n ys)
  | [], ys => by rw [List.nil_append, belL_nil, Bool.true_and]
  | x :: xs, ys => by rw [List.cons_append, belL_cons, belL_cons, belL_append, Bool.and_assoc]
theorem belL_iff {n : Nat} : ∀ {xs : List D}, belL n xs = true ↔ ∀ d ∈ xs, bel n d = true
  | [] => by rw [belL_nil]; simp
  | x :: xs => by rw [belL_cons, Bool.and_eq_true, belL_iff]; simp
theorem belL_map {α : Type} {n : Nat} {f : α → D} (h : ∀ a, bel n (f a) = true) (xs : List α) : belL n (xs.map f) = true := by
  rw [belL_iff]
  intro d hd
  obtain ⟨a, _, rfl⟩ := List.mem_map.mp hd
  exact h a
mutual
theorem bel_mono {n m : Nat} (h : n ≤ m) : ∀ (d : D), bel n d = true → bel m d = true
  | .ref k, q => by
    rw [bel] at q ⊢
    exact decide_eq_true (Nat.lt_of_lt_of_le (of_decide_eq_true q) h)
  | .tup xs, q => by rw [bel] at q ⊢; exact belL_mono h xs q
  | .lst xs, q => by rw [bel] at q ⊢; exact belL_mono h xs q
  | .obj _ _ xs, q => by rw [bel] at q ⊢; exact belL_mono h xs q
  | .non, _ => by rw [bel] <;> simp
  | .bl _, _ => by rw [bel] <;> simp
  | .int _, _ => by rw [bel] <;> simp
  | .str _, _ => by rw [bel] <;> simp
theorem belL_mono {n m : Nat} (h : n ≤ m) : ∀ (ds : List D), belL n ds = true → belL m ds = true
  | [], _ => belL_nil
  | d :: ds, q => by
    rw [belL_cons, Bool.and_eq_true] at q ⊢
    exact ⟨bel_mono h d q.1, belL_mono h ds q.2⟩
end

mutual
inductive FzR (n : Nat) (M : Store) : D → D → Prop
  | same {d : D} : bel n d = true → FzR n M d d
  | tup {xs ys : List D} : FzA n M xs ys → FzR n M (.tup xs) (.tup ys)
  | lst {xs ys : List D} : FzA n M xs ys → FzR n M (.lst xs) (.lst ys)
  | obj {c : Str} {ns : List Str} {xs ys : List D} : FzA n M xs ys → FzR n M (.obj c ns xs) (.obj c ns ys)
  | refL {k : Nat} {xs ys : List D} : n ≤ k → M[k]? = some (.lst xs) → FzA n M xs ys → FzR n M (.ref k) (.lst ys)
  | refI {k : Nat} {c : Str} {fs : List (Str × D)} {ys : List D} : n ≤ k → M[k]? = some (.ins c fs) → FzA n M (fs.map (·.2)) ys → FzR n M (.ref k) (.obj c (fs.map (·.1)) ys)
inductive FzA (n : Nat) (M : Store) : List D → List D → Prop
  | nil : FzA n M [] []
  | cons {x y : D} {xs ys : List D} : FzR n M x y → FzA n M xs ys → FzA n M (x :: xs) (y :: ys)
end
theorem FzA.same {n : Nat} {M : Store} : ∀ {xs : List D}, belL n xs = true → FzA n M xs xs
  | [], _ => .nil
  | x :: xs, h => by
    rw [belL_cons, Bool.and_eq_true] at h
    exact .cons (.same h.1) (FzA.same h.2)
inductive FzO (n : Nat) (M : Store) : O → O → Prop
  | same {o : O} : belO n o = true → FzO n M o o
  | lst {xs ys : List D} : FzA n M xs ys → FzO n M (.lst xs) (.lst ys)
  | dK {kvs : List (Key × D)} {ws : List (Key × D)} : kvs.map (·.1) = ws.map (·.1) → FzA n M (kvs.map (·.2)) (ws.map (·.2)) → FzO n M (.dK kvs) (.dK ws)
  | dT {kvs : List (List Key × D)} {ws : List (List Key × D)} : kvs.map (·.1) = ws.map (·.1) → FzA n M (kvs.map (·.2)) (ws.map (·.2)) → FzO n M (.dT kvs) (.dT ws)
  | ins {c : Str} {fs gs : List (Str × D)} : fs.map (·.1) = gs.map (·.1) → FzA n M (fs.map (·.2)) (gs.map (·.2)) → FzO n M (.ins c fs) (.ins c gs)
/-- the store at the end, cut to its first n objects -/
structure Cut (n : Nat) (M M' : Store) : Prop where
  len : M'.length = n
  le : n ≤ M.length
  at' : ∀ (k : Nat) o o', k < n → M[k]? = some o → M'[k]? = some o' → FzO n M o o'

section
variable {K : PySem.W.Frag} {mg : Str → Option Value} {ρ ρ' : Pl} {H H' : Hp} {M M' : Store}
mutual
theorem Rep.bel : ∀ {v : V} {d : D}, Rep K mg ρ H v d → bel ρ.hs.length d = true
  | _, _, .non => by rw [Py.bel] <;> simp
  | _, _, .bl b => by rw [Py.bel] <;> simp
  | _, _, .int i => by rw [Py.bel] <;> simp
  | _, _, .str x => by rw [Py.bel] <;> simp
  | _, _, .tup _ _ r => by rw [Py.bel]; exact RepAll.bel r
  | _, _, .lst _ _ r => by rw [Py.bel]; exact RepAll.bel r
  | _, _, .obj _ _ _ _ r => by rw [Py.bel]; exact RepAll.bel r
  | _, _, .ref h => by rw [Py.bel]; exact decide_eq_true (List.getElem?_eq_some_iff.mp h).1
theorem RepAll.bel : ∀ {vs : List V} {ds : List D}, RepAll K mg ρ H vs ds → belL ρ.hs.length ds = true
  | _, _, .nil => belL_nil
  | _, _, .cons a b => by rw [belL_cons, Bool.and_eq_true]; exact ⟨Rep.bel a, RepAll.bel b⟩
end
theorem ObRep.bel {a : Addr} {o : O} (h : ObRep K mg ρ H a o) : belO ρ.hs.length o = true := by
  cases o with
  | lst xs => obtain ⟨_, _, _, r⟩ := h; exact r.bel
  | dK xs => obtain ⟨_, _, _, r⟩ := h; exact r.bel
  | dT xs => obtain ⟨_, _, _, r⟩ := h; exact r.bel
  | ins c fs => obtain ⟨_, _, _, _, _, _, r⟩ := h; exact r.bel
theorem SOk.bel (s : SOk K mg ρ H M) : ∀ o ∈ M, belO M.length o = true := fun o ho => by
  obtain ⟨k, hk, e⟩ := List.getElem_of_mem ho
  obtain ⟨a, _, _, r⟩ := s.has (k := k) (o := o) (by rw [← e]; exact List.getElem?_eq_getElem hk)
  rw [← s.len]; exact r.bel
/-- the first n handles -/
def Pl.cut (ρ : Pl) (n : Nat) : Pl := ⟨ρ.hs.take n, ρ.hid⟩
theorem Pl.cut_out {n : Nat} {a : Addr} (h : ρ.out a) : (ρ.cut n).out a := ⟨fun z => h.1 (List.mem_of_mem_take z), h.2⟩
theorem FzL.cut {n : Nat} {a : Addr} {vs : List V} (h : FzL K ρ H a vs) : FzL K (ρ.cut n) H a vs := by
  rcases h with ⟨o, h⟩ | h
  · exact .inl ⟨Pl.cut_out o, h⟩
  · exact .inr h
theorem FzT.cut {n : Nat} {a : Addr} {vs : List V} (h : FzT K ρ H a vs) : FzT K (ρ.cut n) H a vs := by
  rcases h with ⟨o, h⟩ | h
  · exact .inl ⟨Pl.cut_out o, h⟩
  · exact .inr h
mutual
theorem Rep.cutB {n : Nat} : ∀ {v : V} {d : D}, Rep K mg ρ H v d → Py.bel n d = true → Rep K mg (ρ.cut n) H v d
  | _, _, .non, _ => .non
  | _, _, .bl b, _ => .bl b
  | _, _, .int i, _ => .int i
  | _, _, .str x, _ => .str x
  | _, _, .tup h z r, q => .tup h.cut z (RepAll.cutB r (by rw [Py.bel] at q; exact q))
  | _, _, .lst h z r, q => .lst h.cut z (RepAll.cutB r (by rw [Py.bel] at q; exact q))
  | _, _, .obj h o m e r, q => .obj h (Pl.cut_out o) m e (RepAll.cutB r (by rw [Py.bel] at q; exact q))
  | _, _, .ref h, q => .ref (by
    rw [Py.bel] at q
    show (ρ.hs.take n)[_]? = _
    rw [List.getElem?_take_of_lt (of_decide_eq_true q)]
    exact h)
theorem RepAll.cutB {n : Nat} : ∀ {vs : List V} {ds : List D}, RepAll K mg ρ H vs ds → belL n ds = true → RepAll K mg (ρ.cut n) H vs ds
  | _, _, .nil, _ => .nil
  | _, _, .cons a b, q => by
    rw [belL_cons, Bool.and_eq_true] at q
    exact .cons (Rep.cutB a q.1) (RepAll.cutB b q.2)
end
theorem cut_nm {n k : Nat} {a : Addr} (nd : ρ.hs.Nodup) (hk : n ≤ k) (e : ρ.hs[k]? = some a) : a ∉ (ρ.cut n).hs := fun hm => by
  obtain ⟨j, hj, ej⟩ := List.getElem_of_mem hm
  have hj' : j < (ρ.hs.take n).length := hj
  rw [List.length_take] at hj'
  have e2 : ρ.hs[j]? = some a := by
    rw [← List.getElem?_take_of_lt (show j < n by omega)]
    exact (List.getElem?_eq_getElem hj).trans (congrArg some ej)
  obtain ⟨h1, e1'⟩ := List.getElem?_eq_some_iff.mp e2
  obtain ⟨h2, e2'⟩ := List.getElem?_eq_some_iff.mp e
  have := (List.getElem_inj nd).mp (e1'.trans e2'.symm)
  omega
mutual
theorem Rep.fz {n : Nat} (s : SOk K mg ρ H M) : ∀ {d d' : D}, FzR n M d d' → ∀ {v : V}, Rep K mg ρ H v d → Rep K mg (ρ.cut n) H v d'
  | _, _, .same b, _, r => r.cutB b
  | _, _, .tup a, _, r => by
    cases r with
    | tup h z r => exact .tup h.cut z (RepAll.fz s a r)
  | _, _, .lst a, _, r => by
    cases r with
    | lst h z r => exact .lst h.cut z (RepAll.fz s a r)
  | _, _, .obj a, _, r => by
    cases r with
    | obj h o m e r => exact .obj h (Pl.cut_out o) m e (RepAll.fz s a r)
  | _, _, .refL hk e a, _, r => by
    cases r with
    | ref h =>
      obtain ⟨vs, h1, z, r⟩ := s.at' _ _ _ e h
      exact .lst (.inl ⟨⟨cut_nm s.nd hk h, fun hm => (s.hd _ hm).2 (List.mem_of_getElem? h)⟩, .inl h1⟩) z (RepAll.fz s a r)
  | _, _, .refI hk e a, _, r => by
    cases r with
    | ref h =>
      obtain ⟨C, dx, ws, h1, m, z, r⟩ := s.at' _ _ _ e h
      exact .obj h1 ⟨cut_nm s.nd hk h, fun hm => (s.hd _ hm).2 (List.mem_of_getElem? h)⟩ m z (RepAll.fz s a r)
theorem RepAll.fz {n : Nat} (s : SOk K mg ρ H M) : ∀ {ds es : List D}, FzA n M ds es → ∀ {vs : List V}, RepAll K mg ρ H vs ds → RepAll K mg (ρ.cut n) H vs es
  | _, _, .nil, _, r => by
    cases r
    exact .nil
  | _, _, .cons a b, _, r => by
    cases r with
    | cons r1 r2 => exact .cons (Rep.fz s a r1) (RepAll.fz s b r2)
end
theorem ObRep.fz {n : Nat} (s : SOk K mg ρ H M) {a : Addr} {o o' : O} (f : FzO n M o o') (h : ObRep K mg ρ H a o) : ObRep K mg (ρ.cut n) H a o' := by
  cases f with
  | same b =>
    cases o with
    | lst xs => obtain ⟨vs, h, z, r⟩ := h; exact ⟨vs, h, z, r.cutB b⟩
    | dK xs => obtain ⟨vs, h, z, r⟩ := h; exact ⟨vs, h, z, r.cutB b⟩
    | dT xs => obtain ⟨vs, h, z, r⟩ := h; exact ⟨vs, h, z, r.cutB b⟩
    | ins c fs => obtain ⟨C, dx, ws, h, m, z, r⟩ := h; exact ⟨C, dx, ws, h, m, z, r.cutB b⟩
  | lst f => obtain ⟨vs, h, z, r⟩ := h; exact ⟨vs, h, z, RepAll.fz s f r⟩
  | dK e f => obtain ⟨vs, h, z, r⟩ := h; exact ⟨vs, h, z.trans e, RepAll.fz s f r⟩
  | dT e f => obtain ⟨vs, h, z, r⟩ := h; exact ⟨vs, h, z.trans e, RepAll.fz s f r⟩
  | ins e f => obtain ⟨C, dx, ws, h, m, z, r⟩ := h; exact ⟨C, dx, ws, h, m, z.trans e, RepAll.fz s f r⟩
theorem SOk.cut {n : Nat} (s : SOk K mg ρ H M) (c : Cut n M M') : SOk K mg (ρ.cut n) H M' := by
  refine ⟨?_, List.Nodup.sublist (List.take_sublist n ρ.hs) s.nd, fun a ha => ⟨(s.hd a ha).1, fun z => (s.hd a ha).2 (List.mem_of_mem_take z)⟩, fun k o' a e1 e2 => ?_⟩
  · show (ρ.hs.take n).length = _
    rw [List.length_take, s.len, c.len]
    exact Nat.min_eq_left c.le
  · have hk : k < n := by rw [← c.len]; exact (List.getElem?_eq_some_iff.mp e1).1
    have e2' : (ρ.hs.take n)[k]? = some a := e2
    rw [List.getElem?_take_of_lt hk] at e2'
    have hk' : k < M.length := Nat.lt_of_lt_of_le hk c.le
    exact (s.at' k M[k] a (List.getElem?_eq_getElem hk') e2').fz s (c.at' k _ _ hk (List.getElem?_eq_getElem hk') e1)
end

/-- what r' tells of r: the same; or what is made within is let go -/
def Sim (M : Store) (r r' : Res D) : Prop := r' = .no ∨ r' = r ∨ (∃ d M1 d' M1', r = .ok d M1 ∧ r' = .ok d' M1' ∧ FzR M.length M1 d d' ∧ Cut M.length M1 M1') ∨
  ∃ x M1 x' M1', r = .ex x M1 ∧ r' = .ex x' M1' ∧ x.c = x'.c ∧ x.fs.map (·.1) = x'.fs.map (·.1) ∧ FzA M.length M1 (x.fs.map (·.2)) (x'.fs.map (·.2)) ∧ Cut M.length M1 M1'
section
variable {P : Program} {w : World} {K : PySem.W.Frag} {mg : Str → Option Value} {base : Heap} {k : Nat} {f : Addr} {fd : FuncData} {ps : List Str}
theorem Step.cut {ρ ρ' : Pl} {H H' : Hp} (s : Step ρ H ρ' H') : Step ρ H (ρ'.cut ρ.hs.length) H' ∧ ρ'.cut ρ.hs.length = ρ := by
  obtain ⟨n, rfl, hn⟩ := s.ext
  have e : (Pl.mk (ρ.hs ++ n) ρ.hid).cut ρ.hs.length = ρ := by
    show Pl.mk ((ρ.hs ++ n).take ρ.hs.length) ρ.hid = ρ
    rw [List.take_left]
  refine ⟨?_, e⟩
  rw [e]
  exact ⟨⟨[], by simp, by simp⟩, s.keep, s.dom⟩
theorem fn_spec {r m : MF} {n : Nat} (F : FnOk P w K mg base (L2.CX P w) k f fd ps (spD K mg r n)) (h : ∀ ds M, ds.length = n → belL M.length ds = true → (∀ o ∈ M, belO M.length o = true) → Sim M (r ds M) (m ds M)) :
    FnOk P w K mg base (L2.CX P w) k f fd ps (spD K mg m n) := by
  refine F.imp fun vs H Q E ⟨hl, ρ, M, ds, rr, so, q⟩ => ⟨hl, ρ, M, ds, rr, so, ?_⟩
  rcases h ds M (by rw [← rr.length]; exact hl) (by rw [← so.len]; exact rr.bel) so.bel with e | e | ⟨d, M1, d', M1', e1, e2, fz, ct⟩ | ⟨x, M1, x', M1', e1, e2, ec, en, fz, ct⟩
  · rw [e] at q; exact q.elim
  · rw [e] at q; exact q
  · rw [e2] at q
    rw [e1]
    intro v ρ1 H1 s1 o1 r1
    obtain ⟨st, ee⟩ := s1.cut
    have r2 := r1.fz o1 fz
    have o2 := o1.cut ct
    rw [← so.len, ee] at r2 o2
    rw [ee] at st
    exact q v ρ H1 st o2 r2
  · rw [e2] at q
    rw [e1]
    rintro cls dd ρ1 H1 s1 o1 ⟨C, a, ws, c1, c2, c3, c4, c5, c6, c7⟩
    obtain ⟨st, ee⟩ := s1.cut
    have r2 := RepAll.fz o1 fz c7
    have o2 := o1.cut ct
    have out := Pl.cut_out (n := ρ.hs.length) c4
    rw [← so.len, ee] at r2 o2
    rw [ee] at st out
    exact q cls dd ρ H1 st o2 ⟨C, a, ws, c1, by rw [← ec]; exact c2, c3, out, c5, c6.trans en, r2⟩

/-! ### a def's body -/
def mFn (N n : Nat) (f : SF) : MF := fun ds M => match f (ds.map some ++ List.replicate (N - n) none) M with
  | .nx _ M1 => .ok .non M1
  | .rt d M1 => .ok d M1
  | .ex x _ M1 => .ex x M1
  | _ => .no
theorem en_start {ρ : Pl} {H : Hp} {N : List Str} {vs : List V} {ds : List D} (r : RepAll K mg ρ H vs ds) : EnRep K mg ρ H (L2.start N vs) (ds.map some ++ List.replicate (N.length - vs.length) none) := by
  unfold L2.start
  refine ⟨by simp [r.length], fun i d h => ?_⟩
  by_cases hi : i < ds.length
  · rw [List.getElem?_append_left (by rw [List.length_map]; exact hi), List.getElem?_map, List.getElem?_eq_getElem hi] at h
    have e : ds[i] = d := by simpa using h
    obtain ⟨v, h1, h2⟩ := r.get (i := i) (d := d) (by rw [List.getElem?_eq_getElem hi, e])
    exact ⟨v, by rw [List.getElem?_append_left (by rw [List.length_map]; exact (List.getElem?_eq_some_iff.mp h1).1), List.getElem?_map, h1] <;> rfl, h2⟩
  · rw [List.getElem?_append_right (by rw [List.length_map]; omega)] at h
    have := List.mem_of_getElem? h
    rw [List.mem_replicate] at this
    cases this.2
theorem fn_body {x qual : Str} {st : Stmt} {N : List Str} {sf : SF} (F : Fun K x qual st f fd) (S : FnScope N ps (defScope st))
    (hb : ∀ (cdv : Value) (A : Around) (outer : List Env) (s : Shared) (H : Hp) (E : XK), Room k (A.deeper (envOfC qual (defScope st) s.heap.objs.size f cdv)) →
      PSs (cxOf (L2.CX P w) P w K mg base N qual (defScope st) f cdv A outer s H E) (defBody st) (tS K mg (fun c d _ H => E c d H) sf)) :
    FnOk P w K mg base (L2.CX P w) (k + 1) f fd ps (spD K mg (mFn N.length ps.length sf) ps.length) := by
  refine F.okX S (fun vs H Q E h => h.1) (fun cdv A outer s H vs Q E hr h => ⟨_, hb cdv A outer s H E hr, ?_⟩)
  obtain ⟨hl, ρ, M, ds, r, so, q⟩ := h
  refine ⟨ds.map some ++ List.replicate (N.length - vs.length) none, ρ, M, en_start r, so, ?_⟩
  rw [hl]
  unfold mFn at q
  cases z : sf (ds.map some ++ List.replicate (N.length - ps.length) none) M with
  | nx e M1 => rw [z] at q; exact fun σ' ρ' H' s1 o1 _ => q .non ρ' H' s1 o1 .non
  | rt d M1 => rw [z] at q; exact q
  | ex y e M1 => rw [z] at q; exact fun cls dd σ' ρ' H' s1 o1 _ r1 => q cls dd ρ' H' s1 o1 r1
  | bk e M1 => rw [z] at q; exact q.elim
  | ct e M1 => rw [z] at q; exact q.elim
  | no => rw [z] at q; exact q.elim
end
end Py
set_option Elab.async false
set_option linter.all false
set_option maxRecDepth 100000
set_option maxHeartbeats 2000000
/-! # Stores to several names, to places, to attributes; attributes; methods and making of own classes -/
namespace Py
open PySem PySem.Spec PyProof.Rows L2

section
variable {X : Cx} {W : WX} {mg : Str → Option Value} {pos : Pos}
/-! ### targets of any form -/
/-- target = value, by the target's own function -/
def sAsg (f : EF) (g : GF) : SF := fun e M => match f e M with
  | .ok d M1 => match g d e with
    | some e1 => .nx e1 M1
    | none => .no
  | .ex x M1 => .ex x e M1
  | .no => .no
theorem rs_asg {K : PySem.W.Frag} {tg e : Expr} {f : EF} {t : TG} {g : GF} {vs : List Nat} (he : PE X e (tE K mg W f)) (hg : PG X tg t) (ht : TgOk K mg vs t g) (hs : swapsWithSole [tg] e pos.line X.env = pure false := by rfl)
    (hw : swappedStores [tg] e X.env = pure none := by rfl) (h1 : (assignEach [tg] X.env).map (·.2) = [assign tg X.env] := by rfl) : PS X (.Assign [tg] e pos) (tS K mg W (sAsg f g)) := by
  refine psImp (ps_asg he hg hs hw h1) fun D σ H ⟨e, ρ, M, hen, hs, h⟩ => ⟨e, ρ, M, hen, hs, AftS.ofE hen h fun d M1 v ρ1 H1 s1 o1 r1 h1 => ?_⟩
  cases z : g d e with
  | none => rw [z] at h1; exact h1.elim
  | some e1 =>
    rw [z] at h1
    exact ht.go ρ1 H1 σ e v d e1 _ (hen.step s1) r1 z fun σ' he' _ => h1 σ' ρ1 H1 Step.refl o1 he'
/-- a, b = x, y and a, b, c = x, y, z with plain local names -/
def sPar (is : List Nat) (g : AF) : SF := fun e M => match g e M with
  | .ok ds M1 => if ds.length = is.length then .nx ((is.zip ds).foldl (fun e p => e.set p.1 (some p.2)) e) M1 else .no
  | .ex x M1 => .ex x e M1
  | .no => .no
theorem AftS.ofA {K : PySem.W.Frag} {f : AF} {e : En} {M : Store} {ρ : Pl} {H : Hp} {σ : L2.St} {N : Ends} {k : List D → Store → SR} {Q : List V → Hp → Prop} (he : EnRep K mg ρ H σ e)
    (h : AftS K mg (match f e M with | .ok d M1 => k d M1 | .ex x M1 => .ex x e M1 | .no => .no) ρ H N W)
    (q : ∀ d M1 v ρ1 H1, Step ρ H ρ1 H1 → SOk K mg ρ1 H1 M1 → RepAll K mg ρ1 H1 v d → AftS K mg (k d M1) ρ1 H1 N W → Q v H1) : Aft K mg (RepAll K mg) (f e M) ρ H (WE W σ) Q := by
  cases z : f e M with
  | ok d M1 =>
    rw [z] at h
    exact fun v ρ1 H1 s1 o1 r1 => q d M1 v ρ1 H1 s1 o1 r1 (AftS.step h s1)
  | ex x M1 =>
    rw [z] at h
    exact fun cls dd ρ1 H1 s1 o1 r1 => h cls dd σ ρ1 H1 s1 o1 (he.step s1) r1
  | no => rw [z] at h; exact h
theorem rs_par {K : PySem.W.Frag} {i j : Nat} {x y : Str} {a b : Expr} {g : AF} {px py pt : Pos} {kt k2 : Nat} {pt2 : Pos} (hc : X.calm = true) (hN : X.N.Nodup) (hi : X.N[i]? = some x) (hj : X.N[j]? = some y) (hij : i ≠ j)
    (hx : X.env.scope.names.lookup x = some .local) (hy : X.env.scope.names.lookup y = some .local) (ha : PA X [a, b] (tA K mg W g))
    (hw : swappedStores [.Tuple [.Name x px, .Name y py] kt pt] (.Tuple [a, b] k2 pt2) X.env = pure (some [x, y]))
    (hs : swapsWithSole [.Tuple [.Name x px, .Name y py] kt pt] (.Tuple [a, b] k2 pt2) pos.line X.env = pure false := by rfl) :
    PS X (.Assign [.Tuple [.Name x px, .Name y py] kt pt] (.Tuple [a, b] k2 pt2) pos) (tS K mg W (sPar [i, j] g)) := by
  refine psImp (ps_par hc hN hi hj hij hx hy ha hw hs) fun D σ H ⟨e, ρ, M, hen, hs, h⟩ => ⟨e, ρ, M, hen, hs, AftS.ofA hen h fun ds M1 vs ρ1 H1 s1 o1 r1 h1 => ?_⟩
  cases r1 with
  | nil => exact h1.elim
  | cons r1 r2 =>
    cases r2 with
    | nil => exact h1.elim
    | cons r2 r3 =>
      cases r3 with
      | cons _ _ =>
        rw [if_neg (by simp)] at h1
        exact h1.elim
      | nil => exact ⟨_, _, rfl, h1 _ ρ1 H1 Step.refl o1 (((hen.step s1).set r1).set r2)⟩
theorem rs_par3 {K : PySem.W.Frag} {i j l : Nat} {x y z : Str} {a b c : Expr} {g : AF} {px py pz pt : Pos} {kt k2 : Nat} {pt2 : Pos} (hc : X.calm = true) (hN : X.N.Nodup) (hi : X.N[i]? = some x) (hj : X.N[j]? = some y) (hl : X.N[l]? = some z)
    (hij : i ≠ j) (hil : i ≠ l) (hjl : j ≠ l) (hx : X.env.scope.names.lookup x = some .local) (hy : X.env.scope.names.lookup y = some .local) (hz : X.env.scope.names.lookup z = some .local) (ha : PA X [a, b, c] (tA K mg W g))
    (hw : swappedStores [.Tuple [.Name x px, .Name y py, .Name z pz] kt pt] (.Tuple [a, b, c] k2 pt2) X.env = pure (some [x, y, z]))
    (hs : swapsWithSole [.Tuple [.Name x px, .Name y py, .Name z pz] kt pt] (.Tuple [a, b, c] k2 pt2) pos.line X.env = pure false := by rfl) :
    PS X (.Assign [.Tuple [.Name x px, .Name y py, .Name z pz] kt pt] (.Tuple [a, b, c] k2 pt2) pos) (tS K mg W (sPar [i, j, l] g)) := by
  refine psImp (ps_par3 hc hN hi hj hl hij hil hjl hx hy hz ha hw hs) fun D σ H ⟨e, ρ, M, hen, hs, h⟩ => ⟨e, ρ, M, hen, hs, AftS.ofA hen h fun ds M1 vs ρ1 H1 s1 o1 r1 h1 => ?_⟩
  cases r1 with
  | nil => exact h1.elim
  | cons r1 r2 =>
    cases r2 with
    | nil => exact h1.elim
    | cons r2 r3 =>
      cases r3 with
      | nil => exact h1.elim
      | cons r3 r4 =>
        cases r4 with
        | cons _ _ =>
          rw [if_neg (by simp)] at h1
          exact h1.elim
        | nil => exact ⟨_, _, _, rfl, h1 _ ρ1 H1 Step.refl o1 ((((hen.step s1).set r1).set r2).set r3)⟩

/-! ### o[i] = value -/
abbrev FSet := Store → D → D → D → Option Store
def rsD (K : PySem.W.Frag) (mg : Str → Option Value) (F : FSet) : TSet := fun o i v H Q => ∃ ρ M d e z M', SOk K mg ρ H M ∧ Rep K mg ρ H o d ∧ Rep K mg ρ H i e ∧ Rep K mg ρ H v z ∧ F M d e z = some M' ∧ ∀ ρ' H', Step ρ H ρ' H' → SOk K mg ρ' H' M' → Q H'
/-- the value first, then the object, then the place -/
def sSub (F : FSet) (fv fo fi : EF) : SF := fun e M => match (fv e M).bind (fun v M1 => (fo e M1).bind fun o M2 => (fi e M2).bind fun i M3 => Res.opt ((F M3 o i v).map fun M4 => (o, M4)) M3) with
  | .ok p _ => .nx e p.2
  | .ex x M1 => .ex x e M1
  | .no => .no
theorem rs_sub {K : PySem.W.Frag} {o i e : Expr} {F : FSet} {fv fo fi : EF} {tpos : Pos} (ho : PE X o (tE K mg W fo)) (hi : PE X i (tE K mg W fi)) (he : PE X e (tE K mg W fv)) (hF : PSet X (rsD K mg F))
    (ha : ∀ v, assign (.Subscript o i tpos) X.env v = (do
      let ov ← holding [v] (eval o X.env)
      let iv ← holding [v, ov] (eval i X.env)
      standAt tpos
      holding [v, ov, iv] (setItem ov iv v)
      release [v, ov, iv] []) := by intro _; rfl)
    (hs : swapsWithSole [.Subscript o i tpos] e pos.line X.env = pure false := by rfl) (hw : swappedStores [.Subscript o i tpos] e X.env = pure none := by rfl)
    (h1 : (assignEach [.Subscript o i tpos] X.env).map (·.2) = [assign (.Subscript o i tpos) X.env] := by rfl) : PS X (.Assign [.Subscript o i tpos] e pos) (tS K mg W (sSub F fv fo fi)) := by
  refine psImp (ps_asg he (pg_sub ho hi hF ha) hs hw h1) fun D σ H ⟨e, ρ, M, hen, hs, h⟩ => ⟨e, ρ, M, hen, hs, ?_⟩
  unfold sSub at h
  have hx : ∀ {α : Type} {r : Res α} {k : α → Store → SR} {ρ : Pl} {H : Hp}, EnRep K mg ρ H σ e → AftS K mg (match r with | .ok p M1 => k p M1 | .ex x M1 => .ex x e M1 | .no => .no) ρ H D W →
      Aft K mg (fun _ _ (_ : Unit) (_ : α) => True) r ρ H (WE W σ) (fun _ _ => True) := by
    intro α r k ρ H he h
    cases r with
    | ok p M1 => exact fun _ _ _ _ _ _ => trivial
    | ex x M1 => exact fun cls dd ρ1 H1 s1 o1 r1 => h cls dd σ ρ1 H1 s1 o1 (he.step s1) r1
    | no => exact h
  cases q : fv e M with
  | ex x M1 => rw [q] at h; exact fun cls dd ρ1 H1 s1 o1 r1 => h cls dd σ ρ1 H1 s1 o1 (hen.step s1) r1
  | no => rw [q] at h; exact h
  | ok v M1 =>
    rw [q] at h
    intro vv ρ1 H1 s1 o1 r1
    refine ⟨e, ρ1, M1, hen.step s1, o1, ?_⟩
    have h := AftS.step h s1
    have he1 := hen.step s1
    change AftS K mg (match (fo e M1).bind (fun o M2 => (fi e M2).bind fun i M3 => Res.opt ((F M3 o i v).map fun M4 => (o, M4)) M3) with
      | .ok p _ => .nx e p.2
      | .ex x M1 => .ex x e M1
      | .no => .no) ρ1 H1 D W at h
    cases q2 : fo e M1 with
    | ex x M2 => rw [q2] at h; exact fun cls dd ρ2 H2 s2 o2 r2 => h cls dd σ ρ2 H2 s2 o2 (he1.step s2) r2
    | no => rw [q2] at h; exact h
    | ok o M2 =>
      rw [q2] at h
      intro ov ρ2 H2 s2 o2 r2
      refine ⟨e, ρ2, M2, he1.step s2, o2, ?_⟩
      have h := AftS.step h s2
      have he2 := he1.step s2
      change AftS K mg (match (fi e M2).bind (fun i M3 => Res.opt ((F M3 o i v).map fun M4 => (o, M4)) M3) with
        | .ok p _ => .nx e p.2
        | .ex x M1 => .ex x e M1
        | .no => .no) ρ2 H2 D W at h
      cases q3 : fi e M2 with
      | ex x M3 => rw [q3] at h; exact fun cls dd ρ3 H3 s3 o3 r3 => h cls dd σ ρ3 H3 s3 o3 (he2.step s3) r3
      | no => rw [q3] at h; exact h
      | ok i M3 =>
        rw [q3] at h
        intro iv ρ3 H3 s3 o3 r3
        have h := AftS.step h s3
        change AftS K mg (match Res.opt ((F M3 o i v).map fun M4 => (o, M4)) M3 with
          | .ok p _ => .nx e p.2
          | .ex x M1 => .ex x e M1
          | .no => .no) ρ3 H3 D W at h
        cases q4 : F M3 o i v with
        | none => rw [q4] at h; exact h.elim
        | some M4 =>
          rw [q4] at h
          refine ⟨ρ3, M3, o, i, v, M4, o3, r2.step s3, r3, (r1.step s2).step s3, q4, fun ρ4 H4 s4 o4 => ?_⟩
          exact h σ ρ4 H4 s4 o4 ((he2.step s3).step s4)
end
end Py
set_option Elab.async false
set_option linter.all false
set_option maxRecDepth 100000
set_option maxHeartbeats 2000000
/-! # op= ; attributes; methods and making of own classes -/
namespace Py
open PySem PySem.Spec PyProof.Rows L2

def ripD (K : PySem.W.Frag) (mg : Str → Option Value) (F : FN) : TIp := fun x y H Q => rcD K mg F [x, y] H Q
/-- the end of a chain of expressions in a statement -/
def fin {α : Type} (e : En) (k : α → Store → SR) (r : Res α) : SR := match r with
  | .ok a M => k a M
  | .ex x M => .ex x e M
  | .no => .no
def sAug (i : Nat) (F : FN) (f : EF) : SF := fun e M => match e[i]? with
  | some (some x) => fin e (fun z M2 => .nx (e.set i (some z)) M2) ((f e M).bind fun y M1 => Res.ofO (F M1 [x, y]))
  | _ => .no
/-- o[i] op= value -/
def sAugS (G : F2) (F : FN) (S : FSet) (fo fi fv : EF) : SF := fun e M => fin e (fun (p : D × Store) _ => .nx e p.2) ((fo e M).bind fun o M1 => (fi e M1).bind fun i M2 => match G M2 o i with
    | some x => (fv e M2).bind fun y M3 => (Res.ofO (F M3 [x, y])).bind fun z M4 => Res.opt ((S M4 o i z).map fun M5 => (D.non, M5)) M4
    | none => .no)
section
variable {K : PySem.W.Frag} {mg : Str → Option Value} {W : WX} {α β γ : Type} {R : Pl → Hp → β → α → Prop} {e : En} {ρ : Pl} {H : Hp} {σ : L2.St} {N : Ends}
theorem finBind {r : Res α} {f : α → Store → Res γ} {k : γ → Store → SR} {Q : β → Hp → Prop} (he : EnRep K mg ρ H σ e) (h : AftS K mg (fin e k (r.bind f)) ρ H N W)
    (q : ∀ d M1 v ρ1 H1, Step ρ H ρ1 H1 → SOk K mg ρ1 H1 M1 → R ρ1 H1 v d → EnRep K mg ρ1 H1 σ e → AftS K mg (fin e k (f d M1)) ρ1 H1 N W → Q v H1) : Aft K mg R r ρ H (WE W σ) Q := by
  cases r with
  | ok d M1 => exact fun v ρ1 H1 s1 o1 r1 => q d M1 v ρ1 H1 s1 o1 r1 (he.step s1) (AftS.step h s1)
  | ex x M1 => exact fun cls dd ρ1 H1 s1 o1 r1 => h cls dd σ ρ1 H1 s1 o1 (he.step s1) r1
  | no => exact h
theorem finGo {r : Res α} {k : α → Store → SR} {Q : β → Hp → Prop} (he : EnRep K mg ρ H σ e) (h : AftS K mg (fin e k r) ρ H N W)
    (q : ∀ d M1 v ρ1 H1, Step ρ H ρ1 H1 → SOk K mg ρ1 H1 M1 → R ρ1 H1 v d → EnRep K mg ρ1 H1 σ e → AftS K mg (k d M1) ρ1 H1 N W → Q v H1) : Aft K mg R r ρ H (WE W σ) Q := by
  cases r with
  | ok d M1 => exact fun v ρ1 H1 s1 o1 r1 => q d M1 v ρ1 H1 s1 o1 r1 (he.step s1) (AftS.step h s1)
  | ex x M1 => exact fun cls dd ρ1 H1 s1 o1 r1 => h cls dd σ ρ1 H1 s1 o1 (he.step s1) r1
  | no => exact h
/-- a value's operation at a statement's end -/
theorem finO {F : FN} {M : Store} {xs : List V} {ds : List D} {k : D → Store → SR} {Q : VK} (he : EnRep K mg ρ H σ e) (o : SOk K mg ρ H M) (r : RepAll K mg ρ H xs ds) (h : AftS K mg (fin e k (Res.ofO (F M ds))) ρ H N W)
    (q : ∀ d M1 v ρ1 H1, Step ρ H ρ1 H1 → SOk K mg ρ1 H1 M1 → Rep K mg ρ1 H1 v d → EnRep K mg ρ1 H1 σ e → AftS K mg (k d M1) ρ1 H1 N W → Q v H1) : rcD K mg F xs H Q := by
  cases z : F M ds with
  | none => rw [z] at h; exact h.elim
  | some p =>
    obtain ⟨d, M1⟩ := p
    rw [z] at h
    exact ⟨ρ, M, ds, d, M1, o, r, z, fun v ρ1 H1 s1 o1 r1 => q d M1 v ρ1 H1 s1 o1 r1 (he.step s1) (AftS.step h s1)⟩
end
section
variable {X : Cx} {W : WX} {K : PySem.W.Frag} {mg : Str → Option Value} {pos tpos : Pos} {x : Str} {o i e : Expr}
theorem rs_aug {n : Nat} {op : Operator} {F : FN} {f : EF} {pos' : Pos} (hN : X.N.Nodup) (hi : X.N[n]? = some x) (hx : Loc X.env.scope x) (he : PE X e (tE K mg W f)) (ho : PIp X op (ripD K mg F))
    (hf : X.fn x = true ∨ X.env.scope.names.lookup x = some .local := by first | exact .inl rfl | exact .inr rfl | assumption) : PS X (.AugAssign (.Name x pos') op e pos) (tS K mg W (sAug n F f)) := by
  refine psImp (ps_aug hN hi hx he ho hf) fun D σ H ⟨e, ρ, M, hen, hs, h⟩ => ?_
  unfold sAug at h
  cases q : e[n]? with
  | none => rw [q] at h; exact h.elim
  | some y =>
    cases y with
    | none => rw [q] at h; exact h.elim
    | some d =>
      rw [q] at h
      have h : AftS K mg (fin e (fun z M2 => .nx (e.set n (some z)) M2) ((f e M).bind fun y M1 => Res.ofO (F M1 [d, y]))) ρ H D W := h
      obtain ⟨v, a, b⟩ := hen.at' n d q
      refine ⟨v, a, e, ρ, M, hen, hs, finBind (k := fun z M2 => .nx (e.set n (some z)) M2) hen h fun y M1 yv ρ1 H1 s1 o1 r1 he1 h1 => ?_⟩
      exact finO he1 o1 (.cons (b.step s1) (.cons r1 .nil)) h1 fun z M2 zv ρ2 H2 s2 o2 r2 he2 h2 => h2 _ ρ2 H2 Step.refl o2 (he2.set r2)
theorem rs_augS {op : Operator} {G : F2} {F : FN} {S : FSet} {fo fi fv : EF} (ho : PE X o (tE K mg W fo)) (hi : PE X i (tE K mg W fi)) (hg : PGet X (r2D K mg G)) (he : PE X e (tE K mg W fv)) (hp : PIp X op (ripD K mg F)) (hs : PSet X (rsD K mg S))
    (ha : ∀ ov iv new, augStore i ov iv new = (do holding [new, ov, iv] (setItem ov iv new); release [new, ov, iv] []; pure .next) := by intros; rfl) :
    PS X (.AugAssign (.Subscript o i tpos) op e pos) (tS K mg W (sAugS G F S fo fi fv)) := by
  refine psImp (ps_augS ho hi hg he hp hs ha) fun D σ H ⟨e, ρ, M, hen, hs, h⟩ => ?_
  refine ⟨e, ρ, M, hen, hs, finBind (k := fun (p : Py.D × Store) _ => .nx e p.2) hen h fun od M1 ov ρ1 H1 s1 o1 r1 he1 h1 => ?_⟩
  refine ⟨e, ρ1, M1, he1, o1, finBind (k := fun (p : Py.D × Store) _ => .nx e p.2) he1 h1 fun id M2 iv ρ2 H2 s2 o2 r2 he2 h2 => ?_⟩
  have r1 := r1.step s2
  cases q : G M2 od id with
  | none => rw [q] at h2; exact h2.elim
  | some xd =>
    rw [q] at h2
    refine ⟨ρ2, M2, od, id, xd, o2, r1, r2, q, fun xv H3 s3 o3 rx => ?_⟩
    have he3 := he2.step s3
    have h3 := AftS.step h2 s3
    refine ⟨e, ρ2, M2, he3, o3, finBind (k := fun (p : Py.D × Store) _ => .nx e p.2) he3 h3 fun yd M4 yv ρ4 H4 s4 o4 r4 he4 h4 => ?_⟩
    have h4 : AftS K mg (fin e (fun zd M5 => fin e (fun (p : Py.D × Store) _ => .nx e p.2) (Res.opt ((S M5 od id zd).map fun M6 => (Py.D.non, M6)) M5)) (Res.ofO (F M4 [xd, yd]))) ρ4 H4 D W := by
      revert h4
      cases Res.ofO (F M4 [xd, yd]) <;> exact fun h => h
    refine finO he4 o4 (.cons (rx.step s4) (.cons r4 .nil)) h4 fun zd M5 zv ρ5 H5 s5 o5 r5 he5 h5 => ?_
    cases q2 : S M5 od id zd with
    | none => rw [q2] at h5; exact h5.elim
    | some M6 =>
      rw [q2] at h5
      exact ⟨ρ5, M5, od, id, zd, M6, o5, ((r1.step s3).step s4).step s5, ((r2.step s3).step s4).step s5, r5, q2, fun ρ6 H6 s6 o6 => h5 σ ρ6 H6 s6 o6 (he5.step s6)⟩

/-! ### attributes -/
/-- the class and the attributes of an instance -/
def insD (M : Store) : D → Option (Str × List (Str × D))
  | .ref k => match M[k]? with
    | some (.ins c fs) => some (c, fs)
    | _ => none
  | .obj c ns xs => if ns.length = xs.length then some (c, ns.zip xs) else none
  | _ => none
theorem zip_fst : ∀ {ns : List Str} {xs : List D}, ns.length = xs.length → (ns.zip xs).map (·.1) = ns ∧ (ns.zip xs).map (·.2) = xs
  | [], [], _ => ⟨rfl, rfl⟩
  | n :: ns, x :: xs, h => by
    have := zip_fst (ns := ns) (xs := xs) (by simpa using h)
    exact ⟨by rw [List.zip_cons_cons, List.map_cons, this.1], by rw [List.zip_cons_cons, List.map_cons, this.2]⟩
  | [], _ :: _, h => by simp at h
  | _ :: _, [], h => by simp at h
theorem insD_ok {M : Store} {ρ : Pl} {H : Hp} {v : V} {d : D} {c : Str} {fs : List (Str × D)} (s : SOk K mg ρ H M) (r : Rep K mg ρ H v d) (h : insD M d = some (c, fs)) :
    ∃ a C dx ws, v = .ref a ∧ H a = some (.ins C dx ws) ∧ mg c = some (.ref C) ∧ ws.map (·.1) = fs.map (·.1) ∧ RepAll K mg ρ H (ws.map (·.2)) (fs.map (·.2)) := by
  cases r with
  | @ref k a e =>
    have h : (match M[k]? with | some (.ins c fs) => some (c, fs) | _ => none) = some (c, fs) := h
    cases q : M[k]? with
    | none => rw [q] at h; cases h
    | some o =>
      rw [q] at h
      cases o with
      | ins c' fs' =>
        cases h
        obtain ⟨C, dx, ws, h1, m, z, r⟩ := s.at' k _ a q e
        exact ⟨a, C, dx, ws, rfl, h1, m, z, r⟩
      | _ => cases h
  | @obj a C dx c' ws ns ds h1 n m z r =>
    have h : (if ns.length = ds.length then some (c', ns.zip ds) else none) = some (c, fs) := h
    by_cases hl : ns.length = ds.length
    · rw [if_pos hl] at h
      cases h
      obtain ⟨e1, e2⟩ := zip_fst hl
      exact ⟨a, C, dx, ws, rfl, h1, m, by rw [z, e1], by rw [e2]; exact r⟩
    · rw [if_neg hl] at h; cases h
  | _ => cases h
theorem lookup_rep {ρ : Pl} {H : Hp} {f : Str} {d : D} : ∀ {ws : List (Str × V)} {fs : List (Str × D)}, ws.map (·.1) = fs.map (·.1) → RepAll K mg ρ H (ws.map (·.2)) (fs.map (·.2)) → fs.lookup f = some d → ∃ v, ws.lookup f = some v ∧ Rep K mg ρ H v d
  | _, [], _, _, h => by cases h
  | [], _ :: _, h, _, _ => by simp at h
  | (n, w) :: ws, (m, y) :: fs, e, r, h => by
    have e' : n = m ∧ ws.map (·.1) = fs.map (·.1) := by simpa using e
    obtain ⟨rfl, e2⟩ := e'
    cases r with
    | cons r1 r2 =>
      by_cases hf : f = n
      · subst hf
        rw [List.lookup_cons_self] at h ⊢
        cases h
        exact ⟨w, rfl, r1⟩
      · have hf' : (f == n) = false := by simpa using hf
        rw [List.lookup_cons, hf'] at h ⊢
        exact lookup_rep e2 r2 h
theorem lookup_none {f : Str} : ∀ {ws : List (Str × V)} {fs : List (Str × D)}, ws.map (·.1) = fs.map (·.1) → fs.lookup f = none → ws.lookup f = none
  | [], _, _, _ => rfl
  | _ :: _, [], h, _ => by simp at h
  | (n, w) :: ws, (m, y) :: fs, e, h => by
    have e' : n = m ∧ ws.map (·.1) = fs.map (·.1) := by simpa using e
    obtain ⟨rfl, e2⟩ := e'
    by_cases hf : f = n
    · subst hf
      rw [List.lookup_cons_self] at h
      cases h
    · have hf' : (f == n) = false := by simpa using hf
      rw [List.lookup_cons, hf'] at h ⊢
      exact lookup_none e2 h
/-- what the written part says of a class whose instances have the attribute f -/
def HasF (K : PySem.W.Frag) (mg : Str → Option Value) (c f : Str) : Prop := ∃ C, mg c = some (.ref C) ∧ Cls K C ∧ NoAttr K C f
def HasFs (K : PySem.W.Frag) (mg : Str → Option Value) (f : Str) : List Str → Prop
  | [] => True
  | c :: cs => HasF K mg c f ∧ HasFs K mg f cs
theorem HasFs.mem {f c : Str} : ∀ {cs : List Str}, HasFs K mg f cs → c ∈ cs → HasF K mg c f
  | [], _, h => by simp at h
  | d :: cs, h, m => by
    rcases List.mem_cons.mp m with e | m
    · rw [e]; exact h.1
    · exact HasFs.mem h.2 m
def fldD (cs : List Str) (f : Str) : F1 := fun M d => match insD M d with
  | some (c, fs) => if c ∈ cs then fs.lookup f else none
  | none => none
theorem r_fld {cs : List Str} {f : Str} {fe : EF} (hc : HasFs X.K mg f cs) (he : PE X e (tE X.K mg W fe)) (hb : attributeBase e f X.env (eval e X.env) = eval e X.env := by rfl) : PE X (.Attribute e f pos) (tE X.K mg W (eUn (fldD cs f) fe)) := by
  refine peImp (pe_fld he hb) fun σ H Q ⟨en, ρ, M, hen, hs, h⟩ => ⟨en, ρ, M, hen, hs, Aft.bind h fun d M1 v ρ1 H1 s1 o1 r1 h1 => ?_⟩
  have h1 : Aft X.K mg (Rep X.K mg) (match fldD cs f M1 d with | some z => .ok z M1 | none => .no) ρ1 H1 (WE W σ) Q := h1
  unfold fldD at h1
  cases q : insD M1 d with
  | none => rw [q] at h1; exact h1.elim
  | some p =>
    obtain ⟨c, fs⟩ := p
    rw [q] at h1
    dsimp only at h1
    by_cases hm : c ∈ cs
    · rw [if_pos hm] at h1
      cases q2 : fs.lookup f with
      | none => rw [q2] at h1; exact h1.elim
      | some z =>
        rw [q2] at h1
        obtain ⟨a, C, dx, ws, rfl, ha, m, z1, z2⟩ := insD_ok o1 r1 q
        obtain ⟨C', m', cl, na⟩ := hc.mem hm
        have : C' = C := by
          rw [m] at m'
          cases m'
          rfl
        subst this
        obtain ⟨zv, l1, l2⟩ := lookup_rep z1 z2 q2
        exact ⟨a, C', dx, ws, zv, rfl, ha, cl, na, l1, h1 zv ρ1 H1 Step.refl o1 l2⟩
    · rw [if_neg hm] at h1; exact h1.elim
/-- an attribute's new value -/
def putD (f : Str) (d : D) : List (Str × D) → List (Str × D)
  | [] => [(f, d)]
  | (n, w) :: fs => if n = f then (n, d) :: fs else (n, w) :: putD f d fs
theorem putD_rep {ρ : Pl} {H : Hp} {f : Str} {d : D} {v : V} (r : Rep K mg ρ H v d) : ∀ {ws : List (Str × V)} {fs : List (Str × D)}, ws.map (·.1) = fs.map (·.1) → RepAll K mg ρ H (ws.map (·.2)) (fs.map (·.2)) →
    (putF f v ws).map (·.1) = (putD f d fs).map (·.1) ∧ RepAll K mg ρ H ((putF f v ws).map (·.2)) ((putD f d fs).map (·.2))
  | [], [], _, _ => ⟨rfl, .cons r .nil⟩
  | [], _ :: _, h, _ => by simp at h
  | _ :: _, [], h, _ => by simp at h
  | (n, w) :: ws, (m, y) :: fs, e, h => by
    have e' : n = m ∧ ws.map (·.1) = fs.map (·.1) := by simpa using e
    obtain ⟨rfl, e2⟩ := e'
    cases h with
    | cons r1 r2 =>
      obtain ⟨i1, i2⟩ := putD_rep r e2 r2
      unfold putF putD
      by_cases hf : n = f
      · subst hf
        first
          | (simp only [if_pos, if_true, beq_self_eq_true]; exact ⟨by simp [e2], .cons r r2⟩)
          | (simp; exact ⟨e2, .cons r r2⟩)
      · have hf2 : ¬ f = n := fun z => hf z.symm
        first
          | (simp only [if_neg hf, if_neg hf2]; exact ⟨by simp [i1], .cons r1 i2⟩)
          | (simp [hf, hf2]; exact ⟨i1, .cons r1 i2⟩)
end
end Py
set_option Elab.async false
set_option linter.all false
set_option maxRecDepth 100000
set_option maxHeartbeats 2000000
/-! # Attributes stored; methods and making of own classes -/
namespace Py
open PySem PySem.Spec PyProof.Rows L2

/-- o.f = value, the value first; the object a handle -/
def setF (cs : List Str) (f : Str) (M : Store) (o v : D) : Option Store := match o with
  | .ref k => match M[k]? with
    | some (.ins c fs) => if c ∈ cs ∧ fs.length < 1000 then some (M.set k (.ins c (putD f v fs))) else none
    | _ => none
  | _ => none
def sFldS (cs : List Str) (f : Str) (fv fo : EF) : SF := fun e M => fin e (fun (p : D × Store) _ => .nx e p.2) ((fv e M).bind fun v M1 => (fo e M1).bind fun o M2 => Res.opt ((setF cs f M2 o v).map fun M3 => (D.non, M3)) M2)
/-- o.f op= value -/
def sFldAug (cs : List Str) (f : Str) (F : FN) (fo fv : EF) : SF := fun e M => fin e (fun (p : D × Store) _ => .nx e p.2) ((fo e M).bind fun o M1 => match insD M1 o with
    | some (c, fs) => if c ∈ cs then match fs.lookup f with
      | some x => (fv e M1).bind fun y M2 => (Res.ofO (F M2 [x, y])).bind fun z M3 => Res.opt ((setF [c] f M3 o z).map fun M4 => (D.non, M4)) M3
      | none => .no
      else .no
    | none => .no)
section
variable {X : Cx} {W : WX} {mg : Str → Option Value} {pos pos' tpos : Pos} {o e : Expr}
theorem setF_ok {K : PySem.W.Frag} {cs : List Str} {f : Str} {M M' : Store} {ρ : Pl} {H : Hp} {ov v : V} {od d : D} (hc : HasFs K mg f cs) (s : SOk K mg ρ H M) (r : Rep K mg ρ H ov od) (rv : Rep K mg ρ H v d) (h : setF cs f M od d = some M') :
    ∃ a C dx ws c, c ∈ cs ∧ mg c = some (.ref C) ∧ ov = .ref a ∧ H a = some (.ins C dx ws) ∧ Cls K C ∧ NoAttr K C f ∧ ws.length < 1000 ∧ Step ρ H ρ (upd H a (.ins C dx (putF f v ws))) ∧ SOk K mg ρ (upd H a (.ins C dx (putF f v ws))) M' := by
  cases r with
  | @ref k a e =>
    have h : (match M[k]? with | some (.ins c fs) => if c ∈ cs ∧ fs.length < 1000 then some (M.set k (.ins c (putD f d fs))) else none | _ => none) = some M' := h
    cases q : M[k]? with
    | none => rw [q] at h; cases h
    | some ob =>
      rw [q] at h
      cases ob with
      | ins c fs =>
        dsimp only at h
        by_cases hm : c ∈ cs ∧ fs.length < 1000
        · rw [if_pos hm] at h
          cases h
          obtain ⟨C, dx, ws, h1, m, z, r⟩ := s.at' k _ a q e
          obtain ⟨C', m', cl, na⟩ := hc.mem hm.1
          have : C' = C := by
            rw [m] at m'
            cases m'
            rfl
          subst this
          have st : Step ρ H ρ (upd H a (.ins C' dx (putF f v ws))) := Step.write (List.mem_of_getElem? e)
          obtain ⟨p1, p2⟩ := putD_rep rv z r
          have hl : ws.length < 1000 := by
            have := congrArg List.length z
            rw [List.length_map, List.length_map] at this
            rw [this]; exact hm.2
          exact ⟨a, C', dx, ws, c, hm.1, m, rfl, h1, cl, na, hl, st, s.write e ⟨C', dx, _, upd_same, m, p1, p2.step st⟩⟩
        · rw [if_neg hm] at h; cases h
      | _ => cases h
  | _ => cases h
theorem rs_fldS {cs : List Str} {f : Str} {fv fo : EF} (hc : HasFs X.K mg f cs) (ho : PE X o (tE X.K mg W fo)) (hv : PE X e (tE X.K mg W fv)) (hs : swapsWith e (some (.Attribute o f pos')) pos.line X.env = pure false := by rfl) :
    PS X (.Assign [.Attribute o f pos'] e pos) (tS X.K mg W (sFldS cs f fv fo)) := by
  refine psImp (ps_fld ho hv hs) fun D σ H ⟨e, ρ, M, hen, hs, h⟩ => ?_
  refine ⟨e, ρ, M, hen, hs, finBind (k := fun (p : Py.D × Store) _ => .nx e p.2) hen h fun vd M1 v ρ1 H1 s1 o1 r1 he1 h1 => ?_⟩
  refine ⟨e, ρ1, M1, he1, o1, finBind (k := fun (p : Py.D × Store) _ => .nx e p.2) he1 h1 fun od M2 ov ρ2 H2 s2 o2 r2 he2 h2 => ?_⟩
  cases q : setF cs f M2 od vd with
  | none => rw [q] at h2; exact h2.elim
  | some M3 =>
    rw [q] at h2
    obtain ⟨a, C, dx, ws, c, _, _, e1, e2, cl, na, hl, st, o3⟩ := setF_ok hc o2 r2 (r1.step s2) q
    exact ⟨a, C, dx, ws, e1, e2, cl, na, hl, h2 σ ρ2 _ st o3 (he2.step st)⟩
theorem rs_fldAug {cs : List Str} {f : Str} {op : Operator} {F : FN} {fv fo : EF} (hc : HasFs X.K mg f cs) (ho : PE X o (tE X.K mg W fo)) (hv : PE X e (tE X.K mg W fv)) (hp : InOp X op (ripD X.K mg F)) :
    PS X (.AugAssign (.Attribute o f tpos) op e pos) (tS X.K mg W (sFldAug cs f F fo fv)) := by
  refine psImp (ps_fldaug ho hv hp) fun D σ H ⟨e, ρ, M, hen, hs, h⟩ => ?_
  refine ⟨e, ρ, M, hen, hs, finBind (k := fun (p : Py.D × Store) _ => .nx e p.2) hen h fun od M1 ov ρ1 H1 s1 o1 r1 he1 h1 => ?_⟩
  cases q : insD M1 od with
  | none => rw [q] at h1; exact h1.elim
  | some p =>
    obtain ⟨c, fs⟩ := p
    rw [q] at h1
    dsimp only at h1
    by_cases hm : c ∈ cs
    · rw [if_pos hm] at h1
      cases q2 : fs.lookup f with
      | none => rw [q2] at h1; exact h1.elim
      | some xd =>
        rw [q2] at h1
        obtain ⟨a, C, dx, ws, rfl, ha, m, z1, z2⟩ := insD_ok o1 r1 q
        obtain ⟨C', m', cl, na⟩ := hc.mem hm
        have : C' = C := by
          rw [m] at m'
          cases m'
          rfl
        subst this
        obtain ⟨xv, l1, rx⟩ := lookup_rep z1 z2 q2
        refine ⟨a, C', dx, ws, xv, rfl, ha, cl, na, l1, ?_⟩
        refine ⟨e, ρ1, M1, he1, o1, finBind (k := fun (p : Py.D × Store) _ => .nx e p.2) he1 h1 fun yd M2 yv ρ2 H2 s2 o2 r2 he2 h2 => ?_⟩
        have h2 : AftS X.K mg (fin e (fun zd M3 => fin e (fun (p : Py.D × Store) _ => .nx e p.2) (Res.opt ((setF [c] f M3 od zd).map fun M4 => (Py.D.non, M4)) M3)) (Res.ofO (F M2 [xd, yd]))) ρ2 H2 D W := by
          revert h2
          cases Res.ofO (F M2 [xd, yd]) <;> exact fun h => h
        refine finO he2 o2 (.cons (rx.step s2) (.cons r2 .nil)) h2 fun zd M3 zv ρ3 H3 s3 o3 r3 he3 h3 => ?_
        cases q3 : setF [c] f M3 od zd with
        | none => rw [q3] at h3; exact h3.elim
        | some M4 =>
          rw [q3] at h3
          obtain ⟨a', C2, dx', ws', c2, hc2, m2, e1, e2, cl', na', hl, st, o4⟩ := setF_ok (cs := [c]) ⟨⟨C', m', cl, na⟩, trivial⟩ o3 ((r1.step s2).step s3) r3 q3
          cases e1
          rw [List.mem_singleton.mp hc2, m] at m2
          cases m2
          exact ⟨dx', ws', e2, hl, h3 σ ρ3 _ st o4 (he3.step st)⟩
    · rw [if_neg hm] at h1; exact h1.elim
end
end Py
set_option Elab.async false
set_option linter.all false
set_option maxRecDepth 100000
set_option maxHeartbeats 2000000
/-! # Methods of own classes, instances made -/
namespace Py
open PySem PySem.Spec PyProof.Rows L2

/-- o.m(..) where o is an instance of the class c -/
def eMeth (c m : Str) (mf : MF) (fo : EF) (g : AF) : EF := fun e M => (fo e M).bind fun o M1 => match insD M1 o with
  | some (c', fs) => if c' = c ∧ fs.lookup m = none then (g e M1).bind fun ds M2 => mf (o :: ds) M2 else .no
  | none => .no
section
variable {X : Cx} {W : WX} {mg : Str → Option Value} {pos apos : Pos} {o e : Expr} {es : List Expr} {k : Nat} {f C : Addr} {fd : FuncData} {ps : List Str} {n : Nat}
theorem meth_go {c m : Str} {mf : MF} {fo : EF} {g : AF} {σ : L2.St} {H : Hp} {Q : VK} (hm : mg c = some (.ref C)) (h : tE X.K mg W (eMeth c m (arity n mf) fo g) σ H Q) :
    tE X.K mg W fo σ H fun x H1 => ∃ a dx fs, x = .ref a ∧ H1 a = some (.ins C dx fs) ∧ fs.lookup m = none ∧ tA X.K mg W g σ H1 fun vs H2 => spD X.K mg mf n (x :: (vs ++ [])) H2 Q (WE W σ) := by
  obtain ⟨en, ρ, M, hen, hs, h⟩ := h
  refine ⟨en, ρ, M, hen, hs, Aft.bind h fun od M1 ov ρ1 H1 s1 o1 r1 h1 => ?_⟩
  cases q : insD M1 od with
  | none => rw [q] at h1; exact h1.elim
  | some p =>
    obtain ⟨c', fs⟩ := p
    rw [q] at h1
    dsimp only at h1
    by_cases hc : c' = c ∧ fs.lookup m = none
    · rw [if_pos hc] at h1
      obtain ⟨rfl, hl⟩ := hc
      obtain ⟨a, C', dx, ws, rfl, ha, hm', z1, z2⟩ := insD_ok o1 r1 q
      rw [hm] at hm'
      cases hm'
      refine ⟨a, dx, ws, rfl, ha, lookup_none z1 hl, en, ρ1, M1, hen.step s1, o1, Aft.bind h1 fun ds M2 vs ρ2 H2 s2 o2 r2 h2 => ?_⟩
      rw [List.append_nil]
      exact spD_of (.cons (r1.step s2) r2) o2 h2
    · rw [if_neg hc] at h1; exact h1.elim
theorem r_meth' {c m : Str} {mf : MF} {fo : EF} {g : AF} {pl : Sem Bool} (he : PE X o (tE X.K mg W fo)) (hmc : mg c = some (.ref C)) (cl : Cls X.K C) (hm : Meth X.K C m f) (F : FnOk X.prog X.w X.K X.mg X.base (L2.CX X.prog X.w) k f fd ps (spD X.K mg mf n)) (hr : Room k X.A)
    (hb : Binds X.K fd ps []) (tk : Takes X W) (ha : PA X (e :: es) (tA X.K mg W g))
    (hst : starEach (e :: es) X.env = (false, eval e X.env) :: starEach es X.env := by rfl) (hpl : (backTo pos (starEach es X.env)).any (·.1) = false := by rfl)
    (ht : eval (.Call (.Attribute o m apos) (e :: es) [] pos) X.env = (do
      let ov ← eval o X.env
      standAt apos.atName
      let (f, first) ← holding [ov] (getMethod ov m pl)
      callWith pos f first (backTo pos (starEach (e :: es) X.env)) (backToKw pos (keywordEach [] X.env))) := by rfl) :
    PE X (.Call (.Attribute o m apos) (e :: es) [] pos) (tE X.K mg W (eMeth c m (arity n mf) fo g)) := by
  refine ⟨fun pins s σ H Q I h => ?_⟩
  refine PySem.W.methodCall_KW (pl := pl) (thn (he.run pins s σ H _ I (meth_go hmc h)) fun u s1 ⟨x, H1, I1, rx, a, dx, fs, ex, ea, l, q⟩ => ?_) ht
  subst ex
  obtain rfl : u = Value.ref a := rx
  refine getmeth_ok I1 ea cl hm l ?_
  refine PySem.W.callWith_K (first := [.ref a]) (h₀ := X.base) I.ok.mod.kin hm.kp (thn (ha.run pos pins s1 σ H1 _ I1 q) fun us s2 ⟨vs, H2, I2, r, q2⟩ => ⟨I2.kIn, ?_⟩) hst hpl
  exact run_fnSD (E := WE W) (us := .ref a :: us) (vs := .ref a :: vs) F hr hb .nil (passAt tk σ) I2 (.cons rfl r) q2
theorem r_meth0' {c m : Str} {mf : MF} {fo : EF} {pl : Sem Bool} (he : PE X o (tE X.K mg W fo)) (hmc : mg c = some (.ref C)) (cl : Cls X.K C) (hm : Meth X.K C m f) (F : FnOk X.prog X.w X.K X.mg X.base (L2.CX X.prog X.w) k f fd ps (spD X.K mg mf n)) (hr : Room k X.A)
    (hb : Binds X.K fd ps []) (tk : Takes X W)
    (ht : eval (.Call (.Attribute o m apos) [] [] pos) X.env = (do
      let ov ← eval o X.env
      standAt apos.atName
      let (f, first) ← holding [ov] (getMethod ov m pl)
      callWith pos f first (backTo pos (starEach [] X.env)) (backToKw pos (keywordEach [] X.env))) := by rfl) :
    PE X (.Call (.Attribute o m apos) [] [] pos) (tE X.K mg W (eMeth c m (arity n mf) fo aNil)) := by
  refine ⟨fun pins s σ H Q I h => ?_⟩
  refine PySem.W.methodCall_KW (pl := pl) (thn (he.run pins s σ H _ I (meth_go hmc h)) fun u s1 ⟨x, H1, I1, rx, a, dx, fs, ex, ea, l, q⟩ => ?_) ht
  subst ex
  obtain rfl : u = Value.ref a := rx
  refine getmeth_ok I1 ea cl hm l ?_
  have q2 : spD X.K mg mf n [.ref a] H1 Q (WE W σ) := by
    obtain ⟨en, ρ, M, _, hs, h2⟩ := q
    exact h2 [] ρ H1 Step.refl hs .nil
  exact PySem.W.callWith_K0 (first := [.ref a]) I1.kIn hm.kp (run_fnSD (E := WE W) (us := [.ref a]) (vs := [.ref a]) F hr hb .nil (passAt tk σ) I1 (.cons rfl .nil) q2)
end

/-! ### C(..) -/
/-- the class at C makes instances by m -/
structure MkD (P : Program) (w : World) (K : PySem.W.Frag) (mg : Str → Option Value) (base : Heap) (k : Nat) (C : Addr) (m : MF) (n : Nat) : Prop where
  run : ∀ (X : Cx), X.prog = P → X.w = w → X.K = K → X.mg = mg → X.base = base → ∀ (W : WX), Takes X W → Room k X.A → ∀ (pins : List (Addr × Obj)) (σ : L2.St) (H : Hp) (s : Shared) (Q : VK) (us : List Value) (vs : List V), Inv X pins σ H s → Vals vs us →
    spD K mg m n vs H Q (WE W σ) → wpAny (model X.prog X.w) X.A (call (.ref C) us) (EP X pins σ Q) X.xe s
/-- a new instance, then __init__ -/
def mkInit (c : Str) (mi : MF) : MF := fun ds M => (mi (.ref M.length :: ds) (M ++ [.ins c []])).bind fun v M2 => match v with
  | .non => .ok (.ref M.length) M2
  | _ => .no
section
variable {P : Program} {w : World} {K : PySem.W.Frag} {mg : Str → Option Value} {base : Heap} {k : Nat} {f C : Addr} {fd : FuncData} {ps : List Str} {n : Nat}
theorem spD_step {m : MF} {vs : List V} {H : Hp} {Q Q' : VK} {E : XK} (h : spD K mg m n vs H Q E) (q : ∀ v H', Q v H' → Q' v H') : spD K mg m n vs H Q' E := by
  obtain ⟨hl, ρ, M, ds, r, so, a⟩ := h
  exact ⟨hl, ρ, M, ds, r, so, a.mono q⟩
theorem init_go {c : Str} {mi : MF} {vs : List V} {H : Hp} {Q : VK} {E : XK} (hm : mg c = some (.ref C)) (h : spD K mg (mkInit c mi) n vs H Q E) (x dx : Addr) (hx : H x = none) (hdx : H dx = none) (ne : dx ≠ x) :
    spD K mg mi (n + 1) (.ref x :: vs) (upd (upd H dx (.own x)) x (.ins C dx [])) (fun v H2 => v = .non ∧ Q (.ref x) H2) E := by
  obtain ⟨hl, ρ, M, ds, r, so, a⟩ := h
  have s1 : Step ρ H ρ (upd H dx (.own x)) := Step.new hdx
  have o1 := so.new (u := .own x) hdx
  have hx1 : upd H dx (.own x) x = none := by rw [upd_ne (Ne.symm ne)]; exact hx
  have s2 := Step.newH (ρ := ρ) (u := HO.ins C dx []) hx1
  have o2 : SOk K mg ⟨ρ.hs ++ [x], ρ.hid⟩ (upd (upd H dx (.own x)) x (.ins C dx [])) (M ++ [.ins c []]) := o1.newH hx1 ⟨C, dx, [], upd_same, hm, rfl, .nil⟩
  have rx : (ρ.hs ++ [x])[M.length]? = some x := by rw [← so.len, List.getElem?_append_right (Nat.le_refl _), Nat.sub_self] <;> rfl
  refine ⟨by rw [List.length_cons, hl], ⟨ρ.hs ++ [x], ρ.hid⟩, M ++ [.ins c []], .ref M.length :: ds, .cons (.ref rx) ((r.step s1).step s2), o2, ?_⟩
  have a2 := Aft.step a (s1.trans s2)
  refine Aft.bind a2 fun d M' v ρ' H' s3 o3 r3 a3 => ?_
  cases r3 with
  | non => exact ⟨rfl, a3 (.ref x) ρ' H' Step.refl o3 (.ref (s3.get rx))⟩
  | _ => exact a3.elim
theorem mk_of_init {c : Str} {mi : MF} (hm : mg c = some (.ref C)) (Mk' : Mk K C f) (F : FnOk P w K mg base (L2.CX P w) k f fd ps (spD K mg mi (n + 1))) (hb : Binds K fd ps []) : MkD P w K mg base (k + 1) C (mkInit c mi) n := by
  refine ⟨fun X e1 e2 e3 e4 e5 W tk hr pins σ H s Q us vs I rv h => ?_⟩
  subst e1 e2 e3 e4 e5
  have hx := passAt tk σ
  have hh := fun x dx a b c => init_go hm h x dx a b c
  have hq := hh (s.heap.objs.size + 1) s.heap.objs.size (I.hok.fresh (Nat.le_succ _)) (I.hok.fresh (Nat.le_refl _)) (Nat.ne_of_lt (Nat.lt_succ_self _))
  have I2 := Inv.made (C := C) I
  have r2 : Vals (V.ref (s.heap.objs.size + 1) :: vs) (Value.ref (s.heap.objs.size + 1) :: us) := .cons rfl rv
  have hl : (Value.ref (s.heap.objs.size + 1) :: us ++ []).length = ps.length := by
    have e := r2.length
    rw [F.len _ _ _ _ hq] at e
    rw [List.append_nil]
    exact e.symm
  refine wpAny_call (make_map (f := f) I.kIn Mk'.makes Mk'.init (beq_iff_eq.mp Mk'.fn) (codeAny_mono (F.run _ X.stack _ _ ⟨Value.ref (s.heap.objs.size + 1) :: us, []⟩ (Value.ref (s.heap.objs.size + 1) :: us) _ _ (WE W σ) (hr.make C us [])
    (I2.env0.make C us []) (by have := hb _ (Value.ref (s.heap.objs.size + 1) :: us) I2.kIn hl; rw [List.append_nil] at this; exact this) r2 hq) fun r s' hq' => ?_))
  cases r with
  | error e => exact hx pins _ _ e s' I2 hq'
  | ok fl =>
    cases fl with
    | ret u =>
      obtain ⟨v, H', I3, rv, ev, q3⟩ := I2.after hq'
      subst ev
      exact ⟨rv, ⟨V.ref (s.heap.objs.size + 1), H', I3, rfl, q3⟩⟩
    | next => exact False.elim hq'
    | brk => exact False.elim hq'
    | cont => exact False.elim hq'
theorem spD_sim {r m : MF} (h : ∀ ds M, ds.length = n → belL M.length ds = true → (∀ o ∈ M, belO M.length o = true) → Sim M (r ds M) (m ds M)) {vs : List V} {H : Hp} {Q : VK} {E : XK} (q : spD K mg m n vs H Q E) : spD K mg r n vs H Q E := by
  obtain ⟨hl, ρ, M, ds, rr, so, q⟩ := q
  refine ⟨hl, ρ, M, ds, rr, so, ?_⟩
  rcases h ds M (by rw [← rr.length]; exact hl) (by rw [← so.len]; exact rr.bel) so.bel with e | e | ⟨d, M1, d', M1', e1, e2, fz, ct⟩ | ⟨x, M1, x', M1', e1, e2, ec, en, fz, ct⟩
  · rw [e] at q; exact q.elim
  · rw [e] at q; exact q
  · rw [e2] at q
    rw [e1]
    intro v ρ1 H1 s1 o1 r1
    obtain ⟨st, ee⟩ := s1.cut
    have r2 := r1.fz o1 fz
    have o2 := o1.cut ct
    rw [← so.len, ee] at r2 o2
    rw [ee] at st
    exact q v ρ H1 st o2 r2
  · rw [e2] at q
    rw [e1]
    rintro cls dd ρ1 H1 s1 o1 ⟨C, a, ws, c1, c2, c3, c4, c5, c6, c7⟩
    obtain ⟨st, ee⟩ := s1.cut
    have r2 := RepAll.fz o1 fz c7
    have o2 := o1.cut ct
    have out := Pl.cut_out (n := ρ.hs.length) c4
    rw [← so.len, ee] at r2 o2
    rw [ee] at st out
    exact q cls dd ρ H1 st o2 ⟨C, a, ws, c1, by rw [← ec]; exact c2, c3, out, c5, c6.trans en, r2⟩
theorem mk_spec {r m : MF} (F : MkD P w K mg base k C r n) (h : ∀ ds M, ds.length = n → belL M.length ds = true → (∀ o ∈ M, belO M.length o = true) → Sim M (r ds M) (m ds M)) : MkD P w K mg base k C m n :=
  ⟨fun X e1 e2 e3 e4 e5 W tk hr pins σ H s Q us vs I rv q => F.run X e1 e2 e3 e4 e5 W tk hr pins σ H s Q us vs I rv (spD_sim h q)⟩
end
section
variable {X : Cx} {W : WX} {pos p : Pos} {x : Str} {e : Expr} {es : List Expr} {k : Nat} {C : Addr} {n : Nat}
theorem r_make {m : MF} {g : AF} (F : MkD X.prog X.w X.K X.mg X.base k C m n) (hr : Room k X.A) (hm : X.mg x = some (.ref C)) (hk : PySem.W.keepIn X.K (.ref C) = true) (tk : Takes X W) (hg : Gl X x) (ha : PA X (e :: es) (tA X.K X.mg W g))
    (hdb : (x == ("__debug__" : Str)) = false := by decide) (he : starEach (e :: es) X.env = (false, eval e X.env) :: starEach es X.env := by rfl) (hpl : (backTo pos (starEach es X.env)).any (·.1) = false := by rfl) :
    PE X (.Call (.Name x p) (e :: es) [] pos) (tE X.K X.mg W (eCall (arity n m) g)) := by
  refine ⟨fun pins s σ H Q I h => ?_⟩
  refine wpAny_Call_Name_kw (ld_glob I hg hm ?_ hdb)
  obtain ⟨en, ρ, M, hen, hs, h⟩ := h
  refine PySem.W.callWith_K (h₀ := X.base) I.ok.mod.kin hk (thn (ha.run pos pins s σ H (fun vs H1 => spD X.K X.mg m n vs H1 Q (WE W σ)) I ⟨en, ρ, M, hen, hs, Aft.bind h fun ds M1 vs ρ1 H1 s1 o1 r1 h1 => spD_of r1 o1 h1⟩) fun us s1 ⟨vs, H1, I1, r, q⟩ => ⟨I1.kIn, ?_⟩) he hpl
  exact F.run X rfl rfl rfl rfl rfl W tk hr pins σ H1 s1 Q us vs I1 r q
theorem r_make0 {m : MF} (F : MkD X.prog X.w X.K X.mg X.base k C m 0) (hr : Room k X.A) (hm : X.mg x = some (.ref C)) (hk : PySem.W.keepIn X.K (.ref C) = true) (tk : Takes X W) (hg : Gl X x)
    (hdb : (x == ("__debug__" : Str)) = false := by decide) : PE X (.Call (.Name x p) [] [] pos) (tE X.K X.mg W (eCall m aNil)) := by
  refine ⟨fun pins s σ H Q I h => ?_⟩
  refine wpAny_Call_Name_kw (ld_glob I hg hm ?_ hdb)
  obtain ⟨en, ρ, M, hen, hs, h⟩ := h
  exact PySem.W.callWith_K0 I.kIn hk (F.run X rfl rfl rfl rfl rfl W tk hr pins σ H s Q [] [] I .nil ⟨rfl, ρ, M, [], .nil, hs, h⟩)
end
end Py
set_option Elab.async false
set_option linter.all false
set_option maxRecDepth 100000
set_option maxHeartbeats 4000000
/-! # Operations by values -/
namespace Py
open PySem PySem.Spec PyProof.Rows L2

/-! ### lists and tuples as they lie -/
/-- the items of a list -/
def listD (M : Store) : D → Option (List D)
  | .lst xs => some xs
  | .ref k => match M[k]? with
    | some (.lst xs) => some xs
    | _ => none
  | _ => none
section
variable {X : Cx} {mg : Str → Option Value} {ρ : Pl} {H : Hp} {M : Store} {pins : List (Addr × Obj)} {σ : L2.St} {s : Shared} {Q : VK}
theorem listD_ok {v : V} {d : D} {xs : List D} (so : SOk X.K mg ρ H M) (r : Rep X.K mg ρ H v d) (h : listD M d = some xs) : ∃ a vs, v = .ref a ∧ SqL X.K H a vs ∧ vs.length ≤ sizeLine ∧ RepAll X.K mg ρ H vs xs ∧
    (Rd H a (.lst vs) ∨ ∃ (its : Array Value) (n : Nat), X.K.lookup a = some { cls := .type "list", data := .seq its n }) := by
  cases r with
  | @lst a vs _ z l r =>
    cases h
    refine ⟨a, vs, rfl, z.sq, l, r, ?_⟩
    rcases z with ⟨_, z⟩ | ⟨_, z⟩
    · exact .inl z
    · exact .inr z
  | @ref k a e =>
    have h : (match M[k]? with | some (.lst xs) => some xs | _ => none) = some xs := h
    cases q : M[k]? with
    | none => rw [q] at h; cases h
    | some o =>
      rw [q] at h
      cases o with
      | lst ys =>
        cases h
        obtain ⟨vs, h1, l, r⟩ := so.at' k _ a q e
        exact ⟨a, vs, rfl, SqL.of h1, l, r, .inl (.inl h1)⟩
      | _ => cases h
  | _ => cases h
/-- .. and its object -/
theorem listD_obj (I : Inv X pins σ H s) {v : V} {d : D} {xs : List D} (so : SOk X.K mg ρ H M) (r : Rep X.K mg ρ H v d) (h : listD M d = some xs) :
    ∃ a vs its n, v = .ref a ∧ vs.length ≤ sizeLine ∧ RepAll X.K mg ρ H vs xs ∧ Vals vs its ∧ s.heap.get? a = some { cls := .type "list", data := .seq its.toArray n } ∧ vs.length = its.length := by
  obtain ⟨a, vs, rfl, sq, l, r, z⟩ := listD_ok so r h
  rcases z with z | ⟨its, n, z⟩
  · obtain ⟨_, its, n, rv, e⟩ := z.ok I.hok
    exact ⟨a, vs, its, n, rfl, l, r, rv, e, rv.length⟩
  · obtain ⟨its', rv, ⟨o, n', ho, hc, _, hd⟩, _⟩ := I.list sq
    have e := I.kIn a _ z
    rw [e] at ho
    cases ho
    have hd' : Data.seq its n = Data.seq its'.toArray n' := hd
    cases hd'
    exact ⟨a, vs, its', n, rfl, l, r, rv, e, rv.length⟩
theorem tup_obj (I : Inv X pins σ H s) {v : V} {xs : List D} (r : Rep X.K mg ρ H v (.tup xs)) : ∃ a vs its, v = .ref a ∧ SqT X.K H a vs ∧ vs.length ≤ sizeLine ∧ RepAll X.K mg ρ H vs xs ∧ Vals vs its ∧ IsTup s.heap a its.toArray ∧ vs.length = its.length := by
  cases r with
  | @tup a vs _ z l r =>
    obtain ⟨its, rv, ht, _⟩ := I.tuple z.sq
    exact ⟨a, vs, its, rfl, z.sq, l, r, rv, ht, rv.length⟩
/-- a new tuple -/
theorem tup_new (I : Inv X pins σ H s) (so : SOk X.K mg ρ H M) {vs : List V} {us : List Value} {ds : List D} (rv : Vals vs us) (r : RepAll X.K mg ρ H vs ds) (l : vs.length ≤ sizeLine)
    (q : ∀ v H', Step ρ H ρ H' → SOk X.K mg ρ H' M → Rep X.K mg ρ H' v (.tup ds) → Q v H') {t' : Nat} : EP X pins σ Q (.ref s.heap.objs.size) { s with heap := s.heap.push { cls := .type "tuple", data := .seq us.toArray }, toks := t' } :=
  tup_laid I rv ⟨l, fun p o hp ho => let ⟨a, b, c⟩ := newTup so hp ho r l; q _ _ a b c⟩
/-- a new list that stays -/
theorem lst_new (so : SOk X.K mg ρ H M) {vs : List V} {ds : List D} (r : RepAll X.K mg ρ H vs ds) (l : vs.length ≤ sizeLine) (q : ∀ v H', Step ρ H ρ H' → SOk X.K mg ρ H' M → Rep X.K mg ρ H' v (.lst ds) → Q v H') (p : Addr) (hp : H p = none) : Q (.ref p) (upd H p (.lst vs)) :=
  let ⟨a, b, c⟩ := newLst so hp r l; q _ _ a b c
end

/-! ### ints -/
/-- lists, texts, tuples have at most so many items -/
abbrev sz : Nat := 16777216
theorem sz_eq : sz = sizeLine := sizeLine_eq.symm
def addD : F2 := fun M d e => match d, e with
  | .int i, .int j => some (.int (i + j))
  | .str a, .str b => if a.length + b.length ≤ sz then some (.str (a ++ b)) else none
  | .tup xs, .tup ys => if xs.length + ys.length ≤ sz then some (.tup (xs ++ ys)) else none
  | d, e => (listD M d).bind fun xs => (listD M e).bind fun ys => if xs.length + ys.length ≤ sz then some (.lst (xs ++ ys)) else none
def subD : F2 := fun _ d e => match d, e with
  | .int i, .int j => some (.int (i - j))
  | _, _ => none
/-- one of the factors below 2 ^ 64, or both below 2 ^ 400000 -/
def mulD : F2 := fun M d e => match d, e with
  | .int i, .int j => if (-(2 ^ 64) < i ∧ i < 2 ^ 64) ∨ (-(2 ^ 64) < j ∧ j < 2 ^ 64) then some (.int (i * j)) else none
  | d, .int k => (listD M d).bind fun xs => if k ≤ sz ∧ -(2 ^ 62) ≤ k ∧ xs.length * k.toNat ≤ sz then some (.lst (List.replicate k.toNat xs).flatten) else none
  | _, _ => none
def fdivD : F2 := fun _ d e => match d, e with
  | .int i, .int j => if j ≠ 0 ∧ j.natAbs < 1073741824 then some (.int (i.fdiv j)) else none
  | _, _ => none
def modD : F2 := fun _ d e => match d, e with
  | .int i, .int j => if j ≠ 0 then some (.int (i.fmod j)) else none
  | _, _ => none
def powD : F2 := fun _ d e => match d, e with
  | .int i, .int j => if 0 ≤ j ∧ j ≤ 1000000 ∧ i.natAbs < 2 ^ 64 then some (.int (i ^ j.toNat)) else none
  | _, _ => none
def negD : F1 := fun _ d => match d with
  | .int i => some (.int (-i))
  | _ => none
def ltI (p : Int → Int → Bool) : F2 := fun _ d e => match d, e with
  | .int i, .int j => some (.bl (p i j))
  | _, _ => none
def isND : F2 := fun _ d e => match d, e with
  | .non, .non => some (.bl true)
  | _, .non => some (.bl false)
  | .bl a, .bl b => some (.bl (a == b))
  | _, .bl _ => some (.bl false)
  | _, _ => none
def isNotND : F2 := fun _ d e => match d, e with
  | .non, .non => some (.bl false)
  | _, .non => some (.bl true)
  | .bl a, .bl b => some (.bl (a != b))
  | _, .bl _ => some (.bl true)
  | _, _ => none
section
variable {X : Cx} {mg : Str → Option Value}
/-- by an operation of two ints -/
theorem opII {f : Value → Value → Sem Value} {C : Int → Int → Prop} {g : Int → Int → V} (h : OpR X f (rI C g)) {pins : List (Addr × Obj)} {s : Shared} {σ : L2.St} {H : Hp} {v u : Value} {Q : VK} {i j : Int} (I : Inv X pins σ H s) (rv : RelV (.int i) v) (ru : RelV (.int j) u) (c : C i j)
    (q : Q (g i j) H) : wpAny (model X.prog X.w) X.A (f v u) (EP X pins σ Q) X.xe s := h pins s σ H _ _ v u Q I rv ru ⟨i, j, rfl, rfl, c, q⟩
theorem opII0 {f : Value → Value → Sem Value} {g : Int → Int → V} (h : OpR X f (rI0 g)) {pins : List (Addr × Obj)} {s : Shared} {σ : L2.St} {H : Hp} {v u : Value} {Q : VK} {i j : Int} (I : Inv X pins σ H s) (rv : RelV (.int i) v) (ru : RelV (.int j) u)
    (q : Q (g i j) H) : wpAny (model X.prog X.w) X.A (f v u) (EP X pins σ Q) X.xe s := h pins s σ H _ _ v u Q I rv ru ⟨i, j, rfl, rfl, q⟩
theorem o_sub : OpR X (binaryOp .Sub) (r2D X.K mg subD) := by
  rintro pins s σ H x y v u Q I rx ry ⟨ρ, M, d, e, z, so, r1, r2, hF, q⟩
  cases r1 <;> cases r2 <;> first | (cases hF; done) | skip
  cases hF
  exact opII0 op_sub I rx ry (q _ H Step.refl so (.int _))
theorem o_add : OpR X (binaryOp .Add) (r2D X.K mg addD) := by
  rintro pins s σ H x y v u Q I rx ry ⟨ρ, M, d, e, z, so, r1, r2, hF, q⟩
  have lists : ∀ {d e : D}, Rep X.K mg ρ H x d → Rep X.K mg ρ H y e → ((listD M d).bind fun xs => (listD M e).bind fun ys => if xs.length + ys.length ≤ sz then some (.lst (xs ++ ys)) else none) = some z →
      wpAny (model X.prog X.w) X.A (binaryOp .Add v u) (EP X pins σ Q) X.xe s := by
    intro d e r1 r2 hF
    cases q1 : listD M d with
    | none => rw [q1] at hF; cases hF
    | some xs =>
      cases q2 : listD M e with
      | none => rw [q1, q2] at hF; cases hF
      | some ys =>
        rw [q1, q2] at hF
        have hF : (if xs.length + ys.length ≤ sz then some (D.lst (xs ++ ys)) else none) = some z := hF
        by_cases hz : xs.length + ys.length ≤ sz
        · rw [if_pos hz] at hF
          cases hF
          obtain ⟨a, vs, its, n, rfl, l1, ra, rv, ea, el⟩ := listD_obj I so r1 q1
          obtain ⟨b, ws, its2, n2, rfl, l2, rb, rw', eb, el2⟩ := listD_obj I so r2 q2
          cases rx
          cases ry
          have hl : vs.length + ws.length ≤ sizeLine := by rw [ra.length, rb.length, ← sz_eq]; exact hz
          refine PySem.P.add_list ea eb ?_ (by rw [List.size_toArray, List.size_toArray]; omega)
          have e1 : its.toArray ++ its2.toArray = (its ++ its2).toArray := by simp
          rw [e1]
          exact ⟨.ref _, _, I.lnew (t' := s.toks) (rv.append rw') (by rw [List.length_append]; omega), rfl, lst_new so (ra.append rb) (by rw [List.length_append]; omega) q _ I.fresh⟩
        · rw [if_neg hz] at hF; cases hF
  cases r1 with
  | int i =>
    cases r2 with
    | int j =>
      cases hF
      exact opII0 op_add I rx ry (q _ H Step.refl so (.int _))
    | _ => exact absurd hF (by simp [addD, listD])
  | str a =>
    cases r2 with
    | str b =>
      have hF : (if a.length + b.length ≤ sz then some (D.str (a ++ b)) else none) = some z := hF
      by_cases hz : a.length + b.length ≤ sz
      · rw [if_pos hz] at hF
        cases hF
        exact op_add_str pins s σ H _ _ v u Q I rx ry ⟨a, b, rfl, rfl, by rw [← sz_eq]; exact hz, q _ H Step.refl so (.str _)⟩
      · rw [if_neg hz] at hF; cases hF
    | _ => exact absurd hF (by simp [addD, listD])
  | @tup a1 vs1 xs z1 k1 r1 =>
    cases r2 with
    | @tup a2 vs2 ys z2 k2 r2 =>
      have hF : (if xs.length + ys.length ≤ sz then some (D.tup (xs ++ ys)) else none) = some z := hF
      by_cases hz : xs.length + ys.length ≤ sz
      · rw [if_pos hz] at hF
        cases hF
        obtain ⟨a, vs, its, e1, sq1, l1, ra, rv, t1, el1⟩ := tup_obj I (.tup z1 k1 r1 : Rep X.K mg ρ H (.ref a1) (.tup xs))
        obtain ⟨b, ws, its2, e2, sq2, l2, rb, rw', t2, el2⟩ := tup_obj I (.tup z2 k2 r2 : Rep X.K mg ρ H (.ref a2) (.tup ys))
        have ht2 : Rep X.K mg ρ H (.ref a2) (.tup ys) := .tup z2 k2 r2
        have ht1 : Rep X.K mg ρ H (.ref a1) (.tup xs) := .tup z1 k1 r1
        cases e1
        cases e2
        cases rx
        cases ry
        have hl : vs.length + ws.length ≤ sizeLine := by rw [ra.length, rb.length, ← sz_eq]; exact hz
        by_cases hx : its = []
        · subst hx
          cases rv
          cases ra
          exact cat_tup0 t1 t2 ⟨.ref a2, H, I, rfl, q _ H Step.refl so ht2⟩
        · refine HT.cat_tup t1 t2 hx (fun hw => ?_) (fun _ => tup_new I so (t' := s.toks) (rv.append rw') (ra.append rb) (by rw [List.length_append]; omega) q) (by omega)
          subst hw
          cases rw'
          cases rb
          refine ⟨.ref a1, H, I, rfl, q _ H Step.refl so ?_⟩
          rw [List.append_nil]
          exact ht1
      · rw [if_neg hz] at hF; cases hF
    | _ => exact absurd hF (by simp [addD, listD])
  | non => exact absurd hF (by simp [addD, listD])
  | bl b => exact absurd hF (by simp [addD, listD])
  | obj h1 h2 h3 h4 h5 => exact absurd hF (by simp [addD, listD])
  | lst h1 h2 h3 => exact lists (.lst h1 h2 h3) r2 (by revert hF; cases r2 <;> exact fun h => h)
  | ref h1 => exact lists (.ref h1) r2 (by revert hF; cases r2 <;> exact fun h => h)
theorem RepAll.rep {K : PySem.W.Frag} {ρ : Pl} {H : Hp} {vs : List V} {ds : List D} (h : RepAll K mg ρ H vs ds) : ∀ k : Nat, RepAll K mg ρ H (List.replicate k vs).flatten (List.replicate k ds).flatten
  | 0 => .nil
  | k + 1 => by
    rw [List.replicate_succ, List.replicate_succ, List.flatten_cons, List.flatten_cons]
    exact h.append (RepAll.rep h k)
/-- a list times an int, the list's object known -/
theorem mul_lists {A : Around} {E : Value → Shared → Prop} {P : Program} {w : World} {s : Shared} {a : Addr} {its : List Value} {n : Nat} {k : Int} {t : Tok} {Q : Value → Shared → Prop} (e : s.heap.get? a = some { cls := .type "list", data := .seq its.toArray n })
    (h1 : -(2 ^ 63) ≤ k) (h2 : k < 2 ^ 63) (hz : its.length * k.toNat ≤ sizeLine) (q : Q (.ref s.heap.objs.size) { s with heap := s.heap.push { cls := .type "list", data := .seq (List.replicate k.toNat its).flatten.toArray } }) :
    wpAny (model P w) A (binaryOp .Mult (.ref a) (.int k t)) Q E s := by
  have hs : its.toArray.size = its.length := List.size_toArray
  have c1 : ¬ its.toArray.size * k.toNat > (2 ^ 63 - 1) / 8 := by
    have z : (sizeLine : Nat) ≤ (2 ^ 63 - 1) / 8 := by decide
    rw [hs]
    omega
  have c2 : ¬ (!Builtin.List.listFitsIndex k) = true := by rw [fitsIndex_both h1 h2]; exact Bool.false_ne_true
  have c3 : ¬ Builtin.List.listTooLong (its.toArray.size * k.toNat) = true := by rw [hs, notLongL hz]; exact Bool.false_ne_true
  have c4 : List.foldl (fun x y => x ++ y) #[] (List.replicate (if its.toArray.isEmpty = true then 0 else k.toNat) its.toArray) = (List.replicate k.toNat its).flatten.toArray := by
    have f0 := foldl_rep its (if its.toArray.isEmpty = true then 0 else k.toNat) []
    rw [List.nil_append] at f0
    refine Eq.trans f0 ?_
    cases its with
    | nil => simp
    | cons b r => rw [if_neg (by simp)]
  refine wpAny_binaryOp_repeat_ref (T := "list") (U := "int") (by decide) ⟨_, e, rfl⟩ (fun s' => typeIs_int s' k t) noFill_list_mul F.fills_int_mul F.slot_int_rmul repeat_list F.slot_int_index.lookup ?_
  refine call_meets F.slot_int_rmul (typeIs_int s k t) F.entry_int_rmul (F.args_int_rmul_2 _ _) (int___rmul___int_list k t a its.toArray n) ⟨e, rfl, ⟨_, e, rfl⟩, ?_⟩
  refine call_meets F.slot_list_mul ⟨_, e, rfl⟩ F.entry_list_mul (F.args_list_mul_2 _ _) (AutoListH.list___mul___list_int_3 a its.toArray n k t c2 c1 c3) ⟨e, ?_⟩
  rw [c4]
  exact q
theorem o_mul : OpR X (binaryOp .Mult) (r2D X.K mg mulD) := by
  rintro pins s σ H x y v u Q I rx ry ⟨ρ, M, d, e, z, so, r1, r2, hF, q⟩
  cases r2 with
  | int j =>
    have lists : ∀ {d : D}, Rep X.K mg ρ H x d → ((listD M d).bind fun xs => if j ≤ sz ∧ -(2 ^ 62) ≤ j ∧ xs.length * j.toNat ≤ sz then some (D.lst (List.replicate j.toNat xs).flatten) else none) = some z →
        wpAny (model X.prog X.w) X.A (binaryOp .Mult v u) (EP X pins σ Q) X.xe s := by
      intro d r1 hF
      cases q1 : listD M d with
      | none => rw [q1] at hF; cases hF
      | some xs =>
        rw [q1] at hF
        have hF : (if j ≤ sz ∧ -(2 ^ 62) ≤ j ∧ xs.length * j.toNat ≤ sz then some (D.lst (List.replicate j.toNat xs).flatten) else none) = some z := hF
        by_cases c : j ≤ sz ∧ -(2 ^ 62) ≤ j ∧ xs.length * j.toNat ≤ sz
        · rw [if_pos c] at hF
          cases hF
          obtain ⟨a, vs, its, n, rfl, l1, ra, rv, ea, el⟩ := listD_obj I so r1 q1
          cases rx
          obtain ⟨t, rfl⟩ := ry
          have hz : vs.length * j.toNat ≤ sizeLine := by rw [ra.length, ← sz_eq]; exact c.2.2
          have h1 : j ≤ (16777216 : Int) := c.1
          refine mul_lists ea (by omega) (by omega) (by rw [← el]; exact hz) ?_
          have hl : (List.replicate j.toNat vs).flatten.length ≤ sizeLine := by rw [lm_len_rep_flat, Nat.mul_comm]; exact hz
          exact ⟨.ref _, _, I.lnew (t' := s.toks) (rv.rep j.toNat) hl, rfl, lst_new so (ra.rep j.toNat) hl q _ I.fresh⟩
        · rw [if_neg c] at hF; cases hF
    cases d with
    | int i =>
      cases r1
      have hF : (if (-(2 ^ 64) < i ∧ i < 2 ^ 64) ∨ (-(2 ^ 64) < j ∧ j < 2 ^ 64) then some (D.int (i * j)) else none) = some z := hF
      by_cases c : (-(2 ^ 64) < i ∧ i < 2 ^ 64) ∨ (-(2 ^ 64) < j ∧ j < 2 ^ 64)
      · rw [if_pos c] at hF
        cases hF
        exact opII op_mul I rx ry c (q _ H Step.refl so (.int _))
      · rw [if_neg c] at hF; cases hF
    | lst xs => exact lists r1 hF
    | ref k => exact lists r1 hF
    | _ => exact absurd hF (by simp [mulD, listD])
  | _ => exact absurd hF (by cases r1 <;> simp [mulD])
theorem o_fdiv : OpR X (binaryOp .FloorDiv) (r2D X.K mg fdivD) := by
  rintro pins s σ H x y v u Q I rx ry ⟨ρ, M, d, e, z, so, r1, r2, hF, q⟩
  cases r1 <;> cases r2 <;> first | (cases hF; done) | skip
  rename_i i j
  have hF : (if j ≠ 0 ∧ j.natAbs < 1073741824 then some (D.int (i.fdiv j)) else none) = some z := hF
  by_cases c : j ≠ 0 ∧ j.natAbs < 1073741824
  · rw [if_pos c] at hF
    cases hF
    exact opII op_fdivN I rx ry c (q _ H Step.refl so (.int _))
  · rw [if_neg c] at hF; cases hF
theorem o_mod : OpR X (binaryOp .Mod) (r2D X.K mg modD) := by
  rintro pins s σ H x y v u Q I rx ry ⟨ρ, M, d, e, z, so, r1, r2, hF, q⟩
  cases r1 <;> cases r2 <;> first | (cases hF; done) | skip
  rename_i i j
  have hF : (if j ≠ 0 then some (D.int (i.fmod j)) else none) = some z := hF
  by_cases c : j ≠ 0
  · rw [if_pos c] at hF
    cases hF
    exact opII op_modN I rx ry c (q _ H Step.refl so (.int _))
  · rw [if_neg c] at hF; cases hF
theorem o_pow : OpR X (binaryOp .Pow) (r2D X.K mg powD) := by
  rintro pins s σ H x y v u Q I rx ry ⟨ρ, M, d, e, z, so, r1, r2, hF, q⟩
  cases r1 <;> cases r2 <;> first | (cases hF; done) | skip
  rename_i i j
  have hF : (if 0 ≤ j ∧ j ≤ 1000000 ∧ i.natAbs < 2 ^ 64 then some (D.int (i ^ j.toNat)) else none) = some z := hF
  by_cases c : 0 ≤ j ∧ j ≤ 1000000 ∧ i.natAbs < 2 ^ 64
  · rw [if_pos c] at hF
    cases hF
    exact opII op_pow I rx ry c (q _ H Step.refl so (.int _))
  · rw [if_neg c] at hF; cases hF
theorem o_neg : UnR X (unaryOp .USub) (r1D X.K mg negD) := by
  rintro pins s σ H x v Q I rx ⟨ρ, M, d, z, so, r1, hF, q⟩
  cases r1 <;> first | (cases hF; done) | skip
  cases hF
  exact un_neg pins s σ H _ v Q I rx ⟨_, rfl, q _ H Step.refl so (.int _)⟩
end
end Py
set_option Elab.async false
set_option linter.all false
set_option maxRecDepth 100000
set_option maxHeartbeats 4000000
/-! # == and < of data -/
namespace Py
open PySem PySem.Spec PyProof.Rows L2 PySem.SeqAt

/-! ### data that is no handle and no instance, nested at most n deep -/
mutual
def flat : D → Nat → Bool
  | .tup xs, n + 1 => flatL xs n
  | .lst xs, n + 1 => flatL xs n
  | .tup _, 0 => false
  | .lst _, 0 => false
  | .obj _ _ _, _ => false
  | .ref _, _ => false
  | .non, _ => true
  | .bl _, _ => true
  | .int _, _ => true
  | .str _, _ => true
def flatL : List D → Nat → Bool
  | [], _ => true
  | d :: ds, n => flat d n && flatL ds n
end
theorem flatL_iff {n : Nat} : ∀ {xs : List D}, flatL xs n = true ↔ ∀ d ∈ xs, flat d n = true
  | [] => by rw [flatL]; simp
  | x :: xs => by rw [flatL, Bool.and_eq_true, flatL_iff]; simp
theorem flatL_append {n : Nat} {xs ys : List D} : flatL (xs ++ ys) n = (flatL xs n && flatL ys n) := by
  rw [Bool.eq_iff_iff, Bool.and_eq_true, flatL_iff, flatL_iff, flatL_iff]
  simp only [List.mem_append]
  exact ⟨fun h => ⟨fun d hd => h d (.inl hd), fun d hd => h d (.inr hd)⟩, fun h d hd => hd.elim (h.1 d) (h.2 d)⟩
theorem flatL_map {α : Type} {n : Nat} {f : α → D} (h : ∀ a, flat (f a) n = true) (xs : List α) : flatL (xs.map f) n = true := by
  rw [flatL_iff]
  intro d hd
  obtain ⟨a, _, rfl⟩ := List.mem_map.mp hd
  exact h a
mutual
theorem flat_mono {n m : Nat} (h : n ≤ m) : ∀ (d : D), flat d n = true → flat d m = true
  | .tup xs, q => by
    cases n with
    | zero => rw [flat] at q; cases q
    | succ n =>
      cases m with
      | zero => omega
      | succ m => rw [flat] at q ⊢; exact flatL_mono (by omega) xs q
  | .lst xs, q => by
    cases n with
    | zero => rw [flat] at q; cases q
    | succ n =>
      cases m with
      | zero => omega
      | succ m => rw [flat] at q ⊢; exact flatL_mono (by omega) xs q
  | .obj _ _ _, q => by rw [flat] at q; cases q
  | .ref _, q => by rw [flat] at q; cases q
  | .non, _ => by rw [flat]
  | .bl _, _ => by rw [flat]
  | .int _, _ => by rw [flat]
  | .str _, _ => by rw [flat]
theorem flatL_mono {n m : Nat} (h : n ≤ m) : ∀ (ds : List D), flatL ds n = true → flatL ds m = true
  | [], _ => by rw [flatL]
  | d :: ds, q => by
    rw [flatL, Bool.and_eq_true] at q ⊢
    exact ⟨flat_mono h d q.1, flatL_mono h ds q.2⟩
end
/-! ### == -/
mutual
def eqDD : D → D → Bool
  | .non, .non => true
  | .bl a, .bl b => a == b
  | .bl a, .int j => (if a then 1 else 0) == j
  | .int i, .bl b => i == (if b then 1 else 0)
  | .int i, .int j => i == j
  | .str x, .str y => x == y
  | .lst xs, .lst ys => eqLL xs ys
  | .tup xs, .tup ys => eqLL xs ys
  | _, _ => false
def eqLL : List D → List D → Bool
  | [], [] => true
  | x :: xs, y :: ys => eqDD x y && eqLL xs ys
  | _, _ => false
end
theorem eqLL_len : ∀ {xs ys : List D}, eqLL xs ys = true → xs.length = ys.length
  | [], [], _ => rfl
  | x :: xs, y :: ys, h => by
    rw [eqLL, Bool.and_eq_true] at h
    rw [List.length_cons, List.length_cons, eqLL_len h.2]
  | [], _ :: _, h => by simp [eqLL] at h
  | _ :: _, [], h => by simp [eqLL] at h
mutual
theorem eqDD_refl : ∀ (d : D), (∃ n, flat d n = true) → eqDD d d = true
  | .non, _ => by rw [eqDD]
  | .bl b, _ => by rw [eqDD]; simp
  | .int i, _ => by rw [eqDD]; simp
  | .str x, _ => by rw [eqDD]; simp
  | .lst xs, ⟨n, h⟩ => by
    rw [eqDD]
    cases n with
    | zero => rw [flat] at h; cases h
    | succ n => rw [flat] at h; exact eqLL_refl xs ⟨n, h⟩
  | .tup xs, ⟨n, h⟩ => by
    rw [eqDD]
    cases n with
    | zero => rw [flat] at h; cases h
    | succ n => rw [flat] at h; exact eqLL_refl xs ⟨n, h⟩
  | .obj _ _ _, ⟨n, h⟩ => by rw [flat] at h; cases h
  | .ref _, ⟨n, h⟩ => by rw [flat] at h; cases h
theorem eqLL_refl : ∀ (ds : List D), (∃ n, flatL ds n = true) → eqLL ds ds = true
  | [], _ => by rw [eqLL]
  | d :: ds, ⟨n, h⟩ => by
    rw [flatL, Bool.and_eq_true] at h
    rw [eqLL, eqDD_refl d ⟨n, h.1⟩, eqLL_refl ds ⟨n, h.2⟩] <;> rfl
end
mutual
def noBl : D → Bool
  | .bl _ => false
  | .tup xs => noBlL xs
  | .lst xs => noBlL xs
  | .non => true
  | .int _ => true
  | .str _ => true
  | .obj _ _ _ => false
  | .ref _ => false
def noBlL : List D → Bool
  | [] => true
  | d :: ds => noBl d && noBlL ds
end
mutual
theorem eqDD_eq : ∀ (d e : D), noBl d = true → noBl e = true → eqDD d e = true → d = e
  | .non, e, _, h, q => by cases e <;> simp_all [eqDD, noBl]
  | .bl b, e, h, _, _ => by rw [noBl] at h; cases h
  | .int i, e, _, h, q => by cases e <;> simp_all [eqDD, noBl]
  | .str x, e, _, h, q => by cases e <;> simp_all [eqDD, noBl]
  | .lst xs, e, h1, h2, q => by
    cases e with
    | lst ys =>
      rw [eqDD] at q
      rw [noBl] at h1 h2
      rw [eqLL_eq xs ys h1 h2 q]
    | _ => simp [eqDD] at q
  | .tup xs, e, h1, h2, q => by
    cases e with
    | tup ys =>
      rw [eqDD] at q
      rw [noBl] at h1 h2
      rw [eqLL_eq xs ys h1 h2 q]
    | _ => simp [eqDD] at q
  | .obj _ _ _, e, h, _, _ => by rw [noBl] at h; cases h
  | .ref _, e, h, _, _ => by rw [noBl] at h; cases h
theorem eqLL_eq : ∀ (ds es : List D), noBlL ds = true → noBlL es = true → eqLL ds es = true → ds = es
  | [], [], _, _, _ => rfl
  | d :: ds, e :: es, h1, h2, q => by
    rw [noBlL, Bool.and_eq_true] at h1 h2
    rw [eqLL, Bool.and_eq_true] at q
    rw [eqDD_eq d e h1.1 h2.1 q.1, eqLL_eq ds es h1.2 h2.2 q.2]
  | [], _ :: _, _, _, q => by simp [eqLL] at q
  | _ :: _, [], _, _, q => by simp [eqLL] at q
end

/-! ### what a value of the heap is -/
mutual
inductive Sees (h : Heap) : Value → D → Prop
  | non : Sees h .none .non
  | bl (b : Bool) : Sees h (.bool b) (.bl b)
  | int (i : Int) (t : Tok) : Sees h (.int i t) (.int i)
  | str (x : Str) (t : Tok) : Sees h (.str x t) (.str x)
  | lst {a : Addr} {items : Array Value} {ds : List D} : h.IsList a items → SeesA h items.toList ds → Sees h (.ref a) (.lst ds)
  | tup {a : Addr} {items : Array Value} {ds : List D} : h.IsTuple a items → SeesA h items.toList ds → Sees h (.ref a) (.tup ds)
inductive SeesA (h : Heap) : List Value → List D → Prop
  | nil : SeesA h [] []
  | cons {v : Value} {vs : List Value} {d : D} {ds : List D} : Sees h v d → SeesA h vs ds → SeesA h (v :: vs) (d :: ds)
end
theorem SeesA.length {h : Heap} : ∀ {vs : List Value} {ds : List D}, SeesA h vs ds → vs.length = ds.length
  | _, _, .nil => rfl
  | _, _, .cons _ b => by rw [List.length_cons, List.length_cons, SeesA.length b]
theorem isTup_tuple {h : Heap} {a : Addr} {items : Array Value} (t : IsTup h a items) : h.IsTuple a items := t
theorem isList_inj {h : Heap} {a : Addr} {x y : Array Value} (p : h.IsList a x) (q : h.IsList a y) : x = y := by
  obtain ⟨o, h1, h2, n, h3⟩ := p
  obtain ⟨o', k1, k2, n', k3⟩ := q
  rw [h1] at k1
  cases k1
  rw [h3] at k3
  cases k3
  rfl
theorem isTuple_inj {h : Heap} {a : Addr} {x y : Array Value} (p : h.IsTuple a x) (q : h.IsTuple a y) : x = y := by
  obtain ⟨o, h1, h2, n, h3⟩ := p
  obtain ⟨o', k1, k2, n', k3⟩ := q
  rw [h1] at k1
  cases k1
  rw [h3] at k3
  cases k3
  rfl
theorem isList_tuple {h : Heap} {a : Addr} {x y : Array Value} (p : h.IsList a x) (q : h.IsTuple a y) : False := by
  obtain ⟨o, h1, h2, n, h3⟩ := p
  obtain ⟨o', k1, k2, n', k3⟩ := q
  rw [h1] at k1
  cases k1
  rw [h2] at k2
  exact absurd k2 (by decide)
mutual
theorem Sees.inj {h : Heap} : ∀ {v : Value} {d e : D}, Sees h v d → Sees h v e → d = e
  | _, _, _, .non, q => by cases q; rfl
  | _, _, _, .bl b, q => by cases q; rfl
  | _, _, _, .int i t, q => by cases q; rfl
  | _, _, _, .str x t, q => by cases q; rfl
  | _, _, _, .lst p r, q => by
    cases q with
    | lst p' r' =>
      have := isList_inj p p'
      subst this
      rw [SeesA.inj r r']
    | tup p' r' => exact (isList_tuple p p').elim
  | _, _, _, .tup p r, q => by
    cases q with
    | tup p' r' =>
      have := isTuple_inj p p'
      subst this
      rw [SeesA.inj r r']
    | lst p' r' => exact (isList_tuple p' p).elim
theorem SeesA.inj {h : Heap} : ∀ {vs : List Value} {ds es : List D}, SeesA h vs ds → SeesA h vs es → ds = es
  | _, _, _, .nil, q => by cases q; rfl
  | _, _, _, .cons a b, q => by
    cases q with
    | cons a' b' => rw [Sees.inj a a', SeesA.inj b b']
end
mutual
theorem Sees.keeps {h h' : Heap} (k : ∀ b o, h.get? b = some o → h'.get? b = some o) : ∀ {v : Value} {d : D}, Sees h v d → Sees h' v d
  | _, _, .non => .non
  | _, _, .bl b => .bl b
  | _, _, .int i t => .int i t
  | _, _, .str x t => .str x t
  | _, _, .lst ⟨o, h1, h2⟩ r => .lst ⟨o, k _ _ h1, h2⟩ (SeesA.keeps k r)
  | _, _, .tup ⟨o, h1, h2⟩ r => .tup ⟨o, k _ _ h1, h2⟩ (SeesA.keeps k r)
theorem SeesA.keeps {h h' : Heap} (k : ∀ b o, h.get? b = some o → h'.get? b = some o) : ∀ {vs : List Value} {ds : List D}, SeesA h vs ds → SeesA h' vs ds
  | _, _, .nil => .nil
  | _, _, .cons a b => .cons (Sees.keeps k a) (SeesA.keeps k b)
end
/-- a handle's list in its place, some levels deep -/
def deref : Nat → Store → D → D
  | 0, _, d => d
  | n + 1, M, .ref k => match M[k]? with
    | some (.lst xs) => .lst (xs.map (deref n M))
    | _ => .ref k
  | _ + 1, _, d => d
section
variable {X : Cx} {mg : Str → Option Value} {ρ : Pl} {H : Hp} {M : Store} {pins : List (Addr × Obj)} {σ : L2.St} {s : Shared}
mutual
theorem Rep.sees (I : Inv X pins σ H s) : ∀ {v : V} {d : D} {u : Value} {n : Nat}, Rep X.K mg ρ H v d → RelV v u → flat d n = true → Sees s.heap u d
  | _, _, _, _, .non, r, _ => by cases r; exact .non
  | _, _, _, _, .bl b, r, _ => by cases r; exact .bl b
  | _, _, _, _, .int i, r, _ => by obtain ⟨t, rfl⟩ := r; exact .int i t
  | _, _, _, _, .str x, r, _ => by obtain ⟨t, rfl⟩ := r; exact .str x t
  | _, _, _, n, .tup h z a, r, f => by
    cases r
    cases n with
    | zero => rw [flat] at f; cases f
    | succ n =>
      rw [flat] at f
      obtain ⟨its, rv, ht, _⟩ := I.tuple h.sq
      exact .tup (items := its.toArray) ht (RepAll.sees I a rv f)
  | _, _, _, n, .lst h z a, r, f => by
    cases r
    cases n with
    | zero => rw [flat] at f; cases f
    | succ n =>
      rw [flat] at f
      obtain ⟨its, rv, ht, _⟩ := I.list h.sq
      exact .lst (items := its.toArray) ht.isList (RepAll.sees I a rv f)
  | _, _, _, _, .obj _ _ _ _ _, _, f => by rw [flat] at f; cases f
  | _, _, _, _, .ref _, _, f => by rw [flat] at f; cases f
theorem RepAll.sees (I : Inv X pins σ H s) : ∀ {vs : List V} {ds : List D} {us : List Value} {n : Nat}, RepAll X.K mg ρ H vs ds → Vals vs us → flatL ds n = true → SeesA s.heap us ds
  | _, _, _, _, .nil, r, _ => by cases r; exact .nil
  | _, _, _, _, .cons a b, r, f => by
    cases r with
    | cons r1 r2 =>
      rw [flatL, Bool.and_eq_true] at f
      exact .cons (Rep.sees I a r1 f.1) (RepAll.sees I b r2 f.2)
end
theorem Rep.seesR (I : Inv X pins σ H s) (so : SOk X.K mg ρ H M) : ∀ (m : Nat) {v : V} {d : D} {u : Value} {n : Nat}, Rep X.K mg ρ H v d → RelV v u → flat (deref m M d) n = true → Sees s.heap u (deref m M d)
  | 0, v, d, u, n, r, rv, f => by
    rw [deref] at f ⊢
    exact Rep.sees I r rv f
  | m + 1, v, d, u, n, r, rv, f => by
    cases d with
    | ref k =>
      cases r with
      | @ref _ a e =>
        rw [deref] at f ⊢
        cases q : M[k]? with
        | none => rw [q] at f; dsimp only at f; rw [flat] at f; cases f
        | some o =>
          rw [q] at f
          cases o with
          | lst xs =>
            dsimp only at f ⊢
            cases n with
            | zero => rw [flat] at f; cases f
            | succ n =>
              rw [flat] at f
              cases rv
              obtain ⟨vs, h1, _, ra⟩ := so.at' k _ a q e
              obtain ⟨its, rv, ht, _⟩ := I.list (SqL.of h1)
              refine .lst (items := its.toArray) ht.isList ?_
              have go : ∀ {xs : List D} {vs : List V} {us : List Value}, RepAll X.K mg ρ H vs xs → Vals vs us → flatL (xs.map (deref m M)) n = true → SeesA s.heap us (xs.map (deref m M)) := by
                intro xs
                induction xs with
                | nil => intro vs us a b _; cases a; cases b; exact .nil
                | cons x xs ih =>
                  intro vs us a b f
                  cases a with
                  | cons a1 a2 =>
                    cases b with
                    | cons b1 b2 =>
                      rw [List.map_cons, flatL, Bool.and_eq_true] at f
                      exact .cons (Rep.seesR I so m a1 b1 f.1) (ih a2 b2 f.2)
              exact go ra rv f
          | _ => dsimp only at f; rw [flat] at f; cases f
    | _ =>
      rw [deref] at f ⊢
      · exact Rep.sees I r rv f
      all_goals (intro _ h; cases h)
end
end Py
set_option Elab.async false
set_option linter.all false
set_option maxRecDepth 100000
set_option maxHeartbeats 4000000
/-! # ==, !=, in of data -/
namespace Py
open PySem PySem.Spec PyProof.Rows L2 PySem.SeqAt

def eqAtI (xs ys : List D) (j : Nat) : Bool := match xs[j]?, ys[j]? with
  | some x, some y => eqDD x y
  | _, _ => false
theorem eqAtI_cons {x y : D} {xs ys : List D} {j : Nat} : eqAtI (x :: xs) (y :: ys) (j + 1) = eqAtI xs ys j := by unfold eqAtI; simp
theorem all_range_succ (n : Nat) (p : Nat → Bool) : (List.range (n + 1)).all p = (p 0 && (List.range n).all fun i => p (i + 1)) := by
  rw [List.range_succ_eq_map, List.all_cons, List.all_map]
  rfl
theorem eqLL_same : ∀ {xs ys : List D}, xs.length = ys.length → (List.range xs.length).all (eqAtI xs ys) = eqLL xs ys
  | [], [], _ => by rw [eqLL]; rfl
  | x :: xs, y :: ys, h => by
    rw [List.length_cons, all_range_succ, eqLL]
    have ih := eqLL_same (xs := xs) (ys := ys) (by simpa using h)
    rw [← ih]
    rfl
  | [], _ :: _, h => by simp at h
  | _ :: _, [], h => by simp at h
theorem eqLL_other {xs ys : List D} (h : xs.length ≠ ys.length) : eqLL xs ys = false := by
  cases q : eqLL xs ys with
  | false => rfl
  | true => exact absurd (eqLL_len q) h
theorem eqLL_min : ∀ {xs ys : List D}, ((List.range (min xs.length ys.length)).all (eqAtI xs ys) && xs.length == ys.length) = eqLL xs ys
  | [], [] => by rw [eqLL]; rfl
  | [], _ :: _ => by rw [eqLL_other (by simp)]; simp
  | _ :: _, [] => by rw [eqLL_other (by simp)]; simp
  | x :: xs, y :: ys => by
    have ih := eqLL_min (xs := xs) (ys := ys)
    rw [List.length_cons, List.length_cons, Nat.add_min_add_right, all_range_succ, eqLL, ← ih, Bool.and_assoc]
    have e : ((xs.length + 1 == ys.length + 1) : Bool) = (xs.length == ys.length) := by
      rw [Bool.eq_iff_iff, beq_iff_eq, beq_iff_eq]
      omega
    rw [e]
    rfl
mutual
theorem Sees.eqAt : ∀ {d e : D} {A : Around} {s : Shared} {a b : Value} {n m : Nat}, Sees s.heap a d → Sees s.heap b e → flat d n = true → flat e m = true → A.units + n < cLine → EqAt A s a b (eqDD d e)
  | .non, e, A, s, _, _, n, m, ra, rb, _, fe, hu => by
    have hu0 : A.units < cLine := by omega
    cases ra
    cases rb with
    | non => rw [eqDD]; exact EqAt.same _
    | bl y => rw [eqDD] <;> first | exact EqAt.none_bool y | simp
    | int y u => rw [eqDD] <;> first | exact EqAt.none_int y u | simp
    | str y u => rw [eqDD] <;> first | exact EqAt.none_str y u | simp
    | lst p _ => rw [eqDD] <;> first | exact EqAt.none_list p hu0 | simp
    | tup p _ => rw [eqDD] <;> first | exact EqAt.none_tuple p hu0 | simp
  | .bl x, e, A, s, _, _, n, m, ra, rb, _, fe, hu => by
    have hu0 : A.units < cLine := by omega
    cases ra
    cases rb with
    | non => rw [eqDD] <;> first | exact EqAt.bool_none x | simp
    | bl y => rw [eqDD]; exact EqAt.bool_bool x y
    | int y u => rw [eqDD]; exact EqAt.bool_int x y u
    | str y u => rw [eqDD] <;> first | exact EqAt.bool_str x y u | simp
    | lst p _ => rw [eqDD] <;> first | exact EqAt.bool_list x p hu0 | simp
    | tup p _ => rw [eqDD] <;> first | exact EqAt.bool_tuple x p hu0 | simp
  | .int x, e, A, s, _, _, n, m, ra, rb, _, fe, hu => by
    have hu0 : A.units < cLine := by omega
    cases ra with
    | int _ t =>
      cases rb with
      | non => rw [eqDD] <;> first | exact EqAt.int_none x t | simp
      | bl y => rw [eqDD]; exact EqAt.int_bool x t y
      | int y u => rw [eqDD]; exact EqAt.int_int x t y u
      | str y u => rw [eqDD] <;> first | exact EqAt.int_str x t y u | simp
      | lst p _ => rw [eqDD] <;> first | exact EqAt.int_list x t p hu0 | simp
      | tup p _ => rw [eqDD] <;> first | exact EqAt.int_tuple x t p hu0 | simp
  | .str x, e, A, s, _, _, n, m, ra, rb, _, fe, hu => by
    have hu0 : A.units < cLine := by omega
    cases ra with
    | str _ t =>
      cases rb with
      | non => rw [eqDD] <;> first | exact EqAt.str_none x t | simp
      | bl y => rw [eqDD] <;> first | exact EqAt.str_bool x t y | simp
      | int y u => rw [eqDD] <;> first | exact EqAt.str_int x t y u | simp
      | str y u => rw [eqDD]; exact EqAt.str_str x t y u
      | lst p _ => rw [eqDD] <;> first | exact EqAt.str_list x t p hu0 | simp
      | tup p _ => rw [eqDD] <;> first | exact EqAt.str_tuple x t p hu0 | simp
  | .lst xs, e, A, s, _, _, n, m, ra, rb, fd, fe, hu => by
    have hu0 : A.units < cLine := by omega
    cases n with
    | zero => rw [flat] at fd; cases fd
    | succ n =>
      rw [flat] at fd
      cases ra with
      | @lst l vs _ hl r =>
        cases rb with
        | non => rw [eqDD] <;> first | exact EqAt.list_none hl hu0 | simp
        | bl y => rw [eqDD] <;> first | exact EqAt.list_bool y hl hu0 | simp
        | int y u => rw [eqDD] <;> first | exact EqAt.list_int y u hl hu0 | simp
        | str y u => rw [eqDD] <;> first | exact EqAt.list_str y u hl hu0 | simp
        | tup p _ => rw [eqDD] <;> first | exact EqAt.list_tuple hl p hu0 | simp
        | @lst l' vs' ys hl' r' =>
          cases m with
          | zero => rw [flat] at fe; cases fe
          | succ m =>
            rw [flat] at fe
            rw [eqDD]
            have n1 : vs.size = xs.length := by simpa using r.length
            have n2 : vs'.size = ys.length := by simpa using r'.length
            by_cases hll : l = l'
            · subst hll
              have := isList_inj hl hl'
              subst this
              rw [SeesA.inj r r', eqLL_refl ys ⟨m, fe⟩]
              exact EqAt.same _
            · by_cases hsz : vs.size = vs'.size
              · rw [← eqLL_same (by omega : xs.length = ys.length), ← n1]
                refine EqAt.of_refs hll (RcAt.lists hl hl' hsz hu0 fun j j1 j2 => ?_)
                have := SeesA.eqAt (A := A.in1) r r' fd fe (by show A.units + 1 + n < cLine; omega) j (by simpa using j1) (by simpa using j2)
                simpa using this
              · rw [eqLL_other (by omega : xs.length ≠ ys.length)]
                exact EqAt.of_refs hll (RcAt.lists_lengths hl hl' (by simpa using hsz) hu0)
  | .tup xs, e, A, s, _, _, n, m, ra, rb, fd, fe, hu => by
    have hu0 : A.units < cLine := by omega
    cases n with
    | zero => rw [flat] at fd; cases fd
    | succ n =>
      rw [flat] at fd
      cases ra with
      | @tup l vs _ hl r =>
        cases rb with
        | non => rw [eqDD] <;> first | exact EqAt.tuple_none hl hu0 | simp
        | bl y => rw [eqDD] <;> first | exact EqAt.tuple_bool y hl hu0 | simp
        | int y u => rw [eqDD] <;> first | exact EqAt.tuple_int y u hl hu0 | simp
        | str y u => rw [eqDD] <;> first | exact EqAt.tuple_str y u hl hu0 | simp
        | lst p _ => rw [eqDD] <;> first | exact EqAt.tuple_list hl p hu0 | simp
        | @tup l' vs' ys hl' r' =>
          cases m with
          | zero => rw [flat] at fe; cases fe
          | succ m =>
            rw [flat] at fe
            rw [eqDD]
            have n1 : vs.size = xs.length := by simpa using r.length
            have n2 : vs'.size = ys.length := by simpa using r'.length
            by_cases hll : l = l'
            · subst hll
              have := isTuple_inj hl hl'
              subst this
              rw [SeesA.inj r r', eqLL_refl ys ⟨m, fe⟩]
              exact EqAt.same _
            · rw [← eqLL_min, ← n1, ← n2]
              refine EqAt.of_refs hll (RcAt.tuples hl hl' hu0 fun j j1 j2 => ?_)
              have := SeesA.eqAt (A := A.in1) r r' fd fe (by show A.units + 1 + n < cLine; omega) j (by simpa using j1) (by simpa using j2)
              simpa using this
  | .obj _ _ _, _, _, _, _, _, _, _, ra, _, _, _, _ => nomatch ra
  | .ref _, _, _, _, _, _, _, _, ra, _, _, _, _ => nomatch ra
theorem SeesA.eqAt : ∀ {xs ys : List D} {A : Around} {s : Shared} {vs ws : List Value} {n m : Nat}, SeesA s.heap vs xs → SeesA s.heap ws ys → flatL xs n = true → flatL ys m = true → A.units + n < cLine →
    ∀ j (h1 : j < vs.length) (h2 : j < ws.length), EqAt A s vs[j] ws[j] (eqAtI xs ys j)
  | [], _, _, _, _, _, _, _, ra, _, _, _, _, j, h1, _ => by cases ra; exact absurd h1 (Nat.not_lt_zero _)
  | _ :: _, [], _, _, _, _, _, _, _, rb, _, _, _, j, _, h2 => by cases rb; exact absurd h2 (Nat.not_lt_zero _)
  | x :: xs, y :: ys, A, s, _, _, n, m, ra, rb, fd, fe, hu, j, h1, h2 => by
    rw [flatL, Bool.and_eq_true] at fd fe
    cases ra with
    | cons r rs =>
      cases rb with
      | cons r' rs' =>
        cases j with
        | zero => exact Sees.eqAt r r' fd.1 fe.1 hu
        | succ j =>
          rw [eqAtI_cons]
          exact SeesA.eqAt rs rs' fd.2 fe.2 hu j (Nat.lt_of_succ_lt_succ h1) (Nat.lt_of_succ_lt_succ h2)
end
/-- richCompare .Eq of two different objects, or of others -/
theorem Sees.rcAt {d e : D} {A : Around} {s : Shared} {a b : Value} {n m : Nat} (ra : Sees s.heap a d) (rb : Sees s.heap b e) (fd : flat d n = true) (fe : flat e m = true) (hu : A.units + n < cLine) : RcAt A s a b (eqDD d e) := by
  have hu0 : A.units < cLine := by omega
  cases ra with
  | non =>
    cases rb with
    | non => rw [eqDD]; exact RcAt.none_none
    | bl y => rw [eqDD] <;> first | exact RcAt.none_bool y | simp
    | int y u => rw [eqDD] <;> first | exact RcAt.none_int y u | simp
    | str y u => rw [eqDD] <;> first | exact RcAt.none_str y u | simp
    | lst p _ => rw [eqDD] <;> first | exact RcAt.none_list p hu0 | simp
    | tup p _ => rw [eqDD] <;> first | exact RcAt.none_tuple p hu0 | simp
  | bl x =>
    cases rb with
    | non => rw [eqDD] <;> first | exact RcAt.bool_none x | simp
    | bl y => rw [eqDD]; exact RcAt.bool_bool x y
    | int y u => rw [eqDD]; exact RcAt.bool_int x y u
    | str y u => rw [eqDD] <;> first | exact RcAt.bool_str x y u | simp
    | lst p _ => rw [eqDD] <;> first | exact RcAt.bool_list x p hu0 | simp
    | tup p _ => rw [eqDD] <;> first | exact RcAt.bool_tuple x p hu0 | simp
  | int x t =>
    cases rb with
    | non => rw [eqDD] <;> first | exact RcAt.int_none x t | simp
    | bl y => rw [eqDD]; exact RcAt.int_bool x t y
    | int y u => rw [eqDD]; exact RcAt.int_int x t y u
    | str y u => rw [eqDD] <;> first | exact RcAt.int_str x t y u | simp
    | lst p _ => rw [eqDD] <;> first | exact RcAt.int_list x t p hu0 | simp
    | tup p _ => rw [eqDD] <;> first | exact RcAt.int_tuple x t p hu0 | simp
  | str x t =>
    cases rb with
    | non => rw [eqDD] <;> first | exact RcAt.str_none x t | simp
    | bl y => rw [eqDD] <;> first | exact RcAt.str_bool x t y | simp
    | int y u => rw [eqDD] <;> first | exact RcAt.str_int x t y u | simp
    | str y u => rw [eqDD]; exact RcAt.str_str x t y u
    | lst p _ => rw [eqDD] <;> first | exact RcAt.str_list x t p hu0 | simp
    | tup p _ => rw [eqDD] <;> first | exact RcAt.str_tuple x t p hu0 | simp
  | @lst l vs xs hl r =>
    cases n with
    | zero => rw [flat] at fd; cases fd
    | succ n =>
      rw [flat] at fd
      cases rb with
      | @lst l' vs' ys hl' r' =>
        cases m with
        | zero => rw [flat] at fe; cases fe
        | succ m =>
          rw [flat] at fe
          rw [eqDD]
          have n1 : vs.size = xs.length := by simpa using r.length
          have n2 : vs'.size = ys.length := by simpa using r'.length
          by_cases hsz : vs.size = vs'.size
          · rw [← eqLL_same (by omega : xs.length = ys.length), ← n1]
            refine RcAt.lists hl hl' hsz hu0 fun j j1 j2 => ?_
            have := SeesA.eqAt (A := A.in1) r r' fd fe (by show A.units + 1 + n < cLine; omega) j (by simpa using j1) (by simpa using j2)
            simpa using this
          · rw [eqLL_other (by omega : xs.length ≠ ys.length)]
            exact RcAt.lists_lengths hl hl' (by simpa using hsz) hu0
      | non => rw [eqDD] <;> first | exact RcAt.list_none hl hu0 | simp
      | bl y => rw [eqDD] <;> first | exact RcAt.list_bool y hl hu0 | simp
      | int y u => rw [eqDD] <;> first | exact RcAt.list_int y u hl hu0 | simp
      | str y u => rw [eqDD] <;> first | exact RcAt.list_str y u hl hu0 | simp
      | tup p _ => rw [eqDD] <;> first | exact RcAt.list_tuple hl p hu0 | simp
  | @tup l vs xs hl r =>
    cases n with
    | zero => rw [flat] at fd; cases fd
    | succ n =>
      rw [flat] at fd
      cases rb with
      | @tup l' vs' ys hl' r' =>
        cases m with
        | zero => rw [flat] at fe; cases fe
        | succ m =>
          rw [flat] at fe
          rw [eqDD]
          have n1 : vs.size = xs.length := by simpa using r.length
          have n2 : vs'.size = ys.length := by simpa using r'.length
          rw [← eqLL_min, ← n1, ← n2]
          refine RcAt.tuples hl hl' hu0 fun j j1 j2 => ?_
          have := SeesA.eqAt (A := A.in1) r r' fd fe (by show A.units + 1 + n < cLine; omega) j (by simpa using j1) (by simpa using j2)
          simpa using this
      | non => rw [eqDD] <;> first | exact RcAt.tuple_none hl hu0 | simp
      | bl y => rw [eqDD] <;> first | exact RcAt.tuple_bool y hl hu0 | simp
      | int y u => rw [eqDD] <;> first | exact RcAt.tuple_int y u hl hu0 | simp
      | str y u => rw [eqDD] <;> first | exact RcAt.tuple_str y u hl hu0 | simp
      | lst p _ => rw [eqDD] <;> first | exact RcAt.tuple_list hl p hu0 | simp
theorem Sees.rcNeAt {d e : D} {A : Around} {s : Shared} {a b : Value} {n m : Nat} (ra : Sees s.heap a d) (rb : Sees s.heap b e) (fd : flat d n = true) (fe : flat e m = true) (hu : A.units + n < cLine) : RcNeAt A s a b (!eqDD d e) := by
  have hu0 : A.units < cLine := by omega
  cases ra with
  | non =>
    cases rb with
    | non => rw [eqDD]; exact RcNeAt.none_none
    | bl y => rw [eqDD] <;> first | exact RcNeAt.none_bool y | simp
    | int y u => rw [eqDD] <;> first | exact RcNeAt.none_int y u | simp
    | str y u => rw [eqDD] <;> first | exact RcNeAt.none_str y u | simp
    | lst p _ => rw [eqDD] <;> first | exact RcNeAt.none_list p hu0 | simp
    | tup p _ => rw [eqDD] <;> first | exact RcNeAt.none_tuple p hu0 | simp
  | bl x =>
    cases rb with
    | non => rw [eqDD] <;> first | exact RcNeAt.bool_none x | simp
    | bl y => rw [eqDD]; exact RcNeAt.bool_bool x y
    | int y u => rw [eqDD]; exact RcNeAt.bool_int x y u
    | str y u => rw [eqDD] <;> first | exact RcNeAt.bool_str x y u | simp
    | lst p _ => rw [eqDD] <;> first | exact RcNeAt.bool_list x p hu0 | simp
    | tup p _ => rw [eqDD] <;> first | exact RcNeAt.bool_tuple x p hu0 | simp
  | int x t =>
    cases rb with
    | non => rw [eqDD] <;> first | exact RcNeAt.int_none x t | simp
    | bl y => rw [eqDD]; exact RcNeAt.int_bool x t y
    | int y u => rw [eqDD]; exact RcNeAt.int_int x t y u
    | str y u => rw [eqDD] <;> first | exact RcNeAt.int_str x t y u | simp
    | lst p _ => rw [eqDD] <;> first | exact RcNeAt.int_list x t p hu0 | simp
    | tup p _ => rw [eqDD] <;> first | exact RcNeAt.int_tuple x t p hu0 | simp
  | str x t =>
    cases rb with
    | non => rw [eqDD] <;> first | exact RcNeAt.str_none x t | simp
    | bl y => rw [eqDD] <;> first | exact RcNeAt.str_bool x t y | simp
    | int y u => rw [eqDD] <;> first | exact RcNeAt.str_int x t y u | simp
    | str y u => rw [eqDD]; exact RcNeAt.str_str x t y u
    | lst p _ => rw [eqDD] <;> first | exact RcNeAt.str_list x t p hu0 | simp
    | tup p _ => rw [eqDD] <;> first | exact RcNeAt.str_tuple x t p hu0 | simp
  | @lst l vs xs hl r =>
    cases n with
    | zero => rw [flat] at fd; cases fd
    | succ n =>
      rw [flat] at fd
      cases rb with
      | @lst l' vs' ys hl' r' =>
        cases m with
        | zero => rw [flat] at fe; cases fe
        | succ m =>
          rw [flat] at fe
          rw [eqDD]
          have n1 : vs.size = xs.length := by simpa using r.length
          have n2 : vs'.size = ys.length := by simpa using r'.length
          by_cases hsz : vs.size = vs'.size
          · rw [← eqLL_same (by omega : xs.length = ys.length), ← n1]
            refine RcNeAt.lists hl hl' hsz hu0 fun j j1 j2 => ?_
            have := SeesA.eqAt (A := A.in1) r r' fd fe (by show A.units + 1 + n < cLine; omega) j (by simpa using j1) (by simpa using j2)
            simpa using this
          · rw [eqLL_other (by omega : xs.length ≠ ys.length)]
            exact RcNeAt.lists_lengths hl hl' (by simpa using hsz) hu0
      | non => rw [eqDD] <;> first | exact RcNeAt.list_none hl hu0 | simp
      | bl y => rw [eqDD] <;> first | exact RcNeAt.list_bool y hl hu0 | simp
      | int y u => rw [eqDD] <;> first | exact RcNeAt.list_int y u hl hu0 | simp
      | str y u => rw [eqDD] <;> first | exact RcNeAt.list_str y u hl hu0 | simp
      | tup p _ => rw [eqDD] <;> first | exact RcNeAt.list_tuple hl p hu0 | simp
  | @tup l vs xs hl r =>
    cases n with
    | zero => rw [flat] at fd; cases fd
    | succ n =>
      rw [flat] at fd
      cases rb with
      | @tup l' vs' ys hl' r' =>
        cases m with
        | zero => rw [flat] at fe; cases fe
        | succ m =>
          rw [flat] at fe
          rw [eqDD]
          have n1 : vs.size = xs.length := by simpa using r.length
          have n2 : vs'.size = ys.length := by simpa using r'.length
          rw [← eqLL_min, ← n1, ← n2]
          refine RcNeAt.tuples hl hl' hu0 fun j j1 j2 => ?_
          have := SeesA.eqAt (A := A.in1) r r' fd fe (by show A.units + 1 + n < cLine; omega) j (by simpa using j1) (by simpa using j2)
          simpa using this
      | non => rw [eqDD] <;> first | exact RcNeAt.tuple_none hl hu0 | simp
      | bl y => rw [eqDD] <;> first | exact RcNeAt.tuple_bool y hl hu0 | simp
      | int y u => rw [eqDD] <;> first | exact RcNeAt.tuple_int y u hl hu0 | simp
      | str y u => rw [eqDD] <;> first | exact RcNeAt.tuple_str y u hl hu0 | simp
      | lst p _ => rw [eqDD] <;> first | exact RcNeAt.tuple_list hl p hu0 | simp
end Py
set_option Elab.async false
set_option linter.all false
set_option maxRecDepth 100000
set_option maxHeartbeats 4000000
/-! # The operators ==, !=, in, not in, <, is; places; len -/
namespace Py
open PySem PySem.Spec PyProof.Rows L2 PySem.SeqAt

/-- as deep as data are compared -/
abbrev dp : Nat := 40
def eqD : F2 := fun M d e => if flat (deref 4 M d) dp = true ∧ flat (deref 4 M e) dp = true then some (.bl (eqDD (deref 4 M d) (deref 4 M e))) else none
def neD : F2 := fun M d e => if flat (deref 4 M d) dp = true ∧ flat (deref 4 M e) dp = true then some (.bl (!eqDD (deref 4 M d) (deref 4 M e))) else none
/-- the items of a list or tuple -/
def itemsD : D → Option (List D)
  | .lst xs => some xs
  | .tup xs => some xs
  | _ => none
def strIn (x t : Str) : Bool := if x.cps.size = 1 then decide (x.cps.getD 0 0 ∈ t.cps.toList) else !(Builtin.Str.occurrences t x 0 t.length 1).isEmpty
def inD : F2 := fun M d e => match d, e with
  | .str x, .str t => some (.bl (strIn x t))
  | d, e => (itemsD (deref 4 M e)).bind fun ys => if flat (deref 4 M d) dp = true ∧ flatL ys dp = true then some (.bl (ys.any fun y => eqDD y (deref 4 M d))) else none
def notInD : F2 := fun M d e => match d, e with
  | .str x, .str t => some (.bl (!strIn x t))
  | d, e => (itemsD (deref 4 M e)).bind fun ys => if flat (deref 4 M d) dp = true ∧ flatL ys dp = true then some (.bl (!ys.any fun y => eqDD y (deref 4 M d))) else none
section
variable {X : Cx} {mg : Str → Option Value}
theorem o_eq (hu : X.A.units + 64 < cLine) : OpR X (compareOp .Eq) (r2D X.K mg eqD) := by
  rintro pins s σ H x y v u Q I rx ry ⟨ρ, M, d, e, z, so, r1, r2, hF, q⟩
  have hF : (if flat (deref 4 M d) dp = true ∧ flat (deref 4 M e) dp = true then some (D.bl (eqDD (deref 4 M d) (deref 4 M e))) else none) = some z := hF
  by_cases c : flat (deref 4 M d) dp = true ∧ flat (deref 4 M e) dp = true
  · rw [if_pos c] at hF
    cases hF
    have s1 := Rep.seesR I so 4 r1 rx c.1
    have s2 := Rep.seesR I so 4 r2 ry c.2
    exact Sees.rcAt s1 s2 c.1 c.2 (by show X.A.units + 40 < cLine; omega) X.prog X.w X.xe _ ⟨.bl _, H, I, rfl, q _ H Step.refl so (.bl _)⟩
  · rw [if_neg c] at hF; cases hF
theorem o_ne (hu : X.A.units + 64 < cLine) : OpR X (compareOp .NotEq) (r2D X.K mg neD) := by
  rintro pins s σ H x y v u Q I rx ry ⟨ρ, M, d, e, z, so, r1, r2, hF, q⟩
  have hF : (if flat (deref 4 M d) dp = true ∧ flat (deref 4 M e) dp = true then some (D.bl (!eqDD (deref 4 M d) (deref 4 M e))) else none) = some z := hF
  by_cases c : flat (deref 4 M d) dp = true ∧ flat (deref 4 M e) dp = true
  · rw [if_pos c] at hF
    cases hF
    have s1 := Rep.seesR I so 4 r1 rx c.1
    have s2 := Rep.seesR I so 4 r2 ry c.2
    exact Sees.rcNeAt s1 s2 c.1 c.2 (by show X.A.units + 40 < cLine; omega) X.prog X.w X.xe _ ⟨.bl _, H, I, rfl, q _ H Step.refl so (.bl _)⟩
  · rw [if_neg c] at hF; cases hF
open Classical in
/-- what == says of a value against d -/
noncomputable def seesEq (h : Heap) (d : D) (u : Value) : Bool := if q : ∃ e, Sees h u e then eqDD q.choose d else false
theorem seesEq_of {h : Heap} {d e : D} {u : Value} (r : Sees h u e) : seesEq h d u = eqDD e d := by
  have q : ∃ e, Sees h u e := ⟨e, r⟩
  unfold seesEq
  rw [dif_pos q, Sees.inj q.choose_spec r]
theorem any_seesEq {h : Heap} {d : D} : ∀ {us : List Value} {es : List D}, SeesA h us es → us.any (seesEq h d) = es.any fun e => eqDD e d
  | _, _, .nil => rfl
  | _, _, .cons a b => by rw [List.any_cons, List.any_cons, seesEq_of a, any_seesEq b]
theorem mem_seesEq {A : Around} {s : Shared} {d : D} {x : Value} {n m : Nat} (rx : Sees s.heap x d) (fx : flat d n = true) : ∀ {us : List Value} {es : List D}, SeesA s.heap us es → flatL es m = true → A.units + m < cLine → ∀ u ∈ us, EqAt A s u x (seesEq s.heap d u)
  | _, _, .nil, _, _, u, hm => by simp at hm
  | _, _, .cons a b, f, hu, u, hm => by
    rw [flatL, Bool.and_eq_true] at f
    rcases List.mem_cons.mp hm with e | hm
    · subst e
      rw [seesEq_of a]
      exact Sees.eqAt a rx f.1 fx hu
    · exact mem_seesEq rx fx b f.2 hu u hm
/-- in, on a list or a tuple -/
theorem in_go (hu : X.A.units + 64 < cLine) {pins : List (Addr × Obj)} {s : Shared} {σ : L2.St} {H : Hp} {v u : Value} {E : Value → Shared → Prop} {P : Value → Shared → Prop} {d c : D} {ys : List D} (I : Inv X pins σ H s) (r1 : Sees s.heap v d) (r2 : Sees s.heap u c) (hi : itemsD c = some ys)
    (f1 : flat d dp = true) (f2 : flatL ys dp = true) (b : Bool) (q : P (.bool (if b then !(ys.any fun y => eqDD y d) else ys.any fun y => eqDD y d)) s) :
    wpAny (model X.prog X.w) X.A (compareOp (if b then .NotIn else .In) v u) P E s := by
  have go : ∀ {items : Array Value}, SeesA s.heap items.toList ys → (∀ y, y ∈ items → EqAt X.A.in1 s y v (seesEq s.heap d y)) ∧ items.any (seesEq s.heap d) = ys.any fun y => eqDD y d := by
    intro items r
    refine ⟨fun y hy => mem_seesEq r1 f1 r f2 (by show X.A.units + 1 + 40 < cLine; omega) y (Array.mem_toList_iff.mpr hy), ?_⟩
    rw [← Array.any_toList]
    exact any_seesEq r
  cases r2 with
  | lst p r =>
    cases hi
    obtain ⟨g1, g2⟩ := go r
    rw [← g2] at q
    cases b with
    | true => exact notIn_listAt _ p g1 q
    | false => exact in_listAt _ p g1 q
  | tup p r =>
    cases hi
    obtain ⟨g1, g2⟩ := go r
    rw [← g2] at q
    cases b with
    | true => exact notIn_tupleAt _ p g1 q
    | false => exact in_tupleAt _ p g1 q
  | _ => cases hi
theorem one_sign {x : Str} (h : x.cps.size = 1) : x = ⟨#[x.cps.getD 0 0]⟩ := by
  obtain ⟨⟨l⟩⟩ := x
  cases l with
  | nil => simp at h
  | cons a r =>
    cases r with
    | nil => rfl
    | cons _ _ => simp at h
theorem o_in (hu : X.A.units + 64 < cLine) : OpR X (compareOp .In) (r2D X.K mg inD) := by
  rintro pins s σ H x y v u Q I rx ry ⟨ρ, M, d, e, z, so, r1, r2, hF, q⟩
  have seq : ((itemsD (deref 4 M e)).bind fun ys => if flat (deref 4 M d) dp = true ∧ flatL ys dp = true then some (D.bl (ys.any fun y => eqDD y (deref 4 M d))) else none) = some z → wpAny (model X.prog X.w) X.A (compareOp .In v u) (EP X pins σ Q) X.xe s := by
    intro hF
    cases hi : itemsD (deref 4 M e) with
    | none => rw [hi] at hF; cases hF
    | some ys =>
      rw [hi] at hF
      have hF : (if flat (deref 4 M d) dp = true ∧ flatL ys dp = true then some (D.bl (ys.any fun y => eqDD y (deref 4 M d))) else none) = some z := hF
      by_cases c : flat (deref 4 M d) dp = true ∧ flatL ys dp = true
      · rw [if_pos c] at hF
        cases hF
        have f3 : flat (deref 4 M e) (dp + 1) = true := by
          revert hi
          cases deref 4 M e <;> intro hi <;> first | (cases hi; done) | skip
          all_goals (cases hi; rw [flat]; exact c.2)
        have s1 := Rep.seesR I so 4 r1 rx c.1
        have s2 := Rep.seesR I so 4 r2 ry f3
        exact in_go hu I s1 s2 hi c.1 c.2 false ⟨.bl _, H, I, rfl, q _ H Step.refl so (.bl _)⟩
      · rw [if_neg c] at hF; cases hF
  cases r1 with
  | str a =>
    cases r2 with
    | str b =>
      cases hF
      unfold strIn at q
      by_cases h1 : a.cps.size = 1
      · rw [if_pos h1] at q
        rw [one_sign h1] at rx
        exact op_in_sign pins s σ H _ _ v u Q I rx ry ⟨_, b, rfl, rfl, q _ H Step.refl so (.bl _)⟩
      · rw [if_neg h1] at q
        exact op_in_str pins s σ H _ _ v u Q I rx ry ⟨a, b, rfl, rfl, q _ H Step.refl so (.bl _)⟩
    | _ => exact seq hF
  | _ => exact seq hF
theorem o_notIn (hu : X.A.units + 64 < cLine) : OpR X (compareOp .NotIn) (r2D X.K mg notInD) := by
  rintro pins s σ H x y v u Q I rx ry ⟨ρ, M, d, e, z, so, r1, r2, hF, q⟩
  have seq : ((itemsD (deref 4 M e)).bind fun ys => if flat (deref 4 M d) dp = true ∧ flatL ys dp = true then some (D.bl (!ys.any fun y => eqDD y (deref 4 M d))) else none) = some z → wpAny (model X.prog X.w) X.A (compareOp .NotIn v u) (EP X pins σ Q) X.xe s := by
    intro hF
    cases hi : itemsD (deref 4 M e) with
    | none => rw [hi] at hF; cases hF
    | some ys =>
      rw [hi] at hF
      have hF : (if flat (deref 4 M d) dp = true ∧ flatL ys dp = true then some (D.bl (!ys.any fun y => eqDD y (deref 4 M d))) else none) = some z := hF
      by_cases c : flat (deref 4 M d) dp = true ∧ flatL ys dp = true
      · rw [if_pos c] at hF
        cases hF
        have f3 : flat (deref 4 M e) (dp + 1) = true := by
          revert hi
          cases deref 4 M e <;> intro hi <;> first | (cases hi; done) | skip
          all_goals (cases hi; rw [flat]; exact c.2)
        have s1 := Rep.seesR I so 4 r1 rx c.1
        have s2 := Rep.seesR I so 4 r2 ry f3
        exact in_go hu I s1 s2 hi c.1 c.2 true ⟨.bl _, H, I, rfl, q _ H Step.refl so (.bl _)⟩
      · rw [if_neg c] at hF; cases hF
  cases r1 with
  | str a =>
    cases r2 with
    | str b =>
      cases hF
      unfold strIn at q
      by_cases h1 : a.cps.size = 1
      · rw [if_pos h1] at q
        rw [one_sign h1] at rx
        exact op_notIn_sign pins s σ H _ _ v u Q I rx ry ⟨_, b, rfl, rfl, q _ H Step.refl so (.bl _)⟩
      · rw [if_neg h1] at q
        exact op_notIn_str pins s σ H _ _ v u Q I rx ry ⟨a, b, rfl, rfl, q _ H Step.refl so (.bl _)⟩
    | _ => exact seq hF
  | _ => exact seq hF
/-! ### is -/
def isN (neg : Bool) : F2 := fun _ d e => match e with
  | .non => some (.bl (if neg then (match d with | .non => false | _ => true) else (match d with | .non => true | _ => false)))
  | .bl b => match d with
    | .bl a => some (.bl (if neg then a != b else a == b))
    | _ => none
  | _ => none
theorem o_is : OpR X (compareOp .Is) (r2D X.K mg (isN false)) := by
  rintro pins s σ H x y v u Q I rx ry ⟨ρ, M, d, e, z, so, r1, r2, hF, q⟩
  cases r2 with
  | non =>
    cases r1 with
    | non => cases hF; exact op_isN pins s σ H _ _ v u Q I rx ry ⟨rfl, q _ H Step.refl so (.bl _)⟩
    | _ => cases hF; exact op_isN pins s σ H _ _ v u Q I rx ry ⟨rfl, q _ H Step.refl so (.bl _)⟩
  | bl b =>
    cases r1 with
    | bl a =>
      cases hF
      refine op_isBl pins s σ H _ _ v u Q I rx ry ⟨a, b, rfl, rfl, ?_⟩
      rw [show decide (a = b) = (if false = true then a != b else a == b) by cases a <;> cases b <;> rfl]
      exact q _ H Step.refl so (.bl _)
    | _ => cases hF
  | _ => cases hF
theorem o_isNot : OpR X (compareOp .IsNot) (r2D X.K mg (isN true)) := by
  rintro pins s σ H x y v u Q I rx ry ⟨ρ, M, d, e, z, so, r1, r2, hF, q⟩
  cases r2 with
  | non =>
    cases r1 with
    | non => cases hF; exact op_notN pins s σ H _ _ v u Q I rx ry ⟨rfl, q _ H Step.refl so (.bl _)⟩
    | _ => cases hF; exact op_notN pins s σ H _ _ v u Q I rx ry ⟨rfl, q _ H Step.refl so (.bl _)⟩
  | bl b =>
    cases r1 with
    | bl a =>
      cases hF
      refine op_notBl pins s σ H _ _ v u Q I rx ry ⟨a, b, rfl, rfl, ?_⟩
      rw [show (!decide (a = b)) = (if true = true then a != b else a == b) by cases a <;> cases b <;> rfl]
      exact q _ H Step.refl so (.bl _)
    | _ => cases hF
  | _ => cases hF
/-! ### <, <=, >, >= of ints and texts -/
def cmpIS (p : Int → Int → Bool) (t : Str → Str → Bool) : F2 := fun _ d e => match d, e with
  | .int i, .int j => some (.bl (p i j))
  | .str x, .str y => some (.bl (t x y))
  | _, _ => none
def ltS (x y : Str) : Bool := decide (x.cps.toList < y.cps.toList)
theorem o_ltIS {op : CmpOp} {p : Int → Int → Bool} {t : Str → Str → Bool} (h1 : OpR X (compareOp op) (rI0 fun i j => .bl (p i j))) (h2 : OpR X (compareOp op) (fun x y H Q => ∃ i j, x = .str i ∧ y = .str j ∧ Q (.bl (t i j)) H)) :
    OpR X (compareOp op) (r2D X.K mg (cmpIS p t)) := by
  rintro pins s σ H x y v u Q I rx ry ⟨ρ, M, d, e, z, so, r1, r2, hF, q⟩
  cases r1 <;> cases r2 <;> first | (cases hF; done) | skip
  · cases hF
    exact opII0 h1 I rx ry (q _ H Step.refl so (.bl _))
  · cases hF
    exact h2 pins s σ H _ _ v u Q I rx ry ⟨_, _, rfl, rfl, q _ H Step.refl so (.bl _)⟩
def ltIS : F2 := cmpIS (fun i j => decide (i < j)) (fun x y => decide (x.cps.toList < y.cps.toList))
theorem o_lt0 : OpR X (compareOp .Lt) (r2D X.K mg ltIS) := o_ltIS op_lt op_lt_str
end
end Py
set_option Elab.async false
set_option linter.all false
set_option maxRecDepth 100000
set_option maxHeartbeats 4000000
/-! # Places, slices, len, made lists and tuples, methods of lists -/
namespace Py
open PySem PySem.Spec PyProof.Rows L2 PySem.SeqAt

/-- x[i] -/
def ixD : F2 := fun M d e => match e with
  | .int i => match d with
    | .str x => if x.length ≤ sz then (atI x.cps.toList i).map fun c => .str ⟨#[c]⟩ else none
    | .tup xs => atI xs i
    | d => (listD M d).bind fun xs => atI xs i
  | _ => none
theorem atI_rep {K : PySem.W.Frag} {mg : Str → Option Value} {ρ : Pl} {H : Hp} {vs : List V} {xs : List D} {i : Int} {d : D} (r : RepAll K mg ρ H vs xs) (h : atI xs i = some d) : ∃ v, atI vs i = some v ∧ Rep K mg ρ H v d := by
  unfold atI at h ⊢
  rw [r.length]
  cases q : ixN xs.length i with
  | none => rw [q] at h; cases h
  | some j =>
    rw [q] at h
    exact r.get h
section
variable {X : Cx} {mg : Str → Option Value}
theorem o_ix : IxR X (r2D X.K mg ixD) := by
  rintro value slice pins s σ H x y v u Q I rx ry ⟨ρ, M, d, e, z, so, r1, r2, hF, q⟩ hs
  have lists : ∀ {d : D} {i : Int}, y = .int i → Rep X.K mg ρ H x d → ((listD M d).bind fun xs => atI xs i) = some z → wpAny (model X.prog X.w) X.A (subscriptTail value slice v u) (EP X pins σ Q) X.xe s := by
    intro d i e r1 hF
    subst e
    cases q1 : listD M d with
    | none => rw [q1] at hF; cases hF
    | some xs =>
      rw [q1] at hF
      obtain ⟨a, vs, rfl, sq, l, ra, _⟩ := listD_ok so r1 q1
      obtain ⟨w, h1, h2⟩ := atI_rep ra hF
      exact ix_list value slice pins s σ H _ _ v u Q I rx ry ⟨a, vs, i, w, rfl, rfl, sq, h1, q _ H Step.refl so h2⟩ hs
  cases r2 with
  | int i =>
    cases d with
    | str x =>
      cases r1
      have hF : (if x.length ≤ sz then (atI x.cps.toList i).map fun c => D.str ⟨#[c]⟩ else none) = some z := hF
      by_cases c : x.length ≤ sz
      · rw [if_pos c] at hF
        cases q1 : atI x.cps.toList i with
        | none => rw [q1] at hF; cases hF
        | some c' =>
          rw [q1] at hF
          cases hF
          exact ix_str value slice pins s σ H _ _ v u Q I rx ry ⟨x, i, c', rfl, rfl, by rw [← sz_eq]; exact c, q1, q _ H Step.refl so (.str _)⟩ hs
      · rw [if_neg c] at hF; cases hF
    | tup xs =>
      cases r1 with
      | @tup a vs _ zz l ra =>
        obtain ⟨w, h1, h2⟩ := atI_rep ra (show atI xs i = some z from hF)
        exact ix_tup value slice pins s σ H _ _ v u Q I rx ry ⟨a, vs, i, w, rfl, rfl, zz.sq, h1, q _ H Step.refl so h2⟩ hs
    | lst xs => exact lists rfl r1 hF
    | ref k => exact lists rfl r1 hF
    | non => cases hF
    | bl _ => cases hF
    | int _ => cases hF
    | obj _ _ _ => cases hF
  | _ => cases hF
/-- the same read by getItem (in o[i] op= v), of a list -/
def getLD : F2 := fun M d e => match e with
  | .int i => (listD M d).bind fun xs => atI xs i
  | _ => none
theorem o_getL : PGet X (r2D X.K mg getLD) := by
  rintro pins s σ H o i ov iv Q I ro ri ⟨ρ, M, d, e, z, so, r1, r2, hF, q⟩
  cases r2 with
  | int i =>
    have hF : ((listD M d).bind fun xs => atI xs i) = some z := hF
    cases q1 : listD M d with
    | none => rw [q1] at hF; cases hF
    | some xs =>
      rw [q1] at hF
      obtain ⟨a, vs, rfl, sq, l, ra, _⟩ := listD_ok so r1 q1
      obtain ⟨w, h1, h2⟩ := atI_rep ra hF
      cases ro
      obtain ⟨t, rfl⟩ := ri
      obtain ⟨its, rv, pl, _⟩ := I.list sq
      obtain ⟨j, j1, j2, j3, j4, j5⟩ := atI_get h1
      obtain ⟨u, hu, ru⟩ := rv.get j2
      have hl := rv.length
      have hn := line63
      have fin : EP X pins σ Q u s := ⟨w, H, I, ru, q _ H Step.refl so h2⟩
      by_cases h0 : 0 ≤ i
      · have hj : i.toNat = j := by
          rw [seqIndex_of h0 j5] at j1
          exact Option.some.inj j1
        exact wpAny_getItem_list pl.isList h0 (by omega) (by rw [hj]; simpa using hu) fin
      · have hj : (i + (its.toArray.size : Int)).toNat = j := by
          rw [seqIndex_neg (by omega) j4] at j1
          rw [List.size_toArray, ← hl]
          exact Option.some.inj j1
        exact wpAny_getItem_list_neg pl.isList (by omega) (by rw [List.size_toArray]; omega) (by omega) (by rw [hj]; simpa using hu) fin
  | _ => cases hF
/-- x[i] = v, x a list's handle -/
def setLD : FSet := fun M o i v => match o, i with
  | .ref k, .int j => match M[k]? with
    | some (.lst xs) => (ixN xs.length j).map fun n => M.set k (.lst (xs.set n v))
    | _ => none
  | _, _ => none
theorem o_setL : PSet X (rsD X.K mg setLD) := by
  rintro pins s σ H o i v ov iv u Q I ro ri rv ⟨ρ, M, d, e, z, M', so, r1, r2, r3, hF, q⟩
  cases r1 with
  | @ref k a ek =>
    cases r2 with
    | int j =>
      have hF : (match M[k]? with | some (.lst xs) => (ixN xs.length j).map fun n => M.set k (.lst (xs.set n z)) | _ => none) = some M' := hF
      cases q1 : M[k]? with
      | none => rw [q1] at hF; cases hF
      | some ob =>
        rw [q1] at hF
        cases ob with
        | lst xs =>
          dsimp only at hF
          cases q2 : ixN xs.length j with
          | none => rw [q2] at hF; cases hF
          | some n =>
            rw [q2] at hF
            cases hF
            obtain ⟨vs, h1, l, ra⟩ := so.at' k _ a q1 ek
            have st : Step ρ H ρ (upd H a (.lst (vs.set n v))) := Step.write (List.mem_of_getElem? ek)
            exact set_list pins s σ H _ _ _ ov iv u Q I ro ri rv ⟨a, vs, j, n, rfl, rfl, h1, by rw [ra.length]; exact q2, q ρ _ st (so.write ek ⟨_, upd_same, by rw [List.length_set]; exact l, (ra.set r3 n).step st⟩)⟩
        | _ => cases hF
    | _ => cases hF
  | _ => cases hF

/-! ### len -/
def lenD : FN := fun M ds => match ds with
  | [.str x] => if x.length ≤ sz then some (.int x.length, M) else none
  | [.tup xs] => some (.int xs.length, M)
  | [d] => match d with
    | .ref k => match M[k]? with
      | some (.lst xs) => some (.int xs.length, M)
      | some (.dK kvs) => some (.int kvs.length, M)
      | _ => none
    | .lst xs => some (.int xs.length, M)
    | _ => none
  | _ => none
theorem o_len0 : CallR X (.builtin "len") (rcD X.K mg lenD) := by
  rintro pins s σ H xs us Q I r ⟨ρ, M, ds, z, M', so, rr, hF, q⟩
  cases rr with
  | nil => cases hF
  | cons r1 r2 =>
    cases r2 with
    | cons _ _ => cases r1 <;> cases hF
    | nil =>
      cases r1 with
      | str x =>
        have hF : (if x.length ≤ sz then some (D.int x.length, M) else none) = some (z, M') := hF
        by_cases c : x.length ≤ sz
        · rw [if_pos c] at hF
          cases hF
          exact call_len_str pins s σ H _ us Q I r ⟨x, rfl, by rw [← sz_eq]; exact c, q _ ρ H Step.refl so (.int _)⟩
        · rw [if_neg c] at hF; cases hF
      | @tup a vs ys zz l ra =>
        cases hF
        refine call_len_seq pins s σ H _ us Q I r ⟨a, vs, rfl, .inr zz.sq, ?_⟩
        rw [ra.length]
        exact q _ ρ H Step.refl so (.int _)
      | @lst a vs ys zz l ra =>
        cases hF
        refine call_len_seq pins s σ H _ us Q I r ⟨a, vs, rfl, .inl zz.sq, ?_⟩
        rw [ra.length]
        exact q _ ρ H Step.refl so (.int _)
      | @ref k a e =>
        have hF : (match M[k]? with | some (.lst xs) => some (D.int xs.length, M) | some (.dK kvs) => some (D.int kvs.length, M) | _ => none) = some (z, M') := hF
        cases q1 : M[k]? with
        | none => rw [q1] at hF; cases hF
        | some ob =>
          rw [q1] at hF
          cases ob with
          | lst ys =>
            cases hF
            obtain ⟨vs, h1, l, ra⟩ := so.at' k _ a q1 e
            refine call_len_seq pins s σ H _ us Q I r ⟨a, vs, rfl, .inl (SqL.of h1), ?_⟩
            rw [ra.length]
            exact q _ ρ H Step.refl so (.int _)
          | dK kvs =>
            cases hF
            obtain ⟨ws, h1, e1, ra⟩ := so.at' k _ a q1 e
            refine call_lenD pins s σ H _ us Q I r ⟨a, ws, rfl, h1, ?_⟩
            have : ws.length = kvs.length := by
              have := congrArg List.length e1
              simpa using this
            rw [this]
            exact q _ ρ H Step.refl so (.int _)
          | _ => cases hF
      | _ => cases hF

/-! ### list(x), tuple(x) -/
def listOf : FN := fun M ds => match ds with
  | [.tup xs] => some (.lst xs, M)
  | [d] => (listD M d).map fun xs => (.lst xs, M)
  | _ => none
/-- a handle -/
def listOfR : FN := fun M ds => match ds with
  | [.tup xs] => some (.ref M.length, M ++ [.lst xs])
  | [d] => (listD M d).map fun xs => (.ref M.length, M ++ [.lst xs])
  | _ => none
def tupleOf : FN := fun M ds => match ds with
  | [.tup xs] => some (.tup xs, M)
  | [d] => (listD M d).map fun xs => (.tup xs, M)
  | _ => none
theorem seqD_ok {ρ : Pl} {H : Hp} {M : Store} {v : V} {d : D} {xs : List D} (so : SOk X.K mg ρ H M) (r : Rep X.K mg ρ H v d) (h : d = .tup xs ∨ listD M d = some xs) :
    ∃ a vs, v = .ref a ∧ (SqL X.K H a vs ∨ SqT X.K H a vs) ∧ vs.length ≤ sizeLine ∧ RepAll X.K mg ρ H vs xs := by
  rcases h with h | h
  · subst h
    cases r with
    | @tup a vs _ zz l ra => exact ⟨a, vs, rfl, .inr zz.sq, l, ra⟩
  · obtain ⟨a, vs, rfl, sq, l, ra, _⟩ := listD_ok so r h
    exact ⟨a, vs, rfl, .inl sq, l, ra⟩
theorem listOf_cases {M M' : Store} {ds : List D} {z : D} {f : List D → D × Store} (h : (match ds with | [.tup xs] => some (f xs) | [d] => (listD M d).map f | _ => none) = some (z, M')) : ∃ d xs, ds = [d] ∧ (d = .tup xs ∨ listD M d = some xs) ∧ f xs = (z, M') := by
  cases ds with
  | nil => cases h
  | cons d r =>
    cases r with
    | cons _ _ => cases d <;> cases h
    | nil =>
      have go : (listD M d).map f = some (z, M') → ∃ d' xs, [d] = [d'] ∧ (d' = .tup xs ∨ listD M d' = some xs) ∧ f xs = (z, M') := by
        intro h
        cases q : listD M d with
        | none => rw [q] at h; cases h
        | some xs => rw [q] at h; exact ⟨d, xs, rfl, .inr q, Option.some.inj h⟩
      cases d with
      | tup xs => exact ⟨_, xs, rfl, .inl rfl, Option.some.inj h⟩
      | _ => exact go h
theorem o_listOf : CallR X (.type "list") (rcD X.K mg listOf) := by
  rintro pins s σ H xs us Q I r ⟨ρ, M, ds, z, M', so, rr, hF, q⟩
  obtain ⟨d, ys, rfl, hd, e⟩ := listOf_cases (f := fun xs => (.lst xs, M)) hF
  cases e
  cases rr with
  | cons r1 r2 =>
    cases r2
    obtain ⟨a, vs, rfl, sq, l, ra⟩ := seqD_ok so r1 hd
    exact call_list_of pins s σ H _ us Q I r ⟨a, vs, rfl, sq, fun p hp => let ⟨a, b, c⟩ := newLst so hp ra l; q _ _ _ a b c⟩
theorem o_listOfR : CallR X (.type "list") (rcD X.K mg listOfR) := by
  rintro pins s σ H xs us Q I r ⟨ρ, M, ds, z, M', so, rr, hF, q⟩
  obtain ⟨d, ys, rfl, hd, e⟩ := listOf_cases (M := M) (M' := M') (ds := ds) (z := z) (f := fun xs => (D.ref M.length, M ++ [O.lst xs])) hF
  cases e
  cases rr with
  | cons r1 r2 =>
    cases r2
    obtain ⟨a, vs, rfl, sq, l, ra⟩ := seqD_ok so r1 hd
    exact call_list_of pins s σ H _ us Q I r ⟨a, vs, rfl, sq, fun p hp => let ⟨a, b, c⟩ := newLstR so hp ra l; q _ _ _ a b c⟩
theorem o_tupleOf : CallR X (.type "tuple") (rcD X.K mg tupleOf) := by
  rintro pins s σ H xs us Q I r ⟨ρ, M, ds, z, M', so, rr, hF, q⟩
  obtain ⟨d, ys, rfl, hd, e⟩ := listOf_cases (f := fun xs => (.tup xs, M)) hF
  cases e
  cases rr with
  | cons r1 r2 =>
    cases r2
    obtain ⟨u, rfl, ru⟩ := vals1 r
    rcases hd with hd | hd
    · subst hd
      cases r1 with
      | @tup a vs _ zz l ra =>
        cases ru
        obtain ⟨its, rv, pl, _⟩ := I.tuple zz.sq
        exact call_tuple_same pl ⟨.ref a, H, I, rfl, q _ ρ H Step.refl so (.tup zz l ra)⟩
    · obtain ⟨a, vs, rfl, sq, l, ra, _⟩ := listD_ok so r1 hd
      cases ru
      obtain ⟨its, rv, pl, _⟩ := I.list sq
      have hlen := rv.length
      refine PySem.call_tuple_list pl.isList (fun h' kp => ?_) (by simp only [List.size_toArray] <;> omega)
      exact tup_new (I.kept (t' := s.toks) kp) so (t' := s.toks) rv ra l (fun v H' a b c => q v ρ H' a b c)
end
end Py
set_option Elab.async false
set_option linter.all false
set_option maxRecDepth 100000
set_option maxHeartbeats 4000000
/-! # The order of data, sorted -/
namespace Py
open PySem PySem.Spec PyProof.Rows L2 PySem.SeqAt

def cmpI (a b : Int) : Ordering := if a < b then .lt else if a = b then .eq else .gt
theorem cmpI_lt {a b : Int} : cmpI a b = .lt ↔ a < b := by
  unfold cmpI; repeat' split
  all_goals first | omega | simp [*] | (simp; omega)
theorem cmpI_eq {a b : Int} : cmpI a b = .eq ↔ a = b := by
  unfold cmpI; repeat' split
  all_goals first | omega | (simp; omega) | simp [*]
theorem cmpI_gt {a b : Int} : cmpI a b = .gt ↔ b < a := by
  unfold cmpI; repeat' split
  all_goals first | omega | (simp; omega)
/-- texts' points -/
def cmpP : List Nat → List Nat → Ordering
  | [], [] => .eq
  | [], _ :: _ => .lt
  | _ :: _, [] => .gt
  | x :: xs, y :: ys => (cmpI x y).then (cmpP xs ys)
def tag : D → Int
  | .non => 0
  | .bl _ => 1
  | .int _ => 2
  | .str _ => 3
  | .tup _ => 4
  | _ => 5
def pts (x : Str) : List Nat := x.cps.toList
mutual
def cmpD : D → D → Ordering
  | .int a, .int b => cmpI a b
  | .str x, .str y => cmpP (pts x) (pts y)
  | .tup xs, .tup ys => cmpL xs ys
  | x, y => cmpI (tag x) (tag y)
def cmpL : List D → List D → Ordering
  | [], [] => .eq
  | [], _ :: _ => .lt
  | _ :: _, [] => .gt
  | x :: xs, y :: ys => (cmpD x y).then (cmpL xs ys)
end
theorem then_swap (a b : Ordering) : (a.then b).swap = a.swap.then b.swap := by cases a <;> rfl
theorem cmpI_swap (a b : Int) : cmpI b a = (cmpI a b).swap := by
  cases h : cmpI a b with
  | lt => rw [cmpI_lt] at h; exact cmpI_gt.mpr h
  | eq => rw [cmpI_eq] at h; exact cmpI_eq.mpr h.symm
  | gt => rw [cmpI_gt] at h; exact cmpI_lt.mpr h
theorem cmpP_swap : ∀ a b : List Nat, cmpP b a = (cmpP a b).swap
  | [], [] => rfl
  | [], _ :: _ => rfl
  | _ :: _, [] => rfl
  | x :: xs, y :: ys => by rw [cmpP, cmpP, then_swap, cmpI_swap, cmpP_swap xs ys]
theorem cmpD_tag {x y : D} (h : tag x ≠ tag y) : cmpD x y = cmpI (tag x) (tag y) := by
  cases x <;> cases y <;> first | exact absurd rfl h | (rw [cmpD] <;> simp)
theorem cmpD_same {x y : D} (h : tag x = tag y) (n : tag x ≠ 2 ∧ tag x ≠ 3 ∧ tag x ≠ 4) : cmpD x y = .eq := by
  have : cmpD x y = cmpI (tag x) (tag y) := by
    cases x <;> cases y <;> first | (exact absurd rfl n.1) | (exact absurd rfl n.2.1) | (exact absurd rfl n.2.2) | (rw [cmpD] <;> simp)
  rw [this, cmpI_eq]; exact h
theorem tag2 {x : D} (h : tag x = 2) : ∃ i, x = .int i := by cases x <;> simp_all [tag]
theorem tag3 {x : D} (h : tag x = 3) : ∃ i, x = .str i := by cases x <;> simp_all [tag]
theorem tag4 {x : D} (h : tag x = 4) : ∃ i, x = .tup i := by cases x <;> simp_all [tag]
theorem swap_tags {x y : D} (h : tag x ≠ tag y) : cmpD y x = (cmpD x y).swap := by
  rw [cmpD_tag h, cmpD_tag h.symm]; exact cmpI_swap _ _
theorem swap_flat {x y : D} (n : tag x ≠ 2 ∧ tag x ≠ 3 ∧ tag x ≠ 4) : cmpD y x = (cmpD x y).swap := by
  by_cases h : tag x = tag y
  · rw [cmpD_same h n, cmpD_same h.symm (by rw [← h]; exact n)]; rfl
  · exact swap_tags h
mutual
theorem cmpD_swap : ∀ a b : D, cmpD b a = (cmpD a b).swap
  | .tup xs, b => by
    by_cases h : tag (.tup xs) = tag b
    · obtain ⟨ys, rfl⟩ := tag4 h.symm
      rw [cmpD, cmpD]; exact cmpL_swap xs ys
    · exact swap_tags h
  | .int i, b => by
    by_cases h : tag (.int i) = tag b
    · obtain ⟨ys, rfl⟩ := tag2 h.symm
      rw [cmpD, cmpD]; exact cmpI_swap _ _
    · exact swap_tags h
  | .str i, b => by
    by_cases h : tag (.str i) = tag b
    · obtain ⟨ys, rfl⟩ := tag3 h.symm
      rw [cmpD, cmpD]; exact cmpP_swap _ _
    · exact swap_tags h
  | .non, b => swap_flat (by simp [tag])
  | .bl _, b => swap_flat (by simp [tag])
  | .lst _, b => swap_flat (by simp [tag])
  | .obj _ _ _, b => swap_flat (by simp [tag])
  | .ref _, b => swap_flat (by simp [tag])
theorem cmpL_swap : ∀ a b : List D, cmpL b a = (cmpL a b).swap
  | [], [] => by rw [cmpL]; rfl
  | [], _ :: _ => by rw [cmpL, cmpL]; rfl
  | _ :: _, [] => by rw [cmpL, cmpL]; rfl
  | x :: xs, y :: ys => by rw [cmpL, cmpL, then_swap, cmpD_swap x y, cmpL_swap xs ys]
end
/-- x <= y <= z -/
def Tr3 (a b c : Ordering) : Prop := a ≠ .gt → b ≠ .gt → c ≠ .gt ∧ (c = .eq → a = .eq ∧ b = .eq)
theorem Tr3.cons {a b c a' b' c' : Ordering} (h : Tr3 a b c) (h' : Tr3 a' b' c') : Tr3 (a.then a') (b.then b') (c.then c') := by
  unfold Tr3 at *
  cases a <;> cases b <;> first | (intro h1 h2; exact absurd rfl h1) | (intro h1 h2; exact absurd rfl h2) | skip
  all_goals
    have k := h (by decide) (by decide)
    cases c <;> first | exact absurd rfl k.1 | (have k2 := k.2 rfl; cases k2.1; done) | (have k2 := k.2 rfl; cases k2.2; done) | skip
  all_goals first
    | exact h'
    | (intro _ _; exact ⟨(by intro e; cases e), (by intro e; cases e)⟩)
theorem tr_I (a b c : Int) : Tr3 (cmpI a b) (cmpI b c) (cmpI a c) := by
  intro h1 h2
  rw [Ne, cmpI_gt] at h1 h2
  rw [Ne, cmpI_gt, cmpI_eq, cmpI_eq, cmpI_eq]
  omega
theorem tr_P : ∀ a b c : List Nat, Tr3 (cmpP a b) (cmpP b c) (cmpP a c)
  | [], [], [] => fun _ _ => ⟨by decide, fun _ => ⟨rfl, rfl⟩⟩
  | [], [], _ :: _ => fun _ _ => ⟨by rw [cmpP]; decide, fun h => by rw [cmpP] at h; cases h⟩
  | [], _ :: _, [] => fun _ h => absurd rfl (by rw [cmpP] at h; exact h)
  | [], _ :: _, _ :: _ => fun _ _ => ⟨by rw [cmpP]; decide, fun h => by rw [cmpP] at h; cases h⟩
  | _ :: _, [], _ => fun h _ => absurd rfl (by rw [cmpP] at h; exact h)
  | _ :: _, _ :: _, [] => fun _ h => absurd rfl (by rw [cmpP] at h; exact h)
  | x :: xs, y :: ys, z :: zs => by rw [cmpP, cmpP, cmpP]; exact (tr_I _ _ _).cons (tr_P xs ys zs)
theorem tag_of {x y : D} (h : cmpD x y ≠ .gt) : tag x ≤ tag y := by
  by_cases e : tag x = tag y
  · omega
  · rw [cmpD_tag e, Ne, cmpI_gt] at h; omega
theorem tr_tags {x y z : D} (h : ¬ (tag x = tag y ∧ tag y = tag z)) : Tr3 (cmpD x y) (cmpD y z) (cmpD x z) := by
  intro h1 h2
  have t1 := tag_of h1
  have t2 := tag_of h2
  have n : tag x ≠ tag z := by omega
  rw [cmpD_tag n, Ne, cmpI_gt, cmpI_eq]
  exact ⟨by omega, fun e => absurd e n⟩
theorem tr_flat {x y z : D} (n : tag x ≠ 2 ∧ tag x ≠ 3 ∧ tag x ≠ 4) : Tr3 (cmpD x y) (cmpD y z) (cmpD x z) := by
  by_cases h : tag x = tag y ∧ tag y = tag z
  · rw [cmpD_same h.1 n, cmpD_same h.2 (by rw [← h.1]; exact n), cmpD_same (h.1.trans h.2) n]
    exact fun _ _ => ⟨by decide, fun _ => ⟨rfl, rfl⟩⟩
  · exact tr_tags h
mutual
theorem tr_D : ∀ x y z : D, Tr3 (cmpD x y) (cmpD y z) (cmpD x z)
  | .tup xs, y, z => by
    by_cases h : tag (.tup xs) = tag y ∧ tag y = tag z
    · obtain ⟨ys, rfl⟩ := tag4 h.1.symm
      obtain ⟨zs, rfl⟩ := tag4 h.2.symm
      rw [cmpD, cmpD, cmpD]
      exact tr_L xs ys zs
    · exact tr_tags h
  | .int i, y, z => by
    by_cases h : tag (.int i) = tag y ∧ tag y = tag z
    · obtain ⟨ys, rfl⟩ := tag2 h.1.symm
      obtain ⟨zs, rfl⟩ := tag2 h.2.symm
      rw [cmpD, cmpD, cmpD]
      exact tr_I _ _ _
    · exact tr_tags h
  | .str i, y, z => by
    by_cases h : tag (.str i) = tag y ∧ tag y = tag z
    · obtain ⟨ys, rfl⟩ := tag3 h.1.symm
      obtain ⟨zs, rfl⟩ := tag3 h.2.symm
      rw [cmpD, cmpD, cmpD]
      exact tr_P _ _ _
    · exact tr_tags h
  | .non, y, z => tr_flat (by simp [tag])
  | .bl _, y, z => tr_flat (by simp [tag])
  | .lst _, y, z => tr_flat (by simp [tag])
  | .obj _ _ _, y, z => tr_flat (by simp [tag])
  | .ref _, y, z => tr_flat (by simp [tag])
theorem tr_L : ∀ a b c : List D, Tr3 (cmpL a b) (cmpL b c) (cmpL a c)
  | [], [], [] => fun _ _ => ⟨by rw [cmpL]; decide, fun _ => ⟨by rw [cmpL], by rw [cmpL]⟩⟩
  | [], [], _ :: _ => fun _ _ => ⟨by rw [cmpL]; decide, fun h => by rw [cmpL] at h; cases h⟩
  | [], _ :: _, [] => fun _ h => absurd rfl (by rw [cmpL] at h; exact h)
  | [], _ :: _, _ :: _ => fun _ _ => ⟨by rw [cmpL]; decide, fun h => by rw [cmpL] at h; cases h⟩
  | _ :: _, [], _ => fun h _ => absurd rfl (by rw [cmpL] at h; exact h)
  | _ :: _, _ :: _, [] => fun _ h => absurd rfl (by rw [cmpL] at h; exact h)
  | x :: xs, y :: ys, z :: zs => by rw [cmpL, cmpL, cmpL]; exact (tr_D x y z).cons (tr_L xs ys zs)
end
/-- x < y, a total order of all data (where Python has one, it is Python's) -/
def ltT (x y : D) : Bool := cmpD x y == .lt
theorem ltT_iff {x y : D} : ltT x y = true ↔ cmpD x y = .lt := by unfold ltT; simp
theorem ltT_no {x y : D} : ltT y x = false ↔ cmpD x y ≠ .gt := by
  unfold ltT
  rw [cmpD_swap x y]
  cases cmpD x y <;> decide
theorem swoT : SrtO.Swo ltT := by
  refine ⟨fun x y h => ?_, fun x y z h1 h2 => ?_⟩
  · rw [ltT_no, ltT_iff.mp h]; decide
  · rw [ltT_no] at h1 h2 ⊢
    exact (tr_D x y z h1 h2).1
theorem cmpP_eq : ∀ {a b : List Nat}, cmpP a b = .eq → a = b
  | [], [], _ => rfl
  | [], _ :: _, h => by cases h
  | _ :: _, [], h => by cases h
  | x :: xs, y :: ys, h => by
    rw [cmpP] at h
    cases q : cmpI x y with
    | eq =>
      rw [q] at h
      have e : x = y := by have := cmpI_eq.mp q; omega
      rw [e, cmpP_eq (a := xs) (b := ys) h]
    | lt => rw [q] at h; cases h
    | gt => rw [q] at h; cases h
theorem pts_inj {x y : Str} (h : pts x = pts y) : x = y := by
  cases x; cases y
  have : _ = _ := Array.toList_inj.mp h
  cases this; rfl
-- plain data: no truth values, lists, objects, handles
mutual
def pln : D → Bool
  | .tup xs => plnL xs
  | .non => true
  | .int _ => true
  | .str _ => true
  | _ => false
def plnL : List D → Bool
  | [] => true
  | d :: ds => pln d && plnL ds
end
mutual
theorem cmpD_eq : ∀ x y : D, pln x = true → pln y = true → cmpD x y = .eq → x = y
  | .tup xs, y, h1, h2, h => by
    by_cases t : tag (.tup xs) = tag y
    · obtain ⟨ys, rfl⟩ := tag4 t.symm
      rw [cmpD] at h
      rw [pln] at h1 h2
      rw [cmpL_eq xs ys h1 h2 h]
    · rw [cmpD_tag t, cmpI_eq] at h; exact absurd h t
  | .int i, y, h1, h2, h => by
    by_cases t : tag (.int i) = tag y
    · obtain ⟨ys, rfl⟩ := tag2 t.symm
      rw [cmpD, cmpI_eq] at h
      rw [h]
    · rw [cmpD_tag t, cmpI_eq] at h; exact absurd h t
  | .str i, y, h1, h2, h => by
    by_cases t : tag (.str i) = tag y
    · obtain ⟨ys, rfl⟩ := tag3 t.symm
      rw [cmpD] at h
      rw [pts_inj (cmpP_eq h)]
    · rw [cmpD_tag t, cmpI_eq] at h; exact absurd h t
  | .non, y, h1, h2, h => by
    by_cases t : tag .non = tag y
    · cases y <;> first | rfl | exact absurd t (by simp [tag])
    · rw [cmpD_tag t, cmpI_eq] at h; exact absurd h t
  | .bl _, _, h, _, _ => by rw [pln] at h <;> first | cases h | simp
  | .lst _, _, h, _, _ => by rw [pln] at h <;> first | cases h | simp
  | .obj _ _ _, _, h, _, _ => by rw [pln] at h <;> first | cases h | simp
  | .ref _, _, h, _, _ => by rw [pln] at h <;> first | cases h | simp
theorem cmpL_eq : ∀ xs ys : List D, plnL xs = true → plnL ys = true → cmpL xs ys = .eq → xs = ys
  | [], [], _, _, _ => rfl
  | [], _ :: _, _, _, h => by rw [cmpL] at h; cases h
  | _ :: _, [], _, _, h => by rw [cmpL] at h; cases h
  | x :: xs, y :: ys, h1, h2, h => by
    rw [plnL, Bool.and_eq_true] at h1 h2
    rw [cmpL] at h
    cases q : cmpD x y with
    | eq =>
      rw [q] at h
      rw [cmpD_eq x y h1.1 h2.1 q, cmpL_eq xs ys h1.2 h2.2 h]
    | lt => rw [q] at h; cases h
    | gt => rw [q] at h; cases h
end
mutual
theorem cmpD_refl : ∀ x : D, cmpD x x = .eq
  | .tup xs => by rw [cmpD]; exact cmpL_refl xs
  | .int i => by rw [cmpD, cmpI_eq]
  | .str i => by rw [cmpD]; exact cmpP_refl (pts i)
  | .non => cmpD_same rfl (by simp [tag])
  | .bl _ => cmpD_same rfl (by simp [tag])
  | .lst _ => cmpD_same rfl (by simp [tag])
  | .obj _ _ _ => cmpD_same rfl (by simp [tag])
  | .ref _ => cmpD_same rfl (by simp [tag])
theorem cmpL_refl : ∀ xs : List D, cmpL xs xs = .eq
  | [] => by rw [cmpL]
  | x :: xs => by rw [cmpL, cmpD_refl x, cmpL_refl xs] <;> rfl
theorem cmpP_refl : ∀ xs : List Nat, cmpP xs xs = .eq
  | [] => by rw [cmpP]
  | x :: xs => by rw [cmpP, cmpI_eq.mpr rfl, cmpP_refl xs] <;> rfl
end

/-! ### sorting -/
def ins1 (x : D) : List D → List D
  | [] => [x]
  | y :: ys => if ltT x y then x :: y :: ys else y :: ins1 x ys
/-- sorted: each put behind its equals -/
def srt : List D → List D → List D
  | acc, [] => acc
  | acc, x :: xs => srt (ins1 x acc) xs
abbrev Asc (l : List D) : Prop := l.Pairwise fun x y => ltT y x = false
theorem ins1_perm (x : D) : ∀ l, (ins1 x l).Perm (x :: l)
  | [] => .refl _
  | y :: ys => by
    rw [ins1]
    split
    · exact .refl _
    · exact ((ins1_perm x ys).cons y).trans (.swap _ _ _)
theorem srt_perm : ∀ (xs acc : List D), (srt acc xs).Perm (acc ++ xs)
  | [], acc => by rw [srt, List.append_nil]
  | x :: xs, acc => by
    rw [srt]
    refine (srt_perm xs _).trans (((ins1_perm x acc).append_right xs).trans ?_)
    exact (List.perm_middle (l₁ := acc) (a := x) (l₂ := xs)).symm
theorem ins1_asc (x : D) : ∀ {l : List D}, Asc l → Asc (ins1 x l)
  | [], _ => List.pairwise_singleton _ _
  | y :: ys, h => by
    rw [ins1]
    split
    · rename_i c
      refine List.pairwise_cons.mpr ⟨fun z hz => ?_, h⟩
      exact swoT.asym _ _ (swoT.lt_all h c z hz)
    · rename_i c
      have c : ltT x y = false := by simpa using c
      obtain ⟨h1, h2⟩ := List.pairwise_cons.mp h
      refine List.pairwise_cons.mpr ⟨fun z hz => ?_, ins1_asc x h2⟩
      rcases List.mem_cons.mp ((ins1_perm x ys).mem_iff.mp hz) with e | hz
      · rw [e]; exact c
      · exact h1 z hz
theorem srt_asc : ∀ (xs : List D) {acc : List D}, Asc acc → Asc (srt acc xs)
  | [], _, h => h
  | x :: xs, _, h => srt_asc xs (ins1_asc x h)
theorem plnL_mem : ∀ {l : List D}, plnL l = true ↔ ∀ x ∈ l, pln x = true
  | [] => by simp [plnL]
  | x :: xs => by rw [plnL, Bool.and_eq_true, plnL_mem]; simp
theorem asc_uniq : ∀ {l m : List D}, Asc l → Asc m → l.Perm m → plnL l = true → l = m
  | [], m, _, _, p, _ => (List.Perm.nil_eq p)
  | x :: xs, [], _, _, p, _ => by have := p.length_eq; cases this
  | x :: xs, y :: ys, h1, h2, p, hp => by
    have pm : ∀ z ∈ y :: ys, pln z = true := fun z hz => plnL_mem.mp hp z (p.mem_iff.mpr hz)
    have a1 := List.pairwise_cons.mp h1
    have a2 := List.pairwise_cons.mp h2
    have e : x = y := by
      have mx : x ∈ y :: ys := p.mem_iff.mp List.mem_cons_self
      have my : y ∈ x :: xs := p.mem_iff.mpr List.mem_cons_self
      rcases List.mem_cons.mp mx with e | mx
      · exact e
      · rcases List.mem_cons.mp my with e | my
        · exact e.symm
        · have q1 := a1.1 y my
          have q2 := a2.1 x mx
          rw [ltT_no] at q1 q2
          rw [cmpD_swap x y] at q2
          refine cmpD_eq x y (plnL_mem.mp hp x List.mem_cons_self) (pm y List.mem_cons_self) ?_
          revert q1 q2
          cases cmpD x y <;> decide
    subst e
    rw [plnL, Bool.and_eq_true] at hp
    rw [asc_uniq a1.2 a2.2 (List.Perm.cons_inv p) hp.2]
theorem srt_uniq {l xs : List D} (h : Asc l) (p : l.Perm xs) (q : plnL xs = true) : l = srt [] xs := by
  refine asc_uniq h (srt_asc xs .nil) (p.trans (srt_perm xs []).symm) ?_
  exact plnL_mem.mpr fun x hx => plnL_mem.mp q x (p.mem_iff.mp hx)
end Py
set_option Elab.async false
set_option linter.all false
set_option maxRecDepth 100000
set_option maxHeartbeats 4000000
/-! # x < y of data; sorted -/
namespace Py
open PySem PySem.Spec PyProof.Rows L2 PySem.SeqAt

mutual
def ltOk : D → D → Bool
  | .int _, .int _ => true
  | .str _, .str _ => true
  | .tup xs, .tup ys => ltOkL xs ys
  | _, _ => false
def ltOkL : List D → List D → Bool
  | [], _ => true
  | _ :: _, [] => true
  | x :: xs, y :: ys => if eqDD x y then ltOkL xs ys else ltOk x y
end
/-- xs < ys -/
def ltL (xs ys : List D) : Bool := cmpL xs ys == .lt
theorem cmpP_lt : ∀ {a b : List Nat}, (cmpP a b == .lt) = decide (a < b)
  | [], [] => rfl
  | [], _ :: _ => rfl
  | _ :: _, [] => rfl
  | x :: xs, y :: ys => by
    rw [cmpP]
    rcases Nat.lt_trichotomy x y with h | h | h
    · rw [cmpI_lt.mpr (by omega : (x : Int) < y)]
      have : x :: xs < y :: ys := List.Lex.rel h
      simp [this, Ordering.then]
    · subst h
      rw [cmpI_eq.mpr rfl]
      show (cmpP xs ys == .lt) = _
      rw [cmpP_lt]
      congr 1
      apply propext
      simp
    · rw [cmpI_gt.mpr (by omega : (y : Int) < x)]
      have : ¬ x :: xs < y :: ys := by
        intro q
        cases q with
        | rel q => exact absurd q (by omega)
        | cons q => exact absurd h (by omega)
      simp [this, Ordering.then]
mutual
theorem pln_noBl : ∀ {d : D}, pln d = true → noBl d = true
  | .tup xs, h => by rw [pln] at h; rw [noBl]; exact plnL_noBl h
  | .non, _ => by rw [noBl]
  | .int _, _ => by rw [noBl]
  | .str _, _ => by rw [noBl]
  | .bl _, h => by rw [pln] at h <;> first | cases h | simp
  | .lst _, h => by rw [pln] at h <;> first | cases h | simp
  | .obj _ _ _, h => by rw [pln] at h <;> first | cases h | simp
  | .ref _, h => by rw [pln] at h <;> first | cases h | simp
theorem plnL_noBl : ∀ {ds : List D}, plnL ds = true → noBlL ds = true
  | [], _ => by rw [noBlL]
  | d :: ds, h => by
    rw [plnL, Bool.and_eq_true] at h
    rw [noBlL, pln_noBl h.1, plnL_noBl h.2] <;> rfl
end
theorem ltL_cons {x y : D} {xs ys : List D} {n : Nat} (hx : pln x = true) (hy : pln y = true) (f : flat x n = true) : ltL (x :: xs) (y :: ys) = if eqDD x y then ltL xs ys else ltT x y := by
  unfold ltL
  rw [cmpL]
  by_cases e : eqDD x y = true
  · rw [if_pos e, eqDD_eq x y (pln_noBl hx) (pln_noBl hy) e, cmpD_refl]
    rfl
  · rw [if_neg e]
    have : cmpD x y ≠ .eq := fun q => e (by rw [cmpD_eq x y hx hy q]; exact eqDD_refl y ⟨n, by rw [← cmpD_eq x y hx hy q]; exact f⟩)
    unfold ltT
    revert this
    cases cmpD x y <;> simp [Ordering.then]
theorem ltL_nil {ys : List D} : ltL [] ys = decide (0 < ys.length) := by
  unfold ltL
  cases ys with
  | nil => rw [cmpL]; rfl
  | cons => rw [cmpL]; rfl
theorem ltL_nilR {x : D} {xs : List D} : ltL (x :: xs) [] = false := by
  unfold ltL
  rw [cmpL]; rfl

/-! ### the walk of tuple.__lt__ -/
inductive LtW (A : Around) (s : Shared) : List Value → List Value → Bool → Prop
  | nil (ws : List Value) : LtW A s [] ws (decide (0 < ws.length))
  | nilR (v : Value) (vs : List Value) : LtW A s (v :: vs) [] false
  | eq {v w : Value} {vs ws : List Value} {b : Bool} : EqAt A s v w true → LtW A s vs ws b → LtW A s (v :: vs) (w :: ws) b
  | ne {v w : Value} {vs ws : List Value} {b : Bool} : EqAt A s v w false → (∀ (prog : Program) (wd : World) (E Q : Value → Shared → Prop), Q (.bool b) s → wpAny (model prog wd) A (richCompare .Lt v w) Q E s) → LtW A s (v :: vs) (w :: ws) b
section
open PySem.AutoSeq1 (wpAny_loadPart')
open PySem.MeetsSeq PySem.MeetsSeq2 PySem.MeetsSeq3
theorem tuple_lt_gen (l b : Addr) (items items2 : Array Value) (n n2 : Nat) (dd dd2 : Option Addr) (sl sl2 : Array (Option Value)) (r : Bool) :
    Meets (Builtin.«tuple.__lt__» ⟨[.ref l, .ref b], []⟩)
      (fun A R s => s.heap.get? l = some { cls := .type "tuple", dict := dd, data := .seq items n, slots := sl } ∧ s.heap.get? b = some { cls := .type "tuple", dict := dd2, data := .seq items2 n2, slots := sl2 } ∧
        LtW A.in1 s items.toList items2.toList r ∧ R (.ok (.ret (.bool r))) s) :=
  .of_wp fun prog w A R s h => by
    obtain ⟨hp, g, d, tk, os⟩ := s; obtain ⟨hl, hb, hw, h⟩ := h
    have f2 := AutoSeq1.sub_tuple_tuple
    wp_walk using wpAny_loadPart' hl, wpAny_loadPart' hb, wpAny_forIn_list _ (fun rest b s' => b.1 = none ∧ s' = ⟨hp, g, d, tk, os⟩ ∧ ∃ (vs ws : List Value), rest = vs.zip ws ∧
      LtW A.in1 ⟨hp, g, d, tk, os⟩ vs ws r ∧ vs.length + items2.size = ws.length + items.size) _
    case turn =>
      rintro ⟨y, x⟩ rest b s' ⟨hb', rfl, vs, ws, hz, hw, hlen⟩
      cases hw with
      | nil => rw [List.zip_nil_left] at hz; cases hz
      | nilR => rw [List.zip_nil_right] at hz; cases hz
      | eq he hw' =>
        rw [List.zip_cons_cons] at hz
        injection hz with hyx hrest
        injection hyx with hy hx
        subst hy hx
        simp only [List.length_cons] at hlen
        refine wpAny_bind (he prog w _ _ ?_)
        wp_walk
        exact ⟨rfl, rfl, _, _, hrest, hw', by omega⟩
      | ne he hri =>
        rw [List.zip_cons_cons] at hz
        injection hz with hyx hrest
        injection hyx with hy hx
        subst hy hx
        refine wpAny_bind (he prog w _ _ ?_)
        have hri' := hri prog w
        wp_walk using hri'
        exact ⟨_, rfl, by simpa using h⟩
    case fin =>
      rintro ⟨b1, b2⟩ s' ⟨hb', rfl, vs, ws, hz, hw, hlen⟩
      simp only at hb'
      subst hb'
      have hv : r = decide (items.size < items2.size) := by
        cases hw with
        | nil ws =>
          simp only [List.length_nil] at hlen
          by_cases c : 0 < ws.length
          · rw [decide_eq_true c]; exact (decide_eq_true (by omega)).symm
          · rw [decide_eq_false c]; exact (decide_eq_false (by omega)).symm
        | nilR v vs =>
          simp only [List.length_nil, List.length_cons] at hlen
          exact (decide_eq_false (by omega)).symm
        | eq _ _ => rw [List.zip_cons_cons] at hz; cases hz
        | ne _ _ => rw [List.zip_cons_cons] at hz; cases hz
      rw [hv] at h
      wp_walk
      exact ⟨_, rfl, by simpa [Builtin.Tuple.tupleCompareSizes] using h⟩
    case h =>
      exact ⟨rfl, rfl, items.toList, items2.toList, rfl, hw, by simp only [Array.length_toList]; omega⟩
end
section
variable {s : Shared}
mutual
theorem lt_at : ∀ (x y : D) {A : Around} {v u : Value} {n m : Nat}, Sees s.heap v x → Sees s.heap u y → pln x = true → pln y = true → flat x n = true → flat y m = true → ltOk x y = true → A.units + n < cLine →
    ∀ (prog : Program) (w : World) (E Q : Value → Shared → Prop), Q (.bool (ltT x y)) s → wpAny (model prog w) A (richCompare .Lt v u) Q E s
  | .int i, y, A, v, u, n, m, rx, ry, px, py, fx, fy, ok, hu, prog, w, E, Q, h => by
    cases ry with
    | int j t' =>
      cases rx
      have e : ltT (.int i) (.int j) = decide (i < j) := by
        by_cases c : i < j
        · rw [decide_eq_true c, ltT_iff, cmpD, cmpI_lt]; exact c
        · rw [decide_eq_false c, ltT_no, cmpD, Ne, cmpI_gt]; omega
      rw [e] at h
      exact (PyProof.Rows.lt_int h : wpAny (model prog w) A (compareOp .Lt _ _) Q E s)
    | _ => rw [ltOk] at ok <;> first | cases ok | simp
  | .str i, y, A, v, u, n, m, rx, ry, px, py, fx, fy, ok, hu, prog, w, E, Q, h => by
    cases ry with
    | str j t' =>
      cases rx
      have e : ltT (.str i) (.str j) = decide (i.cps.toList < j.cps.toList) := by
        unfold ltT
        rw [cmpD]
        exact cmpP_lt
      rw [e] at h
      exact (PyProof.Rows.lt_str h : wpAny (model prog w) A (compareOp .Lt _ _) Q E s)
    | _ => rw [ltOk] at ok <;> first | cases ok | simp
  | .tup xs, y, A, v, u, n, m, rx, ry, px, py, fx, fy, ok, hu, prog, w, E, Q, h => by
    cases ry with
    | @tup l' its' ys hl' r' =>
      cases rx with
      | @tup l its _ hl r =>
        rw [pln] at px py
        rw [ltOk] at ok
        cases n with
        | zero => rw [flat] at fx; cases fx
        | succ n =>
          cases m with
          | zero => rw [flat] at fy; cases fy
          | succ m =>
            rw [flat] at fx fy
            have hw := lt_walk xs ys (A := A.in1) r r' px py fx fy ok (by show A.units + 1 + n < cLine; omega)
            obtain ⟨⟨cls, dd, data, sl⟩, ho, hc, k, hd⟩ := id hl
            obtain ⟨⟨cls2, dd2, data2, sl2⟩, ho2, hc2, k2, hd2⟩ := id hl'
            simp only at hc hd hc2 hd2
            subst hc hd hc2 hd2
            have e : ltT (.tup xs) (.tup ys) = ltL xs ys := by unfold ltT ltL; rw [cmpD]
            rw [e] at h
            exact richCompare_meets_room (op := .Lt) ⟨_, ho, rfl⟩ ⟨_, ho2, rfl⟩ PySem.F.slot_tuple_lt PySem.F.entry_tuple_lt (PySem.F.args_tuple_lt_2 _ _) (tuple_lt_gen l l' its its' k k2 dd dd2 sl sl2 (ltL xs ys))
              ⟨ho, ho2, hw, show Value.bool (ltL xs ys) ≠ Value.notImplemented ∧ Q (.bool (ltL xs ys)) s from ⟨(fun x => nomatch x), h⟩⟩ (by omega)
    | _ => rw [ltOk] at ok <;> first | cases ok | simp
  | .non, y, _, _, _, _, _, _, _, _, _, _, _, ok, _, _, _, _, _, _ => by cases y <;> (rw [ltOk] at ok <;> first | cases ok | simp)
  | .bl _, y, _, _, _, _, _, _, _, _, _, _, _, ok, _, _, _, _, _, _ => by cases y <;> (rw [ltOk] at ok <;> first | cases ok | simp)
  | .lst _, y, _, _, _, _, _, _, _, _, _, _, _, ok, _, _, _, _, _, _ => by cases y <;> (rw [ltOk] at ok <;> first | cases ok | simp)
  | .obj _ _ _, y, _, _, _, _, _, _, _, _, _, _, _, ok, _, _, _, _, _, _ => by cases y <;> (rw [ltOk] at ok <;> first | cases ok | simp)
  | .ref _, y, _, _, _, _, _, _, _, _, _, _, _, ok, _, _, _, _, _, _ => by cases y <;> (rw [ltOk] at ok <;> first | cases ok | simp)
theorem lt_walk : ∀ (xs ys : List D) {A : Around} {vs us : List Value} {n m : Nat}, SeesA s.heap vs xs → SeesA s.heap us ys → plnL xs = true → plnL ys = true → flatL xs n = true → flatL ys m = true → ltOkL xs ys = true → A.units + n < cLine →
    LtW A s vs us (ltL xs ys)
  | [], ys, A, vs, us, n, m, rx, ry, px, py, fx, fy, ok, hu => by
    cases rx
    rw [ltL_nil, ← ry.length]
    exact .nil us
  | x :: xs, [], A, vs, us, n, m, rx, ry, px, py, fx, fy, ok, hu => by
    cases rx
    cases ry
    rw [ltL_nilR]
    exact .nilR _ _
  | x :: xs, y :: ys, A, vs, us, n, m, rx, ry, px, py, fx, fy, ok, hu => by
    cases rx with
    | cons a1 a2 =>
      cases ry with
      | cons b1 b2 =>
        rw [plnL, Bool.and_eq_true] at px py
        rw [flatL, Bool.and_eq_true] at fx fy
        rw [ltOkL] at ok
        rw [ltL_cons px.1 py.1 fx.1]
        have he := Sees.eqAt (A := A) a1 b1 fx.1 fy.1 hu
        cases e : eqDD x y with
        | true =>
          rw [e] at he ok
          rw [if_pos rfl] at ok ⊢
          exact .eq he (lt_walk xs ys a2 b2 px.2 py.2 fx.2 fy.2 ok hu)
        | false =>
          rw [e] at he ok
          rw [if_neg (by simp)] at ok ⊢
          exact .ne he (lt_at x y a1 b1 px.1 py.1 fx.1 fy.1 ok hu)
end
end
end Py
set_option Elab.async false
set_option linter.all false
set_option maxRecDepth 100000
set_option maxHeartbeats 4000000
/-! # sorted(xs) of data -/
namespace Py
open PySem PySem.Spec PySem.Calls PyProof.Rows L2 PySem.SeqAt

/-! ### the kit's sorted, of what is collected -/
section
variable {prog : Program} {w : World} {A : Around} {E : Value → Shared → Prop} {s : Shared}
theorem collect_tup {l : Addr} {vs : List Value} {Q : List Value → Shared → Prop} (hl : s.heap.IsTuple l vs.toArray)
    (h : Q vs { s with heap := (s.heap.push (seqObj "list" #[] 0)).update s.heap.objs.size (Obj.mapSeq (· ++ vs.toArray)) }) (hsz : vs.length ≤ sizeLine) :
    wpAny (model prog w) A (collect (.ref l)) Q E s := by
  obtain ⟨o, ho, hc, n, hd⟩ := id hl
  unfold collect
  refine wpAny_bind (wpAny_runValue (codeAny_builtin entry_proto_collect' ?_))
  show wpAny _ _ (do again (.builtin "list.__iadd__" ⟨[← newList [], .ref l], []⟩)) _ _ s
  refine wpAny_bind (wpAny_newList (wpAny_pure ⟨Code.quiet_builtin _ (by decide +kernel), codeAny_builtin entry_list_iadd' ?_⟩))
  show wpAny _ _ (Builtin.List.listExtendWith (.ref s.heap.objs.size) (.ref l) (.ref s.heap.objs.size)) _ _ { s with heap := s.heap.push (seqObj "list" #[] 0) }
  unfold Builtin.List.listExtendWith
  have ho' : (s.heap.push (seqObj "list" #[] 0)).get? l = some o := Heap.get?_push_of_some _ ho
  refine wpAny_bind (wpAny_typeOf (T := "tuple") ⟨o, ho', hc⟩ ?_)
  have ht : (Value.type "tuple" == Value.type "tuple") = true := by rfl
  rw [if_pos (by rw [ht]; simp)]
  refine wpAny_bind (listItems_at ho' hd ?_)
  refine wpAny_bind (listItems_at (xs := #[]) (n := 0) (Heap.get?_push_size _ rfl) rfl ?_)
  rw [if_neg (by simp)]
  refine wpAny_bind (listUpdate_at (xs := #[]) (n := 0) (Heap.get?_push_size _ rfl) rfl ?_ (Nat.zero_le _) (by show (#[] ++ vs.toArray).size ≤ sizeLine + 1; simp only [Array.size_append, List.size_toArray, List.length_nil]; omega))
  refine wpAny_pure ?_
  show wpAny (model prog w) A (do
      let o ← load s.heap.objs.size
      match o.data with
      | .seq xs _ => pure xs.toList
      | _ => unsupported "internal:collect") Q E { s with heap := (s.heap.push (seqObj "list" #[] 0)).update s.heap.objs.size (Obj.mapSeq (· ++ vs.toArray)) }
  refine wpAny_bind (wpAny_load (get?_update_seq (Heap.get?_push_size _ rfl) _) ?_)
  show wpAny _ _ (pure ((#[] : Array Value) ++ vs.toArray).toList) Q E _
  rw [show ((#[] : Array Value) ++ vs.toArray).toList = vs by simp]
  exact wpAny_pure h
/-- what collecting v gives -/
def Collects (prog : Program) (w : World) (A : Around) (E : Value → Shared → Prop) (s : Shared) (v : Value) (vs : List Value) : Prop :=
  ∀ Q : List Value → Shared → Prop, (∀ (h' : Heap) (tk : Nat), (∀ b o, s.heap.get? b = some o → h'.get? b = some o) → s.heap.objs.size ≤ h'.objs.size → Q vs { s with heap := h', toks := tk }) → wpAny (model prog w) A (collect v) Q E s
theorem collected_keep {vs : List Value} : (∀ b o, s.heap.get? b = some o → ((s.heap.push (seqObj "list" #[] 0)).update s.heap.objs.size (Obj.mapSeq (· ++ vs.toArray))).get? b = some o) ∧ s.heap.objs.size ≤ ((s.heap.push (seqObj "list" #[] 0)).update s.heap.objs.size (Obj.mapSeq (· ++ vs.toArray))).objs.size := by
  refine ⟨fun b o e => ?_, by rw [Heap.size_update, size_push']; exact Nat.le_succ _⟩
  rw [Heap.get?_update_ne _ _ _ _ (Nat.ne_of_lt (Heap.lt_size e))]
  exact Heap.get?_push_of_some _ e
theorem Collects.list {l : Addr} {vs : List Value} (hl : s.heap.IsList l vs.toArray) (hz : vs.length ≤ sizeLine) : Collects prog w A E s (.ref l) vs :=
  fun Q h => collect_list hl (h _ s.toks collected_keep.1 collected_keep.2) hz
theorem Collects.tup {l : Addr} {vs : List Value} (hl : s.heap.IsTuple l vs.toArray) (hz : vs.length ≤ sizeLine) : Collects prog w A E s (.ref l) vs :=
  fun Q h => collect_tup hl (h _ s.toks collected_keep.1 collected_keep.2) hz
theorem sorted_from {v : Value} {vs : List Value} {ltv : Value → Value → Bool} {Q : Value → Shared → Prop} (O : SrtO.Swo ltv) (hz : vs.length ≤ sizeLine) (ha : argsOk "sorted" ⟨[v], []⟩) (hc : Collects prog w A.in1 E s v vs)
    (hS : 2 ≤ vs.length → ∀ (h₁ : Heap) (tk : Nat) (a : Addr), h₁.get? a = some (seqObj "list" vs.toArray 0) → (∀ b o, s.heap.get? b = some o → b ≠ a ∧ h₁.get? b = some o) → SrtO.SortableO prog w A.in1.in1 { s with heap := h₁, toks := tk } a vs ltv)
    (h : ∀ (h' : Heap) (tk : Nat) (d : Addr) (out : List Value), SrtO.Srtd ltv out → SrtO.Stb ltv out vs → (∀ b o, s.heap.get? b = some o → h'.get? b = some o) → s.heap.objs.size ≤ d → (∃ n, h'.get? d = some (seqObj "list" out.toArray n)) → Q (.ref d) { s with heap := h', toks := tk }) :
    wpAny (model prog w) A (call (.builtin "sorted") [v]) Q E s := by
  refine Calls.call_function_entry kind_sorted plain_sorted entry_sorted ha ?_
  unfold Builtin.«sorted»
  refine wpAny_bind (m := checkCount "sorted" 1 1 _) (wpAny_pure ?_)
  refine wpAny_bind (hc _ fun h' tk kp sz => ?_)
  refine wpAny_bind (wpAny_newList ?_ hz)
  have hoL : (h'.push (seqObj "list" vs.toArray 0)).get? h'.objs.size = some (seqObj "list" vs.toArray 0) := Heap.get?_push_size _ rfl
  have keep : ∀ b o, s.heap.get? b = some o → b ≠ h'.objs.size ∧ (h'.push (seqObj "list" vs.toArray 0)).get? b = some o := fun b o q => by
    have hlt : b < h'.objs.size := Heap.lt_size (kp b o q)
    exact ⟨Nat.ne_of_lt hlt, Heap.get?_push_of_some _ (kp b o q)⟩
  show wpAny _ _ _ _ _ { s with heap := h'.push (seqObj "list" vs.toArray 0), toks := tk }
  refine wpAny_bind (wpAny_holding (wpAny_call_entry slot_list_sort ⟨_, hoL, rfl⟩ entry_list_sort (SrtO.list_sort_ord O hoL hz (fun h2 => hS h2 _ tk _ hoL keep) fun out hs hb => ⟨_, rfl, ?_⟩) (args_list_sort _)))
  refine wpAny_pure ⟨_, rfl, h _ tk _ out hs hb (fun b o q => ?_) sz (sortedHeap_at hoL)⟩
  obtain ⟨k1, k2⟩ := keep b o q
  show (sortedHeap _ _ _ _).get? b = some o
  rw [sortedHeap_old k1 (Heap.lt_size k2)]
  exact k2
end

/-! ### which lists can be sorted -/
def isI : D → Bool
  | .int _ => true
  | _ => false
def isS : D → Bool
  | .str _ => true
  | _ => false
/-- the kind of a tuple's first item (-1: no such) -/
def fstT : D → Int
  | .tup (x :: _) => tag x
  | _ => -1
def kindOk : List D → Bool
  | [] => true
  | x :: xs => (isI x && xs.all isI) || (isS x && xs.all isS) || (fstT x != -1 && xs.all fun y => fstT y == fstT x)
def sOk (ds : List D) : Bool := decide (ds.length < 2) || (plnL ds && flatL ds dp && (ds.all fun x => ds.all fun y => ltOk x y) && kindOk ds)

open Classical in
noncomputable def dat (h : Heap) (v : Value) : D := if q : ∃ d, Sees h v d then Classical.choose q else .non
theorem dat_eq {h : Heap} {v : Value} {d : D} (r : Sees h v d) : dat h v = d := by
  unfold dat
  have q : ∃ d, Sees h v d := ⟨d, r⟩
  rw [dif_pos q]
  exact Sees.inj (Classical.choose_spec q) r
theorem swo_dat (h : Heap) : SrtO.Swo fun v u => ltT (dat h v) (dat h u) := ⟨fun x y => swoT.asym _ _, fun x y z => swoT.tr _ _ _⟩
theorem SeesA.mem {h : Heap} : ∀ {vs : List Value} {ds : List D}, SeesA h vs ds → ∀ v ∈ vs, ∃ d ∈ ds, Sees h v d
  | _, _, .nil, _, q => by cases q
  | _, _, .cons a b, v, q => by
    rcases List.mem_cons.mp q with e | q
    · subst e; exact ⟨_, List.mem_cons_self, a⟩
    · obtain ⟨d, h1, h2⟩ := SeesA.mem b v q
      exact ⟨d, List.mem_cons_of_mem _ h1, h2⟩
theorem SeesA.get0 {h : Heap} {vs : List Value} {d : D} {ds : List D} (r : SeesA h vs (d :: ds)) : ∃ v, vs[0]? = some v ∧ Sees h v d := by
  cases r with
  | cons a b => exact ⟨_, rfl, a⟩
theorem flatL_mem {n : Nat} : ∀ {l : List D}, flatL l n = true → ∀ x ∈ l, flat x n = true
  | [], _, _, h => by cases h
  | x :: xs, q, y, h => by
    rw [flatL, Bool.and_eq_true] at q
    rcases List.mem_cons.mp h with e | h
    · rw [e]; exact q.1
    · exact flatL_mem q.2 y h
section
variable {prog : Program} {w : World} {A : Around} {E : Value → Shared → Prop} {s : Shared}
theorem lt_kat : ∀ (xs ys : List D) (i : Nat) {b fin : Bool} {vs us : List Value} {n m : Nat} {Q : Bool → Shared → Prop}, SeesA s.heap vs xs → SeesA s.heap us ys → plnL xs = true → plnL ys = true → flatL xs n = true → flatL ys m = true → ltOkL xs ys = true → A.units + n < cLine →
    (b = true → i = 0 → ∀ x, xs[0]? = some x → tag x ≠ 4) → fin = decide (vs.length < us.length) → Q (ltL xs ys) s → PySem.W.KatLex prog w A b fin Q (vs.zip us) i s
  | [], ys, i, b, fin, vs, us, n, m, Q, rx, ry, px, py, fx, fy, ok, hu, ht, hf, h => by
    cases rx
    rw [ltL_nil, ← ry.length] at h
    rw [List.zip_nil_left]
    refine PySem.W.kat_nil ?_
    rw [hf]; exact h
  | x :: xs, [], i, b, fin, vs, us, n, m, Q, rx, ry, px, py, fx, fy, ok, hu, ht, hf, h => by
    cases ry
    rw [ltL_nilR] at h
    rw [List.zip_nil_right]
    refine PySem.W.kat_nil ?_
    rw [hf]; simpa using h
  | x :: xs, y :: ys, i, b, fin, vs, us, n, m, Q, rx, ry, px, py, fx, fy, ok, hu, ht, hf, h => by
    cases rx with
    | cons a1 a2 =>
      cases ry with
      | cons b1 b2 =>
        rw [plnL, Bool.and_eq_true] at px py
        rw [flatL, Bool.and_eq_true] at fx fy
        rw [ltOkL] at ok
        rw [ltL_cons px.1 py.1 fx.1] at h
        have he := Sees.eqAt (A := A) a1 b1 fx.1 fy.1 hu
        rw [List.zip_cons_cons]
        refine PySem.W.kat_cons (he prog w _ _ ?_)
        cases e : eqDD x y with
        | true =>
          rw [e, if_pos rfl] at ok h
          refine PySem.W.kat_yes (lt_kat xs ys (i + 1) a2 b2 px.2 py.2 fx.2 fy.2 ok hu (fun _ q => absurd q (Nat.succ_ne_zero i)) (by rw [hf]; simp) h)
        | false =>
          rw [e, if_neg (by simp)] at ok h
          refine PySem.W.kat_no ?_
          cases c : (b && i == 0) with
          | false => exact PySem.W.kat_one _ _ (lt_at x y a1 b1 px.1 py.1 fx.1 fy.1 ok hu prog w _ (PySem.W.BoolBack Q) h)
          | true =>
            rw [Bool.and_eq_true] at c
            have nt := ht c.1 (by simpa using c.2) x rfl
            cases a1 with
            | int p t =>
              cases b1 with
              | int q u =>
                have e' : ltT (.int p) (.int q) = decide (p < q) := by
                  by_cases c : p < q
                  · rw [decide_eq_true c, ltT_iff, cmpD, cmpI_lt]; exact c
                  · rw [decide_eq_false c, ltT_no, cmpD, Ne, cmpI_gt]; omega
                rw [e'] at h
                exact PyProof.Rows.oneLt_any_int h
              | _ => rw [ltOk] at ok <;> first | cases ok | simp
            | str p t =>
              cases b1 with
              | str q u =>
                have e' : ltT (.str p) (.str q) = decide (p.cps.toList < q.cps.toList) := by
                  unfold ltT
                  rw [cmpD]
                  exact cmpP_lt
                rw [e'] at h
                exact PyProof.Rows.oneLt_any_str h
              | _ => rw [ltOk] at ok <;> first | cases ok | simp
            | tup => exact absurd rfl nt
            | non => cases y <;> (rw [ltOk] at ok <;> first | cases ok | simp)
            | bl => rw [pln] at px <;> first | cases px.1 | simp
            | lst => rw [pln] at px <;> first | cases px.1 | simp
def tyOf : D → Value
  | .non => .type "NoneType"
  | .int _ => .type "int"
  | .str _ => .type "str"
  | _ => .type "tuple"
theorem looks_ty {M : Model} {h : Heap} {v : Value} {d : D} (r : Sees h v d) (p : pln d = true) : PySem.W.Looks M h (typeOf v) (tyOf d) := by
  cases r with
  | non => exact PySem.W.Looks.of_pure rfl
  | int => exact PySem.W.Looks.of_pure rfl
  | str => exact PySem.W.Looks.of_pure rfl
  | bl => rw [pln] at p <;> first | cases p | simp
  | lst => rw [pln] at p <;> first | cases p | simp
  | tup hl _ =>
    obtain ⟨o, ho, hc, _⟩ := hl
    have q : PySem.W.Looks M h (typeOf (.ref _)) o.cls := (PySem.W.Looks.ld ho).andThen .now
    rw [hc] at q
    exact q
theorem tyOf_tag {x y : D} (h : tag x = tag y) (px : pln x = true) (py : pln y = true) : tyOf x = tyOf y := by
  cases x <;> cases y <;> first | rfl | (simp [tag] at h; done) | (simp [pln] at px; done) | (simp [pln] at py; done)
theorem tyOf_tup {x : D} (p : pln x = true) : (tyOf x != Value.type "tuple") = decide (tag x ≠ 4) := by
  cases x <;> first | rfl | (simp [pln] at p; done) | decide
theorem tups_of : ∀ {vs : List Value} {ds : List D}, SeesA s.heap vs ds → (∀ d ∈ ds, fstT d ≠ -1) → ∃ fs xs, PySem.W.KatTups s.heap vs fs ∧ SeesA s.heap fs xs ∧ xs.length = ds.length ∧ (∀ x ∈ xs, ∃ ys, D.tup (x :: ys) ∈ ds)
  | _, _, .nil, _ => ⟨[], [], PySem.W.KatTups.nil, .nil, rfl, fun _ h => by cases h⟩
  | _, _, @SeesA.cons _ v vs d ds a b, h => by
    obtain ⟨fs, xs, h1, h2, h3, h4⟩ := tups_of b fun d m => h d (List.mem_cons_of_mem _ m)
    have hd := h d List.mem_cons_self
    cases a with
    | @tup l its ys hl r =>
      cases ys with
      | nil => exact absurd rfl hd
      | cons y ys =>
        obtain ⟨u, h5, h6⟩ := r.get0
        obtain ⟨o, ho, hc, n, he⟩ := hl
        refine ⟨u :: fs, y :: xs, PySem.W.KatTups.cons ho hc he (by simpa using h5) h1, .cons h6 h2, by rw [List.length_cons, List.length_cons, h3], fun x hx => ?_⟩
        rcases List.mem_cons.mp hx with e | hx
        · subst e; exact ⟨ys, List.mem_cons_self⟩
        · obtain ⟨zs, h7⟩ := h4 x hx
          exact ⟨zs, List.mem_cons_of_mem _ h7⟩
    | _ => exact absurd rfl hd
theorem strs_mem : ∀ {vs : List Value} {ds : List D}, SeesA s.heap vs ds → (∀ d ∈ ds, isS d = true) → ∃ ss, StrsAre vs ss
  | _, _, .nil, _ => ⟨[], .nil⟩
  | _, _, @SeesA.cons _ v vs d ds a b, h => by
    obtain ⟨ss, h1⟩ := strs_mem b fun d m => h d (List.mem_cons_of_mem _ m)
    have hd := h d List.mem_cons_self
    cases a with
    | str x t => exact ⟨x :: ss, .cons x t h1⟩
    | _ => cases hd
theorem ints_mem' : ∀ {vs : List Value} {ds : List D}, SeesA s.heap vs ds → (∀ d ∈ ds, isI d = true) → ∃ ss, IntsAre vs ss
  | _, _, .nil, _ => ⟨[], .nil⟩
  | _, _, @SeesA.cons _ v vs d ds a b, h => by
    obtain ⟨ss, h1⟩ := ints_mem' b fun d m => h d (List.mem_cons_of_mem _ m)
    have hd := h d List.mem_cons_self
    cases a with
    | int x t => exact ⟨x :: ss, .cons x t h1⟩
    | _ => cases hd
theorem sortable_D {h₀ : Heap} {a : Addr} {vs : List Value} {ds : List D} (h2 : 2 ≤ vs.length) (h0 : SeesA h₀ vs ds) (hk : ∀ h' : Heap, (∀ b o, b ≠ a → s.heap.get? b = some o → h'.get? b = some o) → ∀ b o, h₀.get? b = some o → h'.get? b = some o)
    (ok : sOk ds = true) (hu : A.units + dp < cLine) : SrtO.SortableO prog w A s a vs fun v u => ltT (dat h₀ v) (dat h₀ u) := by
  intro h' keep
  have kp := hk h' keep
  have hs : SeesA h' vs ds := h0.keeps kp
  unfold sOk at ok
  rw [decide_eq_false (by rw [← h0.length]; omega), Bool.false_or, Bool.and_eq_true, Bool.and_eq_true, Bool.and_eq_true] at ok
  obtain ⟨⟨⟨pl, fl⟩, lo⟩, ko⟩ := ok
  have lo' : ∀ x ∈ ds, ∀ y ∈ ds, ltOk x y = true := fun x hx y hy => List.all_eq_true.mp (List.all_eq_true.mp lo x hx) y hy
  have pl' := plnL_mem.mp pl
  have fl' := flatL_mem fl
  have ent : ∀ v ∈ vs, ∃ d ∈ ds, Sees h' v d ∧ dat h₀ v = d := fun v hv => by
    obtain ⟨d, h1, h2⟩ := h0.mem v hv
    exact ⟨d, h1, h2.keeps kp, dat_eq h2⟩
  have one : (∀ d ∈ ds, isI d = true) ∨ (∀ d ∈ ds, isS d = true) → SrtO.Cmp prog w A { s with heap := h' } oneType' (fun p => p.1 ∈ vs) (SrtO.lt2 fun v u => ltT (dat h₀ v) (dat h₀ u)) := by
    intro hd p q hp hq
    obtain ⟨d, d1, d2, d3⟩ := ent _ hp
    obtain ⟨e, e1, e2, e3⟩ := ent _ hq
    show wpAny (model prog w) A (keyLt' oneType' p.1 q.1) (fun r s' => s' = { s with heap := h' } ∧ r = ltT (dat h₀ p.1) (dat h₀ q.1)) (fun _ _ => False) { s with heap := h' }
    rw [d3, e3, keyLt'_oneType]
    rcases hd with hd | hd
    · have k1 := hd d d1
      have k2 := hd e e1
      cases d <;> first | (cases k1; done) | skip
      cases e <;> first | (cases k2; done) | skip
      rename_i i j
      generalize hv : p.1 = v at d2
      generalize hw : q.1 = w' at e2
      cases d2
      cases e2
      have e' : ltT (.int i) (.int j) = decide (i < j) := by
        by_cases c : i < j
        · rw [decide_eq_true c, ltT_iff, cmpD, cmpI_lt]; exact c
        · rw [decide_eq_false c, ltT_no, cmpD, Ne, cmpI_gt]; omega
      exact PyProof.Rows.oneLt_any_int ⟨rfl, e'.symm⟩
    · have k1 := hd d d1
      have k2 := hd e e1
      cases d <;> first | (cases k1; done) | skip
      cases e <;> first | (cases k2; done) | skip
      rename_i i j
      generalize hv : p.1 = v at d2
      generalize hw : q.1 = w' at e2
      cases d2
      cases e2
      have e' : ltT (.str i) (.str j) = decide (i.cps.toList < j.cps.toList) := by
        unfold ltT
        rw [cmpD]
        exact cmpP_lt
      exact PyProof.Rows.oneLt_any_str ⟨rfl, e'.symm⟩
  have knd : ((∀ d ∈ ds, isI d = true) ∨ (∀ d ∈ ds, isS d = true)) ∨ ∃ t : Int, t ≠ -1 ∧ ∀ d ∈ ds, fstT d = t := by
    cases ds with
    | nil => exact .inl (.inl fun _ h => by cases h)
    | cons d ds =>
      unfold kindOk at ko
      rw [Bool.or_eq_true, Bool.or_eq_true, Bool.and_eq_true, Bool.and_eq_true, Bool.and_eq_true, List.all_eq_true, List.all_eq_true, List.all_eq_true] at ko
      rcases ko with (⟨k1, k2⟩ | ⟨k1, k2⟩) | ⟨k1, k2⟩
      · exact .inl (.inl fun x hx => by
          rcases List.mem_cons.mp hx with e | hx
          · rw [e]; exact k1
          · exact k2 x hx)
      · exact .inl (.inr fun x hx => by
          rcases List.mem_cons.mp hx with e | hx
          · rw [e]; exact k1
          · exact k2 x hx)
      · exact .inr ⟨fstT d, by simpa using k1, fun x hx => by
          rcases List.mem_cons.mp hx with e | hx
          · rw [e]
          · simpa using k2 x hx⟩
  obtain ⟨v1, v2, rest, rfl⟩ : ∃ v1 v2 rest, vs = v1 :: v2 :: rest := by
    match vs, h2 with
    | v1 :: v2 :: rest, _ => exact ⟨v1, v2, rest, rfl⟩
    | [], h => exact absurd h (by decide)
    | [_], h => exact absurd h (by simp)
  rcases knd with hd | ⟨t, t1, hd⟩
  · refine ⟨oneType', fun Q E hq => ?_, one hd⟩
    rcases hd with hd | hd
    · obtain ⟨ns, hI⟩ := ints_mem' (s := { s with heap := h' }) hs hd
      rw [keyKind_ints hI]
      exact wpAny_pure hq
    · obtain ⟨ns, hI⟩ := strs_mem (s := { s with heap := h' }) hs hd
      rw [keyKind_strs hI]
      exact wpAny_pure hq
  · obtain ⟨fs, xs, g1, g2, g3, g4⟩ := tups_of (s := { s with heap := h' }) hs fun d m => by rw [hd d m]; exact t1
    have pf : ∀ x ∈ xs, pln x = true ∧ tag x = t := fun x hx => by
      obtain ⟨ys, m⟩ := g4 x hx
      have p1 := pl' _ m
      rw [pln, plnL, Bool.and_eq_true] at p1
      exact ⟨p1.1, hd _ m⟩
    obtain ⟨x0, xs0, rfl⟩ : ∃ x0 xs0, xs = x0 :: xs0 := by
      cases xs with
      | cons x0 xs0 => exact ⟨x0, xs0, rfl⟩
      | nil =>
        have := h0.length
        rw [← g3] at this
        cases this
    have p0 := pf x0 List.mem_cons_self
    have hb : (tyOf x0 != Value.type "tuple") = decide (t ≠ 4) := by rw [tyOf_tup p0.1, p0.2]
    refine ⟨tuples' (decide (t ≠ 4)), fun Q E hq => ?_, ?_⟩
    · refine PySem.W.kat_kind (T := tyOf x0) g1 (by have := g2.length; rw [this]; exact Nat.succ_pos _) (fun f hm => ?_) (by cases x0 <;> rfl) (by rw [hb]; exact hq)
      obtain ⟨x, m1, m2⟩ := g2.mem f hm
      have p1 := pf x m1
      rw [tyOf_tag (p0.2.trans p1.2.symm) p0.1 p1.1]
      exact looks_ty m2 p1.1
    · intro p q hp hq
      obtain ⟨d, d1, d2, d3⟩ := ent _ hp
      obtain ⟨e, e1, e2, e3⟩ := ent _ hq
      show wpAny (model prog w) A (keyLt' (tuples' (decide (t ≠ 4))) p.1 q.1) (fun r s' => s' = { s with heap := h' } ∧ r = ltT (dat h₀ p.1) (dat h₀ q.1)) (fun _ _ => False) { s with heap := h' }
      rw [d3, e3]
      have f1 := hd d d1
      have f2 := hd e e1
      have pd := pl' d d1
      have pe := pl' e e1
      have fd := fl' d d1
      have fe := fl' e e1
      have lk := lo' d d1 e e1
      generalize hv : p.1 = v at d2
      generalize hw : q.1 = w' at e2
      cases d2 with
      | @tup l its xs hl r =>
        cases e2 with
        | @tup l' its' ys hl' r' =>
          obtain ⟨o, ho, hc, n, ho2⟩ := hl
          obtain ⟨o', ho', hc', n', ho2'⟩ := hl'
          have e : ltT (.tup xs) (.tup ys) = ltL xs ys := by unfold ltT ltL; rw [cmpD]
          rw [e]
          rw [pln] at pd pe
          rw [ltOk] at lk
          have fd' : flatL xs 39 = true := by
            have : flat (.tup xs) (39 + 1) = true := fd
            rw [flat] at this; exact this
          have fe' : flatL ys 39 = true := by
            have : flat (.tup ys) (39 + 1) = true := fe
            rw [flat] at this; exact this
          refine PySem.W.kat_lt ho ho2 ho' ho2' (lt_kat xs ys 0 r r' pd pe fd' fe' lk (by unfold dp at hu; omega) (fun b1 _ x hx => ?_) ?_ ⟨rfl, rfl⟩)
          · cases xs with
            | nil => cases hx
            | cons z zs =>
              have hz : z = x := Option.some.inj hx
              subst hz
              have : tag z = t := f1
              rw [this]
              simpa using b1
          · simp only [Array.length_toList]
        | _ => exact absurd f2 (by intro q; exact t1 (q.symm.trans rfl))
      | _ => exact absurd f1 (by intro q; exact t1 (q.symm.trans rfl))
end

/-! ### the rule -/
def itemsT (M : Store) : D → Option (List D)
  | .tup xs => some xs
  | d => listD M d
def sortedD : FN := fun M ds => match ds with
  | [d] => (itemsT M d).bind fun xs => if sOk xs then some (.lst (srt [] xs), M) else none
  | _ => none
section
variable {X : Cx} {mg : Str → Option Value}
theorem itemsT_or {M : Store} {d : D} {xs : List D} (h : itemsT M d = some xs) : d = .tup xs ∨ listD M d = some xs := by
  cases d with
  | tup ys => cases h; exact .inl rfl
  | _ => exact .inr h
theorem perm_back {K : PySem.W.Frag} {ρ : Pl} {H : Hp} {out its : List Value} (p : out.Perm its) : ∀ {vs : List V} {xs : List D}, Vals vs its → RepAll K mg ρ H vs xs → ∃ vs' xs', Vals vs' out ∧ RepAll K mg ρ H vs' xs' ∧ xs'.Perm xs := by
  induction p with
  | nil => intro vs xs a b; exact ⟨vs, xs, a, b, .refl _⟩
  | cons x _ ih =>
    intro vs xs a b
    cases a with
    | cons a1 a2 =>
      cases b with
      | cons b1 b2 =>
        obtain ⟨vs', xs', h1, h2, h3⟩ := ih a2 b2
        exact ⟨_ :: vs', _ :: xs', .cons a1 h1, .cons b1 h2, h3.cons _⟩
  | swap x y l =>
    intro vs xs a b
    cases a with
    | cons a1 a2 =>
      cases a2 with
      | cons a2 a3 =>
        cases b with
        | cons b1 b2 =>
          cases b2 with
          | cons b2 b3 => exact ⟨_, _, .cons a2 (.cons a1 a3), .cons b2 (.cons b1 b3), .swap _ _ _⟩
  | trans _ _ ih1 ih2 =>
    intro vs xs a b
    obtain ⟨vs', xs', h1, h2, h3⟩ := ih2 a b
    obtain ⟨vs2, xs2, k1, k2, k3⟩ := ih1 h1 h2
    exact ⟨vs2, xs2, k1, k2, k3.trans h3⟩
theorem asc_dat {h : Heap} : ∀ {out : List Value} {xs : List D}, SeesA h out xs → SrtO.Srtd (fun v u => ltT (dat h v) (dat h u)) out → Asc xs
  | _, _, .nil, _ => .nil
  | _, _, .cons a b, q => by
    obtain ⟨q1, q2⟩ := List.pairwise_cons.mp q
    refine List.pairwise_cons.mpr ⟨fun y hy => ?_, asc_dat b q2⟩
    have : ∀ {vs : List Value} {ds : List D}, SeesA h vs ds → y ∈ ds → ∃ v ∈ vs, Sees h v y := by
      intro vs ds r
      induction ds generalizing vs with
      | nil => intro h; cases h
      | cons d ds ih =>
        intro m
        cases r with
        | cons r1 r2 =>
          rcases List.mem_cons.mp m with e | m
          · subst e; exact ⟨_, List.mem_cons_self, r1⟩
          · obtain ⟨v, h1, h2⟩ := ih r2 m
            exact ⟨v, List.mem_cons_of_mem _ h1, h2⟩
    obtain ⟨v, h1, h2⟩ := this b hy
    have : ltT (dat h v) (dat h _) = false := q1 v h1
    rw [dat_eq h2, dat_eq a] at this
    exact this
theorem o_sorted (hu : X.A.units + 64 < cLine) : CallR X (.builtin "sorted") (rcD X.K mg sortedD) := by
  rintro pins s σ H xs us Q I r ⟨ρ, M, ds, z, M', so, rr, hF, q⟩
  cases rr with
  | nil => cases hF
  | cons r1 r2 =>
    cases r2 with
    | cons _ _ => cases hF
    | nil =>
      rename_i v0 d
      have hF : ((itemsT M d).bind fun xs => if sOk xs then some (D.lst (srt [] xs), M) else none) = some (z, M') := hF
      cases q1 : itemsT M d with
      | none => rw [q1] at hF; cases hF
      | some xs =>
        rw [q1] at hF
        have hF : (if sOk xs = true then some (D.lst (srt [] xs), M) else none) = some (z, M') := hF
        by_cases ok : sOk xs = true
        · rw [if_pos ok] at hF
          cases hF
          obtain ⟨a, vs, rfl, sq, l, ra⟩ := seqD_ok so r1 (itemsT_or q1)
          rw [Vals.ref1 r]
          have ⟨its, rv, hcol⟩ : ∃ its, Vals vs its ∧ Collects X.prog X.w X.A.in1 X.xe s (.ref a) its := by
            rcases sq with sq | sq
            · obtain ⟨its, rv, hl, hz⟩ := I.list sq
              exact ⟨its, rv, Collects.list hl.isList (by rw [← rv.length]; exact hz)⟩
            · obtain ⟨its, rv, hl, hz⟩ := I.tuple sq
              exact ⟨its, rv, Collects.tup hl (by rw [← rv.length]; exact hz)⟩
          have hlen := rv.length
          have fl : 2 ≤ its.length → plnL xs = true ∧ flatL xs dp = true := fun h2 => by
            have ok := ok
            unfold sOk at ok
            rw [decide_eq_false (by rw [← ra.length]; omega), Bool.false_or, Bool.and_eq_true, Bool.and_eq_true, Bool.and_eq_true] at ok
            exact ok.1.1
          refine sorted_from (swo_dat s.heap) (by rw [← hlen]; exact l) (args_sorted1 _) hcol (fun h2 h₁ tk a' ha kk => ?_) fun h' tk dd out h1 h2 kp hd hn => ?_
          · refine sortable_D (s := { s with heap := h₁, toks := tk }) h2 (RepAll.sees I ra rv (fl h2).2) (fun h' keep b o e => keep b o (kk b o e).1 (kk b o e).2) ok ?_
            show X.A.units + 1 + 1 + dp < cLine
            unfold dp; omega
          · obtain ⟨n, hn⟩ := hn
            obtain ⟨vs', xs', g1, g2, g3⟩ := perm_back h2.perm rv ra
            have ex : xs' = srt [] xs := by
              by_cases c : 2 ≤ its.length
              · refine srt_uniq (asc_dat (RepAll.sees I g2 g1 (n := dp) ?_) h1) g3 (fl c).1
                have f := flatL_mem (fl c).2
                have : ∀ {l : List D}, (∀ x ∈ l, flat x dp = true) → flatL l dp = true := by
                  intro l
                  induction l with
                  | nil => intro _; rw [flatL]
                  | cons x l ih => intro h; rw [flatL, h x List.mem_cons_self, ih fun y hy => h y (List.mem_cons_of_mem _ hy)] <;> rfl
                exact this fun x hx => f x (g3.mem_iff.mp hx)
              · have c1 : xs.length < 2 := by rw [← ra.length]; omega
                match xs, c1, g3 with
                | [], _, g3 => exact List.Perm.eq_nil g3
                | [x], _, g3 => exact List.perm_singleton.mp g3
            have hv := g1.length
            have hx := h2.perm.length_eq
            have lz : vs'.length ≤ sizeLine := by omega
            have hp : H dd = none := I.hok.fresh hd
            obtain ⟨st, so', rz⟩ := newLst so hp g2 lz
            refine ⟨.ref dd, upd H dd (.lst vs'), I.laid (t' := tk) kp hd ⟨lz, out, n, g1, hn⟩, rfl, ?_⟩
            rw [ex] at rz
            exact q _ _ _ st so' rz
        · rw [if_neg ok] at hF; cases hF
end
end Py
set_option Elab.async false
set_option linter.all false
set_option maxRecDepth 100000
set_option maxHeartbeats 4000000
/-! # Slices, small builtins, isinstance, methods of lists and tuples -/
namespace Py
open PySem PySem.Spec PyProof.Rows L2 PySem.SeqAt

/-! ### slices -/
def cutD (xs : List D) (lo hi : Option Int) : List D := (xs.drop (HT.sIx xs.length 0 lo)).take (HT.sIx xs.length xs.length hi - HT.sIx xs.length 0 lo)
def slD (M : Store) (d : D) (lo hi : Option Int) : Option D := match d with
  | .str x => if x.length ≤ sz then some (.str (cutS x lo hi)) else none
  | .tup xs => some (.tup (cutD xs lo hi))
  | d => (listD M d).map fun xs => .lst (cutD xs lo hi)
section
variable {K : PySem.W.Frag} {mg : Str → Option Value} {ρ : Pl} {H : Hp}
theorem RepAll.cut {vs : List V} {ds : List D} (r : RepAll K mg ρ H vs ds) (lo hi : Option Int) : RepAll K mg ρ H (cutV vs lo hi) (cutD ds lo hi) := by
  unfold cutV cutD
  rw [← r.length]
  exact (r.drop _).take _
end
section
variable {X : Cx} {W : WX} {mg : Str → Option Value}
def rslD (K : PySem.W.Frag) (mg : Str → Option Value) : V → Option Int → Option Int → Hp → VK → Prop := fun x lo hi H Q => ∃ ρ M d z, SOk K mg ρ H M ∧ Rep K mg ρ H x d ∧ slD M d lo hi = some z ∧ ∀ v H', Step ρ H ρ H' → SOk K mg ρ H' M → Rep K mg ρ H' v z → Q v H'
theorem o_sl : SlR X (rslD X.K mg) := by
  rintro pins s σ H x v vl vu lo hi sl Q I rx hs pl pu ⟨ρ, M, d, z, so, r1, hF, q⟩
  have lists : (listD M d).map (fun xs => D.lst (cutD xs lo hi)) = some z → ∃ T id, typeLookup (.type T) "__getitem__" = pure (some (.builtin id)) ∧ s.TypeIs v T ∧ wpAny (model X.prog X.w) X.A (getItem v (.ref sl)) (EP X pins σ Q) X.xe s := by
    intro hF
    cases q1 : listD M d with
    | none => rw [q1] at hF; cases hF
    | some xs =>
      rw [q1] at hF
      cases hF
      obtain ⟨a, vs, rfl, sq, l, ra, _⟩ := listD_ok so r1 q1
      exact sl_list pins s σ H _ v vl vu lo hi sl Q I rx hs pl pu ⟨a, vs, rfl, sq, fun p hp => let ⟨a, b, c⟩ := newLst so hp (ra.cut lo hi) (Nat.le_trans (cutV_length vs lo hi) l); q _ _ a b c⟩
  cases d with
  | str y =>
    cases r1
    have hF : (if y.length ≤ sz then some (D.str (cutS y lo hi)) else none) = some z := hF
    by_cases c : y.length ≤ sz
    · rw [if_pos c] at hF
      cases hF
      exact sl_str pins s σ H _ v vl vu lo hi sl Q I rx hs pl pu ⟨y, rfl, by rw [← sz_eq]; exact c, q _ H Step.refl so (.str _)⟩
    · rw [if_neg c] at hF; cases hF
  | tup xs =>
    cases hF
    obtain ⟨a, vs, its, rfl, sq, l, ra, rv, ht, hl⟩ := tup_obj I r1
    have hlen : its.toArray.size = vs.length := by rw [List.size_toArray, hl]
    cases rx
    refine ⟨"tuple", _, PyProof.Rows.slot_tuple_getitem.lookup, ht.typeIs, ?_⟩
    by_cases hw : HT.sIx vs.length 0 lo = 0 ∧ HT.sIx vs.length vs.length hi = vs.length
    · have e : cutD xs lo hi = xs := by
        unfold cutD
        rw [← ra.length, hw.1, hw.2, ra.length]
        simp
      rw [e] at q
      exact getItem_tuple_whole ht hs pl pu (by rw [hlen]; exact hw) ⟨.ref a, H, I, rfl, q _ H Step.refl so r1⟩
    · refine HT.getItem_tuple_cut ht hs pl pu (by rw [hlen]; exact hw) ?_ (by rw [hlen]; exact l)
      rw [hlen]
      have rv' : Vals (cutV vs lo hi) ((its.drop (HT.sIx vs.length 0 lo)).take (HT.sIx vs.length vs.length hi - HT.sIx vs.length 0 lo)) := (rv.drop (HT.sIx vs.length 0 lo)).take (HT.sIx vs.length vs.length hi - HT.sIx vs.length 0 lo)
      exact tup_new (t' := s.toks) I so rv' (ra.cut lo hi) (Nat.le_trans (cutV_length vs lo hi) l) q
  | non => cases hF
  | bl _ => cases hF
  | int _ => cases hF
  | lst _ => exact lists hF
  | obj _ _ _ => cases hF
  | ref _ => exact lists hF
def optI (f : Option EF) : En → Store → Res (Option Int) := fun e M => match f with
  | none => .ok none M
  | some f => (f e M).bind fun d M1 => match d with
    | .int i => .ok (some i) M1
    | _ => .no
def eSl (f : EF) (lo hi : Option EF) : EF := fun e M => (f e M).bind fun d M1 => (optI lo e M1).bind fun l M2 => (optI hi e M2).bind fun h M3 => match slD M3 d l h with
  | some z => .ok z M3
  | none => .no
/-- a part of a slice -/
inductive PtOk (X : Cx) (W : WX) (mg : Str → Option Value) : Option Expr → Option EF → Prop
  | none : PtOk X W mg none none
  | some {e : Expr} {f : EF} : PE X e (tE X.K mg W f) → PtOk X W mg (some e) (some f)
def tOI (K : PySem.W.Frag) (mg : Str → Option Value) (W : WX) (f : Option EF) : TO := fun σ H Q => ∃ en ρ M, EnRep K mg ρ H σ en ∧ SOk K mg ρ H M ∧ Aft K mg (fun _ _ (o : Option Int) (d : Option Int) => o = d) (optI f en M) ρ H (WE W σ) Q
theorem po_D {e : Option Expr} {f : Option EF} (h : PtOk X W X.mg e f) : PO X e (tOI X.K X.mg W f) := by
  cases h with
  | none => exact ⟨fun pins s σ H Q I ⟨en, ρ, M, he, hs, h⟩ => po_none.run pins s σ H Q I (h none ρ H Step.refl hs rfl)⟩
  | some h => exact ⟨fun pins s σ H Q I ⟨en, ρ, M, he, hs, h1⟩ => (po_some h).run pins s σ H Q I ⟨en, ρ, M, he, hs, Aft.bind h1 fun d M1 v ρ1 H1 s1 o1 r1 h2 => by
      cases r1 with
      | int i => exact ⟨i, rfl, h2 _ ρ1 H1 Step.refl o1 rfl⟩
      | _ => exact h2.elim⟩⟩
theorem r_sl {e : Expr} {lo hi : Option Expr} {f : EF} {l h : Option EF} {pos p2 : Pos} (he : PE X e (tE X.K X.mg W f)) (hl : PtOk X W X.mg lo l) (hh : PtOk X W X.mg hi h) :
    PE X (.Subscript e (.Slice lo hi none p2) pos) (tE X.K X.mg W (eSl f l h)) := by
  refine peImp (pe_slice (o_sl (mg := X.mg)) he (po_D hl) (po_D hh)) fun σ H Q ⟨en, ρ, M, hen, hs, h0⟩ => ?_
  refine ⟨en, ρ, M, hen, hs, Aft.bind h0 fun d M1 v ρ1 H1 s1 o1 r1 h1 => ?_⟩
  refine ⟨en, ρ1, M1, hen.step s1, o1, Aft.bind h1 fun a M2 o ρ2 H2 s2 o2 r2 h2 => ?_⟩
  refine ⟨en, ρ2, M2, (hen.step s1).step s2, o2, Aft.bind h2 fun b M3 o' ρ3 H3 s3 o3 r3 h3 => ?_⟩
  cases r2
  cases r3
  cases q : slD M3 d a b with
  | none => rw [q] at h3; exact h3.elim
  | some z =>
    rw [q] at h3
    exact ⟨ρ3, M3, d, z, o3, (r1.step s2).step s3, q, fun u H4 s4 o4 r4 => h3 u ρ3 H4 s4 o4 r4⟩
/-- xs[::-1] of a list -/
def revD : F1 := fun M d => (listD M d).map fun xs => .lst xs.reverse
theorem r_rev {e : Expr} {f : EF} {k : Nat} {p1 p2 p3 pos : Pos} (he : PE X e (tE X.K X.mg W f)) : PE X (.Subscript e (.Slice none none (some (.UnaryOp .USub (.Constant (.int 1) k p1) p2)) p3) pos) (tE X.K X.mg W (eUn revD f)) := by
  refine peImp (pe_revL he) fun σ H Q ⟨en, ρ, M, hen, hs, h0⟩ => ?_
  refine ⟨en, ρ, M, hen, hs, Aft.bind h0 fun d M1 v ρ1 H1 s1 o1 r1 h1 => ?_⟩
  cases q1 : listD M1 d with
  | none => unfold revD at h1; rw [q1] at h1; exact h1.elim
  | some xs =>
    unfold revD at h1
    rw [q1] at h1
    obtain ⟨a, vs, rfl, sq, l, ra, _⟩ := listD_ok o1 r1 q1
    exact ⟨a, vs, rfl, sq, fun p hp => let ⟨a, b, c⟩ := newLst o1 hp ra.reverse (by rw [List.length_reverse]; exact l); h1 _ _ _ a b c⟩

/-! ### int(x), bool(x), abs(x), all(xs), any(xs) -/
def intOf : FN := fun M ds => match ds with
  | [.int i] => some (.int i, M)
  | [.bl b] => some (.int (if b then 1 else 0), M)
  | _ => none
theorem o_intOf : CallR X (.type "int") (rcD X.K X.mg intOf) := by
  rintro pins s σ H xs us Q I r ⟨ρ, M, ds, z, M', so, rr, hF, q⟩
  cases rr with
  | nil => cases hF
  | cons r1 r2 =>
    cases r2 with
    | cons _ _ => cases r1 <;> cases hF
    | nil =>
      cases r1 with
      | int i => cases hF; exact call_int1 pins s σ H _ us Q I r (.inl ⟨i, rfl, q _ ρ H Step.refl so (.int _)⟩)
      | bl b => cases hF; exact call_int1 pins s σ H _ us Q I r (.inr ⟨b, rfl, q _ ρ H Step.refl so (.int _)⟩)
      | _ => cases hF
def boolOf : FN := fun M ds => match ds with
  | [.int i] => some (.bl (i != 0), M)
  | [.bl b] => some (.bl b, M)
  | _ => none
theorem o_boolOf : CallR X (.type "bool") (rcD X.K X.mg boolOf) := by
  rintro pins s σ H xs us Q I r ⟨ρ, M, ds, z, M', so, rr, hF, q⟩
  cases rr with
  | nil => cases hF
  | cons r1 r2 =>
    cases r2 with
    | cons _ _ => cases r1 <;> cases hF
    | nil =>
      cases r1 with
      | int i => cases hF; exact call_bool1 pins s σ H _ us Q I r (.inl ⟨i, rfl, q _ ρ H Step.refl so (.bl _)⟩)
      | bl b => cases hF; exact call_bool1 pins s σ H _ us Q I r (.inr ⟨b, rfl, q _ ρ H Step.refl so (.bl _)⟩)
      | _ => cases hF
def absOf : FN := fun M ds => match ds with
  | [.int i] => some (.int (if i < 0 then -i else i), M)
  | _ => none
theorem o_abs : CallR X (.builtin "abs") (rcD X.K X.mg absOf) := by
  rintro pins s σ H xs us Q I r ⟨ρ, M, ds, z, M', so, rr, hF, q⟩
  cases rr with
  | nil => cases hF
  | cons r1 r2 =>
    cases r2 with
    | cons _ _ => cases r1 <;> cases hF
    | nil =>
      cases r1 with
      | int i => cases hF; exact call_abs pins s σ H _ us Q I r ⟨i, rfl, q _ ρ H Step.refl so (.int _)⟩
      | _ => cases hF
def mm2 (p : Int → Int → Bool) : FN := fun M ds => match ds with
  | [.int i, .int j] => some (.int (if p i j then j else i), M)
  | _ => none
def minOf : FN := mm2 fun i j => decide (j < i)
def maxOf : FN := mm2 fun i j => decide (j > i)
theorem o_mm2 {id : String} {p : Int → Int → Bool} (h : CallR X (.builtin id) (fun xs H Q => ∃ i j, xs = [.int i, .int j] ∧ Q (.int (if p i j then j else i)) H)) : CallR X (.builtin id) (rcD X.K X.mg (mm2 p)) := by
  rintro pins s σ H xs us Q I r ⟨ρ, M, ds, z, M', so, rr, hF, q⟩
  cases rr with
  | nil => cases hF
  | cons r1 r2 =>
    cases r2 with
    | nil => cases r1 <;> cases hF
    | cons r2 r3 =>
      cases r3 with
      | cons _ _ => cases r1 <;> cases r2 <;> cases hF
      | nil =>
        cases r1 with
        | int i =>
          cases r2 with
          | int j => cases hF; exact h pins s σ H _ us Q I r ⟨i, j, rfl, q _ ρ H Step.refl so (.int _)⟩
          | _ => cases hF
        | _ => cases r2 <;> cases hF
theorem o_min (hc : X.calm = true) : CallR X (.builtin "min") (rcD X.K X.mg minOf) := by
  refine o_mm2 ?_
  intro pins s σ H xs us Q I r ⟨i, j, e, q⟩
  refine call_min2 hc pins s σ H xs us Q I r ⟨i, j, e, ?_⟩
  by_cases c : j < i
  · rw [if_pos c]; rw [if_pos (by simpa using c)] at q; exact q
  · rw [if_neg c]; rw [if_neg (by simpa using c)] at q; exact q
theorem o_max (hc : X.calm = true) : CallR X (.builtin "max") (rcD X.K X.mg maxOf) := by
  refine o_mm2 ?_
  intro pins s σ H xs us Q I r ⟨i, j, e, q⟩
  refine call_max2 hc pins s σ H xs us Q I r ⟨i, j, e, ?_⟩
  by_cases c : j > i
  · rw [if_pos c]; rw [if_pos (by simpa using c)] at q; exact q
  · rw [if_neg c]; rw [if_neg (by simpa using c)] at q; exact q
def blsOf : List D → Option (List Bool)
  | [] => some []
  | .bl b :: ds => (blsOf ds).map (b :: ·)
  | _ => none
theorem blsOf_rep {K : PySem.W.Frag} {mg : Str → Option Value} {ρ : Pl} {H : Hp} : ∀ {vs : List V} {ds : List D} {bs : List Bool}, RepAll K mg ρ H vs ds → blsOf ds = some bs → vs = bs.map V.bl
  | _, _, _, .nil, h => by cases h; rfl
  | _, _, _, .cons (d := d) a b, h => by
    cases a with
    | bl x =>
      rename_i ds
      have h : (blsOf ds).map (x :: ·) = some _ := h
      cases q : blsOf ds with
      | none => rw [q] at h; cases h
      | some bs =>
        rw [q] at h
        cases h
        rw [blsOf_rep b q, List.map_cons]
    | _ => cases h
def foldB (p : List Bool → Bool) : FN := fun M ds => match ds with
  | [d] => (listD M d).bind fun xs => (blsOf xs).map fun bs => (.bl (p bs), M)
  | _ => none
theorem o_foldB {id : String} {p : List Bool → Bool} (h : CallR X (.builtin id) (fun vs H Q => ∃ (a : Addr) (bs : List Bool), vs = [V.ref a] ∧ SqL X.K H a (bs.map V.bl) ∧ Q (.bl (p bs)) H)) : CallR X (.builtin id) (rcD X.K X.mg (foldB p)) := by
  rintro pins s σ H xs us Q I r ⟨ρ, M, ds, z, M', so, rr, hF, q⟩
  cases rr with
  | nil => cases hF
  | cons r1 r2 =>
    cases r2 with
    | cons _ _ => cases hF
    | nil =>
      rename_i v0 d
      have hF : ((listD M d).bind fun xs => (blsOf xs).map fun bs => (D.bl (p bs), M)) = some (z, M') := hF
      cases q1 : listD M d with
      | none => rw [q1] at hF; cases hF
      | some ys =>
        rw [q1] at hF
        have hF : (blsOf ys).map (fun bs => (D.bl (p bs), M)) = some (z, M') := hF
        cases q2 : blsOf ys with
        | none => rw [q2] at hF; cases hF
        | some bs =>
          rw [q2] at hF
          cases hF
          obtain ⟨a, vs, rfl, sq, l, ra, _⟩ := listD_ok so r1 q1
          rw [blsOf_rep ra q2] at sq
          exact h pins s σ H _ us Q I r ⟨a, bs, rfl, sq, q _ ρ H Step.refl so (.bl _)⟩
def allOf : FN := foldB fun bs => bs.all id
def anyOf : FN := foldB fun bs => bs.any id
theorem o_all (hc : X.calm = true) : CallR X (.builtin "all") (rcD X.K X.mg allOf) := o_foldB (cr_all hc)
theorem o_any (hc : X.calm = true) : CallR X (.builtin "any") (rcD X.K X.mg anyOf) := o_foldB (cr_any hc)

/-! ### isinstance(x, T), T a built-in type -/
def tyName (M : Store) : D → Option String
  | .non => some "NoneType"
  | .bl _ => some "bool"
  | .int _ => some "int"
  | .str _ => some "str"
  | .tup _ => some "tuple"
  | .lst _ => some "list"
  | .obj _ _ _ => none
  | .ref k => match M[k]? with
    | some (.lst _) => some "list"
    | some (.dK _) => some "dict"
    | some (.dT _) => some "dict"
    | _ => none
def isTy (T : String) : F1 := fun M d => match tyName M d with
  | some n => some (.bl (n == T || (n == "bool" && T == "int")))
  | none => none
/-- the types that are asked for -/
def asked : List String := ["int", "bool", "str", "tuple", "list", "dict"]
theorem kits : ∀ n ∈ ["NoneType", "bool", "int", "str", "tuple", "list", "dict"], ∀ T ∈ asked, kitB n T = some (n == T || (n == "bool" && T == "int")) := by decide +kernel
theorem tyName_ok {M : Store} {d : D} {n : String} {ρ : Pl} {H : Hp} {v : V} (so : SOk X.K X.mg ρ H M) (r : Rep X.K X.mg ρ H v d) (h : tyName M d = some n) : TyX X.K H v (.type n) ∧ n ∈ ["NoneType", "bool", "int", "str", "tuple", "list", "dict"] := by
  cases r with
  | non => cases h; exact ⟨.base .non, by decide⟩
  | bl b => cases h; exact ⟨.base (.bl b), by decide⟩
  | int i => cases h; exact ⟨.base (.int i), by decide⟩
  | str x => cases h; exact ⟨.base (.str x), by decide⟩
  | @tup a vs ds z l ra =>
    cases h
    refine ⟨?_, by decide⟩
    rcases z with ⟨_, o, _, z⟩ | ⟨z, o, z1, z2⟩
    · exact .fTuple z
    · rcases z with z | ⟨o', its, n, k1, k2, _⟩
      · rcases z with z | ⟨_, z⟩ <;> cases z
      · exact .kTuple k1 k2
  | @lst a vs ds z l ra =>
    cases h
    refine ⟨?_, by decide⟩
    rcases z with ⟨_, z⟩ | ⟨z, its, n, z1⟩
    · rcases z with z | ⟨o, z⟩
      · exact .base (.lst z)
      · exact .base (.frz z)
    · exact .kList z1 rfl
  | obj _ _ _ _ _ => cases h
  | @ref k a e =>
    have h : (match M[k]? with | some (.lst _) => some "list" | some (.dK _) => some "dict" | some (.dT _) => some "dict" | _ => none) = some n := h
    cases q : M[k]? with
    | none => rw [q] at h; cases h
    | some o =>
      rw [q] at h
      have r := so.at' k o a q e
      cases o with
      | lst xs =>
        cases h
        obtain ⟨vs, h1, _⟩ := r
        exact ⟨.base (.lst h1), by decide⟩
      | dK xs =>
        cases h
        obtain ⟨vs, h1, _⟩ := r
        exact ⟨.base (.dK h1), by decide⟩
      | dT xs =>
        cases h
        obtain ⟨vs, h1, _⟩ := r
        exact ⟨.base (.dT h1), by decide⟩
      | ins c fs => cases h
/-- isinstance(x, T) -/
theorem r_isi {y : Str} {Tn : String} {f : EF} {e : Expr} {p p2 pos : Pos} (he : PE X e (tE X.K X.mg W f)) (hg : Gl X "isinstance") (hm : X.mg "isinstance" = none) (hg2 : Gl X y) (hm2 : X.mg y = none) (hv2 : bootBuiltins y = some (.type Tn)) (hT : Tn ∈ asked)
    (hn : y ≠ "__name__" := by decide) (hd : (y == ("__debug__" : Str)) = false := by decide)
    (na : starEach (e :: [.Name y p2]) X.env = (false, eval e X.env) :: starEach [.Name y p2] X.env := by rfl) (hpl : (backTo pos (starEach [.Name y p2] X.env)).any (·.1) = false := by rfl) :
    PE X (.Call (.Name "isinstance" p) (e :: [.Name y p2]) [] pos) (tE X.K X.mg W (eUn (isTy Tn) f)) := by
  have hy : PE X (.Name y p2) (tC (.ty Tn)) := pe_bltn hg2 hm2 hv2 (by rfl) hn hd
  refine peImp (pe_callB call_isi hg hm (by decide +kernel) (pa_cons he (pa_cons hy pa_nil) na) (he := na) (hpl := hpl)) fun σ H Q ⟨en, ρ, M, hen, hs, h0⟩ => ?_
  refine ⟨en, ρ, M, hen, hs, Aft.bind h0 fun d M1 v ρ1 H1 s1 o1 r1 h1 => ?_⟩
  unfold isTy at h1
  cases q : tyName M1 d with
  | none => rw [q] at h1; exact h1.elim
  | some n =>
    rw [q] at h1
    obtain ⟨t1, t2⟩ := tyName_ok o1 r1 q
    exact ⟨v, .ty Tn, .type n, .type Tn, _, rfl, .ty Tn, t1, kit_ty (kits n t2 Tn hT), h1 _ ρ1 H1 Step.refl o1 (.bl _)⟩
end
end Py
set_option Elab.async false
set_option linter.all false
set_option maxRecDepth 100000
set_option maxHeartbeats 4000000
/-! # Methods of lists and tuples -/
namespace Py
open PySem PySem.Spec PyProof.Rows L2 PySem.SeqAt
section
variable {X : Cx} {W : WX} {mg : Str → Option Value}
/-! ### methods of tuples -/
def eMTt (F : FN) (f : EF) (g : AF) : EF := fun e M => (f e M).bind fun x M1 => match x with
  | .tup xs => (g e M1).bind fun ds M2 => Res.ofO (F M2 (.tup xs :: ds))
  | _ => .no
theorem tup_is {pins : List (Addr × Obj)} {σ : L2.St} {H : Hp} {s : Shared} {ρ : Pl} {x : V} {v : Value} {xs : List D} (I : Inv X pins σ H s) (rv : RelV x v) (r : Rep X.K mg ρ H x (.tup xs)) :
    s.TypeIs v "tuple" ∧ ∀ a, v = .ref a → ∃ ob, s.heap.get? a = some ob ∧ ob.dict = none := by
  cases r with
  | @tup a vs _ z l ra =>
    cases rv
    obtain ⟨its, _, ht, _⟩ := I.tuple z.sq
    refine ⟨IsTup.typeIs ht, fun b e => ?_⟩
    cases e
    rcases z with ⟨_, o, od, z⟩ | ⟨_, o, z1, z2⟩
    · obtain ⟨ho, _⟩ := (show ObjOk X.prog X.w H s.heap a (.frz o (.tup vs)) from I.hok a _ z)
      exact ⟨o, ho, od⟩
    · exact ⟨o, I.kIn a o z1, z2⟩
theorem r_methT {id : String} {name : Str} {F : FN} {f : EF} {g : AF} {o e : Expr} {es : List Expr} {apos pos : Pos} (pa : PlainAttrs "tuple") (slot : Slot "tuple" name id) (hty : typeOf (.builtin id) = pure (.type "method_descriptor")) (hm : MtR X id (rmD X.K X.mg F))
    (ho : PE X o (tE X.K X.mg W f)) (ha : PA X (e :: es) (tA X.K X.mg W g)) (hbase : attributeBase o name X.env (eval o X.env) = eval o X.env := by rfl)
    (hfew : ((backTo pos (starEach (e :: es) X.env)).all (fun x => !x.1) && (backToKw pos (keywordEach [] X.env)).all (fun x => x.1.isSome)
      && decide ((e :: es).length + ([] : List Keyword).length + (if ([] : List Keyword).isEmpty then 0 else 1) < 30)) = true := by rfl)
    (hline : (apos.endLine == pos.line) = true := by rfl) (hs : starEach (e :: es) X.env = (false, eval e X.env) :: starEach es X.env := by rfl) (hplain : (backTo pos (starEach es X.env)).any (·.1) = false := by rfl) :
    PE X (.Call (.Attribute o name apos) (e :: es) [] pos) (tE X.K X.mg W (eMTt F f g)) := by
  refine ⟨fun pins s σ H Q I ⟨en, ρ, M, hen, hs0, h0⟩ => ?_⟩
  have h0' : tE X.K X.mg W f σ H fun x H1 => ∃ ρ1 M1 d xs, d = .tup xs ∧ EnRep X.K X.mg ρ1 H1 σ en ∧ SOk X.K X.mg ρ1 H1 M1 ∧ Rep X.K X.mg ρ1 H1 x d ∧ Aft X.K X.mg (Rep X.K X.mg) ((g en M1).bind fun ds M2 => Res.ofO (F M2 (.tup xs :: ds))) ρ1 H1 (WE W σ) Q := by
    refine ⟨en, ρ, M, hen, hs0, Aft.bind h0 fun d M1 v ρ1 H1 s1 o1 r1 h1 => ?_⟩
    cases d with
    | tup xs => exact ⟨ρ1, M1, _, xs, rfl, hen.step s1, o1, r1, h1⟩
    | _ => exact h1.elim
  refine wpAny_Call_method_late hbase hfew hline rfl (thn (ho.run pins s σ H _ I h0') fun v s1 ⟨x, H1, I1, r1, q1⟩ => ?_)
  obtain ⟨ρ1, M1, _, xs, rfl, he1, o1, rx, h1⟩ := q1
  obtain ⟨t1, t2⟩ := tup_is I1 r1 rx
  refine ⟨"tuple", id, pa, slot, hty, t1, t2, ?_⟩
  have q2 : tA X.K X.mg W g σ H1 fun ys H2 => rmD X.K X.mg F x ys H2 Q := ⟨en, ρ1, M1, he1, o1, Aft.bind h1 fun ds M2 vs ρ2 H2 s2 o2 r2 h2 => ofO_go o2 (.cons (rx.step s2) r2) h2⟩
  have hA := ha.run pos pins s1 σ H1 _ I1 q2
  rw [hs] at hA ⊢
  refine Calls.callWith_builtin (by show (false || (backTo pos (starEach es X.env)).any (·.1)) = false; rw [hplain] <;> rfl) (Calls.evalArgs_plain ?_)
  exact thn hA fun us s2 ⟨vs, H2, I2, r2, q2⟩ => hm pins s2 σ H2 x vs v us Q I2 r1 r2 q2
/-- xs.index(x), the first place -/
def idx (d : D) : List D → Option Nat
  | [] => none
  | x :: xs => if eqDD x d then some 0 else (idx d xs).map (· + 1)
theorem idx_some {d : D} : ∀ {xs : List D} {j : Nat}, idx d xs = some j → ∃ y, xs[j]? = some y ∧ eqDD y d = true ∧ ∀ m < j, ∀ y, xs[m]? = some y → eqDD y d = false
  | [], j, h => by cases h
  | x :: xs, j, h => by
    rw [idx] at h
    cases c : eqDD x d with
    | true =>
      rw [c, if_pos rfl] at h
      cases h
      exact ⟨x, rfl, c, fun m hm => absurd hm (by omega)⟩
    | false =>
      rw [c, if_neg (by simp)] at h
      cases q : idx d xs with
      | none => rw [q] at h; cases h
      | some k =>
        rw [q] at h
        cases h
        obtain ⟨y, h1, h2, h3⟩ := idx_some q
        refine ⟨y, h1, h2, fun m hm y hy => ?_⟩
        cases m with
        | zero => cases hy; exact c
        | succ m => exact h3 m (Nat.lt_of_succ_lt_succ hm) y hy
def indexT : FN := fun M ds => match ds with
  | [.tup xs, d] => if flat d dp = true ∧ flatL xs dp = true then (idx d xs).map fun j => (.int (j : Nat), M) else none
  | _ => none
theorem SeesA.get {h : Heap} : ∀ {vs : List Value} {ds : List D} {i : Nat} {v : Value}, SeesA h vs ds → vs[i]? = some v → ∃ d, ds[i]? = some d ∧ Sees h v d
  | _, _, _, _, .nil, q => by cases q
  | _, _, 0, _, .cons a _, q => by cases q; exact ⟨_, rfl, a⟩
  | _, _, i + 1, _, .cons _ b, q => SeesA.get (i := i) b (by simpa using q)
theorem o_indexT (hu : X.A.units + 64 < cLine) : MtR X "tuple.index" (rmD X.K mg indexT) := by
  rintro pins s σ H x xs v us Q I rx rs ⟨ρ, M, ds, z, M', so, rr, hF, q⟩
  cases rr with
  | @cons _ _ d0 dr r1 r2 =>
    cases d0 with
    | tup ys =>
      cases r2 with
      | nil => cases hF
      | cons r2 r3 =>
        cases r3 with
        | cons _ _ => cases hF
        | nil =>
          rename_i w d
          have hF : (if flat d dp = true ∧ flatL ys dp = true then (idx d ys).map fun j => (D.int (j : Nat), M) else none) = some (z, M') := hF
          by_cases c : flat d dp = true ∧ flatL ys dp = true
          · rw [if_pos c] at hF
            cases qi : idx d ys with
            | none => rw [qi] at hF; cases hF
            | some j =>
              rw [qi] at hF
              cases hF
              obtain ⟨y, h1, h2, h3⟩ := idx_some qi
              obtain ⟨a, vs, its, rfl, sq, l, ra, rv, ht, hl⟩ := tup_obj I r1
              cases rx
              obtain ⟨u, rfl, ru⟩ := vals1 rs
              have sd : Sees s.heap u d := Rep.sees I r2 ru c.1
              have sa : SeesA s.heap its ys := RepAll.sees I ra rv c.2
              obtain ⟨⟨cls, dd, dt, sl⟩, ho, hc, n, hd⟩ := ht
              simp only at hc hd
              subst hc
              subst hd
              have hle : its.toArray.size = ys.length := by rw [List.size_toArray, sa.length]
              have hj : j < its.toArray.size := by rw [hle]; exact (List.getElem?_eq_some_iff.mp h1).1
              have at' : ∀ (m : Nat) (hm : m < its.toArray.size), ∃ y, ys[m]? = some y ∧ Sees s.heap its.toArray[m] y := fun m hm =>
                sa.get (i := m) (by simpa using hm)
              refine call_meets PySem.F.slot_tuple_index ⟨_, ho, rfl⟩ PySem.F.entry_tuple_index (PySem.F.args_tuple_index_2 _ _) (TI.tuple_indexAt a its.toArray n dd sl u (fun w => eqDD (dat s.heap w) d) j hj ?_ ?_)
                ⟨ho, fun w hw => ?_, ⟨.int (j : Nat), H, I.tok _, ⟨_, rfl⟩, q _ ρ H Step.refl so (.int _)⟩⟩
              · obtain ⟨y', k1, k2⟩ := at' j hj
                rw [h1] at k1
                cases k1
                show eqDD (dat s.heap _) d = true
                rw [dat_eq k2]; exact h2
              · intro m hm hmj
                obtain ⟨y', k1, k2⟩ := at' m hm
                show eqDD (dat s.heap _) d = false
                rw [dat_eq k2]; exact h3 m hmj y' k1
              · obtain ⟨y', k1, k2⟩ := sa.mem w (by simpa using hw)
                show EqAt X.A.in1 s w u (eqDD (dat s.heap w) d)
                rw [dat_eq k2]
                exact Sees.eqAt k2 sd (flatL_mem c.2 y' k1) c.1 (by show X.A.units + 1 + dp < cLine; unfold dp; omega)
          · rw [if_neg c] at hF; cases hF
    | _ => cases hF

/-! ### methods of lists -/
/-- the list at a handle -/
def lstAt (M : Store) (d : D) : Option (Nat × List D) := match d with
  | .ref k => match M[k]? with
    | some (.lst xs) => some (k, xs)
    | _ => none
  | _ => none
theorem lstAt_ok {M : Store} {d : D} {k : Nat} {xs : List D} {ρ : Pl} {H : Hp} {v : V} (so : SOk X.K mg ρ H M) (r : Rep X.K mg ρ H v d) (h : lstAt M d = some (k, xs)) :
    ∃ a vs, v = .ref a ∧ d = .ref k ∧ M[k]? = some (.lst xs) ∧ ρ.hs[k]? = some a ∧ H a = some (.lst vs) ∧ vs.length ≤ sizeLine ∧ RepAll X.K mg ρ H vs xs := by
  cases r with
  | @ref k' a e =>
    have h : (match M[k']? with | some (.lst xs) => some (k', xs) | _ => none) = some (k, xs) := h
    cases q : M[k']? with
    | none => rw [q] at h; cases h
    | some o =>
      rw [q] at h
      cases o with
      | lst ys =>
        cases h
        obtain ⟨vs, h1, l, ra⟩ := so.at' _ _ a q e
        exact ⟨a, vs, rfl, rfl, q, e, h1, l, ra⟩
      | _ => cases h
  | _ => cases h
def appendD : FN := fun M ds => match ds with
  | [o, d] => (lstAt M o).bind fun p => if p.2.length < sz then some (.non, M.set p.1 (.lst (p.2 ++ [d]))) else none
  | _ => none
theorem o_append : MtR X "list.append" (rmD X.K mg appendD) := by
  rintro pins s σ H x xs v us Q I rx rs ⟨ρ, M, ds, z, M', so, rr, hF, q⟩
  cases rr with
  | @cons _ _ d0 dr r1 r2 =>
    cases r2 with
    | nil => cases hF
    | cons r2 r3 =>
      cases r3 with
      | cons _ _ => cases hF
      | nil =>
        rename_i w d
        have hF : ((lstAt M d0).bind fun p => if p.2.length < sz then some (D.non, M.set p.1 (.lst (p.2 ++ [d]))) else none) = some (z, M') := hF
        cases qi : lstAt M d0 with
        | none => rw [qi] at hF; cases hF
        | some p =>
          obtain ⟨k, ys⟩ := p
          rw [qi] at hF
          have hF : (if ys.length < sz then some (D.non, M.set k (.lst (ys ++ [d]))) else none) = some (z, M') := hF
          by_cases c : ys.length < sz
          · rw [if_pos c] at hF
            cases hF
            obtain ⟨a, vs, rfl, rfl, hk, ha, h1, l, ra⟩ := lstAt_ok so r1 qi
            have l' : vs.length < sizeLine := by rw [ra.length, ← sz_eq]; exact c
            have st : Step ρ H ρ (upd H a (.lst (vs ++ [w]))) := Step.write (List.mem_of_getElem? ha)
            exact mt_append pins s σ H _ _ v us Q I rx rs ⟨a, vs, w, rfl, rfl, h1, l', q _ ρ _ st (so.write ha ⟨_, upd_same, by rw [List.length_append, List.length_singleton]; exact l', (ra.append (.cons r2 .nil)).step st⟩) .non⟩
          · rw [if_neg c] at hF; cases hF
def extendD : FN := fun M ds => match ds with
  | [o, d] => (lstAt M o).bind fun p => (listD M d).bind fun zs => if p.2.length + zs.length ≤ sz then some (.non, M.set p.1 (.lst (p.2 ++ zs))) else none
  | _ => none
theorem o_extend : MtR X "list.extend" (rmD X.K mg extendD) := by
  rintro pins s σ H x xs v us Q I rx rs ⟨ρ, M, ds, z, M', so, rr, hF, q⟩
  cases rr with
  | @cons _ _ d0 dr r1 r2 =>
    cases r2 with
    | nil => cases hF
    | cons r2 r3 =>
      cases r3 with
      | cons _ _ => cases hF
      | nil =>
        rename_i w d
        have hF : ((lstAt M d0).bind fun p => (listD M d).bind fun zs => if p.2.length + zs.length ≤ sz then some (D.non, M.set p.1 (.lst (p.2 ++ zs))) else none) = some (z, M') := hF
        cases qi : lstAt M d0 with
        | none => rw [qi] at hF; cases hF
        | some p =>
          obtain ⟨k, ys⟩ := p
          rw [qi] at hF
          have hF : ((listD M d).bind fun zs => if ys.length + zs.length ≤ sz then some (D.non, M.set k (.lst (ys ++ zs))) else none) = some (z, M') := hF
          cases qj : listD M d with
          | none => rw [qj] at hF; cases hF
          | some zs =>
            rw [qj] at hF
            have hF : (if ys.length + zs.length ≤ sz then some (D.non, M.set k (.lst (ys ++ zs))) else none) = some (z, M') := hF
            by_cases c : ys.length + zs.length ≤ sz
            · rw [if_pos c] at hF
              cases hF
              obtain ⟨a, vs, rfl, rfl, hk, ha, hH, l, ra⟩ := lstAt_ok so r1 qi
              obtain ⟨b, ws, its2, n2, rfl, l2, rb, rv2, e2, hl2⟩ := listD_obj I so r2 qj
              have l' : vs.length + ws.length ≤ sizeLine := by rw [ra.length, rb.length, ← sz_eq]; exact c
              have st : Step ρ H ρ (upd H a (.lst (vs ++ ws))) := Step.write (List.mem_of_getElem? ha)
              cases rx
              obtain ⟨u, rfl, ru⟩ := vals1 rs
              cases ru
              obtain ⟨z0, its, n, r, hl, e⟩ := I.lstM hH
              have hsz : its.toArray.size + its2.toArray.size ≤ sizeLine := by rw [List.size_toArray, List.size_toArray]; omega
              have hlong : ¬ (!its.toArray.isEmpty && Builtin.List.listTooLong (its.toArray.size + its2.toArray.size)) = true := by
                rw [notLongL hsz, Bool.and_false]
                exact Bool.false_ne_true
              refine call_meets F.slot_list_extend ⟨_, e, rfl⟩ F.entry_list_extend (F.args_list_extend_2 _ _)
                (AutoSeq1.list_extend_list_list_0 a its.toArray n b its2.toArray n2 hlong (by rw [List.size_toArray]; omega) (by omega)) ⟨e, e2, ?_⟩
              refine ⟨.non, _, I.lset (its' := its ++ its2) hH e (by simp) (r.append rv2) (by rw [List.length_append]; exact l'), rfl, ?_⟩
              exact q _ ρ _ st (so.write ha ⟨_, upd_same, by rw [List.length_append]; exact l', (ra.append rb).step st⟩) .non
            · rw [if_neg c] at hF; cases hF
def popD : FN := fun M ds => match ds with
  | [o] => (lstAt M o).bind fun p => p.2.getLast?.map fun z => (z, M.set p.1 (.lst p.2.dropLast))
  | [o, .int i] => (lstAt M o).bind fun p => (ixN p.2.length i).bind fun n => p.2[n]?.map fun z => (z, M.set p.1 (.lst (p.2.eraseIdx n)))
  | _ => none
theorem o_pop : MtR X "list.pop" (rmD X.K mg popD) := by
  rintro pins s σ H x xs v us Q I rx rs ⟨ρ, M, ds, z, M', so, rr, hF, q⟩
  cases rr with
  | @cons _ _ d0 dr r1 r2 =>
    cases r2 with
    | nil =>
      have hF : ((lstAt M d0).bind fun p => p.2.getLast?.map fun z => (z, M.set p.1 (.lst p.2.dropLast))) = some (z, M') := hF
      cases qi : lstAt M d0 with
      | none => rw [qi] at hF; cases hF
      | some p =>
        obtain ⟨k, ys⟩ := p
        rw [qi] at hF
        have hF : (ys.getLast?.map fun z => (z, M.set k (.lst ys.dropLast))) = some (z, M') := hF
        cases qj : ys.getLast? with
        | none => rw [qj] at hF; cases hF
        | some y =>
          rw [qj] at hF
          cases hF
          obtain ⟨a, vs, rfl, rfl, hk, ha, h1, l, ra⟩ := lstAt_ok so r1 qi
          rw [List.getLast?_eq_getElem?] at qj
          obtain ⟨w, hw, rw'⟩ := ra.get qj
          have st : Step ρ H ρ (upd H a (.lst vs.dropLast)) := Step.write (List.mem_of_getElem? ha)
          exact mt_pop pins s σ H _ _ v us Q I rx rs ⟨a, vs, w, rfl, rfl, h1, by rw [ra.length]; exact hw, q w ρ _ st (so.write ha ⟨_, upd_same, by rw [List.length_dropLast]; omega, ra.dropLast.step st⟩) (rw'.step st)⟩
    | cons r2 r3 =>
      cases r3 with
      | cons _ _ => cases r2 <;> cases hF
      | nil =>
        cases r2 with
        | int i =>
          have hF : ((lstAt M d0).bind fun p => (ixN p.2.length i).bind fun n => p.2[n]?.map fun z => (z, M.set p.1 (.lst (p.2.eraseIdx n)))) = some (z, M') := hF
          cases qi : lstAt M d0 with
          | none => rw [qi] at hF; cases hF
          | some p =>
            obtain ⟨k, ys⟩ := p
            rw [qi] at hF
            have hF : ((ixN ys.length i).bind fun n => ys[n]?.map fun z => (z, M.set k (.lst (ys.eraseIdx n)))) = some (z, M') := hF
            cases qj : ixN ys.length i with
            | none => rw [qj] at hF; cases hF
            | some n =>
              rw [qj] at hF
              have hF : (ys[n]?.map fun z => (z, M.set k (.lst (ys.eraseIdx n)))) = some (z, M') := hF
              cases ql : ys[n]? with
              | none => rw [ql] at hF; cases hF
              | some y =>
                rw [ql] at hF
                cases hF
                obtain ⟨a, vs, rfl, rfl, hk, ha, h1, l, ra⟩ := lstAt_ok so r1 qi
                obtain ⟨w, hw, rw'⟩ := ra.get ql
                obtain ⟨g1, g2, g3, g4⟩ := ixN_seq qj
                have l63 := line63
                have hlv := ra.length
                have st : Step ρ H ρ (upd H a (.lst (vs.eraseIdx n))) := Step.write (List.mem_of_getElem? ha)
                have le := len_erase vs n
                exact mt_popAt pins s σ H _ _ v us Q I rx rs ⟨a, vs, i, n, w, rfl, rfl, h1, by omega, by omega, by rw [hlv]; exact g1, hw, q w ρ _ st (so.write ha ⟨_, upd_same, by omega, (ra.eraseIdx n).step st⟩) (rw'.step st)⟩
        | _ => cases hF
end
end Py
set_option Elab.async false
set_option linter.all false
set_option maxRecDepth 100000
set_option maxHeartbeats 4000000
/-! # Short rules for printed derivations; the end of a law -/
namespace Py
open PySem PySem.Spec PyProof.Rows L2

/-- a def of the text that is proved to compute m -/
structure Cl (P : Program) (w : World) (K : PySem.W.Frag) (mg : Str → Option Value) (base : Heap) (k : Nat) (x : Str) (ps : List Str) (m : MF) : Prop where
  ex : ∃ f fd, FnOk P w K mg base (L2.CX P w) k f fd ps (spD K mg m ps.length) ∧ mg x = some (.ref f) ∧ PySem.W.keepIn K (.ref f) = true ∧ Binds K fd ps []
/-- what the top has written of a def -/
structure Tp (K : PySem.W.Frag) (mg : Str → Option Value) (x : Str) (st : Stmt) (ps : List Str) : Prop where
  ex : ∃ f fd, Fun K x x st f fd ∧ mg x = some (.ref f) ∧ Binds K fd ps []
section
variable {P : Program} {w : World} {K : PySem.W.Frag} {mg : Str → Option Value} {base : Heap}
theorem Cl.mk' {x : Str} {st : Stmt} {N ps : List Str} {k : Nat} {sf : SF} (T : Tp K mg x st ps) (S : FnScope N ps (defScope st))
    (hb : ∀ (f : Addr) (cdv : Value) (A : Around) (outer : List Env) (s : Shared) (H : Hp) (E : XK), Room k (A.deeper (envOfC x (defScope st) s.heap.objs.size f cdv)) →
      PSs (cxOf (L2.CX P w) P w K mg base N x (defScope st) f cdv A outer s H E) (defBody st) (tS K mg (fun c d _ H => E c d H) sf)) :
    Cl P w K mg base (k + 1) x ps (mFn N.length ps.length sf) := by
  obtain ⟨f, fd, F, g, b⟩ := T.ex
  exact ⟨f, fd, fn_body F S (fun cdv A outer s H E hr => hb f cdv A outer s H E hr), g, F.kp, b⟩
/-- a nicer function in its place -/
theorem Cl.spec {x : Str} {ps : List Str} {k : Nat} {r m : MF} (C : Cl P w K mg base k x ps r) (h : ∀ ds M, ds.length = ps.length → belL M.length ds = true → (∀ o ∈ M, belO M.length o = true) → Sim M (r ds M) (m ds M)) : Cl P w K mg base k x ps m := by
  obtain ⟨f, fd, F, g, kp, b⟩ := C.ex
  exact ⟨f, fd, fn_spec F h, g, kp, b⟩
theorem Cl.eq {x : Str} {ps : List Str} {k : Nat} {r m : MF} (C : Cl P w K mg base k x ps r) (h : ∀ ds M, ds.length = ps.length → m ds M ≠ .no → r ds M = m ds M) : Cl P w K mg base k x ps m :=
  C.spec fun ds M hl _ _ => by
    by_cases c : m ds M = .no
    · exact .inl c
    · exact .inr (.inl (h ds M hl c).symm)
theorem Tp.of {x : Str} {st : Stmt} {ps : List Str} {f : Addr} {fd : FuncData} (F : Fun K x x st f fd) (g : mg x = some (.ref f)) (b : Binds K fd ps []) : Tp K mg x st ps := ⟨f, fd, F, g, b⟩
end
section
variable {X : Cx} {W : WX} {pos : Pos} {x : Str} {e : Expr} {es : List Expr} {f : EF} {g : AF}
theorem gv (i : Nat) (hN : X.N[i]? = some x := by rfl) (hv : Vis X.env.scope x := by first | exact Or.inl rfl | exact Or.inr (Or.inl rfl) | exact Or.inr (Or.inr rfl)) (hd : (x == ("__debug__" : Str)) = false := by decide)
    (hcd : (x == ("__classdict__" : Str)) = false := by decide) : PE X (.Name x pos) (tE X.K X.mg W (eVar i)) := r_var hN hv hd hcd
theorem gcall {m : MF} {k k' n : Nat} {ps : List Str} {p : Pos} (C : Cl X.prog X.w X.K X.mg X.base k x ps m) (hr : Room k' X.A) (hk : k ≤ k') (tk : Takes X W) (ha : PA X (e :: es) (tA X.K X.mg W g)) (hn : ps.length = n := by rfl) (hg : Gl X x := by rfl)
    (hdb : (x == ("__debug__" : Str)) = false := by decide) (he : starEach (e :: es) X.env = (false, eval e X.env) :: starEach es X.env := by rfl) (hpl : (backTo pos (starEach es X.env)).any (·.1) = false := by rfl) :
    PE X (.Call (.Name x p) (e :: es) [] pos) (tE X.K X.mg W (eCall (arity n m) g)) := by
  subst hn
  obtain ⟨fa, fd, F, h1, h2, h3⟩ := C.ex
  exact r_call F (hr.mono hk) h1 h2 h3 tk hg ha hdb he hpl
theorem gset (i : Nat) {pos' : Pos} (hN : X.N.Nodup) (he : PE X e (tE X.K X.mg W f)) (hi : X.N[i]? = some x := by rfl) (hx : Loc X.env.scope x := by first | exact Or.inl rfl | exact Or.inr rfl) (hs : swapsWith e (some (.Name x pos')) pos.line X.env = pure false := by rfl)
    (hf : X.fn x = true ∨ X.env.scope.names.lookup x = some .local := by first | exact .inl rfl | exact .inr rfl) : PS X (.Assign [.Name x pos'] e pos) (tS X.K X.mg W (sSet i f)) := rs_set hN hi hx he hs hf
theorem gpn (i : Nat) (hN : X.N.Nodup) (hi : X.N[i]? = some x := by rfl) (hx : Loc X.env.scope x := by first | exact Or.inl rfl | exact Or.inr rfl)
    (hf : X.fn x = true ∨ X.env.scope.names.lookup x = some .local := by first | exact .inl rfl | exact .inr rfl) : PG X (.Name x pos) (gName i) := pg_name hN hi hx hf
end
/-- the end: what is left is the law's function -/
theorem walkD {l : PySem.W.OpenLaw} {n k : Nat} {q : Program} {loose : List Str} {XP : (Str → Option Value) → Heap → Prop} {YP : World → Heap → Prop} {d : DefRec} {K : Params → PySem.W.Frag} {x : Str} {m : MF}
    (hn : l.most = some n) (hn2 : n ≤ sizeLine) (hdf : d.params.defaults = []) (hr : Room k callerA) (hY : ∀ (w : World) (h : Heap), YP w h → (K w.params).In h)
    (hm : ∀ ns : List Int, ns.length ≤ n → ∃ M', m [.lst (ns.map D.int)] [] = .ok (.bl true) M')
    (F : ∀ (w : World) (mg : Str → Option Value) (fa : Addr) (h : Heap), (K w.params).In h → h.Ns mainGlobals mg → mg d.name = some (.ref fa) →
      ∃ fd : FuncData, (∀ (s : Shared) (u : Value), BindsTo s fd ⟨[u], []⟩ [(x, u)]) ∧
        ∀ base : Heap, (K w.params).In base → base.Ns mainGlobals mg → FnOk l.prog w (K w.params) mg base (L2.CX l.prog w) k fa fd [x] (spD (K w.params) mg m 1)) :
    PySem.W.WalkO q loose XP YP l.row.toRowW d [] (fun f vs => PySem.call f vs) := by
  refine Att.attach_call hn hdf fun w s₀ s₁ mg mb fa o pm cd doc a vs ns G Y ho hd hcd hmg hobj hints hlen hg => ?_
  have KX := hY w _ Y
  obtain ⟨fd, hb, hF⟩ := F w mg fa _ KX G.T.g hmg
  refine law_call KX G.T.g G.T.b G.T.builtins G.T.nolimit hg hobj hints (Nat.le_trans hlen hn2) hr hF hb (fun H hO hS => ⟨rfl, ⟨[], []⟩, [], [.lst (ns.map D.int)], ?_, ?_, ?_⟩) fun H e s' c => ?_
  · refine .cons (.lst (vs := ns.map V.int) ?_ (by rw [List.length_map]; exact Nat.le_trans hlen hn2) (RepAll.mapInt ns)) .nil
    rcases hS with hS | hS
    · exact .inl ⟨⟨by simp, by simp⟩, hS⟩
    · refine .inr ⟨.inr hS, ?_⟩
      obtain ⟨o', its, n', h1, _⟩ := hS
      have e := KX a o' h1
      rw [hobj] at e
      cases e
      exact ⟨_, _, h1⟩
  · exact ⟨rfl, List.nodup_nil, fun a ha => (by cases ha), fun k o a e => (by simp at e)⟩
  · obtain ⟨M', e⟩ := hm ns hlen
    rw [e]
    intro v ρ' H' _ _ r
    cases r
    rfl
  · obtain ⟨_, _, _, _, _, _, _, _, _, _, _, _, z⟩ := c
    exact z
end Py
set_option Elab.async false
set_option linter.all false
set_option maxRecDepth 100000
set_option maxHeartbeats 4000000
/-! # op= of ints; <=, >, >= -/
namespace Py
open PySem PySem.Spec PyProof.Rows L2
section
variable {X : Cx} {mg : Str → Option Value}
def ipI (f : Int → Int → Int) : FN := fun M ds => match ds with
  | [.int i, .int j] => some (.int (f i j), M)
  | _ => none
theorem o_ipI {op : Operator} {f : Int → Int → Int} (h : PIp X op (L2.ipI f)) : PIp X op (ripD X.K mg (ipI f)) := by
  intro pins s σ H x y v u Q I r1 r2 ⟨ρ, M, ds, z, M', so, rr, hF, q⟩
  cases rr with
  | cons a1 a2 =>
    cases a2 with
    | cons b1 b2 =>
      cases b2
      cases a1 with
      | int i =>
        cases b1 with
        | int j =>
          cases hF
          exact h pins s σ H _ _ v u Q I r1 r2 ⟨i, j, rfl, rfl, q _ ρ H Step.refl so (.int _)⟩
        | _ => cases hF
      | _ => cases b1 <;> cases hF
def ipAdd : FN := ipI fun i j => i + j
def ipSub : FN := ipI fun i j => i - j
theorem o_ipAdd : PIp X .Add (ripD X.K mg ipAdd) := o_ipI ip_add
theorem o_ipSub : PIp X .Sub (ripD X.K mg ipSub) := o_ipI ip_sub
def leIS : F2 := cmpIS (fun i j => decide (i ≤ j)) (fun x y => !decide (y.cps.toList < x.cps.toList))
def gtIS : F2 := cmpIS (fun i j => decide (i > j)) (fun x y => decide (x.cps.toList > y.cps.toList))
def geIS : F2 := cmpIS (fun i j => decide (i ≥ j)) (fun x y => !decide (x.cps.toList < y.cps.toList))
theorem o_le0 : OpR X (compareOp .LtE) (r2D X.K mg leIS) := o_ltIS op_le op_le_str
theorem o_gt0 : OpR X (compareOp .Gt) (r2D X.K mg gtIS) := o_ltIS op_gt op_gt_str
theorem o_ge0 : OpR X (compareOp .GtE) (r2D X.K mg geIS) := o_ltIS op_ge op_ge_str
end
end Py
set_option Elab.async false
set_option linter.all false
set_option maxRecDepth 100000
set_option maxHeartbeats 4000000
/-! # Running a mirror by simp: its combinators unfold at a state -/
namespace Py
open PySem PySem.Spec PyProof.Rows L2
section
variable {f g h : SF} {x y z : EF} {a : AF} {b c : BF} {e : En} {M : Store} {i : Nat} {d : D}
@[simp] theorem u_seq : sSeq f g e M = (match f e M with | .nx e1 M1 => g e1 M1 | r => r) := rfl
@[simp] theorem u_nil : sNil e M = .nx e M := rfl
@[simp] theorem u_set : sSet i x e M = (match x e M with | .ok d M1 => .nx (e.set i (some d)) M1 | .ex y M1 => .ex y e M1 | .no => .no) := rfl
@[simp] theorem u_expr : sExpr x e M = (match x e M with | .ok _ M1 => .nx e M1 | .ex y M1 => .ex y e M1 | .no => .no) := rfl
@[simp] theorem u_ret : sRet x e M = (match x e M with | .ok d M1 => .rt d M1 | .ex y M1 => .ex y e M1 | .no => .no) := rfl
@[simp] theorem u_if : sIf b f g e M = (match b e M with | .ok true M1 => f e M1 | .ok false M1 => g e M1 | .ex y M1 => .ex y e M1 | .no => .no) := rfl
@[simp] theorem u_asg {t : GF} : sAsg x t e M = (match x e M with | .ok d M1 => (match t d e with | some e1 => .nx e1 M1 | none => .no) | .ex y M1 => .ex y e M1 | .no => .no) := rfl
@[simp] theorem u_par {is : List Nat} : sPar is a e M = (match a e M with | .ok ds M1 => if ds.length = is.length then .nx ((is.zip ds).foldl (fun e p => e.set p.1 (some p.2)) e) M1 else .no | .ex y M1 => .ex y e M1 | .no => .no) := rfl
@[simp] theorem u_sub {F : FSet} : sSub F x y z e M = (match (x e M).bind (fun v M1 => (y e M1).bind fun o M2 => (z e M2).bind fun i M3 => Res.opt ((F M3 o i v).map fun M4 => (o, M4)) M3) with | .ok p _ => .nx e p.2 | .ex y M1 => .ex y e M1 | .no => .no) := rfl
@[simp] theorem u_var : eVar i e M = (match e[i]? with | some (some d) => .ok d M | _ => .no) := rfl
@[simp] theorem u_c : eC d e M = .ok d M := rfl
@[simp] theorem u_aN : aNil e M = .ok [] M := rfl
@[simp] theorem u_aC : aCons x a e M = (x e M).bind fun d M1 => (a e M1).bind fun ds M2 => .ok (d :: ds) M2 := rfl
@[simp] theorem u_bin {F : F2} : eBin F x y e M = (x e M).bind fun v M1 => (y e M1).bind fun w M2 => (match F M2 v w with | some z => .ok z M2 | none => .no) := rfl
@[simp] theorem u_un {F : F1} : eUn F x e M = (x e M).bind fun v M1 => (match F M1 v with | some z => .ok z M1 | none => .no) := rfl
@[simp] theorem u_B {F : FN} : eB F a e M = (a e M).bind fun ds M1 => Res.ofO (F M1 ds) := rfl
@[simp] theorem u_call {m : MF} : eCall m a e M = (a e M).bind fun ds M1 => m ds M1 := rfl
@[simp] theorem u_ar {m : MF} {n : Nat} {ds : List D} (h : ds.length = n) : arity n m ds M = m ds M := if_pos h
@[simp] theorem u_tup : eTup a e M = (a e M).bind fun ds M1 => if ds.length ≤ 1000 then .ok (.tup ds) M1 else .no := rfl
@[simp] theorem u_lst : eLst a e M = (a e M).bind fun ds M1 => if ds.length ≤ 1000 then .ok (.lst ds) M1 else .no := rfl
@[simp] theorem u_lstR : eLstR a e M = (a e M).bind fun ds M1 => if ds.length ≤ 1000 then .ok (.ref M1.length) (M1 ++ [.lst ds]) else .no := rfl
@[simp] theorem u_val : bVal x e M = (x e M).bind fun d M1 => (match d with | .bl b => .ok b M1 | _ => .no) := rfl
@[simp] theorem u_bNot : bNot b e M = (b e M).bind fun c M1 => .ok (!c) M1 := rfl
@[simp] theorem u_bAnd : bAnd b c e M = (b e M).bind fun t M1 => if t = true then c e M1 else .ok false M1 := rfl
@[simp] theorem u_bOr : bOr b c e M = (b e M).bind fun t M1 => if t = true then .ok true M1 else c e M1 := rfl
@[simp] theorem u_bYes : bYes e M = .ok true M := rfl
@[simp] theorem u_and : eAnd x y e M = (x e M).bind fun d M1 => (match d with | .bl true => y e M1 | .bl false => .ok (.bl false) M1 | _ => .no) := rfl
@[simp] theorem u_or : eOr x y e M = (x e M).bind fun d M1 => (match d with | .bl true => .ok (.bl true) M1 | .bl false => y e M1 | _ => .no) := rfl
@[simp] theorem u_not : eNot x e M = (x e M).bind fun d M1 => (match d with | .bl b => .ok (.bl (!b)) M1 | _ => .no) := rfl
@[simp] theorem u_ifE : eIf b x y e M = (b e M).bind fun c M1 => if c = true then x e M1 else y e M1 := rfl
@[simp] theorem u_augS {G : F2} {F : FN} {S : FSet} : sAugS G F S x y z e M = fin e (fun (p : D × Store) _ => .nx e p.2) ((x e M).bind fun o M1 => (y e M1).bind fun i M2 => match G M2 o i with
    | some x => (z e M2).bind fun y M3 => (Res.ofO (F M3 [x, y])).bind fun z M4 => Res.opt ((S M4 o i z).map fun M5 => (D.non, M5)) M4
    | none => .no) := rfl
@[simp] theorem u_aug {F : FN} : sAug i F x e M = (match e[i]? with | some (some v) => fin e (fun z M2 => .nx (e.set i (some z)) M2) ((x e M).bind fun y M1 => Res.ofO (F M1 [v, y])) | _ => .no) := rfl
@[simp] theorem u_sl {l u : Option EF} : eSl x l u e M = (x e M).bind fun d M1 => (optI l e M1).bind fun p M2 => (optI u e M2).bind fun q M3 => match slD M3 d p q with | some z => .ok z M3 | none => .no := rfl
@[simp] theorem u_oN : optI none e M = .ok none M := rfl
@[simp] theorem u_oS : optI (some x) e M = (x e M).bind fun d M1 => (match d with | .int i => .ok (some i) M1 | _ => .no) := rfl
@[simp] theorem u_seqI : iSeq x e M = (x e M).bind fun d M1 => Res.opt (seqD M1 d) M1 := rfl
@[simp] theorem u_r1 : iRange1 a e M = (a e M).bind fun ds M1 => (match ds with | [.int n] => if n ≤ 16777216 ∧ -(2 ^ 62) ≤ n then .ok ((List.range n.toNat).map fun i => D.int (i : Nat), none) M1 else .no | _ => .no) := rfl
@[simp] theorem u_for {it : IF} {t : GF} : sFor it t f e M = (match it e M with | .ok xc M1 => fIter xc.2 xc.1 t f xc.1 e M1 | .ex x M1 => .ex x e M1 | .no => .no) := rfl
@[simp] theorem u_lc {k : Bool} {it : IF} {t : GF} {vs : List Nat} : eLc k it t b x vs e M = (it e M).bind fun xc M1 => (lcIter xc.2 xc.1 t b x (wipeE e vs) xc.1 M1).bind (lcFin k) := rfl
@[simp] theorem u_mt {T : String} {F : FN} : eMT T F x a e M = (x e M).bind fun v M1 => if tyD T M1 v = true then (a e M1).bind fun ds M2 => Res.ofO (F M2 (v :: ds)) else .no := rfl
@[simp] theorem u_mtT {F : FN} : eMTt F x a e M = (x e M).bind fun v M1 => (match v with | .tup xs => (a e M1).bind fun ds M2 => Res.ofO (F M2 (.tup xs :: ds)) | _ => .no) := rfl
@[simp] theorem u_ok {α β : Type} {v : α} {k : α → Store → Res β} : (Res.ok v M).bind k = k v M := rfl
@[simp] theorem u_no {α β : Type} {k : α → Store → Res β} : (Res.no : Res α).bind k = .no := rfl
@[simp] theorem u_ofO {p : D × Store} : Res.ofO (some p) = .ok p.1 p.2 := rfl
@[simp] theorem u_ofN : Res.ofO none = .no := rfl
@[simp] theorem u_opt {α : Type} {v : α} : Res.opt (some v) M = .ok v M := rfl
@[simp] theorem u_optN {α : Type} : Res.opt (none : Option α) M = .no := rfl
@[simp] theorem u_fin {α : Type} {v : α} {k : α → Store → SR} : fin e k (.ok v M) = k v M := rfl
@[simp] theorem u_quiet {α : Type} {v : α} : (Res.ok v M).quiet = .ok v M := rfl
@[simp] theorem u_fF : lcFin false = fun ys M => .ok (.lst ys) M := rfl
@[simp] theorem u_gN : gN i d e = some (e.set i (some d)) := rfl
@[simp] theorem u_gsN : gsN [] e = some e := rfl
@[simp] theorem u_gsC {t : GF} {ts : GsF} {ds : List D} : gsC t ts (d :: ds) e = (t d e).bind fun e1 => ts ds e1 := rfl
@[simp] theorem u_gT {n : Nat} {ts : GsF} {ds : List D} : gT n ts (.tup ds) e = if ds.length = n then ts ds e else none := rfl
/-! ### operations at their data -/
variable {m n : Int} {xs ys : List D} {s t : Str} {k : Nat}
@[simp] theorem o_ii_add : addD M (.int m) (.int n) = some (.int (m + n)) := rfl
@[simp] theorem o_ii_sub : subD M (.int m) (.int n) = some (.int (m - n)) := rfl
@[simp] theorem o_ii_mul : mulD M (.int m) (.int n) = if (-(2 ^ 64) < m ∧ m < 2 ^ 64) ∨ (-(2 ^ 64) < n ∧ n < 2 ^ 64) then some (.int (m * n)) else none := rfl
@[simp] theorem o_ii_fdiv : fdivD M (.int m) (.int n) = if n ≠ 0 ∧ n.natAbs < 1073741824 then some (.int (m.fdiv n)) else none := rfl
@[simp] theorem o_ii_mod : modD M (.int m) (.int n) = if n ≠ 0 then some (.int (m.fmod n)) else none := rfl
@[simp] theorem o_ii_pow : powD M (.int m) (.int n) = if 0 ≤ n ∧ n ≤ 1000000 ∧ m.natAbs < 2 ^ 64 then some (.int (m ^ n.toNat)) else none := rfl
@[simp] theorem o_i_neg : negD M (.int m) = some (.int (-m)) := rfl
@[simp] theorem o_ii_lt : ltIS M (.int m) (.int n) = some (.bl (decide (m < n))) := rfl
@[simp] theorem o_ii_le : leIS M (.int m) (.int n) = some (.bl (decide (m ≤ n))) := rfl
@[simp] theorem o_ii_gt : gtIS M (.int m) (.int n) = some (.bl (decide (m > n))) := rfl
@[simp] theorem o_ii_ge : geIS M (.int m) (.int n) = some (.bl (decide (m ≥ n))) := rfl
@[simp] theorem o_t_add : addD M (.tup xs) (.tup ys) = if xs.length + ys.length ≤ sz then some (.tup (xs ++ ys)) else none := rfl
@[simp] theorem o_int_i : intOf M [.int m] = some (.int m, M) := rfl
@[simp] theorem o_abs_i : absOf M [.int m] = some (.int (if m < 0 then -m else m), M) := rfl
@[simp] theorem o_len_l : lenD M [.lst xs] = some (.int xs.length, M) := rfl
@[simp] theorem o_len_t : lenD M [.tup xs] = some (.int xs.length, M) := rfl
@[simp] theorem o_ix_l : ixD M (.lst xs) (.int m) = atI xs m := rfl
@[simp] theorem o_ix_t : ixD M (.tup xs) (.int m) = atI xs m := rfl
theorem listD_r (h : M[k]? = some (.lst xs)) : listD M (.ref k) = some xs := by
  show (match M[k]? with | some (.lst xs) => some xs | _ => none) = _
  rw [h]
theorem o_ix_r (h : M[k]? = some (.lst xs)) : ixD M (.ref k) (.int m) = atI xs m := by
  show ((listD M (.ref k)).bind fun xs => atI xs m) = _
  rw [listD_r h]; rfl
theorem o_gl_r (h : M[k]? = some (.lst xs)) : getLD M (.ref k) (.int m) = atI xs m := by
  show ((listD M (.ref k)).bind fun xs => atI xs m) = _
  rw [listD_r h]; rfl
theorem o_sl_r (h : M[k]? = some (.lst xs)) : setLD M (.ref k) (.int m) d = (ixN xs.length m).map fun n => M.set k (.lst (xs.set n d)) := by
  show (match M[k]? with | some (.lst xs) => (ixN xs.length m).map fun n => M.set k (.lst (xs.set n d)) | _ => none) = _
  rw [h]
@[simp] theorem o_ip_add : ipAdd M [.int m, .int n] = some (.int (m + n), M) := rfl
@[simp] theorem o_ip_sub : ipSub M [.int m, .int n] = some (.int (m - n), M) := rfl
@[simp] theorem o_tO_l : tupleOf M [.lst xs] = some (.tup xs, M) := rfl
@[simp] theorem o_tO_t : tupleOf M [.tup xs] = some (.tup xs, M) := rfl
@[simp] theorem o_lO_l : listOf M [.lst xs] = some (.lst xs, M) := rfl
@[simp] theorem o_lO_t : listOf M [.tup xs] = some (.lst xs, M) := rfl
@[simp] theorem o_lR_t : listOfR M [.tup xs] = some (.ref M.length, M ++ [.lst xs]) := rfl
@[simp] theorem o_lR_l : listOfR M [.lst xs] = some (.ref M.length, M ++ [.lst xs]) := rfl
@[simp] theorem o_so_t : sortedD M [.tup xs] = if sOk xs then some (.lst (srt [] xs), M) else none := rfl
@[simp] theorem o_so_l : sortedD M [.lst xs] = if sOk xs then some (.lst (srt [] xs), M) else none := rfl
@[simp] theorem o_sq_l : seqD M (.lst xs) = some (xs, none) := rfl
@[simp] theorem o_sq_t : seqD M (.tup xs) = some (xs, none) := rfl
@[simp] theorem o_rev_l : revD M (.lst xs) = some (.lst xs.reverse) := rfl
@[simp] theorem o_cut_t {p q : Option Int} : slD M (.tup xs) p q = some (.tup (cutD xs p q)) := rfl
@[simp] theorem o_cut_l {p q : Option Int} : slD M (.lst xs) p q = some (.lst (cutD xs p q)) := rfl
@[simp] theorem o_it_t : isTy "tuple" M (.tup xs) = some (.bl true) := rfl
@[simp] theorem o_it_b {b : Bool} : isTy "bool" M (.bl b) = some (.bl true) := rfl
@[simp] theorem o_allB : allOf M [.lst xs] = (blsOf xs).map fun bs => (.bl (bs.all id), M) := rfl
@[simp] theorem o_anyB : anyOf M [.lst xs] = (blsOf xs).map fun bs => (.bl (bs.any id), M) := rfl
@[simp] theorem cd_none {all : List D} : cdOk none all M = True := rfl
theorem atI_n {ds : List D} {j : Nat} {d : D} (h : ds[j]? = some d) : atI ds (j : Int) = some d := by
  have hj : j < ds.length := (List.getElem?_eq_some_iff.mp h).1
  unfold atI
  rw [show ixN ds.length (j : Int) = some j from by unfold ixN; rw [if_pos (by omega), if_pos (by omega)]; rfl]
  exact h
@[simp] theorem atI_0 {d : D} {ds : List D} : atI (d :: ds) 0 = some d := atI_n (j := 0) rfl
@[simp] theorem atI_1 {c d : D} {ds : List D} : atI (c :: d :: ds) 1 = some d := atI_n (j := 1) rfl
@[simp] theorem atI_2 {b c d : D} {ds : List D} : atI (b :: c :: d :: ds) 2 = some d := atI_n (j := 2) rfl
@[simp] theorem atI_3 {a b c d : D} {ds : List D} : atI (a :: b :: c :: d :: ds) 3 = some d := atI_n (j := 3) rfl
@[simp] theorem ixN_0 {n : Nat} : ixN (n + 1) 0 = some 0 := by unfold ixN; rw [if_pos (by omega), if_pos (by omega)]; rfl
@[simp] theorem ixN_1 {n : Nat} : ixN (n + 2) 1 = some 1 := by unfold ixN; rw [if_pos (by omega), if_pos (by omega)]; rfl
@[simp] theorem ixN_2 {n : Nat} : ixN (n + 3) 2 = some 2 := by unfold ixN; rw [if_pos (by omega), if_pos (by omega)]; rfl
@[simp] theorem ixN_3 {n : Nat} : ixN (n + 4) 3 = some 3 := by unfold ixN; rw [if_pos (by omega), if_pos (by omega)]; rfl
end
/-- the law's tape at handle k -/
def TapeAt (M : Store) (k : Nat) (ns : List Int) (i : Nat) (r s : Int) : Prop := M[k]? = some (.lst [.lst (ns.map D.int), .int (i : Int), .int r, .int s])
theorem getLast_cell {ns : List Int} {i : Nat} (h : i < ns.length) : atI (ns.map D.int) (i : Int) = some (.int ns[i]) := atI_n (by simp [h])
end Py
set_option Elab.async false
set_option linter.all false
set_option maxRecDepth 100000
set_option maxHeartbeats 4000000
/-! # Comparisons and comprehensions of plain data -/
namespace Py
open PySem PySem.Spec PyProof.Rows L2
section
variable {M : Store} {xs ys : List D} {b c : Bool} {m n : Int}
theorem flat_t {k : Nat} : flat (.tup xs) (k + 1) = flatL xs k := by rw [flat]
theorem flat_l {k : Nat} : flat (.lst xs) (k + 1) = flatL xs k := by rw [flat]
theorem ne_tt (h1 : flatL xs 39 = true) (h2 : flatL ys 39 = true) : neD M (.tup xs) (.tup ys) = some (.bl (!eqLL xs ys)) := by
  show (if flat (.tup xs) (39 + 1) = true ∧ flat (.tup ys) (39 + 1) = true then some (D.bl (!eqDD (.tup xs) (.tup ys))) else none) = _
  rw [flat_t, flat_t, h1, h2, eqDD]; rfl
theorem eq_tt (h1 : flatL xs 39 = true) (h2 : flatL ys 39 = true) : eqD M (.tup xs) (.tup ys) = some (.bl (eqLL xs ys)) := by
  show (if flat (.tup xs) (39 + 1) = true ∧ flat (.tup ys) (39 + 1) = true then some (D.bl (eqDD (.tup xs) (.tup ys))) else none) = _
  rw [flat_t, flat_t, h1, h2, eqDD]; rfl
theorem ne_ll (h1 : flatL xs 39 = true) (h2 : flatL ys 39 = true) : neD M (.lst xs) (.lst ys) = some (.bl (!eqLL xs ys)) := by
  show (if flat (.lst xs) (39 + 1) = true ∧ flat (.lst ys) (39 + 1) = true then some (D.bl (!eqDD (.lst xs) (.lst ys))) else none) = _
  rw [flat_l, flat_l, h1, h2, eqDD]; rfl
theorem eq_ll (h1 : flatL xs 39 = true) (h2 : flatL ys 39 = true) : eqD M (.lst xs) (.lst ys) = some (.bl (eqLL xs ys)) := by
  show (if flat (.lst xs) (39 + 1) = true ∧ flat (.lst ys) (39 + 1) = true then some (D.bl (eqDD (.lst xs) (.lst ys))) else none) = _
  rw [flat_l, flat_l, h1, h2, eqDD]; rfl
@[simp] theorem ne_ii : neD M (.int m) (.int n) = some (.bl (!decide (m = n))) := by
  show (if flat (.int m) dp = true ∧ flat (.int n) dp = true then some (D.bl (!eqDD (.int m) (.int n))) else none) = _
  rw [flat, flat, eqDD]; rfl
@[simp] theorem eq_ii : eqD M (.int m) (.int n) = some (.bl (decide (m = n))) := by
  show (if flat (.int m) dp = true ∧ flat (.int n) dp = true then some (D.bl (eqDD (.int m) (.int n))) else none) = _
  rw [flat, flat, eqDD]; rfl
@[simp] theorem ne_bb : neD M (.bl b) (.bl c) = some (.bl (!(b == c))) := by
  show (if flat (.bl b) dp = true ∧ flat (.bl c) dp = true then some (D.bl (!eqDD (.bl b) (.bl c))) else none) = _
  rw [flat, flat, eqDD]; rfl
@[simp] theorem is_bb : isN false M (.bl b) (.bl c) = some (.bl (b == c)) := rfl
theorem deref_tup {k : Nat} {zs : List D} : deref k M (.tup zs) = .tup zs := by cases k <;> rfl
/-- of plain data == is equality -/
theorem eqLL_self (h1 : flatL xs 39 = true) : eqLL xs xs = true := eqLL_refl xs ⟨39, h1⟩
theorem eqLL_iff (h0 : plnL xs = true) (h1 : plnL ys = true) (h2 : flatL xs 39 = true) : eqLL xs ys = true ↔ xs = ys :=
  ⟨eqLL_eq xs ys (plnL_noBl h0) (plnL_noBl h1), fun e => by rw [← e]; exact eqLL_self h2⟩
theorem eqDD_iff {x y : D} (h0 : pln x = true) (h1 : pln y = true) (h2 : flat x 39 = true) : eqDD x y = true ↔ x = y :=
  ⟨eqDD_eq x y (pln_noBl h0) (pln_noBl h1), fun e => by rw [← e]; exact eqDD_refl x ⟨39, h2⟩⟩
end
/-- a comprehension that leaves the store alone -/
theorem lc_pure {all : List D} {g : GF} {b : BF} {f : EF} {e0 : En} {M : Store} {p : D → Bool} {h : D → D} : ∀ {L : List D}, (∀ d ∈ L, ∃ e1, g d e0 = some e1 ∧ b e1 M = .ok (p d) M ∧ (p d = true → f e1 M = .ok (h d) M)) →
    lcIter none all g b f e0 L M = .ok ((L.filter p).map h) M
  | [], _ => by unfold lcIter; rw [if_pos (by trivial)]; rfl
  | d :: L, q => by
    obtain ⟨e1, q1, q2, q3⟩ := q d List.mem_cons_self
    have ih := lc_pure (all := all) (L := L) fun x hx => q x (List.mem_cons_of_mem _ hx)
    unfold lcIter
    rw [if_pos (by trivial), q1]
    dsimp only
    rw [q2]
    cases c : p d with
    | true =>
      simp only [u_quiet, u_ok, if_true]
      rw [q3 c]
      simp only [u_quiet, u_ok]
      rw [ih, List.filter_cons_of_pos c]
      rfl
    | false =>
      simp only [u_quiet, u_ok, Bool.false_eq_true, if_false]
      rw [ih, List.filter_cons_of_neg (by rw [c]; decide)]
@[simp] theorem lc_nil {all : List D} {g : GF} {b : BF} {f : EF} {e0 : En} {M : Store} : lcIter none all g b f e0 [] M = .ok [] M := by unfold lcIter; exact if_pos trivial
@[simp] theorem f_nil {all : List D} {g : GF} {f : SF} {e : En} {M : Store} : fIter none all g f [] e M = .nx e M := by unfold fIter; exact if_pos trivial
theorem lc_cons {all L : List D} {d : D} {g : GF} {b : BF} {f : EF} {e0 : En} {M : Store} : lcIter none all g b f e0 (d :: L) M = (match g d e0 with
      | some e1 => (b e1 M).quiet.bind fun t M1 => if t = true then (f e1 M1).quiet.bind fun y M2 => (lcIter none all g b f e0 L M2).bind fun ys M3 => .ok (y :: ys) M3 else lcIter none all g b f e0 L M1
      | none => .no) := by
  conv => lhs; unfold lcIter
  exact if_pos trivial
theorem f_cons {all L : List D} {d : D} {g : GF} {f : SF} {e : En} {M : Store} : fIter none all g f (d :: L) e M = (match g d e with
      | some e1 => match f e1 M with
        | .nx e2 M2 => fIter none all g f L e2 M2
        | .ct e2 M2 => fIter none all g f L e2 M2
        | .bk e2 M2 => .nx e2 M2
        | .rt d M2 => .rt d M2
        | .ex x e2 M2 => .ex x e2 M2
        | .no => .no
      | none => .no) := by
  conv => lhs; unfold fIter
  exact if_pos trivial
/-- the tape at its usual handle -/
def TI (ns : List Int) (M : Store) : Prop := ∃ i r s, TapeAt M 0 ns i r s ∧ 0 ≤ r
theorem TI.set {ns : List Int} {M : Store} {i : Nat} {r s : Int} (h : 0 < M.length) (hr : 0 ≤ r) : TI ns (M.set 0 (.lst [.lst (ns.map D.int), .int (i : Int), .int r, .int s])) :=
  ⟨i, r, s, List.getElem?_set_self h, hr⟩
theorem TI.len {ns : List Int} {M : Store} (h : TI ns M) : 0 < M.length := let ⟨_, _, _, h, _⟩ := h; (List.getElem?_eq_some_iff.mp h).1
theorem TI.app {ns : List Int} {M : Store} {o : O} (h : TI ns M) : TI ns (M ++ [o]) := by
  have := h.len
  obtain ⟨i, r, s, h, hr⟩ := h
  exact ⟨i, r, s, by unfold TapeAt at h ⊢; rw [List.getElem?_append_left this]; exact h, hr⟩
theorem TI.setN {ns : List Int} {M : Store} {o : O} {k : Nat} (h : TI ns M) (hk : k ≠ 0) : TI ns (M.set k o) := by
  obtain ⟨i, r, s, h, hr⟩ := h
  exact ⟨i, r, s, by unfold TapeAt at h ⊢; rw [List.getElem?_set_ne hk]; exact h, hr⟩
theorem srt_fix {xs : List D} (h : Asc xs) (q : plnL xs = true) : srt [] xs = xs := (srt_uniq h (.refl _) q).symm
theorem srt_add {xs ys : List D} (q : plnL (xs ++ ys) = true) : srt [] (srt [] xs ++ ys) = srt [] (xs ++ ys) := by
  have p : (srt [] xs ++ ys).Perm (xs ++ ys) := (srt_perm xs []).append_right ys
  exact srt_uniq (srt_asc _ .nil) ((srt_perm _ []).trans p) q
theorem srt_swap {xs ys : List D} (p : xs.Perm ys) (q : plnL ys = true) : srt [] xs = srt [] ys := srt_uniq (srt_asc _ .nil) ((srt_perm _ []).trans p) q
theorem srt_len {xs : List D} : (srt [] xs).length = xs.length := (srt_perm xs []).length_eq
theorem plnL_app {xs ys : List D} : plnL (xs ++ ys) = (plnL xs && plnL ys) := by
  induction xs with
  | nil => rw [List.nil_append, plnL]; rfl
  | cons x xs ih => rw [List.cons_append, plnL, plnL, ih, Bool.and_assoc]
end Py
set_option Elab.async false
set_option linter.all false
set_option maxRecDepth 100000
set_option maxHeartbeats 4000000
/-! printed by gen.py: the mirrors and derivations of law_k59_links -/
namespace Py
open PySem PySem.Spec PyProof.Rows L2
noncomputable section
def topS (i : Nat) : Stmt := PySem.Challenge.pw_callweir_k59_links.main.body.getD i (.Pass ⟨0, 0, 0, 0⟩)
structure Zs (mg : Str → Option Value) : Prop where
  z_abs : mg "abs" = none
  z_all : mg "all" = none
  z_bool : mg "bool" = none
  z_int : mg "int" = none
  z_isinstance : mg "isinstance" = none
  z_len : mg "len" = none
  z_list : mg "list" = none
  z_range : mg "range" = none
  z_sorted : mg "sorted" = none
  z_tuple : mg "tuple" = none
section
variable {P : Program} {w : World} {K : PySem.W.Frag} {mg : Str → Option Value} {base : Heap}
/-! put -/
abbrev st_put : Stmt := topS 1
theorem sc_put : FnScope ["bag", "moment", "message"] ["bag", "moment", "message"] (defScope st_put) := ⟨rfl, rfl, rfl, by decide +kernel, rfl, by decide +kernel, by decide +kernel⟩
def b_put  : SF :=
    (sRet (eB tupleOf (aCons (eB sortedD (aCons (eBin addD (eVar 0) (eTup (aCons (eTup (aCons (eVar 1) (aCons (eVar 2) aNil))) aNil))) aNil)) aNil)))
abbrev r_put  : MF := mFn 3 3 (b_put )
theorem ok_put (z : Zs mg) (T : Tp K mg "put" st_put ["bag", "moment", "message"])  : Cl P w K mg base 1 "put" ["bag", "moment", "message"] (r_put ) :=
  Cl.mk' T sc_put fun f cdv A outer s H E hr => by
    exact (rs_one (rs_ret (r_callTy o_tupleOf (by rfl) z.z_tuple (by decide +kernel) (ra_cons (r_callB (o_sorted hr.units) (by rfl) z.z_sorted (by decide +kernel) (ra_cons (r_bin o_add (gv 0) (r_tup (ra_cons (r_tup (ra_cons (gv 1) (ra_cons (gv 2) ra_nil))) ra_nil))) ra_nil)) ra_nil))))
/-! without -/
abbrev st_without : Stmt := topS 2
theorem sc_without : FnScope ["bag", "k"] ["bag", "k"] (defScope st_without) := ⟨rfl, rfl, rfl, by decide +kernel, rfl, by decide +kernel, by decide +kernel⟩
def b_without  : SF :=
    (sRet (eBin addD (eSl (eVar 0) none (some (eVar 1))) (eSl (eVar 0) (some (eBin addD (eVar 1) (eC (.int 1)))) none)))
abbrev r_without  : MF := mFn 2 2 (b_without )
theorem ok_without (z : Zs mg) (T : Tp K mg "without" st_without ["bag", "k"])  : Cl P w K mg base 1 "without" ["bag", "k"] (r_without ) :=
  Cl.mk' T sc_without fun f cdv A outer s H E hr => by
    exact (rs_one (rs_ret (r_bin o_add (r_sl (gv 0) .none (.some (gv 1))) (r_sl (gv 0) (.some (r_bin o_add (gv 1) r_int)) .none))))
/-! first_rows -/
abbrev st_first_rows : Stmt := topS 3
theorem sc_first_rows : FnScope ["bag", "k"] ["bag"] (defScope st_first_rows) := ⟨rfl, rfl, rfl, by decide +kernel, rfl, by decide +kernel, by decide +kernel⟩
def b_first_rows  : SF :=
    (sRet (eLc false (iRange1 (aCons (eB lenD (aCons (eVar 0) aNil)) aNil)) (gN 1) (bOr (bVal (eBin eqD (eVar 1) (eC (.int 0)))) (bVal (eBin neD (eBin ixD (eVar 0) (eVar 1)) (eBin ixD (eVar 0) (eBin subD (eVar 1) (eC (.int 1))))))) (eVar 1) [1]))
abbrev r_first_rows  : MF := mFn 2 1 (b_first_rows )
theorem ok_first_rows (z : Zs mg) (T : Tp K mg "first_rows" st_first_rows ["bag"])  : Cl P w K mg base 1 "first_rows" ["bag"] (r_first_rows ) :=
  Cl.mk' T sc_first_rows fun f cdv A outer s H E hr => by
    exact (rs_one (rs_ret (r_lc false (own := [("k", 1)]) rfl sc_first_rows.nd (ri_range1 (by rfl) z.z_range (ra_cons (r_callB o_len0 (by rfl) z.z_len (by decide +kernel) (ra_cons (gv 0) ra_nil)) ra_nil)) (blkOk_by (N := ["bag", "k"]) (sc := defScope st_first_rows) (by decide +kernel)) tg_name (by decide) (fun _ _ _ _ _ => (gpn 1 sc_first_rows.nd)) (fun _ _ _ _ _ => (rts_one (PW.pt (rw_or (rt_cmp (o_eq hr.units) (gv 1) r_int (by rfl)) (rw_or1 (rt_cmp (o_ne hr.units) (r_ix o_ix (gv 0) (gv 1) (fun _ _ => rfl)) (r_ix o_ix (gv 0) (r_bin o_sub (gv 1) r_int) (fun _ _ => rfl)) (by rfl))))))) (fun _ _ _ _ _ => (gv 1)))))
/-! may_wait -/
abbrev st_may_wait : Stmt := topS 4
theorem sc_may_wait : FnScope ["bag", "reach", "moment", "put_at", "message"] ["bag", "reach", "moment"] (defScope st_may_wait) := ⟨rfl, rfl, rfl, by decide +kernel, rfl, by decide +kernel, by decide +kernel⟩
def b_may_wait  : SF :=
    (sRet (eB allOf (aCons (eLc false (iSeq (eVar 0)) (gT 2 (gsC (gN 3) (gsC (gN 4) gsN))) bYes (eBin gtIS (eBin addD (eVar 3) (eVar 1)) (eVar 2)) [3, 4]) aNil)))
abbrev r_may_wait  : MF := mFn 5 3 (b_may_wait )
theorem ok_may_wait (z : Zs mg) (T : Tp K mg "may_wait" st_may_wait ["bag", "reach", "moment"])  : Cl P w K mg base 1 "may_wait" ["bag", "reach", "moment"] (r_may_wait ) :=
  Cl.mk' T sc_may_wait fun f cdv A outer s H E hr => by
    exact (rs_one (rs_ret (r_callB (o_all rfl) (by rfl) z.z_all (by decide +kernel) (ra_cons (r_lc false (own := [("put_at", 3), ("message", 4)]) rfl sc_may_wait.nd (ri_seq (gv 0)) (blkOk_by (N := ["bag", "reach", "moment", "put_at", "message"]) (sc := defScope st_may_wait) (by decide +kernel)) (tg_tup (tgs_cons tg_name (tgs_cons tg_name tgs_nil))) (by decide) (fun _ _ _ _ _ => (pg_tup rfl (pgs_cons (gpn 3 sc_may_wait.nd) (pgs_cons (gpn 4 sc_may_wait.nd) pgs_nil)))) (fun _ _ _ _ _ => rts_nil) (fun _ _ _ _ _ => (r_cmp o_gt0 (r_bin o_add (gv 3) (gv 1)) (gv 2) (by rfl)))) ra_nil))))
/-! _law_next -/
abbrev st__law_next : Stmt := topS 6
theorem sc__law_next : FnScope ["tape", "many", "rest", "cell"] ["tape", "many"] (defScope st__law_next) := ⟨rfl, rfl, rfl, by decide +kernel, rfl, by decide +kernel, by decide +kernel⟩
def b__law_next  : SF :=
    (sSeq (sSet 2 (eBin ixD (eVar 0) (eC (.int 2))))
    (sSeq (sIf (bVal (eBin gtIS (eVar 2) (eC (.int 0)))) (sSeq (sSub setLD (eBin fdivD (eVar 2) (eVar 1)) (eVar 0) (eC (.int 2)))
    (sRet (eBin modD (eB intOf (aCons (eVar 2) aNil)) (eVar 1)))) sNil)
    (sSeq (sSet 3 (eC (.int 0)))
    (sSeq (sIf (bVal (eBin ltIS (eBin ixD (eVar 0) (eC (.int 1))) (eB lenD (aCons (eBin ixD (eVar 0) (eC (.int 0))) aNil)))) (sSeq (sSet 3 (eB absOf (aCons (eBin ixD (eBin ixD (eVar 0) (eC (.int 0))) (eBin ixD (eVar 0) (eC (.int 1)))) aNil)))
    (sAugS getLD ipAdd setLD (eVar 0) (eC (.int 1)) (eC (.int 1)))) sNil)
    (sSeq (sIf (bVal (eBin geIS (eVar 3) (eBin powD (eC (.int 10)) (eC (.int 18))))) (sSeq (sSub setLD (eBin fdivD (eVar 3) (eVar 1)) (eVar 0) (eC (.int 2)))
    (sRet (eBin modD (eB intOf (aCons (eVar 3) aNil)) (eVar 1)))) sNil)
    (sSeq (sSub setLD (eBin modD (eB intOf (aCons (eBin addD (eBin addD (eBin mulD (eBin ixD (eVar 0) (eC (.int 3))) (eC (.int 48271))) (eBin mulD (eVar 3) (eC (.int 69621)))) (eC (.int 11))) aNil)) (eC (.int 2147483647))) (eVar 0) (eC (.int 3)))
    (sRet (eBin modD (eB intOf (aCons (eBin fdivD (eBin modD (eB intOf (aCons (eBin mulD (eBin ixD (eVar 0) (eC (.int 3))) (eC (.int 16807))) aNil)) (eC (.int 2147483647))) (eC (.int 7))) aNil)) (eVar 1)))))))))
abbrev r__law_next  : MF := mFn 4 2 (b__law_next )
theorem ok__law_next (z : Zs mg) (T : Tp K mg "_law_next" st__law_next ["tape", "many"])  : Cl P w K mg base 1 "_law_next" ["tape", "many"] (r__law_next ) :=
  Cl.mk' T sc__law_next fun f cdv A outer s H E hr => by
    exact (rs_cons (gset 2 sc__law_next.nd (r_ix o_ix (gv 0) r_int (fun _ _ => rfl)))
    (rs_cons (rs_if (rt_cmp o_gt0 (gv 2) r_int (by rfl)) (rs_cons (rs_sub (gv 0) r_int (r_bin o_fdiv (gv 2) (gv 1)) o_setL)
    (rs_one (rs_ret (r_bin o_mod (r_callTy o_intOf (by rfl) z.z_int (by decide +kernel) (ra_cons (gv 2) ra_nil)) (gv 1))))) rs_nil)
    (rs_cons (gset 3 sc__law_next.nd r_int)
    (rs_cons (rs_if (rt_cmp o_lt0 (r_ix o_ix (gv 0) r_int (fun _ _ => rfl)) (r_callB o_len0 (by rfl) z.z_len (by decide +kernel) (ra_cons (r_ix o_ix (gv 0) r_int (fun _ _ => rfl)) ra_nil)) (by rfl)) (rs_cons (gset 3 sc__law_next.nd (r_callB o_abs (by rfl) z.z_abs (by decide +kernel) (ra_cons (r_ix o_ix (r_ix o_ix (gv 0) r_int (fun _ _ => rfl)) (r_ix o_ix (gv 0) r_int (fun _ _ => rfl)) (fun _ _ => rfl)) ra_nil)))
    (rs_one (rs_augS (gv 0) r_int o_getL r_int o_ipAdd o_setL))) rs_nil)
    (rs_cons (rs_if (rt_cmp o_ge0 (gv 3) (r_bin o_pow r_int r_int) (by rfl)) (rs_cons (rs_sub (gv 0) r_int (r_bin o_fdiv (gv 3) (gv 1)) o_setL)
    (rs_one (rs_ret (r_bin o_mod (r_callTy o_intOf (by rfl) z.z_int (by decide +kernel) (ra_cons (gv 3) ra_nil)) (gv 1))))) rs_nil)
    (rs_cons (rs_sub (gv 0) r_int (r_bin o_mod (r_callTy o_intOf (by rfl) z.z_int (by decide +kernel) (ra_cons (r_bin o_add (r_bin o_add (r_bin o_mul (r_ix o_ix (gv 0) r_int (fun _ _ => rfl)) r_int) (r_bin o_mul (gv 3) r_int)) r_int) ra_nil)) r_int) o_setL)
    (rs_one (rs_ret (r_bin o_mod (r_callTy o_intOf (by rfl) z.z_int (by decide +kernel) (ra_cons (r_bin o_fdiv (r_bin o_mod (r_callTy o_intOf (by rfl) z.z_int (by decide +kernel) (ra_cons (r_bin o_mul (r_ix o_ix (gv 0) r_int (fun _ _ => rfl)) r_int) ra_nil)) r_int) r_int) ra_nil)) (gv 1))))))))))
/-! _law_message -/
abbrev st__law_message : Stmt := topS 7
theorem sc__law_message : FnScope ["tape", "menu"] ["tape"] (defScope st__law_message) := ⟨rfl, rfl, rfl, by decide +kernel, rfl, by decide +kernel, by decide +kernel⟩
def b__law_message (m__law_next : MF) : SF :=
    (sSeq (sSet 1 (eTup (aCons (eTup (aCons (eC (.str (Str.ofString "grant"))) (aCons (eC (.int 0)) (aCons (eC (.int 1)) (aCons (eC (.int 2)) aNil))))) (aCons (eTup (aCons (eC (.str (Str.ofString "rights"))) (aCons (eC (.int 1)) (aCons (eC (.int 4)) (aCons (eC (.int 3)) aNil))))) (aCons (eTup (aCons (eC (.str (Str.ofString "policy"))) (aCons (eC (.int 1)) (aCons (eC (.int 0)) (aCons (eC (.int 3)) aNil))))) (aCons (eTup (aCons (eC (.str (Str.ofString "ask"))) (aCons (eC (.int 0)) (aCons (eC (.int 0)) (aCons (eC (.int 2)) (aCons (eC (.str (Str.ofString ""))) (aCons (eC (.str (Str.ofString "read"))) (aCons (eC (.str (Str.ofString "/a"))) (aCons (eC (.str (Str.ofString ""))) aNil))))))))) (aCons (eTup (aCons (eC (.str (Str.ofString "reply"))) (aCons (eC (.int 0)) (aCons (eC (.int 0)) (aCons (eC (.int 2)) (aCons (eTup (aCons (eC (.int 7)) aNil)) (aCons (eC (.int 1)) aNil))))))) (aCons (eTup (aCons (eC (.str (Str.ofString "reply"))) (aCons (eC (.int 0)) (aCons (eC (.int 0)) (aCons (eC (.int 2)) (aCons (eTup (aCons (eC (.int 7)) (aCons (eC (.str (Str.ofString "ann"))) aNil))) (aCons (eC (.int 1)) aNil))))))) aNil))))))))
    (sRet (eBin ixD (eVar 1) (eCall (arity 2 m__law_next) (aCons (eVar 0) (aCons (eC (.int 6)) aNil))))))
abbrev r__law_message (m__law_next : MF) : MF := mFn 2 1 (b__law_message m__law_next)
theorem ok__law_message (z : Zs mg) (T : Tp K mg "_law_message" st__law_message ["tape"]) {m__law_next : MF} (c__law_next : Cl P w K mg base 1 "_law_next" ["tape", "many"] m__law_next) : Cl P w K mg base 2 "_law_message" ["tape"] (r__law_message m__law_next) :=
  Cl.mk' T sc__law_message fun f cdv A outer s H E hr => by
    have tk := L2.takes_of (X := cxOf (L2.CX P w) P w K mg base ["tape", "menu"] "_law_message" (defScope st__law_message) f cdv A outer s H E) (E := E) rfl rfl rfl rfl
    exact (rs_cons (gset 1 sc__law_message.nd (r_tup (ra_cons (r_tup (ra_cons r_str (ra_cons r_int (ra_cons r_int (ra_cons r_int ra_nil))))) (ra_cons (r_tup (ra_cons r_str (ra_cons r_int (ra_cons r_int (ra_cons r_int ra_nil))))) (ra_cons (r_tup (ra_cons r_str (ra_cons r_int (ra_cons r_int (ra_cons r_int ra_nil))))) (ra_cons (r_tup (ra_cons r_str (ra_cons r_int (ra_cons r_int (ra_cons r_int (ra_cons r_str (ra_cons r_str (ra_cons r_str (ra_cons r_str ra_nil))))))))) (ra_cons (r_tup (ra_cons r_str (ra_cons r_int (ra_cons r_int (ra_cons r_int (ra_cons (r_tup (ra_cons r_int ra_nil)) (ra_cons r_int ra_nil))))))) (ra_cons (r_tup (ra_cons r_str (ra_cons r_int (ra_cons r_int (ra_cons r_int (ra_cons (r_tup (ra_cons r_int (ra_cons r_str ra_nil))) (ra_cons r_int ra_nil))))))) ra_nil))))))))
    (rs_one (rs_ret (r_ix o_ix (gv 1) (gcall c__law_next hr (by decide) tk (ra_cons (gv 0) (ra_cons r_int ra_nil))) (fun _ _ => rfl)))))
/-! law -/
abbrev st_law : Stmt := topS 8
theorem sc_law : FnScope ["script", "tape", "rows", "k", "bag", "other", "moment", "message", "kept", "turn", "reach", "told", "row", "left"] ["script"] (defScope st_law) := ⟨rfl, rfl, rfl, by decide +kernel, rfl, by decide +kernel, by decide +kernel⟩
def b_law (m__law_next : MF) (m__law_message : MF) (m_put : MF) (m_first_rows : MF) (m_may_wait : MF) (m_without : MF) : SF :=
    (sSeq (sSet 1 (eLstR (aCons (eB listOf (aCons (eVar 0) aNil)) (aCons (eC (.int 0)) (aCons (eC (.int 0)) (aCons (eC (.int 419)) aNil))))))
    (sSeq (sSet 2 (eLc false (iRange1 (aCons (eCall (arity 2 m__law_next) (aCons (eVar 1) (aCons (eC (.int 13)) aNil))) aNil)) (gN 3) bYes (eTup (aCons (eCall (arity 2 m__law_next) (aCons (eVar 1) (aCons (eC (.int 6)) aNil))) (aCons (eCall (arity 1 m__law_message) (aCons (eVar 1) aNil)) aNil))) [3]))
    (sSeq (sAsg (eTup (aCons (eTup aNil) (aCons (eTup aNil) aNil))) (gT 2 (gsC (gN 4) (gsC (gN 5) gsN))))
    (sSeq (sFor (iSeq (eVar 2)) (gT 2 (gsC (gN 6) (gsC (gN 7) gsN))) (sSeq (sSet 8 (eVar 4))
    (sSeq (sSet 4 (eCall (arity 3 m_put) (aCons (eVar 4) (aCons (eVar 6) (aCons (eVar 7) aNil)))))
    (sIf (bOr (bVal (eBin neD (eVar 8) (eB tupleOf (aCons (eB sortedD (aCons (eVar 8) aNil)) aNil)))) (bVal (eBin neD (eB lenD (aCons (eVar 4) aNil)) (eBin addD (eB lenD (aCons (eVar 8) aNil)) (eC (.int 1)))))) (sRet (eC (.bl false))) sNil))))
    (sSeq (sFor (iSeq (eUn revD (eVar 2))) (gT 2 (gsC (gN 6) (gsC (gN 7) gsN))) (sSet 5 (eCall (arity 3 m_put) (aCons (eVar 5) (aCons (eVar 6) (aCons (eVar 7) aNil))))))
    (sSeq (sIf (bOr (bNot (bVal (eUn (isTy "tuple") (eVar 4)))) (bOr (bVal (eBin neD (eVar 4) (eB tupleOf (aCons (eB sortedD (aCons (eVar 2) aNil)) aNil)))) (bVal (eBin neD (eVar 5) (eVar 4))))) (sRet (eC (.bl false))) sNil)
    (sSeq (sIf (bVal (eBin neD (eCall (arity 1 m_first_rows) (aCons (eVar 4) aNil)) (eLc false (iRange1 (aCons (eB lenD (aCons (eVar 4) aNil)) aNil)) (gN 3) (bVal (eBin eqD (eMTt indexT (eVar 4) (aCons (eBin ixD (eVar 4) (eVar 3)) aNil)) (eVar 3))) (eVar 3) [3]))) (sRet (eC (.bl false))) sNil)
    (sSeq (sFor (iRange1 (aCons (eC (.int 4)) aNil)) (gN 9) (sSeq (sAsg (eTup (aCons (eCall (arity 2 m__law_next) (aCons (eVar 1) (aCons (eC (.int 5)) aNil))) (aCons (eCall (arity 2 m__law_next) (aCons (eVar 1) (aCons (eC (.int 12)) aNil))) aNil))) (gT 2 (gsC (gN 10) (gsC (gN 6) gsN))))
    (sSeq (sSet 11 (eCall (arity 3 m_may_wait) (aCons (eVar 4) (aCons (eVar 10) (aCons (eVar 6) aNil)))))
    (sSeq (sIf (bOr (bNot (bVal (eUn (isTy "bool") (eVar 11)))) (bVal (eBin neD (eVar 11) (eBin eqD (eLc false (iSeq (eVar 4)) (gN 12) (bVal (eBin geIS (eBin subD (eVar 6) (eBin ixD (eVar 12) (eC (.int 0)))) (eVar 10))) (eVar 12) [12]) (eLst aNil))))) (sRet (eC (.bl false))) sNil)
    (sIf (bVal (eBin neD (eVar 4) (eTup aNil))) (sSeq (sSet 3 (eCall (arity 2 m__law_next) (aCons (eVar 1) (aCons (eB lenD (aCons (eVar 4) aNil)) aNil))))
    (sSeq (sSet 13 (eB listOfR (aCons (eVar 4) aNil)))
    (sSeq (sExpr (eMT "list" popD (eVar 13) (aCons (eVar 3) aNil)))
    (sIf (bVal (eBin neD (eCall (arity 2 m_without) (aCons (eVar 4) (aCons (eVar 3) aNil))) (eB tupleOf (aCons (eVar 13) aNil)))) (sRet (eC (.bl false))) sNil)))) sNil)))))
    (sRet (eAnd (eBin eqD (eCall (arity 3 m_put) (aCons (eTup aNil) (aCons (eC (.int 3)) (aCons (eTup (aCons (eC (.str (Str.ofString "x"))) aNil)) aNil)))) (eTup (aCons (eTup (aCons (eC (.int 3)) (aCons (eTup (aCons (eC (.str (Str.ofString "x"))) aNil)) aNil))) aNil))) (eAnd (eBin eqD (eCall (arity 1 m_first_rows) (aCons (eTup aNil) aNil)) (eLst aNil)) (eBin (isN false) (eCall (arity 3 m_may_wait) (aCons (eTup aNil) (aCons (eC (.int 0)) (aCons (eC (.int 0)) aNil)))) (eC (.bl true))))))))))))))
abbrev r_law (m__law_next : MF) (m__law_message : MF) (m_put : MF) (m_first_rows : MF) (m_may_wait : MF) (m_without : MF) : MF := mFn 14 1 (b_law m__law_next m__law_message m_put m_first_rows m_may_wait m_without)
theorem ok_law (z : Zs mg) {f : Addr} {fd : FuncData} (F : Fun K "law" "law" st_law f fd) {m__law_next : MF} (c__law_next : Cl P w K mg base 1 "_law_next" ["tape", "many"] m__law_next) {m__law_message : MF} (c__law_message : Cl P w K mg base 2 "_law_message" ["tape"] m__law_message) {m_put : MF} (c_put : Cl P w K mg base 1 "put" ["bag", "moment", "message"] m_put) {m_first_rows : MF} (c_first_rows : Cl P w K mg base 1 "first_rows" ["bag"] m_first_rows) {m_may_wait : MF} (c_may_wait : Cl P w K mg base 1 "may_wait" ["bag", "reach", "moment"] m_may_wait) {m_without : MF} (c_without : Cl P w K mg base 1 "without" ["bag", "k"] m_without) : FnOk P w K mg base (L2.CX P w) 3 f fd ["script"] (spD K mg (r_law m__law_next m__law_message m_put m_first_rows m_may_wait m_without) 1) :=
  fn_body F sc_law fun cdv A outer s H E hr => by
    have tk := L2.takes_of (X := cxOf (L2.CX P w) P w K mg base ["script", "tape", "rows", "k", "bag", "other", "moment", "message", "kept", "turn", "reach", "told", "row", "left"] "law" (defScope st_law) f cdv A outer s H E) (E := E) rfl rfl rfl rfl
    have ps := L2.passes_of (X := cxOf (L2.CX P w) P w K mg base ["script", "tape", "rows", "k", "bag", "other", "moment", "message", "kept", "turn", "reach", "told", "row", "left"] "law" (defScope st_law) f cdv A outer s H E) rfl
    exact (rs_cons (gset 1 sc_law.nd (r_lstR (ra_cons (r_callTy o_listOf (by rfl) z.z_list (by decide +kernel) (ra_cons (gv 0) ra_nil)) (ra_cons r_int (ra_cons r_int (ra_cons r_int ra_nil))))))
    (rs_cons (rs_setLc false (i := 2) (own := [("k", 3)]) rfl sc_law.nd rfl rfl (sw_true rfl rfl rfl (by decide +kernel)) (ri_range1 (by rfl) z.z_range (ra_cons (gcall c__law_next hr (by decide) tk (ra_cons (gv 1) (ra_cons r_int ra_nil))) ra_nil)) (blkOk_by (N := ["script", "tape", "rows", "k", "bag", "other", "moment", "message", "kept", "turn", "reach", "told", "row", "left"]) (sc := defScope st_law) (by decide +kernel)) tg_name (by decide) (fun _ _ _ _ _ => (gpn 3 sc_law.nd)) (fun _ _ _ _ _ => rts_nil) (fun _ _ _ _ _ => (r_tup (ra_cons (gcall c__law_next hr (by decide) takes0 (ra_cons (gv 1) (ra_cons r_int ra_nil))) (ra_cons (gcall c__law_message hr (by decide) takes0 (ra_cons (gv 1) ra_nil)) ra_nil)))))
    (rs_cons (rs_asg (r_tup (ra_cons (r_tup ra_nil) (ra_cons (r_tup ra_nil) ra_nil))) (pg_tup rfl (pgs_cons (gpn 4 sc_law.nd) (pgs_cons (gpn 5 sc_law.nd) pgs_nil))) (tg_tup (tgs_cons tg_name (tgs_cons tg_name tgs_nil))))
    (rs_cons (rs_for ps rfl (ri_seq (gv 2)) (pg_tup rfl (pgs_cons (gpn 6 sc_law.nd) (pgs_cons (gpn 7 sc_law.nd) pgs_nil))) (tg_tup (tgs_cons tg_name (tgs_cons tg_name tgs_nil))) (rs_cons (gset 8 sc_law.nd (gv 4))
    (rs_cons (gset 4 sc_law.nd (gcall c_put hr (by decide) tk (ra_cons (gv 4) (ra_cons (gv 6) (ra_cons (gv 7) ra_nil)))))
    (rs_one (rs_if (PW.pt (rw_or (rt_cmp (o_ne hr.units) (gv 8) (r_callTy o_tupleOf (by rfl) z.z_tuple (by decide +kernel) (ra_cons (r_callB (o_sorted hr.units) (by rfl) z.z_sorted (by decide +kernel) (ra_cons (gv 8) ra_nil)) ra_nil)) (by rfl)) (rw_or1 (rt_cmp (o_ne hr.units) (r_callB o_len0 (by rfl) z.z_len (by decide +kernel) (ra_cons (gv 4) ra_nil)) (r_bin o_add (r_callB o_len0 (by rfl) z.z_len (by decide +kernel) (ra_cons (gv 8) ra_nil)) r_int) (by rfl))))) (rs_one (rs_ret r_bl)) rs_nil)))))
    (rs_cons (rs_for ps rfl (ri_seq (r_rev (gv 2))) (pg_tup rfl (pgs_cons (gpn 6 sc_law.nd) (pgs_cons (gpn 7 sc_law.nd) pgs_nil))) (tg_tup (tgs_cons tg_name (tgs_cons tg_name tgs_nil))) (rs_one (gset 5 sc_law.nd (gcall c_put hr (by decide) tk (ra_cons (gv 5) (ra_cons (gv 6) (ra_cons (gv 7) ra_nil)))))))
    (rs_cons (rs_if (PW.pt (rw_or (rt_not (rt_val (r_isi (gv 4) (by rfl) z.z_isinstance (by rfl) z.z_tuple (by decide +kernel) (by decide)))) (rw_or (rt_cmp (o_ne hr.units) (gv 4) (r_callTy o_tupleOf (by rfl) z.z_tuple (by decide +kernel) (ra_cons (r_callB (o_sorted hr.units) (by rfl) z.z_sorted (by decide +kernel) (ra_cons (gv 2) ra_nil)) ra_nil)) (by rfl)) (rw_or1 (rt_cmp (o_ne hr.units) (gv 5) (gv 4) (by rfl)))))) (rs_one (rs_ret r_bl)) rs_nil)
    (rs_cons (rs_if (rt_cmp (o_ne hr.units) (gcall c_first_rows hr (by decide) tk (ra_cons (gv 4) ra_nil)) (r_lc false (own := [("k", 3)]) rfl sc_law.nd (ri_range1 (by rfl) z.z_range (ra_cons (r_callB o_len0 (by rfl) z.z_len (by decide +kernel) (ra_cons (gv 4) ra_nil)) ra_nil)) (blkOk_by (N := ["script", "tape", "rows", "k", "bag", "other", "moment", "message", "kept", "turn", "reach", "told", "row", "left"]) (sc := defScope st_law) (by decide +kernel)) tg_name (by decide) (fun _ _ _ _ _ => (gpn 3 sc_law.nd)) (fun _ _ _ _ _ => (rts_one (rt_cmp (o_eq hr.units) (r_methT PySem.F.plainAttrs_tuple PySem.F.slot_tuple_index PySem.F.type_tuple_index (o_indexT hr.units) (gv 4) (ra_cons (r_ix o_ix (gv 4) (gv 3) (fun _ _ => rfl)) ra_nil)) (gv 3) (by rfl)))) (fun _ _ _ _ _ => (gv 3))) (by rfl)) (rs_one (rs_ret r_bl)) rs_nil)
    (rs_cons (rs_for ps rfl (ri_range1 (by rfl) z.z_range (ra_cons r_int ra_nil)) (gpn 9 sc_law.nd) tg_name (rs_cons (rs_asg (r_tup (ra_cons (gcall c__law_next hr (by decide) tk (ra_cons (gv 1) (ra_cons r_int ra_nil))) (ra_cons (gcall c__law_next hr (by decide) tk (ra_cons (gv 1) (ra_cons r_int ra_nil))) ra_nil))) (pg_tup rfl (pgs_cons (gpn 10 sc_law.nd) (pgs_cons (gpn 6 sc_law.nd) pgs_nil))) (tg_tup (tgs_cons tg_name (tgs_cons tg_name tgs_nil))))
    (rs_cons (gset 11 sc_law.nd (gcall c_may_wait hr (by decide) tk (ra_cons (gv 4) (ra_cons (gv 10) (ra_cons (gv 6) ra_nil)))))
    (rs_cons (rs_if (PW.pt (rw_or (rt_not (rt_val (r_isi (gv 11) (by rfl) z.z_isinstance (by rfl) z.z_bool (by decide +kernel) (by decide)))) (rw_or1 (rt_cmp (o_ne hr.units) (gv 11) (r_cmp (o_eq hr.units) (r_lc false (own := [("row", 12)]) rfl sc_law.nd (ri_seq (gv 4)) (blkOk_by (N := ["script", "tape", "rows", "k", "bag", "other", "moment", "message", "kept", "turn", "reach", "told", "row", "left"]) (sc := defScope st_law) (by decide +kernel)) tg_name (by decide) (fun _ _ _ _ _ => (gpn 12 sc_law.nd)) (fun _ _ _ _ _ => (rts_one (rt_cmp o_ge0 (r_bin o_sub (gv 6) (r_ix o_ix (gv 12) r_int (fun _ _ => rfl))) (gv 10) (by rfl)))) (fun _ _ _ _ _ => (gv 12))) (r_lst ra_nil) (by rfl)) (by rfl))))) (rs_one (rs_ret r_bl)) rs_nil)
    (rs_one (rs_if (rt_cmp (o_ne hr.units) (gv 4) (r_tup ra_nil) (by rfl)) (rs_cons (gset 3 sc_law.nd (gcall c__law_next hr (by decide) tk (ra_cons (gv 1) (ra_cons (r_callB o_len0 (by rfl) z.z_len (by decide +kernel) (ra_cons (gv 4) ra_nil)) ra_nil))))
    (rs_cons (gset 13 sc_law.nd (r_callTy o_listOfR (by rfl) z.z_list (by decide +kernel) (ra_cons (gv 4) ra_nil)))
    (rs_cons (rs_expr (r_meth PySem.F.plainAttrs_list PySem.F.slot_list_pop PySem.F.type_list_pop o_pop (gv 13) (ra_cons (gv 3) ra_nil)))
    (rs_one (rs_if (rt_cmp (o_ne hr.units) (gcall c_without hr (by decide) tk (ra_cons (gv 4) (ra_cons (gv 3) ra_nil))) (r_callTy o_tupleOf (by rfl) z.z_tuple (by decide +kernel) (ra_cons (gv 13) ra_nil)) (by rfl)) (rs_one (rs_ret r_bl)) rs_nil))))) rs_nil))))))
    (rs_one (rs_ret (r_and (r_cmp (o_eq hr.units) (gcall c_put hr (by decide) tk (ra_cons (r_tup ra_nil) (ra_cons r_int (ra_cons (r_tup (ra_cons r_str ra_nil)) ra_nil)))) (r_tup (ra_cons (r_tup (ra_cons r_int (ra_cons (r_tup (ra_cons r_str ra_nil)) ra_nil))) ra_nil)) (by rfl)) (r_and (r_cmp (o_eq hr.units) (gcall c_first_rows hr (by decide) tk (ra_cons (r_tup ra_nil) ra_nil)) (r_lst ra_nil) (by rfl)) (r_one (r_cmp o_is (gcall c_may_wait hr (by decide) tk (ra_cons (r_tup ra_nil) (ra_cons r_int (ra_cons r_int ra_nil)))) r_bl (by rfl)))))))))))))))
end
end
end Py
set_option Elab.async false
set_option linter.all false
set_option maxRecDepth 100000
set_option maxHeartbeats 4000000
/-! the mathematics of k59 -/
namespace Py
open PySem PySem.Spec PyProof.Rows L2
/-- a draw: a number below many; the tape goes on -/
theorem law_next {M : Store} {k : Nat} {ns : List Int} {i : Nat} {r s many : Int} (h : TapeAt M k ns i r s) (hr : 0 ≤ r) (hm : 1 ≤ many) (hm2 : many < 1073741824) :
    ∃ (v : Nat) (i' : Nat) (r' s' : Int), r__law_next [.ref k, .int many] M = .ok (.int (v : Int)) (M.set k (.lst [.lst (ns.map D.int), .int (i' : Int), .int r', .int s'])) ∧ 0 ≤ r' ∧ (v : Int) < many := by
  have fin : ∀ {x r' s' : Int} {i' : Nat}, r__law_next [.ref k, .int many] M = .ok (.int (Int.fmod x many)) (M.set k (.lst [.lst (ns.map D.int), .int (i' : Int), .int r', .int s'])) → 0 ≤ r' →
      ∃ (v : Nat) (i' : Nat) (r' s' : Int), r__law_next [.ref k, .int many] M = .ok (.int (v : Int)) (M.set k (.lst [.lst (ns.map D.int), .int (i' : Int), .int r', .int s'])) ∧ 0 ≤ r' ∧ (v : Int) < many := by
    intro x r' s' i' e hr'
    have h1 := Int.fmod_nonneg_of_pos x (show 0 < many by omega)
    have h2 := Int.fmod_lt_of_pos x (show 0 < many by omega)
    refine ⟨(x.fmod many).toNat, i', r', s', ?_, hr', by omega⟩
    rw [e, Int.toNat_of_nonneg h1]
  unfold TapeAt at h
  have hk : k < M.length := (List.getElem?_eq_some_iff.mp h).1
  have hs : ∀ x, (M.set k x)[k]? = some x := fun x => List.getElem?_set_self hk
  clear hk
  have m0 : many ≠ 0 := by omega
  have m1 : many.natAbs < 1073741824 := by omega
  by_cases r0 : 0 < r
  · refine fin (x := r) (i' := i) (r' := r.fdiv many) (s' := s) ?_ (Int.fdiv_nonneg hr (by omega))
    simp [mFn, b__law_next, o_ix_r h, o_sl_r h, r0, m0, m1]
  have r0 : r = 0 := by omega
  subst r0
  by_cases hi : i < ns.length
  · have hg : atI (ns.map D.int) (i : Int) = some (.int ns[i]) := getLast_cell hi
    generalize ns[i] = c at hg
    by_cases c1 : (1000000000000000000 : Int) ≤ (if c < 0 then -c else c)
    · refine fin (x := if c < 0 then -c else c) (i' := i + 1) (r' := (if c < 0 then -c else c).fdiv many) (s' := s) ?_ (Int.fdiv_nonneg (by omega) (by omega))
      simp [mFn, b__law_next, o_ix_r h, o_ix_r (hs _), o_sl_r h, o_sl_r (hs _), o_gl_r h, m0, m1, hi, hg, c1]
    · refine fin (x := ((((s * 48271 + (if c < 0 then -c else c) * 69621 + 11).fmod 2147483647) * 16807).fmod 2147483647).fdiv 7) (i' := i + 1) (r' := 0) (s' := (s * 48271 + (if c < 0 then -c else c) * 69621 + 11).fmod 2147483647) ?_ (by omega)
      simp [mFn, b__law_next, o_ix_r h, o_ix_r (hs _), o_sl_r h, o_sl_r (hs _), o_gl_r h, m0, m1, hi, hg, c1]
  · refine fin (x := ((((s * 48271 + 0 * 69621 + 11).fmod 2147483647) * 16807).fmod 2147483647).fdiv 7) (i' := i) (r' := 0) (s' := (s * 48271 + 0 * 69621 + 11).fmod 2147483647) ?_ (by omega)
    simp [mFn, b__law_next, o_ix_r h, o_ix_r (hs _), o_sl_r h, o_sl_r (hs _), o_gl_r h, m0, m1, hi]
def mNx : MF := r__law_next
theorem next0 {ns : List Int} {M : Store} {many : Int} (h : TI ns M) (hm : 1 ≤ many) (hm2 : many < 1073741824) :
    ∃ (v : Nat) (M' : Store), mNx [.ref 0, .int many] M = .ok (.int (v : Int)) M' ∧ TI ns M' ∧ (v : Int) < many ∧ M'.length = M.length := by
  have hl := h.len
  obtain ⟨i, r, s, h, hr⟩ := h
  obtain ⟨v, i', r', s', e, h1, h2⟩ := law_next h hr hm hm2
  exact ⟨v, _, e, .set hl h1, h2, by rw [List.length_set]⟩
/-- the messages -/
def menu : List D := [.tup [.str (Str.ofString "grant"), .int 0, .int 1, .int 2], .tup [.str (Str.ofString "rights"), .int 1, .int 4, .int 3], .tup [.str (Str.ofString "policy"), .int 1, .int 0, .int 3],
  .tup [.str (Str.ofString "ask"), .int 0, .int 0, .int 2, .str (Str.ofString ""), .str (Str.ofString "read"), .str (Str.ofString "/a"), .str (Str.ofString "")],
  .tup [.str (Str.ofString "reply"), .int 0, .int 0, .int 2, .tup [.int 7], .int 1], .tup [.str (Str.ofString "reply"), .int 0, .int 0, .int 2, .tup [.int 7, .str (Str.ofString "ann")], .int 1]]
theorem message0 {ns : List Int} {M : Store} (h : TI ns M) : ∃ (d : D) (M' : Store), r__law_message mNx [.ref 0] M = .ok d M' ∧ d ∈ menu ∧ TI ns M' ∧ M'.length = M.length := by
  obtain ⟨v, M', e, h1, h2, h3⟩ := next0 h (many := 6) (by omega) (by omega)
  have hv : v < menu.length := by show v < 6; omega
  have ha : atI menu (v : Int) = some menu[v] := atI_n (List.getElem?_eq_getElem hv)
  have hmem : menu[v] ∈ menu := List.getElem_mem hv
  generalize menu[v] = x at ha hmem
  refine ⟨x, M', ?_, hmem, h1, h3⟩
  unfold menu at ha
  simp [mFn, b__law_message, e, ha]
theorem menu_pln : ∀ d ∈ menu, pln d = true ∧ flat d 37 = true := by decide +kernel
theorem menu_lt : ∀ d ∈ menu, ∀ e ∈ menu, eqDD d e = true ∨ ltOk d e = true := by decide +kernel
/-- a row of the law's bags -/
def IsRow (d : D) : Prop := ∃ v : Int, ∃ m ∈ menu, d = .tup [.int v, m]
theorem IsRow.pln {d : D} (h : IsRow d) : pln d = true ∧ flat d 38 = true := by
  obtain ⟨v, m, hm, rfl⟩ := h
  obtain ⟨h1, h2⟩ := menu_pln m hm
  refine ⟨by rw [Py.pln, plnL, plnL, plnL, h1, Py.pln]; rfl, ?_⟩
  show flat (.tup [.int v, m]) (37 + 1) = true
  rw [flat_t, flatL, flatL, flatL, h2, flat]; rfl
theorem IsRow.lt {d e : D} (h : IsRow d) (k : IsRow e) : ltOk d e = true := by
  obtain ⟨v, m, hm, rfl⟩ := h
  obtain ⟨v', m', hm', rfl⟩ := k
  rw [ltOk, ltOkL]
  by_cases c : eqDD (.int v) (.int v') = true
  · rw [if_pos c, ltOkL]
    rcases menu_lt m hm m' hm' with z | z
    · rw [if_pos z, ltOkL]
    · by_cases z' : eqDD m m' = true
      · rw [if_pos z', ltOkL]
      · rw [if_neg z', z]
  · rw [if_neg c, ltOk]
def Rows (xs : List D) : Prop := ∀ d ∈ xs, IsRow d
theorem Rows.pln {xs : List D} (h : Rows xs) : plnL xs = true := plnL_mem.mpr fun d hd => (h d hd).pln.1
theorem Rows.flat {xs : List D} (h : Rows xs) : flatL xs 39 = true := flatL_iff.mpr fun d hd => flat_mono (by omega) d (h d hd).pln.2
theorem Rows.ok {xs : List D} (h : Rows xs) : sOk xs = true := by
  unfold sOk
  rw [Bool.or_eq_true]
  refine .inr ?_
  rw [Bool.and_eq_true, Bool.and_eq_true, Bool.and_eq_true]
  refine ⟨⟨⟨h.pln, flatL_mono (by unfold dp; omega) _ h.flat⟩, ?_⟩, ?_⟩
  · exact List.all_eq_true.mpr fun x hx => List.all_eq_true.mpr fun y hy => (h x hx).lt (h y hy)
  · have hf : ∀ d, IsRow d → fstT d = 2 := fun d ⟨v, m, _, e⟩ => by rw [e]; rfl
    cases xs with
    | nil => rfl
    | cons x xs =>
      unfold kindOk
      rw [Bool.or_eq_true]
      refine .inr ?_
      rw [Bool.and_eq_true]
      refine ⟨by rw [hf x (h x List.mem_cons_self)]; decide, List.all_eq_true.mpr fun y hy => ?_⟩
      rw [hf x (h x List.mem_cons_self), hf y (h y (List.mem_cons_of_mem _ hy))]; decide
theorem Rows.perm {xs ys : List D} (h : Rows xs) (p : ys.Perm xs) : Rows ys := fun d hd => h d (p.mem_iff.mp hd)
theorem Rows.srt {xs : List D} (h : Rows xs) : Rows (srt [] xs) := h.perm (srt_perm xs [])
theorem Rows.app {xs ys : List D} (h : Rows xs) (k : Rows ys) : Rows (xs ++ ys) := fun d hd => (List.mem_append.mp hd).elim (h d) (k d)
/-- put -/
theorem put_ok {bag : List D} {v m : D} {M : Store} (h : sOk (bag ++ [.tup [v, m]]) = true) (hl : bag.length ≤ 100) : r_put [.tup bag, v, m] M = .ok (.tup (Py.srt [] (bag ++ [.tup [v, m]]))) M := by
  have h2 : bag.length + 1 ≤ sz := by show bag.length + 1 ≤ 16777216; omega
  simp [mFn, b_put, h, h2]
end Py
set_option Elab.async false
set_option linter.all false
set_option maxRecDepth 100000
set_option maxHeartbeats 4000000
namespace Py
open PySem PySem.Spec PyProof.Rows L2
noncomputable section
def mMs : MF := r__law_message mNx
def mPut : MF := r_put
def mFr : MF := r_first_rows
def mMw : MF := r_may_wait
def mWo : MF := r_without
theorem nx0 {ns : List Int} {M : Store} {many : Int} (h : TI ns M) (hm : 1 ≤ many) (hm2 : many < 1073741824) :
    ∃ (v : Nat) (M' : Store), mNx [.ref 0, .int many] M = .ok (.int (v : Int)) M' ∧ TI ns M' ∧ (v : Int) < many ∧ M'.length = M.length := next0 h hm hm2
theorem ms0 {ns : List Int} {M : Store} (h : TI ns M) : ∃ (d : D) (M' : Store), mMs [.ref 0] M = .ok d M' ∧ d ∈ menu ∧ TI ns M' ∧ M'.length = M.length := message0 h
theorem put0 {bag : List D} {v m : D} {M : Store} (h : sOk (bag ++ [.tup [v, m]]) = true) (hl : bag.length ≤ 100) : mPut [.tup bag, v, m] M = .ok (.tup (srt [] (bag ++ [.tup [v, m]]))) M := put_ok h hl
def fRow : EF := (eTup (aCons (eCall (arity 2 mNx) (aCons (eVar 1) (aCons (eC (.int 6)) aNil))) (aCons (eCall (arity 1 mMs) (aCons (eVar 1) aNil)) aNil)))
theorem mk_rows {ns : List Int} {all : List D} {e0 : En} (h1 : e0[1]? = some (some (.ref 0))) : ∀ (L : List D) {M : Store}, TI ns M →
    ∃ rows M', lcIter none all (gN 3) bYes fRow e0 L M = .ok rows M' ∧ Rows rows ∧ rows.length = L.length ∧ TI ns M'
  | [], M, h => ⟨[], M, lc_nil, fun d hd => (by cases hd), rfl, h⟩
  | d :: L, M, h => by
    obtain ⟨v, M1, q1, q2, q3, _⟩ := nx0 h (many := 6) (by omega) (by omega)
    obtain ⟨m, M2, p1, p2, p3, _⟩ := ms0 q2
    obtain ⟨rows, M3, r1, r2, r3, r4⟩ := mk_rows (all := all) h1 L p3
    refine ⟨.tup [.int v, m] :: rows, M3, ?_, fun d hd => ?_, by rw [List.length_cons, List.length_cons, r3], r4⟩
    · have hf : fRow (e0.set 3 (some d)) M = .ok (.tup [.int v, m]) M2 := by simp [fRow, h1, q1, p1]
      rw [lc_cons]
      simp [hf, r1]
    · rcases List.mem_cons.mp hd with e | hd
      · exact ⟨v, m, p2, e⟩
      · exact r2 d hd
/-- the first loop -/
def body1 : SF := (sSeq (sSet 8 (eVar 4))
    (sSeq (sSet 4 (eCall (arity 3 mPut) (aCons (eVar 4) (aCons (eVar 6) (aCons (eVar 7) aNil)))))
    (sIf (bOr (bVal (eBin neD (eVar 8) (eB tupleOf (aCons (eB sortedD (aCons (eVar 8) aNil)) aNil)))) (bVal (eBin neD (eB lenD (aCons (eVar 4) aNil)) (eBin addD (eB lenD (aCons (eVar 8) aNil)) (eC (.int 1)))))) (sRet (eC (.bl false))) sNil)))
def tg67 : GF := (gT 2 (gsC (gN 6) (gsC (gN 7) gsN)))
theorem loop1 {all : List D} {M : Store} {x0 x1 x2 x3 x5 x9 x10 x11 x12 x13 : Option D} : ∀ (rest : List D) {done : List D} {x6 x7 x8 : Option D}, Rows (done ++ rest) → (done ++ rest).length ≤ 50 →
    ∃ y6 y7 y8, fIter none all tg67 body1 rest [x0, x1, x2, x3, some (.tup (srt [] done)), x5, x6, x7, x8, x9, x10, x11, x12, x13] M = .nx [x0, x1, x2, x3, some (.tup (srt [] (done ++ rest))), x5, y6, y7, y8, x9, x10, x11, x12, x13] M
  | [], done, x6, x7, x8, _, _ => ⟨x6, x7, x8, by rw [f_nil, List.append_nil]⟩
  | d :: rest, done, x6, x7, x8, h, hl => by
    have hd : Rows done := fun x hx => h x (List.mem_append_left _ hx)
    obtain ⟨v, m, hm, rfl⟩ := h d (List.mem_append_right _ List.mem_cons_self)
    have e : done ++ D.tup [.int v, m] :: rest = (done ++ [.tup [.int v, m]]) ++ rest := by simp
    rw [e] at h hl ⊢
    obtain ⟨y6, y7, y8, ih⟩ := loop1 (all := all) (M := M) (x0 := x0) (x1 := x1) (x2 := x2) (x3 := x3) (x5 := x5) (x9 := x9) (x10 := x10) (x11 := x11) (x12 := x12) (x13 := x13) rest (x6 := some (.int v)) (x7 := some m) (x8 := some (.tup (srt [] done))) h hl
    refine ⟨y6, y7, y8, ?_⟩
    rw [← ih]
    have hr : Rows (done ++ [.tup [.int v, m]]) := fun x hx => h x (List.mem_append_left _ hx)
    have hl1 : done.length ≤ 50 := by simp at hl; omega
    have k1 : sOk (srt [] done ++ [.tup [.int v, m]]) = true := Rows.ok (hd.srt.app fun x hx => by rw [List.mem_singleton.mp hx]; exact ⟨v, m, hm, rfl⟩)
    have k2 := put0 (M := M) k1 (by rw [srt_len]; omega)
    rw [srt_add hr.pln] at k2
    have k3 : srt [] (srt [] done) = srt [] done := srt_fix (srt_asc _ .nil) hd.srt.pln
    have k4 : neD M (.tup (srt [] done)) (.tup (srt [] done)) = some (.bl false) := by rw [ne_tt hd.srt.flat hd.srt.flat, eqLL_self hd.srt.flat]; rfl
    rw [f_cons]
    simp [tg67, body1, k2, hd.srt.ok, k3, k4, srt_len]
/-- the second loop -/
def body2 : SF := (sSet 5 (eCall (arity 3 mPut) (aCons (eVar 5) (aCons (eVar 6) (aCons (eVar 7) aNil)))))
theorem loop2 {all : List D} {M : Store} {x0 x1 x2 x3 x4 x8 x9 x10 x11 x12 x13 : Option D} : ∀ (rest : List D) {done : List D} {x6 x7 : Option D}, Rows (done ++ rest) → (done ++ rest).length ≤ 50 →
    ∃ y6 y7, fIter none all tg67 body2 rest [x0, x1, x2, x3, x4, some (.tup (srt [] done)), x6, x7, x8, x9, x10, x11, x12, x13] M = .nx [x0, x1, x2, x3, x4, some (.tup (srt [] (done ++ rest))), y6, y7, x8, x9, x10, x11, x12, x13] M
  | [], done, x6, x7, _, _ => ⟨x6, x7, by rw [f_nil, List.append_nil]⟩
  | d :: rest, done, x6, x7, h, hl => by
    have hd : Rows done := fun x hx => h x (List.mem_append_left _ hx)
    obtain ⟨v, m, hm, rfl⟩ := h d (List.mem_append_right _ List.mem_cons_self)
    have e : done ++ D.tup [.int v, m] :: rest = (done ++ [.tup [.int v, m]]) ++ rest := by simp
    rw [e] at h hl ⊢
    obtain ⟨y6, y7, ih⟩ := loop2 (all := all) (M := M) (x0 := x0) (x1 := x1) (x2 := x2) (x3 := x3) (x4 := x4) (x8 := x8) (x9 := x9) (x10 := x10) (x11 := x11) (x12 := x12) (x13 := x13) rest (x6 := some (.int v)) (x7 := some m) h hl
    refine ⟨y6, y7, ?_⟩
    rw [← ih]
    have hr : Rows (done ++ [.tup [.int v, m]]) := fun x hx => h x (List.mem_append_left _ hx)
    have hl1 : done.length ≤ 50 := by simp at hl; omega
    have k1 : sOk (srt [] done ++ [.tup [.int v, m]]) = true := Rows.ok (hd.srt.app fun x hx => by rw [List.mem_singleton.mp hx]; exact ⟨v, m, hm, rfl⟩)
    have k2 := put0 (M := M) k1 (by rw [srt_len]; omega)
    rw [srt_add hr.pln] at k2
    rw [f_cons]
    simp [tg67, body2, k2]
end
end Py
set_option Elab.async false
set_option linter.all false
set_option maxRecDepth 100000
set_option maxHeartbeats 4000000
namespace Py
open PySem PySem.Spec PyProof.Rows L2
noncomputable section
def vOf : D → Int
  | .tup (.int v :: _) => v
  | _ => 0
theorem deref_row {x : D} {M : Store} (h : IsRow x) : deref 4 M x = x := by
  obtain ⟨v, m, _, rfl⟩ := h; rfl
theorem ne_row {x y : D} {M : Store} (h : IsRow x) (k : IsRow y) : neD M x y = some (.bl (!eqDD x y)) := by
  unfold neD
  rw [deref_row h, deref_row k, flat_mono (by unfold dp; omega) x h.pln.2, flat_mono (by unfold dp; omega) y k.pln.2]; rfl
/-! ### first_rows, and the places by index -/
def pFr (bag : List D) : D → Bool
  | .int i => decide (i = 0) || !eqDD (bag.getD i.toNat .non) (bag.getD (i.toNat - 1) .non)
  | _ => false
def pIx (bag : List D) : D → Bool
  | .int i => idx (bag.getD i.toNat .non) bag == some i.toNat
  | _ => false
def rng (n : Nat) : List D := (List.range n).map fun i => D.int (i : Nat)
theorem mem_rng {n : Nat} {d : D} (h : d ∈ rng n) : ∃ i : Nat, i < n ∧ d = .int (i : Int) := by
  unfold rng at h
  obtain ⟨i, h1, h2⟩ := List.mem_map.mp h
  exact ⟨i, List.mem_range.mp h1, h2.symm⟩
theorem at_row {bag : List D} {i : Nat} (h : i < bag.length) : atI bag (i : Int) = some (bag.getD i .non) := by
  rw [atI_n (List.getElem?_eq_getElem h), List.getD_eq_getElem?_getD, List.getElem?_eq_getElem h]; rfl
theorem row_at {bag : List D} (hb : Rows bag) {i : Nat} (h : i < bag.length) : IsRow (bag.getD i .non) := by
  rw [List.getD_eq_getElem?_getD, List.getElem?_eq_getElem h]
  exact hb _ (List.getElem_mem h)
theorem fr_ok {bag : List D} (hb : Rows bag) (hl : bag.length ≤ 50) (M : Store) : mFr [.tup bag] M = .ok (.lst ((rng bag.length).filter (pFr bag))) M := by
  have h1 : ((bag.length : Int) ≤ 16777216 ∧ -(2 ^ 62) ≤ (bag.length : Int)) := by omega
  have key : ∀ {all : List D}, lcIter none all (gN 1) (bOr (bVal (eBin eqD (eVar 1) (eC (.int 0)))) (bVal (eBin neD (eBin ixD (eVar 0) (eVar 1)) (eBin ixD (eVar 0) (eBin subD (eVar 1) (eC (.int 1))))))) (eVar 1) [some (.tup bag), none] (rng bag.length) M = .ok (((rng bag.length).filter (pFr bag)).map id) M := by
    intro all
    refine lc_pure (h := id) fun d hd => ?_
    obtain ⟨i, hi, rfl⟩ := mem_rng hd
    refine ⟨_, rfl, ?_, fun _ => by simp⟩
    by_cases c : i = 0
    · subst c
      simp [pFr]
    · have e1 : ((i : Int) - 1) = ((i - 1 : Nat) : Int) := by omega
      have hi2 : i - 1 < bag.length := by omega
      have c' : ¬ (i : Int) = 0 := by omega
      have w := ne_row (M := M) (row_at hb hi) (row_at hb hi2)
      simp only [List.getD_eq_getElem?_getD] at w
      simp [pFr, c, c', at_row hi, e1, at_row hi2, w]
  show mFn 2 1 b_first_rows [.tup bag] M = _
  have key' := @key (rng bag.length)
  rw [List.map_id] at key'
  unfold rng at key' ⊢
  simp [mFn, b_first_rows, h1, wipeE, key']
theorem idx_mem {d : D} : ∀ {xs : List D}, (∃ x ∈ xs, eqDD x d = true) → ∃ j, idx d xs = some j
  | [], ⟨_, h, _⟩ => by cases h
  | x :: xs, h => by
    rw [idx]
    by_cases c : eqDD x d = true
    · exact ⟨0, if_pos c⟩
    · rw [if_neg c]
      obtain ⟨y, hy, e⟩ := h
      rcases List.mem_cons.mp hy with q | hy
      · subst q; exact absurd e c
      · obtain ⟨j, e⟩ := idx_mem ⟨y, hy, e⟩
        exact ⟨j + 1, by rw [e]; rfl⟩
theorem getD_eq {bag : List D} {i : Nat} {x : D} (h : bag[i]? = some x) : bag.getD i .non = x := by
  rw [List.getD_eq_getElem?_getD, h]; rfl
theorem row_self {x : D} (h : IsRow x) : eqDD x x = true := eqDD_refl x ⟨38, h.pln.2⟩
theorem row_eq {x y : D} (h : IsRow x) (k : IsRow y) (e : eqDD x y = true) : x = y := eqDD_eq x y (pln_noBl h.pln.1) (pln_noBl k.pln.1) e
theorem asc_get {xs : List D} (h : Asc xs) {i j : Nat} {x y : D} (hi : xs[i]? = some x) (hj : xs[j]? = some y) (q : i < j) : ltT y x = false := by
  obtain ⟨h1, e1⟩ := List.getElem?_eq_some_iff.mp hi
  obtain ⟨h2, e2⟩ := List.getElem?_eq_some_iff.mp hj
  have := List.pairwise_iff_getElem.mp h i j h1 h2 q
  rw [e1, e2] at this
  exact this
theorem p_same {bag : List D} (hb : Rows bag) (ha : Asc bag) {i : Nat} (hi : i < bag.length) : pIx bag (.int (i : Int)) = pFr bag (.int (i : Int)) := by
  have gi : bag[i]? = some bag[i] := List.getElem?_eq_getElem hi
  have ri : IsRow bag[i] := hb _ (List.getElem_mem hi)
  obtain ⟨j, hj⟩ := idx_mem (d := bag[i]) (xs := bag) ⟨_, List.getElem_mem hi, row_self ri⟩
  obtain ⟨y, g1, g2, g3⟩ := idx_some hj
  have ry : IsRow y := hb y (List.mem_of_getElem? g1)
  have ey := row_eq ry ri g2
  have hji : j ≤ i := by
    rcases Nat.lt_or_ge i j with q | q
    · have := g3 i q _ gi
      rw [row_self ri] at this; cases this
    · exact q
  show (idx (bag.getD (i : Int).toNat .non) bag == some (i : Int).toNat) = (decide ((i : Int) = 0) || !eqDD (bag.getD (i : Int).toNat .non) (bag.getD ((i : Int).toNat - 1) .non))
  rw [Int.toNat_natCast, getD_eq gi, hj]
  by_cases c : i = 0
  · subst c
    have : j = 0 := by omega
    subst this
    simp
  · have hi2 : i - 1 < bag.length := by omega
    have gp : bag[i - 1]? = some bag[i - 1] := List.getElem?_eq_getElem hi2
    have rp : IsRow bag[i - 1] := hb _ (List.getElem_mem hi2)
    rw [getD_eq gp]
    have c' : ¬ (i : Int) = 0 := by omega
    by_cases q : eqDD bag[i] bag[i - 1] = true
    · have e := row_eq ri rp q
      have hne : j ≠ i := fun z => by
        have := g3 (i - 1) (by omega) _ gp
        rw [← e, row_self ri] at this; cases this
      have hne' : (j == i) = false := by simpa using hne
      simp [c', c, q, hne']
    · have hje : j = i := by
        rcases Nat.lt_or_ge j i with z | z
        · exfalso
          have l1 := asc_get ha gp gi (by omega)
          rw [ltT_no] at l1
          have l2 : cmpD y bag[i - 1] ≠ .gt := by
            by_cases w : j = i - 1
            · subst w
              rw [g1] at gp
              cases gp
              rw [cmpD_refl]; decide
            · have := asc_get ha g1 gp (by omega)
              rw [ltT_no] at this
              exact this
          rw [ey] at l2
          rw [cmpD_swap bag[i] bag[i - 1]] at l1
          have : cmpD bag[i] bag[i - 1] = .eq := by
            revert l1 l2
            cases cmpD bag[i] bag[i - 1] <;> decide
          have := cmpD_eq _ _ ri.pln.1 rp.pln.1 this
          rw [← this, row_self ri] at q
          exact q rfl
        · omega
      have q' : eqDD bag[i] bag[i - 1] = false := by simpa using q
      simp [c', q', hje]
theorem filt_same {bag : List D} (hb : Rows bag) (ha : Asc bag) : (rng bag.length).filter (pIx bag) = (rng bag.length).filter (pFr bag) := by
  refine List.filter_congr fun d hd => ?_
  obtain ⟨i, hi, rfl⟩ := mem_rng hd
  exact p_same hb ha hi
/-! ### may_wait -/
theorem bls_map {α : Type} (q : α → Bool) : ∀ xs : List α, blsOf (xs.map fun d => D.bl (q d)) = some (xs.map q)
  | [] => rfl
  | x :: xs => by rw [List.map_cons, blsOf, bls_map q xs]; rfl
theorem filt_true {α : Type} : ∀ xs : List α, xs.filter (fun _ => true) = xs
  | [] => rfl
  | x :: xs => by rw [List.filter_cons_of_pos rfl, filt_true xs]
theorem mw_ok {bag : List D} (hb : Rows bag) (r m : Int) (M : Store) : mMw [.tup bag, .int r, .int m] M = .ok (.bl (bag.all fun d => decide (vOf d + r > m))) M := by
  have key : ∀ {all : List D}, lcIter none all (gT 2 (gsC (gN 3) (gsC (gN 4) gsN))) bYes (eBin gtIS (eBin addD (eVar 3) (eVar 1)) (eVar 2)) [some (.tup bag), some (.int r), some (.int m), none, none] bag M = .ok (bag.map fun d => D.bl (decide (vOf d + r > m))) M := by
    intro all
    have := lc_pure (all := all) (g := gT 2 (gsC (gN 3) (gsC (gN 4) gsN))) (b := bYes) (f := eBin gtIS (eBin addD (eVar 3) (eVar 1)) (eVar 2)) (e0 := [some (.tup bag), some (.int r), some (.int m), none, none]) (M := M) (p := fun _ => true) (h := fun d => D.bl (decide (vOf d + r > m))) (L := bag) fun d hd => by
      obtain ⟨v, x, _, rfl⟩ := hb d hd
      exact ⟨_, rfl, rfl, fun _ => by simp [vOf]⟩
    rw [filt_true] at this
    exact this
  show mFn 5 3 b_may_wait [.tup bag, .int r, .int m] M = _
  simp [mFn, b_may_wait, wipeE, key, bls_map]
def fWait : EF := (eLc false (iSeq (eVar 4)) (gN 12) (bVal (eBin geIS (eBin subD (eVar 6) (eBin ixD (eVar 12) (eC (.int 0)))) (eVar 10))) (eVar 12) [12])
theorem wait_ok {bag : List D} (hb : Rows bag) {e : En} {m r : Int} {M : Store} (h4 : e[4]? = some (some (.tup bag))) (h6 : e[6]? = some (some (.int m))) (h10 : e[10]? = some (some (.int r))) (hl : 12 < e.length) :
    fWait e M = .ok (.lst (bag.filter fun d => decide (m - vOf d ≥ r))) M := by
  have key : ∀ {all : List D}, lcIter none all (gN 12) (bVal (eBin geIS (eBin subD (eVar 6) (eBin ixD (eVar 12) (eC (.int 0)))) (eVar 10))) (eVar 12) (wipeE e [12]) bag M = .ok (bag.filter fun d => decide (m - vOf d ≥ r)) M := by
    intro all
    have := lc_pure (all := all) (g := gN 12) (b := bVal (eBin geIS (eBin subD (eVar 6) (eBin ixD (eVar 12) (eC (.int 0)))) (eVar 10))) (f := eVar 12) (e0 := wipeE e [12]) (M := M) (p := fun d => decide (m - vOf d ≥ r)) (h := id) (L := bag) fun d hd => by
      obtain ⟨v, x, _, rfl⟩ := hb d hd
      exact ⟨_, rfl, by simp [vOf, wipeE, h6, h10, hl], fun _ => by simp [wipeE, hl]⟩
    rw [List.map_id] at this
    exact this
  simp [fWait, h4, key]
theorem told_same {bag : List D} (r m : Int) : (bag.all fun d => decide (vOf d + r > m)) = eqLL (bag.filter fun d => decide (m - vOf d ≥ r)) [] := by
  induction bag with
  | nil => rw [List.all_nil, List.filter_nil, eqLL]
  | cons x xs ih =>
    rw [List.all_cons]
    by_cases c : m - vOf x ≥ r
    · rw [List.filter_cons_of_pos (by simpa using c), eqLL, decide_eq_false (by omega)]
      · rfl
      · intro h _; cases h
      · intro _ _ _ _ _ h; cases h
    · rw [List.filter_cons_of_neg (by simpa using c), ← ih, decide_eq_true (by omega)]; rfl
/-! ### without -/
theorem wo_ok {bag : List D} {k : Nat} (hk : k < bag.length) (hl : bag.length ≤ 50) (M : Store) : mWo [.tup bag, .int (k : Int)] M = .ok (.tup (bag.eraseIdx k)) M := by
  have a1 : cutD bag none (some (k : Int)) = bag.take k := by
    unfold cutD
    rw [HT.sIx_none, HT.sIx_nat]
    rw [show min k bag.length = k by omega]
    simp
  have a2 : cutD bag (some ((k + 1 : Nat) : Int)) none = bag.drop (k + 1) := by
    unfold cutD
    rw [HT.sIx_none, HT.sIx_nat]
    rw [show min (k + 1) bag.length = k + 1 by omega]
    exact List.take_of_length_le (by rw [List.length_drop]; omega)
  have e1 : ((k : Int) + 1) = ((k + 1 : Nat) : Int) := by omega
  have l1 : (bag.take k).length + (bag.drop (k + 1)).length ≤ sz := by
    rw [List.length_take, List.length_drop]
    show _ ≤ 16777216
    omega
  show mFn 2 2 b_without [.tup bag, .int (k : Int)] M = _
  rw [List.eraseIdx_eq_take_drop_succ]
  have s1 : slD M (.tup bag) none (some (k : Int)) = some (.tup (bag.take k)) := by rw [o_cut_t, a1]
  have s2 : slD M (.tup bag) (some ((k : Int) + 1)) none = some (.tup (bag.drop (k + 1))) := by rw [o_cut_t, e1, a2]
  have s3 : addD M (.tup (bag.take k)) (.tup (bag.drop (k + 1))) = some (.tup (bag.take k ++ bag.drop (k + 1))) := by rw [o_t_add, if_pos l1]
  simp [mFn, b_without, -o_cut_t, -o_t_add, s1, s2, s3]
end
end Py
set_option Elab.async false
set_option linter.all false
set_option maxRecDepth 100000
set_option maxHeartbeats 4000000
namespace Py
open PySem PySem.Spec PyProof.Rows L2
noncomputable section
/-- one turn -/
def body3 : SF := (sSeq (sAsg (eTup (aCons (eCall (arity 2 mNx) (aCons (eVar 1) (aCons (eC (.int 5)) aNil))) (aCons (eCall (arity 2 mNx) (aCons (eVar 1) (aCons (eC (.int 12)) aNil))) aNil))) (gT 2 (gsC (gN 10) (gsC (gN 6) gsN))))
    (sSeq (sSet 11 (eCall (arity 3 mMw) (aCons (eVar 4) (aCons (eVar 10) (aCons (eVar 6) aNil)))))
    (sSeq (sIf (bOr (bNot (bVal (eUn (isTy "bool") (eVar 11)))) (bVal (eBin neD (eVar 11) (eBin eqD fWait (eLst aNil))))) (sRet (eC (.bl false))) sNil)
    (sIf (bVal (eBin neD (eVar 4) (eTup aNil))) (sSeq (sSet 3 (eCall (arity 2 mNx) (aCons (eVar 1) (aCons (eB lenD (aCons (eVar 4) aNil)) aNil))))
    (sSeq (sSet 13 (eB listOfR (aCons (eVar 4) aNil)))
    (sSeq (sExpr (eMT "list" popD (eVar 13) (aCons (eVar 3) aNil)))
    (sIf (bVal (eBin neD (eCall (arity 2 mWo) (aCons (eVar 4) (aCons (eVar 3) aNil))) (eB tupleOf (aCons (eVar 13) aNil)))) (sRet (eC (.bl false))) sNil)))) sNil))))
theorem turn {ns : List Int} {bag : List D} (hb : Rows bag) (hl : bag.length ≤ 50) {M : Store} (h : TI ns M) {x0 x2 x3 x5 x6 x7 x8 x9 x10 x11 x12 x13 : Option D} :
    ∃ y3 y6 y10 y11 y13 M', body3 [x0, some (.ref 0), x2, x3, some (.tup bag), x5, x6, x7, x8, x9, x10, x11, x12, x13] M = .nx [x0, some (.ref 0), x2, y3, some (.tup bag), x5, y6, x7, x8, x9, y10, y11, x12, y13] M' ∧ TI ns M' := by
  obtain ⟨r, M1, a1, a2, a3, _⟩ := nx0 h (many := 5) (by omega) (by omega)
  obtain ⟨m, M2, b1, b2, b3, _⟩ := nx0 a2 (many := 12) (by omega) (by omega)
  have c1 := mw_ok hb (r : Int) (m : Int) M2
  have ff : flatL (bag.filter fun d => decide ((m : Int) - vOf d ≥ (r : Int))) 39 = true := Rows.flat fun d hd => hb d (List.mem_filter.mp hd).1
  have w1 : eqD M2 (.lst (bag.filter fun d => decide ((m : Int) - vOf d ≥ (r : Int)))) (.lst []) = some (.bl (eqLL (bag.filter fun d => decide ((m : Int) - vOf d ≥ (r : Int))) [])) := eq_ll ff (by rw [flatL])
  rw [← told_same] at w1
  generalize (bag.all fun d => decide (vOf d + (r : Int) > (m : Int))) = tl at c1 w1
  have w2 := wait_ok (M := M2) hb (e := [x0, some (.ref 0), x2, x3, some (.tup bag), x5, some (.int (m : Int)), x7, x8, x9, some (.int (r : Int)), some (.bl tl), x12, x13]) (m := (m : Int)) (r := (r : Int)) rfl rfl rfl (by simp)
  by_cases hz : bag = []
  · have n1 : neD M2 (.tup bag) (.tup []) = some (.bl false) := by rw [hz, ne_tt (by rw [flatL]) (by rw [flatL]), eqLL]; rfl
    refine ⟨x3, some (.int (m : Int)), some (.int (r : Int)), some (.bl tl), x13, M2, ?_, b2⟩
    simp [body3, a1, b1, c1, w1, w2, n1]
  · have n1 : neD M2 (.tup bag) (.tup []) = some (.bl true) := by
      rw [ne_tt hb.flat (by rw [flatL])]
      cases bag with
      | nil => exact absurd rfl hz
      | cons x xs => rfl
    have hlen : 1 ≤ (bag.length : Int) := by
      cases bag with
      | nil => exact absurd rfl hz
      | cons x xs => rw [List.length_cons]; omega
    obtain ⟨k, M3, d1, d2, d3, _⟩ := nx0 b2 (many := (bag.length : Int)) hlen (by omega)
    have hk : k < bag.length := by omega
    have t3 : TI ns (M3 ++ [.lst bag]) := d2.app
    have g1 : (M3 ++ [O.lst bag])[M3.length]? = some (.lst bag) := by simp
    have g2 : tyD "list" (M3 ++ [O.lst bag]) (.ref M3.length) = true := by
      show tyO "list" (M3 ++ [O.lst bag])[M3.length]? = true
      rw [g1]; rfl
    have g3 : lstAt (M3 ++ [O.lst bag]) (.ref M3.length) = some (M3.length, bag) := by
      show (match (M3 ++ [O.lst bag])[M3.length]? with | some (.lst xs) => some (M3.length, xs) | _ => none) = _
      rw [g1]
    have g4 : popD (M3 ++ [O.lst bag]) [.ref M3.length, .int (k : Int)] = some (bag[k], (M3 ++ [O.lst bag]).set M3.length (.lst (bag.eraseIdx k))) := by
      show ((lstAt (M3 ++ [O.lst bag]) (.ref M3.length)).bind fun p => (ixN p.2.length (k : Int)).bind fun n => p.2[n]?.map fun z => (z, (M3 ++ [O.lst bag]).set p.1 (.lst (p.2.eraseIdx n)))) = _
      rw [g3]
      show ((ixN bag.length (k : Int)).bind fun n => bag[n]?.map fun z => (z, (M3 ++ [O.lst bag]).set M3.length (.lst (bag.eraseIdx n)))) = _
      rw [show ixN bag.length (k : Int) = some k from by unfold ixN; rw [if_pos (by omega), if_pos (by omega)]; rfl]
      show (bag[k]?.map fun z => (z, (M3 ++ [O.lst bag]).set M3.length (.lst (bag.eraseIdx k)))) = _
      rw [List.getElem?_eq_getElem hk]; rfl
    generalize hM4 : (M3 ++ [O.lst bag]).set M3.length (.lst (bag.eraseIdx k)) = M4 at g4
    have t4 : TI ns M4 := by rw [← hM4]; exact t3.setN (by have := d2.len; omega)
    have g5 : tupleOf M4 [.ref M3.length] = some (.tup (bag.eraseIdx k), M4) := by
      show ((listD M4 (.ref M3.length)).map fun xs => (D.tup xs, M4)) = _
      rw [listD_r (xs := bag.eraseIdx k) (by rw [← hM4]; simp)]; rfl
    have g6 := wo_ok hk hl M4
    have re : Rows (bag.eraseIdx k) := fun d hd => hb d (List.mem_of_mem_eraseIdx hd)
    have g7 : neD M4 (.tup (bag.eraseIdx k)) (.tup (bag.eraseIdx k)) = some (.bl false) := by rw [ne_tt re.flat re.flat, eqLL_self re.flat]; rfl
    refine ⟨some (.int (k : Int)), some (.int (m : Int)), some (.int (r : Int)), some (.bl tl), some (.ref M3.length), M4, ?_, t4⟩
    simp [body3, a1, b1, c1, w1, w2, n1, d1, g2, g4, g5, g6, g7]
theorem turns {ns : List Int} {bag : List D} (hb : Rows bag) (hl : bag.length ≤ 50) {all : List D} {x0 x2 x5 x7 x8 x12 : Option D} : ∀ (L : List D) {M : Store}, TI ns M → ∀ {x3 x6 x9 x10 x11 x13 : Option D},
    ∃ y3 y6 y9 y10 y11 y13 M', fIter none all (gN 9) body3 L [x0, some (.ref 0), x2, x3, some (.tup bag), x5, x6, x7, x8, x9, x10, x11, x12, x13] M = .nx [x0, some (.ref 0), x2, y3, some (.tup bag), x5, y6, x7, x8, y9, y10, y11, x12, y13] M' ∧ TI ns M'
  | [], M, h, x3, x6, x9, x10, x11, x13 => ⟨_, _, _, _, _, _, M, f_nil, h⟩
  | d :: L, M, h, x3, x6, x9, x10, x11, x13 => by
    obtain ⟨y3, y6, y10, y11, y13, M1, e, h1⟩ := turn hb hl h (x0 := x0) (x2 := x2) (x3 := x3) (x5 := x5) (x6 := x6) (x7 := x7) (x8 := x8) (x9 := some d) (x10 := x10) (x11 := x11) (x12 := x12) (x13 := x13)
    obtain ⟨z3, z6, z9, z10, z11, z13, M2, e2, h2⟩ := turns hb hl (all := all) (x0 := x0) (x2 := x2) (x5 := x5) (x7 := x7) (x8 := x8) (x12 := x12) L h1 (x3 := y3) (x6 := y6) (x9 := some d) (x10 := y10) (x11 := y11) (x13 := y13)
    refine ⟨z3, z6, z9, z10, z11, z13, M2, ?_, h2⟩
    rw [f_cons]
    simp [e, e2]
theorem seq_nx {f g : SF} {e e1 : En} {M M1 : Store} (h : f e M = .nx e1 M1) : sSeq f g e M = g e1 M1 := by unfold sSeq; rw [h]
def cond1 : BF := (bOr (bNot (bVal (eUn (isTy "tuple") (eVar 4)))) (bOr (bVal (eBin neD (eVar 4) (eB tupleOf (aCons (eB sortedD (aCons (eVar 2) aNil)) aNil)))) (bVal (eBin neD (eVar 5) (eVar 4)))))
def fIdx : EF := (eLc false (iRange1 (aCons (eB lenD (aCons (eVar 4) aNil)) aNil)) (gN 3) (bVal (eBin eqD (eMTt indexT (eVar 4) (aCons (eBin ixD (eVar 4) (eVar 3)) aNil)) (eVar 3))) (eVar 3) [3])
def cond2 : BF := (bVal (eBin neD (eCall (arity 1 mFr) (aCons (eVar 4) aNil)) fIdx))
def last3 : SF := (sRet (eAnd (eBin eqD (eCall (arity 3 mPut) (aCons (eTup aNil) (aCons (eC (.int 3)) (aCons (eTup (aCons (eC (.str (Str.ofString "x"))) aNil)) aNil)))) (eTup (aCons (eTup (aCons (eC (.int 3)) (aCons (eTup (aCons (eC (.str (Str.ofString "x"))) aNil)) aNil))) aNil))) (eAnd (eBin eqD (eCall (arity 1 mFr) (aCons (eTup aNil) aNil)) (eLst aNil)) (eBin (isN false) (eCall (arity 3 mMw) (aCons (eTup aNil) (aCons (eC (.int 0)) (aCons (eC (.int 0)) aNil)))) (eC (.bl true))))))
theorem b_eq : b_law mNx mMs mPut mFr mMw mWo =
    sSeq (sSet 1 (eLstR (aCons (eB listOf (aCons (eVar 0) aNil)) (aCons (eC (.int 0)) (aCons (eC (.int 0)) (aCons (eC (.int 419)) aNil))))))
    (sSeq (sSet 2 (eLc false (iRange1 (aCons (eCall (arity 2 mNx) (aCons (eVar 1) (aCons (eC (.int 13)) aNil))) aNil)) (gN 3) bYes fRow [3]))
    (sSeq (sAsg (eTup (aCons (eTup aNil) (aCons (eTup aNil) aNil))) (gT 2 (gsC (gN 4) (gsC (gN 5) gsN))))
    (sSeq (sFor (iSeq (eVar 2)) tg67 body1)
    (sSeq (sFor (iSeq (eUn revD (eVar 2))) tg67 body2)
    (sSeq (sIf cond1 (sRet (eC (.bl false))) sNil)
    (sSeq (sIf cond2 (sRet (eC (.bl false))) sNil)
    (sSeq (sFor (iRange1 (aCons (eC (.int 4)) aNil)) (gN 9) body3) last3))))))) := rfl
theorem idx_ok {bag : List D} (hb : Rows bag) (hl : bag.length ≤ 50) {e : En} {M : Store} (h4 : e[4]? = some (some (.tup bag))) (h3 : 3 < e.length) : fIdx e M = .ok (.lst ((rng bag.length).filter (pIx bag))) M := by
  have h1 : ((bag.length : Int) ≤ 16777216 ∧ -(2 ^ 62) ≤ (bag.length : Int)) := by omega
  have key : ∀ {all : List D}, lcIter none all (gN 3) (bVal (eBin eqD (eMTt indexT (eVar 4) (aCons (eBin ixD (eVar 4) (eVar 3)) aNil)) (eVar 3))) (eVar 3) (wipeE e [3]) (rng bag.length) M = .ok (((rng bag.length).filter (pIx bag)).map id) M := by
    intro all
    refine lc_pure (h := id) fun d hd => ?_
    obtain ⟨i, hi, rfl⟩ := mem_rng hd
    have ri := row_at hb hi
    have gi : bag[i]? = some (bag.getD i .non) := by rw [List.getD_eq_getElem?_getD, List.getElem?_eq_getElem hi]; rfl
    obtain ⟨j, hj⟩ := idx_mem (d := bag.getD i .non) (xs := bag) ⟨_, List.mem_of_getElem? gi, row_self ri⟩
    have w : indexT M [.tup bag, bag.getD i .non] = some (.int (j : Int), M) := by
      show (if flat (bag.getD i .non) dp = true ∧ flatL bag dp = true then (idx (bag.getD i .non) bag).map fun j => (D.int (j : Nat), M) else none) = _
      rw [if_pos ⟨flat_mono (by unfold dp; omega) _ ri.pln.2, flatL_mono (by unfold dp; omega) _ hb.flat⟩, hj]; rfl
    have pv : pIx bag (.int (i : Int)) = (some j == some i) := by
      show (idx (bag.getD (i : Int).toNat .non) bag == some (i : Int).toNat) = _
      rw [Int.toNat_natCast, hj]
    rw [pv]
    generalize bag.getD i .non = x at w gi
    have a4 := at_row hi
    rw [List.getD_eq_getElem?_getD, gi] at a4
    have a4 : atI bag (i : Int) = some x := a4
    refine ⟨_, rfl, ?_, fun _ => by simp [wipeE, h3]⟩
    have q : decide ((j : Int) = (i : Int)) = (some j == some i) := by
      by_cases c : j = i
      · subst c; simp
      · have c' : ¬ (j : Int) = (i : Int) := by omega
        simp [c, c']
    simp [wipeE, h3, h4, a4, w, q]
  have key' := @key (rng bag.length)
  rw [List.map_id] at key'
  unfold rng at key' ⊢
  simp [fIdx, h4, h1, key']
theorem last_ok {e : En} {M : Store} : last3 e M = .rt (.bl true) M := by
  have p1 : mPut [.tup [], .int 3, .tup [.str (Str.ofString "x")]] M = .ok (.tup [.tup [.int 3, .tup [.str (Str.ofString "x")]]]) M := put0 (bag := []) (by rfl) (by decide)
  have p2 : eqD M (.tup [.tup [.int 3, .tup [.str (Str.ofString "x")]]]) (.tup [.tup [.int 3, .tup [.str (Str.ofString "x")]]]) = some (.bl true) := by
    have f : flatL [D.tup [.int 3, .tup [.str (Str.ofString "x")]]] 39 = true := by decide +kernel
    rw [eq_tt f f, eqLL_self f]
  have p3 : mFr [.tup []] M = .ok (.lst []) M := fr_ok (bag := []) (fun d hd => by cases hd) (by decide) M
  have p4 : mMw [.tup [], .int 0, .int 0] M = .ok (.bl true) M := mw_ok (bag := []) (fun d hd => by cases hd) 0 0 M
  have p5 : eqD M (.lst []) (.lst []) = some (.bl true) := by rw [eq_ll (by rw [flatL]) (by rw [flatL]), eqLL]
  simp [last3, p1, p2, p3, p4, p5]
def mLaw : MF := r_law mNx mMs mPut mFr mMw mWo
theorem law_true (ns : List Int) (hn : ns.length ≤ 63) : ∃ M', mLaw [.lst (ns.map D.int)] [] = .ok (.bl true) M' := by
  have t0 : TI ns [O.lst [.lst (ns.map D.int), .int 0, .int 0, .int 419]] := ⟨0, 0, 419, rfl, by omega⟩
  obtain ⟨n, M1, a1, a2, a3, _⟩ := nx0 t0 (many := 13) (by omega) (by omega)
  have n1 : ((n : Int) ≤ 16777216 ∧ -(2 ^ 62) ≤ (n : Int)) := by omega
  obtain ⟨rows, M2, b1, b2, b3, b4⟩ := mk_rows (ns := ns) (all := rng n) (e0 := [some (.lst (ns.map D.int)), some (.ref 0), none, none, none, none, none, none, none, none, none, none, none, none]) rfl (rng n) a2
  have hl : rows.length ≤ 12 := by rw [b3]; unfold rng; simp; omega
  obtain ⟨y6, y7, y8, c1⟩ := loop1 (all := rows) (M := M2) (x0 := some (.lst (ns.map D.int))) (x1 := some (.ref 0)) (x2 := some (.lst rows)) (x3 := none) (x5 := some (.tup [])) (x9 := none) (x10 := none) (x11 := none) (x12 := none) (x13 := none) rows (done := []) (x6 := none) (x7 := none) (x8 := none) b2 (by show rows.length ≤ 50; omega)
  have rr : Rows rows.reverse := b2.perm (List.reverse_perm rows)
  obtain ⟨z6, z7, c2⟩ := loop2 (all := rows.reverse) (M := M2) (x0 := some (.lst (ns.map D.int))) (x1 := some (.ref 0)) (x2 := some (.lst rows)) (x3 := none) (x4 := some (.tup (srt [] rows))) (x8 := y8) (x9 := none) (x10 := none) (x11 := none) (x12 := none) (x13 := none) rows.reverse (done := []) (x6 := y6) (x7 := y7) rr (by show rows.reverse.length ≤ 50; rw [List.length_reverse]; omega)
  rw [List.nil_append] at c1 c2
  rw [srt_swap (List.reverse_perm rows) b2.pln] at c2
  have hb : Rows (srt [] rows) := b2.srt
  have hbl : (srt [] rows).length ≤ 50 := by rw [srt_len]; omega
  have f1 : neD M2 (.tup (srt [] rows)) (.tup (srt [] rows)) = some (.bl false) := by rw [ne_tt hb.flat hb.flat, eqLL_self hb.flat]; rfl
  have f2 := fr_ok hb hbl M2
  have f3 := idx_ok (M := M2) hb hbl (e := [some (.lst (ns.map D.int)), some (.ref 0), some (.lst rows), none, some (.tup (srt [] rows)), some (.tup (srt [] rows)), z6, z7, y8, none, none, none, none, none]) rfl (by simp)
  rw [filt_same hb (srt_asc _ .nil)] at f3
  have ff : flatL ((rng (srt [] rows).length).filter (pFr (srt [] rows))) 39 = true := flatL_iff.mpr fun d hd => by
    obtain ⟨i, _, rfl⟩ := mem_rng (List.mem_filter.mp hd).1
    rw [flat]
  have f4 : neD M2 (.lst ((rng (srt [] rows).length).filter (pFr (srt [] rows)))) (.lst ((rng (srt [] rows).length).filter (pFr (srt [] rows)))) = some (.bl false) := by rw [ne_ll ff ff, eqLL_self ff]; rfl
  obtain ⟨w3, w6, w9, w10, w11, w13, M3, g1, g2⟩ := turns hb hbl (all := rng 4) (x0 := some (.lst (ns.map D.int))) (x2 := some (.lst rows)) (x5 := some (.tup (srt [] rows))) (x7 := z7) (x8 := y8) (x12 := none) (rng 4) b4 (x3 := none) (x6 := z6) (x9 := none) (x10 := none) (x11 := none) (x13 := none)
  refine ⟨M3, ?_⟩
  have s1 : sSet 1 (eLstR (aCons (eB listOf (aCons (eVar 0) aNil)) (aCons (eC (.int 0)) (aCons (eC (.int 0)) (aCons (eC (.int 419)) aNil))))) [some (.lst (ns.map D.int)), none, none, none, none, none, none, none, none, none, none, none, none, none] [] =
      .nx [some (.lst (ns.map D.int)), some (.ref 0), none, none, none, none, none, none, none, none, none, none, none, none] [O.lst [.lst (ns.map D.int), .int 0, .int 0, .int 419]] := by simp
  have s2 : sSet 2 (eLc false (iRange1 (aCons (eCall (arity 2 mNx) (aCons (eVar 1) (aCons (eC (.int 13)) aNil))) aNil)) (gN 3) bYes fRow [3]) [some (.lst (ns.map D.int)), some (.ref 0), none, none, none, none, none, none, none, none, none, none, none, none] [O.lst [.lst (ns.map D.int), .int 0, .int 0, .int 419]] =
      .nx [some (.lst (ns.map D.int)), some (.ref 0), some (.lst rows), none, none, none, none, none, none, none, none, none, none, none] M2 := by
    unfold rng at b1
    simp [a1, n1, wipeE, b1]
  have s3 : sAsg (eTup (aCons (eTup aNil) (aCons (eTup aNil) aNil))) (gT 2 (gsC (gN 4) (gsC (gN 5) gsN))) [some (.lst (ns.map D.int)), some (.ref 0), some (.lst rows), none, none, none, none, none, none, none, none, none, none, none] M2 =
      .nx [some (.lst (ns.map D.int)), some (.ref 0), some (.lst rows), none, some (.tup []), some (.tup []), none, none, none, none, none, none, none, none] M2 := by simp
  have s4 : sFor (iSeq (eVar 2)) tg67 body1 [some (.lst (ns.map D.int)), some (.ref 0), some (.lst rows), none, some (.tup []), some (.tup []), none, none, none, none, none, none, none, none] M2 =
      .nx [some (.lst (ns.map D.int)), some (.ref 0), some (.lst rows), none, some (.tup (srt [] rows)), some (.tup []), y6, y7, y8, none, none, none, none, none] M2 := by
    simp [c1]
    exact c1
  have s5 : sFor (iSeq (eUn revD (eVar 2))) tg67 body2 [some (.lst (ns.map D.int)), some (.ref 0), some (.lst rows), none, some (.tup (srt [] rows)), some (.tup []), y6, y7, y8, none, none, none, none, none] M2 =
      .nx [some (.lst (ns.map D.int)), some (.ref 0), some (.lst rows), none, some (.tup (srt [] rows)), some (.tup (srt [] rows)), z6, z7, y8, none, none, none, none, none] M2 := by
    simp
    exact c2
  have s6 : sIf cond1 (sRet (eC (.bl false))) sNil [some (.lst (ns.map D.int)), some (.ref 0), some (.lst rows), none, some (.tup (srt [] rows)), some (.tup (srt [] rows)), z6, z7, y8, none, none, none, none, none] M2 =
      .nx [some (.lst (ns.map D.int)), some (.ref 0), some (.lst rows), none, some (.tup (srt [] rows)), some (.tup (srt [] rows)), z6, z7, y8, none, none, none, none, none] M2 := by
    simp [cond1, b2.ok, f1]
  have s7 : sIf cond2 (sRet (eC (.bl false))) sNil [some (.lst (ns.map D.int)), some (.ref 0), some (.lst rows), none, some (.tup (srt [] rows)), some (.tup (srt [] rows)), z6, z7, y8, none, none, none, none, none] M2 =
      .nx [some (.lst (ns.map D.int)), some (.ref 0), some (.lst rows), none, some (.tup (srt [] rows)), some (.tup (srt [] rows)), z6, z7, y8, none, none, none, none, none] M2 := by
    simp [cond2, f2, f3, f4]
  have s8 : sFor (iRange1 (aCons (eC (.int 4)) aNil)) (gN 9) body3 [some (.lst (ns.map D.int)), some (.ref 0), some (.lst rows), none, some (.tup (srt [] rows)), some (.tup (srt [] rows)), z6, z7, y8, none, none, none, none, none] M2 =
      .nx [some (.lst (ns.map D.int)), some (.ref 0), some (.lst rows), w3, some (.tup (srt [] rows)), some (.tup (srt [] rows)), w6, z7, y8, w9, w10, w11, none, w13] M3 := g1
  show mFn 14 1 (b_law mNx mMs mPut mFr mMw mWo) [.lst (ns.map D.int)] [] = _
  rw [b_eq]
  show (match sSeq _ _ [some (.lst (ns.map D.int)), none, none, none, none, none, none, none, none, none, none, none, none, none] [] with
  | .nx _ M1 => Res.ok D.non M1
  | .rt d M1 => .ok d M1
  | .ex x _ M1 => .ex x M1
  | _ => .no) = _
  rw [seq_nx s1, seq_nx s2, seq_nx s3, seq_nx s4, seq_nx s5, seq_nx s6, seq_nx s7, seq_nx s8, last_ok]
end
end Py
set_option Elab.async false
set_option linter.all false
set_option maxRecDepth 100000
set_option maxHeartbeats 4000000
namespace Py
open PySem PySem.Spec PyProof.Rows L2
/-- what the top has written, and the law over it -/
theorem all_mk {l : PySem.W.OpenLaw} {w : World} {K : PySem.W.Frag} {h : Heap} {mg : Str → Option Value} {fa f1 f2 f3 f4 f5 f6 f7 : Addr} (X : K.In h) (G : h.Ns mainGlobals mg) (hfa : mg "law" = some (.ref fa))
    {od1 an1 od2 an2 od3 an3 od4 an4 od5 an5 od6 an6 od7 an7 : Option Addr} {sl1 sl2 sl3 sl4 sl5 sl6 sl7 : Array (Option Value)}
    {oc1 kV1 dc1 pm1 cd1 ct1 oc2 kV2 dc2 pm2 cd2 ct2 oc3 kV3 dc3 pm3 cd3 ct3 oc4 kV4 dc4 pm4 cd4 ct4 oc5 kV5 dc5 pm5 cd5 ct5 oc6 kV6 dc6 pm6 cd6 ct6 oc7 kV7 dc7 pm7 cd7 ct7 : Value}
    (a1 : PySem.W.nsIn K mainGlobals "put" = some (some (.ref f1))) (l1 : K.lookup f1 = some ⟨oc1, od1, .func (PySem.W.fnOf "put" "put" (defArgs st_put) (defBody st_put) (defScope st_put) .none kV1 dc1 pm1 an1 cd1 ct1), sl1⟩) (c1 : PySem.W.codeIn K cd1 "put" = true) (k1 : PySem.W.keepIn K (.ref f1) = true)
    (a2 : PySem.W.nsIn K mainGlobals "without" = some (some (.ref f2))) (l2 : K.lookup f2 = some ⟨oc2, od2, .func (PySem.W.fnOf "without" "without" (defArgs st_without) (defBody st_without) (defScope st_without) .none kV2 dc2 pm2 an2 cd2 ct2), sl2⟩) (c2 : PySem.W.codeIn K cd2 "without" = true) (k2 : PySem.W.keepIn K (.ref f2) = true)
    (a3 : PySem.W.nsIn K mainGlobals "first_rows" = some (some (.ref f3))) (l3 : K.lookup f3 = some ⟨oc3, od3, .func (PySem.W.fnOf "first_rows" "first_rows" (defArgs st_first_rows) (defBody st_first_rows) (defScope st_first_rows) .none kV3 dc3 pm3 an3 cd3 ct3), sl3⟩) (c3 : PySem.W.codeIn K cd3 "first_rows" = true) (k3 : PySem.W.keepIn K (.ref f3) = true)
    (a4 : PySem.W.nsIn K mainGlobals "may_wait" = some (some (.ref f4))) (l4 : K.lookup f4 = some ⟨oc4, od4, .func (PySem.W.fnOf "may_wait" "may_wait" (defArgs st_may_wait) (defBody st_may_wait) (defScope st_may_wait) .none kV4 dc4 pm4 an4 cd4 ct4), sl4⟩) (c4 : PySem.W.codeIn K cd4 "may_wait" = true) (k4 : PySem.W.keepIn K (.ref f4) = true)
    (a5 : PySem.W.nsIn K mainGlobals "_law_next" = some (some (.ref f5))) (l5 : K.lookup f5 = some ⟨oc5, od5, .func (PySem.W.fnOf "_law_next" "_law_next" (defArgs st__law_next) (defBody st__law_next) (defScope st__law_next) .none kV5 dc5 pm5 an5 cd5 ct5), sl5⟩) (c5 : PySem.W.codeIn K cd5 "_law_next" = true) (k5 : PySem.W.keepIn K (.ref f5) = true)
    (a6 : PySem.W.nsIn K mainGlobals "_law_message" = some (some (.ref f6))) (l6 : K.lookup f6 = some ⟨oc6, od6, .func (PySem.W.fnOf "_law_message" "_law_message" (defArgs st__law_message) (defBody st__law_message) (defScope st__law_message) .none kV6 dc6 pm6 an6 cd6 ct6), sl6⟩) (c6 : PySem.W.codeIn K cd6 "_law_message" = true) (k6 : PySem.W.keepIn K (.ref f6) = true)
    (a7 : PySem.W.nsIn K mainGlobals "law" = some (some (.ref f7))) (l7 : K.lookup f7 = some ⟨oc7, od7, .func (PySem.W.fnOf "law" "law" (defArgs st_law) (defBody st_law) (defScope st_law) .none kV7 dc7 pm7 an7 cd7 ct7), sl7⟩) (c7 : PySem.W.codeIn K cd7 "law" = true) (k7 : PySem.W.keepIn K (.ref f7) = true)
    (z_abs : PySem.W.nsIn K mainGlobals "abs" = some none)
    (z_all : PySem.W.nsIn K mainGlobals "all" = some none)
    (z_bool : PySem.W.nsIn K mainGlobals "bool" = some none)
    (z_int : PySem.W.nsIn K mainGlobals "int" = some none)
    (z_isinstance : PySem.W.nsIn K mainGlobals "isinstance" = some none)
    (z_len : PySem.W.nsIn K mainGlobals "len" = some none)
    (z_list : PySem.W.nsIn K mainGlobals "list" = some none)
    (z_range : PySem.W.nsIn K mainGlobals "range" = some none)
    (z_sorted : PySem.W.nsIn K mainGlobals "sorted" = some none)
    (z_tuple : PySem.W.nsIn K mainGlobals "tuple" = some none)
    : ∃ fd : FuncData, (∀ (s : Shared) (v : Value), BindsTo s fd ⟨[v], []⟩ [("script", v)]) ∧ ∀ base : Heap, K.In base → base.Ns mainGlobals mg → FnOk l.prog w K mg base (L2.CX l.prog w) 3 fa fd ["script"] (spD K mg mLaw 1) := by
  have e := hfa.symm.trans (PySem.W.mg_of X G a7)
  cases e
  have F1 := fun_mk (st := st_put) l1 c1 k1
  have b1 := F1.binds (ps := ["bag", "moment", "message"]) fun _ _ _ _ _ _ us hl => match us, hl with | [_, _, _], _ => rfl
  have T1 : Tp K mg "put" st_put ["bag", "moment", "message"] := Tp.of F1 (PySem.W.mg_of X G a1) b1
  have F2 := fun_mk (st := st_without) l2 c2 k2
  have b2 := F2.binds (ps := ["bag", "k"]) fun _ _ _ _ _ _ us hl => match us, hl with | [_, _], _ => rfl
  have T2 : Tp K mg "without" st_without ["bag", "k"] := Tp.of F2 (PySem.W.mg_of X G a2) b2
  have F3 := fun_mk (st := st_first_rows) l3 c3 k3
  have b3 := F3.binds (ps := ["bag"]) fun _ _ _ _ _ _ us hl => match us, hl with | [_], _ => rfl
  have T3 : Tp K mg "first_rows" st_first_rows ["bag"] := Tp.of F3 (PySem.W.mg_of X G a3) b3
  have F4 := fun_mk (st := st_may_wait) l4 c4 k4
  have b4 := F4.binds (ps := ["bag", "reach", "moment"]) fun _ _ _ _ _ _ us hl => match us, hl with | [_, _, _], _ => rfl
  have T4 : Tp K mg "may_wait" st_may_wait ["bag", "reach", "moment"] := Tp.of F4 (PySem.W.mg_of X G a4) b4
  have F5 := fun_mk (st := st__law_next) l5 c5 k5
  have b5 := F5.binds (ps := ["tape", "many"]) fun _ _ _ _ _ _ us hl => match us, hl with | [_, _], _ => rfl
  have T5 : Tp K mg "_law_next" st__law_next ["tape", "many"] := Tp.of F5 (PySem.W.mg_of X G a5) b5
  have F6 := fun_mk (st := st__law_message) l6 c6 k6
  have b6 := F6.binds (ps := ["tape"]) fun _ _ _ _ _ _ us hl => match us, hl with | [_], _ => rfl
  have T6 : Tp K mg "_law_message" st__law_message ["tape"] := Tp.of F6 (PySem.W.mg_of X G a6) b6
  have F7 := fun_mk (st := st_law) l7 c7 k7
  have z : Zs mg := ⟨PySem.W.mg_none_of X G z_abs, PySem.W.mg_none_of X G z_all, PySem.W.mg_none_of X G z_bool, PySem.W.mg_none_of X G z_int, PySem.W.mg_none_of X G z_isinstance, PySem.W.mg_none_of X G z_len, PySem.W.mg_none_of X G z_list, PySem.W.mg_none_of X G z_range, PySem.W.mg_none_of X G z_sorted, PySem.W.mg_none_of X G z_tuple⟩
  refine ⟨PySem.W.fnOf "law" "law" (defArgs st_law) (defBody st_law) (defScope st_law) .none kV7 dc7 pm7 an7 cd7 ct7, fun s v => .of_eq rfl, fun base _ _ => ?_⟩
  have C1 : Cl l.prog w K mg base 1 "put" ["bag", "moment", "message"] mPut := ok_put z T1 
  have C2 : Cl l.prog w K mg base 1 "without" ["bag", "k"] mWo := ok_without z T2 
  have C3 : Cl l.prog w K mg base 1 "first_rows" ["bag"] mFr := ok_first_rows z T3 
  have C4 : Cl l.prog w K mg base 1 "may_wait" ["bag", "reach", "moment"] mMw := ok_may_wait z T4 
  have C5 : Cl l.prog w K mg base 1 "_law_next" ["tape", "many"] mNx := ok__law_next z T5 
  have C6 : Cl l.prog w K mg base 2 "_law_message" ["tape"] mMs := ok__law_message z T6 C5
  exact ok_law z F7 C5 C6 C1 C3 C4 C2
end Py
open PySem PySem.W PyProof.Rows
set_option maxHeartbeats 0 in
theorem PySem.Challenge.cw_callweir_k59_links_holds : PySem.Challenge.rw_callweir_k59_links.Holds := by
  w_on; o_law; k_head; (case hw => w_witness2)
  k_fill
  refine Py.walkD (l := PySem.Challenge.rw_callweir_k59_links) (n := 63) (k := 3) (x := "script") (m := Py.mLaw) rfl (by decide) rfl ⟨rfl, by decide, by decide⟩ (fun w h Y => PySem.W.kIn_of Y) (fun ns hn => Py.law_true ns hn) ?F
  case F =>
    intro w mg fa h KX G hmg
    refine' Py.all_mk KX G hmg ?a1 ?l1 ?c1 ?k1 ?a2 ?l2 ?c2 ?k2 ?a3 ?l3 ?c3 ?k3 ?a4 ?l4 ?c4 ?k4 ?a5 ?l5 ?c5 ?k5 ?a6 ?l6 ?c6 ?k6 ?a7 ?l7 ?c7 ?k7 ?z_abs ?z_all ?z_bool ?z_int ?z_isinstance ?z_len ?z_list ?z_range ?z_sorted ?z_tuple
    (case a1 => k_is); (case l1 => k_is); (case c1 => k_is); (case k1 => k_is); (case a2 => k_is); (case l2 => k_is); (case c2 => k_is); (case k2 => k_is); (case a3 => k_is); (case l3 => k_is); (case c3 => k_is); (case k3 => k_is); (case a4 => k_is); (case l4 => k_is); (case c4 => k_is); (case k4 => k_is); (case a5 => k_is); (case l5 => k_is); (case c5 => k_is); (case k5 => k_is); (case a6 => k_is); (case l6 => k_is); (case c6 => k_is); (case k6 => k_is); (case a7 => k_is); (case l7 => k_is); (case c7 => k_is); (case k7 => k_is); (case z_abs => k_is); (case z_all => k_is); (case z_bool => k_is); (case z_int => k_is); (case z_isinstance => k_is); (case z_len => k_is); (case z_list => k_is); (case z_range => k_is); (case z_sorted => k_is); (case z_tuple => k_is)
