import PyProof.Rows.All
import Wide.All
import OpenK.AllK
import Wide.FinOn
import HandS.Base
import HandS.Call
import HandS.List
import HandS.Comp
import HandS.Ends
import HandS.Words
import HandS.Defaults
import HandS.Codes
import HandS.Iter
import HandS.Style
import HandS.CallLocal
import HandS.IsInst
import HandS.TupMul
import HandS.TupAny
import HandS.Text
import HandS.More
import HandS.Head0
import HandS.Head1
import HandS.Head2
import HandS.HeadHook1
import HandS.HeadHook2
import HandS.HeadHook3
import KE.KStateDown
import HandS.WordsExc
import HandS.Dict
import HandS.Exc
import HandS.HeadEnd
import PySem.Challenge.RW_codenotary_k69_machine_counts
set_option Elab.async false
set_option linter.all false
set_option maxRecDepth 100000
namespace Ow
open PySem PySem.Spec PyProof.Rows L2

/-- data: never changed while it is data -/
inductive D where
  | non | bl (b : Bool) | int (i : Int) | str (x : Str) | ref (a : Addr) | ty (n : String)
  | tup (ds : List D) | lst (ds : List D) | scr (ns : List Int) | ins (C : Addr) (ns : List Str) (ds : List D)

/-- a tuple, a list of the written part -/
def KT (K : PySem.W.Frag) (a : Addr) (xs : List V) : Prop :=
  ∃ (o : Obj) (its : Array Value) (n : Nat), K.lookup a = some o ∧ o.cls = .type "tuple" ∧ o.data = .seq its n ∧ its.size ≤ sizeLine ∧ Vals xs its.toList
def KL (K : PySem.W.Frag) (a : Addr) (xs : List V) : Prop :=
  ∃ (o : Obj) (its : Array Value) (n : Nat), K.lookup a = some o ∧ o.cls = .type "list" ∧ o.dict = none ∧ o.data = .seq its n ∧ its.size ≤ sizeLine ∧ Vals xs its.toList

mutual
/-- v is the data d in the heap H, none of its objects one of S -/
def DV (K : PySem.W.Frag) (H : Hp) (S : Addr → Prop) : D → V → Prop
  | .non, v => v = .non
  | .bl b, v => v = .bl b
  | .int i, v => v = .int i
  | .str x, v => v = .str x
  | .ref a, v => v = .ref a
  | .ty n, v => v = .ty n
  | .tup ds, v => ∃ a xs, v = .ref a ∧ ((¬ S a ∧ Rd H a (.tup xs)) ∨ KT K a xs) ∧ DVs K H S ds xs
  | .lst ds, v => ∃ a xs, v = .ref a ∧ ¬ S a ∧ H a = some (.lst xs) ∧ DVs K H S ds xs
  | .scr ns, v => ∃ a, v = .ref a ∧ ((¬ S a ∧ Rd H a (.lst (ns.map V.int))) ∨ KL K a (ns.map V.int))
  | .ins C ns ds, v => ∃ a dx gs, v = .ref a ∧ ¬ S a ∧ H a = some (.ins C dx gs) ∧ gs.map (·.1) = ns ∧ DVs K H S ds (gs.map (·.2))
def DVs (K : PySem.W.Frag) (H : Hp) (S : Addr → Prop) : List D → List V → Prop
  | [], xs => xs = []
  | d :: ds, xs => ∃ v r, xs = v :: r ∧ DV K H S d v ∧ DVs K H S ds r
end

/-- what was tracked outside S stays; S' grows by new objects alone -/
structure Mv (S : Addr → Prop) (H : Hp) (S' : Addr → Prop) (H' : Hp) : Prop where
  keep : ∀ a u, ¬ S a → H a = some u → H' a = some u
  own : ∀ a, S' a → S a ∨ H a = none
theorem Mv.refl {S : Addr → Prop} {H : Hp} : Mv S H S H := ⟨fun _ _ _ h => h, fun _ h => .inl h⟩
theorem Mv.trans {S S1 S2 : Addr → Prop} {H H1 H2 : Hp} (a : Mv S H S1 H1) (b : Mv S1 H1 S2 H2) : Mv S H S2 H2 where
  keep := fun x u hs h => b.keep x u (fun h1 => by
    rcases a.own x h1 with q | q
    · exact hs q
    · rw [h] at q; cases q) (a.keep x u hs h)
  own := fun x h2 => by
    rcases b.own x h2 with q | q
    · exact a.own x q
    · by_cases hs : S x
      · exact .inl hs
      · refine .inr ?_
        cases e : H x with
        | none => rfl
        | some u => rw [a.keep x u hs e] at q; cases q
/-- all tracked is kept -/
abbrev Ex (H H' : Hp) : Prop := ∀ a o, H a = some o → H' a = some o
theorem Ex.new {H : Hp} {p : Addr} {o : HO} (h : H p = none) : Ex H (upd H p o) := fun a u e => by
  rw [upd_ne (ne_of_none e h)]; exact e
theorem Mv.ofEx {S : Addr → Prop} {H H' : Hp} (e : Ex H H') : Mv S H S H' := ⟨fun a u _ h => e a u h, fun _ h => .inl h⟩
theorem Mv.ex {S S' : Addr → Prop} {H H' H2 : Hp} (m : Mv S H S' H') (e : Ex H' H2) : Mv S H S' H2 := m.trans (.ofEx e)

section
variable {K : PySem.W.Frag} {H H' : Hp} {S S' : Addr → Prop}
theorem rd_mv (m : Mv S H S' H') {a : Addr} {u : HO} (hs : ¬ S a) (h : Rd H a u) : ¬ S' a ∧ Rd H' a u := by
  rcases h with h | ⟨o, h⟩
  · refine ⟨fun q => ?_, .inl (m.keep a _ hs h)⟩
    rcases m.own a q with z | z
    · exact hs z
    · rw [h] at z; cases z
  · refine ⟨fun q => ?_, .inr ⟨o, m.keep a _ hs h⟩⟩
    rcases m.own a q with z | z
    · exact hs z
    · rw [h] at z; cases z
mutual
theorem DV.mv (m : Mv S H S' H') : ∀ (d : D) (v : V), DV K H S d v → DV K H' S' d v
  | .non, _, h => h
  | .bl _, _, h => h
  | .int _, _, h => h
  | .str _, _, h => h
  | .ref _, _, h => h
  | .ty _, _, h => h
  | .tup ds, v, h => by
    unfold DV at h ⊢
    obtain ⟨a, xs, e, h1, h2⟩ := h
    refine ⟨a, xs, e, ?_, DVs.mv m ds xs h2⟩
    rcases h1 with ⟨hs, hr⟩ | hk
    · exact .inl (rd_mv m hs hr)
    · exact .inr hk
  | .lst ds, v, h => by
    unfold DV at h ⊢
    obtain ⟨a, xs, e, hs, h1, h2⟩ := h
    exact ⟨a, xs, e, (rd_mv m hs (.inl h1)).1, m.keep a _ hs h1, DVs.mv m ds xs h2⟩
  | .scr ns, v, h => by
    unfold DV at h ⊢
    obtain ⟨a, e, h1⟩ := h
    refine ⟨a, e, ?_⟩
    rcases h1 with ⟨hs, hr⟩ | hk
    · exact .inl (rd_mv m hs hr)
    · exact .inr hk
  | .ins C ns ds, v, h => by
    unfold DV at h ⊢
    obtain ⟨a, dx, gs, e, hs, h1, h2, h3⟩ := h
    obtain ⟨q1, q2⟩ := rd_mv m hs (.inl h1)
    exact ⟨a, dx, gs, e, q1, m.keep a _ hs h1, h2, DVs.mv m ds _ h3⟩
theorem DVs.mv (m : Mv S H S' H') : ∀ (ds : List D) (xs : List V), DVs K H S ds xs → DVs K H' S' ds xs
  | [], _, h => h
  | d :: ds, xs, h => by
    unfold DVs at h ⊢
    obtain ⟨v, r, e, h1, h2⟩ := h
    exact ⟨v, r, e, DV.mv m d v h1, DVs.mv m ds r h2⟩
end
theorem DVs.length : ∀ {ds : List D} {xs : List V}, DVs K H S ds xs → xs.length = ds.length
  | [], xs, h => by unfold DVs at h; rw [h]; rfl
  | d :: ds, xs, h => by
    unfold DVs at h
    obtain ⟨v, r, e, h1, h2⟩ := h
    rw [e, List.length_cons, List.length_cons, DVs.length h2]
theorem DVs.get : ∀ {ds : List D} {xs : List V} {i : Nat} {d : D}, DVs K H S ds xs → ds[i]? = some d → ∃ v, xs[i]? = some v ∧ DV K H S d v
  | [], xs, i, d, h, e => by simp at e
  | d0 :: ds, xs, 0, d, h, e => by
    unfold DVs at h
    obtain ⟨v, r, rfl, h1, h2⟩ := h
    simp at e; subst e
    exact ⟨v, rfl, h1⟩
  | d0 :: ds, xs, i + 1, d, h, e => by
    unfold DVs at h
    obtain ⟨v, r, rfl, h1, h2⟩ := h
    obtain ⟨u, q1, q2⟩ := DVs.get (i := i) h2 (by simpa using e)
    exact ⟨u, by simpa using q1, q2⟩
theorem DVs.get' {ds : List D} {xs : List V} {i : Nat} {v : V} (h : DVs K H S ds xs) (e : xs[i]? = some v) : ∃ d, ds[i]? = some d ∧ DV K H S d v := by
  have hl := h.length
  have hi : i < xs.length := (List.getElem?_eq_some_iff.mp e).1
  obtain ⟨u, q1, q2⟩ := DVs.get (i := i) (d := ds[i]'(by omega)) h (by simp)
  rw [e] at q1; cases q1
  exact ⟨_, by simp, q2⟩
theorem DVs.nil : DVs K H S [] [] := by unfold DVs; rfl
theorem DVs.cons {d : D} {ds : List D} {v : V} {xs : List V} (h : DV K H S d v) (t : DVs K H S ds xs) : DVs K H S (d :: ds) (v :: xs) := by
  unfold DVs; exact ⟨v, xs, rfl, h, t⟩
theorem DVs.append : ∀ {ds es : List D} {xs ys : List V}, DVs K H S ds xs → DVs K H S es ys → DVs K H S (ds ++ es) (xs ++ ys)
  | [], es, xs, ys, h, t => by unfold DVs at h; subst h; exact t
  | d :: ds, es, xs, ys, h, t => by
    unfold DVs at h
    obtain ⟨v, r, rfl, h1, h2⟩ := h
    exact DVs.cons h1 (DVs.append h2 t)
theorem DVs.set : ∀ {ds : List D} {xs : List V} (i : Nat) {d : D} {v : V}, DVs K H S ds xs → DV K H S d v → DVs K H S (ds.set i d) (xs.set i v)
  | [], xs, i, d, v, h, t => by unfold DVs at h; subst h; exact DVs.nil
  | d0 :: ds, xs, 0, d, v, h, t => by
    unfold DVs at h
    obtain ⟨v0, r, rfl, h1, h2⟩ := h
    exact DVs.cons t h2
  | d0 :: ds, xs, i + 1, d, v, h, t => by
    unfold DVs at h
    obtain ⟨v0, r, rfl, h1, h2⟩ := h
    exact DVs.cons h1 (DVs.set i h2 t)
theorem DVs.take : ∀ {ds : List D} {xs : List V} (n : Nat), DVs K H S ds xs → DVs K H S (ds.take n) (xs.take n)
  | ds, xs, 0, h => DVs.nil
  | [], xs, n + 1, h => by unfold DVs at h; subst h; exact DVs.nil
  | d :: ds, xs, n + 1, h => by
    unfold DVs at h
    obtain ⟨v, r, rfl, h1, h2⟩ := h
    exact DVs.cons h1 (DVs.take n h2)
theorem DVs.drop : ∀ {ds : List D} {xs : List V} (n : Nat), DVs K H S ds xs → DVs K H S (ds.drop n) (xs.drop n)
  | ds, xs, 0, h => h
  | [], xs, n + 1, h => by unfold DVs at h; subst h; exact DVs.nil
  | d :: ds, xs, n + 1, h => by
    unfold DVs at h
    obtain ⟨v, r, rfl, h1, h2⟩ := h
    exact DVs.drop n h2
/-- ints -/
theorem DVs.ints : ∀ (ns : List Int), DVs K H S (ns.map D.int) (ns.map V.int)
  | [] => DVs.nil
  | n :: r => DVs.cons (by unfold DV; rfl) (DVs.ints r)
theorem DVs.of_ints : ∀ {ns : List Int} {xs : List V}, DVs K H S (ns.map D.int) xs → xs = ns.map V.int
  | [], xs, h => by unfold DVs at h; exact h
  | n :: r, xs, h => by
    simp only [List.map_cons] at h
    unfold DVs at h
    obtain ⟨v, r', rfl, h1, h2⟩ := h
    unfold DV at h1
    rw [h1, DVs.of_ints h2]; rfl
theorem DVs.of_bls : ∀ {ns : List Bool} {xs : List V}, DVs K H S (ns.map D.bl) xs → xs = ns.map V.bl
  | [], xs, h => by unfold DVs at h; exact h
  | n :: r, xs, h => by
    simp only [List.map_cons] at h
    unfold DVs at h
    obtain ⟨v, r', rfl, h1, h2⟩ := h
    unfold DV at h1
    rw [h1, DVs.of_bls h2]; rfl
end
theorem dv_int {K : PySem.W.Frag} {H : Hp} {S : Addr → Prop} {i : Int} {v : V} (h : DV K H S (.int i) v) : v = .int i := by unfold DV at h; exact h
theorem dv_bl {K : PySem.W.Frag} {H : Hp} {S : Addr → Prop} {i : Bool} {v : V} (h : DV K H S (.bl i) v) : v = .bl i := by unfold DV at h; exact h
theorem dv_str {K : PySem.W.Frag} {H : Hp} {S : Addr → Prop} {i : Str} {v : V} (h : DV K H S (.str i) v) : v = .str i := by unfold DV at h; exact h
theorem dv_ref {K : PySem.W.Frag} {H : Hp} {S : Addr → Prop} {i : Addr} {v : V} (h : DV K H S (.ref i) v) : v = .ref i := by unfold DV at h; exact h
theorem dv_non {K : PySem.W.Frag} {H : Hp} {S : Addr → Prop} {v : V} (h : DV K H S .non v) : v = .non := by unfold DV at h; exact h
theorem dv_tup {K : PySem.W.Frag} {H : Hp} {S : Addr → Prop} {ds : List D} {v : V} (h : DV K H S (.tup ds) v) : ∃ a xs, v = .ref a ∧ SqT K H a xs ∧ DVs K H S ds xs := by
  unfold DV at h
  obtain ⟨a, xs, e, h1, h2⟩ := h
  refine ⟨a, xs, e, ?_, h2⟩
  rcases h1 with ⟨_, h1⟩ | h1
  · exact .inl h1
  · exact .inr h1
theorem dv_lst {K : PySem.W.Frag} {H : Hp} {S : Addr → Prop} {ds : List D} {v : V} (h : DV K H S (.lst ds) v) : ∃ a xs, v = .ref a ∧ H a = some (.lst xs) ∧ DVs K H S ds xs := by
  unfold DV at h
  obtain ⟨a, xs, e, _, h1, h2⟩ := h
  exact ⟨a, xs, e, h1, h2⟩
theorem dv_scr {K : PySem.W.Frag} {H : Hp} {S : Addr → Prop} {ns : List Int} {v : V} (h : DV K H S (.scr ns) v) : ∃ a, v = .ref a ∧ SqL K H a (ns.map V.int) := by
  unfold DV at h
  obtain ⟨a, e, h1⟩ := h
  refine ⟨a, e, ?_⟩
  rcases h1 with ⟨_, h1⟩ | h1
  · exact .inl h1
  · exact .inr h1
theorem dv_newT {K : PySem.W.Frag} {H : Hp} {S : Addr → Prop} {ds : List D} {xs : List V} {p : Addr} (hp : H p = some (.tup xs)) (hs : ¬ S p) (h : DVs K H S ds xs) : DV K H S (.tup ds) (.ref p) := by
  unfold DV; exact ⟨p, xs, rfl, .inl ⟨hs, .inl hp⟩, h⟩
theorem dv_newL {K : PySem.W.Frag} {H : Hp} {S : Addr → Prop} {ds : List D} {xs : List V} {p : Addr} (hp : H p = some (.lst xs)) (hs : ¬ S p) (h : DVs K H S ds xs) : DV K H S (.lst ds) (.ref p) := by
  unfold DV; exact ⟨p, xs, rfl, hs, hp, h⟩

inductive O where
  | dat (d : D) | lst (a : Addr) (ds : List D) | ins (a : Addr) (C : Addr) (ns : List Str) (os : List O)
mutual
/-- the tree's own objects -/
def adr : O → List Addr
  | .dat _ => []
  | .lst a _ => [a]
  | .ins a _ _ os => a :: adrs os
def adrs : List O → List Addr
  | [] => []
  | o :: os => adr o ++ adrs os
end
mutual
/-- v is the root of the owned tree o -/
def OV (K : PySem.W.Frag) (H : Hp) (S : Addr → Prop) : O → V → Prop
  | .dat d, v => DV K H S d v
  | .lst a ds, v => v = .ref a ∧ ∃ xs, H a = some (.lst xs) ∧ DVs K H S ds xs
  | .ins a C ns os, v => v = .ref a ∧ ∃ dx gs, H a = some (.ins C dx gs) ∧ gs.map (·.1) = ns ∧ OVs K H S os (gs.map (·.2))
def OVs (K : PySem.W.Frag) (H : Hp) (S : Addr → Prop) : List O → List V → Prop
  | [], xs => xs = []
  | o :: os, xs => ∃ v r, xs = v :: r ∧ OV K H S o v ∧ OVs K H S os r
end
section
variable {K : PySem.W.Frag} {H H' : Hp} {S S' : Addr → Prop}
mutual
theorem OV.mv (m : Mv S H S' H') : ∀ (o : O) (v : V), (∀ a ∈ adr o, ∀ u, H a = some u → H' a = some u) → OV K H S o v → OV K H' S' o v
  | .dat d, v, _, h => by
    unfold OV at h ⊢
    exact h.mv m
  | .lst a ds, v, k, h => by
    unfold OV at h ⊢
    obtain ⟨e, xs, h1, h2⟩ := h
    exact ⟨e, xs, k a (by unfold adr; exact List.mem_cons_self) _ h1, h2.mv m⟩
  | .ins a C ns os, v, k, h => by
    unfold OV at h ⊢
    obtain ⟨e, dx, gs, h1, h2, h3⟩ := h
    exact ⟨e, dx, gs, k a (by unfold adr; exact List.mem_cons_self) _ h1, h2, OVs.mv m os _ (fun b hb => k b (by unfold adr; exact List.mem_cons_of_mem _ hb)) h3⟩
theorem OVs.mv (m : Mv S H S' H') : ∀ (os : List O) (xs : List V), (∀ a ∈ adrs os, ∀ u, H a = some u → H' a = some u) → OVs K H S os xs → OVs K H' S' os xs
  | [], _, _, h => h
  | o :: os, xs, k, h => by
    unfold OVs at h ⊢
    obtain ⟨v, r, e, h1, h2⟩ := h
    exact ⟨v, r, e, OV.mv m o v (fun a ha => k a (by unfold adrs; exact List.mem_append_left _ ha)) h1, OVs.mv m os r (fun a ha => k a (by unfold adrs; exact List.mem_append_right _ ha)) h2⟩
end
mutual
theorem OV.there : ∀ {o : O} {v : V}, OV K H S o v → ∀ a ∈ adr o, ∃ u, H a = some u
  | .dat d, v, h, a, ha => by
    unfold adr at ha; cases ha
  | .lst b ds, v, h, a, ha => by
    unfold OV at h
    obtain ⟨e, xs, h1, h2⟩ := h
    unfold adr at ha
    have : a = b := by simpa using ha
    subst this
    exact ⟨_, h1⟩
  | .ins b C ns os, v, h, a, ha => by
    unfold OV at h
    obtain ⟨e, dx, gs, h1, h2, h3⟩ := h
    unfold adr at ha
    rcases List.mem_cons.mp ha with q | q
    · subst q; exact ⟨_, h1⟩
    · exact OVs.there h3 a q
theorem OVs.there : ∀ {os : List O} {xs : List V}, OVs K H S os xs → ∀ a ∈ adrs os, ∃ u, H a = some u
  | [], xs, h, a, ha => by
    unfold adrs at ha; cases ha
  | o :: os, xs, h, a, ha => by
    unfold OVs at h
    obtain ⟨v, r, e, h1, h2⟩ := h
    unfold adrs at ha
    rcases List.mem_append.mp ha with q | q
    · exact OV.there h1 a q
    · exact OVs.there h2 a q
end
theorem OVs.length : ∀ {os : List O} {xs : List V}, OVs K H S os xs → xs.length = os.length
  | [], xs, h => by unfold OVs at h; rw [h]; rfl
  | o :: os, xs, h => by
    unfold OVs at h
    obtain ⟨v, r, e, h1, h2⟩ := h
    rw [e, List.length_cons, List.length_cons, OVs.length h2]
end
/-- the root's address -/
def root : O → Option Addr
  | .dat _ => none
  | .lst a _ => some a
  | .ins a _ _ _ => some a
theorem OV.root {K : PySem.W.Frag} {H : Hp} {S : Addr → Prop} {o : O} {v : V} {a : Addr} (h : OV K H S o v) (e : root o = some a) : v = .ref a := by
  cases o with
  | dat d => cases e
  | lst b ds => unfold OV at h; cases e; exact h.1
  | ins b C ns os => unfold OV at h; cases e; exact h.1
abbrev En := List (Option O)
/-- a frame: the heap at the entry, what is owned outside, what was handed in -/
structure Fm where
  H : Hp
  S : Addr → Prop
  B : Addr → Prop
def own (ρ : En) : Addr → Prop := fun a => ∃ (i : Nat) (o : O), ρ[i]? = some (some o) ∧ a ∈ adr o
def SS (F : Fm) (ρ : En) : Addr → Prop := fun a => F.S a ∨ own ρ a
structure Rl (K : PySem.W.Frag) (F : Fm) (ρ : En) (σ : L2.St) (H : Hp) : Prop where
  len : ρ.length = σ.length
  slot : ∀ (i : Nat) (o : O), ρ[i]? = some (some o) → ∃ v, σ[i]? = some (some v) ∧ OV K H (SS F ρ) o v
  nd : ∀ (i : Nat) (o : O), ρ[i]? = some (some o) → (adr o).Nodup
  dj : ∀ (i j : Nat) (o o' : O) (a : Addr), ρ[i]? = some (some o) → ρ[j]? = some (some o') → a ∈ adr o → a ∈ adr o' → i = j
  ow : ∀ a, own ρ a → ¬ F.S a
  bo : ∀ a, own ρ a → F.B a ∨ F.H a = none
  fr : ∀ a o, ¬ F.B a → F.H a = some o → H a = some o
  sd : ∀ a, F.S a → (∃ o, F.H a = some o) ∧ ¬ F.B a
section
variable {K : PySem.W.Frag} {F : Fm} {ρ : En} {σ : L2.St} {H H' : Hp}
theorem Rl.dom (R : Rl K F ρ σ H) {a : Addr} (h : SS F ρ a) : ∃ o, H a = some o := by
  rcases h with h | ⟨i, o, e, h⟩
  · obtain ⟨⟨o, e⟩, nb⟩ := R.sd a h
    exact ⟨o, R.fr a o nb e⟩
  · obtain ⟨v, _, h2⟩ := R.slot i o e
    exact h2.there a h
theorem Rl.new (R : Rl K F ρ σ H) {p : Addr} (h : H p = none) : ¬ SS F ρ p := fun q => by
  obtain ⟨o, e⟩ := R.dom q
  rw [h] at e; cases e
/-- every tracked object is kept -/
theorem Rl.ex (R : Rl K F ρ σ H) (e : Ex H H') : Rl K F ρ σ H' where
  len := R.len
  slot := fun i o h => by
    obtain ⟨v, h1, h2⟩ := R.slot i o h
    exact ⟨v, h1, h2.mv (.ofEx e) _ _ (fun a _ u h => e a u h)⟩
  nd := R.nd
  dj := R.dj
  ow := R.ow
  bo := R.bo
  fr := fun a o nb q => e a o (R.fr a o nb q)
  sd := R.sd
theorem Rl.dat (R : Rl K F ρ σ H) {i : Nat} {d : D} (h : ρ[i]? = some (some (.dat d))) : ∃ v, σ[i]? = some (some v) ∧ DV K H (SS F ρ) d v := by
  obtain ⟨v, h1, h2⟩ := R.slot i _ h
  unfold OV at h2
  exact ⟨v, h1, h2⟩
/-- THE STEP: slot i gets a tree: of the old tree's objects at i and new ones; the heap changes at them alone -/
theorem Rl.step (R : Rl K F ρ σ H) {i : Nat} {o : O} {v : V} (hi : i < ρ.length) (m : Mv (SS F ρ) H (SS F (ρ.set i (some o))) H')
    (hA : ∀ a ∈ adr o, (∃ o0, ρ[i]? = some (some o0) ∧ a ∈ adr o0) ∨ H a = none) (nd : (adr o).Nodup)
    (k : ∀ a u, ¬ (∃ o0, ρ[i]? = some (some o0) ∧ a ∈ adr o0) → H a = some u → H' a = some u) (h : OV K H' (SS F (ρ.set i (some o))) o v) :
    Rl K F (ρ.set i (some o)) (σ.set i (some v)) H' := by
  have get : ∀ (j : Nat) (o' : O), (ρ.set i (some o))[j]? = some (some o') → (j = i ∧ o' = o) ∨ (j ≠ i ∧ ρ[j]? = some (some o')) := fun j o' e => by
    by_cases q : j = i
    · subst q
      rw [List.getElem?_set_self hi] at e
      cases e
      exact .inl ⟨rfl, rfl⟩
    · rw [List.getElem?_set_ne (Ne.symm q)] at e
      exact .inr ⟨q, e⟩
  have out : ∀ (j : Nat) (o' : O) (a : Addr), ρ[j]? = some (some o') → a ∈ adr o' → ∃ u, H a = some u := fun j o' a e ha => R.dom (.inr ⟨j, o', e, ha⟩)
  refine ⟨by rw [List.length_set, List.length_set, R.len], fun j o' e => ?_, fun j o' e => ?_, fun j l o1 o2 a e1 e2 h1 h2 => ?_, fun a ⟨j, o', e, h1⟩ hs => ?_, fun a ⟨j, o', e, h1⟩ => ?_, fun a u nb e => ?_, R.sd⟩
  · rcases get j o' e with ⟨rfl, rfl⟩ | ⟨q, e⟩
    · exact ⟨v, List.getElem?_set_self (by rw [← R.len]; exact hi), h⟩
    · obtain ⟨v', h1, h2⟩ := R.slot j o' e
      refine ⟨v', by rw [List.getElem?_set_ne (Ne.symm q)]; exact h1, h2.mv m _ _ (fun a ha u hu => k a u (fun ⟨o0, e0, z⟩ => q (R.dj j i o' o0 a e e0 ha z)) hu)⟩
  · rcases get j o' e with ⟨rfl, rfl⟩ | ⟨q, e⟩
    · exact nd
    · exact R.nd j o' e
  · rcases get j o1 e1 with ⟨rfl, rfl⟩ | ⟨q, f1⟩
    · rcases get l o2 e2 with ⟨rfl, rfl⟩ | ⟨z, f2⟩
      · rfl
      · rcases hA a h1 with ⟨o0, e0, y⟩ | y
        · exact R.dj _ _ o0 o2 a e0 f2 y h2
        · obtain ⟨u, e⟩ := out l o2 a f2 h2
          rw [y] at e; cases e
    · rcases get l o2 e2 with ⟨rfl, rfl⟩ | ⟨z, f2⟩
      · rcases hA a h2 with ⟨o0, e0, y⟩ | y
        · exact R.dj _ _ o1 o0 a f1 e0 h1 y
        · obtain ⟨u, e⟩ := out j o1 a f1 h1
          rw [y] at e; cases e
      · exact R.dj j l o1 o2 a f1 f2 h1 h2
  · rcases get j o' e with ⟨rfl, rfl⟩ | ⟨q, e⟩
    · rcases hA a h1 with ⟨o0, e0, y⟩ | y
      · exact R.ow a ⟨j, o0, e0, y⟩ hs
      · obtain ⟨u, e⟩ := R.dom (.inl hs)
        rw [y] at e; cases e
    · exact R.ow a ⟨j, o', e, h1⟩ hs
  · rcases get j o' e with ⟨rfl, rfl⟩ | ⟨q, e⟩
    · rcases hA a h1 with ⟨o0, e0, y⟩ | y
      · exact R.bo a ⟨j, o0, e0, y⟩
      · by_cases b : F.B a
        · exact .inl b
        · refine .inr ?_
          cases e : F.H a with
          | none => rfl
          | some u => rw [R.fr a u b e] at y; cases y
    · exact R.bo a ⟨j, o', e, h1⟩
  · have e1 := R.fr a u nb e
    refine k a u (fun ⟨o0, e0, z⟩ => ?_) e1
    rcases R.bo a ⟨i, o0, e0, z⟩ with y | y
    · exact nb y
    · rw [e] at y; cases y
theorem own_set_dat {i : Nat} {d : D} {a : Addr} (h : own (ρ.set i (some (.dat d))) a) : own ρ a := by
  obtain ⟨j, o, e, h⟩ := h
  by_cases q : j = i
  · subst q
    by_cases hi : j < ρ.length
    · rw [List.getElem?_set_self hi] at e
      cases e
      unfold adr at h; cases h
    · rw [List.getElem?_eq_none (by rw [List.length_set]; omega)] at e; cases e
  · rw [List.getElem?_set_ne (Ne.symm q)] at e
    exact ⟨j, o, e, h⟩
/-- slot i gets data -/
theorem Rl.set (R : Rl K F ρ σ H) {i : Nat} {d : D} {v : V} (hi : i < ρ.length) (h : DV K H (SS F ρ) d v) : Rl K F (ρ.set i (some (.dat d))) (σ.set i (some v)) H ∧ Mv (SS F ρ) H (SS F (ρ.set i (some (.dat d)))) H := by
  have m : Mv (SS F ρ) H (SS F (ρ.set i (some (.dat d)))) H := ⟨fun _ _ _ h => h, fun a h => by
    rcases h with h | h
    · exact .inl (.inl h)
    · exact .inl (.inr (own_set_dat h))⟩
  exact ⟨R.step hi m (fun a h => by unfold adr at h; cases h) (by unfold adr; exact List.nodup_nil) (fun a u _ h => h) (by unfold OV; exact h.mv m), m⟩
end
end Ow
namespace Ow
open PySem PySem.Spec PyProof.Rows L2

mutual
def fz : O → D
  | .dat d => d
  | .lst _ ds => .lst ds
  | .ins _ C ns os => .ins C ns (fzs os)
def fzs : List O → List D
  | [] => []
  | o :: os => fz o :: fzs os
end
section
variable {K : PySem.W.Frag} {H : Hp} {S S' : Addr → Prop}
mutual
theorem OV.fz (m : Mv S H S' H) : ∀ (o : O) (v : V), (∀ a ∈ adr o, ¬ S' a) → OV K H S o v → DV K H S' (fz o) v
  | .dat d, v, _, h => by
    unfold OV at h
    unfold Ow.fz
    exact h.mv m
  | .lst a ds, v, k, h => by
    unfold OV at h
    obtain ⟨e, xs, h1, h2⟩ := h
    unfold Ow.fz DV
    exact ⟨a, xs, e, k a (by unfold adr; exact List.mem_cons_self), h1, h2.mv m⟩
  | .ins a C ns os, v, k, h => by
    unfold OV at h
    obtain ⟨e, dx, gs, h1, h2, h3⟩ := h
    unfold Ow.fz DV
    exact ⟨a, dx, gs, e, k a (by unfold adr; exact List.mem_cons_self), h1, h2, OVs.fz m os _ (fun b hb => k b (by unfold adr; exact List.mem_cons_of_mem _ hb)) h3⟩
theorem OVs.fz (m : Mv S H S' H) : ∀ (os : List O) (xs : List V), (∀ a ∈ adrs os, ¬ S' a) → OVs K H S os xs → DVs K H S' (fzs os) xs
  | [], xs, _, h => by
    unfold OVs at h
    unfold Ow.fzs DVs
    exact h
  | o :: os, xs, k, h => by
    unfold OVs at h
    obtain ⟨v, r, e, h1, h2⟩ := h
    unfold Ow.fzs DVs
    exact ⟨v, r, e, OV.fz m o v (fun a ha => k a (by unfold adrs; exact List.mem_append_left _ ha)) h1, OVs.fz m os r (fun a ha => k a (by unfold adrs; exact List.mem_append_right _ ha)) h2⟩
end
end

theorem adr_dat {d : D} : adr (.dat d) = [] := by unfold adr; rfl
theorem adr_lst {a : Addr} {ds : List D} : adr (.lst a ds) = [a] := by unfold adr; rfl
theorem adr_ins {a C : Addr} {ns : List Str} {os : List O} : adr (.ins a C ns os) = a :: adrs os := by rw [adr]
theorem adrs_nil : adrs [] = [] := by rw [adrs]
theorem adrs_cons {o : O} {os : List O} : adrs (o :: os) = adr o ++ adrs os := by rw [adrs]
section
variable {K : PySem.W.Frag} {F : Fm} {ρ ρ2 : En} {σ σ2 : L2.St} {H H' : Hp}
theorem Rl.renew (R : Rl K F ρ σ H) (hl : ρ2.length = σ2.length)
    (hOV : ∀ (j : Nat) (o : O), ρ2[j]? = some (some o) → ∃ v, σ2[j]? = some (some v) ∧ OV K H' (SS F ρ2) o v)
    (hnd : ∀ (j : Nat) (o : O), ρ2[j]? = some (some o) → (adr o).Nodup)
    (hdj : ∀ (i j : Nat) (o o' : O) (a : Addr), ρ2[i]? = some (some o) → ρ2[j]? = some (some o') → a ∈ adr o → a ∈ adr o' → i = j)
    (hf : ∀ a, own ρ2 a → own ρ a ∨ H a = none) (k : ∀ a u, ¬ own ρ a → H a = some u → H' a = some u) : Rl K F ρ2 σ2 H' := by
  refine ⟨hl, hOV, hnd, hdj, fun a h hs => ?_, fun a h => ?_, fun a u nb e => ?_, R.sd⟩
  · rcases hf a h with y | y
    · exact R.ow a y hs
    · obtain ⟨u, e⟩ := R.dom (.inl hs)
      rw [y] at e; cases e
  · rcases hf a h with y | y
    · exact R.bo a y
    · by_cases b : F.B a
      · exact .inl b
      · refine .inr ?_
        cases e : F.H a with
        | none => rfl
        | some u => rw [R.fr a u b e] at y; cases y
  · refine k a u (fun z => ?_) (R.fr a u nb e)
    rcases R.bo a z with y | y
    · exact nb y
    · rw [e] at y; cases y
theorem mv_own (h : ∀ a, own ρ2 a → own ρ a ∨ H a = none) (k : ∀ a u, ¬ SS F ρ a → H a = some u → H' a = some u) : Mv (SS F ρ) H (SS F ρ2) H' := ⟨k, fun a q => by
  rcases q with q | q
  · exact .inl (.inl q)
  · rcases h a q with z | z
    · exact .inl (.inr z)
    · exact .inr z⟩
/-- the same trees elsewhere -/
theorem Rl.remap (R : Rl K F ρ σ H) (hl : ρ2.length = σ2.length) (g : Nat → Nat) (hg : ∀ (i : Nat) (o : O), ρ2[i]? = some (some o) → ρ[g i]? = some (some o) ∧ σ2[i]? = σ[g i]?)
    (inj : ∀ (i j : Nat) (o o' : O), ρ2[i]? = some (some o) → ρ2[j]? = some (some o') → g i = g j → i = j) : Rl K F ρ2 σ2 H ∧ Mv (SS F ρ) H (SS F ρ2) H := by
  have ho : ∀ a, own ρ2 a → own ρ a ∨ H a = none := fun a ⟨i, o, e, h⟩ => .inl ⟨g i, o, (hg i o e).1, h⟩
  have m : Mv (SS F ρ) H (SS F ρ2) H := mv_own ho fun _ _ _ h => h
  refine ⟨R.renew hl (fun j o e => ?_) (fun j o e => R.nd _ o (hg j o e).1) (fun i j o o' a e e' h h' => inj i j o o' e e' (R.dj _ _ o o' a (hg i o e).1 (hg j o' e').1 h h')) ho fun _ _ _ h => h, m⟩
  obtain ⟨v, h1, h2⟩ := R.slot _ o (hg j o e).1
  exact ⟨v, by rw [(hg j o e).2]; exact h1, h2.mv m _ _ fun a _ u h => h⟩
/-- data on top -/
theorem Rl.push (R : Rl K F ρ σ H) {d : D} {v : V} (h : DV K H (SS F ρ) d v) : Rl K F (ρ ++ [some (.dat d)]) (σ ++ [some v]) H ∧ Mv (SS F ρ) H (SS F (ρ ++ [some (.dat d)])) H := by
  have get : ∀ (j : Nat) (o : O), (ρ ++ [some (O.dat d)])[j]? = some (some o) → (ρ[j]? = some (some o) ∧ (σ ++ [some v])[j]? = σ[j]?) ∨ (j = ρ.length ∧ o = .dat d) := fun j o e => by
    by_cases q : j < ρ.length
    · rw [List.getElem?_append_left q] at e
      exact .inl ⟨e, List.getElem?_append_left (by rw [← R.len]; exact q)⟩
    · rw [List.getElem?_append_right (by omega)] at e
      have hj : j - ρ.length = 0 := by
        cases hz : j - ρ.length with
        | zero => rfl
        | succ n => rw [hz] at e; simp at e
      rw [hj] at e
      have eo : O.dat d = o := by simpa using e
      exact .inr ⟨by omega, eo.symm⟩
  have ho : ∀ a, own (ρ ++ [some (O.dat d)]) a → own ρ a ∨ H a = none := fun a ⟨i, o, e, h⟩ => by
    rcases get i o e with ⟨q, _⟩ | ⟨_, rfl⟩
    · exact .inl ⟨i, o, q, h⟩
    · unfold adr at h; cases h
  have m : Mv (SS F ρ) H (SS F (ρ ++ [some (.dat d)])) H := mv_own ho fun _ _ _ h => h
  refine ⟨R.renew (by simp [R.len]) (fun j o e => ?_) (fun j o e => ?_) (fun i j o o' a e e' h h' => ?_) ho fun _ _ _ h => h, m⟩
  · rcases get j o e with ⟨q, z⟩ | ⟨q, rfl⟩
    · obtain ⟨v', h1, h2⟩ := R.slot j o q
      exact ⟨v', by rw [z]; exact h1, h2.mv m _ _ fun a _ u h => h⟩
    · refine ⟨v, ?_, by unfold OV; exact h.mv m⟩
      rw [q, R.len]
      simp
  · rcases get j o e with ⟨q, z⟩ | ⟨q, rfl⟩
    · exact R.nd j o q
    · unfold adr; exact List.nodup_nil
  · rcases get i o e with ⟨q, z⟩ | ⟨q, rfl⟩
    · rcases get j o' e' with ⟨q', z'⟩ | ⟨q', rfl⟩
      · exact R.dj i j o o' a q q' h h'
      · unfold adr at h'; cases h'
    · unfold adr at h; cases h
/-- off the top: the tree there is data from then on -/
theorem Rl.pop {o : O} {v : V} (R : Rl K F (ρ ++ [some o]) (σ ++ [some v]) H) : Rl K F ρ σ H ∧ Mv (SS F (ρ ++ [some o])) H (SS F ρ) H ∧ DV K H (SS F ρ) (fz o) v := by
  have hl : ρ.length = σ.length := by
    have := R.len
    simpa using this
  obtain ⟨R1, m⟩ := R.remap (ρ2 := ρ) (σ2 := σ) hl id (fun i o' e => by
    have hi : i < ρ.length := (List.getElem?_eq_some_iff.mp e).1
    exact ⟨by show (ρ ++ [some o])[i]? = _; rw [List.getElem?_append_left hi]; exact e, by show σ[i]? = (σ ++ [some v])[i]?; rw [List.getElem?_append_left (by omega)]⟩) (fun i j _ _ _ _ h => h)
  refine ⟨R1, m, ?_⟩
  have et : (ρ ++ [some o])[ρ.length]? = some (some o) := by simp
  obtain ⟨v', h1, h2⟩ := R.slot ρ.length o et
  have ev : v' = v := by
    rw [hl] at h1
    have h1' : (some (some v) : Option (Option V)) = some (some v') := by simpa using h1
    injection h1' with h1'
    injection h1' with h1'
    exact h1'.symm
  subst ev
  refine h2.fz m _ _ (fun a ha hs => ?_)
  rcases hs with hs | ⟨i, o', e, h⟩
  · exact R.ow a ⟨_, o, et, ha⟩ hs
  · have hi : i < ρ.length := (List.getElem?_eq_some_iff.mp e).1
    have := R.dj i ρ.length o' o a (by rw [List.getElem?_append_left hi]; exact e) et h ha
    omega
/-- from the top into a slot -/
theorem Rl.into {o : O} {v : V} {i : Nat} (R : Rl K F (ρ ++ [some o]) (σ ++ [some v]) H) (hi : i < ρ.length) : Rl K F (ρ.set i (some o)) (σ.set i (some v)) H ∧ Mv (SS F (ρ ++ [some o])) H (SS F (ρ.set i (some o))) H := by
  have hl : ρ.length = σ.length := by
    have := R.len
    simpa using this
  refine R.remap (by simp [hl]) (fun j => if j = i then ρ.length else j) (fun j o' e => ?_) (fun j l o1 o2 e1 e2 h => ?_)
  · by_cases q : j = i
    · subst q
      rw [List.getElem?_set_self hi] at e
      cases e
      rw [if_pos rfl, List.getElem?_set_self (by omega)]
      refine ⟨by simp, ?_⟩
      rw [hl]; simp
    · rw [List.getElem?_set_ne (Ne.symm q)] at e
      have hj : j < ρ.length := (List.getElem?_eq_some_iff.mp e).1
      rw [if_neg q, List.getElem?_set_ne (Ne.symm q), List.getElem?_append_left hj, List.getElem?_append_left (by omega)]
      exact ⟨e, rfl⟩
  · have lt : ∀ (j : Nat) (o : O), (ρ.set i (some o))[j]? = some (some o) → j < ρ.length := fun j o e => by
      have := (List.getElem?_eq_some_iff.mp e).1
      simpa using this
    have l1 : j < ρ.length := by
      have := (List.getElem?_eq_some_iff.mp e1).1
      simpa using this
    have l2 : l < ρ.length := by
      have := (List.getElem?_eq_some_iff.mp e2).1
      simpa using this
    by_cases q : j = i
    · by_cases z : l = i
      · rw [q, z]
      · simp only [if_pos q, if_neg z] at h; omega
    · by_cases z : l = i
      · simp only [if_neg q, if_pos z] at h; omega
      · simp only [if_neg q, if_neg z] at h; exact h
end

def fld : List Str → List O → Str → Option O
  | n :: ns, o :: os, f => if n = f then some o else fld ns os f
  | _, _, _ => none
def fput : List Str → List O → Str → O → List O
  | n :: ns, o :: os, f, z => if n = f then z :: os else o :: fput ns os f z
  | _, os, _, _ => os
def sub : O → List Str → Option O
  | o, [] => some o
  | .ins _ _ ns os, f :: p => match fld ns os f with
    | some o => sub o p
    | none => none
  | _, _ :: _ => none
def putAt : O → List Str → O → O
  | _, [], z => z
  | .ins a C ns os, f :: p, z => match fld ns os f with
    | some o => .ins a C ns (fput ns os f (putAt o p z))
    | none => .ins a C ns os
  | o, _ :: _, _ => o
section
variable {K : PySem.W.Frag} {H H' : Hp} {S S' : Addr → Prop}
theorem fld_ov : ∀ {ns : List Str} {os : List O} {gs : List (Str × V)} {f : Str} {o : O}, OVs K H S os (gs.map (·.2)) → gs.map (·.1) = ns → fld ns os f = some o → ∃ v, gs.lookup f = some v ∧ OV K H S o v
  | [], os, gs, f, o, h, e, hf => by cases os <;> cases hf
  | n :: ns, [], gs, f, o, h, e, hf => by cases hf
  | n :: ns, o0 :: os, [], f, o, h, e, hf => by cases e
  | n :: ns, o0 :: os, (g, x) :: gs, f, o, h, e, hf => by
    unfold OVs at h
    obtain ⟨v, r, e1, h1, h2⟩ := h
    simp only [List.map_cons, List.cons.injEq] at e1 e
    obtain ⟨e1, e2⟩ := e1
    obtain ⟨e3, e4⟩ := e
    subst e1 e2 e3 e4
    unfold fld at hf
    by_cases q : g = f
    · rw [if_pos q] at hf
      cases hf
      exact ⟨x, by simp [List.lookup, q], h1⟩
    · rw [if_neg q] at hf
      obtain ⟨v, z1, z2⟩ := fld_ov h2 rfl hf
      refine ⟨v, ?_, z2⟩
      have hb : (f == g) = false := beq_eq_false_iff_ne.mpr fun z => q z.symm
      simp only [List.lookup, hb]
      exact z1
theorem fld_adr : ∀ {ns : List Str} {os : List O} {f : Str} {o : O}, fld ns os f = some o → ∀ a ∈ adr o, a ∈ adrs os
  | [], os, f, o, hf => by cases os <;> cases hf
  | n :: ns, [], f, o, hf => by cases hf
  | n :: ns, o0 :: os, f, o, hf => by
    unfold fld at hf
    by_cases q : n = f
    · rw [if_pos q] at hf
      cases hf
      intro a ha
      unfold adrs
      exact List.mem_append_left _ ha
    · rw [if_neg q] at hf
      intro a ha
      unfold adrs
      exact List.mem_append_right _ (fld_adr hf a ha)
theorem sub_adr : ∀ {p : List Str} {o o1 : O}, sub o p = some o1 → ∀ a ∈ adr o1, a ∈ adr o
  | [], o, o1, h, a, ha => by
    unfold sub at h
    cases h
    exact ha
  | f :: p, .dat d, o1, h, a, ha => by unfold sub at h; cases h
  | f :: p, .lst b ds, o1, h, a, ha => by unfold sub at h; cases h
  | f :: p, .ins b C ns os, o1, h, a, ha => by
    unfold sub at h
    cases e : fld ns os f with
    | none => rw [e] at h; cases h
    | some o2 =>
      rw [e] at h
      unfold adr
      exact List.mem_cons_of_mem _ (fld_adr e a (sub_adr h a ha))
/-- a field's tree replaced: the list's objects -/
theorem fput_adr : ∀ {ns : List Str} {os : List O} {f : Str} {o z : O}, fld ns os f = some o → ∃ A B, adrs os = A ++ (adr o ++ B) ∧ adrs (fput ns os f z) = A ++ (adr z ++ B)
  | [], os, f, o, z, hf => by cases os <;> cases hf
  | n :: ns, [], f, o, z, hf => by cases hf
  | n :: ns, o0 :: os, f, o, z, hf => by
    unfold fld at hf
    by_cases q : n = f
    · rw [if_pos q] at hf
      cases hf
      exact ⟨[], adrs os, adrs_cons, by unfold fput; rw [if_pos q]; exact adrs_cons⟩
    · rw [if_neg q] at hf
      obtain ⟨A, B, h1, h2⟩ := fput_adr (z := z) hf
      refine ⟨adr o0 ++ A, B, ?_, ?_⟩
      · rw [adrs_cons, h1, List.append_assoc]
      · unfold fput
        rw [if_neg q, adrs_cons, h2, List.append_assoc]
theorem put_adr : ∀ {p : List Str} {o o1 z : O}, sub o p = some o1 → ∃ A B, adr o = A ++ (adr o1 ++ B) ∧ adr (putAt o p z) = A ++ (adr z ++ B)
  | [], o, o1, z, h => by
    unfold sub at h
    cases h
    exact ⟨[], [], by simp, by unfold putAt; simp⟩
  | f :: p, .dat d, o1, z, h => by unfold sub at h; cases h
  | f :: p, .lst b ds, o1, z, h => by unfold sub at h; cases h
  | f :: p, .ins b C ns os, o1, z, h => by
    unfold sub at h
    cases e : fld ns os f with
    | none => rw [e] at h; cases h
    | some o2 =>
      rw [e] at h
      obtain ⟨A, B, h1, h2⟩ := put_adr (z := z) (show sub o2 p = some o1 from h)
      obtain ⟨A', B', g1, g2⟩ := fput_adr (z := putAt o2 p z) e
      refine ⟨b :: (A' ++ A), B ++ B', ?_, ?_⟩
      · rw [adr_ins, g1, h1]
        simp [List.append_assoc]
      · unfold putAt
        rw [e]
        show adr (.ins b C ns (fput ns os f (putAt o2 p z))) = _
        rw [adr_ins, g2, h2]
        simp [List.append_assoc]
theorem fput_ov : ∀ {ns : List Str} {os : List O} {xs : List V} {f : Str} {o z : O}, fld ns os f = some o → OVs K H S os xs → (∀ v, OV K H S o v → OV K H' S' z v) →
    (∀ o0 v, OV K H S o0 v → (∀ a ∈ adr o0, ∀ u, H a = some u → H' a = some u) → OV K H' S' o0 v) →
    (∀ a ∈ adrs os, a ∉ adr o → ∀ u, H a = some u → H' a = some u) → (adrs os).Nodup → OVs K H' S' (fput ns os f z) xs
  | [], os, xs, f, o, z, hf => by cases os <;> cases hf
  | n :: ns, [], xs, f, o, z, hf => by cases hf
  | n :: ns, o0 :: os, xs, f, o, z, hf => by
    intro h hz hk k nd
    unfold OVs at h
    obtain ⟨v, r, e1, h1, h2⟩ := h
    unfold fld at hf
    rw [adrs_cons] at nd k
    obtain ⟨n1, n2, n3⟩ := List.nodup_append.mp nd
    by_cases q : n = f
    · rw [if_pos q] at hf
      cases hf
      unfold fput
      rw [if_pos q]
      unfold OVs
      refine ⟨v, r, e1, hz v h1, ?_⟩
      -- the others stay
      have all : ∀ (os' : List O) (r' : List V), OVs K H S os' r' → (∀ a ∈ adrs os', a ∈ adrs os) → OVs K H' S' os' r' := by
        intro os'
        induction os' with
        | nil => intro r' h _; exact h
        | cons o1 os' ih =>
          intro r' h ha
          unfold OVs at h ⊢
          obtain ⟨v', r'', e', g1, g2⟩ := h
          rw [adrs_cons] at ha
          refine ⟨v', r'', e', hk o1 v' g1 (fun a haa u hu => ?_), ih r'' g2 (fun a haa => ha a (List.mem_append_right _ haa))⟩
          have hm := ha a (List.mem_append_left _ haa)
          exact k a (List.mem_append_right _ hm) (fun z' => n3 a z' a hm rfl) u hu
      exact all os r h2 (fun _ h => h)
    · rw [if_neg q] at hf
      unfold fput
      rw [if_neg q]
      unfold OVs
      refine ⟨v, r, e1, hk o0 v h1 (fun a ha u hu => k a (List.mem_append_left _ ha) (fun z' => n3 a ha a (fld_adr hf a z') rfl) u hu), fput_ov hf h2 hz hk (fun a ha na u hu => k a (List.mem_append_right _ ha) na u hu) n2⟩
/-- the tree with a part replaced -/
theorem OV.put (m : Mv S H S' H') : ∀ {p : List Str} {o o1 z : O} {v : V}, sub o p = some o1 → OV K H S o v → (∀ v, OV K H S o1 v → OV K H' S' z v) →
    (∀ a ∈ adr o, a ∉ adr o1 → ∀ u, H a = some u → H' a = some u) → (adr o).Nodup → OV K H' S' (putAt o p z) v
  | [], o, o1, z, v, h, hv, hz, k, nd => by
    unfold sub at h
    cases h
    unfold putAt
    exact hz v hv
  | f :: p, .dat d, o1, z, v, h, hv, hz, k, nd => by unfold sub at h; cases h
  | f :: p, .lst b ds, o1, z, v, h, hv, hz, k, nd => by unfold sub at h; cases h
  | f :: p, .ins b C ns os, o1, z, v, h, hv, hz, k, nd => by
    unfold sub at h
    cases e : fld ns os f with
    | none => rw [e] at h; cases h
    | some o2 =>
      rw [e] at h
      have h' : sub o2 p = some o1 := h
      unfold putAt
      rw [e]
      unfold OV at hv ⊢
      obtain ⟨ev, dx, gs, g1, g2, g3⟩ := hv
      have nd2 : (b :: adrs os).Nodup := by
        rw [← adr_ins]
        exact nd
      obtain ⟨nb, nd3⟩ := List.nodup_cons.mp nd2
      rw [adr_ins] at k
      refine ⟨ev, dx, gs, k b List.mem_cons_self (fun z' => nb (fld_adr e b (sub_adr h' b z'))) _ g1, g2, ?_⟩
      obtain ⟨A', B', q1, _⟩ := fput_adr (z := z) e
      have ndo : (adr o2).Nodup := by
        rw [q1] at nd3
        exact (List.nodup_append.mp (List.nodup_append.mp nd3).2.1).1
      refine fput_ov e g3 (fun v' hv' => OV.put m h' hv' hz (fun a ha na u hu => k a (List.mem_cons_of_mem _ (fld_adr e a ha)) na u hu) ndo) (fun o0 v' ho ha => ho.mv m _ _ ha) (fun a ha na u hu => k a (List.mem_cons_of_mem _ ha) (fun z' => na (sub_adr h' a z')) u hu) nd3
theorem put_root {p : List Str} {o o1 z : O} (h : sub o p = some o1) (e : root z = root o1) : root (putAt o p z) = root o := by
  cases p with
  | nil =>
    unfold sub at h
    cases h
    unfold putAt
    exact e
  | cons f p =>
    cases o with
    | dat d => unfold sub at h; cases h
    | lst b ds => unfold sub at h; cases h
    | ins b C ns os =>
      unfold putAt
      split <;> rfl
end
section
variable {K : PySem.W.Frag} {F : Fm} {ρ : En} {σ : L2.St} {H H' : Hp}
/-- a part of slot i's tree is replaced; what stands in the slot is the same -/
theorem Rl.write (R : Rl K F ρ σ H) {i : Nat} {p : List Str} {o o1 z : O} (e : ρ[i]? = some (some o)) (hs : sub o p = some o1)
    (k : ∀ a, a ∉ adr o1 → ∀ u, H a = some u → H' a = some u) (hA : ∀ a ∈ adr z, a ∈ adr o1 ∨ H a = none) (nd : (adr z).Nodup)
    (h : ∀ v, Mv (SS F ρ) H (SS F (ρ.set i (some (putAt o p z)))) H' → OV K H (SS F ρ) o1 v → OV K H' (SS F (ρ.set i (some (putAt o p z)))) z v) :
    Rl K F (ρ.set i (some (putAt o p z))) σ H' ∧ Mv (SS F ρ) H (SS F (ρ.set i (some (putAt o p z)))) H' := by
  have hi : i < ρ.length := (List.getElem?_eq_some_iff.mp e).1
  obtain ⟨A, B, q1, q2⟩ := put_adr (z := z) hs
  have sub1 : ∀ a ∈ adr (putAt o p z), a ∈ adr o ∨ H a = none := fun a ha => by
    rw [q2] at ha
    rw [q1]
    simp only [List.mem_append] at ha ⊢
    rcases ha with ha | ha | ha
    · exact .inl (.inl ha)
    · rcases hA a ha with y | y
      · exact .inl (.inr (.inl y))
      · exact .inr y
    · exact .inl (.inr (.inr ha))
  have ho : ∀ a, own (ρ.set i (some (putAt o p z))) a → own ρ a ∨ H a = none := fun a ⟨j, o', e', h'⟩ => by
    by_cases q : j = i
    · subst q
      rw [List.getElem?_set_self hi] at e'
      cases e'
      rcases sub1 a h' with y | y
      · exact .inl ⟨j, o, e, y⟩
      · exact .inr y
    · rw [List.getElem?_set_ne (Ne.symm q)] at e'
      exact .inl ⟨j, o', e', h'⟩
  have m : Mv (SS F ρ) H (SS F (ρ.set i (some (putAt o p z)))) H' := mv_own ho fun a u na hu => k a (fun z' => na (.inr ⟨i, o, e, sub_adr hs a z'⟩)) u hu
  obtain ⟨v, h1, h2⟩ := R.slot i o e
  have ndo := R.nd i o e
  have ndp : (adr (putAt o p z)).Nodup := by
    rw [q1] at ndo
    rw [q2]
    obtain ⟨n1, n2, n3⟩ := List.nodup_append.mp ndo
    obtain ⟨n4, n5, n6⟩ := List.nodup_append.mp n2
    have fresh : ∀ a ∈ adr z, a ∉ adr o1 → a ∉ A ∧ a ∉ B := fun a ha na => by
      rcases hA a ha with y | y
      · exact absurd y na
      · refine ⟨fun z' => ?_, fun z' => ?_⟩
        · obtain ⟨u, hu⟩ := h2.there a (by rw [q1]; exact List.mem_append_left _ z')
          rw [y] at hu; cases hu
        · obtain ⟨u, hu⟩ := h2.there a (by rw [q1]; exact List.mem_append_right _ (List.mem_append_right _ z'))
          rw [y] at hu; cases hu
    refine List.nodup_append.mpr ⟨n1, List.nodup_append.mpr ⟨nd, n5, fun a ha b hb q => ?_⟩, fun a ha b hb q => ?_⟩
    · subst q
      by_cases y : a ∈ adr o1
      · exact n6 a y a hb rfl
      · exact (fresh a ha y).2 hb
    · subst q
      rcases List.mem_append.mp hb with hb | hb
      · by_cases y : a ∈ adr o1
        · exact n3 a ha a (List.mem_append_left _ y) rfl
        · exact (fresh a hb y).1 ha
      · exact n3 a ha a (List.mem_append_right _ hb) rfl
  have hv : OV K H' (SS F (ρ.set i (some (putAt o p z)))) (putAt o p z) v := OV.put m hs h2 (fun v hv => h v m hv) (fun a _ na u hu => k a na u hu) ndo
  have es : σ.set i (some v) = σ := by
    apply List.ext_getElem?
    intro j
    by_cases q : j = i
    · subst q
      rw [h1]
      exact List.getElem?_set_self (by rw [← R.len]; exact hi)
    · rw [List.getElem?_set_ne (Ne.symm q)]
  refine ⟨?_, m⟩
  have R2 := R.step (v := v) hi m (fun a ha => by
    rcases sub1 a ha with y | y
    · exact .inl ⟨o, e, y⟩
    · exact .inr y) ndp (fun a u na hu => k a (fun z' => na ⟨o, e, sub_adr hs a z'⟩) u hu) hv
  rw [es] at R2
  exact R2
end
end Ow
namespace Ow
open PySem PySem.Spec PyProof.Rows L2

section
variable (K : PySem.W.Frag)
/-- an expression gives data -/
def RE (te : TE) (ρ : En) (Q : D → En → Prop) : Prop :=
  ∀ F σ H, Rl K F ρ σ H → ∀ Q' : VK, (∀ d ρ' v H', Q d ρ' → Rl K F ρ' σ H' → DV K H' (SS F ρ') d v → Mv (SS F ρ) H (SS F ρ') H' → Q' v H') → te σ H Q'
/-- a test -/
def RT (tt : TT) (ρ : En) (Q : Bool → En → Prop) : Prop :=
  ∀ F σ H, Rl K F ρ σ H → ∀ Q' : Bool → Hp → Prop, (∀ b ρ' H', Q b ρ' → Rl K F ρ' σ H' → Mv (SS F ρ) H (SS F ρ') H' → Q' b H') → tt σ H Q'
/-- an expression gives an owned tree (or data) -/
def RO (te : TE) (ρ : En) (Q : O → En → Prop) : Prop :=
  ∀ F σ H, Rl K F ρ σ H → ∀ Q' : VK, (∀ o ρ' v H', Q o ρ' → Rl K F (ρ' ++ [some o]) (σ ++ [some v]) H' → Mv (SS F ρ) H (SS F (ρ' ++ [some o])) H' → Q' v H') → te σ H Q'
/-- an expression names the part p of slot i's tree -/
def RP (te : TE) (ρ : En) (i : Nat) (p : List Str) (o : O) : Prop :=
  (∃ o0, ρ[i]? = some (some o0) ∧ sub o0 p = some o) ∧ ∀ F σ H, Rl K F ρ σ H → ∀ Q' : VK, (∀ v, OV K H (SS F ρ) o v → Q' v H) → te σ H Q'
/-- data arguments -/
def RD (t : TA) (ρ : En) (Q : List D → En → Prop) : Prop :=
  ∀ F σ H, Rl K F ρ σ H → ∀ Q' : List V → Hp → Prop, (∀ ds ρ' vs H', Q ds ρ' → Rl K F ρ' σ H' → DVs K H' (SS F ρ') ds vs → Mv (SS F ρ) H (SS F ρ') H' → Q' vs H') → t σ H Q'
/-- what is wanted behind a statement -/
structure De where
  nx : En → Prop
  rt : O → En → Prop
  bk : En → Prop := fun _ => False
  ct : En → Prop := fun _ => False
structure Fits (F : Fm) (S0 : Addr → Prop) (H0 : Hp) (E : De) (D' : Ends) : Prop where
  nx : ∀ ρ' σ' H', E.nx ρ' → Rl K F ρ' σ' H' → Mv S0 H0 (SS F ρ') H' → D'.nx σ' H'
  rt : ∀ o ρ' σ' v H', E.rt o ρ' → Rl K F (ρ' ++ [some o]) (σ' ++ [some v]) H' → Mv S0 H0 (SS F (ρ' ++ [some o])) H' → D'.rt v H'
  bk : ∀ ρ' σ' H', E.bk ρ' → Rl K F ρ' σ' H' → Mv S0 H0 (SS F ρ') H' → D'.bk σ' H'
  ct : ∀ ρ' σ' H', E.ct ρ' → Rl K F ρ' σ' H' → Mv S0 H0 (SS F ρ') H' → D'.ct σ' H'
def RS (t : TS) (ρ : En) (E : De) : Prop := ∀ F σ H D', Rl K F ρ σ H → Fits K F (SS F ρ) H E D' → t D' σ H
/-- a target gets data; a target gets a tree -/
def RG (g : TG) (d : D) (ρ : En) (Q : En → Prop) : Prop :=
  ∀ F σ H v, Rl K F ρ σ H → DV K H (SS F ρ) d v → ∀ Q' : L2.St → Hp → Prop, (∀ ρ' σ' H', Q ρ' → Rl K F ρ' σ' H' → Mv (SS F ρ) H (SS F ρ') H' → Q' σ' H') → g v σ H Q'
def RGs (g : TGs) (ds : List D) (ρ : En) (Q : En → Prop) : Prop :=
  ∀ F σ H vs, Rl K F ρ σ H → DVs K H (SS F ρ) ds vs → ∀ Q' : L2.St → Hp → Prop, (∀ ρ' σ' H', Q ρ' → Rl K F ρ' σ' H' → Mv (SS F ρ) H (SS F ρ') H' → Q' σ' H') → g vs σ H Q'
end
section
variable {K : PySem.W.Frag}
theorem Fits.mv {F : Fm} {S0 S1 : Addr → Prop} {H0 H1 : Hp} {E : De} {D' : Ends} (f : Fits K F S0 H0 E D') (m : Mv S0 H0 S1 H1) : Fits K F S1 H1 E D' :=
  ⟨fun ρ' σ' H' e r m' => f.nx ρ' σ' H' e r (m.trans m'), fun o ρ' σ' v H' e r m' => f.rt o ρ' σ' v H' e r (m.trans m'), fun ρ' σ' H' e r m' => f.bk ρ' σ' H' e r (m.trans m'), fun ρ' σ' H' e r m' => f.ct ρ' σ' H' e r (m.trans m')⟩
variable {ρ : En} {Q : D → En → Prop} {ta tb tc te : TE} {t u tt : TT}
theorem RE.imp {Q2 : D → En → Prop} (h : RE K te ρ Q) (k : ∀ d ρ', Q d ρ' → Q2 d ρ') : RE K te ρ Q2 := fun F σ H R Q' q => h F σ H R Q' fun d ρ' v H' z => q d ρ' v H' (k d ρ' z)
theorem RT.imp {Q Q2 : Bool → En → Prop} (h : RT K t ρ Q) (k : ∀ d ρ', Q d ρ' → Q2 d ρ') : RT K t ρ Q2 := fun F σ H R Q' q => h F σ H R Q' fun d ρ' H' z => q d ρ' H' (k d ρ' z)
theorem re_var {i : Nat} {d : D} (h : ρ[i]? = some (some (.dat d))) (q : Q d ρ) : RE K (tVar i) ρ Q := fun F σ H R Q' k => by
  obtain ⟨v, h1, h2⟩ := R.dat h
  exact ⟨v, h1, k d ρ v H q R h2 .refl⟩
theorem re_int {i : Int} (q : Q (.int i) ρ) : RE K (tC (.int i)) ρ Q := fun F σ H R Q' k => k _ ρ _ H q R (by unfold DV; rfl) .refl
theorem re_bl {i : Bool} (q : Q (.bl i) ρ) : RE K (tC (.bl i)) ρ Q := fun F σ H R Q' k => k _ ρ _ H q R (by unfold DV; rfl) .refl
theorem re_str {i : Str} (q : Q (.str i) ρ) : RE K (tC (.str i)) ρ Q := fun F σ H R Q' k => k _ ρ _ H q R (by unfold DV; rfl) .refl
theorem re_non (q : Q .non ρ) : RE K (tC .non) ρ Q := fun F σ H R Q' k => k _ ρ _ H q R (by unfold DV; rfl) .refl
theorem re_ref {a : Addr} (q : Q (.ref a) ρ) : RE K (tC (.ref a)) ρ Q := fun F σ H R Q' k => k _ ρ _ H q R (by unfold DV; rfl) .refl
theorem re_ty {a : String} (q : Q (.ty a) ρ) : RE K (tC (.ty a)) ρ Q := fun F σ H R Q' k => k _ ρ _ H q R (by unfold DV; rfl) .refl
/-- a name of the module that is a tuple of the written part -/
theorem re_kt {a : Addr} {ds : List D} (h : ∀ H S, DV K H S (.tup ds) (.ref a)) (q : Q (.tup ds) ρ) : RE K (tC (.ref a)) ρ Q := fun F σ H R Q' k => k _ ρ _ H q R (h _ _) .refl
theorem rp_var {i : Nat} {o : O} (h : ρ[i]? = some (some o)) : RP K (tVar i) ρ i [] o := ⟨⟨o, h, by unfold sub; rfl⟩, fun F σ H R Q' k => by
  obtain ⟨v, h1, h2⟩ := R.slot i o h
  exact ⟨v, h1, k v h2⟩⟩
theorem sub_snoc : ∀ {p : List Str} {o0 o : O} {a C : Addr} {ns : List Str} {os : List O} {f : Str}, sub o0 p = some (.ins a C ns os) → fld ns os f = some o → sub o0 (p ++ [f]) = some o
  | [], o0, o, a, C, ns, os, f, h, e => by
    unfold sub at h
    cases h
    show sub (.ins a C ns os) [f] = some o
    unfold sub
    rw [e]
    unfold sub
    rfl
  | g :: p, .dat d, o, a, C, ns, os, f, h, e => by unfold sub at h; cases h
  | g :: p, .lst b ds, o, a, C, ns, os, f, h, e => by unfold sub at h; cases h
  | g :: p, .ins b C' ns' os', o, a, C, ns, os, f, h, e => by
    unfold sub at h
    cases e2 : fld ns' os' g with
    | none => rw [e2] at h; cases h
    | some o2 =>
      rw [e2] at h
      show sub (.ins b C' ns' os') (g :: (p ++ [f])) = some o
      unfold sub
      rw [e2]
      exact sub_snoc (show sub o2 p = some _ from h) e
theorem rp_fld {i : Nat} {p : List Str} {a C : Addr} {ns : List Str} {os : List O} {f : Str} {o : O} (h : RP K te ρ i p (.ins a C ns os)) (e : fld ns os f = some o) (c : Cls K C) (n : NoAttr K C f) : RP K (tFld K te f) ρ i (p ++ [f]) o := by
  obtain ⟨⟨o0, h1, h2⟩, h3⟩ := h
  refine ⟨⟨o0, h1, sub_snoc h2 e⟩, fun F σ H R Q' k => h3 F σ H R _ fun v hv => ?_⟩
  unfold OV at hv
  obtain ⟨ev, dx, gs, g1, g2, g3⟩ := hv
  obtain ⟨w, q1, q2⟩ := fld_ov g3 g2 e
  exact ⟨a, C, dx, gs, w, ev, g1, c, n, q1, k w q2⟩
theorem re_path {i : Nat} {p : List Str} {d : D} (h : RP K te ρ i p (.dat d)) (q : Q d ρ) : RE K te ρ Q := fun F σ H R Q' k => h.2 F σ H R Q' fun v hv => k d ρ v H q R (by unfold OV at hv; exact hv) .refl
/-- a field of a frozen instance -/
def dfld : List Str → List D → Str → Option D
  | n :: ns, d :: ds, f => if n = f then some d else dfld ns ds f
  | _, _, _ => none
theorem dfld_dv {H : Hp} {S : Addr → Prop} : ∀ {ns : List Str} {ds : List D} {gs : List (Str × V)} {f : Str} {d : D}, DVs K H S ds (gs.map (·.2)) → gs.map (·.1) = ns → dfld ns ds f = some d → ∃ v, gs.lookup f = some v ∧ DV K H S d v
  | [], os, gs, f, o, h, e, hf => by cases os <;> cases hf
  | n :: ns, [], gs, f, o, h, e, hf => by cases hf
  | n :: ns, o0 :: os, [], f, o, h, e, hf => by cases e
  | n :: ns, o0 :: os, (g, x) :: gs, f, o, h, e, hf => by
    unfold DVs at h
    obtain ⟨v, r, e1, h1, h2⟩ := h
    simp only [List.map_cons, List.cons.injEq] at e1 e
    obtain ⟨e1, e2⟩ := e1
    obtain ⟨e3, e4⟩ := e
    subst e1 e2 e3 e4
    unfold dfld at hf
    by_cases q : g = f
    · rw [if_pos q] at hf
      cases hf
      exact ⟨x, by simp [List.lookup, q], h1⟩
    · rw [if_neg q] at hf
      obtain ⟨v, z1, z2⟩ := dfld_dv h2 rfl hf
      refine ⟨v, ?_, z2⟩
      have hb : (f == g) = false := beq_eq_false_iff_ne.mpr fun z => q z.symm
      simp only [List.lookup, hb]
      exact z1
theorem re_fld {f : Str} (h : RE K te ρ fun d ρ' => ∃ C ns ds z, d = .ins C ns ds ∧ Cls K C ∧ NoAttr K C f ∧ dfld ns ds f = some z ∧ Q z ρ') : RE K (tFld K te f) ρ Q := fun F σ H R Q' k =>
  h F σ H R _ fun d ρ' v H' q R' dv m => by
    obtain ⟨C, ns, ds, z, e, c, n, hf, q⟩ := q
    subst e
    unfold DV at dv
    obtain ⟨a, dx, gs, ev, hs, g1, g2, g3⟩ := dv
    obtain ⟨w, q1, q2⟩ := dfld_dv g3 g2 hf
    exact ⟨a, C, dx, gs, w, ev, g1, c, n, q1, k z ρ' w H' q R' q2 m⟩
def OD (r : R2) (d1 d2 d : D) : Prop := ∀ (H : Hp) (S : Addr → Prop) (x y : V), (∀ a, S a → ∃ o, H a = some o) → DV K H S d1 x → DV K H S d2 y → ∀ Q' : VK, (∀ v H', Ex H H' → DV K H' S d v → Q' v H') → r x y H Q'
def UD (r : V → Hp → VK → Prop) (d1 d : D) : Prop := ∀ (H : Hp) (S : Addr → Prop) (x : V), (∀ a, S a → ∃ o, H a = some o) → DV K H S d1 x → ∀ Q' : VK, (∀ v H', Ex H H' → DV K H' S d v → Q' v H') → r x H Q'
theorem re_op {r : R2} (h : RE K ta ρ fun d1 ρ1 => RE K tb ρ1 fun d2 ρ2 => ∃ d, OD (K := K) r d1 d2 d ∧ Q d ρ2) : RE K (tOp r ta tb) ρ Q := fun F σ H R Q' k =>
  h F σ H R _ fun d1 ρ1 v1 H1 q1 R1 dv1 m1 => q1 F σ H1 R1 _ fun d2 ρ2 v2 H2 ⟨d, od, q⟩ R2 dv2 m2 =>
    od H2 (SS F ρ2) v1 v2 (fun a => R2.dom) (dv1.mv m2) dv2 Q' fun v H' ex dv => k d ρ2 v H' q (R2.ex ex) dv ((m1.trans m2).ex ex)
theorem re_un {r : V → Hp → VK → Prop} (h : RE K ta ρ fun d1 ρ1 => ∃ d, UD (K := K) r d1 d ∧ Q d ρ1) : RE K (tUn r ta) ρ Q := fun F σ H R Q' k =>
  h F σ H R _ fun d1 ρ1 v1 H1 ⟨d, od, q⟩ R1 dv1 m1 => od H1 (SS F ρ1) v1 (fun a => R1.dom) dv1 Q' fun v H' ex dv => k d ρ1 v H' q (R1.ex ex) dv (m1.ex ex)
theorem od_I0 {g : Int → Int → Int} {i j : Int} : OD (K := K) (rI0 fun i j => .int (g i j)) (.int i) (.int j) (.int (g i j)) := fun H S x y _ hx hy Q' k => by
  rw [dv_int hx, dv_int hy]
  exact ⟨i, j, rfl, rfl, k _ H (fun _ _ h => h) (by unfold DV; rfl)⟩
theorem od_B0 {g : Int → Int → Bool} {i j : Int} : OD (K := K) (rI0 fun i j => .bl (g i j)) (.int i) (.int j) (.bl (g i j)) := fun H S x y _ hx hy Q' k => by
  rw [dv_int hx, dv_int hy]
  exact ⟨i, j, rfl, rfl, k _ H (fun _ _ h => h) (by unfold DV; rfl)⟩
theorem od_I {C : Int → Int → Prop} {g : Int → Int → Int} {i j : Int} (hc : C i j) : OD (K := K) (rI C fun i j => .int (g i j)) (.int i) (.int j) (.int (g i j)) := fun H S x y _ hx hy Q' k => by
  rw [dv_int hx, dv_int hy]
  exact ⟨i, j, rfl, rfl, hc, k _ H (fun _ _ h => h) (by unfold DV; rfl)⟩
theorem ud_I {g : Int → Int} {i : Int} : UD (K := K) (rU fun i => .int (g i)) (.int i) (.int (g i)) := fun H S x _ hx Q' k => by
  rw [dv_int hx]
  exact ⟨i, rfl, k _ H (fun _ _ h => h) (by unfold DV; rfl)⟩
/-- an item of a tuple, a list, a text -/
theorem od_ixT {ds : List D} {i : Int} {d : D} (h : atI ds i = some d) : OD (K := K) (rIx K) (.tup ds) (.int i) d := fun H S x y _ hx hy Q' k => by
  rw [dv_int hy]
  obtain ⟨a, xs, rfl, hs, hv⟩ := dv_tup hx
  obtain ⟨j, hj, e⟩ : ∃ j, ixN ds.length i = some j ∧ ds[j]? = some d := by
    unfold atI at h
    cases e : ixN ds.length i with
    | none => rw [e] at h; cases h
    | some j => rw [e] at h; exact ⟨j, rfl, h⟩
  obtain ⟨v, g1, g2⟩ := hv.get e
  exact .inr (.inl ⟨a, xs, i, v, rfl, rfl, hs, by unfold atI; rw [hv.length, hj]; exact g1, k v H (fun _ _ h => h) g2⟩)
theorem od_ixL {ds : List D} {i : Int} {d : D} (h : atI ds i = some d) : OD (K := K) (rIx K) (.lst ds) (.int i) d := fun H S x y _ hx hy Q' k => by
  rw [dv_int hy]
  obtain ⟨a, xs, rfl, hs, hv⟩ := dv_lst hx
  obtain ⟨j, hj, e⟩ : ∃ j, ixN ds.length i = some j ∧ ds[j]? = some d := by
    unfold atI at h
    cases e : ixN ds.length i with
    | none => rw [e] at h; cases h
    | some j => rw [e] at h; exact ⟨j, rfl, h⟩
  obtain ⟨v, g1, g2⟩ := hv.get e
  exact .inl ⟨a, xs, i, v, rfl, rfl, SqL.of hs, by unfold atI; rw [hv.length, hj]; exact g1, k v H (fun _ _ h => h) g2⟩
theorem od_ixS {w : Str} {i : Int} {c : Nat} (hw : w.length ≤ sizeLine) (h : atI w.cps.toList i = some c) : OD (K := K) (rIx K) (.str w) (.int i) (.str ⟨#[c]⟩) := fun H S x y _ hx hy Q' k => by
  rw [dv_int hy, dv_str hx]
  exact .inr (.inr ⟨w, i, c, rfl, rfl, hw, h, k _ H (fun _ _ h => h) (by unfold DV; rfl)⟩)
theorem re_and (h : RE K ta ρ fun d ρ1 => ∃ a, d = .bl a ∧ (a = true → RE K tb ρ1 Q) ∧ (a = false → Q (.bl false) ρ1)) : RE K (tAndV ta tb) ρ Q := fun F σ H R Q' k =>
  h F σ H R _ fun d1 ρ1 v1 H1 ⟨a, e, h1, h2⟩ R1 dv1 m1 => by
    subst e
    refine ⟨a, dv_bl dv1, ?_⟩
    cases a with
    | true => exact iteT (h1 rfl F σ H1 R1 Q' fun d ρ' v H' q R' dv m => k d ρ' v H' q R' dv (m1.trans m))
    | false => exact iteF (k _ ρ1 _ H1 (h2 rfl) R1 (by unfold DV; rfl) m1)
theorem re_or (h : RE K ta ρ fun d ρ1 => ∃ a, d = .bl a ∧ (a = false → RE K tb ρ1 Q) ∧ (a = true → Q (.bl true) ρ1)) : RE K (tOrV ta tb) ρ Q := fun F σ H R Q' k =>
  h F σ H R _ fun d1 ρ1 v1 H1 ⟨a, e, h1, h2⟩ R1 dv1 m1 => by
    subst e
    refine ⟨a, dv_bl dv1, ?_⟩
    cases a with
    | true => exact iteT (k _ ρ1 _ H1 (h2 rfl) R1 (by unfold DV; rfl) m1)
    | false => exact iteF (h1 rfl F σ H1 R1 Q' fun d ρ' v H' q R' dv m => k d ρ' v H' q R' dv (m1.trans m))
theorem re_not (h : RE K ta ρ fun d ρ1 => ∃ a, d = .bl a ∧ Q (.bl (!a)) ρ1) : RE K (tNotV ta) ρ Q := fun F σ H R Q' k =>
  h F σ H R _ fun d1 ρ1 v1 H1 ⟨a, e, h1⟩ R1 dv1 m1 => by
    subst e
    exact ⟨a, dv_bl dv1, k _ ρ1 _ H1 h1 R1 (by unfold DV; rfl) m1⟩
theorem re_if (h : RT K t ρ fun b ρ1 => (b = true → RE K ta ρ1 Q) ∧ (b = false → RE K tb ρ1 Q)) : RE K (tIf t ta tb) ρ Q := fun F σ H R Q' k =>
  h F σ H R _ fun b ρ1 H1 ⟨h1, h2⟩ R1 m1 => by
    cases b with
    | true => exact iteT (h1 rfl F σ H1 R1 Q' fun d ρ' v H' q R' dv m => k d ρ' v H' q R' dv (m1.trans m))
    | false => exact iteF (h2 rfl F σ H1 R1 Q' fun d ρ' v H' q R' dv m => k d ρ' v H' q R' dv (m1.trans m))
/-- a op1 b op2 c -/
theorem re_chain {r r' : R2} (h : RE K ta ρ fun d1 ρ1 => RE K tb ρ1 fun d2 ρ2 => ∃ b, OD (K := K) r d1 d2 (.bl b) ∧ (b = true → RE K tc ρ2 fun d3 ρ3 => ∃ d, OD (K := K) r' d2 d3 d ∧ Q d ρ3) ∧ (b = false → Q (.bl false) ρ2)) : RE K (tChain r r' ta tb tc) ρ Q := fun F σ H R Q' k =>
  h F σ H R _ fun d1 ρ1 v1 H1 q1 R1 dv1 m1 => q1 F σ H1 R1 _ fun d2 ρ2 v2 H2 ⟨b, od, q2, q3⟩ R2 dv2 m2 =>
    od H2 (SS F ρ2) v1 v2 (fun a => R2.dom) (dv1.mv m2) dv2 _ fun v H3 ex dv => by
      refine ⟨b, dv_bl dv, ?_⟩
      have R3 := R2.ex ex
      have m3 := (m1.trans m2).ex ex
      cases b with
      | false => exact iteF (k _ ρ2 _ H3 (q3 rfl) R3 (by unfold DV; rfl) m3)
      | true =>
        refine iteT (q2 rfl F σ H3 R3 _ fun d3 ρ3 v3 H4 ⟨d, od', q⟩ R4 dv3 m4 => ?_)
        exact od' H4 (SS F ρ3) v2 v3 (fun a => R4.dom) ((dv2.mv (.ofEx ex)).mv m4) dv3 Q' fun v' H5 ex' dv' => k d ρ3 v' H5 q (R4.ex ex') dv' ((m3.trans m4).ex ex')
variable {Qt : Bool → En → Prop}
theorem rt_test (h : RE K te ρ fun d ρ1 => ∃ b, d = .bl b ∧ Qt b ρ1) : RT K (tTest te) ρ Qt := fun F σ H R Q' k =>
  h F σ H R _ fun d ρ1 v H1 ⟨b, e, q⟩ R1 dv m => by
    subst e
    exact ⟨b, dv_bl dv, k b ρ1 H1 q R1 m⟩
theorem rt_B (h : RE K te ρ fun d ρ1 => ∃ b, d = .bl b ∧ Qt b ρ1) : RT K (tB te) ρ Qt := fun F σ H R Q' k =>
  h F σ H R _ fun d ρ1 v H1 ⟨b, e, q⟩ R1 dv m => by
    subst e
    exact ⟨b, dv_bl dv, k b ρ1 H1 q R1 m⟩
theorem rt_and (h : RT K t ρ fun a ρ1 => (a = true → RT K u ρ1 Qt) ∧ (a = false → Qt false ρ1)) : RT K (tAnd t u) ρ Qt := fun F σ H R Q' k =>
  h F σ H R _ fun a ρ1 H1 ⟨h1, h2⟩ R1 m1 => by
    cases a with
    | true => exact iteT (h1 rfl F σ H1 R1 Q' fun b ρ' H' q R' m => k b ρ' H' q R' (m1.trans m))
    | false => exact iteF (k _ ρ1 H1 (h2 rfl) R1 m1)
theorem rt_or (h : RT K t ρ fun a ρ1 => (a = false → RT K u ρ1 Qt) ∧ (a = true → Qt true ρ1)) : RT K (tOr t u) ρ Qt := fun F σ H R Q' k =>
  h F σ H R _ fun a ρ1 H1 ⟨h1, h2⟩ R1 m1 => by
    cases a with
    | true => exact iteT (k _ ρ1 H1 (h2 rfl) R1 m1)
    | false => exact iteF (h1 rfl F σ H1 R1 Q' fun b ρ' H' q R' m => k b ρ' H' q R' (m1.trans m))
theorem rt_not (h : RT K t ρ fun a ρ1 => Qt (!a) ρ1) : RT K (tNot t) ρ Qt := fun F σ H R Q' k =>
  h F σ H R _ fun a ρ1 H1 q R1 m1 => k _ ρ1 H1 q R1 m1
variable {ts : TA} {Qd : List D → En → Prop} {Qo : O → En → Prop}
theorem rd_nil (q : Qd [] ρ) : RD K tNil ρ Qd := fun F σ H R Q' k => k [] ρ [] H q R DVs.nil .refl
theorem rd_cons (h : RE K te ρ fun d ρ1 => RD K ts ρ1 fun ds ρ2 => Qd (d :: ds) ρ2) : RD K (tCons te ts) ρ Qd := fun F σ H R Q' k =>
  h F σ H R _ fun d ρ1 v H1 q1 R1 dv1 m1 => q1 F σ H1 R1 _ fun ds ρ2 vs H2 q2 R2 dv2 m2 => k (d :: ds) ρ2 (v :: vs) H2 q2 R2 (DVs.cons (dv1.mv m2) dv2) (m1.trans m2)
theorem re_tup (h : RD K ts ρ fun ds ρ1 => ds.length ≤ sizeLine ∧ Q (.tup ds) ρ1) : RE K (tTup ts) ρ Q := fun F σ H R Q' k =>
  h F σ H R _ fun ds ρ1 vs H1 ⟨hl, q⟩ R1 dv m => by
    refine ⟨by rw [dv.length]; exact hl, fun p hp => ?_⟩
    have ex : Ex H1 (upd H1 p (.tup vs)) := Ex.new hp
    exact k _ ρ1 _ _ q (R1.ex ex) (dv_newT upd_same (R1.new hp) (dv.mv (.ofEx ex))) (m.ex ex)
theorem re_lst (h : RD K ts ρ fun ds ρ1 => ds.length ≤ sizeLine ∧ Q (.lst ds) ρ1) : RE K (tLst ts) ρ Q := fun F σ H R Q' k =>
  h F σ H R _ fun ds ρ1 vs H1 ⟨hl, q⟩ R1 dv m => by
    refine ⟨by rw [dv.length]; exact hl, fun p hp => ?_⟩
    have ex : Ex H1 (upd H1 p (.lst vs)) := Ex.new hp
    exact k _ ρ1 _ _ q (R1.ex ex) (dv_newL upd_same (R1.new hp) (dv.mv (.ofEx ex))) (m.ex ex)
theorem ro_of (h : RE K te ρ fun d ρ' => Qo (.dat d) ρ') : RO K te ρ Qo := fun F σ H R Q' k =>
  h F σ H R _ fun d ρ1 v H1 q R1 dv m => by
    obtain ⟨R2, m2⟩ := R1.push dv
    exact k _ ρ1 v H1 q R2 (m.trans m2)
theorem re_fz (h : RO K te ρ fun o ρ' => Q (fz o) ρ') : RE K te ρ Q := fun F σ H R Q' k =>
  h F σ H R _ fun o ρ1 v H1 q R1 m => by
    obtain ⟨R2, m2, dv⟩ := R1.pop
    exact k _ ρ1 v H1 q R2 dv (m.trans m2)
/-- a new list that is owned -/
theorem Rl.newL {F : Fm} {σ : L2.St} {H : Hp} (R : Rl K F ρ σ H) {p : Addr} {ds : List D} {xs : List V} (hp : H p = none) (h : DVs K H (SS F ρ) ds xs) :
    Rl K F (ρ ++ [some (.lst p ds)]) (σ ++ [some (.ref p)]) (upd H p (.lst xs)) ∧ Mv (SS F ρ) H (SS F (ρ ++ [some (.lst p ds)])) (upd H p (.lst xs)) := by
  have ex : Ex H (upd H p (.lst xs)) := Ex.new hp
  obtain ⟨R1, m1⟩ := R.push (d := .non) (v := .non) (by unfold DV; rfl)
  have ho : ∀ a, own (ρ ++ [some (O.lst p ds)]) a → own ρ a ∨ H a = none := fun a ⟨j, o, e, h'⟩ => by
    by_cases q : j < ρ.length
    · rw [List.getElem?_append_left q] at e
      exact .inl ⟨j, o, e, h'⟩
    · rw [List.getElem?_append_right (by omega)] at e
      have hj : j - ρ.length = 0 := by
        cases hz : j - ρ.length with
        | zero => rfl
        | succ n => rw [hz] at e; simp at e
      rw [hj] at e
      have eo : O.lst p ds = o := by simpa using e
      subst eo
      rw [adr_lst] at h'
      have : a = p := by simpa using h'
      subst this
      exact .inr hp
  have m : Mv (SS F ρ) H (SS F (ρ ++ [some (O.lst p ds)])) (upd H p (.lst xs)) := mv_own ho fun a u _ e => ex a u e
  have eset : (ρ ++ [some (O.dat .non)]).set ρ.length (some (.lst p ds)) = ρ ++ [some (.lst p ds)] := by simp
  have sset : (σ ++ [some (V.non)]).set ρ.length (some (.ref p)) = σ ++ [some (.ref p)] := by rw [R.len]; simp
  have m1' : Mv (SS F (ρ ++ [some (.dat .non)])) H (SS F (ρ ++ [some (.lst p ds)])) (upd H p (.lst xs)) := ⟨fun a u _ e => ex a u e, fun a h => by
    rcases m.own a h with z | z
    · rcases z with z | ⟨j, o, e, z⟩
      · exact .inl (.inl z)
      · exact .inl (.inr ⟨j, o, by rw [List.getElem?_append_left (List.getElem?_eq_some_iff.mp e).1]; exact e, z⟩)
    · exact .inr z⟩
  have R2 := R1.step (i := ρ.length) (o := .lst p ds) (v := .ref p) (H' := upd H p (.lst xs)) (by simp) (by rw [eset]; exact m1')
    (fun a ha => by rw [adr_lst] at ha; have : a = p := by simpa using ha
                    subst this; exact .inr hp) (by rw [adr_lst]; simp) (fun a u _ e => ex a u e)
    (by rw [eset]; unfold OV; exact ⟨rfl, xs, upd_same, h.mv m⟩)
  rw [eset, sset] at R2
  exact ⟨R2, m⟩
theorem ro_lst (h : RD K ts ρ fun ds ρ1 => ds.length ≤ sizeLine ∧ ∀ p, Qo (.lst p ds) ρ1) : RO K (tLst ts) ρ Qo := fun F σ H R Q' k =>
  h F σ H R _ fun ds ρ1 vs H1 ⟨hl, q⟩ R1 dv m => by
    refine ⟨by rw [dv.length]; exact hl, fun p hp => ?_⟩
    obtain ⟨R2, m2⟩ := R1.newL hp dv
    exact k _ ρ1 _ _ (q p) R2 (m.trans m2)
def CD (r : List V → Hp → VK → Prop) (ds : List D) (d : D) : Prop := ∀ (H : Hp) (S : Addr → Prop) (xs : List V), (∀ a, S a → ∃ o, H a = some o) → DVs K H S ds xs → ∀ Q' : VK, (∀ v H', Ex H H' → DV K H' S d v → Q' v H') → r xs H Q'
theorem re_cb {r : List V → Hp → VK → Prop} (h : RD K ts ρ fun ds ρ1 => ∃ d, CD (K := K) r ds d ∧ Q d ρ1) : RE K (tCB r ts) ρ Q := fun F σ H R Q' k =>
  h F σ H R _ fun ds ρ1 vs H1 ⟨d, cd, q⟩ R1 dv m => cd H1 (SS F ρ1) vs (fun a => R1.dom) dv Q' fun v H' ex dv' => k d ρ1 v H' q (R1.ex ex) dv' (m.ex ex)
theorem dvs1 {H : Hp} {S : Addr → Prop} {d : D} {xs : List V} (h : DVs K H S [d] xs) : ∃ x, xs = [x] ∧ DV K H S d x := by
  unfold DVs at h
  obtain ⟨v, r, e, h1, h2⟩ := h
  unfold DVs at h2
  exact ⟨v, by rw [e, h2], h1⟩
theorem dvs2 {H : Hp} {S : Addr → Prop} {d d' : D} {xs : List V} (h : DVs K H S [d, d'] xs) : ∃ x y, xs = [x, y] ∧ DV K H S d x ∧ DV K H S d' y := by
  unfold DVs at h
  obtain ⟨v, r, e, h1, h2⟩ := h
  obtain ⟨y, e2, h3⟩ := dvs1 h2
  exact ⟨v, y, by rw [e, e2], h1, h3⟩
variable {s s' : TS} {E : De} {g : TG} {gs : TGs}
theorem RS.imp {E2 : De} (h : RS K s ρ E) (h1 : ∀ ρ', E.nx ρ' → E2.nx ρ') (h2 : ∀ o ρ', E.rt o ρ' → E2.rt o ρ') (h3 : ∀ ρ', E.bk ρ' → E2.bk ρ') (h4 : ∀ ρ', E.ct ρ' → E2.ct ρ') : RS K s ρ E2 := fun F σ H D' R f =>
  h F σ H D' R ⟨fun ρ' σ' H' q => f.nx ρ' σ' H' (h1 _ q), fun o ρ' σ' v H' q => f.rt o ρ' σ' v H' (h2 _ _ q), fun ρ' σ' H' q => f.bk ρ' σ' H' (h3 _ q), fun ρ' σ' H' q => f.ct ρ' σ' H' (h4 _ q)⟩
theorem rs_seq (h : RS K s ρ { E with nx := fun ρ1 => RS K s' ρ1 E }) : RS K (tSeq s s') ρ E := fun F σ H D' R f =>
  h F σ H { D' with nx := s' D' } R ⟨fun ρ' σ' H' q R' m => q F σ' H' D' R' (f.mv m), f.rt, f.bk, f.ct⟩
theorem rs_next (q : E.nx ρ) : RS K tNext ρ E := fun F σ H D' R f => f.nx ρ σ H q R .refl
theorem rs_break (q : E.bk ρ) : RS K tBreak ρ E := fun F σ H D' R f => f.bk ρ σ H q R .refl
theorem rs_cont (q : E.ct ρ) : RS K tCont ρ E := fun F σ H D' R f => f.ct ρ σ H q R .refl
theorem rs_ret (h : RE K te ρ fun d ρ1 => E.rt (.dat d) ρ1) : RS K (tRet te) ρ E := fun F σ H D' R f =>
  h F σ H R _ fun d ρ1 v H1 q R1 dv m => by
    obtain ⟨R2, m2⟩ := R1.push dv
    exact f.rt _ ρ1 σ v H1 q R2 (m.trans m2)
theorem rs_retO (h : RO K te ρ fun o ρ1 => E.rt o ρ1) : RS K (tRet te) ρ E := fun F σ H D' R f =>
  h F σ H R _ fun o ρ1 v H1 q R1 m => f.rt _ ρ1 σ v H1 q R1 m
theorem rs_retN (q : E.rt (.dat .non) ρ) : RS K tRetN ρ E := fun F σ H D' R f => by
  obtain ⟨R2, m2⟩ := R.push (d := .non) (v := .non) (by unfold DV; rfl)
  exact f.rt _ ρ σ _ H q R2 m2
theorem rs_drop (h : RE K te ρ fun d ρ1 => E.nx ρ1) : RS K (tDrop te) ρ E := fun F σ H D' R f =>
  h F σ H R _ fun d ρ1 v H1 q R1 dv m => f.nx ρ1 σ H1 q R1 m
theorem rs_if (h : RT K t ρ fun b ρ1 => (b = true → RS K s ρ1 E) ∧ (b = false → RS K s' ρ1 E)) : RS K (tIfS t s s') ρ E := fun F σ H D' R f =>
  h F σ H R _ fun b ρ1 H1 ⟨h1, h2⟩ R1 m => by
    cases b with
    | true => exact iteT (h1 rfl F σ H1 D' R1 (f.mv m))
    | false => exact iteF (h2 rfl F σ H1 D' R1 (f.mv m))
theorem rg_name {i : Nat} {d : D} {Q : En → Prop} (hi : i < ρ.length) (q : Q (ρ.set i (some (.dat d)))) : RG K (gName i) d ρ Q := fun F σ H v R dv Q' k => by
  obtain ⟨R1, m⟩ := R.set hi dv
  exact k _ _ H q R1 m
theorem rgs_nil {Q : En → Prop} (q : Q ρ) : RGs K gNil [] ρ Q := fun F σ H vs R dv Q' k => by
  unfold DVs at dv
  exact ⟨dv, k ρ σ H q R .refl⟩
theorem rgs_cons {d : D} {ds : List D} {Q : En → Prop} (h : RG K g d ρ fun ρ1 => RGs K gs ds ρ1 Q) : RGs K (gCons g gs) (d :: ds) ρ Q := fun F σ H vs R dv Q' k => by
  unfold DVs at dv
  obtain ⟨v, r, e, h1, h2⟩ := dv
  exact ⟨v, r, e, h F σ H v R h1 _ fun ρ1 σ1 H1 q R1 m1 => q F σ1 H1 r R1 (h2.mv m1) Q' fun ρ2 σ2 H2 q2 R2 m2 => k ρ2 σ2 H2 q2 R2 (m1.trans m2)⟩
theorem rg_tup {n : Nat} {ds : List D} {Q : En → Prop} (hl : ds.length = n) (h : RGs K gs ds ρ Q) : RG K (gTup K n gs) (.tup ds) ρ Q := fun F σ H v R dv Q' k => by
  obtain ⟨a, xs, e, hs, hv⟩ := dv_tup dv
  exact ⟨a, xs, e, hs, by rw [hv.length, hl], h F σ H xs R hv Q' k⟩
theorem rs_asg (h : RE K te ρ fun d ρ1 => RG K g d ρ1 E.nx) : RS K (tAsg te g) ρ E := fun F σ H D' R f =>
  h F σ H R _ fun d ρ1 v H1 q R1 dv m => q F σ H1 v R1 dv D'.nx fun ρ2 σ2 H2 q2 R2 m2 => f.nx ρ2 σ2 H2 q2 R2 (m.trans m2)
/-- name = data -/
theorem rs_set {i : Nat} (h : RE K te ρ fun d ρ1 => i < ρ1.length ∧ E.nx (ρ1.set i (some (.dat d)))) : RS K (tAsg te (gName i)) ρ E := rs_asg (h.imp fun d ρ1 ⟨hi, q⟩ => rg_name hi q)
/-- name = an owned tree -/
theorem rs_setO {i : Nat} (h : RO K te ρ fun o ρ1 => i < ρ1.length ∧ E.nx (ρ1.set i (some o))) : RS K (tAsg te (gName i)) ρ E := fun F σ H D' R f =>
  h F σ H R _ fun o ρ1 v H1 ⟨hi, q⟩ R1 m => by
    obtain ⟨R2, m2⟩ := R1.into hi
    exact f.nx _ _ H1 q R2 (m.trans m2)
/-- name op= e, on data -/
theorem rs_aug {i : Nat} {ti : TIp} {d0 : D} (hx : ρ[i]? = some (some (.dat d0))) (h : RE K te ρ fun d ρ1 => i < ρ1.length ∧ ∃ z, OD (K := K) ti d0 d z ∧ E.nx (ρ1.set i (some (.dat z)))) : RS K (tAug i te ti) ρ E := fun F σ H D' R f => by
  obtain ⟨x, h1, h2⟩ := R.dat hx
  refine ⟨x, h1, h F σ H R _ fun d ρ1 v H1 ⟨hi, z, od, q⟩ R1 dv m => ?_⟩
  refine od H1 (SS F ρ1) x v (fun a => R1.dom) (h2.mv m) dv _ fun y H2 ex dv' => ?_
  obtain ⟨R2, m2⟩ := (R1.ex ex).set hi dv'
  exact f.nx _ _ H2 q R2 ((m.ex ex).trans m2)
theorem od_ip {g : Int → Int → Int} {i j : Int} : OD (K := K) (ipI g) (.int i) (.int j) (.int (g i j)) := fun H S x y _ hx hy Q' k => by
  rw [dv_int hx, dv_int hy]
  exact ⟨i, j, rfl, rfl, k _ H (fun _ _ h => h) (by unfold DV; rfl)⟩
end
end Ow
namespace Ow
open PySem PySem.Spec PyProof.Rows L2

section
variable {K : PySem.W.Frag} {F : Fm} {ρ : En} {σ : L2.St} {H H' : Hp} {S S' : Addr → Prop}
theorem OV.sub : ∀ {p : List Str} {o o1 : O} {v : V}, Ow.sub o p = some o1 → OV K H S o v → ∃ v1, OV K H S o1 v1
  | [], o, o1, v, h, hv => by
    unfold Ow.sub at h
    cases h
    exact ⟨v, hv⟩
  | f :: p, .dat d, o1, v, h, hv => by unfold Ow.sub at h; cases h
  | f :: p, .lst b ds, o1, v, h, hv => by unfold Ow.sub at h; cases h
  | f :: p, .ins b C ns os, o1, v, h, hv => by
    unfold Ow.sub at h
    cases e : fld ns os f with
    | none => rw [e] at h; cases h
    | some o2 =>
      rw [e] at h
      unfold OV at hv
      obtain ⟨ev, dx, gs, g1, g2, g3⟩ := hv
      obtain ⟨w, q1, q2⟩ := fld_ov g3 g2 e
      exact OV.sub (show Ow.sub o2 p = some o1 from h) q2
theorem Rl.lstAt (R : Rl K F ρ σ H) {i : Nat} {p : List Str} {o : O} {a : Addr} {ds : List D} (e : ρ[i]? = some (some o)) (hs : sub o p = some (.lst a ds)) : ∃ xs, H a = some (.lst xs) ∧ DVs K H (SS F ρ) ds xs := by
  obtain ⟨v, h1, h2⟩ := R.slot i o e
  obtain ⟨v1, h3⟩ := h2.sub hs
  unfold OV at h3
  exact h3.2
theorem Rl.insAt (R : Rl K F ρ σ H) {i : Nat} {p : List Str} {o : O} {a C : Addr} {ns : List Str} {os : List O} (e : ρ[i]? = some (some o)) (hs : sub o p = some (.ins a C ns os)) :
    ∃ dx gs, H a = some (.ins C dx gs) ∧ gs.map (·.1) = ns ∧ OVs K H (SS F ρ) os (gs.map (·.2)) := by
  obtain ⟨v, h1, h2⟩ := R.slot i o e
  obtain ⟨v1, h3⟩ := h2.sub hs
  unfold OV at h3
  exact h3.2
/-- the items of a list at a path are changed -/
theorem Rl.setL (R : Rl K F ρ σ H) {i : Nat} {p : List Str} {o : O} {a : Addr} {ds es : List D} {ys : List V} (e : ρ[i]? = some (some o)) (hs : sub o p = some (.lst a ds)) (hy : DVs K H (SS F ρ) es ys) :
    Rl K F (ρ.set i (some (putAt o p (.lst a es)))) σ (upd H a (.lst ys)) ∧ Mv (SS F ρ) H (SS F (ρ.set i (some (putAt o p (.lst a es))))) (upd H a (.lst ys)) := by
  refine R.write e hs (fun b hb u hu => ?_) (fun b hb => ?_) (by rw [adr_lst]; simp) (fun v m hv => ?_)
  · rw [adr_lst] at hb
    rw [upd_ne (by simpa using hb)]
    exact hu
  · rw [adr_lst] at hb
    exact .inl (by rw [adr_lst]; exact hb)
  · unfold OV at hv ⊢
    exact ⟨hv.1, ys, upd_same, hy.mv m⟩
end

section
variable {K : PySem.W.Frag} {ρ : En} {ta te ti : TE} {E : De} {i : Nat} {p : List Str} {a : Addr} {ds0 : List D}
/-- path.append(e) -/
theorem rs_append (hp : RP K ta ρ i p (.lst a ds0)) (h : RE K te ρ fun d ρ1 => ∃ o ds, ρ1[i]? = some (some o) ∧ sub o p = some (.lst a ds) ∧ ds.length < sizeLine ∧ E.nx (ρ1.set i (some (putAt o p (.lst a (ds ++ [d])))))) :
    RS K (tDrop (tBM K "list" rAppend ta (tCons te tNil))) ρ E := fun F σ H D' R f => hp.2 F σ H R _ fun v hv => by
  unfold OV at hv
  obtain ⟨ev, xs, g1, g2⟩ := hv
  subst ev
  refine ⟨.inl ⟨rfl, xs, SqL.of g1⟩, h F σ H R _ fun d ρ1 y H1 ⟨o, ds, e1, e2, hl, q⟩ R1 dv m => ?_⟩
  obtain ⟨ys, k1, k2⟩ := R1.lstAt e1 e2
  refine ⟨a, ys, y, rfl, rfl, k1, by rw [k2.length]; exact hl, ?_⟩
  obtain ⟨R2, m2⟩ := R1.setL e1 e2 (k2.append (DVs.cons dv DVs.nil))
  exact f.nx _ _ _ q R2 (m.trans m2)
/-- path.extend(e), e a list -/
theorem rs_extend (hp : RP K ta ρ i p (.lst a ds0)) (h : RE K te ρ fun d ρ1 => ∃ es, d = .lst es ∧ ∃ o ds, ρ1[i]? = some (some o) ∧ sub o p = some (.lst a ds) ∧ ds.length + es.length ≤ sizeLine ∧ E.nx (ρ1.set i (some (putAt o p (.lst a (ds ++ es)))))) :
    RS K (tDrop (tBM K "list" rExtend ta (tCons te tNil))) ρ E := fun F σ H D' R f => hp.2 F σ H R _ fun v hv => by
  unfold OV at hv
  obtain ⟨ev, xs, g1, g2⟩ := hv
  subst ev
  refine ⟨.inl ⟨rfl, xs, SqL.of g1⟩, h F σ H R _ fun d ρ1 y H1 ⟨es, ed, o, ds, e1, e2, hl, q⟩ R1 dv m => ?_⟩
  subst ed
  obtain ⟨b, zs, rfl, hb, hz⟩ := dv_lst dv
  obtain ⟨ys, k1, k2⟩ := R1.lstAt e1 e2
  refine ⟨a, b, ys, zs, rfl, rfl, k1, hb, by rw [k2.length, hz.length]; exact hl, ?_⟩
  obtain ⟨R2, m2⟩ := R1.setL e1 e2 (k2.append hz)
  exact f.nx _ _ _ q R2 (m.trans m2)
/-- path[e] = e' -/
theorem rs_setix (h : RE K te ρ fun d ρ1 => RP K ta ρ1 i p (.lst a ds0) ∧ RE K ti ρ1 fun j ρ2 => ∃ k o ds n, j = .int k ∧ ρ2[i]? = some (some o) ∧ sub o p = some (.lst a ds) ∧ ixN ds.length k = some n ∧ E.nx (ρ2.set i (some (putAt o p (.lst a (ds.set n d)))))) :
    RS K (tAsg te (gSub ta ti rSetL)) ρ E := fun F σ H D' R f => h F σ H R _ fun d ρ1 y H1 ⟨hp, h2⟩ R1 dv m => hp.2 F σ H1 R1 _ fun v hv => by
  unfold OV at hv
  obtain ⟨ev, xs, g1, g2⟩ := hv
  subst ev
  refine h2 F σ H1 R1 _ fun j ρ2 w H2 ⟨k, o, ds, n, ej, e1, e2, hn, q⟩ R2 dj m2 => ?_
  subst ej
  obtain ⟨ys, k1, k2⟩ := R2.lstAt e1 e2
  refine ⟨a, ys, k, n, rfl, dv_int dj, k1, by rw [k2.length]; exact hn, ?_⟩
  obtain ⟨R3, m3⟩ := R2.setL e1 e2 (k2.set n (dv.mv m2))
  exact f.nx _ _ _ q R3 ((m.trans m2).trans m3)
end

def setN : List Str → Str → List Str
  | [], f => [f]
  | n :: ns, f => if n = f then n :: ns else n :: setN ns f
def setF : List Str → List O → Str → O → List O
  | [], _, _, z => [z]
  | n :: ns, o :: os, f, z => if n = f then z :: os else o :: setF ns os f z
  | _ :: _, [], _, z => [z]
section
variable {K : PySem.W.Frag} {F : Fm} {ρ : En} {σ : L2.St} {H H' : Hp} {S S' : Addr → Prop}
theorem setN_len : ∀ (ns : List Str) (f : Str), (setN ns f).length ≤ ns.length + 1
  | [], f => by simp [setN]
  | n :: ns, f => by
    have := setN_len ns f
    unfold setN
    split <;> simp only [List.length_cons] <;> omega
theorem putF_names : ∀ {gs : List (Str × V)} {f : Str} {y : V}, (putF f y gs).map (·.1) = setN (gs.map (·.1)) f
  | [], f, y => rfl
  | (g, x) :: gs, f, y => by
    show (if g = f then (g, y) :: gs else (g, x) :: putF f y gs).map (·.1) = if g = f then g :: gs.map (·.1) else g :: setN (gs.map (·.1)) f
    by_cases q : g = f
    · rw [if_pos q, if_pos q]; rfl
    · rw [if_neg q, if_neg q]
      simp only [List.map_cons]
      rw [putF_names]
theorem setF_adr : ∀ {ns : List Str} {os : List O} {f : Str} {z : O}, ns.length = os.length → ∃ A X B, adrs os = A ++ (X ++ B) ∧ adrs (setF ns os f z) = A ++ (adr z ++ B)
  | [], os, f, z, e => by
    cases os with
    | nil => exact ⟨[], [], [], by simp [adrs_nil], by show adrs [z] = _; rw [adrs_cons, adrs_nil]; simp⟩
    | cons o os => cases e
  | n :: ns, [], f, z, e => by cases e
  | n :: ns, o :: os, f, z, e => by
    unfold setF
    by_cases q : n = f
    · rw [if_pos q]
      exact ⟨[], adr o, adrs os, by rw [adrs_cons]; rfl, by rw [adrs_cons]; rfl⟩
    · rw [if_neg q]
      obtain ⟨A, X, B, h1, h2⟩ := setF_adr (f := f) (z := z) (show ns.length = os.length by simpa using e)
      exact ⟨adr o ++ A, X, B, by rw [adrs_cons, h1, List.append_assoc], by rw [adrs_cons, h2, List.append_assoc]⟩
theorem setF_ov : ∀ {gs : List (Str × V)} {os : List O} {f : Str} {z : O} {y : V}, OVs K H S os (gs.map (·.2)) → OV K H' S' z y →
    (∀ o0 v, OV K H S o0 v → (∀ a ∈ adr o0, a ∈ adrs os) → OV K H' S' o0 v) → OVs K H' S' (setF (gs.map (·.1)) os f z) ((putF f y gs).map (·.2))
  | [], os, f, z, y, h, hz, hk => by
    show OVs K H' S' [z] [y]
    unfold OVs
    exact ⟨y, [], rfl, hz, by unfold OVs; rfl⟩
  | (g, x) :: gs, [], f, z, y, h, hz, hk => by
    unfold OVs at h
    cases h
  | (g, x) :: gs, o :: os, f, z, y, h, hz, hk => by
    unfold OVs at h
    obtain ⟨v, r, e, h1, h2⟩ := h
    simp only [List.map_cons, List.cons.injEq] at e
    obtain ⟨e1, e2⟩ := e
    subst e1 e2
    have hk' : ∀ o0 v, OV K H S o0 v → (∀ a ∈ adr o0, a ∈ adrs os) → OV K H' S' o0 v := fun o0 v h0 ha => hk o0 v h0 fun a hm => by
      rw [adrs_cons]
      exact List.mem_append_right _ (ha a hm)
    show OVs K H' S' (if g = f then z :: os else o :: setF (gs.map (·.1)) os f z) ((if g = f then (g, y) :: gs else (g, x) :: putF f y gs).map (·.2))
    by_cases q : g = f
    · rw [if_pos q, if_pos q]
      unfold OVs
      refine ⟨y, gs.map (·.2), rfl, hz, ?_⟩
      have all : ∀ (os' : List O) (r' : List V), OVs K H S os' r' → (∀ a ∈ adrs os', a ∈ adrs os) → OVs K H' S' os' r' := by
        intro os'
        induction os' with
        | nil => intro r' h _; exact h
        | cons o1 os' ih =>
          intro r' h ha
          unfold OVs at h ⊢
          obtain ⟨v', r'', e', g1, g2⟩ := h
          rw [adrs_cons] at ha
          exact ⟨v', r'', e', hk' o1 v' g1 (fun a haa => ha a (List.mem_append_left _ haa)), ih r'' g2 (fun a haa => ha a (List.mem_append_right _ haa))⟩
      exact all os _ h2 (fun _ h => h)
    · rw [if_neg q, if_neg q]
      unfold OVs
      refine ⟨x, (putF f y gs).map (·.2), rfl, hk o x h1 (fun a ha => by rw [adrs_cons]; exact List.mem_append_left _ ha), setF_ov h2 hz hk'⟩
/-- a tree on top goes into a field of the instance at a path -/
theorem Rl.graft {z : O} {y : V} (R : Rl K F (ρ ++ [some z]) (σ ++ [some y]) H) {i : Nat} {p : List Str} {o : O} {a C dx : Addr} {ns : List Str} {os : List O} {gs : List (Str × V)} {f : Str}
    (e : ρ[i]? = some (some o)) (hs : sub o p = some (.ins a C ns os)) (hH : H a = some (.ins C dx gs)) :
    Rl K F (ρ.set i (some (putAt o p (.ins a C (setN ns f) (setF ns os f z))))) σ (upd H a (.ins C dx (putF f y gs))) ∧
      Mv (SS F (ρ ++ [some z])) H (SS F (ρ.set i (some (putAt o p (.ins a C (setN ns f) (setF ns os f z)))))) (upd H a (.ins C dx (putF f y gs))) := by
  have hlen : ρ.length = σ.length := by
    have := R.len
    simpa using this
  have hi : i < ρ.length := (List.getElem?_eq_some_iff.mp e).1
  have e' : (ρ ++ [some z])[i]? = some (some o) := by rw [List.getElem?_append_left hi]; exact e
  have et : (ρ ++ [some z])[ρ.length]? = some (some z) := by simp
  obtain ⟨vz, hz1, hz2⟩ := R.slot ρ.length z et
  have ez : vz = y := by
    rw [hlen] at hz1
    have q : (some (some y) : Option (Option V)) = some (some vz) := by simpa using hz1
    injection q with q
    injection q with q
    exact q.symm
  subst ez
  obtain ⟨dx', gs', g1, g2, g3⟩ := R.insAt e' hs
  rw [hH] at g1
  cases g1
  subst g2
  have hnl : (gs.map (·.1)).length = os.length := by
    have q := g3.length
    rw [List.length_map]
    simpa using q
  obtain ⟨A, B, q1, q2⟩ := put_adr (z := .ins a C (setN (gs.map (·.1)) f) (setF (gs.map (·.1)) os f z)) hs
  obtain ⟨A1, X1, B1, w1, w2⟩ := setF_adr (f := f) (z := z) hnl
  rw [adr_ins, w1] at q1
  rw [adr_ins, w2] at q2
  -- whence an object of the new tree
  have hfrom : ∀ b ∈ adr (putAt o p (.ins a C (setN (gs.map (·.1)) f) (setF (gs.map (·.1)) os f z))), b ∈ adr o ∨ b ∈ adr z := fun b hb => by
    rw [q2] at hb
    rw [q1]
    simp only [List.mem_append, List.mem_cons] at hb ⊢
    rcases hb with hb | ((hb | hb | hb | hb) | hb)
    · exact .inl (.inl hb)
    · exact .inl (.inr (.inl (.inl hb)))
    · exact .inl (.inr (.inl (.inr (.inl hb))))
    · exact .inr hb
    · exact .inl (.inr (.inl (.inr (.inr (.inr hb)))))
    · exact .inl (.inr (.inr hb))
  have get : ∀ (j : Nat) (o' : O), (ρ.set i (some (putAt o p (.ins a C (setN (gs.map (·.1)) f) (setF (gs.map (·.1)) os f z)))))[j]? = some (some o') → (j = i ∧ o' = putAt o p (.ins a C (setN (gs.map (·.1)) f) (setF (gs.map (·.1)) os f z))) ∨ (j ≠ i ∧ j < ρ.length ∧ ρ[j]? = some (some o')) := fun j o' e => by
    by_cases q : j = i
    · subst q
      rw [List.getElem?_set_self hi] at e
      cases e
      exact .inl ⟨rfl, rfl⟩
    · rw [List.getElem?_set_ne (Ne.symm q)] at e
      exact .inr ⟨q, (List.getElem?_eq_some_iff.mp e).1, e⟩
  have up : ∀ (j : Nat) (o' : O), j < ρ.length → ρ[j]? = some (some o') → (ρ ++ [some z])[j]? = some (some o') := fun j o' hj e => by rw [List.getElem?_append_left hj]; exact e
  have ho : ∀ b, own (ρ.set i (some (putAt o p (.ins a C (setN (gs.map (·.1)) f) (setF (gs.map (·.1)) os f z))))) b → own (ρ ++ [some z]) b ∨ H b = none := fun b ⟨j, o', e1, h1⟩ => by
    rcases get j o' e1 with ⟨rfl, rfl⟩ | ⟨q, hj, e2⟩
    · rcases hfrom b h1 with y1 | y1
      · exact .inl ⟨j, o, e', y1⟩
      · exact .inl ⟨ρ.length, z, et, y1⟩
    · exact .inl ⟨j, o', up j o' hj e2, h1⟩
  have ain : a ∈ adr o := by rw [q1]; simp
  have k : ∀ b u, ¬ b = a → H b = some u → upd H a (.ins C dx (putF f vz gs)) b = some u := fun b u nb hu => by rw [upd_ne nb]; exact hu
  have m : Mv (SS F (ρ ++ [some z])) H (SS F (ρ.set i (some (putAt o p (.ins a C (setN (gs.map (·.1)) f) (setF (gs.map (·.1)) os f z)))))) (upd H a (.ins C dx (putF f vz gs))) := mv_own ho fun b u nb hu => k b u (fun q => nb (.inr ⟨i, o, e', by rw [q]; exact ain⟩)) hu
  have ndo := R.nd i o e'
  have ndz := R.nd ρ.length z et
  have dis : ∀ b ∈ adr o, b ∉ adr z := fun b h1 h2 => by
    have := R.dj i ρ.length o z b e' et h1 h2
    omega
  refine ⟨R.renew (by rw [List.length_set, hlen]) (fun j o' e1 => ?_) (fun j o' e1 => ?_) (fun j l o1 o2 b e1 e2 h1 h2 => ?_) ho fun b u nb hu => k b u (fun q => nb ⟨i, o, e', by rw [q]; exact ain⟩) hu, m⟩
  · rcases get j o' e1 with ⟨rfl, rfl⟩ | ⟨q, hj, e2⟩
    · obtain ⟨v, h1, h2⟩ := R.slot j o e'
      refine ⟨v, by rw [List.getElem?_append_left (by omega)] at h1; exact h1, ?_⟩
      refine OV.put m hs h2 (fun v1 hv1 => ?_) (fun b hb nb u hu => k b u (fun q => nb (by rw [adr_ins, q]; exact List.mem_cons_self)) hu) ndo
      unfold OV at hv1 ⊢
      refine ⟨hv1.1, dx, putF f vz gs, upd_same, putF_names, ?_⟩
      have ndi : a ∉ adrs os := by
        rw [w1]
        rw [q1] at ndo
        have := (List.nodup_append.mp (List.nodup_append.mp ndo).2.1).1
        exact (List.nodup_cons.mp this).1
      refine setF_ov g3 (hz2.mv m _ _ fun b hb u hu => k b u (fun q => dis b (by rw [q]; exact ain) hb) hu) (fun o0 v0 h0 ha => h0.mv m _ _ fun b hb u hu => k b u (fun q => ndi (by rw [← q]; exact ha b hb)) hu)
    · obtain ⟨v, h1, h2⟩ := R.slot j o' (up j o' hj e2)
      refine ⟨v, by rw [List.getElem?_append_left (by omega)] at h1; exact h1, h2.mv m _ _ fun b hb u hu => k b u (fun z' => q (R.dj j i o' o b (up j o' hj e2) e' hb (by rw [z']; exact ain))) hu⟩
  · rcases get j o' e1 with ⟨rfl, rfl⟩ | ⟨q, hj, e2⟩
    · rw [q2]
      rw [q1] at ndo dis
      obtain ⟨n1, n2, n3⟩ := List.nodup_append.mp ndo
      obtain ⟨n4, n5, n6⟩ := List.nodup_append.mp n2
      obtain ⟨n7, n8⟩ := List.nodup_cons.mp n4
      obtain ⟨n9, n10, n11⟩ := List.nodup_append.mp n8
      obtain ⟨n12, n13, n14⟩ := List.nodup_append.mp n10
      simp only [List.mem_append, List.mem_cons, not_or] at n3 n6 n7 n11 dis
      refine List.nodup_append.mpr ⟨n1, List.nodup_append.mpr ⟨List.nodup_cons.mpr ⟨?_, List.nodup_append.mpr ⟨n9, List.nodup_append.mpr ⟨ndz, n13, ?_⟩, ?_⟩⟩, n5, ?_⟩, ?_⟩
      · simp only [List.mem_append, not_or]
        exact ⟨n7.1, fun h => dis a (.inr (.inl (.inl rfl))) h, n7.2.2⟩
      · intro b h1 c h2 q
        subst q
        exact dis b (.inr (.inl (.inr (.inr (.inr h2))))) h1
      · intro b h1 c h2 q
        subst q
        rcases List.mem_append.mp h2 with h2 | h2
        · exact dis b (.inr (.inl (.inr (.inl h1)))) h2
        · exact n11 b h1 b (.inr h2) rfl
      · intro b h1 c h2 q
        subst q
        simp only [List.mem_append, List.mem_cons] at h1
        rcases h1 with h1 | h1 | h1 | h1
        · exact n6 b (.inl h1) b h2 rfl
        · exact n6 b (.inr (.inl h1)) b h2 rfl
        · exact dis b (.inr (.inr h2)) h1
        · exact n6 b (.inr (.inr (.inr h1))) b h2 rfl
      · intro b h1 c h2 q
        subst q
        simp only [List.mem_append, List.mem_cons] at h2
        rcases h2 with (h2 | h2 | h2 | h2) | h2
        · exact n3 b h1 b (.inl (.inl h2)) rfl
        · exact n3 b h1 b (.inl (.inr (.inl h2))) rfl
        · exact dis b (.inl h1) h2
        · exact n3 b h1 b (.inl (.inr (.inr (.inr h2)))) rfl
        · exact n3 b h1 b (.inr h2) rfl
    · exact R.nd j o' (up j o' hj e2)
  · rcases get j o1 e1 with ⟨rfl, rfl⟩ | ⟨q, hj, f1⟩
    · rcases get l o2 e2 with ⟨rfl, rfl⟩ | ⟨q', hl', f2⟩
      · rfl
      · rcases hfrom b h1 with y1 | y1
        · exact R.dj _ _ o o2 b e' (up l o2 hl' f2) y1 h2
        · have := R.dj _ _ z o2 b et (up l o2 hl' f2) y1 h2
          omega
    · rcases get l o2 e2 with ⟨rfl, rfl⟩ | ⟨q', hl', f2⟩
      · rcases hfrom b h2 with y1 | y1
        · exact R.dj _ _ o1 o b (up j o1 hj f1) e' h1 y1
        · have := R.dj _ _ o1 z b (up j o1 hj f1) et h1 y1
          omega
      · exact R.dj j l o1 o2 b (up j o1 hj f1) (up l o2 hl' f2) h1 h2
end
section
variable {K : PySem.W.Frag} {ρ : En} {ta tv : TE} {E : De} {f : Str}
/-- path.f = e -/
theorem rs_fld (h : RO K tv ρ fun z ρ1 => ∃ i p a C ns os, RP K ta ρ1 i p (.ins a C ns os) ∧ Cls K C ∧ NoAttr K C f ∧ ns.length < 1000 ∧ ∀ o, ρ1[i]? = some (some o) → E.nx (ρ1.set i (some (putAt o p (.ins a C (setN ns f) (setF ns os f z)))))) :
    RS K (sFld K ta tv f) ρ E := fun F σ H D' R k => h F σ H R _ fun z ρ1 y H1 ⟨i, p, a, C, ns, os, hp, hc, hn, hl, q⟩ R1 m => by
  obtain ⟨R2, m2, _⟩ := R1.pop
  obtain ⟨⟨o, e1, e2⟩, hp2⟩ := hp
  refine hp2 F σ H1 R2 _ fun v hv => ?_
  unfold OV at hv
  obtain ⟨ev, dx, gs, g1, g2, g3⟩ := hv
  subst ev
  refine ⟨a, C, dx, gs, rfl, g1, hc, hn, ?_, ?_⟩
  · rw [← g2, List.length_map] at hl
    exact hl
  · obtain ⟨R3, m3⟩ := R1.graft (f := f) e1 e2 g1
    exact k.nx _ _ _ (q o e1) R3 (m.trans m3)
end

/-- an argument: data, or the part p of slot i's tree whose root is a -/
inductive Ar where
  | dat (d : D) | at (i : Nat) (p : List Str) (a : Addr)
def ArV (K : PySem.W.Frag) (H : Hp) (S : Addr → Prop) : List Ar → List V → Prop
  | [], vs => vs = []
  | .dat d :: as, vs => ∃ v r, vs = v :: r ∧ DV K H S d v ∧ ArV K H S as r
  | .at _ _ a :: as, vs => ∃ r, vs = .ref a :: r ∧ ArV K H S as r
inductive Res (ρ : En) : List Ar → List O → Prop where
  | nil : Res ρ [] []
  | dat {d : D} {as : List Ar} {os : List O} (h : Res ρ as os) : Res ρ (.dat d :: as) (.dat d :: os)
  | at {i : Nat} {p : List Str} {a : Addr} {as : List Ar} {os : List O} {o o1 : O} (e : ρ[i]? = some (some o)) (s : sub o p = some o1) (r : root o1 = some a) (h : Res ρ as os) : Res ρ (.at i p a :: as) (o1 :: os)
def slotsOf : List Ar → List Nat
  | [] => []
  | .dat _ :: as => slotsOf as
  | .at i _ _ :: as => i :: slotsOf as
def pbk (ρ : En) : List Ar → List O → En
  | .dat _ :: as, _ :: os => pbk ρ as os
  | .at i p _ :: as, o :: os => (match ρ[i]? with
    | some (some r) => pbk (ρ.set i (some (putAt r p o))) as os
    | _ => pbk ρ as os)
  | _, _ => ρ
section
variable {K : PySem.W.Frag} {H H' : Hp} {S S' : Addr → Prop}
theorem ArV.mv (m : Mv S H S' H') : ∀ {as : List Ar} {vs : List V}, ArV K H S as vs → ArV K H' S' as vs
  | [], vs, h => h
  | .dat d :: as, vs, h => by
    obtain ⟨v, r, e, h1, h2⟩ := h
    exact ⟨v, r, e, h1.mv m, ArV.mv m h2⟩
  | .at _ _ a :: as, vs, h => by
    obtain ⟨r, e, h2⟩ := h
    exact ⟨r, e, ArV.mv m h2⟩
theorem Res.length {ρ : En} {as : List Ar} {os : List O} (h : Res ρ as os) : as.length = os.length := by
  induction h with
  | nil => rfl
  | dat _ ih => simp [ih]
  | «at» _ _ _ _ ih => simp [ih]
/-- what stands in the environment behind a call -/
theorem pbk_get : ∀ {as : List Ar} {os' : List O} {ρ : En} {os : List O}, Res ρ as os → os'.length = os.length → (slotsOf as).Nodup →
    (pbk ρ as os').length = ρ.length ∧ ∀ (j : Nat) (o' : O), (pbk ρ as os')[j]? = some (some o') →
      (j ∉ slotsOf as ∧ ρ[j]? = some (some o')) ∨ ∃ (k : Nat) (p : List Str) (a : Addr) (o o1 z : O), as[k]? = some (.at j p a) ∧ ρ[j]? = some (some o) ∧ sub o p = some o1 ∧ os[k]? = some o1 ∧ os'[k]? = some z ∧ o' = putAt o p z
  | [], os', ρ, os, h, hl, nd => by
    cases h
    cases os' with
    | nil => exact ⟨rfl, fun j o' e => .inl ⟨by simp [slotsOf], e⟩⟩
    | cons _ _ => cases hl
  | .dat d :: as, [], ρ, os, h, hl, nd => by cases h; cases hl
  | .dat d :: as, z :: os', ρ, os, h, hl, nd => by
    cases h with
    | dat h =>
      obtain ⟨h1, h2⟩ := pbk_get (os' := os') h (by simpa using hl) nd
      refine ⟨h1, fun j o' e => ?_⟩
      rcases h2 j o' e with q | ⟨k, p, a, o, o1, z', q1, q2, q3, q4, q5, q6⟩
      · exact .inl q
      · exact .inr ⟨k + 1, p, a, o, o1, z', by simpa using q1, q2, q3, by simpa using q4, by simpa using q5, q6⟩
  | .at i p a :: as, [], ρ, os, h, hl, nd => by cases h; cases hl
  | .at i p a :: as, z :: os', ρ, os, h, hl, nd => by
    cases h with
    | @«at» _ _ _ _ os o o1 e s r h =>
      obtain ⟨ni, nd'⟩ := List.nodup_cons.mp (show (i :: slotsOf as).Nodup from nd)
      have hi : i < ρ.length := (List.getElem?_eq_some_iff.mp e).1
      have h' : Res (ρ.set i (some (putAt o p z))) as os := by
        have gen : ∀ {as : List Ar} {os : List O}, i ∉ slotsOf as → Res ρ as os → Res (ρ.set i (some (putAt o p z))) as os := by
          intro as os hn hr
          induction hr with
          | nil => exact .nil
          | dat _ ih => exact .dat (ih hn)
          | @«at» i' p' a' as' os' o' o1' e' s' r' _ ih =>
            have hn' : i ∉ i' :: slotsOf as' := hn
            refine .at ?_ s' r' (ih fun q => hn' (List.mem_cons_of_mem _ q))
            rw [List.getElem?_set_ne (fun q => hn' (by rw [q]; exact List.mem_cons_self))]
            exact e'
        exact gen ni h
      have epb : pbk ρ (.at i p a :: as) (z :: os') = pbk (ρ.set i (some (putAt o p z))) as os' := by
        show (match ρ[i]? with | some (some r) => pbk (ρ.set i (some (putAt r p z))) as os' | _ => pbk ρ as os') = _
        rw [e]
      rw [epb]
      obtain ⟨h1, h2⟩ := pbk_get (os' := os') h' (by simpa using hl) nd'
      refine ⟨by rw [h1, List.length_set], fun j o' ej => ?_⟩
      rcases h2 j o' ej with ⟨q1, q2⟩ | ⟨k, p', a', o2, o3, z', q1, q2, q3, q4, q5, q6⟩
      · by_cases q : j = i
        · subst q
          rw [List.getElem?_set_self hi] at q2
          cases q2
          exact .inr ⟨0, p, a, o, o1, z, rfl, e, s, rfl, rfl, rfl⟩
        · rw [List.getElem?_set_ne (Ne.symm q)] at q2
          exact .inl ⟨fun m => by rcases List.mem_cons.mp (show j ∈ i :: slotsOf as from m) with m | m; exact q m; exact q1 m, q2⟩
      · have q : j ≠ i := fun q => by
          subst q
          have : j ∈ slotsOf as := by
            have gen : ∀ (as : List Ar) (k : Nat), as[k]? = some (.at j p' a') → j ∈ slotsOf as := by
              intro as
              induction as with
              | nil => intro k h; simp at h
              | cons x as ih =>
                intro k h
                cases k with
                | zero =>
                  have : x = .at j p' a' := by simpa using h
                  subst this
                  exact List.mem_cons_self
                | succ k =>
                  have := ih k (by simpa using h)
                  cases x with
                  | dat _ => exact this
                  | «at» _ _ _ => exact List.mem_cons_of_mem _ this
            exact gen as k q1
          exact ni this
        rw [List.getElem?_set_ne (Ne.symm q)] at q2
        exact .inr ⟨k + 1, p', a', o2, o3, z', by simpa using q1, q2, q3, by simpa using q4, by simpa using q5, q6⟩
end
/-- a def's promise over trees: from the arguments' trees; what holds of the answer's tree and of the arguments' trees behind -/
def spM (K : PySem.W.Frag) (n : Nat) (f : List O → (O → List O → Prop) → Prop) : Sp := fun vs H Q _ => ∃ (os : List O) (S : Addr → Prop) (Post : O → List O → Prop),
  os.length = n ∧ Rl K ⟨H, S, own (os.map some)⟩ (os.map some) (vs.map some) H ∧ f os Post ∧
    ∀ r os' v H', Post r os' → os'.map root = os.map root → Rl K ⟨H, S, own (os.map some)⟩ (os'.map some ++ [some r]) (vs.map some ++ [some v]) H' →
      Mv (SS ⟨H, S, own (os.map some)⟩ (os.map some)) H (SS ⟨H, S, own (os.map some)⟩ (os'.map some ++ [some r])) H' → Q v H'
section
variable {K : PySem.W.Frag} {F : Fm} {ρ : En} {σ : L2.St} {H : Hp}
theorem res_at {as : List Ar} {os : List O} {vs : List V} {S : Addr → Prop} (h : Res ρ as os) (hv : ArV K H S as vs) : ∀ (k : Nat) (o : O), os[k]? = some o →
    (∃ d v, o = .dat d ∧ as[k]? = some (.dat d) ∧ vs[k]? = some v ∧ DV K H S d v) ∨ ∃ i p a o0, as[k]? = some (.at i p a) ∧ ρ[i]? = some (some o0) ∧ sub o0 p = some o ∧ root o = some a ∧ vs[k]? = some (.ref a) := by
  induction h generalizing vs with
  | nil => intro k o e; simp at e
  | @dat d as os h ih =>
    obtain ⟨v, r, ev, h1, h2⟩ := hv
    subst ev
    intro k o e
    cases k with
    | zero =>
      have : O.dat d = o := by simpa using e
      subst this
      exact .inl ⟨d, v, rfl, rfl, rfl, h1⟩
    | succ k =>
      rcases ih h2 k o (by simpa using e) with ⟨d', v', q1, q2, q3, q4⟩ | ⟨i, p, a, o0, q1, q2, q3, q4, q5⟩
      · exact .inl ⟨d', v', q1, by simpa using q2, by simpa using q3, q4⟩
      · exact .inr ⟨i, p, a, o0, by simpa using q1, q2, q3, q4, by simpa using q5⟩
  | @«at» i p a as os o0 o1 e s r h ih =>
    obtain ⟨rs, ev, h2⟩ := hv
    subst ev
    intro k o e'
    cases k with
    | zero =>
      have : o1 = o := by simpa using e'
      subst this
      exact .inr ⟨i, p, a, o0, rfl, e, s, r, rfl⟩
    | succ k =>
      rcases ih h2 k o (by simpa using e') with ⟨d', v', q1, q2, q3, q4⟩ | ⟨i', p', a', o0', q1, q2, q3, q4, q5⟩
      · exact .inl ⟨d', v', q1, by simpa using q2, by simpa using q3, q4⟩
      · exact .inr ⟨i', p', a', o0', by simpa using q1, q2, q3, q4, by simpa using q5⟩
theorem slots_mem {as : List Ar} {k i : Nat} {p : List Str} {a : Addr} (h : as[k]? = some (.at i p a)) : i ∈ slotsOf as := by
  induction as generalizing k with
  | nil => simp at h
  | cons x as ih =>
    cases k with
    | zero =>
      have : x = .at i p a := by simpa using h
      subst this
      exact List.mem_cons_self
    | succ k =>
      have := ih (k := k) (by simpa using h)
      cases x with
      | dat _ => exact this
      | «at» _ _ _ => exact List.mem_cons_of_mem _ this
theorem slots_inj {as : List Ar} {k l i : Nat} {p q : List Str} {a b : Addr} (nd : (slotsOf as).Nodup) (h1 : as[k]? = some (.at i p a)) (h2 : as[l]? = some (.at i q b)) : k = l := by
  induction as generalizing k l with
  | nil => simp at h1
  | cons x as ih =>
    cases k with
    | zero =>
      have hx : x = .at i p a := by simpa using h1
      subst hx
      obtain ⟨ni, _⟩ := List.nodup_cons.mp (show (i :: slotsOf as).Nodup from nd)
      cases l with
      | zero => rfl
      | succ l => exact absurd (slots_mem (k := l) (by simpa using h2)) ni
    | succ k =>
      cases l with
      | zero =>
        have hx : x = .at i q b := by simpa using h2
        subst hx
        obtain ⟨ni, _⟩ := List.nodup_cons.mp (show (i :: slotsOf as).Nodup from nd)
        exact absurd (slots_mem (k := k) (by simpa using h1)) ni
      | succ l =>
        have nd' : (slotsOf as).Nodup := by
          cases x with
          | dat _ => exact nd
          | «at» _ _ _ => exact (List.nodup_cons.mp nd).2
        rw [ih nd' (k := k) (l := l) (by simpa using h1) (by simpa using h2)]
/-- THE CALL: what a callee's promise gives to the caller -/
theorem call_core {n : Nat} {f : List O → (O → List O → Prop) → Prop} {as : List Ar} {os : List O} {vs : List V} {Q' : VK} {E : XK} {Post : O → List O → Prop} (R : Rl K F ρ σ H) (hv : ArV K H (SS F ρ) as vs) (hr : Res ρ as os) (nd : (slotsOf as).Nodup) (hn : as.length = n)
    (hf : f os Post) (k : ∀ r os' v H', Post r os' → Rl K F (pbk ρ as os' ++ [some r]) (σ ++ [some v]) H' → Mv (SS F ρ) H (SS F (pbk ρ as os' ++ [some r])) H' → Q' v H') : spM K n f vs H Q' E := by
  have rat := res_at (K := K) (H := H) hr hv
  -- what is handed over
  have hT : ∀ a, own (os.map some) a → ∃ (k : Nat) (o : O) (i : Nat) (p : List Str) (b : Addr) (o0 : O), os[k]? = some o ∧ a ∈ adr o ∧ as[k]? = some (.at i p b) ∧ ρ[i]? = some (some o0) ∧ sub o0 p = some o := fun a ⟨k, o, e, h⟩ => by
    have e' : os[k]? = some o := by simpa using e
    rcases rat k o e' with ⟨d, v, q1, q2, q3, q4⟩ | ⟨i, p, b, o0, q1, q2, q3, q4, q5⟩
    · subst q1; rw [adr_dat] at h; cases h
    · exact ⟨k, o, i, p, b, o0, e', h, q1, q2, q3⟩
  have hTo : ∀ a, own (os.map some) a → own ρ a := fun a h => by
    obtain ⟨k, o, i, p, b, o0, _, ha, _, q2, q3⟩ := hT a h
    exact ⟨i, o0, q2, sub_adr q3 a ha⟩
  let Fc : Fm := ⟨H, fun a => SS F ρ a ∧ ¬ own (os.map some) a, own (os.map some)⟩
  have mc : Mv (SS F ρ) H (SS Fc (os.map some)) H := ⟨fun _ _ _ h => h, fun a h => by
    rcases h with h | h
    · exact .inl h.1
    · exact .inl (.inr (hTo a h))⟩
  have hvl : vs.length = os.length := by
    have gen : ∀ {as : List Ar} {vs : List V}, ArV K H (SS F ρ) as vs → vs.length = as.length := by
      intro as
      induction as with
      | nil => intro vs h; rw [show vs = [] from h]; rfl
      | cons x as ih =>
        intro vs h
        cases x with
        | dat d =>
          obtain ⟨v, r, e, _, h2⟩ := h
          rw [e, List.length_cons, List.length_cons, ih h2]
        | «at» i p a =>
          obtain ⟨r, e, h2⟩ := h
          rw [e, List.length_cons, List.length_cons, ih h2]
    rw [gen hv, hr.length]
  have Rc : Rl K Fc (os.map some) (vs.map some) H := by
    refine ⟨by simp [hvl], fun j o e => ?_, fun j o e => ?_, fun i j o o' a e e' h h' => ?_, fun a h hs => hs.2 h, fun a h => .inl h, fun a o _ h => h, fun a h => ⟨R.dom h.1, h.2⟩⟩
    · have e' : os[j]? = some o := by simpa using e
      rcases rat j o e' with ⟨d, v, q1, q2, q3, q4⟩ | ⟨i, p, b, o0, q1, q2, q3, q4, q5⟩
      · subst q1
        exact ⟨v, by simpa using q3, by unfold OV; exact q4.mv mc⟩
      · obtain ⟨v, h1, h2⟩ := R.slot i o0 q2
        obtain ⟨v1, h3⟩ := h2.sub q3
        have := h3.root q4
        subst this
        exact ⟨_, by simpa using q5, h3.mv mc _ _ fun a _ u h => h⟩
    · have e' : os[j]? = some o := by simpa using e
      rcases rat j o e' with ⟨d, v, q1, q2, q3, q4⟩ | ⟨i, p, b, o0, q1, q2, q3, q4, q5⟩
      · subst q1; rw [adr_dat]; exact List.nodup_nil
      · obtain ⟨A, B, w1, _⟩ := put_adr (z := o) q3
        have := R.nd i o0 q2
        rw [w1] at this
        exact (List.nodup_append.mp (List.nodup_append.mp this).2.1).1
    · have f1 : os[i]? = some o := by simpa using e
      have f2 : os[j]? = some o' := by simpa using e'
      rcases rat i o f1 with ⟨d, v, q1, q2, q3, q4⟩ | ⟨i1, p1, b1, o1, q1, q2, q3, q4, q5⟩
      · subst q1; rw [adr_dat] at h; cases h
      · rcases rat j o' f2 with ⟨d, v, w1, w2, w3, w4⟩ | ⟨i2, p2, b2, o2, w1, w2, w3, w4, w5⟩
        · subst w1; rw [adr_dat] at h'; cases h'
        · have := R.dj i1 i2 o1 o2 a q2 w2 (sub_adr q3 a h) (sub_adr w3 a h')
          subst this
          exact slots_inj nd q1 w1
  refine ⟨os, Fc.S, _, by rw [← hr.length, hn], Rc, hf, fun r os' v H' q er R' m' => ?_⟩
  have hol : os'.length = os.length := by
    have := congrArg List.length er
    simpa using this
  obtain ⟨pl, pg⟩ := pbk_get hr hol nd
  -- behind the call
  have keepT : ∀ a u, ¬ own (os.map some) a → H a = some u → H' a = some u := fun a u nt h => R'.fr a u nt h
  have newT : ∀ a, own (os'.map some ++ [some r]) a → own (os.map some) a ∨ H a = none := fun a h => R'.bo a h
  have top : (os'.map some ++ [some r])[os'.length]? = some (some r) := by simp
  have mid : ∀ (k : Nat) (z : O), os'[k]? = some z → (os'.map some ++ [some r])[k]? = some (some z) := fun k z h => by
    have hk : k < os'.length := (List.getElem?_eq_some_iff.mp h).1
    rw [List.getElem?_append_left (by simpa using hk)]
    simp [h]
  -- the new environment
  have cls : ∀ (j : Nat) (o' : O) (a : Addr), (pbk ρ as os' ++ [some r])[j]? = some (some o') → a ∈ adr o' →
      (∃ o, ρ[j]? = some (some o) ∧ a ∈ adr o ∧ ¬ own (os.map some) a) ∨ ∃ (k : Nat) (z : O), (os'.map some ++ [some r])[k]? = some (some z) ∧ a ∈ adr z ∧ ((k = os'.length ∧ j = ρ.length) ∨ (k < os'.length ∧ ∃ p b, as[k]? = some (.at j p b))) := fun j o' a e ha => by
    by_cases hj : j < ρ.length
    · rw [List.getElem?_append_left (by rw [pl]; exact hj)] at e
      rcases pg j o' e with ⟨ns, e2⟩ | ⟨k, p, b, o, o1, z, q1, q2, q3, q4, q5, q6⟩
      · refine .inl ⟨o', e2, ha, fun t => ?_⟩
        obtain ⟨k, o, i, p, b, o0, _, h1, h2, h3, h4⟩ := hT a t
        have := R.dj j i o' o0 a e2 h3 ha (sub_adr h4 a h1)
        subst this
        exact ns (slots_mem h2)
      · subst q6
        obtain ⟨A, B, w1, w2⟩ := put_adr (z := z) q3
        have ndo := R.nd j o q2
        rw [w1] at ndo
        have side : ∀ x ∈ adr o, x ∉ adr o1 → ¬ own (os.map some) x := fun x hx nx t => by
          obtain ⟨k', o', i, p', b', o0, h0, h1, h2, h3, h4⟩ := hT x t
          have := R.dj j i o o0 x q2 h3 hx (sub_adr h4 x h1)
          subst this
          have := slots_inj nd q1 h2
          subst this
          rw [q4] at h0
          cases h0
          exact nx h1
        obtain ⟨n1, n2, n3⟩ := List.nodup_append.mp ndo
        obtain ⟨n4, n5, n6⟩ := List.nodup_append.mp n2
        rw [w2] at ha
        simp only [List.mem_append] at ha
        rcases ha with ha | ha | ha
        · have hao : a ∈ adr o := by rw [w1]; exact List.mem_append_left _ ha
          exact .inl ⟨o, q2, hao, side a hao fun q => n3 a ha a (List.mem_append_left _ q) rfl⟩
        · exact .inr ⟨k, z, mid k z q5, ha, .inr ⟨(List.getElem?_eq_some_iff.mp q5).1, p, b, q1⟩⟩
        · have hao : a ∈ adr o := by rw [w1]; exact List.mem_append_right _ (List.mem_append_right _ ha)
          exact .inl ⟨o, q2, hao, side a hao fun q => n6 a q a ha rfl⟩
    · rw [List.getElem?_append_right (by rw [pl]; omega)] at e
      have hj0 : j - (pbk ρ as os').length = 0 := by
        cases hz : j - (pbk ρ as os').length with
        | zero => rfl
        | succ n => rw [hz] at e; simp at e
      rw [hj0] at e
      have : r = o' := by simpa using e
      subst this
      exact .inr ⟨os'.length, r, top, ha, .inl ⟨rfl, by rw [pl] at hj0; omega⟩⟩
  have ho : ∀ a, own (pbk ρ as os' ++ [some r]) a → own ρ a ∨ H a = none := fun a ⟨j, o', e, ha⟩ => by
    rcases cls j o' a e ha with ⟨o, e2, h2, _⟩ | ⟨k, z, e2, h2, _⟩
    · exact .inl ⟨j, o, e2, h2⟩
    · rcases newT a ⟨k, z, e2, h2⟩ with t | t
      · exact .inl (hTo a t)
      · exact .inr t
  have m2 : Mv (SS F ρ) H (SS F (pbk ρ as os' ++ [some r])) H' := mv_own ho fun a u na hu => keepT a u (fun t => na (.inr (hTo a t))) hu
  have m3 : Mv (SS Fc (os'.map some ++ [some r])) H' (SS F (pbk ρ as os' ++ [some r])) H' := ⟨fun _ _ _ h => h, fun a h => by
    rcases h with h | ⟨j, o', e, ha⟩
    · exact .inl (.inl ⟨.inl h, fun t => R.ow a (hTo a t) h⟩)
    · rcases cls j o' a e ha with ⟨o, e2, h2, nt⟩ | ⟨k, z, e2, h2, _⟩
      · exact .inl (.inl ⟨.inr ⟨j, o, e2, h2⟩, nt⟩)
      · exact .inl (.inr ⟨k, z, e2, h2⟩)⟩
  have live : ∀ a, own ρ a → ∃ u, H a = some u := fun a h => R.dom (.inr h)
  refine k r os' v H' q (R.renew (by rw [List.length_append, List.length_append, pl, R.len]; rfl) (fun j o' e => ?_) (fun j o' e => ?_) (fun i j o o' a e e' h h' => ?_) ho fun a u na hu => keepT a u (fun t => na (hTo a t)) hu) m2
  · by_cases hj : j < ρ.length
    · have e0 := e
      rw [List.getElem?_append_left (by rw [pl]; exact hj)] at e
      rcases pg j o' e with ⟨ns, e2⟩ | ⟨k, p, b, o, o1, z, q1, q2, q3, q4, q5, q6⟩
      · obtain ⟨v', h1, h2⟩ := R.slot j o' e2
        refine ⟨v', by rw [List.getElem?_append_left (by rw [← R.len]; exact hj)]; exact h1, h2.mv m2 _ _ fun a ha u hu => keepT a u (fun t => ?_) hu⟩
        obtain ⟨k, o, i, p, b, o0, _, h1, h2, h3, h4⟩ := hT a t
        have := R.dj j i o' o0 a e2 h3 ha (sub_adr h4 a h1)
        subst this
        exact ns (slots_mem h2)
      · obtain ⟨v', h1, h2⟩ := R.slot j o q2
        refine ⟨v', by rw [List.getElem?_append_left (by rw [← R.len]; exact hj)]; exact h1, ?_⟩
        subst q6
        refine OV.put m2 q3 h2 (fun v1 hv1 => ?_) (fun a ha na u hu => keepT a u (fun t => ?_) hu) (R.nd j o q2)
        · obtain ⟨v2, g1, g2⟩ := R'.slot k z (mid k z q5)
          have er2 : root z = root o1 := by
            have e3 : (os'.map root)[k]? = (os.map root)[k]? := by rw [er]
            rw [List.getElem?_map, List.getElem?_map, q5, q4] at e3
            simpa using e3
          rcases rat k o1 q4 with ⟨d, v', w1, w2, w3, w4⟩ | ⟨i, p', b', o0, w1, w2, w3, w4, w5⟩
          · rw [q1] at w2; cases w2
          · have ez := g2.root (er2.trans w4)
            have e1 := hv1.root w4
            subst ez e1
            exact g2.mv m3 _ _ fun a _ u h => h
        · obtain ⟨k', o', i, p', b', o0, h0, h1, h2, h3, h4⟩ := hT a t
          have := R.dj j i o o0 a q2 h3 ha (sub_adr h4 a h1)
          subst this
          have := slots_inj nd q1 h2
          subst this
          rw [q4] at h0
          cases h0
          exact na h1
    · rw [List.getElem?_append_right (by rw [pl]; omega)] at e
      have hj0 : j - (pbk ρ as os').length = 0 := by
        cases hz : j - (pbk ρ as os').length with
        | zero => rfl
        | succ n => rw [hz] at e; simp at e
      rw [hj0] at e
      have : r = o' := by simpa using e
      subst this
      have ej : j = σ.length := by rw [pl] at hj0; rw [← R.len]; omega
      obtain ⟨v', h1, h2⟩ := R'.slot os'.length r top
      have ev : v' = v := by
        have e3 : os'.length = (vs.map some).length := by simp [hvl, hol]
        rw [e3, List.getElem?_append_right (Nat.le_refl _)] at h1
        have : (some (some v) : Option (Option V)) = some (some v') := by simpa using h1
        injection this with this
        injection this with this
        exact this.symm
      subst ev
      exact ⟨v', by rw [ej]; simp, h2.mv m3 _ _ fun a _ u h => h⟩
  · by_cases hj : j < ρ.length
    · rw [List.getElem?_append_left (by rw [pl]; exact hj)] at e
      rcases pg j o' e with ⟨ns, e2⟩ | ⟨k, p, b, o, o1, z, q1, q2, q3, q4, q5, q6⟩
      · exact R.nd j o' e2
      · subst q6
        obtain ⟨A, B, w1, w2⟩ := put_adr (z := z) q3
        have ndo := R.nd j o q2
        have hz := R'.nd k z (mid k z q5)
        have src : ∀ a ∈ adr z, a ∈ adr o → a ∈ adr o1 := fun a h1 h2 => by
          rcases newT a ⟨k, z, mid k z q5, h1⟩ with t | t
          · obtain ⟨k', o', i, p', b', o0, g0, g1, g2, g3, g4⟩ := hT a t
            have := R.dj j i o o0 a q2 g3 h2 (sub_adr g4 a g1)
            subst this
            have := slots_inj nd q1 g2
            subst this
            rw [q4] at g0
            cases g0
            exact g1
          · obtain ⟨u, hu⟩ := live a ⟨j, o, q2, h2⟩
            rw [t] at hu; cases hu
        rw [w1] at ndo src
        rw [w2]
        obtain ⟨n1, n2, n3⟩ := List.nodup_append.mp ndo
        obtain ⟨n4, n5, n6⟩ := List.nodup_append.mp n2
        refine List.nodup_append.mpr ⟨n1, List.nodup_append.mpr ⟨hz, n5, fun a h1 c h2 q => ?_⟩, fun a h1 c h2 q => ?_⟩
        · subst q
          exact n6 a (src a h1 (List.mem_append_right _ (List.mem_append_right _ h2))) a h2 rfl
        · subst q
          rcases List.mem_append.mp h2 with h2 | h2
          · exact n3 a h1 a (List.mem_append_left _ (src a h2 (List.mem_append_left _ h1))) rfl
          · exact n3 a h1 a (List.mem_append_right _ h2) rfl
    · rw [List.getElem?_append_right (by rw [pl]; omega)] at e
      have hj0 : j - (pbk ρ as os').length = 0 := by
        cases hz : j - (pbk ρ as os').length with
        | zero => rfl
        | succ n => rw [hz] at e; simp at e
      rw [hj0] at e
      have : r = o' := by simpa using e
      subst this
      exact R'.nd os'.length r top
  · rcases cls i o a e h with ⟨o1, e1, g1, nt1⟩ | ⟨k1, z1, e1, g1, t1⟩
    · rcases cls j o' a e' h' with ⟨o2, e2, g2, nt2⟩ | ⟨k2, z2, e2, g2, t2⟩
      · exact R.dj i j o1 o2 a e1 e2 g1 g2
      · rcases newT a ⟨k2, z2, e2, g2⟩ with t | t
        · exact absurd t nt1
        · obtain ⟨u, hu⟩ := live a ⟨i, o1, e1, g1⟩
          rw [t] at hu; cases hu
    · rcases cls j o' a e' h' with ⟨o2, e2, g2, nt2⟩ | ⟨k2, z2, e2, g2, t2⟩
      · rcases newT a ⟨k1, z1, e1, g1⟩ with t | t
        · exact absurd t nt2
        · obtain ⟨u, hu⟩ := live a ⟨j, o2, e2, g2⟩
          rw [t] at hu; cases hu
      · have ek := R'.dj k1 k2 z1 z2 a e1 e2 g1 g2
        subst ek
        rcases t1 with ⟨t1, t1'⟩ | ⟨t1, p1, b1, t1'⟩
        · rcases t2 with ⟨t2, t2'⟩ | ⟨t2, p2, b2, t2'⟩
          · rw [t1', t2']
          · omega
        · rcases t2 with ⟨t2, t2'⟩ | ⟨t2, p2, b2, t2'⟩
          · omega
          · rw [t1'] at t2'
            cases t2'
            rfl
end
end Ow
namespace Ow
open PySem PySem.Spec PyProof.Rows L2

section
variable (K : PySem.W.Frag)
/-- arguments, some of them parts of trees -/
def RA (t : TA) (ρ : En) (Q : List Ar → En → Prop) : Prop :=
  ∀ F σ H, Rl K F ρ σ H → ∀ Q' : List V → Hp → Prop, (∀ as ρ' vs H', Q as ρ' → Rl K F ρ' σ H' → ArV K H' (SS F ρ') as vs → Mv (SS F ρ) H (SS F ρ') H' → Q' vs H') → t σ H Q'
/-- an iterator whose items are the data ds -/
def JD (J : It) (ds : List D) (S : Addr → Prop) (H : Hp) : Prop := ∀ S' H', Mv S H S' H' → (∀ a, S' a → ∃ o, H' a = some o) → ∀ i,
  (i < ds.length → J.go i H') ∧ (ds.length ≤ i → J.stop i H') ∧ ∀ x H2, i < ds.length → J.yld i H' x H2 → Ex H' H2 ∧ ∃ d, ds[i]? = some d ∧ DV K H2 S' d x
def RI (wi : TI) (ρ : En) (Q : List D → En → Prop) : Prop :=
  ∀ F σ H, Rl K F ρ σ H → ∀ R : It → Hp → Prop, (∀ ds ρ' J H', Q ds ρ' → Rl K F ρ' σ H' → Mv (SS F ρ) H (SS F ρ') H' → JD K J ds (SS F ρ') H' → R J H') → wi σ H R
end
section
variable {K : PySem.W.Frag} {ρ : En} {te ta : TE} {ts : TA}
theorem ra_nil {Q : List Ar → En → Prop} (q : Q [] ρ) : RA K tNil ρ Q := fun F σ H R Q' k => k [] ρ [] H q R rfl .refl
theorem ra_dat {Q : List Ar → En → Prop} (h : RE K te ρ fun d ρ1 => RA K ts ρ1 fun as ρ2 => Q (.dat d :: as) ρ2) : RA K (tCons te ts) ρ Q := fun F σ H R Q' k =>
  h F σ H R _ fun d ρ1 v H1 q1 R1 dv m1 => q1 F σ H1 R1 _ fun as ρ2 vs H2 q2 R2 av m2 => k _ ρ2 (v :: vs) H2 q2 R2 ⟨v, vs, rfl, dv.mv m2, av⟩ (m1.trans m2)
theorem ra_at {Q : List Ar → En → Prop} {i : Nat} {p : List Str} {o : O} {a : Addr} (hp : RP K te ρ i p o) (hr : root o = some a) (h : RA K ts ρ fun as ρ2 => Q (.at i p a :: as) ρ2) : RA K (tCons te ts) ρ Q := fun F σ H R Q' k =>
  hp.2 F σ H R _ fun v hv => by
    have := hv.root hr
    subst this
    exact h F σ H R _ fun as ρ2 vs H2 q2 R2 av m2 => k _ ρ2 (.ref a :: vs) H2 q2 R2 ⟨vs, rfl, av⟩ m2
variable {n : Nat} {f : List O → (O → List O → Prop) → Prop} {E0' : XK} {Qo : O → En → Prop}
theorem ro_call (h : RA K ts ρ fun as ρ1 => ∃ os, Res ρ1 as os ∧ (slotsOf as).Nodup ∧ as.length = n ∧ f os fun r os' => Qo r (pbk ρ1 as os')) : RO K (tCall (spM K n f) [] E0' ts) ρ Qo := fun F σ H R Q' k =>
  h F σ H R _ fun as ρ1 vs H1 ⟨os, hr, nd, hn, hf⟩ R1 av m1 => by
    show spM K n f (vs ++ []) H1 Q' E0'
    rw [List.append_nil]
    exact call_core R1 av hr nd hn hf fun r os' v H' q R' m' => k r _ v H' q R' (m1.trans m')
/-- a def that takes data and gives data -/
def pureF (g : List D → Option D) : List O → (O → List O → Prop) → Prop := fun os Post => ∃ ds r, os = ds.map O.dat ∧ g ds = some r ∧ Post (.dat r) os
theorem res_dat : ∀ (ds : List D), Res ρ (ds.map Ar.dat) (ds.map O.dat)
  | [] => .nil
  | d :: ds => .dat (res_dat ds)
theorem slots_dat : ∀ (ds : List D), slotsOf (ds.map Ar.dat) = []
  | [] => rfl
  | d :: ds => slots_dat ds
theorem pbk_dat : ∀ (ds : List D) (os : List O), pbk ρ (ds.map Ar.dat) os = ρ
  | [], os => by cases os <;> rfl
  | d :: ds, [] => rfl
  | d :: ds, o :: os => pbk_dat ds os
theorem arv_dat {H : Hp} {S : Addr → Prop} : ∀ {ds : List D} {vs : List V}, DVs K H S ds vs → ArV K H S (ds.map Ar.dat) vs
  | [], vs, h => by unfold DVs at h; exact h
  | d :: ds, vs, h => by
    unfold DVs at h
    obtain ⟨v, r, e, h1, h2⟩ := h
    exact ⟨v, r, e, h1, arv_dat h2⟩
theorem re_call {g : List D → Option D} {Q : D → En → Prop} (h : RD K ts ρ fun ds ρ1 => ds.length = n ∧ ∃ r, g ds = some r ∧ Q r ρ1) : RE K (tCall (spM K n (pureF g)) [] E0' ts) ρ Q := fun F σ H R Q' k =>
  h F σ H R _ fun ds ρ1 vs H1 ⟨hn, r, hg, q⟩ R1 dv m1 => by
    show spM K n (pureF g) (vs ++ []) H1 Q' E0'
    rw [List.append_nil]
    refine call_core (Post := fun o _ => o = .dat r) R1 (arv_dat dv) (res_dat ds) (by rw [slots_dat]; exact List.nodup_nil) (by simpa using hn) ⟨ds, r, rfl, hg, rfl⟩ fun o os' v H' e R' m' => ?_
    subst e
    rw [pbk_dat] at R' m'
    obtain ⟨R2, m2, dv2⟩ := R'.pop
    exact k r ρ1 v H' q R2 dv2 ((m1.trans m').trans m2)
/-- o.m(..), o a part of a tree -/
theorem ro_meth {i : Nat} {p : List Str} {a C : Addr} {ns : List Str} {os : List O} {m : Str} (hp : RP K ta ρ i p (.ins a C ns os)) (hm : m ∉ ns)
    (h : RA K ts ρ fun as ρ1 => ∃ os1, Res ρ1 (.at i p a :: as) os1 ∧ (slotsOf (.at i p a :: as)).Nodup ∧ as.length + 1 = n ∧ f os1 fun r os' => Qo r (pbk ρ1 (.at i p a :: as) os')) : RO K (tMeth C m (spM K n f) [] E0' ta ts) ρ Qo := fun F σ H R Q' k =>
  hp.2 F σ H R _ fun v hv => by
    unfold OV at hv
    obtain ⟨ev, dx, gs, g1, g2, g3⟩ := hv
    refine ⟨a, dx, gs, ev, g1, ?_, ?_⟩
    · cases e : gs.lookup m with
      | none => rfl
      | some x =>
        have hmem : (m, x) ∈ gs := PySem.mem_of_lookup e
        exact absurd (by rw [← g2]; exact List.mem_map_of_mem (f := (·.1)) hmem) hm
    · subst ev
      refine h F σ H R _ fun as ρ1 vs H1 ⟨os1, hr, nd, hn, hf⟩ R1 av m1 => ?_
      show spM K n f (.ref a :: (vs ++ [])) H1 Q' E0'
      rw [List.append_nil]
      exact call_core R1 (as := .at i p a :: as) ⟨vs, rfl, av⟩ hr nd (by simpa using hn) hf fun r os' v H' q R' m' => k r _ v H' q R' (m1.trans m')
/-- o.m(..), o a frozen instance; the callee takes data -/
theorem re_methD {g : List D → Option D} {Q : D → En → Prop} {C : Addr} {m : Str} (h : RE K ta ρ fun d ρ1 => ∃ ns ds0, d = .ins C ns ds0 ∧ m ∉ ns ∧ RD K ts ρ1 fun ds ρ2 => ds.length + 1 = n ∧ ∃ r, g (d :: ds) = some r ∧ Q r ρ2) : RE K (tMeth C m (spM K n (pureF g)) [] E0' ta ts) ρ Q := fun F σ H R Q' k =>
  h F σ H R _ fun d ρ1 v H1 ⟨ns, ds0, ed, hm, q⟩ R1 dv m1 => by
    subst ed
    have dv0 := dv
    unfold DV at dv
    obtain ⟨a, dx, gs, ev, hs, g1, g2, g3⟩ := dv
    refine ⟨a, dx, gs, ev, g1, ?_, ?_⟩
    · cases e : gs.lookup m with
      | none => rfl
      | some x =>
        have hmem : (m, x) ∈ gs := PySem.mem_of_lookup e
        exact absurd (by rw [← g2]; exact List.mem_map_of_mem (f := (·.1)) hmem) hm
    · refine q F σ H1 R1 _ fun ds ρ2 vs H2 ⟨hn, r, hg, q⟩ R2 dvs m2 => ?_
      show spM K n (pureF g) (v :: (vs ++ [])) H2 Q' E0'
      rw [List.append_nil]
      refine call_core (Post := fun o _ => o = .dat r) R2 (arv_dat (DVs.cons (dv0.mv m2) dvs)) (res_dat _) (by rw [slots_dat]; exact List.nodup_nil) (by simpa using hn) ⟨_, r, rfl, hg, rfl⟩ fun o os' v H' e R' m' => ?_
      subst e
      rw [pbk_dat] at R' m'
      obtain ⟨R3, m3, dv3⟩ := R'.pop
      exact k r ρ2 v H' q R3 dv3 (((m1.trans m2).trans m').trans m3)
/-- an owned answer thrown away, or data -/
theorem re_ro {Q : D → En → Prop} (h : RO K te ρ fun o ρ' => ∃ d, o = .dat d ∧ Q d ρ') : RE K te ρ Q := re_fz fun F σ H R Q' k => h F σ H R Q' fun o ρ' v H' ⟨d, e, q⟩ => k o ρ' v H' (by subst e; exact q)
theorem rs_dropO {E : De} (h : RO K te ρ fun o ρ1 => E.nx ρ1) : RS K (tDrop te) ρ E := fun F σ H D' R f =>
  h F σ H R _ fun o ρ1 v H1 q R1 m => by
    obtain ⟨R2, m2, _⟩ := R1.pop
    exact f.nx ρ1 σ H1 q R2 (m.trans m2)
/-- a new instance on top -/
theorem Rl.newI {F : Fm} {σ : L2.St} {H : Hp} (R : Rl K F ρ σ H) {x dx C : Addr} (hx : H x = none) (hdx : H dx = none) (ne : dx ≠ x) :
    Rl K F (ρ ++ [some (.ins x C [] [])]) (σ ++ [some (.ref x)]) (upd (upd H dx (.own x)) x (.ins C dx [])) ∧ Mv (SS F ρ) H (SS F (ρ ++ [some (.ins x C [] [])])) (upd (upd H dx (.own x)) x (.ins C dx [])) := by
  have ex : Ex H (upd (upd H dx (.own x)) x (.ins C dx [])) := fun a u e => by
    rw [upd_ne (ne_of_none e hx), upd_ne (ne_of_none e hdx)]
    exact e
  obtain ⟨R1, m1⟩ := R.push (d := .non) (v := .non) (by unfold DV; rfl)
  have ho : ∀ a, own (ρ ++ [some (O.ins x C [] [])]) a → own ρ a ∨ H a = none := fun a ⟨j, o, e, h'⟩ => by
    by_cases q : j < ρ.length
    · rw [List.getElem?_append_left q] at e
      exact .inl ⟨j, o, e, h'⟩
    · rw [List.getElem?_append_right (by omega)] at e
      have hj : j - ρ.length = 0 := by
        cases hz : j - ρ.length with
        | zero => rfl
        | succ n => rw [hz] at e; simp at e
      rw [hj] at e
      have eo : O.ins x C [] [] = o := by simpa using e
      subst eo
      rw [adr_ins, adrs_nil] at h'
      have : a = x := by simpa using h'
      subst this
      exact .inr hx
  have m : Mv (SS F ρ) H (SS F (ρ ++ [some (O.ins x C [] [])])) (upd (upd H dx (.own x)) x (.ins C dx [])) := mv_own ho fun a u _ e => ex a u e
  have eset : (ρ ++ [some (O.dat .non)]).set ρ.length (some (.ins x C [] [])) = ρ ++ [some (.ins x C [] [])] := by simp
  have sset : (σ ++ [some (V.non)]).set ρ.length (some (.ref x)) = σ ++ [some (.ref x)] := by rw [R.len]; simp
  have m1' : Mv (SS F (ρ ++ [some (.dat .non)])) H (SS F (ρ ++ [some (.ins x C [] [])])) (upd (upd H dx (.own x)) x (.ins C dx [])) := ⟨fun a u _ e => ex a u e, fun a h => by
    rcases m.own a h with z | z
    · rcases z with z | ⟨j, o, e, z⟩
      · exact .inl (.inl z)
      · exact .inl (.inr ⟨j, o, by rw [List.getElem?_append_left (List.getElem?_eq_some_iff.mp e).1]; exact e, z⟩)
    · exact .inr z⟩
  have R2 := R1.step (i := ρ.length) (o := .ins x C [] []) (v := .ref x) (H' := upd (upd H dx (.own x)) x (.ins C dx [])) (by simp) (by rw [eset]; exact m1')
    (fun a ha => by rw [adr_ins, adrs_nil] at ha; have : a = x := by simpa using ha
                    subst this; exact .inr hx) (by rw [adr_ins, adrs_nil]; simp) (fun a u _ e => ex a u e)
    (by rw [eset]; unfold OV; exact ⟨rfl, dx, [], upd_same, rfl, by unfold OVs; rfl⟩)
  rw [eset, sset] at R2
  exact ⟨R2, m⟩
/-- C(..) -/
theorem ro_make {C : Addr} (h : RA K ts ρ fun as ρ1 => ∃ os, Res ρ1 as os ∧ (slotsOf as).Nodup ∧ as.length + 1 = n ∧ ∀ x, f (.ins x C [] [] :: os) fun r os' => r = .dat .non ∧ ∃ o os'', os' = o :: os'' ∧ Qo o (pbk ρ1 as os'')) : RO K (tMake C (spM K n f) [] E0' ts) ρ Qo := fun F σ H R Q' k =>
  h F σ H R _ fun as ρ1 vs H1 ⟨os, hr, nd, hn, hf⟩ R1 av m1 x dx hx hdx ne => by
    show spM K n f (.ref x :: (vs ++ [])) _ _ E0'
    rw [List.append_nil]
    obtain ⟨R2, m2⟩ := R1.newI (C := C) hx hdx ne
    have lt : ∀ {as : List Ar} {os : List O}, Res ρ1 as os → ∀ i ∈ slotsOf as, i < ρ1.length := by
      intro as os hr
      induction hr with
      | nil => intro i hi; cases hi
      | dat _ ih => exact ih
      | «at» e _ _ _ ih =>
        intro i hi
        rcases List.mem_cons.mp hi with q | q
        · rw [q]; exact (List.getElem?_eq_some_iff.mp e).1
        · exact ih i q
    have up : ∀ {as : List Ar} {os : List O}, Res ρ1 as os → Res (ρ1 ++ [some (.ins x C [] [])]) as os := by
      intro as os hr
      induction hr with
      | nil => exact .nil
      | dat _ ih => exact .dat ih
      | «at» e s r _ ih => exact .at (by rw [List.getElem?_append_left (List.getElem?_eq_some_iff.mp e).1]; exact e) s r ih
    have et : (ρ1 ++ [some (O.ins x C [] [])])[ρ1.length]? = some (some (.ins x C [] [])) := by simp
    have hr2 : Res (ρ1 ++ [some (.ins x C [] [])]) (.at ρ1.length [] x :: as) (.ins x C [] [] :: os) := .at et (by unfold sub; rfl) rfl (up hr)
    have key : ∀ (as : List Ar) (os'' : List O) (ρa : En) (o : O), (∀ i ∈ slotsOf as, i < ρa.length) → pbk (ρa ++ [some o]) as os'' = pbk ρa as os'' ++ [some o] := by
      intro as
      induction as with
      | nil => intro os'' ρa o _; cases os'' <;> rfl
      | cons y as ih =>
        intro os'' ρa o hl
        cases os'' with
        | nil => cases y <;> rfl
        | cons z os'' =>
          cases y with
          | dat d => exact ih os'' ρa o hl
          | «at» i p a =>
            have hi : i < ρa.length := hl i List.mem_cons_self
            have hl' : ∀ j ∈ slotsOf as, j < ρa.length := fun j hj => hl j (List.mem_cons_of_mem _ hj)
            show (match (ρa ++ [some o])[i]? with | some (some r) => pbk ((ρa ++ [some o]).set i (some (putAt r p z))) as os'' | _ => pbk (ρa ++ [some o]) as os'') = (match ρa[i]? with | some (some r) => pbk (ρa.set i (some (putAt r p z))) as os'' | _ => pbk ρa as os'') ++ [some o]
            rw [List.getElem?_append_left hi]
            cases e : ρa[i]? with
            | none => exact ih os'' ρa o hl'
            | some y =>
              cases y with
              | none => exact ih os'' ρa o hl'
              | some r =>
                show pbk ((ρa ++ [some o]).set i (some (putAt r p z))) as os'' = pbk (ρa.set i (some (putAt r p z))) as os'' ++ [some o]
                rw [List.set_append_left _ _ hi]
                exact ih os'' (ρa.set i (some (putAt r p z))) o (fun j hj => by rw [List.length_set]; exact hl' j hj)
    refine call_core R2 (as := .at ρ1.length [] x :: as) ⟨vs, rfl, ArV.mv m2 av⟩ hr2 (List.nodup_cons.mpr ⟨fun q => absurd (lt hr _ q) (Nat.lt_irrefl _), nd⟩) (by simpa using hn) (hf x) fun r os' v H' ⟨er, o, os'', e, q⟩ R' m' => ?_
    subst er e
    have step : pbk (ρ1 ++ [some (.ins x C [] [])]) (.at ρ1.length [] x :: as) (o :: os'') = pbk ρ1 as os'' ++ [some o] := by
      show (match (ρ1 ++ [some (O.ins x C [] [])])[ρ1.length]? with | some (some r) => pbk ((ρ1 ++ [some (O.ins x C [] [])]).set ρ1.length (some (putAt r [] o))) as os'' | _ => pbk (ρ1 ++ [some (O.ins x C [] [])]) as os'') = _
      rw [et]
      have e2 : (ρ1 ++ [some (O.ins x C [] [])]).set ρ1.length (some (putAt (O.ins x C [] []) [] o)) = ρ1 ++ [some o] := by
        have : putAt (O.ins x C [] []) [] o = o := by unfold putAt; rfl
        rw [this]; simp
      show pbk ((ρ1 ++ [some (O.ins x C [] [])]).set ρ1.length (some (putAt (O.ins x C [] []) [] o))) as os'' = _
      rw [e2]
      exact key as os'' ρ1 o (lt hr)
    rw [step] at R' m'
    obtain ⟨R3, m3, dv⟩ := R'.pop
    exact ⟨dv_non dv, k o _ _ H' q R3 (((m1.trans m2).trans m').trans m3)⟩
end
end Ow
namespace Ow
open PySem PySem.Spec PyProof.Rows L2

/-- the arguments' trees at the end: data as it came, owned trees as they are then -/
def back : List O → En → List O
  | [], _ => []
  | .dat d :: os, ρ => .dat d :: back os (ρ.drop 1)
  | o :: os, ρ => (match ρ with
    | some o' :: _ => o'
    | _ => .dat .non) :: back os (ρ.drop 1)
def fin (os : List O) (Post : O → List O → Prop) : De where
  nx := fun ρ' => Post (.dat .non) (back os ρ') ∧ (back os ρ').map root = os.map root
  rt := fun r ρ' => Post r (back os ρ') ∧ (back os ρ').map root = os.map root
theorem back_length : ∀ (os : List O) (ρ : En), (back os ρ).length = os.length
  | [], ρ => rfl
  | .dat d :: os, ρ => by unfold back; rw [List.length_cons, List.length_cons, back_length]
  | .lst a ds :: os, ρ => by unfold back; rw [List.length_cons, List.length_cons, back_length]
  | .ins a C ns fs :: os, ρ => by unfold back; rw [List.length_cons, List.length_cons, back_length]
theorem back_get : ∀ {os : List O} {ρ : En} {k : Nat} {o : O}, (back os ρ).map root = os.map root → os[k]? = some o →
    (∃ d, o = .dat d ∧ (back os ρ)[k]? = some (.dat d)) ∨ ∃ o' a, root o = some a ∧ root o' = some a ∧ (back os ρ)[k]? = some o' ∧ ρ[k]? = some (some o')
  | [], ρ, k, o, h, e => by simp at e
  | .dat d :: os, ρ, 0, o, h, e => by
    have : O.dat d = o := by simpa using e
    subst this
    exact .inl ⟨d, rfl, by unfold back; rfl⟩
  | .dat d :: os, ρ, k + 1, o, h, e => by
    unfold back at h ⊢
    rcases back_get (ρ := ρ.drop 1) (k := k) (by simpa using h) (show os[k]? = some o by simpa using e) with ⟨d', q1, q2⟩ | ⟨o', a, q1, q2, q3, q4⟩
    · exact .inl ⟨d', q1, by simpa using q2⟩
    · refine .inr ⟨o', a, q1, q2, by simpa using q3, ?_⟩
      rw [List.getElem?_drop] at q4
      rw [Nat.add_comm] at q4
      exact q4
  | .lst b ds :: os, ρ, 0, o, h, e => by
    have : O.lst b ds = o := by simpa using e
    subst this
    unfold back at h ⊢
    cases ρ with
    | nil => simp [root] at h
    | cons x ρ =>
      cases x with
      | none => simp [root] at h
      | some o' =>
        have q := (List.cons.inj (show root o' :: _ = root (.lst b ds) :: _ from h)).1
        exact .inr ⟨o', b, rfl, q, rfl, rfl⟩
  | .lst b ds :: os, ρ, k + 1, o, h, e => by
    unfold back at h ⊢
    rcases back_get (ρ := ρ.drop 1) (k := k) ((List.cons.inj (show root _ :: _ = root (.lst b ds) :: _ from h)).2) (show os[k]? = some o by simpa using e) with ⟨d', q1, q2⟩ | ⟨o', a, q1, q2, q3, q4⟩
    · exact .inl ⟨d', q1, by simpa using q2⟩
    · refine .inr ⟨o', a, q1, q2, by simpa using q3, ?_⟩
      rw [List.getElem?_drop] at q4
      rw [Nat.add_comm] at q4
      exact q4
  | .ins b C ns fs :: os, ρ, 0, o, h, e => by
    have : O.ins b C ns fs = o := by simpa using e
    subst this
    unfold back at h ⊢
    cases ρ with
    | nil => simp [root] at h
    | cons x ρ =>
      cases x with
      | none => simp [root] at h
      | some o' =>
        have q := (List.cons.inj (show root o' :: _ = root (.ins b C ns fs) :: _ from h)).1
        exact .inr ⟨o', b, rfl, q, rfl, rfl⟩
  | .ins b C ns fs :: os, ρ, k + 1, o, h, e => by
    unfold back at h ⊢
    rcases back_get (ρ := ρ.drop 1) (k := k) ((List.cons.inj (show root _ :: _ = root (.ins b C ns fs) :: _ from h)).2) (show os[k]? = some o by simpa using e) with ⟨d', q1, q2⟩ | ⟨o', a, q1, q2, q3, q4⟩
    · exact .inl ⟨d', q1, by simpa using q2⟩
    · refine .inr ⟨o', a, q1, q2, by simpa using q3, ?_⟩
      rw [List.getElem?_drop] at q4
      rw [Nat.add_comm] at q4
      exact q4
theorem start_get {N : List Str} {vs : List V} {k : Nat} (h : k < vs.length) : (L2.start N vs)[k]? = (vs.map some)[k]? := by
  unfold L2.start
  rw [List.getElem?_append_left (by simpa using h)]
theorem fn_body {K : PySem.W.Frag} {t : TS} {N : List Str} {n : Nat} {f : List O → (O → List O → Prop) → Prop} (hN : n ≤ N.length)
    (h : ∀ os Post, os.length = n → f os Post → RS K t (os.map some ++ List.replicate (N.length - n) none) (fin os Post)) (vs : List V) (H : Hp) (Q : VK) (E : XK) (hs : spM K n f vs H Q E) :
    t { nx := fun _ H' => Q .non H', rt := Q } (L2.start N vs) H := by
  obtain ⟨os, S, Post, hn, R, hf, k⟩ := hs
  have hvl : vs.length = os.length := by
    have := R.len
    simpa using this.symm
  -- the start
  have R0 : Rl K ⟨H, S, own (os.map some)⟩ (os.map some ++ List.replicate (N.length - n) none) (L2.start N vs) H ∧ Mv (SS ⟨H, S, own (os.map some)⟩ (os.map some)) H (SS ⟨H, S, own (os.map some)⟩ (os.map some ++ List.replicate (N.length - n) none)) H := by
    refine R.remap (by unfold L2.start; simp [hvl, hn]) id (fun i o e => ?_) (fun i j _ _ _ _ h => h)
    by_cases hi : i < os.length
    · rw [List.getElem?_append_left (by simpa using hi)] at e
      exact ⟨e, start_get (by omega)⟩
    · rw [List.getElem?_append_right (by simpa using Nat.le_of_not_lt hi), List.getElem?_replicate] at e
      split at e <;> cases e
  obtain ⟨R0, m0⟩ := R0
  -- the end
  have ends : ∀ r ρ' σ' v H', Post r (back os ρ') → (back os ρ').map root = os.map root → Rl K ⟨H, S, own (os.map some)⟩ (ρ' ++ [some r]) (σ' ++ [some v]) H' →
      Mv (SS ⟨H, S, own (os.map some)⟩ (os.map some ++ List.replicate (N.length - n) none)) H (SS ⟨H, S, own (os.map some)⟩ (ρ' ++ [some r])) H' → Q v H' := fun r ρ' σ' v H' hP er R' m' => by
    have hbl := back_length os ρ'
    have hl' : ρ'.length = σ'.length := by
      have := R'.len
      simpa using this
    have m1 := m0.trans m'
    have top : (ρ' ++ [some r])[ρ'.length]? = some (some r) := by simp
    have get : ∀ (j : Nat) (o : O), ((back os ρ').map some ++ [some r])[j]? = some (some o) →
        (∃ d v', o = .dat d ∧ vs[j]? = some v' ∧ j < os.length ∧ DV K H' (SS ⟨H, S, own (os.map some)⟩ (ρ' ++ [some r])) d v') ∨
        (j < os.length ∧ (ρ' ++ [some r])[j]? = some (some o) ∧ j < ρ'.length ∧ ∃ a, root o = some a ∧ vs[j]? = some (.ref a)) ∨ (j = os.length ∧ o = r) := fun j o e => by
      by_cases hj : j < os.length
      · rw [List.getElem?_append_left (by rw [List.length_map, hbl]; exact hj)] at e
        have e' : (back os ρ')[j]? = some o := by simpa using e
        have e0 : os[j]? = some os[j] := by simp [hj]
        obtain ⟨v0, w1, w2⟩ := R.slot j os[j] (by simp [hj])
        have w1' : vs[j]? = some v0 := by simpa using w1
        rcases back_get er e0 with ⟨d, q1, q2⟩ | ⟨o', a, q1, q2, q3, q4⟩
        · rw [e'] at q2
          cases q2
          rw [q1] at w2
          unfold OV at w2
          exact .inl ⟨d, v0, rfl, w1', hj, w2.mv m1⟩
        · rw [e'] at q3
          cases q3
          have hj2 : j < ρ'.length := (List.getElem?_eq_some_iff.mp q4).1
          have := w2.root q1
          subst this
          exact .inr (.inl ⟨hj, by rw [List.getElem?_append_left hj2]; exact q4, hj2, a, q2, w1'⟩)
      · rw [List.getElem?_append_right (by rw [List.length_map, hbl]; omega)] at e
        have hj0 : j - ((back os ρ').map some).length = 0 := by
          cases hz : j - ((back os ρ').map some).length with
          | zero => rfl
          | succ n => rw [hz] at e; simp at e
        rw [hj0] at e
        have : r = o := by simpa using e
        subst this
        rw [List.length_map, hbl] at hj0
        exact .inr (.inr ⟨by omega, rfl⟩)
    have ho : ∀ a, own ((back os ρ').map some ++ [some r]) a → own (ρ' ++ [some r]) a ∨ H' a = none := fun a ⟨j, o, e, ha⟩ => by
      rcases get j o e with ⟨d, v', q1, _⟩ | ⟨_, q1, _⟩ | ⟨_, q1⟩
      · subst q1; rw [adr_dat] at ha; cases ha
      · exact .inl ⟨j, o, q1, ha⟩
      · subst q1; exact .inl ⟨ρ'.length, o, top, ha⟩
    have m2 : Mv (SS ⟨H, S, own (os.map some)⟩ (ρ' ++ [some r])) H' (SS ⟨H, S, own (os.map some)⟩ ((back os ρ').map some ++ [some r])) H' := mv_own ho fun _ _ _ h => h
    have R2 : Rl K ⟨H, S, own (os.map some)⟩ ((back os ρ').map some ++ [some r]) (vs.map some ++ [some v]) H' := by
      refine R'.renew (by simp [hbl, hvl]) (fun j o e => ?_) (fun j o e => ?_) (fun i j o o' a e e' h h' => ?_) ho fun _ _ _ h => h
      · rcases get j o e with ⟨d, v', q1, q2, q3, q4⟩ | ⟨q0, q1, q2, a, q3, q4⟩ | ⟨q0, q1⟩
        · subst q1
          exact ⟨v', by rw [List.getElem?_append_left (by simp; omega)]; simp [q2], by unfold OV; exact q4.mv m2⟩
        · obtain ⟨v', w1, w2⟩ := R'.slot j o q1
          have := w2.root q3
          subst this
          exact ⟨_, by rw [List.getElem?_append_left (by simp; omega)]; simp [q4], w2.mv m2 _ _ fun a _ u h => h⟩
        · subst q1
          obtain ⟨v', w1, w2⟩ := R'.slot ρ'.length o top
          have ev : v' = v := by
            rw [hl', List.getElem?_append_right (Nat.le_refl _)] at w1
            have : (some (some v) : Option (Option V)) = some (some v') := by simpa using w1
            injection this with this
            injection this with this
            exact this.symm
          subst ev
          refine ⟨v', ?_, w2.mv m2 _ _ fun a _ u h => h⟩
          rw [q0, List.getElem?_append_right (by simp; omega)]
          simp [hvl]
      · rcases get j o e with ⟨d, v', q1, _⟩ | ⟨_, q1, _⟩ | ⟨_, q1⟩
        · subst q1; rw [adr_dat]; exact List.nodup_nil
        · exact R'.nd j o q1
        · subst q1; exact R'.nd ρ'.length o top
      · rcases get i o e with ⟨d, v', q1, _⟩ | ⟨z1, q1, q2, _⟩ | ⟨z1, q1⟩
        · subst q1; rw [adr_dat] at h; cases h
        · rcases get j o' e' with ⟨d, v', w1, _⟩ | ⟨y1, w1, w2, _⟩ | ⟨y1, w1⟩
          · subst w1; rw [adr_dat] at h'; cases h'
          · exact R'.dj i j o o' a q1 w1 h h'
          · subst w1
            have := R'.dj i ρ'.length o o' a q1 top h h'
            omega
        · rcases get j o' e' with ⟨d, v', w1, _⟩ | ⟨y1, w1, w2, _⟩ | ⟨y1, w1⟩
          · subst w1; rw [adr_dat] at h'; cases h'
          · subst q1
            have := R'.dj ρ'.length j o o' a top w1 h h'
            omega
          · omega
    refine k r (back os ρ') v H' hP er R2 ?_
    have m3 : Mv (SS ⟨H, S, own (os.map some)⟩ (os.map some)) H (SS ⟨H, S, own (os.map some)⟩ ((back os ρ').map some ++ [some r])) H' := m1.trans m2
    exact m3
  exact h os Post hn hf _ _ H _ R0 ⟨fun ρ' σ' H' ⟨q1, q2⟩ R' m' => by
    obtain ⟨R2, m2⟩ := R'.push (d := .non) (v := .non) (by unfold DV; rfl)
    exact ends _ ρ' σ' .non H' q1 q2 R2 (m'.trans m2), fun o ρ' σ' v H' ⟨q1, q2⟩ R' m' => ends o ρ' σ' v H' q1 q2 R' m', fun _ _ _ z => z.elim, fun _ _ _ z => z.elim⟩
theorem spM_len {K : PySem.W.Frag} {n : Nat} {f : List O → (O → List O → Prop) → Prop} (vs : List V) (H : Hp) (Q : VK) (E : XK) (h : spM K n f vs H Q E) : vs.length = n := by
  obtain ⟨os, S, Post, hn, R, _⟩ := h
  have := R.len
  simp at this
  omega

section
variable {K : PySem.W.Frag} {ρ : En} {te : TE} {t tt : TT} {tb : TS} {E : De}
theorem rs_while (Iv : Nat → En → Prop) (m0 : Nat) (h0 : Iv m0 ρ) (hs : ∀ m ρ', Iv m ρ' → RT K t ρ' fun b ρ1 => (b = true → RS K tb ρ1 { E with nx := fun ρ2 => ∃ m', m' < m ∧ Iv m' ρ2, ct := fun ρ2 => ∃ m', m' < m ∧ Iv m' ρ2, bk := E.nx }) ∧ (b = false → E.nx ρ1)) :
    RS K (tWhile t tb) ρ E := fun F σ H D' R f => by
  refine ⟨fun m σ' H' => ∃ ρ', Iv m ρ' ∧ Rl K F ρ' σ' H' ∧ Mv (SS F ρ) H (SS F ρ') H', ⟨m0, ρ, h0, R, .refl⟩, ?_⟩
  rintro m σ1 H1 ⟨ρ1, i1, R1, m1⟩
  refine hs m ρ1 i1 F σ1 H1 R1 _ fun b ρ2 H2 ⟨q1, q2⟩ R2 m2 => ?_
  cases b with
  | false => exact iteF (f.nx ρ2 σ1 H2 (q2 rfl) R2 (m1.trans m2))
  | true =>
    refine iteT ⟨fun σ' H' => ∃ m', m' < m ∧ ∃ ρ', Iv m' ρ' ∧ Rl K F ρ' σ' H' ∧ Mv (SS F ρ) H (SS F ρ') H', fun σ' H' ⟨m', l, z⟩ => ⟨m', l, z⟩, ?_⟩
    have f2 := f.mv (m1.trans m2)
    exact q1 rfl F σ1 H2 _ R2 ⟨fun ρ' σ' H' ⟨m', l, i⟩ r mm => ⟨m', l, ρ', i, r, (m1.trans m2).trans mm⟩, f2.rt, fun ρ' σ' H' q r mm => f2.nx ρ' σ' H' q r mm, fun ρ' σ' H' ⟨m', l, i⟩ r mm => ⟨m', l, ρ', i, r, (m1.trans m2).trans mm⟩⟩
theorem rs_for {wi : TI} {g : TG} (h : RI K wi ρ fun ds ρ1 => ∃ Iv : Nat → En → Prop, Iv 0 ρ1 ∧ (∀ i d ρ', ds[i]? = some d → Iv i ρ' → RG K g d ρ' fun ρ2 => RS K tb ρ2 { E with nx := Iv (i + 1), ct := Iv (i + 1), bk := E.nx }) ∧ ∀ ρ', Iv ds.length ρ' → E.nx ρ') :
    RS K (tFor wi g tb) ρ E := fun F σ H D' R f => h F σ H R _ fun ds ρ1 J H1 ⟨Iv, i0, hs, hd⟩ R1 m1 jd => by
  refine ⟨fun i m σ' H' => m = ds.length - i ∧ i ≤ ds.length ∧ ∃ ρ', Iv i ρ' ∧ Rl K F ρ' σ' H' ∧ Mv (SS F ρ1) H1 (SS F ρ') H', ⟨ds.length, by simp, Nat.zero_le _, ρ1, i0, R1, .refl⟩, ?_⟩
  rintro i m σ2 H2 ⟨em, hi, ρ2, i2, R2, m2⟩
  obtain ⟨j1, j2, j3⟩ := jd (SS F ρ2) H2 m2 (fun a => R2.dom) i
  have f2 := f.mv (m1.trans m2)
  by_cases hlt : i < ds.length
  · refine .inr ⟨j1 hlt, fun σ' H' => ∃ ρ', Iv (i + 1) ρ' ∧ Rl K F ρ' σ' H' ∧ Mv (SS F ρ1) H1 (SS F ρ') H', fun σ' H' z => ⟨ds.length - (i + 1), by omega, rfl, hlt, z⟩, fun x H3 y => ?_⟩
    obtain ⟨ex, d, ed, dv⟩ := j3 x H3 hlt y
    have R3 := R2.ex ex
    refine hs i d ρ2 ed i2 F σ2 H3 x R3 dv _ fun ρ4 σ4 H4 q4 R4 m4 => ?_
    have mm := (Mv.ofEx (S := SS F ρ2) ex).trans m4
    have f4 := f2.mv mm
    exact q4 F σ4 H4 _ R4 ⟨fun ρ' σ' H' q r m' => ⟨ρ', q, r, (m2.trans mm).trans m'⟩, f4.rt, fun ρ' σ' H' q r m' => f4.nx ρ' σ' H' q r m', fun ρ' σ' H' q r m' => ⟨ρ', q, r, (m2.trans mm).trans m'⟩⟩
  · have e : i = ds.length := by omega
    subst e
    exact .inl ⟨j2 (Nat.le_refl _), f2.nx ρ2 σ2 H2 (hd ρ2 i2) R2 .refl⟩
theorem jd_list {a : Addr} {ds : List D} {xs : List V} {S : Addr → Prop} {H : Hp} (hs : ¬ S a) (h : H a = some (.lst xs)) (dv : DVs K H S ds xs) : JD K (Itl K a) ds S H := fun S' H' m _ i => by
  have h' := m.keep a _ hs h
  have dv' := dv.mv m
  have hl := dv'.length
  refine ⟨fun hi => ⟨xs, xs[i]'(by omega), SqL.of h', by simp⟩, fun hi => ⟨xs, SqL.of h', by omega⟩, fun x H2 hi ⟨e, y⟩ => ?_⟩
  subst e
  obtain ⟨d, q1, q2⟩ := dv'.get' (y xs (SqL.of h'))
  exact ⟨fun _ _ h => h, d, q1, q2⟩
theorem jd_tup {v : V} {ds : List D} {S : Addr → Prop} {H : Hp} (dv : DV K H S (.tup ds) v) : ∃ a, v = .ref a ∧ (∃ xs, SqT K H a xs) ∧ JD K (Itt K a) ds S H := by
  unfold DV at dv
  obtain ⟨a, xs, e, h, hv⟩ := dv
  refine ⟨a, e, ?_, fun S' H' m _ i => ?_⟩
  · rcases h with ⟨_, h⟩ | h
    · exact ⟨xs, .inl h⟩
    · exact ⟨xs, .inr h⟩
  · have hq : SqT K H' a xs := by
      rcases h with ⟨hs, h⟩ | h
      · exact .inl (rd_mv m hs h).2
      · exact .inr h
    have dv' := hv.mv m
    have hl := dv'.length
    refine ⟨fun hi => ⟨xs, xs[i]'(by omega), hq, by simp⟩, fun hi => ⟨xs, hq, by omega⟩, fun x H2 hi ⟨e, y⟩ => ?_⟩
    subst e
    obtain ⟨d, q1, q2⟩ := dv'.get' (y xs hq)
    exact ⟨fun _ _ h => h, d, q1, q2⟩
theorem jd_scr {v : V} {ns : List Int} {S : Addr → Prop} {H : Hp} (dv : DV K H S (.scr ns) v) : ∃ a, v = .ref a ∧ (∃ xs, SqL K H a xs) ∧ JD K (Itl K a) (ns.map D.int) S H := by
  unfold DV at dv
  obtain ⟨a, e, h⟩ := dv
  refine ⟨a, e, ?_, fun S' H' m _ i => ?_⟩
  · rcases h with ⟨_, h⟩ | h
    · exact ⟨_, .inl h⟩
    · exact ⟨_, .inr h⟩
  · have hq : SqL K H' a (ns.map V.int) := by
      rcases h with ⟨hs, h⟩ | h
      · exact .inl (rd_mv m hs h).2
      · exact .inr h
    refine ⟨fun hi => ⟨_, (ns.map V.int)[i]'(by simpa using hi), hq, by simp⟩, fun hi => ⟨_, hq, by simpa using hi⟩, fun x H2 hi ⟨e, y⟩ => ?_⟩
    subst e
    have q := y _ hq
    have hi' : i < ns.length := by simpa using hi
    have ex : x = .int ns[i] := by
      rw [List.getElem?_map] at q
      rw [List.getElem?_eq_getElem hi'] at q
      simpa using q.symm
    subst ex
    exact ⟨fun _ _ h => h, .int ns[i], by simp [hi'], by unfold DV; rfl⟩
theorem jd_range {lo : Int} {n : Nat} {S : Addr → Prop} {H : Hp} : JD K (Itr lo n) ((List.range n).map fun (i : Nat) => D.int (lo + (i : Int))) S H := fun S' H' m _ i => by
  refine ⟨fun hi => by show i < n; simpa using hi, fun hi => by show n ≤ i; simpa using hi, fun x H2 hi ⟨e, y⟩ => ?_⟩
  subst e y
  have hi' : i < n := by simpa using hi
  exact ⟨fun _ _ h => h, .int (lo + (i : Int)), by simp [hi'], by unfold DV; rfl⟩
theorem jd_str {x : Str} {S : Addr → Prop} {H : Hp} : JD K (Its x) (x.cps.toList.map fun c => D.str ⟨#[c]⟩) S H := fun S' H' m _ i => by
  have hl : (x.cps.toList.map fun c => D.str ⟨#[c]⟩).length = x.cps.size := by simp
  refine ⟨fun hi => by show i < x.cps.size; omega, fun hi => by show x.cps.size ≤ i; omega, fun v H2 hi ⟨e, c, ec, ev⟩ => ?_⟩
  subst e ev
  have : x.cps.toList[i]? = some c := by rw [Array.getElem?_toList]; exact ec
  exact ⟨fun _ _ h => h, .str ⟨#[c]⟩, by simp only [List.getElem?_map, this, Option.map_some], by unfold DV; rfl⟩
/-- over a list | a tuple | the script -/
theorem ri_list {Q : List D → En → Prop} (h : RE K te ρ fun d ρ1 => (∃ ds, d = .lst ds ∧ Q ds ρ1) ∨ ∃ ns, d = .scr ns ∧ Q (ns.map D.int) ρ1) : RI K (iList K te) ρ Q := fun F σ H R Rk k =>
  h F σ H R _ fun d ρ1 v H1 q R1 dv m => by
    rcases q with ⟨ds, e, q⟩ | ⟨ns, e, q⟩
    · subst e
      unfold DV at dv
      obtain ⟨a, xs, ev, hs, hH, hv⟩ := dv
      exact ⟨a, ev, ⟨xs, SqL.of hH⟩, k ds ρ1 _ H1 q R1 m (jd_list hs hH hv)⟩
    · subst e
      obtain ⟨a, ev, hq, jd⟩ := jd_scr dv
      exact ⟨a, ev, hq, k _ ρ1 _ H1 q R1 m jd⟩
theorem ri_tup {Q : List D → En → Prop} (h : RE K te ρ fun d ρ1 => ∃ ds, d = .tup ds ∧ Q ds ρ1) : RI K (iTup K te) ρ Q := fun F σ H R Rk k =>
  h F σ H R _ fun d ρ1 v H1 ⟨ds, e, q⟩ R1 dv m => by
    subst e
    obtain ⟨a, ev, hq, jd⟩ := jd_tup dv
    exact ⟨a, ev, hq, k ds ρ1 _ H1 q R1 m jd⟩
theorem ri_rng1 {ts : TA} {Q : List D → En → Prop} (h : RD K ts ρ fun ds ρ1 => ∃ n : Int, ds = [.int n] ∧ -(2 ^ 62) ≤ n ∧ n < 2 ^ 62 ∧ Q ((List.range n.toNat).map fun (i : Nat) => D.int (i : Int)) ρ1) : RI K (iRng1 ts) ρ Q := fun F σ H R Rk k =>
  h F σ H R _ fun ds ρ1 vs H1 ⟨n, e, b1, b2, q⟩ R1 dv m => by
    subst e
    obtain ⟨x, rfl, hx⟩ := dvs1 dv
    have e2 : ((List.range n.toNat).map fun (i : Nat) => D.int ((0 : Int) + (i : Int))) = (List.range n.toNat).map fun (i : Nat) => D.int (i : Int) := List.map_congr_left fun i _ => by rw [Int.zero_add]
    exact ⟨n, by rw [dv_int hx], b1, b2, k _ ρ1 _ H1 q R1 m (by rw [← e2]; exact jd_range)⟩
theorem ri_rng2 {ts : TA} {Q : List D → En → Prop} (h : RD K ts ρ fun ds ρ1 => ∃ l n : Int, ds = [.int l, .int n] ∧ (-(2 ^ 62) ≤ l ∧ l < 2 ^ 62 ∧ -(2 ^ 62) ≤ n ∧ n < 2 ^ 62) ∧ Q ((List.range (n - l).toNat).map fun (i : Nat) => D.int (l + (i : Int))) ρ1) : RI K (iRng2 ts) ρ Q := fun F σ H R Rk k =>
  h F σ H R _ fun ds ρ1 vs H1 ⟨l, n, e, b, q⟩ R1 dv m => by
    subst e
    obtain ⟨x, y, rfl, hx, hy⟩ := dvs2 dv
    exact ⟨l, n, by rw [dv_int hx, dv_int hy], b, k _ ρ1 _ H1 q R1 m jd_range⟩
theorem ri_str {Q : List D → En → Prop} (h : RE K te ρ fun d ρ1 => ∃ x, d = .str x ∧ Q (x.cps.toList.map fun c => D.str ⟨#[c]⟩) ρ1) : RI K (iStr te) ρ Q := fun F σ H R Rk k =>
  h F σ H R _ fun d ρ1 v H1 ⟨x, e, q⟩ R1 dv m => by
    subst e
    exact ⟨x, dv_str dv, k _ ρ1 _ H1 q R1 m jd_str⟩
end

def wipeE (ρ : En) : List Nat → En
  | [] => ρ
  | v :: vs => (wipeE ρ vs).set v none
theorem wipeE_length (ρ : En) : ∀ vs : List Nat, (wipeE ρ vs).length = ρ.length
  | [] => rfl
  | v :: vs => by unfold wipeE; rw [List.length_set, wipeE_length ρ vs]
theorem wipeE_some {ρ : En} {i : Nat} {o : O} : ∀ {vs : List Nat}, (wipeE ρ vs)[i]? = some (some o) → ρ[i]? = some (some o) ∧ i ∉ vs
  | [], h => ⟨h, by simp⟩
  | v :: vs, h => by
    unfold wipeE at h
    by_cases hi : v = i
    · subst hi
      by_cases hv : v < (wipeE ρ vs).length
      · rw [List.getElem?_set_self hv] at h; cases h
      · rw [List.getElem?_eq_none (by rw [List.length_set]; omega)] at h; cases h
    · rw [List.getElem?_set_ne hi] at h
      obtain ⟨h1, h2⟩ := wipeE_some h
      exact ⟨h1, by simp; exact ⟨fun q => hi q.symm, h2⟩⟩
theorem wipe_get {σ : L2.St} {i : Nat} : ∀ {vs : List Nat}, i ∉ vs → (wipe σ vs)[i]? = σ[i]?
  | [], h => rfl
  | v :: vs, h => by
    unfold wipe
    simp at h
    rw [List.getElem?_set_ne (fun q => h.1 q.symm)]
    exact wipe_get h.2
section
variable {K : PySem.W.Frag} {F : Fm} {ρ : En} {σ : L2.St} {H : Hp}
theorem Rl.wipe (R : Rl K F ρ σ H) (vs : List Nat) : Rl K F (wipeE ρ vs) (wipe σ vs) H ∧ Mv (SS F ρ) H (SS F (wipeE ρ vs)) H :=
  R.remap (by rw [wipeE_length, wipe_length, R.len]) id (fun i o e => ⟨(wipeE_some e).1, wipe_get (wipeE_some e).2⟩) (fun i j _ _ _ _ h => h)
end
section
variable (K : PySem.W.Frag)
/-- a comprehension's target, its slots js -/
def RC (g : TG) (js : List Nat) (d : D) (ρ : En) (Q : En → Prop) : Prop :=
  ∀ F σ H v, Rl K F ρ σ H → DV K H (SS F ρ) d v → ∀ Q' : L2.St → Hp → Prop, (∀ ρ' σ' H', Q ρ' → Rl K F ρ' σ' H' → Mv (SS F ρ) H (SS F ρ') H' → (∀ vs, (∀ j ∈ js, j ∈ vs) → wipe σ' vs = wipe σ vs) → Q' σ' H') → g v σ H Q'
def RCs (g : TGs) (js : List Nat) (ds : List D) (ρ : En) (Q : En → Prop) : Prop :=
  ∀ F σ H xs, Rl K F ρ σ H → DVs K H (SS F ρ) ds xs → ∀ Q' : L2.St → Hp → Prop, (∀ ρ' σ' H', Q ρ' → Rl K F ρ' σ' H' → Mv (SS F ρ) H (SS F ρ') H' → (∀ vs, (∀ j ∈ js, j ∈ vs) → wipe σ' vs = wipe σ vs) → Q' σ' H') → g xs σ H Q'
end
theorem wipe_set {σ : L2.St} {j : Nat} {x : Option V} : ∀ {vs : List Nat}, j ∈ vs → wipe (σ.set j x) vs = wipe σ vs := by
  intro vs h
  apply List.ext_getElem?
  intro i
  have hl : (wipe (σ.set j x) vs).length = (wipe σ vs).length := by rw [wipe_length, wipe_length, List.length_set]
  by_cases hi : i ∈ vs
  · -- both are none, or beyond
    have gen : ∀ (τ : L2.St) (vs : List Nat), i ∈ vs → i < τ.length → (wipe τ vs)[i]? = some none := by
      intro τ vs
      induction vs with
      | nil => intro h; cases h
      | cons v vs ih =>
        intro h hlt
        unfold wipe
        by_cases q : v = i
        · subst q
          rw [List.getElem?_set_self (by rw [wipe_length]; exact hlt)]
        · rw [List.getElem?_set_ne q]
          rcases List.mem_cons.mp h with z | z
          · exact absurd z.symm q
          · exact ih z hlt
    by_cases hlt : i < σ.length
    · rw [gen _ vs hi (by rw [List.length_set]; exact hlt), gen _ vs hi hlt]
    · rw [List.getElem?_eq_none (by rw [wipe_length, List.length_set]; omega), List.getElem?_eq_none (by rw [wipe_length]; omega)]
  · rw [wipe_get hi, wipe_get hi, List.getElem?_set_ne (fun q => hi (by rw [← q]; exact h))]
section
variable {K : PySem.W.Frag} {ρ : En}
theorem rc_name {j : Nat} {d : D} {Q : En → Prop} (hi : j < ρ.length) (q : Q (ρ.set j (some (.dat d)))) : RC K (gName j) [j] d ρ Q := fun F σ H v R dv Q' k => by
  obtain ⟨R1, m⟩ := R.set hi dv
  exact k _ _ H q R1 m fun vs hv => wipe_set (hv j (by simp))
theorem rcs_nil {Q : En → Prop} (q : Q ρ) : RCs K gNil [] [] ρ Q := fun F σ H vs R dv Q' k => by
  unfold DVs at dv
  exact ⟨dv, k ρ σ H q R .refl fun _ _ => rfl⟩
theorem rcs_cons {g : TG} {gs : TGs} {j : Nat} {js : List Nat} {d : D} {ds : List D} {Q : En → Prop} (h : RC K g [j] d ρ fun ρ1 => RCs K gs js ds ρ1 Q) : RCs K (gCons g gs) (j :: js) (d :: ds) ρ Q := fun F σ H vs R dv Q' k => by
  unfold DVs at dv
  obtain ⟨v, r, e, h1, h2⟩ := dv
  exact ⟨v, r, e, h F σ H v R h1 _ fun ρ1 σ1 H1 q R1 m1 w1 => q F σ1 H1 r R1 (h2.mv m1) Q' fun ρ2 σ2 H2 q2 R2 m2 w2 => k ρ2 σ2 H2 q2 R2 (m1.trans m2) fun vs hv => (w2 vs fun l hl => hv l (List.mem_cons_of_mem _ hl)).trans (w1 vs fun l hl => hv l (by rw [List.mem_singleton.mp hl]; exact List.mem_cons_self))⟩
theorem rc_tup {gs : TGs} {js : List Nat} {n : Nat} {ds : List D} {Q : En → Prop} (hl : ds.length = n) (h : RCs K gs js ds ρ Q) : RC K (gTup K n gs) js (.tup ds) ρ Q := fun F σ H v R dv Q' k => by
  obtain ⟨a, xs, e, hs, hv⟩ := dv_tup dv
  exact ⟨a, xs, e, hs, by rw [hv.length, hl], h F σ H xs R hv Q' k⟩
/-- the environment behind a comprehension: its own names as before -/
def unwipe (ρ0 : En) (ρ' : En) (vs : List Nat) : En := vs.foldl (fun r v => r.set v (ρ0[v]?.getD none)) ρ'
theorem unwipe_length (ρ0 : En) : ∀ (vs : List Nat) (ρ' : En), (unwipe ρ0 ρ' vs).length = ρ'.length
  | [], ρ' => rfl
  | v :: vs, ρ' => by
    show (unwipe ρ0 (ρ'.set v (ρ0[v]?.getD none)) vs).length = _
    rw [unwipe_length ρ0 vs, List.length_set]
theorem unwipe_get {ρ0 : En} {i : Nat} : ∀ {vs : List Nat} {ρ' : En}, (i ∉ vs → (unwipe ρ0 ρ' vs)[i]? = ρ'[i]?) ∧ (i ∈ vs → i < ρ'.length → (unwipe ρ0 ρ' vs)[i]? = some (ρ0[i]?.getD none))
  | [], ρ' => ⟨fun _ => rfl, fun h => by cases h⟩
  | v :: vs, ρ' => by
    have ih := unwipe_get (ρ0 := ρ0) (i := i) (vs := vs) (ρ' := ρ'.set v (ρ0[v]?.getD none))
    have e : unwipe ρ0 ρ' (v :: vs) = unwipe ρ0 (ρ'.set v (ρ0[v]?.getD none)) vs := rfl
    rw [e]
    refine ⟨fun h => ?_, fun h hl => ?_⟩
    · simp at h
      rw [ih.1 h.2, List.getElem?_set_ne (fun q => h.1 q.symm)]
    · by_cases hi : i ∈ vs
      · exact ih.2 hi (by rw [List.length_set]; exact hl)
      · rw [ih.1 hi]
        rcases List.mem_cons.mp h with q | q
        · subst q
          rw [List.getElem?_set_self hl]
        · exact absurd q hi
/-- the tree on top is set aside: within, its objects are owned outside -/
theorem Rl.hide {F : Fm} {σ : L2.St} {H : Hp} {o : O} {v : V} (R : Rl K F (ρ ++ [some o]) (σ ++ [some v]) H) :
    Rl K ⟨H, fun a => F.S a ∨ a ∈ adr o, own ρ⟩ ρ σ H ∧ Mv (SS F (ρ ++ [some o])) H (SS ⟨H, fun a => F.S a ∨ a ∈ adr o, own ρ⟩ ρ) H ∧
      ∀ ρ' σ' H', Rl K ⟨H, fun a => F.S a ∨ a ∈ adr o, own ρ⟩ ρ' σ' H' → Mv (SS ⟨H, fun a => F.S a ∨ a ∈ adr o, own ρ⟩ ρ) H (SS ⟨H, fun a => F.S a ∨ a ∈ adr o, own ρ⟩ ρ') H' →
        Rl K F (ρ' ++ [some o]) (σ' ++ [some v]) H' ∧ Mv (SS ⟨H, fun a => F.S a ∨ a ∈ adr o, own ρ⟩ ρ') H' (SS F (ρ' ++ [some o])) H' := by
  have hl : ρ.length = σ.length := by
    have := R.len
    simpa using this
  have et : (ρ ++ [some o])[ρ.length]? = some (some o) := by simp
  have up : ∀ (j : Nat) (o' : O), ρ[j]? = some (some o') → (ρ ++ [some o])[j]? = some (some o') := fun j o' e => by rw [List.getElem?_append_left (List.getElem?_eq_some_iff.mp e).1]; exact e
  have oup : ∀ a, own ρ a → own (ρ ++ [some o]) a := fun a ⟨j, o', e, h⟩ => ⟨j, o', up j o' e, h⟩
  have m0 : Mv (SS F (ρ ++ [some o])) H (SS ⟨H, fun a => F.S a ∨ a ∈ adr o, own ρ⟩ ρ) H := ⟨fun _ _ _ h => h, fun a h => by
    rcases h with (h | h) | h
    · exact .inl (.inl h)
    · exact .inl (.inr ⟨_, o, et, h⟩)
    · exact .inl (.inr (oup a h))⟩
  have R1 : Rl K ⟨H, fun a => F.S a ∨ a ∈ adr o, own ρ⟩ ρ σ H := by
    refine ⟨hl, fun i o' e => ?_, fun i o' e => R.nd i o' (up i o' e), fun i j o1 o2 a e1 e2 => R.dj i j o1 o2 a (up i o1 e1) (up j o2 e2), fun a h hs => ?_, fun a h => .inl h, fun a u _ h => h, fun a h => ⟨R.dom (h.elim .inl fun h => .inr ⟨_, o, et, h⟩), fun q => ?_⟩⟩
    · have hi : i < ρ.length := (List.getElem?_eq_some_iff.mp e).1
      obtain ⟨v', h1, h2⟩ := R.slot i o' (up i o' e)
      exact ⟨v', by rw [List.getElem?_append_left (by omega)] at h1; exact h1, h2.mv m0 _ _ fun a _ u h => h⟩
    · rcases hs with hs | hs
      · exact R.ow a (oup a h) hs
      · obtain ⟨j, o', e, h⟩ := h
        have := R.dj j ρ.length o' o a (up j o' e) et h hs
        have hj : j < ρ.length := (List.getElem?_eq_some_iff.mp e).1
        omega
    · rcases h with hs | hs
      · exact R.ow a (oup a q) hs
      · obtain ⟨j, o', e, h⟩ := q
        have := R.dj j ρ.length o' o a (up j o' e) et h hs
        have hj : j < ρ.length := (List.getElem?_eq_some_iff.mp e).1
        omega
  refine ⟨R1, m0, fun ρ' σ' H' R' m' => ?_⟩
  obtain ⟨v', h1, h2⟩ := R.slot ρ.length o et
  have ev : v' = v := by
    rw [hl] at h1
    have : (some (some v) : Option (Option V)) = some (some v') := by simpa using h1
    injection this with this
    injection this with this
    exact this.symm
  subst ev
  have get : ∀ (j : Nat) (o' : O), (ρ' ++ [some o])[j]? = some (some o') → (j < ρ'.length ∧ ρ'[j]? = some (some o')) ∨ (j = ρ'.length ∧ o' = o) := fun j o' e => by
    by_cases q : j < ρ'.length
    · rw [List.getElem?_append_left q] at e
      exact .inl ⟨q, e⟩
    · rw [List.getElem?_append_right (by omega)] at e
      have hj : j - ρ'.length = 0 := by
        cases hz : j - ρ'.length with
        | zero => rfl
        | succ n => rw [hz] at e; simp at e
      rw [hj] at e
      have eo : o = o' := by simpa using e
      exact .inr ⟨by omega, eo.symm⟩
  have keep : ∀ a u, ¬ own ρ a → H a = some u → H' a = some u := R'.fr
  have top : ∀ a ∈ adr o, ¬ own ρ a := fun a ha q => (R1.sd a (.inr ha)).2 q
  have m1 : Mv (SS ⟨H, fun a => F.S a ∨ a ∈ adr o, own ρ⟩ ρ') H' (SS F (ρ' ++ [some o])) H' := ⟨fun _ _ _ h => h, fun a h => by
    rcases h with h | ⟨j, o', e, h⟩
    · exact .inl (.inl (.inl h))
    · rcases get j o' e with ⟨_, e⟩ | ⟨_, rfl⟩
      · exact .inl (.inr ⟨j, o', e, h⟩)
      · exact .inl (.inl (.inr h))⟩
  have hl' := R'.len
  refine ⟨?_, m1⟩
  have mm : Mv (SS F (ρ ++ [some o])) H (SS F (ρ' ++ [some o])) H' := (m0.trans m').trans m1
  refine R.renew (by simp [hl']) (fun j o' e => ?_) (fun j o' e => ?_) (fun i j o1 o2 a e1 e2 g1 g2 => ?_) (fun a ⟨j, o', e, h⟩ => ?_) (fun a u na h => keep a u (fun q => na (oup a q)) h)
  · rcases get j o' e with ⟨hj, e⟩ | ⟨hj, rfl⟩
    · obtain ⟨w, g1, g2⟩ := R'.slot j o' e
      exact ⟨w, by rw [List.getElem?_append_left (by omega)]; exact g1, g2.mv m1 _ _ fun a _ u h => h⟩
    · exact ⟨v', by rw [hj, hl']; simp, h2.mv mm _ _ fun a ha u h => keep a u (top a ha) h⟩
  · rcases get j o' e with ⟨hj, e⟩ | ⟨hj, rfl⟩
    · exact R'.nd j o' e
    · exact R.nd _ _ et
  · rcases get i o1 e1 with ⟨hi, f1⟩ | ⟨hi, rfl⟩
    · rcases get j o2 e2 with ⟨hj, f2⟩ | ⟨hj, rfl⟩
      · exact R'.dj i j o1 o2 a f1 f2 g1 g2
      · exact absurd (Or.inr g2) (R'.ow a ⟨i, o1, f1, g1⟩)
    · rcases get j o2 e2 with ⟨hj, f2⟩ | ⟨hj, rfl⟩
      · exact absurd (Or.inr g1) (R'.ow a ⟨j, o2, f2, g2⟩)
      · rw [hi, hj]
  · rcases get j o' e with ⟨hj, e⟩ | ⟨hj, rfl⟩
    · rcases R'.bo a ⟨j, o', e, h⟩ with y | y
      · exact .inl (oup a y)
      · exact .inr y
    · exact .inl ⟨_, o', et, h⟩
theorem sub_nil {o : O} : sub o [] = some o := by unfold sub; rfl
theorem putAt_nil {o z : O} : putAt o [] z = z := by unfold putAt; rfl
theorem ro_lc {wi : TI} {g : TG} {tt : TT} {te : TE} {vs : List Nat} {Qo : O → En → Prop} (h : RI K wi ρ fun ds ρ1 => (∀ v ∈ vs, ∀ o, ρ1[v]? = some (some o) → ∃ d, o = .dat d) ∧ ds.length < sizeLine ∧ ∃ Iv : Nat → List D → En → Prop, Iv 0 [] (wipeE ρ1 vs) ∧
      (∀ i d outs ρ', ds[i]? = some d → Iv i outs ρ' → RC K g vs d ρ' fun ρ2 => RT K tt ρ2 fun b ρ3 => (b = true → RE K te ρ3 fun y ρ4 => Iv (i + 1) (outs ++ [y]) (wipeE ρ4 vs)) ∧ (b = false → Iv (i + 1) outs (wipeE ρ3 vs))) ∧
      ∀ outs ρ' p, Iv ds.length outs ρ' → Qo (.lst p outs) (unwipe ρ1 ρ' vs)) : RO K (tLc wi g tt te vs) ρ Qo := fun F σ H R Q' k => h F σ H R _ fun ds ρ1 J H1 ⟨hw, hlen, Iv, i0, hs, hd⟩ R1 m1 jd => by
  intro Dl hD
  obtain ⟨Rw, mw⟩ := R1.wipe vs
  obtain ⟨R2, m2⟩ := Rw.newL (ds := []) (xs := []) hD DVs.nil
  have m20 := mw.trans m2
  refine ⟨fun i m H' => m = ds.length - i ∧ i ≤ ds.length ∧ ∃ ρ' outs, outs.length ≤ i ∧ Iv i outs ρ' ∧ Rl K F (ρ' ++ [some (.lst Dl outs)]) (L2.wipe σ vs ++ [some (.ref Dl)]) H' ∧ Mv (SS F ρ1) H1 (SS F (ρ' ++ [some (.lst Dl outs)])) H',
    ⟨ds.length, by simp, Nat.zero_le _, wipeE ρ1 vs, [], Nat.le_refl _, i0, R2, m20⟩, ?_⟩
  rintro i m H3 ⟨em, hi, ρ3, outs, hol, i3, R3, m3⟩
  obtain ⟨j1, j2, j3⟩ := jd _ H3 m3 (fun a => R3.dom) i
  by_cases hlt : i < ds.length
  · refine .inr ⟨j1 hlt, fun H' => ∃ ρ' outs, outs.length ≤ i + 1 ∧ Iv (i + 1) outs ρ' ∧ Rl K F (ρ' ++ [some (.lst Dl outs)]) (L2.wipe σ vs ++ [some (.ref Dl)]) H' ∧ Mv (SS F ρ1) H1 (SS F (ρ' ++ [some (.lst Dl outs)])) H', fun H' z => ⟨ds.length - (i + 1), by omega, rfl, hlt, z⟩, fun x H4 y => ?_⟩
    obtain ⟨ex4, d, ed, dv⟩ := j3 x H4 hlt y
    have R4 := R3.ex ex4
    have m4 := m3.ex ex4
    obtain ⟨R5, m5, un⟩ := R4.hide
    refine hs i d outs ρ3 ed i3 _ (L2.wipe σ vs) H4 x R5 (dv.mv m5) _ fun ρ6 σ6 H6 q6 R6 m6 w6 => ⟨?_, ?_⟩
    · have e1 := w6 vs fun j hj => hj
      have e2 : L2.wipe (L2.wipe σ vs) vs = L2.wipe σ vs := by
        have gen : ∀ us : List Nat, (∀ v ∈ us, v ∈ vs) → L2.wipe (L2.wipe σ us) vs = L2.wipe σ vs := by
          intro us
          induction us with
          | nil => intro _; rfl
          | cons u us ih =>
            intro h
            show L2.wipe ((L2.wipe σ us).set u none) vs = _
            rw [wipe_set (h u List.mem_cons_self)]
            exact ih fun v hv => h v (List.mem_cons_of_mem _ hv)
        exact gen vs fun _ h => h
      exact e1.trans e2
    have ew : L2.wipe σ6 vs = L2.wipe σ vs := by
      have e1 := w6 vs fun j hj => hj
      have gen : ∀ us : List Nat, (∀ v ∈ us, v ∈ vs) → L2.wipe (L2.wipe σ us) vs = L2.wipe σ vs := by
        intro us
        induction us with
        | nil => intro _; rfl
        | cons u us ih =>
          intro h
          show L2.wipe ((L2.wipe σ us).set u none) vs = _
          rw [wipe_set (h u List.mem_cons_self)]
          exact ih fun v hv => h v (List.mem_cons_of_mem _ hv)
      exact e1.trans (gen vs fun _ h => h)
    refine q6 _ σ6 H6 R6 _ fun b ρ7 H7 ⟨q7, q8⟩ R7 m7 => ?_
    cases b with
    | false =>
      refine iteF ?_
      obtain ⟨R8, m8⟩ := R7.wipe vs
      rw [ew] at R8
      obtain ⟨R9, m9⟩ := un _ _ H7 R8 ((m6.trans m7).trans m8)
      exact ⟨_, outs, by omega, q8 rfl, R9, ((m4.trans m5).trans ((m6.trans m7).trans m8)).trans m9⟩
    | true =>
      refine iteT (q7 rfl _ σ6 H7 R7 _ fun y ρ8 v8 H8 q9 R8 dv8 m8 => ?_)
      obtain ⟨R9, m9⟩ := R8.wipe vs
      rw [ew] at R9
      have mm := ((m6.trans m7).trans m8).trans m9
      obtain ⟨R10, m10⟩ := un _ _ H8 R9 mm
      have et : (wipeE ρ8 vs ++ [some (O.lst Dl outs)])[(wipeE ρ8 vs).length]? = some (some (.lst Dl outs)) := by simp
      obtain ⟨acc, hacc, dacc⟩ := R10.lstAt et sub_nil
      have dy := (dv8.mv m9).mv m10
      obtain ⟨R11, m11⟩ := R10.setL et sub_nil (dacc.append (DVs.cons dy DVs.nil))
      have eset : (wipeE ρ8 vs ++ [some (O.lst Dl outs)]).set (wipeE ρ8 vs).length (some (putAt (O.lst Dl outs) [] (.lst Dl (outs ++ [y])))) = wipeE ρ8 vs ++ [some (.lst Dl (outs ++ [y]))] := by
        rw [putAt_nil]; simp
      rw [eset] at R11 m11
      refine ⟨acc, hacc, ?_, _, outs ++ [y], by simp; omega, q9, R11, (((m4.trans m5).trans mm).trans m10).trans m11⟩
      rw [dacc.length]
      omega
  · have e : i = ds.length := by omega
    subst e
    refine .inl ⟨j2 (Nat.le_refl _), ?_⟩
    have hl3 : ρ3.length = σ.length := by
      have := R3.len
      simp [wipe_length] at this
      exact this
    have et : (ρ3 ++ [some (O.lst Dl outs)])[ρ3.length]? = some (some (.lst Dl outs)) := by simp
    -- the names of the comprehension are as they were
    have fin : Rl K F (unwipe ρ1 ρ3 vs ++ [some (.lst Dl outs)]) (σ ++ [some (.ref Dl)]) H3 ∧ Mv (SS F (ρ3 ++ [some (.lst Dl outs)])) H3 (SS F (unwipe ρ1 ρ3 vs ++ [some (.lst Dl outs)])) H3 := by
      have ul := unwipe_length ρ1 vs ρ3
      have get : ∀ (j : Nat) (o : O), (unwipe ρ1 ρ3 vs ++ [some (O.lst Dl outs)])[j]? = some (some o) → (j = ρ3.length ∧ o = .lst Dl outs) ∨ (j < ρ3.length ∧ j ∉ vs ∧ ρ3[j]? = some (some o)) ∨ (j < ρ3.length ∧ j ∈ vs ∧ ρ1[j]? = some (some o) ∧ ∃ d, o = .dat d) := fun j o e => by
        by_cases hj : j < ρ3.length
        · rw [List.getElem?_append_left (by rw [ul]; exact hj)] at e
          by_cases hv : j ∈ vs
          · rw [unwipe_get.2 hv hj] at e
            cases e1 : ρ1[j]? with
            | none => rw [e1] at e; cases e
            | some y =>
              rw [e1] at e
              have : y = some o := by simpa using e
              subst this
              exact .inr (.inr ⟨hj, hv, rfl, hw j hv o e1⟩)
          · rw [unwipe_get.1 hv] at e
            exact .inr (.inl ⟨hj, hv, e⟩)
        · rw [List.getElem?_append_right (by rw [ul]; omega)] at e
          have hj0 : j - (unwipe ρ1 ρ3 vs).length = 0 := by
            cases hz : j - (unwipe ρ1 ρ3 vs).length with
            | zero => rfl
            | succ n => rw [hz] at e; simp at e
          rw [hj0] at e
          rw [ul] at hj0
          have eo : O.lst Dl outs = o := by simpa using e
          exact .inl ⟨by omega, eo.symm⟩
      have ho : ∀ a, own (unwipe ρ1 ρ3 vs ++ [some (O.lst Dl outs)]) a → own (ρ3 ++ [some (O.lst Dl outs)]) a ∨ H3 a = none := fun a ⟨j, o, e, h⟩ => by
        rcases get j o e with ⟨rfl, rfl⟩ | ⟨q1, q2, q3⟩ | ⟨q1, q2, q3, d, rfl⟩
        · exact .inl ⟨_, _, et, h⟩
        · exact .inl ⟨j, o, by rw [List.getElem?_append_left q1]; exact q3, h⟩
        · rw [adr_dat] at h; cases h
      have m : Mv (SS F (ρ3 ++ [some (.lst Dl outs)])) H3 (SS F (unwipe ρ1 ρ3 vs ++ [some (.lst Dl outs)])) H3 := mv_own ho fun _ _ _ h => h
      refine ⟨R3.renew (by simp [ul, hl3]) (fun j o e => ?_) (fun j o e => ?_) (fun i j o1 o2 a e1 e2 g1 g2 => ?_) ho fun _ _ _ h => h, m⟩
      · rcases get j o e with ⟨rfl, rfl⟩ | ⟨q1, q2, q3⟩ | ⟨q1, q2, q3, d, rfl⟩
        · obtain ⟨v, w1, w2⟩ := R3.slot _ _ et
          refine ⟨v, ?_, w2.mv m _ _ fun a _ u h => h⟩
          rw [show ρ3.length = (L2.wipe σ vs).length by rw [wipe_length, hl3]] at w1
          rw [hl3]
          have a1 : (L2.wipe σ vs ++ [some (V.ref Dl)])[(L2.wipe σ vs).length]? = some (some (.ref Dl)) := by simp
          rw [a1] at w1
          simpa using w1
        · obtain ⟨v, w1, w2⟩ := R3.slot j o (by rw [List.getElem?_append_left q1]; exact q3)
          refine ⟨v, ?_, w2.mv m _ _ fun a _ u h => h⟩
          rw [List.getElem?_append_left (by rw [wipe_length]; omega), wipe_get q2] at w1
          rw [List.getElem?_append_left (by omega)]
          exact w1
        · obtain ⟨v, w1, w2⟩ := R1.dat q3
          exact ⟨v, by rw [List.getElem?_append_left (by omega)]; exact w1, by unfold OV; exact (w2.mv m3).mv m⟩
      · rcases get j o e with ⟨rfl, rfl⟩ | ⟨q1, q2, q3⟩ | ⟨q1, q2, q3, d, rfl⟩
        · exact R3.nd _ _ et
        · exact R3.nd j o (by rw [List.getElem?_append_left q1]; exact q3)
        · rw [adr_dat]; exact List.nodup_nil
      · rcases get i o1 e1 with ⟨rfl, rfl⟩ | ⟨q1, q2, q3⟩ | ⟨q1, q2, q3, d, rfl⟩
        · rcases get j o2 e2 with ⟨rfl, rfl⟩ | ⟨q1, q2, q3⟩ | ⟨q1, q2, q3, d, rfl⟩
          · rfl
          · have := R3.dj _ _ _ o2 a et (by rw [List.getElem?_append_left q1]; exact q3) g1 g2
            exact this
          · rw [adr_dat] at g2; cases g2
        · rcases get j o2 e2 with ⟨rfl, rfl⟩ | ⟨z1, z2, z3⟩ | ⟨z1, z2, z3, d, rfl⟩
          · exact R3.dj _ _ o1 _ a (by rw [List.getElem?_append_left q1]; exact q3) et g1 g2
          · exact R3.dj i j o1 o2 a (by rw [List.getElem?_append_left q1]; exact q3) (by rw [List.getElem?_append_left z1]; exact z3) g1 g2
          · rw [adr_dat] at g2; cases g2
        · rw [adr_dat] at g1; cases g1
    exact k _ _ _ H3 (hd outs ρ3 Dl i3) fin.1 ((m1.trans m3).trans fin.2)
end
end Ow
namespace Ow
open PySem PySem.Spec PyProof.Rows L2
def rLn (K : PySem.W.Frag) : List V → Hp → VK → Prop := fun xs H Q => ∃ x n, xs = [x] ∧ LenV K x H n ∧ Q (.int n) H
theorem c_len {X : Cx} : CallR X (.builtin "len") (rLn X.K) := call_len
def rTp (K : PySem.W.Frag) : List V → Hp → VK → Prop := fun xs H Q => ∃ p ys, xs = [.ref p] ∧ ((SqL K H p ys ∧ ∀ l, H l = none → Q (.ref l) (upd H l (.tup ys))) ∨ (SqT K H p ys ∧ Q (.ref p) H))
theorem c_tuple {X : Cx} : CallR X (.type "tuple") (rTp X.K) := call_tuple_of
def rLs (K : PySem.W.Frag) : List V → Hp → VK → Prop := fun xs H Q => ∃ p ys, xs = [.ref p] ∧ (SqL K H p ys ∨ SqT K H p ys) ∧ ∀ l, H l = none → Q (.ref l) (upd H l (.lst ys))
theorem c_list {X : Cx} : CallR X (.type "list") (rLs X.K) := call_list_of
def rIn1 : List V → Hp → VK → Prop := fun xs H Q => (∃ i, xs = [.int i] ∧ Q (.int i) H) ∨ ∃ k, xs = [.bl k] ∧ Q (.int (if k then 1 else 0)) H
theorem c_int {X : Cx} : CallR X (.type "int") rIn1 := call_int1
section
variable {K : PySem.W.Frag} {ρ : En} {ta tb te : TE} {ts : TA} {Q : D → En → Prop} {Qo : O → En → Prop} {E : De} {i : Nat} {p : List Str} {a : Addr} {ds0 : List D}
theorem re_ixO (hp : RP K ta ρ i p (.lst a ds0)) (h : RE K tb ρ fun j ρ2 => ∃ k o ds d, j = .int k ∧ ρ2[i]? = some (some o) ∧ sub o p = some (.lst a ds) ∧ atI ds k = some d ∧ Q d ρ2) : RE K (tOp (rIx K) ta tb) ρ Q := fun F σ H R Q' q => hp.2 F σ H R _ fun v hv => by
  unfold OV at hv
  obtain ⟨ev, xs0, g1, g2⟩ := hv
  subst ev
  refine h F σ H R _ fun j ρ2 w H2 ⟨k, o, ds, d, ej, e1, e2, e3, q2⟩ R2 dv m => ?_
  subst ej
  rw [dv_int dv]
  obtain ⟨xs, h1, h2⟩ := R2.lstAt e1 e2
  obtain ⟨n, hn, e⟩ : ∃ n, ixN ds.length k = some n ∧ ds[n]? = some d := by
    unfold atI at e3
    cases e : ixN ds.length k with
    | none => rw [e] at e3; cases e3
    | some n => rw [e] at e3; exact ⟨n, rfl, e3⟩
  obtain ⟨x, g3, g4⟩ := h2.get e
  exact .inl ⟨a, xs, k, x, rfl, rfl, SqL.of h1, by unfold atI; rw [h2.length, hn]; exact g3, q d ρ2 x H2 q2 R2 g4 m⟩
theorem re_lenO (hp : RP K ta ρ i p (.lst a ds0)) (q : Q (.int ds0.length) ρ) : RE K (tCB (rLn K) (tCons ta tNil)) ρ Q := fun F σ H R Q' k => hp.2 F σ H R _ fun v hv => by
  unfold OV at hv
  obtain ⟨ev, xs0, g1, g2⟩ := hv
  subst ev
  exact ⟨_, ds0.length, rfl, .inl ⟨xs0, SqL.of g1, g2.length.symm⟩, k _ ρ _ H q R (by unfold DV; rfl) .refl⟩
theorem re_tupO (hp : RP K ta ρ i p (.lst a ds0)) (q : Q (.tup ds0) ρ) : RE K (tCB (rTp K) (tCons ta tNil)) ρ Q := fun F σ H R Q' k => hp.2 F σ H R _ fun v hv => by
  unfold OV at hv
  obtain ⟨ev, xs0, g1, g2⟩ := hv
  subst ev
  refine ⟨_, xs0, rfl, .inl ⟨SqL.of g1, fun l hl => ?_⟩⟩
  have ex : Ex H (upd H l (.tup xs0)) := Ex.new hl
  exact k _ ρ _ _ q (R.ex ex) (dv_newT upd_same (R.new hl) (g2.mv (.ofEx ex))) (.ofEx ex)
/-- the owned list of a slot, read as data (the slot is given away) -/
theorem ro_slot {o : O} (h : ρ[i]? = some (some o)) (q : Qo o (ρ.set i none)) : RO K (tVar i) ρ Qo := fun F σ H R Q' k => by
  obtain ⟨v, h1, h2⟩ := R.slot i o h
  have hi : i < ρ.length := (List.getElem?_eq_some_iff.mp h).1
  have hl := R.len
  suffices RR : Rl K F (ρ.set i none ++ [some o]) (σ ++ [some v]) H ∧ Mv (SS F ρ) H (SS F (ρ.set i none ++ [some o])) H from ⟨v, h1, k o _ v H q RR.1 RR.2⟩
  refine R.remap (by simp [hl]) (fun j => if j = ρ.length then i else j) (fun j o' e => ?_) (fun j l o' o2 e1 e2 e3 => ?_)
  · by_cases hj : j < ρ.length
    · rw [List.getElem?_append_left (by simpa using hj)] at e
      by_cases hji : i = j
      · subst hji
        rw [List.getElem?_set_self hi] at e
        cases e
      · rw [List.getElem?_set_ne hji] at e
        rw [if_neg (by omega)]
        exact ⟨e, by rw [List.getElem?_append_left (by omega)]⟩
    · rw [List.getElem?_append_right (by simpa using Nat.le_of_not_lt hj)] at e
      have hj0 : j - (ρ.set i none).length = 0 := by
        cases hz : j - (ρ.set i none).length with
        | zero => rfl
        | succ n => rw [hz] at e; simp at e
      rw [hj0] at e
      have eo : o = o' := by simpa using e
      subst eo
      have : j = ρ.length := by simp at hj0; omega
      subst this
      rw [if_pos rfl]
      exact ⟨h, by rw [h1, hl]; simp⟩
  · have key : ∀ (j : Nat) (o' : O), (ρ.set i none ++ [some o])[j]? = some (some o') → (j < ρ.length ∧ j ≠ i) ∨ j = ρ.length := fun j o' e => by
      by_cases hj : j < ρ.length
      · refine .inl ⟨hj, fun hji => ?_⟩
        rw [List.getElem?_append_left (by simpa using hj), hji, List.getElem?_set_self hi] at e
        cases e
      · refine .inr ?_
        have := (List.getElem?_eq_some_iff.mp e).1
        simp at this
        omega
    rcases key j o' e1 with ⟨z1, z2⟩ | z1 <;> rcases key l o2 e2 with ⟨z3, z4⟩ | z3
    · rw [if_neg (by omega), if_neg (by omega)] at e3; exact e3
    · rw [if_neg (by omega), if_pos z3] at e3; exact absurd e3 z2
    · rw [if_pos z1, if_neg (by omega)] at e3; exact absurd e3.symm z4
    · omega
/-- list + list, the left one owned: a new list -/
theorem ro_catO (hp : RP K ta ρ i p (.lst a ds0)) (h : RE K tb ρ fun j ρ2 => ∃ es o ds, j = .lst es ∧ ρ2[i]? = some (some o) ∧ sub o p = some (.lst a ds) ∧ ds.length + es.length ≤ sizeLine ∧ ∀ l, Qo (.lst l (ds ++ es)) ρ2) : RO K (tOp rCat ta tb) ρ Qo := fun F σ H R Q' q => hp.2 F σ H R _ fun v hv => by
  unfold OV at hv
  obtain ⟨ev, xs0, g1, g2⟩ := hv
  subst ev
  refine h F σ H R _ fun j ρ2 w H2 ⟨es, o, ds, ej, e1, e2, e3, q2⟩ R2 dv m => ?_
  subst ej
  obtain ⟨b, ys, rfl, hb, hy⟩ := dv_lst dv
  obtain ⟨xs, h1, h2⟩ := R2.lstAt e1 e2
  refine ⟨a, b, xs, ys, rfl, rfl, h1, hb, by rw [h2.length, hy.length]; exact e3, fun l hl => ?_⟩
  obtain ⟨R3, m3⟩ := R2.newL hl (h2.append hy)
  exact q _ ρ2 _ _ (q2 l) R3 (m.trans m3)
/-- list(..) of data: a new list -/
theorem ro_list (h : RD K ts ρ fun es ρ1 => ∃ ds, (es = [.tup ds] ∨ es = [.lst ds]) ∧ ∀ l, Qo (.lst l ds) ρ1) : RO K (tCB (rLs K) ts) ρ Qo := fun F σ H R Q' k =>
  h F σ H R _ fun es ρ1 vs H1 ⟨ds, e, q⟩ R1 dv m => by
    rcases e with e | e
    · subst e
      obtain ⟨x, rfl, dx⟩ := dvs1 dv
      obtain ⟨b, ys, rfl, hb, hy⟩ := dv_tup dx
      refine ⟨b, ys, rfl, .inr hb, fun l hl => ?_⟩
      obtain ⟨R3, m3⟩ := R1.newL hl hy
      exact k _ ρ1 _ _ (q l) R3 (m.trans m3)
    · subst e
      obtain ⟨x, rfl, dx⟩ := dvs1 dv
      obtain ⟨b, ys, rfl, hb, hy⟩ := dv_lst dx
      refine ⟨b, ys, rfl, .inl (SqL.of hb), fun l hl => ?_⟩
      obtain ⟨R3, m3⟩ := R1.newL hl hy
      exact k _ ρ1 _ _ (q l) R3 (m.trans m3)
theorem cd_lenT {ds : List D} : CD (K := K) (rLn K) [.tup ds] (.int ds.length) := fun H S xs _ dv Q' k => by
  obtain ⟨x, rfl, dx⟩ := dvs1 dv
  obtain ⟨b, ys, rfl, hb, hy⟩ := dv_tup dx
  exact ⟨_, ds.length, rfl, .inr ⟨ys, hb, hy.length.symm⟩, k _ H (fun _ _ h => h) (by unfold DV; rfl)⟩
theorem cd_lenL {ds : List D} : CD (K := K) (rLn K) [.lst ds] (.int ds.length) := fun H S xs _ dv Q' k => by
  obtain ⟨x, rfl, dx⟩ := dvs1 dv
  obtain ⟨b, ys, rfl, hb, hy⟩ := dv_lst dx
  exact ⟨_, ds.length, rfl, .inl ⟨ys, SqL.of hb, hy.length.symm⟩, k _ H (fun _ _ h => h) (by unfold DV; rfl)⟩
theorem cd_lenX {ns : List Int} : CD (K := K) (rLn K) [.scr ns] (.int ns.length) := fun H S xs _ dv Q' k => by
  obtain ⟨x, rfl, dx⟩ := dvs1 dv
  obtain ⟨b, rfl, hb⟩ := dv_scr dx
  exact ⟨_, ns.length, rfl, .inl ⟨_, hb, by simp⟩, k _ H (fun _ _ h => h) (by unfold DV; rfl)⟩
theorem cd_lenS {x : Str} (h : x.length ≤ sizeLine) : CD (K := K) (rLn K) [.str x] (.int x.length) := fun H S xs _ dv Q' k => by
  obtain ⟨v, rfl, dx⟩ := dvs1 dv
  rw [dv_str dx]
  exact ⟨_, x.length, rfl, ⟨h, rfl⟩, k _ H (fun _ _ h => h) (by unfold DV; rfl)⟩
theorem cd_tupL {ds : List D} : CD (K := K) (rTp K) [.lst ds] (.tup ds) := fun H S xs hS dv Q' k => by
  obtain ⟨x, rfl, dx⟩ := dvs1 dv
  obtain ⟨b, ys, rfl, hb, hy⟩ := dv_lst dx
  refine ⟨_, ys, rfl, .inl ⟨SqL.of hb, fun l hl => ?_⟩⟩
  have ex : Ex H (upd H l (.tup ys)) := Ex.new hl
  exact k _ _ ex (dv_newT upd_same (fun z => by obtain ⟨o, e⟩ := hS l z; rw [hl] at e; cases e) (hy.mv (.ofEx ex)))
theorem cd_tupT {ds : List D} : CD (K := K) (rTp K) [.tup ds] (.tup ds) := fun H S xs hS dv Q' k => by
  obtain ⟨x, rfl, dx⟩ := dvs1 dv
  obtain ⟨b, ys, rfl, hb, hy⟩ := dv_tup dx
  exact ⟨_, ys, rfl, .inr ⟨hb, k _ _ (fun _ _ h => h) dx⟩⟩
theorem cd_intI {n : Int} : CD (K := K) rIn1 [.int n] (.int n) := fun H S xs hS dv Q' k => by
  obtain ⟨x, rfl, dx⟩ := dvs1 dv
  rw [dv_int dx]
  exact .inl ⟨n, rfl, k _ H (fun _ _ h => h) (by unfold DV; rfl)⟩
theorem cd_intB {b : Bool} : CD (K := K) rIn1 [.bl b] (.int (if b then 1 else 0)) := fun H S xs hS dv Q' k => by
  obtain ⟨x, rfl, dx⟩ := dvs1 dv
  rw [dv_bl dx]
  exact .inr ⟨b, rfl, k _ H (fun _ _ h => h) (by unfold DV; rfl)⟩
theorem cd_sum {ns : List Int} : CD (K := K) (rSum K) [.lst (ns.map .int)] (.int ns.sum) := fun H S xs hS dv Q' k => by
  obtain ⟨x, rfl, dx⟩ := dvs1 dv
  obtain ⟨b, ys, rfl, hb, hy⟩ := dv_lst dx
  rw [hy.of_ints] at hb
  exact ⟨b, ns, rfl, SqL.of hb, k _ H (fun _ _ h => h) (by unfold DV; rfl)⟩
theorem cd_all {bs : List Bool} : CD (K := K) (rAll K) [.lst (bs.map .bl)] (.bl (bs.all id)) := fun H S xs hS dv Q' k => by
  obtain ⟨x, rfl, dx⟩ := dvs1 dv
  obtain ⟨b, ys, rfl, hb, hy⟩ := dv_lst dx
  rw [hy.of_bls] at hb
  exact ⟨b, bs, rfl, SqL.of hb, k _ H (fun _ _ h => h) (by unfold DV; rfl)⟩
/-- the built-in type of data -/
def tyD : D → Option String
  | .non => some "NoneType"
  | .bl _ => some "bool"
  | .int _ => some "int"
  | .str _ => some "str"
  | .tup _ => some "tuple"
  | .lst _ => some "list"
  | .scr _ => some "list"
  | _ => none
theorem tyD_ok {H : Hp} {S : Addr → Prop} {d : D} {v : V} {t : String} (h : DV K H S d v) (e : tyD d = some t) : TyX K H v (.type t) := by
  cases d with
  | non => cases e; rw [dv_non h]; exact .base .non
  | bl b => cases e; rw [dv_bl h]; exact .base (.bl b)
  | int i => cases e; rw [dv_int h]; exact .base (.int i)
  | str x => cases e; rw [dv_str h]; exact .base (.str x)
  | tup ds =>
    cases e
    obtain ⟨a, xs, rfl, hs, _⟩ := dv_tup h
    rcases hs with (hs | ⟨o, hs⟩) | ⟨o, its, n, h1, h2, _⟩
    · exact .base (.tup hs)
    · exact .fTuple hs
    · exact .kTuple h1 h2
  | lst ds =>
    cases e
    obtain ⟨a, xs, rfl, hs, _⟩ := dv_lst h
    exact .base (.lst hs)
  | scr ns =>
    cases e
    obtain ⟨a, rfl, hs⟩ := dv_scr h
    rcases hs with (hs | ⟨o, hs⟩) | ⟨o, its, n, h1, h2, _⟩
    · exact .base (.lst hs)
    · exact .base (.frz hs)
    · exact .kList h1 h2
  | ref a => cases e
  | ty n => cases e
  | ins C ns ds => cases e
theorem cd_isi {d : D} {t T : String} {b : Bool} (h1 : tyD d = some t) (h2 : kitB t T = some b) : CD (K := K) (rIsi K) [d, .ty T] (.bl b) := fun H S xs hS dv Q' k => by
  obtain ⟨x, y, rfl, dx, dy⟩ := dvs2 dv
  have ey : y = .ty T := by unfold DV at dy; exact dy
  subst ey
  exact ⟨x, _, _, _, b, rfl, .ty T, tyD_ok dx h1, kit_ty h2, k _ H (fun _ _ h => h) (by unfold DV; rfl)⟩
/-- flat data as a value -/
def toV : D → V
  | .non => .non
  | .bl b => .bl b
  | .int i => .int i
  | .str x => .str x
  | _ => .ref 0
def flatD : D → Bool
  | .non => true
  | .bl _ => true
  | .int _ => true
  | .str _ => true
  | _ => false
theorem dv_flat {H : Hp} {S : Addr → Prop} {d : D} {v : V} (f : flatD d = true) (h : DV K H S d v) : v = toV d := by
  cases d with
  | non => exact dv_non h
  | bl b => exact dv_bl h
  | int i => exact dv_int h
  | str x => exact dv_str h
  | _ => cases f
theorem dvs_flat {H : Hp} {S : Addr → Prop} : ∀ {ds : List D} {xs : List V}, (∀ d ∈ ds, flatD d = true) → DVs K H S ds xs → xs = ds.map toV
  | [], xs, f, h => by unfold DVs at h; exact h
  | d :: ds, xs, f, h => by
    unfold DVs at h
    obtain ⟨v, r, rfl, h1, h2⟩ := h
    rw [dv_flat (f d List.mem_cons_self) h1, dvs_flat (fun z hz => f z (List.mem_cons_of_mem _ hz)) h2]
    rfl
theorem flat_toV {d : D} (f : flatD d = true) : flatV (toV d) = true := by
  cases d <;> first | rfl | cases f
theorem od_in {neg : Bool} {d : D} {ds : List D} {b : Bool} (f : flatD d = true) (fs : ∀ z ∈ ds, flatD z = true) (e : (if neg then !inV (toV d) (ds.map toV) else inV (toV d) (ds.map toV)) = b) {d2 : D} (h2 : d2 = .tup ds ∨ d2 = .lst ds) : OD (K := K) (rIn K neg) d d2 (.bl b) := fun H S x y hS dx dy Q' k => by
  have ex := dv_flat f dx
  subst ex
  have hf : (ds.map toV).all flatV = true := by
    rw [List.all_eq_true]
    intro v hv
    obtain ⟨z, hz, rfl⟩ := List.mem_map.mp hv
    exact flat_toV (fs z hz)
  rcases h2 with rfl | rfl
  · obtain ⟨a, xs, rfl, hs, hd⟩ := dv_tup dy
    rw [dvs_flat fs hd] at hs
    exact ⟨a, _, rfl, .inr hs, flat_toV f, hf, by rw [e]; exact k _ H (fun _ _ h => h) (by unfold DV; rfl)⟩
  · obtain ⟨a, xs, rfl, hs, hd⟩ := dv_lst dy
    rw [dvs_flat fs hd] at hs
    exact ⟨a, _, rfl, .inl (SqL.of hs), flat_toV f, hf, by rw [e]; exact k _ H (fun _ _ h => h) (by unfold DV; rfl)⟩
theorem od_isN {d : D} {b : Bool} (f : flatD d = true) (e : decide (toV d = .non) = b) : OD (K := K) (fun x y H Q => y = .non ∧ Q (.bl (decide (x = .non))) H) d .non (.bl b) := fun H S x y hS dx dy Q' k => by
  rw [dv_flat f dx, dv_non dy]
  refine ⟨rfl, ?_⟩
  rw [e]
  exact k _ H (fun _ _ h => h) (by unfold DV; rfl)
theorem od_notN {d : D} {b : Bool} (f : flatD d = true) (e : (!decide (toV d = .non)) = b) : OD (K := K) (fun x y H Q => y = .non ∧ Q (.bl (!decide (x = .non))) H) d .non (.bl b) := fun H S x y hS dx dy Q' k => by
  rw [dv_flat f dx, dv_non dy]
  refine ⟨rfl, ?_⟩
  rw [e]
  exact k _ H (fun _ _ h => h) (by unfold DV; rfl)
theorem od_isNT {ds : List D} : OD (K := K) (fun x y H Q => y = .non ∧ Q (.bl (decide (x = .non))) H) (.tup ds) .non (.bl false) := fun H S x y hS dx dy Q' k => by
  obtain ⟨a, xs, rfl, _, _⟩ := dv_tup dx
  rw [dv_non dy]
  exact ⟨rfl, k _ H (fun _ _ h => h) (by unfold DV; rfl)⟩
theorem od_notNT {ds : List D} : OD (K := K) (fun x y H Q => y = .non ∧ Q (.bl (!decide (x = .non))) H) (.tup ds) .non (.bl true) := fun H S x y hS dx dy Q' k => by
  obtain ⟨a, xs, rfl, _, _⟩ := dv_tup dx
  rw [dv_non dy]
  exact ⟨rfl, k _ H (fun _ _ h => h) (by unfold DV; rfl)⟩
theorem od_eq {d e : D} {b : Bool} (f : flatD d = true) (g : flatD e = true) (hs : scal (toV d) (toV e) = true) (h : decide (toV d = toV e) = b) : OD (K := K) rEq d e (.bl b) := fun H S x y hS dx dy Q' k => by
  rw [dv_flat f dx, dv_flat g dy, ]
  exact ⟨hs, by rw [h]; exact k _ H (fun _ _ h => h) (by unfold DV; rfl)⟩
theorem od_ne {d e : D} {b : Bool} (f : flatD d = true) (g : flatD e = true) (hs : scal (toV d) (toV e) = true) (h : (!decide (toV d = toV e)) = b) : OD (K := K) rNe d e (.bl b) := fun H S x y hS dx dy Q' k => by
  rw [dv_flat f dx, dv_flat g dy, ]
  exact ⟨hs, by rw [h]; exact k _ H (fun _ _ h => h) (by unfold DV; rfl)⟩
theorem od_eqI {i j : Int} : OD (K := K) rEq (.int i) (.int j) (.bl (decide (i = j))) := fun H S x y hS dx dy Q' k => by
  rw [dv_int dx, dv_int dy]
  refine ⟨rfl, ?_⟩
  have e : decide (V.int i = V.int j) = decide (i = j) := by
    rw [decide_eq_decide]
    exact ⟨fun h => by injection h, fun h => by rw [h]⟩
  rw [e]
  exact k _ H (fun _ _ h => h) (by unfold DV; rfl)
theorem od_neB {i j : Bool} : OD (K := K) rNe (.bl i) (.bl j) (.bl (!decide (i = j))) := fun H S x y hS dx dy Q' k => by
  rw [dv_bl dx, dv_bl dy]
  refine ⟨rfl, ?_⟩
  have e : decide (V.bl i = V.bl j) = decide (i = j) := by
    rw [decide_eq_decide]
    exact ⟨fun h => by injection h, fun h => by rw [h]⟩
  rw [e]
  exact k _ H (fun _ _ h => h) (by unfold DV; rfl)
theorem od_eqB {i j : Bool} : OD (K := K) rEq (.bl i) (.bl j) (.bl (decide (i = j))) := fun H S x y hS dx dy Q' k => by
  rw [dv_bl dx, dv_bl dy]
  refine ⟨rfl, ?_⟩
  have e : decide (V.bl i = V.bl j) = decide (i = j) := by
    rw [decide_eq_decide]
    exact ⟨fun h => by injection h, fun h => by rw [h]⟩
  rw [e]
  exact k _ H (fun _ _ h => h) (by unfold DV; rfl)
theorem od_eqS {i j : Str} : OD (K := K) rEq (.str i) (.str j) (.bl (decide (i = j))) := fun H S x y hS dx dy Q' k => by
  rw [dv_str dx, dv_str dy]
  refine ⟨rfl, ?_⟩
  have e : decide (V.str i = V.str j) = decide (i = j) := by
    rw [decide_eq_decide]
    exact ⟨fun h => by injection h, fun h => by rw [h]⟩
  rw [e]
  exact k _ H (fun _ _ h => h) (by unfold DV; rfl)
theorem od_neS {i j : Str} : OD (K := K) rNe (.str i) (.str j) (.bl (!decide (i = j))) := fun H S x y hS dx dy Q' k => by
  rw [dv_str dx, dv_str dy]
  refine ⟨rfl, ?_⟩
  have e : decide (V.str i = V.str j) = decide (i = j) := by
    rw [decide_eq_decide]
    exact ⟨fun h => by injection h, fun h => by rw [h]⟩
  rw [e]
  exact k _ H (fun _ _ h => h) (by unfold DV; rfl)
/-- list + list, list * int, of data -/
theorem od_cat {ds es : List D} (h : ds.length + es.length ≤ sizeLine) : OD (K := K) rCat (.lst ds) (.lst es) (.lst (ds ++ es)) := fun H S x y hS dx dy Q' k => by
  obtain ⟨a, xs, rfl, ha, hx⟩ := dv_lst dx
  obtain ⟨b, ys, rfl, hb, hy⟩ := dv_lst dy
  refine ⟨a, b, xs, ys, rfl, rfl, ha, hb, by rw [hx.length, hy.length]; exact h, fun l hl => ?_⟩
  have ex : Ex H (upd H l (.lst (xs ++ ys))) := Ex.new hl
  exact k _ _ ex (dv_newL upd_same (fun z => by obtain ⟨o, e⟩ := hS l z; rw [hl] at e; cases e) ((hx.append hy).mv (.ofEx ex)))
theorem DVs.rep {H : Hp} {S : Addr → Prop} {ds : List D} {xs : List V} (h : DVs K H S ds xs) : ∀ k : Nat, DVs K H S (List.replicate k ds).flatten (List.replicate k xs).flatten
  | 0 => DVs.nil
  | k + 1 => by
    rw [List.replicate_succ, List.replicate_succ, List.flatten_cons, List.flatten_cons]
    exact h.append (DVs.rep h k)
theorem od_rep {ds : List D} {n : Int} (h1 : -(2 ^ 63) ≤ n) (h2 : n < 2 ^ 63) (h : ds.length * n.toNat ≤ sizeLine) : OD (K := K) rRep (.lst ds) (.int n) (.lst (List.replicate n.toNat ds).flatten) := fun H S x y hS dx dy Q' k => by
  obtain ⟨a, xs, rfl, ha, hx⟩ := dv_lst dx
  rw [dv_int dy]
  refine ⟨a, n, xs, rfl, rfl, ha, h1, h2, by rw [hx.length]; exact h, fun l hl => ?_⟩
  have ex : Ex H (upd H l (.lst (List.replicate n.toNat xs).flatten)) := Ex.new hl
  exact k _ _ ex (dv_newL upd_same (fun z => by obtain ⟨o, e⟩ := hS l z; rw [hl] at e; cases e) ((hx.rep _).mv (.ofEx ex)))
/-- tuple + tuple -/
theorem od_catT {ds es : List D} (h : ds.length + es.length ≤ sizeLine) : OD (K := K) (rCatA K) (.tup ds) (.tup es) (.tup (ds ++ es)) := fun H S x y hS dx dy Q' k => by
  obtain ⟨a, xs, rfl, ha, hx⟩ := dv_tup dx
  obtain ⟨b, ys, rfl, hb, hy⟩ := dv_tup dy
  refine ⟨a, b, xs, ys, rfl, rfl, ha, hb, by rw [hx.length, hy.length]; exact h, fun e => ?_, fun e1 e2 => ?_, fun _ _ l hl => ?_⟩
  · have e' : ds = [] := by
      have := hx.length
      rw [e] at this
      exact List.length_eq_zero_iff.mp this.symm
    subst e'
    exact k _ H (fun _ _ h => h) dy
  · have e' : es = [] := by
      have := hy.length
      rw [e2] at this
      exact List.length_eq_zero_iff.mp this.symm
    subst e'
    exact k _ H (fun _ _ h => h) (by rw [List.append_nil]; exact dx)
  · have ex : Ex H (upd H l (.tup (xs ++ ys))) := Ex.new hl
    exact k _ _ ex (dv_newT upd_same (fun z => by obtain ⟨o, e⟩ := hS l z; rw [hl] at e; cases e) ((hx.append hy).mv (.ofEx ex)))
/-- an entry of a dict of the module -/
theorem od_ixD {w : World} {q : Addr} {z : Str} {v : V} {d : D} (h : KDct K w q z v) (hd : ∀ H S, DV K H S d v) : OD (K := K) (rIxD K w) (.ref q) (.str z) d := fun H S x y hS dx dy Q' k => by
  rw [dv_ref dx, dv_str dy]
  exact ⟨q, z, v, rfl, rfl, h, k _ H (fun _ _ h => h) (hd H S)⟩
/-- an index of a slice -/
def RX (to : TO) (ρ : En) (Q : Option Int → En → Prop) : Prop :=
  ∀ F σ H, Rl K F ρ σ H → ∀ Q' : Option Int → Hp → Prop, (∀ o ρ' H', Q o ρ' → Rl K F ρ' σ H' → Mv (SS F ρ) H (SS F ρ') H' → Q' o H') → to σ H Q'
theorem rx_none {Qx : Option Int → En → Prop} (q : Qx none ρ) : RX (K := K) tNoPart ρ Qx := fun F σ H R Q' k => k none ρ H q R .refl
theorem rx_some {Qx : Option Int → En → Prop} (h : RE K te ρ fun d ρ1 => ∃ n, d = .int n ∧ Qx (some n) ρ1) : RX (K := K) (tPart te) ρ Qx := fun F σ H R Q' k =>
  h F σ H R _ fun d ρ1 v H1 ⟨n, e, q⟩ R1 dv m => by
    subst e
    exact ⟨n, dv_int dv, k _ ρ1 H1 q R1 m⟩
def cutD (xs : List D) (lo hi : Option Int) : List D := (xs.drop (HT.sIx xs.length 0 lo)).take (HT.sIx xs.length xs.length hi - HT.sIx xs.length 0 lo)
theorem DVs.cut {H : Hp} {S : Addr → Prop} {ds : List D} {xs : List V} (h : DVs K H S ds xs) (lo hi : Option Int) : DVs K H S (cutD ds lo hi) (cutV xs lo hi) := by
  unfold cutD cutV
  rw [h.length]
  exact (h.drop _).take _
theorem re_slL {tl th : TO} (h : RE K te ρ fun d ρ1 => RX (K := K) tl ρ1 fun lo ρ2 => RX (K := K) th ρ2 fun hi ρ3 => ∃ ds, d = .lst ds ∧ Q (.lst (cutD ds lo hi)) ρ3) : RE K (tSl (rSlL K) te tl th) ρ Q := fun F σ H R Q' k =>
  h F σ H R _ fun d ρ1 v H1 q1 R1 dv m1 => q1 F σ H1 R1 _ fun lo ρ2 H2 q2 R2 m2 => q2 F σ H2 R2 _ fun hi ρ3 H3 ⟨ds, e, q⟩ R3 m3 => by
    subst e
    obtain ⟨a, xs, rfl, ha, hx⟩ := dv_lst ((dv.mv m2).mv m3)
    refine ⟨a, xs, rfl, SqL.of ha, fun l hl => ?_⟩
    have ex : Ex H3 (upd H3 l (.lst (cutV xs lo hi))) := Ex.new hl
    exact k _ ρ3 _ _ q (R3.ex ex) (dv_newL upd_same (R3.new hl) ((hx.cut lo hi).mv (.ofEx ex))) (((m1.trans m2).trans m3).ex ex)
theorem re_slX {tl th : TO} (h : RE K te ρ fun d ρ1 => RX (K := K) tl ρ1 fun lo ρ2 => RX (K := K) th ρ2 fun hi ρ3 => ∃ ns : List Int, d = .scr ns ∧ Q (.lst (cutD (ns.map .int) lo hi)) ρ3) : RE K (tSl (rSlL K) te tl th) ρ Q := fun F σ H R Q' k =>
  h F σ H R _ fun d ρ1 v H1 q1 R1 dv m1 => q1 F σ H1 R1 _ fun lo ρ2 H2 q2 R2 m2 => q2 F σ H2 R2 _ fun hi ρ3 H3 ⟨ns, e, q⟩ R3 m3 => by
    subst e
    obtain ⟨a, rfl, ha⟩ := dv_scr ((dv.mv m2).mv m3)
    refine ⟨a, _, rfl, ha, fun l hl => ?_⟩
    have ex : Ex H3 (upd H3 l (.lst (cutV (ns.map V.int) lo hi))) := Ex.new hl
    exact k _ ρ3 _ _ q (R3.ex ex) (dv_newL upd_same (R3.new hl) (((DVs.ints ns).cut lo hi).mv (.ofEx ex))) (((m1.trans m2).trans m3).ex ex)
theorem re_slT {tl th : TO} (h : RE K te ρ fun d ρ1 => RX (K := K) tl ρ1 fun lo ρ2 => RX (K := K) th ρ2 fun hi ρ3 => ∃ ds, d = .tup ds ∧ ¬ (HT.sIx ds.length 0 lo = 0 ∧ HT.sIx ds.length ds.length hi = ds.length) ∧ Q (.tup (cutD ds lo hi)) ρ3) : RE K (tSl (rSlT K) te tl th) ρ Q := fun F σ H R Q' k =>
  h F σ H R _ fun d ρ1 v H1 q1 R1 dv m1 => q1 F σ H1 R1 _ fun lo ρ2 H2 q2 R2 m2 => q2 F σ H2 R2 _ fun hi ρ3 H3 ⟨ds, e, hw, q⟩ R3 m3 => by
    subst e
    obtain ⟨a, xs, rfl, ha, hx⟩ := dv_tup ((dv.mv m2).mv m3)
    refine ⟨a, xs, rfl, ha, by rw [hx.length]; exact hw, fun l hl => ?_⟩
    have ex : Ex H3 (upd H3 l (.tup (cutV xs lo hi))) := Ex.new hl
    exact k _ ρ3 _ _ q (R3.ex ex) (dv_newT upd_same (R3.new hl) ((hx.cut lo hi).mv (.ofEx ex))) (((m1.trans m2).trans m3).ex ex)
theorem rs_par {j : Nat} (h : RD K ts ρ fun ds ρ1 => ∃ d e, ds = [d, e] ∧ i < ρ1.length ∧ j < ρ1.length ∧ E.nx ((ρ1.set i (some (.dat d))).set j (some (.dat e)))) : RS K (tPar i j ts) ρ E := fun F σ H D' R f =>
  h F σ H R _ fun ds ρ1 vs H1 ⟨d, e, ed, hi, hj, q⟩ R1 dv m => by
    subst ed
    obtain ⟨x, y, rfl, dx, dy⟩ := dvs2 dv
    obtain ⟨R2, m2⟩ := R1.set hi dx
    obtain ⟨R3, m3⟩ := R2.set (i := j) (by simpa using hj) (dy.mv m2)
    exact ⟨x, y, rfl, f.nx _ _ H1 q R3 ((m.trans m2).trans m3)⟩
theorem dvs3 {H : Hp} {S : Addr → Prop} {d e g : D} {xs : List V} (h : DVs K H S [d, e, g] xs) : ∃ x y z, xs = [x, y, z] ∧ DV K H S d x ∧ DV K H S e y ∧ DV K H S g z := by
  unfold DVs at h
  obtain ⟨v, r, rfl, h1, h2⟩ := h
  obtain ⟨x, y, rfl, h3, h4⟩ := dvs2 h2
  exact ⟨v, x, y, rfl, h1, h3, h4⟩
theorem rs_par3 {j l : Nat} (h : RD K ts ρ fun ds ρ1 => ∃ d e g, ds = [d, e, g] ∧ i < ρ1.length ∧ j < ρ1.length ∧ l < ρ1.length ∧ E.nx (((ρ1.set i (some (.dat d))).set j (some (.dat e))).set l (some (.dat g)))) : RS K (tPar3 i j l ts) ρ E := fun F σ H D' R f =>
  h F σ H R _ fun ds ρ1 vs H1 ⟨d, e, g, ed, hi, hj, hl, q⟩ R1 dv m => by
    subst ed
    obtain ⟨x, y, z, rfl, dx, dy, dz⟩ := dvs3 dv
    obtain ⟨R2, m2⟩ := R1.set hi dx
    obtain ⟨R3, m3⟩ := R2.set (i := j) (by simpa using hj) (dy.mv m2)
    obtain ⟨R4, m4⟩ := R3.set (i := l) (by simpa using hl) ((dz.mv m2).mv m3)
    exact ⟨x, y, z, rfl, f.nx _ _ H1 q R4 (((m.trans m2).trans m3).trans m4)⟩
def rSplit : V → List V → Hp → VK → Prop := fun x xs H Q => ∃ a b, x = .str a ∧ xs = [.str b] ∧ (b.length == 0) = false ∧ a.length + 2 ≤ sizeLine ∧ rNewStrs (Txt.split a b) H Q
theorem p_split {X : Cx} {o e : Expr} {to te : TE} {apos pos : Pos} (ho : PE X o to) (he : PE X e te) (hs : starEach [e] X.env = [(false, eval e X.env)] := by rfl) (hbase : attributeBase o "split" X.env (eval o X.env) = eval o X.env := by rfl) (hline : (apos.endLine == pos.line) = true := by rfl) :
    PE X (.Call (.Attribute o "split" apos) [e] [] pos) (tM1 rSplit to te) := pe_split ho he hs hbase hline
theorem DVs.strs {H : Hp} {S : Addr → Prop} : ∀ (ys : List Str), DVs K H S (ys.map D.str) (ys.map V.str)
  | [] => DVs.nil
  | y :: ys => DVs.cons (by unfold DV; rfl) (DVs.strs ys)
theorem re_split (h : RE K ta ρ fun d ρ1 => ∃ a, d = .str a ∧ RE K tb ρ1 fun e ρ2 => ∃ b, e = .str b ∧ (b.length == 0) = false ∧ a.length + 2 ≤ sizeLine ∧ Q (.lst ((Txt.split a b).map .str)) ρ2) : RE K (tM1 rSplit ta tb) ρ Q := fun F σ H R Q' k =>
  h F σ H R _ fun d ρ1 v H1 ⟨a, e, h2⟩ R1 dv m1 => by
    subst e
    rw [dv_str dv]
    refine ⟨⟨a, rfl⟩, h2 F σ H1 R1 _ fun e ρ2 v2 H2 ⟨b, e2, q1, q2, q⟩ R2 dv2 m2 => ?_⟩
    subst e2
    rw [dv_str dv2]
    refine ⟨a, b, rfl, rfl, q1, q2, fun l hl => ?_⟩
    have ex : Ex H2 (upd H2 l (.lst ((Txt.split a b).map V.str))) := Ex.new hl
    exact k _ ρ2 _ _ q (R2.ex ex) (dv_newL upd_same (R2.new hl) (DVs.strs _)) ((m1.trans m2).ex ex)
/-- l.index(x), flat data -/
theorem re_index (h : RE K ta ρ fun d ρ1 => ∃ ds, d = .lst ds ∧ RE K tb ρ1 fun e ρ2 => ∃ (j : Nat) (z : D), flatD e = true ∧ (∀ z ∈ ds, flatD z = true) ∧ ds[j]? = some z ∧ eqV (toV z) (toV e) = true ∧ (∀ (m : Nat) (z' : D), m < j → ds[m]? = some z' → eqV (toV z') (toV e) = false) ∧ Q (.int (j : Nat)) ρ2) : RE K (tBM K "list" (rIndex K) ta (tCons tb tNil)) ρ Q := fun F σ H R Q' k =>
  h F σ H R _ fun d ρ1 v H1 ⟨ds, e, h2⟩ R1 dv m1 => by
    subst e
    obtain ⟨a0, xs0, e0, ha0, hx0⟩ := dv_lst dv
    refine ⟨by rw [e0]; exact .inl ⟨rfl, xs0, SqL.of ha0⟩, h2 F σ H1 R1 _ fun e ρ2 v2 H2 ⟨j, z, f1, f2, g1, g2, g3, q⟩ R2 dv2 m2 => ?_⟩
    obtain ⟨a, xs, ea, ha, hx⟩ := dv_lst (dv.mv m2)
    rw [ea] at e0
    have ex := dvs_flat f2 hx
    subst ex
    refine ⟨a, _, toV e, j, toV z, ea, by rw [dv_flat f1 dv2], SqL.of ha, flat_toV f1, ?_, by rw [List.getElem?_map, g1]; rfl, g2, fun m z' hm hz => ?_, k _ ρ2 _ H2 q R2 (by unfold DV; rfl) (m1.trans m2)⟩
    · rw [List.all_eq_true]
      intro v hv
      obtain ⟨z, hz, rfl⟩ := List.mem_map.mp hv
      exact flat_toV (f2 z hz)
    · rw [List.getElem?_map] at hz
      cases e3 : ds[m]? with
      | none => rw [e3] at hz; cases hz
      | some z2 =>
        rw [e3] at hz
        cases hz
        exact g3 m z2 hm e3
theorem ro_callA {SS' : Addr → Option Sp} {f0 : Addr} {n : Nat} {f : List O → (O → List O → Prop) → Prop} (h0 : ρ[i]? = some (some (.dat (.ref f0)))) (hS : SS' f0 = some (spM K n f))
    (h : RA K ts ρ fun as ρ1 => ∃ os, Res ρ1 as os ∧ (slotsOf as).Nodup ∧ as.length = n ∧ f os fun r os' => Qo r (pbk ρ1 as os')) : RO K (tCallA i SS' ts) ρ Qo := fun F σ H R Q' k => by
  obtain ⟨v, h1, h2⟩ := R.dat h0
  rw [dv_ref h2] at h1
  refine ⟨f0, _, h1, hS, h F σ H R _ fun as ρ1 vs H1 ⟨os, hr, nd, hn, hf⟩ R1 av m1 => ?_⟩
  exact call_core R1 av hr nd hn hf fun r os' v H' q R' m' => k r _ v H' q R' (m1.trans m')
end
end Ow
namespace Ow
open PySem PySem.Spec PyProof.Rows L2
section
variable {P : Program} {w : World} {K : PySem.W.Frag} {mg : Str → Option Value} {base : Heap}
abbrev FnP (K : PySem.W.Frag) (x q : Str) (st : Stmt) (fA : Addr) (fd : FuncData) : Prop := FunD K x q (defArgs st) (defBody st) (defScope st) [] [] fA fd
theorem fn_by {x q : Str} {st : Stmt} {N ps : List Str} {n k : Nat} {fA : Addr} {fd : FuncData} {f : List O → (O → List O → Prop) → Prop} {t : TS} (F : FnP K x q st fA fd) (S : FnScope N ps (defScope st)) (hps : ps.length = n)
    (hd : ∀ (cdv : Value) (A : Around) (outer : List Env) (s : Shared) (H : Hp) (E : XK), Room k (A.deeper (envOfC q (defScope st) s.heap.objs.size fA cdv)) → PSs (cxOf C8.CX0 P w K mg base N q (defScope st) fA cdv A outer s H E).nox (defBody st) t)
    (hr : ∀ os Post, os.length = n → f os Post → RS K t (os.map some ++ List.replicate (N.length - n) none) (fin os Post)) : FnOk P w K mg base C8.CX0 (k + 1) fA fd ps (spM K n f) :=
  F.ok S (fun vs H Q E h => by rw [hps]; exact spM_len vs H Q E h) fun cdv A outer s H vs Q E hr' h => by
    refine ⟨t, (hd cdv A outer s H E hr').nox, ?_⟩
    have hN : n ≤ N.length := by
      have e := congrArg List.length S.pre
      rw [List.length_take] at e
      omega
    exact fn_body hN hr vs H Q E h
theorem cal_by {x : Str} {st : Stmt} {N ps : List Str} {n k : Nat} {fA : Addr} {fd : FuncData} {f : List O → (O → List O → Prop) → Prop} {t : TS} (F : FnP K x x st fA fd) (hm : mg x = some (.ref fA)) (b : Binds K fd ps []) (S : FnScope N ps (defScope st)) (hps : ps.length = n)
    (hd : ∀ (cdv : Value) (A : Around) (outer : List Env) (s : Shared) (H : Hp) (E : XK), Room k (A.deeper (envOfC x (defScope st) s.heap.objs.size fA cdv)) → PSs (cxOf C8.CX0 P w K mg base N x (defScope st) fA cdv A outer s H E).nox (defBody st) t)
    (hr : ∀ os Post, os.length = n → f os Post → RS K t (os.map some ++ List.replicate (N.length - n) none) (fin os Post)) : C8.Cal P w K mg base (k + 1) x (spM K n f) [] :=
  ⟨fA, fd, ps, [], fn_by F S hps hd hr, hm, F.kp, b, .nil⟩
theorem held_by {x : Str} {st : Stmt} {N ps : List Str} {n k : Nat} {fA : Addr} {fd : FuncData} {f : List O → (O → List O → Prop) → Prop} {t : TS} (F : FnP K x x st fA fd) (b : Binds K fd ps []) (S : FnScope N ps (defScope st)) (hps : ps.length = n)
    (hd : ∀ (cdv : Value) (A : Around) (outer : List Env) (s : Shared) (H : Hp) (E : XK), Room k (A.deeper (envOfC x (defScope st) s.heap.objs.size fA cdv)) → PSs (cxOf C8.CX0 P w K mg base N x (defScope st) fA cdv A outer s H E).nox (defBody st) t)
    (hr : ∀ os Post, os.length = n → f os Post → RS K t (os.map some ++ List.replicate (N.length - n) none) (fin os Post)) : Held P w K mg base (k + 1) fA (spM K n f) :=
  ⟨fd, ps, fn_by F S hps hd hr, F.kp, b⟩
theorem met_by {m q : Str} {C : Addr} {st : Stmt} {N ps : List Str} {n k : Nat} {fA : Addr} {fd : FuncData} {f : List O → (O → List O → Prop) → Prop} {t : TS} (c : Cls K C) (me : Meth K C m fA) (F : FnP K m q st fA fd) (b : Binds K fd ps []) (S : FnScope N ps (defScope st)) (hps : ps.length = n)
    (hd : ∀ (cdv : Value) (A : Around) (outer : List Env) (s : Shared) (H : Hp) (E : XK), Room k (A.deeper (envOfC q (defScope st) s.heap.objs.size fA cdv)) → PSs (cxOf C8.CX0 P w K mg base N q (defScope st) fA cdv A outer s H E).nox (defBody st) t)
    (hr : ∀ os Post, os.length = n → f os Post → RS K t (os.map some ++ List.replicate (N.length - n) none) (fin os Post)) : C8.Met P w K mg base (k + 1) C m (spM K n f) [] :=
  ⟨fA, fd, ps, [], c, me, fn_by F S hps hd hr, b, .nil⟩
theorem mak_by {x q : Str} {C : Addr} {st : Stmt} {N ps : List Str} {n k : Nat} {fA : Addr} {fd : FuncData} {f : List O → (O → List O → Prop) → Prop} {t : TS} (M : Mk K C fA) (hm : mg x = some (.ref C)) (F : FnP K "__init__" q st fA fd) (b : Binds K fd ps []) (S : FnScope N ps (defScope st)) (hps : ps.length = n)
    (hd : ∀ (cdv : Value) (A : Around) (outer : List Env) (s : Shared) (H : Hp) (E : XK), Room k (A.deeper (envOfC q (defScope st) s.heap.objs.size fA cdv)) → PSs (cxOf C8.CX0 P w K mg base N q (defScope st) fA cdv A outer s H E).nox (defBody st) t)
    (hr : ∀ os Post, os.length = n → f os Post → RS K t (os.map some ++ List.replicate (N.length - n) none) (fin os Post)) : C8.Mak P w K mg base (k + 1) x C (spM K n f) [] :=
  ⟨fA, fd, ps, [], M, fn_by F S hps hd hr, hm, b, .nil⟩
theorem gcI {x : Str} {i : Int} (h : ∃ t, mg x = some (.int i t)) : ∃ u, mg x = some u ∧ RelV (.int i) u := by
  obtain ⟨t, h⟩ := h
  exact ⟨_, h, t, rfl⟩
theorem gcR {x : Str} {a : Addr} (h : mg x = some (.ref a)) : ∃ u, mg x = some u ∧ RelV (.ref a) u := ⟨_, h, rfl⟩
end
/-- what a def does, told as a function of data -/
theorem rs_pure {K : PySem.W.Frag} {t : TS} {n m : Nat} {g : List D → Option D} (h : ∀ ds r, ds.length = n → g ds = some r → RS K t (ds.map (fun d => some (O.dat d)) ++ List.replicate m none) { nx := fun _ => r = .non, rt := fun o _ => o = .dat r }) :
    ∀ os Post, os.length = n → pureF g os Post → RS K t (os.map some ++ List.replicate m none) (fin os Post) := fun os Post hl ⟨ds, r, e, hg, hp⟩ => by
  subst e
  have hb : ∀ (ds : List D) (ρ : En), back (ds.map O.dat) ρ = ds.map O.dat := by
    intro ds
    induction ds with
    | nil => intro ρ; rfl
    | cons d ds ih =>
      intro ρ
      show O.dat d :: back (ds.map O.dat) (ρ.drop 1) = _
      rw [ih]
      rfl
  have := h ds r (by simpa using hl) hg
  rw [List.map_map]
  refine RS.imp this (fun ρ' e => ?_) (fun o ρ' e => ?_) (fun _ z => z.elim) (fun _ z => z.elim)
  · subst e
    exact ⟨by rw [hb]; exact hp, by rw [hb]⟩
  · subst e
    exact ⟨by rw [hb]; exact hp, by rw [hb]⟩
end Ow
namespace Ow
open PySem PySem.Spec PyProof.Rows L2
abbrev rIsN : R2 := fun x y H Q => y = .non ∧ Q (.bl (decide (x = .non))) H
abbrev rNotN : R2 := fun x y H Q => y = .non ∧ Q (.bl (!decide (x = .non))) H
theorem tup_mul1 (l : Addr) (items : Array Value) (n : Nat) (dd : Option Addr) (sl : Array (Option Value)) (u : Tok) :
    Meets (Builtin.«tuple.__mul__» ⟨[.ref l, .int 1 u], []⟩) (fun _ R s => s.heap.get? l = some { cls := .type "tuple", dict := dd, data := .seq items n, slots := sl } ∧ R (.ok (.ret (.ref l))) s) :=
  .of_wp fun prog w A R s h => by
    obtain ⟨hp, g, d, tk, os⟩ := s
    obtain ⟨hl, h⟩ := h
    have f1 := AutoSeq1.idx_int
    have c1 : (items.isEmpty || (1 : Int) == 1) = true := by simp
    wp_walk using wpAny_loadPart' hl
    repeat (first
      | (refine wpAny_ite_true (decide_eq_true (by simp)) ?_; wp_walk using wpAny_loadPart' hl)
      | (refine wpAny_ite_false (decide_eq_false (by simp)) ?_; wp_walk using wpAny_loadPart' hl))
    exact ⟨_, rfl, h⟩
theorem tup_mul0 (l : Addr) (items : Array Value) (n : Nat) (dd : Option Addr) (sl : Array (Option Value)) (u : Tok) (c0 : items.isEmpty = false) :
    Meets (Builtin.«tuple.__mul__» ⟨[.ref l, .int 0 u], []⟩) (fun _ R s => s.heap.get? l = some { cls := .type "tuple", dict := dd, data := .seq items n, slots := sl } ∧
      R (.ok (.ret (Value.ref s.heap.objs.size))) { s with heap := s.heap.push { cls := Value.type "tuple", data := Data.seq #[] }, toks := s.toks }) :=
  .of_wp fun prog w A R s h => by
    obtain ⟨hp, g, d, tk, os⟩ := s
    obtain ⟨hl, h⟩ := h
    have f1 := AutoSeq1.idx_int
    have c1 : (items.isEmpty || (0 : Int) == 1) = false := by rw [c0]; rfl
    wp_walk using wpAny_loadPart' hl
    repeat (first
      | (refine wpAny_ite_false (decide_eq_false (by rw [c1]; exact Bool.false_ne_true)) ?_; wp_walk using wpAny_loadPart' hl)
      | (refine wpAny_ite_false (decide_eq_false (by simp)) ?_; wp_walk using wpAny_loadPart' hl)
      | (refine wpAny_ite_true (decide_eq_true (by simp)) ?_; wp_walk using wpAny_loadPart' hl))
    exact ⟨_, rfl, h⟩
def rRepS (K : PySem.W.Frag) : R2 := fun x y H Q => ∃ l k xs, x = .ref l ∧ y = .int k ∧ SqT K H l xs ∧ xs ≠ [] ∧ ((k = 0 ∧ ∀ p, H p = none → Q (.ref p) (upd H p (.tup []))) ∨ (k = 1 ∧ Q (.ref l) H))
theorem op_repS {X : Cx} : OpR X (binaryOp .Mult) (rRepS X.K) := by
  intro pins s σ H x y v u Q I rx ry h
  obtain ⟨l, k, xs, rfl, rfl, hT, hne, h⟩ := h
  cases rx
  obtain ⟨t, rfl⟩ := ry
  obtain ⟨its, r, ⟨⟨cls, dd, data, sl⟩, ho, hc, n, hd⟩, hs⟩ := I.tuple hT
  simp only at hc hd
  subst hc hd
  have hi : its.toArray.isEmpty = false := by
    cases its with
    | nil =>
      have e := r.length
      exact absurd (List.eq_nil_of_length_eq_zero e) hne
    | cons a b => rfl
  rcases h with ⟨rfl, q⟩ | ⟨rfl, q⟩
  · refine wpAny_binaryOp_repeat_ref (T := "tuple") (U := "int") (by decide) ⟨_, ho, rfl⟩ (fun s' => typeIs_int s' 0 t) noFill_tuple_mul F.fills_int_mul F.slot_int_rmul repeat_tuple F.slot_int_index.lookup
      (call_meets F.slot_int_rmul (typeIs_int s 0 t) F.entry_int_rmul (F.args_int_rmul_2 _ _) (int_rmul_tuple 0 t l its.toArray n dd sl)
        ⟨ho, rfl, ⟨_, ho, rfl⟩, call_meets F.slot_tuple_mul ⟨_, ho, rfl⟩ F.entry_tuple_mul (F.args_tuple_mul_2 _ _) (tup_mul0 l its.toArray n dd sl t hi) ⟨ho, ?_⟩⟩)
    refine ⟨.ref s.heap.objs.size, _, I.laid (t' := s.toks) (o := .tup []) (fun b ob q => Heap.get?_push_of_some _ q) (Nat.le_refl _) ?_, rfl, q _ (I.hok.fresh (Nat.le_refl _))⟩
    exact ⟨Nat.zero_le _, [], .nil, IsTup.new _ _⟩
  · refine wpAny_binaryOp_repeat_ref (T := "tuple") (U := "int") (by decide) ⟨_, ho, rfl⟩ (fun s' => typeIs_int s' 1 t) noFill_tuple_mul F.fills_int_mul F.slot_int_rmul repeat_tuple F.slot_int_index.lookup
      (call_meets F.slot_int_rmul (typeIs_int s 1 t) F.entry_int_rmul (F.args_int_rmul_2 _ _) (int_rmul_tuple 1 t l its.toArray n dd sl)
        ⟨ho, rfl, ⟨_, ho, rfl⟩, call_meets F.slot_tuple_mul ⟨_, ho, rfl⟩ F.entry_tuple_mul (F.args_tuple_mul_2 _ _) (tup_mul1 l its.toArray n dd sl t) ⟨ho, ?_⟩⟩)
    exact ⟨.ref l, H, I, rfl, q⟩
theorem od_repS {K : PySem.W.Frag} {ds : List D} {n : Int} (hne : ds ≠ []) (h : n = 0 ∨ n = 1) : OD (K := K) (rRepS K) (.tup ds) (.int n) (.tup (List.replicate n.toNat ds).flatten) := fun H S x y hS dx dy Q' k => by
  obtain ⟨a, xs, rfl, ha, hx⟩ := dv_tup dx
  rw [dv_int dy]
  have hnx : xs ≠ [] := fun e => hne (by
    have := hx.length
    rw [e] at this
    exact List.length_eq_zero_iff.mp this.symm)
  rcases h with rfl | rfl
  · refine ⟨a, 0, xs, rfl, rfl, ha, hnx, .inl ⟨rfl, fun l hl => ?_⟩⟩
    have ex : Ex H (upd H l (.tup [])) := Ex.new hl
    exact k _ _ ex (dv_newT upd_same (fun z => by obtain ⟨o, e⟩ := hS l z; rw [hl] at e; cases e) DVs.nil)
  · refine ⟨a, 1, xs, rfl, rfl, ha, hnx, .inr ⟨rfl, k _ H (fun _ _ h => h) ?_⟩⟩
    have e : (List.replicate (1 : Int).toNat ds).flatten = ds := by
      show (List.replicate 1 ds).flatten = ds
      simp
    rw [e]
    exact dx
def tCallR (i : Nat) (S : Addr → Sp → Prop) (t : TA) : TE := fun σ H Q => ∃ f sp, σ[i]? = some (some (.ref f)) ∧ S f sp ∧ t σ H fun vs H1 => sp vs H1 Q (fun _ _ _ => False)
theorem pe_callR {X : Cx} {k i : Nat} {x : Str} {p pos : Pos} {e : Expr} {es : List Expr} {t : TA} {S : Addr → Sp → Prop} (hA : ∀ f sp, S f sp → Held X.prog X.w X.K X.mg X.base k f sp) (hr : Room k X.A) (hN : X.N[i]? = some x) (hv : Vis X.env.scope x) (ha : PA X (e :: es) t)
    (hdb : (x == ("__debug__" : Str)) = false := by decide) (hcd : (x == ("__classdict__" : Str)) = false := by decide)
    (he : starEach (e :: es) X.env = (false, eval e X.env) :: starEach es X.env := by rfl) (hpl : (backTo pos (starEach es X.env)).any (·.1) = false := by rfl) : PE X (.Call (.Name x p) (e :: es) [] pos) (tCallR i S t) := ⟨fun pins s σ H Q I h => by
  obtain ⟨f, sp, hs, hS, ht⟩ := h
  have hh := hA f sp hS
  exact (pe_callA (S := fun g => if g = f then some sp else none) (fun g sp' e' => by
    by_cases q : g = f
    · rw [if_pos q] at e'
      cases e'
      rw [q]
      exact hh
    · rw [if_neg q] at e'
      cases e') hr hN hv ha hdb hcd he hpl).run pins s σ H Q I ⟨f, sp, hs, if_pos rfl, ht⟩⟩
section
variable {K : PySem.W.Frag} {ρ : En} {ta tb te : TE} {ts : TA} {Q : D → En → Prop} {Qo : O → En → Prop} {E : De} {i n : Nat} {f : List O → (O → List O → Prop) → Prop} {E0' : XK}
theorem ro_callR {S : Addr → Sp → Prop} {f0 : Addr} (h0 : ρ[i]? = some (some (.dat (.ref f0)))) (hS : S f0 (spM K n f))
    (h : RA K ts ρ fun as ρ1 => ∃ os, Res ρ1 as os ∧ (slotsOf as).Nodup ∧ as.length = n ∧ f os fun r os' => Qo r (pbk ρ1 as os')) : RO K (tCallR i S ts) ρ Qo := fun F σ H R Q' k => by
  obtain ⟨v, h1, h2⟩ := R.dat h0
  rw [dv_ref h2] at h1
  refine ⟨f0, _, h1, hS, h F σ H R _ fun as ρ1 vs H1 ⟨os, hr, nd, hn, hf⟩ R1 av m1 => ?_⟩
  exact call_core R1 av hr nd hn hf fun r os' v H' q R' m' => k r _ v H' q R' (m1.trans m')
/-- a call with data alone -/
theorem ro_callF (h : RD K ts ρ fun ds ρ1 => ds.length = n ∧ f (ds.map .dat) fun r os' => Qo r ρ1) : RO K (tCall (spM K n f) [] E0' ts) ρ Qo := fun F σ H R Q' k =>
  h F σ H R _ fun ds ρ1 vs H1 ⟨hn, hf⟩ R1 dv m1 => by
    show spM K n f (vs ++ []) H1 Q' E0'
    rw [List.append_nil]
    refine call_core (Post := fun r _ => Qo r ρ1) R1 (arv_dat dv) (res_dat ds) (by rw [slots_dat]; exact List.nodup_nil) (by simpa using hn) hf fun r os' v H' q R' m' => ?_
    rw [pbk_dat] at R' m'
    exact k r ρ1 v H' q R' (m1.trans m')
theorem re_callF (h : RD K ts ρ fun ds ρ1 => ds.length = n ∧ f (ds.map .dat) fun r os' => ∃ d, r = .dat d ∧ Q d ρ1) : RE K (tCall (spM K n f) [] E0' ts) ρ Q := re_ro (ro_callF h)
end
end Ow
namespace Ow
open PySem PySem.Spec PyProof.Rows L2
section
variable {K : PySem.W.Frag} {ρ : En} {ta tb te : TE} {ts : TA} {Q : D → En → Prop} {Qo : O → En → Prop} {E : De}
theorem set_self {ρ : En} {v : Nat} : ρ.set v (ρ[v]?.getD none) = ρ := by
  apply List.ext_getElem?
  intro i
  by_cases h : v = i
  · subst h
    by_cases hl : v < ρ.length
    · rw [List.getElem?_set_self hl]
      cases e : ρ[v]? with
      | none =>
        rw [List.getElem?_eq_none_iff] at e
        omega
      | some z => rfl
    · rw [List.getElem?_eq_none (by rw [List.length_set]; omega), List.getElem?_eq_none (by omega)]
  · rw [List.getElem?_set_ne h]
theorem unwipe_wipe {ρ1 : En} {vs : List Nat} : unwipe ρ1 (wipeE ρ1 vs) vs = ρ1 := by
  apply List.ext_getElem?
  intro i
  by_cases hl : i < ρ1.length
  · by_cases hv : i ∈ vs
    · rw [unwipe_get.2 hv (by rw [wipeE_length]; exact hl)]
      cases e : ρ1[i]? with
      | none => rw [List.getElem?_eq_none_iff] at e; omega
      | some z => rfl
    · rw [unwipe_get.1 hv]
      have : ∀ vs : List Nat, i ∉ vs → (wipeE ρ1 vs)[i]? = ρ1[i]? := by
        intro vs
        induction vs with
        | nil => intro _; rfl
        | cons v vs ih =>
          intro h
          simp at h
          show ((wipeE ρ1 vs).set v none)[i]? = _
          rw [List.getElem?_set_ne (fun q => h.1 q.symm)]
          exact ih h.2
      exact this vs hv
  · rw [List.getElem?_eq_none (by rw [unwipe_length, wipeE_length]; omega), List.getElem?_eq_none (by omega)]
/-- [e for x in xs], nothing changed: the answers are E -/
theorem ro_lcM {wi : TI} {g : TG} {vs : List Nat} (h : RI K wi ρ fun ds ρ1 => (∀ v ∈ vs, ∀ o, ρ1[v]? = some (some o) → ∃ d, o = .dat d) ∧ ds.length < sizeLine ∧ ∃ es : List D, es.length = ds.length ∧
      (∀ (i : Nat) (d e : D), ds[i]? = some d → es[i]? = some e → RC K g vs d (wipeE ρ1 vs) fun ρ2 => RE K te ρ2 fun y ρ4 => y = e ∧ wipeE ρ4 vs = wipeE ρ1 vs) ∧ ∀ p, Qo (.lst p es) ρ1) : RO K (tLc wi g tYes te vs) ρ Qo := by
  refine ro_lc fun F σ H R Q' k => h F σ H R Q' fun ds ρ1 J H1 ⟨h1, h2, es, h3, h4, h5⟩ R1 m1 jd => k ds ρ1 J H1 ⟨h1, h2, fun i outs ρ' => ρ' = wipeE ρ1 vs ∧ outs = es.take i, ⟨rfl, by simp⟩, fun i d outs ρ' e1 ⟨e2, e3⟩ => ?_, fun outs ρ' p ⟨e2, e3⟩ => ?_⟩ R1 m1 jd
  · subst e2
    have hi : i < es.length := by rw [h3]; exact (List.getElem?_eq_some_iff.mp e1).1
    refine fun F σ H v R dv Q' q => h4 i d es[i] e1 (List.getElem?_eq_getElem hi) F σ H v R dv Q' fun ρ2 σ2 H2 q2 R2 m2 wz => q ρ2 σ2 H2 ?_ R2 m2 wz
    intro F σ H R Qz kz
    exact kz true ρ2 H ⟨fun _ => RE.imp q2 fun y ρ4 ⟨y1, y2⟩ => ⟨y2, by rw [y1, e3, List.take_add_one, List.getElem?_eq_getElem hi]; rfl⟩, fun z => nomatch z⟩ R .refl
  · subst e2 e3
    rw [unwipe_wipe, ← h3, List.take_length]
    exact h5 p
theorem re_lcM {wi : TI} {g : TG} {vs : List Nat} (h : RI K wi ρ fun ds ρ1 => (∀ v ∈ vs, ∀ o, ρ1[v]? = some (some o) → ∃ d, o = .dat d) ∧ ds.length < sizeLine ∧ ∃ es : List D, es.length = ds.length ∧
      (∀ (i : Nat) (d e : D), ds[i]? = some d → es[i]? = some e → RC K g vs d (wipeE ρ1 vs) fun ρ2 => RE K te ρ2 fun y ρ4 => y = e ∧ wipeE ρ4 vs = wipeE ρ1 vs) ∧ Q (.lst es) ρ1) : RE K (tLc wi g tYes te vs) ρ Q :=
  re_fz (ro_lcM fun F σ H R Q' k => h F σ H R Q' fun ds ρ1 J H1 ⟨h1, h2, es, h3, h4, h5⟩ R1 m1 jd => k ds ρ1 J H1 ⟨h1, h2, es, h3, h4, fun _ => h5⟩ R1 m1 jd)
/-- l[i] = .., l an owned list -/
theorem rg_sub {ti : TE} {d : D} {Qg : En → Prop} (h0 : ∃ (i : Nat) (p : List Str) (a : Addr) (ds0 : List D), RP K ta ρ i p (.lst a ds0) ∧ RE K ti ρ fun j ρ2 => ∃ k o ds n, j = .int k ∧ ρ2[i]? = some (some o) ∧ sub o p = some (.lst a ds) ∧ ixN ds.length k = some n ∧ Qg (ρ2.set i (some (putAt o p (.lst a (ds.set n d)))))) :
    RG K (gSub ta ti rSetL) d ρ Qg := fun F σ H y R dv Q' kk => by
  obtain ⟨i, p, a, ds0, hp, h2⟩ := h0
  refine hp.2 F σ H R _ fun v hv => ?_
  unfold OV at hv
  obtain ⟨ev, xs, g1, g2⟩ := hv
  subst ev
  refine h2 F σ H R _ fun j ρ2 w H2 ⟨k, o, ds, n, ej, e1, e2, hn, q⟩ R2 dj m2 => ?_
  subst ej
  obtain ⟨ys, k1, k2⟩ := R2.lstAt e1 e2
  refine ⟨a, ys, k, n, rfl, dv_int dj, k1, by rw [k2.length]; exact hn, ?_⟩
  obtain ⟨R3, m3⟩ := R2.setL e1 e2 (k2.set n (dv.mv m2))
  exact kk _ _ _ q R3 (m2.trans m3)
end
end Ow
namespace K69
/-- the place of an address -/
def pl (ns : List Int) (i : Int) : Int := i % (ns.length : Int)
def gI (ns : List Int) (i : Int) : Int := ns.getD (pl ns i).toNat 0
def sI (ns : List Int) (i b : Int) : List Int := ns.set (pl ns i).toNat b
def pairV (ns : List Int) (i : Int) : Int := gI ns i * 256 + gI ns (i + 1)
def setP (ns : List Int) (i n : Int) : List Int := sI (sI ns i (n / 256)) (i + 1) (n % 256)
theorem sIl (ns : List Int) (i b : Int) : (sI ns i b).length = ns.length := by unfold sI; rw [List.length_set]
theorem setPl (ns : List Int) (i n : Int) : (setP ns i n).length = ns.length := by unfold setP; rw [sIl, sIl]
theorem pl_sI (ns : List Int) (i b j : Int) : pl (sI ns i b) j = pl ns j := by unfold pl; rw [sIl]
theorem pl_setP (ns : List Int) (i b j : Int) : pl (setP ns i b) j = pl ns j := by unfold pl; rw [setPl]
theorem pl_ltN {ns : List Int} (h : 0 < ns.length) (i : Int) : (pl ns i).toNat < ns.length := by
  have h1 : 0 ≤ pl ns i := Int.emod_nonneg _ (by omega)
  have h2 : pl ns i < ns.length := Int.emod_lt_of_pos _ (by omega)
  omega
theorem gI_eq {ns : List Int} {i j : Int} (h : pl ns i = pl ns j) : gI ns i = gI ns j := by unfold gI; rw [h]
theorem sI_eq {ns : List Int} {i j : Int} (h : pl ns i = pl ns j) (b : Int) : sI ns i b = sI ns j b := by unfold sI; rw [h]
theorem pl_pl (ns : List Int) (i : Int) : pl ns (pl ns i) = pl ns i := by unfold pl; exact Int.emod_emod_of_dvd _ (Int.dvd_refl _)
theorem pl_add (ns : List Int) (i k : Int) : pl ns (pl ns i + k) = pl ns (i + k) := by unfold pl; exact Int.emod_add_emod ..
theorem gI_same {ns : List Int} (h : 0 < ns.length) {i j b : Int} (e : pl ns i = pl ns j) : gI (sI ns i b) j = b := by
  unfold gI
  rw [pl_sI, ← e]
  unfold sI
  rw [List.getD_eq_getElem?_getD, List.getElem?_set_self (pl_ltN h i)]
  rfl
theorem nat_ne {ns : List Int} (h : 0 < ns.length) {i j : Int} (e : pl ns i ≠ pl ns j) : (pl ns i).toNat ≠ (pl ns j).toNat := by
  have h1 : 0 ≤ pl ns i := Int.emod_nonneg _ (by omega)
  have h2 : 0 ≤ pl ns j := Int.emod_nonneg _ (by omega)
  omega
theorem gI_ne {ns : List Int} (h : 0 < ns.length) {i j b : Int} (e : pl ns i ≠ pl ns j) : gI (sI ns i b) j = gI ns j := by
  unfold gI
  rw [pl_sI]
  unfold sI
  rw [List.getD_eq_getElem?_getD, List.getD_eq_getElem?_getD, List.getElem?_set_ne (nat_ne h e)]
theorem sI_comm {ns : List Int} (h : 0 < ns.length) {i j a b : Int} (e : pl ns i ≠ pl ns j) : sI (sI ns i a) j b = sI (sI ns j b) i a := by
  unfold sI
  have e1 : pl (ns.set (pl ns i).toNat a) j = pl ns j := by unfold pl; rw [List.length_set]
  have e2 : pl (ns.set (pl ns j).toNat b) i = pl ns i := by unfold pl; rw [List.length_set]
  rw [e1, e2, List.set_comm _ _ (nat_ne h e)]
theorem sI_sI {ns : List Int} {i j a b : Int} (e : pl ns i = pl ns j) : sI (sI ns i a) j b = sI ns j b := by
  unfold sI
  have e1 : pl (ns.set (pl ns i).toNat a) j = pl ns j := by unfold pl; rw [List.length_set]
  rw [e1, e, List.set_set]
theorem sI_self {ns : List Int} {i b : Int} (h : 0 < ns.length) (e : gI ns i = b) : sI ns i b = ns := by
  unfold sI
  have hl := pl_ltN h i
  have : ns[(pl ns i).toNat]? = some b := by
    unfold gI at e
    rw [List.getD_eq_getElem?_getD, List.getElem?_eq_getElem hl] at e
    rw [List.getElem?_eq_getElem hl]
    exact congrArg some e
  apply List.ext_getElem?
  intro k
  by_cases q : (pl ns i).toNat = k
  · subst q
    rw [List.getElem?_set_self hl, this]
  · rw [List.getElem?_set_ne q]
/-- places that differ -/
theorem pl_ne {ns : List Int} {i j : Int} (h : i ≠ j) (h1 : i - j < ns.length) (h2 : j - i < ns.length) : pl ns i ≠ pl ns j := fun e => by
  unfold pl at e
  have hd : (ns.length : Int) ∣ (i - j) := Int.dvd_of_emod_eq_zero (Int.emod_eq_emod_iff_emod_sub_eq_zero.mp e)
  obtain ⟨c, hc⟩ := hd
  have hn : (0 : Int) < ns.length := by omega
  have c1 : c < 1 := by
    apply Int.lt_of_mul_lt_mul_left (a := (ns.length : Int)) _ (by omega)
    rw [← hc]; omega
  have c2 : -1 < c := by
    apply Int.lt_of_mul_lt_mul_left (a := (ns.length : Int)) _ (by omega)
    rw [← hc, Int.mul_neg]; omega
  have : c = 0 := by omega
  rw [this, Int.mul_zero] at hc
  omega
/-- code written from b on -/
def wrs (ns : List Int) (b : Int) : List Int → List Int
  | [] => ns
  | c :: cs => wrs (sI ns b c) (b + 1) cs
theorem wrs_len : ∀ (cs : List Int) (ns : List Int) (b : Int), (wrs ns b cs).length = ns.length
  | [], _, _ => rfl
  | c :: cs, ns, b => by unfold wrs; rw [wrs_len cs, sIl]
theorem wrs_snoc : ∀ (cs : List Int) (ns : List Int) (b c : Int), wrs ns b (cs ++ [c]) = sI (wrs ns b cs) (b + cs.length) c
  | [], ns, b, c => by simp [wrs]
  | x :: cs, ns, b, c => by
    show wrs (sI ns b x) (b + 1) (cs ++ [c]) = sI (wrs (sI ns b x) (b + 1) cs) _ c
    rw [wrs_snoc cs, show b + 1 + (cs.length : Int) = b + ((x :: cs).length : Int) by simp only [List.length_cons]; omega]
theorem wrs_out : ∀ (cs : List Int) (ns : List Int) (b j : Int), 0 < ns.length → (∀ k : Nat, k < cs.length → pl ns (b + k) ≠ pl ns j) → gI (wrs ns b cs) j = gI ns j
  | [], _, _, _, _, _ => rfl
  | c :: cs, ns, b, j, h, e => by
    unfold wrs
    have e0 := e 0 (by simp)
    rw [show b + ((0 : Nat) : Int) = b by omega] at e0
    rw [wrs_out cs (sI ns b c) (b + 1) j (by rw [sIl]; exact h) (fun k hk => by
      have := e (k + 1) (by simp only [List.length_cons]; omega)
      rw [pl_sI, pl_sI, show b + 1 + (k : Int) = b + ((k + 1 : Nat) : Int) by omega]
      exact this), gI_ne h e0]
theorem wrs_get : ∀ (cs : List Int) (ns : List Int) (b : Int) (k : Nat) (c : Int), cs.length ≤ ns.length → cs[k]? = some c → gI (wrs ns b cs) (b + k) = c
  | [], _, _, k, c, _, h => by simp at h
  | x :: cs, ns, b, 0, c, hl, h => by
    have hx : x = c := by simpa using h
    subst hx
    have hn : 0 < ns.length := by simp only [List.length_cons] at hl; omega
    unfold wrs
    rw [wrs_out cs (sI ns b x) (b + 1) _ (by rw [sIl]; exact hn) (fun k hk => by
      rw [pl_sI, pl_sI]
      simp only [List.length_cons] at hl
      exact pl_ne (by omega) (by omega) (by omega)), gI_same hn (by rw [show b + ((0 : Nat) : Int) = b by omega])]
  | x :: cs, ns, b, k + 1, c, hl, h => by
    have h' : cs[k]? = some c := by simpa using h
    simp only [List.length_cons] at hl
    unfold wrs
    rw [show b + ((k + 1 : Nat) : Int) = b + 1 + (k : Int) by omega]
    exact wrs_get cs (sI ns b x) (b + 1) k c (by rw [sIl]; omega) h'
theorem wrs_mem {P : Int → Prop} : ∀ (cs : List Int) (ns : List Int) (b : Int), (∀ x ∈ ns, P x) → (∀ x ∈ cs, P x) → ∀ x ∈ wrs ns b cs, P x
  | [], _, _, h, _ => h
  | c :: cs, ns, b, h, hc => by
    unfold wrs
    refine wrs_mem cs _ _ (fun x hx => ?_) fun x hx => hc x (List.mem_cons_of_mem _ hx)
    unfold sI at hx
    rcases List.mem_or_eq_of_mem_set hx with q | q
    · exact h x q
    · exact hc x (by rw [q]; exact List.mem_cons_self)
end K69
namespace K69
open PySem Ow
abbrev dI (ns : List Int) : D := .tup (ns.map .int)
def words : List Str := ["set", "copy", "add", "sub", "mul", "low", "ask", "tell", "get", "put", "less", "same", "jump", "call", "back", "push", "pop", "out", "stop"]
/-- the operands' kinds of a word -/
def kinds (w : Str) : List Str :=
  if w = "set" then ["box", "byte"] else if w = "add" ∨ w = "sub" ∨ w = "mul" then ["box", "box", "box"] else if w = "tell" then ["box"] else if w = "less" then ["box", "box", "address"]
  else if w = "call" then ["address"] else if w = "push" ∨ w = "pop" then ["box"] else []
/-- the words of this law's code -/
def used : List Str := ["set", "add", "sub", "mul", "tell", "less", "call", "back", "push", "pop", "stop"]
def size1 (k : Str) : Int := if k = "address" then 2 else 1
def lenW (w : Str) : Int := 1 + ((kinds w).map size1).sum
def sumV (w : Str) (a b : Int) : Int := if w = "add" then (a + b) % 256 else if w = "sub" then (a - b) % 256 else (a * b) % 256
structure Ms where
  cells : List Int
  boxes : List Int
  at_ : Int
  top : Int
  ev : List D
def opV (ns : List Int) (k : Str) (i : Int) : Int := if k = "address" then pairV ns i else if k = "box" then gI ns i % 8 else gI ns i
def opsV (ns : List Int) : List Str → Int → List Int
  | [], _ => []
  | k :: ks, i => opV ns k i :: opsV ns ks (i + size1 k)
/-- the instruction at i: a word of this law's code and its operands -/
def InsAt (ns : List Int) (i : Int) (x : Str) (ops : List Int) : Prop := ∃ j : Nat, gI ns i = (j : Int) + 1 ∧ words[j]? = some x ∧ x ∈ used ∧ ops = opsV ns (kinds x) (i + 1)
abbrev stD (s : Ms) : D := .tup [dI s.cells, dI s.boxes, .int s.at_, .int s.top]
def bx (s : Ms) (i : Int) : Int := s.boxes.getD i.toNat 0
def sb (s : Ms) (i v : Int) : Ms := { s with boxes := s.boxes.set i.toNat v }
abbrev insD (x : Str) (ops : List Int) : D := .tup (.str x :: ops.map .int)
/-- what a deed does -/
def deed (x : Str) (ops : List Int) (s : Ms) : Ms :=
  match ops with
  | [r] =>
    if x = "tell" then { s with ev := s.ev ++ [.tup [.str "tell", .int (bx s r)]] }
    else if x = "call" then { s with cells := setP s.cells (pl s.cells (s.top + -2)) s.at_, top := pl s.cells (s.top + -2), at_ := pl s.cells r }
    else if x = "push" then { s with cells := sI s.cells (pl s.cells (s.top + -1)) (bx s r), top := pl s.cells (s.top + -1) }
    else if x = "pop" then { s with boxes := s.boxes.set r.toNat (gI s.cells s.top), top := pl s.cells (s.top + 1) }
    else s
  | [r, n] => if x = "set" then sb s r n else s
  | [r, p, q] =>
    if x = "less" then (if bx s r < bx s p then { s with at_ := pl s.cells q } else s)
    else if x = "add" ∨ x = "sub" ∨ x = "mul" then sb s r (sumV x (bx s p) (bx s q)) else s
  | _ => if x = "back" then { s with at_ := pl s.cells (pairV s.cells s.top), top := pl s.cells (s.top + 2) } else s
/-- a machine on which deeds go well -/
structure Good (s : Ms) : Prop where
  ne : s.cells ≠ []
  sz : s.cells.length < 100000
  b8 : s.boxes.length = 8
  bb : ∀ i ∈ s.boxes, 0 ≤ i ∧ i < 256
  ev : s.ev.length < 1000
def boxOk (i : Int) : Prop := 0 ≤ i ∧ i < 8
/-- operands that fit -/
def OpsOk (x : Str) (ops : List Int) : Prop := match ops with
  | [] => x = "back"
  | [r] => x = "call" ∨ ((x = "tell" ∨ x = "push" ∨ x = "pop") ∧ boxOk r)
  | [r, n] => x = "set" ∧ boxOk r
  | [r, p, q] => (x = "less" ∧ boxOk r ∧ boxOk p) ∨ ((x = "add" ∨ x = "sub" ∨ x = "mul") ∧ boxOk r ∧ boxOk p ∧ boxOk q)
  | _ => False
def stepV (x : Str) (ops : List Int) (s : Ms) : Ms := deed x ops { s with at_ := pl s.cells (s.at_ + lenW x) }
/-- a run: N steps, then stop -/
structure Run (s : Ms) (N : Nat) (tr : Nat → Ms) : Prop where
  zero : tr 0 = s
  good : ∀ j, j ≤ N → Good (tr j)
  step : ∀ j, j < N → ∃ (x : Str) (ops : List Int), x ≠ ("stop" : Str) ∧ InsAt (tr j).cells (tr j).at_ x ops ∧ OpsOk x ops ∧ tr (j + 1) = stepV x ops (tr j)
  stop : InsAt (tr N).cells (tr N).at_ "stop" []
/-- what a run answers -/
def ranD (N : Nat) (n : Nat) (tr : Nat → Ms) : D := .tup [.tup (tr (min n N)).ev, .tup [.str (if n ≤ N then "tired" else "stopped")], stD (tr (min n N))]
structure StOk (s : Ms) : Prop where
  sz : 1 ≤ s.cells.length ∧ s.cells.length ≤ 65536
  cb : ∀ i ∈ s.cells, 0 ≤ i ∧ i < 256
  b8 : s.boxes.length = 8
  bb : ∀ i ∈ s.boxes, 0 ≤ i ∧ i < 256
  a : 0 ≤ s.at_ ∧ s.at_ < s.cells.length
  t : 0 ≤ s.top ∧ s.top < s.cells.length
def shapes : List Str := ["rn", "rr", "rrr", "rrr", "rrr", "rn", "r", "r", "rAr", "Arr", "rrA", "rrA", "A", "A", "-", "r", "r", "A", "-"]
/-- the code of operands -/
def codeO : List Nat → List Int → List Int
  | c :: cs, a :: as => (if c = 65 then [a / 256, a % 256] else [a % 256]) ++ codeO cs as
  | _, _ => []
/-- the code of one line -/
def codeL (j : Nat) (x : List Nat) (as : List Int) : List Int := ((j : Int) + 1) :: codeO x as
def opOf (form : Int) : Str := if form = 0 then "add" else if form = 1 then "sub" else "mul"
/-- the lines of the text -/
def linesV (form a b loop part : Int) : List (Str × List Int) := [("set", [0, a]), ("set", [1, b]), ("set", [2, if form = 2 then 1 else 0]), ("set", [3, 1]), ("set", [7, 0]), ("call", [part]), ("sub", [1, 1, 3]), ("less", [7, 1, loop]), ("tell", [2]), ("stop", []), ("push", [0]), (opOf form, [2, 2, 0]), ("pop", [4]), ("back", [])]
def linesD (form a b loop part : Int) : List D := (linesV form a b loop part).map fun q => insD q.1 q.2
end K69
namespace K69
open PySem Ow
/-- the code's bytes -/
def codeV (form a b loop part : Int) : List Int :=
  [1, 0, a, 1, 1, b, 1, 2, if form = 2 then 1 else 0, 1, 3, 1, 1, 7, 0, 14, part / 256, part % 256, 4, 1, 1, 3, 11, 7, 1, loop / 256, loop % 256, 8, 2, 19, 16, 0, 3 + form, 2, 2, 0, 17, 4, 15]
/-- the code lies in M from base on -/
def HasC (M : List Int) (base : Int) (cs : List Int) : Prop := ∀ (k : Nat) (c : Int), cs[k]? = some c → gI M (base + k) = c
theorem kinds_set : kinds "set" = (["box", "byte"] : List Str) := by decide +kernel
theorem kinds_sum {x : Str} (h : x = "add" ∨ x = "sub" ∨ x = "mul") : kinds x = (["box", "box", "box"] : List Str) := by rcases h with rfl | rfl | rfl <;> decide +kernel
theorem kinds_tell : kinds "tell" = (["box"] : List Str) := by decide +kernel
theorem kinds_less : kinds "less" = (["box", "box", "address"] : List Str) := by decide +kernel
theorem kinds_call : kinds "call" = (["address"] : List Str) := by decide +kernel
theorem kinds_push : kinds "push" = (["box"] : List Str) := by decide +kernel
theorem kinds_pop : kinds "pop" = (["box"] : List Str) := by decide +kernel
theorem kinds_back : kinds "back" = ([] : List Str) := by decide +kernel
theorem kinds_stop : kinds "stop" = ([] : List Str) := by decide +kernel
theorem opV_box (M : List Int) (i : Int) : opV M "box" i = gI M i % 8 := by
  unfold opV
  rw [if_neg (by decide +kernel), if_pos rfl]
theorem opV_byte (M : List Int) (i : Int) : opV M "byte" i = gI M i := by
  unfold opV
  rw [if_neg (by decide +kernel), if_neg (by decide +kernel)]
theorem opV_address (M : List Int) (i : Int) : opV M "address" i = gI M i * 256 + gI M (i + 1) := by
  unfold opV
  rw [if_pos rfl]
  rfl
theorem size_box : size1 "box" = 1 := by decide +kernel
theorem size_byte : size1 "byte" = 1 := by decide +kernel
theorem size_address : size1 "address" = 2 := by decide +kernel
theorem lenW_set : lenW "set" = 3 := by decide +kernel
theorem lenW_sum {x : Str} (h : x = "add" ∨ x = "sub" ∨ x = "mul") : lenW x = 4 := by rcases h with rfl | rfl | rfl <;> decide +kernel
theorem lenW_tell : lenW "tell" = 2 := by decide +kernel
theorem lenW_less : lenW "less" = 5 := by decide +kernel
theorem lenW_call : lenW "call" = 3 := by decide +kernel
theorem lenW_push : lenW "push" = 2 := by decide +kernel
theorem lenW_pop : lenW "pop" = 2 := by decide +kernel
theorem lenW_back : lenW "back" = 1 := by decide +kernel
/-- one step -/
def Nx (s s' : Ms) : Prop := ∃ (x : Str) (ops : List Int), x ≠ ("stop" : Str) ∧ InsAt s.cells s.at_ x ops ∧ OpsOk x ops ∧ s' = stepV x ops s
section
variable {M cs : List Int} {base : Int} (hc : HasC M base cs)
include hc
/-- reading behind a place -/
theorem rdC {o k : Nat} {c i : Int} (h : cs[o + k]? = some c) (hi : i = pl M (base + o) + k) : gI M i = c := by
  rw [← hc (o + k) c h, hi]
  apply gI_eq
  rw [pl_add]
  rw [show base + (o : Int) + (k : Int) = base + ((o + k : Nat) : Int) by omega]
theorem ins_set {o : Nat} {r n : Int} (h0 : cs[o]? = some 1) (h1 : cs[o + 1]? = some r) (h2 : cs[o + 2]? = some n) (hr : boxOk r) : InsAt M (pl M (base + o)) "set" [r, n] :=
  ⟨0, rdC hc (k := 0) h0 (by omega), rfl, by decide +kernel, by
    rw [kinds_set]
    unfold opsV opsV opsV
    rw [opV_box, opV_byte, size_box, rdC hc h1 (by omega), rdC hc h2 (by omega), Int.emod_eq_of_lt hr.1 hr.2]⟩
theorem ins_sum {o : Nat} {r p q j : Int} {x : Str} (n : Nat) (hj : j = (n : Int) + 1) (hx : words[n]? = some x) (hxs : x = "add" ∨ x = "sub" ∨ x = "mul") (h0 : cs[o]? = some j) (h1 : cs[o + 1]? = some r) (h2 : cs[o + 2]? = some p) (h3 : cs[o + 3]? = some q) (hr : boxOk r) (hp : boxOk p) (hq : boxOk q) : InsAt M (pl M (base + o)) x [r, p, q] :=
  ⟨n, by rw [rdC hc (k := 0) h0 (by omega), hj], hx, by rcases hxs with rfl | rfl | rfl <;> decide +kernel, by
    rw [kinds_sum hxs]
    unfold opsV opsV opsV opsV
    rw [opV_box, opV_box, opV_box, size_box, rdC hc h1 (by omega), rdC hc h2 (by omega), rdC hc h3 (by omega), Int.emod_eq_of_lt hr.1 hr.2, Int.emod_eq_of_lt hp.1 hp.2, Int.emod_eq_of_lt hq.1 hq.2]⟩
theorem ins_tell {o : Nat} {r : Int} (h0 : cs[o]? = some 8) (h1 : cs[o + 1]? = some r) (hr : boxOk r) : InsAt M (pl M (base + o)) "tell" [r] :=
  ⟨7, rdC hc (k := 0) h0 (by omega), rfl, by decide +kernel, by
    rw [kinds_tell]
    unfold opsV opsV
    rw [opV_box, rdC hc h1 (by omega), Int.emod_eq_of_lt hr.1 hr.2]⟩
theorem ins_push {o : Nat} {r : Int} (h0 : cs[o]? = some 16) (h1 : cs[o + 1]? = some r) (hr : boxOk r) : InsAt M (pl M (base + o)) "push" [r] :=
  ⟨15, rdC hc (k := 0) h0 (by omega), rfl, by decide +kernel, by
    rw [kinds_push]
    unfold opsV opsV
    rw [opV_box, rdC hc h1 (by omega), Int.emod_eq_of_lt hr.1 hr.2]⟩
theorem ins_pop {o : Nat} {r : Int} (h0 : cs[o]? = some 17) (h1 : cs[o + 1]? = some r) (hr : boxOk r) : InsAt M (pl M (base + o)) "pop" [r] :=
  ⟨16, rdC hc (k := 0) h0 (by omega), rfl, by decide +kernel, by
    rw [kinds_pop]
    unfold opsV opsV
    rw [opV_box, rdC hc h1 (by omega), Int.emod_eq_of_lt hr.1 hr.2]⟩
theorem ins_back {o : Nat} (h0 : cs[o]? = some 15) : InsAt M (pl M (base + o)) "back" [] :=
  ⟨14, rdC hc (k := 0) h0 (by omega), rfl, by decide +kernel, by
    rw [kinds_back]
    rfl⟩
theorem ins_stop {o : Nat} (h0 : cs[o]? = some 19) : InsAt M (pl M (base + o)) "stop" [] :=
  ⟨18, rdC hc (k := 0) h0 (by omega), rfl, by decide +kernel, by
    rw [kinds_stop]
    rfl⟩
theorem ins_call {o : Nat} {p : Int} (h0 : cs[o]? = some 14) (h1 : cs[o + 1]? = some (p / 256)) (h2 : cs[o + 2]? = some (p % 256)) : InsAt M (pl M (base + o)) "call" [p] :=
  ⟨13, rdC hc (k := 0) h0 (by omega), rfl, by decide +kernel, by
    rw [kinds_call]
    unfold opsV opsV
    rw [opV_address, rdC hc h1 (by omega), rdC hc h2 (by omega), Int.mul_comm, Int.mul_ediv_add_emod]⟩
theorem ins_less {o : Nat} {r q p : Int} (h0 : cs[o]? = some 11) (h1 : cs[o + 1]? = some r) (h2 : cs[o + 2]? = some q) (h3 : cs[o + 3]? = some (p / 256)) (h4 : cs[o + 4]? = some (p % 256)) (hr : boxOk r) (hq : boxOk q) : InsAt M (pl M (base + o)) "less" [r, q, p] :=
  ⟨10, rdC hc (k := 0) h0 (by omega), rfl, by decide +kernel, by
    rw [kinds_less]
    unfold opsV opsV opsV opsV
    rw [opV_box, opV_box, opV_address, size_box, rdC hc h1 (by omega), rdC hc h2 (by omega), rdC hc h3 (by omega), rdC hc h4 (by omega), Int.emod_eq_of_lt hr.1 hr.2, Int.emod_eq_of_lt hq.1 hq.2, Int.mul_comm (p / 256), Int.mul_ediv_add_emod]⟩
end
section
variable {s : Ms} {cs : List Int} {base : Int} {o : Nat} (hc : HasC s.cells base cs) (ha : s.at_ = pl s.cells (base + o))
include hc ha
theorem nx_set {r n : Int} (h0 : cs[o]? = some 1) (h1 : cs[o + 1]? = some r) (h2 : cs[o + 2]? = some n) (hr : boxOk r) : Nx s { s with at_ := pl s.cells (base + (o + 3 : Nat)), boxes := s.boxes.set r.toNat n } :=
  ⟨"set", [r, n], by decide +kernel, by rw [ha]; exact ins_set hc h0 h1 h2 hr, ⟨rfl, hr⟩, by
    unfold stepV
    rw [lenW_set, ha, pl_add, show base + (o : Int) + 3 = base + ((o + 3 : Nat) : Int) by omega]
    rfl⟩
theorem nx_sum {r p q j : Int} {x : Str} (n : Nat) (hj : j = (n : Int) + 1) (hx : words[n]? = some x) (hxs : x = "add" ∨ x = "sub" ∨ x = "mul") (h0 : cs[o]? = some j) (h1 : cs[o + 1]? = some r) (h2 : cs[o + 2]? = some p) (h3 : cs[o + 3]? = some q) (hr : boxOk r) (hp : boxOk p) (hq : boxOk q) :
    Nx s { s with at_ := pl s.cells (base + (o + 4 : Nat)), boxes := s.boxes.set r.toNat (sumV x (bx s p) (bx s q)) } :=
  ⟨x, [r, p, q], by rcases hxs with rfl | rfl | rfl <;> decide +kernel, by rw [ha]; exact ins_sum hc n hj hx hxs h0 h1 h2 h3 hr hp hq, .inr ⟨hxs, hr, hp, hq⟩, by
    unfold stepV
    rw [lenW_sum hxs, ha, pl_add, show base + (o : Int) + 4 = base + ((o + 4 : Nat) : Int) by omega]
    unfold deed
    simp only []
    rw [if_neg (by rcases hxs with rfl | rfl | rfl <;> decide +kernel), if_pos hxs]
    rfl⟩
theorem nx_tell {r : Int} (h0 : cs[o]? = some 8) (h1 : cs[o + 1]? = some r) (hr : boxOk r) : Nx s { s with at_ := pl s.cells (base + (o + 2 : Nat)), ev := s.ev ++ [.tup [.str "tell", .int (bx s r)]] } :=
  ⟨"tell", [r], by decide +kernel, by rw [ha]; exact ins_tell hc h0 h1 hr, .inr ⟨.inl rfl, hr⟩, by
    unfold stepV
    rw [lenW_tell, ha, pl_add, show base + (o : Int) + 2 = base + ((o + 2 : Nat) : Int) by omega]
    rfl⟩
theorem nx_push {r : Int} (h0 : cs[o]? = some 16) (h1 : cs[o + 1]? = some r) (hr : boxOk r) : Nx s { s with at_ := pl s.cells (base + (o + 2 : Nat)), cells := sI s.cells (s.top + -1) (bx s r), top := pl s.cells (s.top + -1) } :=
  ⟨"push", [r], by decide +kernel, by rw [ha]; exact ins_push hc h0 h1 hr, .inr ⟨.inr (.inl rfl), hr⟩, by
    unfold stepV
    rw [lenW_push, ha, pl_add, show base + (o : Int) + 2 = base + ((o + 2 : Nat) : Int) by omega]
    rw [show sI s.cells (s.top + -1) (bx s r) = sI s.cells (pl s.cells (s.top + -1)) (bx s r) from sI_eq (pl_pl _ _).symm _]
    rfl⟩
theorem nx_pop {r : Int} (h0 : cs[o]? = some 17) (h1 : cs[o + 1]? = some r) (hr : boxOk r) : Nx s { s with at_ := pl s.cells (base + (o + 2 : Nat)), boxes := s.boxes.set r.toNat (gI s.cells s.top), top := pl s.cells (s.top + 1) } :=
  ⟨"pop", [r], by decide +kernel, by rw [ha]; exact ins_pop hc h0 h1 hr, .inr ⟨.inr (.inr rfl), hr⟩, by
    unfold stepV
    rw [lenW_pop, ha, pl_add, show base + (o : Int) + 2 = base + ((o + 2 : Nat) : Int) by omega]
    rfl⟩
theorem nx_call {p : Int} (h0 : cs[o]? = some 14) (h1 : cs[o + 1]? = some (p / 256)) (h2 : cs[o + 2]? = some (p % 256)) :
    Nx s { s with at_ := pl s.cells p, cells := setP s.cells (s.top + -2) (pl s.cells (base + (o + 3 : Nat))), top := pl s.cells (s.top + -2) } :=
  ⟨"call", [p], by decide +kernel, by rw [ha]; exact ins_call hc h0 h1 h2, .inl rfl, by
    unfold stepV
    rw [lenW_call, ha, pl_add, show base + (o : Int) + 3 = base + ((o + 3 : Nat) : Int) by omega]
    have e : setP s.cells (s.top + -2) (pl s.cells (base + (o + 3 : Nat))) = setP s.cells (pl s.cells (s.top + -2)) (pl s.cells (base + (o + 3 : Nat))) := by
      unfold setP
      rw [sI_eq (pl_pl s.cells (s.top + -2)).symm]
      apply sI_eq
      rw [pl_sI, pl_sI, pl_add]
    rw [e]
    rfl⟩
theorem nx_back (h0 : cs[o]? = some 15) : Nx s { s with at_ := pl s.cells (pairV s.cells s.top), top := pl s.cells (s.top + 2) } :=
  ⟨"back", [], by decide +kernel, by rw [ha]; exact ins_back hc h0, rfl, rfl⟩
theorem nx_less {r q p : Int} (h0 : cs[o]? = some 11) (h1 : cs[o + 1]? = some r) (h2 : cs[o + 2]? = some q) (h3 : cs[o + 3]? = some (p / 256)) (h4 : cs[o + 4]? = some (p % 256)) (hr : boxOk r) (hq : boxOk q) :
    Nx s { s with at_ := pl s.cells (if bx s r < bx s q then p else base + (o + 5 : Nat)) } :=
  ⟨"less", [r, q, p], by decide +kernel, by rw [ha]; exact ins_less hc h0 h1 h2 h3 h4 hr hq, .inl ⟨rfl, hr, hq⟩, by
    unfold stepV
    rw [lenW_less, ha, pl_add, show base + (o : Int) + 5 = base + ((o + 5 : Nat) : Int) by omega]
    show _ = if bx s r < bx s q then _ else _
    by_cases h : bx s r < bx s q
    · rw [if_pos h, if_pos h]
    · rw [if_neg h, if_neg h]⟩
end
end K69
namespace K69
open PySem Ow
structure Cf where
  form : Int
  a : Int
  b : Nat
  base : Int
  top : Int
  loop : Int
  part : Int
  m0 : List Int
  x0 : Int
  x1 : Int
  x2 : Int
  x3 : Int
  x4 : Int
  x5 : Int
  x6 : Int
  x7 : Int
abbrev by_ (x : Int) : Prop := 0 ≤ x ∧ x < 256
structure CfOk (c : Cf) (d : Int) : Prop where
  f : 0 ≤ c.form ∧ c.form < 3
  a : by_ c.a
  b : 1 ≤ c.b ∧ c.b ≤ 100
  s : 64 ≤ c.m0.length ∧ c.m0.length ≤ 4096
  ba : 0 ≤ c.base ∧ c.base < c.m0.length
  dd : 0 ≤ d ∧ d < 9
  tp : c.top = pl c.m0 (c.base - d)
  lo : pl c.m0 c.loop = pl c.m0 (c.base + (15 : Nat))
  pa : pl c.m0 c.part = pl c.m0 (c.base + (30 : Nat))
  co : HasC c.m0 c.base (codeV c.form c.a c.b c.loop c.part)
  cb : ∀ i ∈ c.m0, by_ i
  bs : by_ c.x0 ∧ by_ c.x1 ∧ by_ c.x2 ∧ by_ c.x3 ∧ by_ c.x4 ∧ by_ c.x5 ∧ by_ c.x6 ∧ by_ c.x7
namespace Cf
variable (c : Cf)
def code : List Int := codeV c.form c.a c.b c.loop c.part
def behind : Int := pl c.m0 (c.base + (18 : Nat))
def M2 : List Int := setP c.m0 (c.top + -2) c.behind
def M3 : List Int := sI c.M2 (c.top + -3) c.a
def fz : Int := if c.form = 2 then 1 else 0
def num : Nat → Int
  | 0 => c.fz
  | i + 1 => sumV (opOf c.form) (num i) c.a
def y4 (i : Nat) : Int := if i = 0 then c.x4 else c.a
def C0 (i : Nat) : List Int := if i = 0 then c.m0 else c.M3
def C1 (i : Nat) : List Int := if i = 0 then c.M2 else c.M3
def bxs (b n y : Int) : List Int := [c.a, b, n, 1, y, c.x5, c.x6, 0]
def at_ (o : Nat) : Int := pl c.m0 (c.base + o)
def Q (i : Nat) : Nat → Ms
  | 0 => ⟨c.C0 i, c.bxs (c.b - i) (c.num i) (c.y4 i), c.at_ (if i < c.b then 15 else 27), c.top, []⟩
  | 1 => ⟨c.C1 i, c.bxs (c.b - i) (c.num i) (c.y4 i), c.at_ 30, pl c.m0 (c.top + -2), []⟩
  | 2 => ⟨c.M3, c.bxs (c.b - i) (c.num i) (c.y4 i), c.at_ 32, pl c.m0 (c.top + -3), []⟩
  | 3 => ⟨c.M3, c.bxs (c.b - i) (c.num (i + 1)) (c.y4 i), c.at_ 36, pl c.m0 (c.top + -3), []⟩
  | 4 => ⟨c.M3, c.bxs (c.b - i) (c.num (i + 1)) c.a, c.at_ 38, pl c.m0 (c.top + -2), []⟩
  | 5 => ⟨c.M3, c.bxs (c.b - i) (c.num (i + 1)) c.a, c.at_ 18, c.top, []⟩
  | _ => ⟨c.M3, c.bxs (c.b - i - 1) (c.num (i + 1)) c.a, c.at_ 22, c.top, []⟩
def told : D := .tup [.str "tell", .int (c.num c.b)]
def Fin : Ms := ⟨c.M3, c.bxs 0 (c.num c.b) c.a, c.at_ 29, c.top, [c.told]⟩
def P (bs : List Int) (o : Nat) : Ms := ⟨c.m0, bs, c.at_ o, c.top, []⟩
def tr : Nat → Ms
  | 0 => c.P [c.x0, c.x1, c.x2, c.x3, c.x4, c.x5, c.x6, c.x7] 0
  | 1 => c.P [c.a, c.x1, c.x2, c.x3, c.x4, c.x5, c.x6, c.x7] 3
  | 2 => c.P [c.a, c.b, c.x2, c.x3, c.x4, c.x5, c.x6, c.x7] 6
  | 3 => c.P [c.a, c.b, c.fz, c.x3, c.x4, c.x5, c.x6, c.x7] 9
  | 4 => c.P [c.a, c.b, c.fz, 1, c.x4, c.x5, c.x6, c.x7] 12
  | j + 5 => if j = 7 * c.b + 1 then c.Fin else c.Q (j / 7) (j % 7)
end Cf
section
variable {c : Cf} {d : Int} (h : CfOk c d)
include h
theorem m0_pos : 0 < c.m0.length := by have := h.s; omega
theorem M2_len : c.M2.length = c.m0.length := setPl _ _ _
theorem M3_len : c.M3.length = c.m0.length := by unfold Cf.M3; rw [sIl, M2_len h]
theorem pl2 (i : Int) : pl c.M2 i = pl c.m0 i := by unfold pl; rw [M2_len h]
theorem pl3 (i : Int) : pl c.M3 i = pl c.m0 i := by unfold pl; rw [M3_len h]
theorem plC0 (i : Nat) (j : Int) : pl (c.C0 i) j = pl c.m0 j := by
  unfold Cf.C0
  split
  · rfl
  · exact pl3 h j
theorem plC1 (i : Nat) (j : Int) : pl (c.C1 i) j = pl c.m0 j := by
  unfold Cf.C1
  split
  · exact pl2 h j
  · exact pl3 h j
theorem top_add (k : Int) : pl c.m0 (c.top + k) = pl c.m0 (c.base + (k - d)) := by
  rw [h.tp, pl_add, show c.base - d + k = c.base + (k - d) by omega]
theorem code_len : c.code.length = 39 := rfl
theorem stk_ne {k : Int} (h1 : -3 ≤ k) (h2 : k ≤ -1) (o : Nat) (ho : o < 39) : pl c.m0 (c.top + k) ≠ pl c.m0 (c.base + o) := by
  rw [top_add h]
  have := h.dd
  have := h.s
  exact pl_ne (by omega) (by omega) (by omega)
theorem hasM2 : HasC c.M2 c.base c.code := fun k x hk => by
  have hl : k < 39 := (List.getElem?_eq_some_iff.mp hk).1
  have hp := m0_pos h
  unfold Cf.M2 setP
  rw [gI_ne (by rw [sIl]; exact hp) (by
      rw [pl_sI, pl_sI, show c.top + -2 + 1 = c.top + -1 by omega]
      exact stk_ne h (by omega) (by omega) k hl),
    gI_ne hp (stk_ne h (by omega) (by omega) k hl)]
  exact h.co k x hk
theorem hasM3 : HasC c.M3 c.base c.code := fun k x hk => by
  have hl : k < 39 := (List.getElem?_eq_some_iff.mp hk).1
  have hp := m0_pos h
  unfold Cf.M3
  rw [gI_ne (by rw [M2_len h]; exact hp) (by
      rw [pl2 h, pl2 h]
      exact stk_ne h (by omega) (by omega) k hl)]
  exact hasM2 h k x hk
theorem hasC0 (i : Nat) : HasC (c.C0 i) c.base c.code := by
  unfold Cf.C0
  split
  · exact h.co
  · exact hasM3 h
theorem hasC1 (i : Nat) : HasC (c.C1 i) c.base c.code := by
  unfold Cf.C1
  split
  · exact hasM2 h
  · exact hasM3 h
theorem top_ne {j k : Int} (hj : -3 ≤ j ∧ j ≤ -1) (hk : -3 ≤ k ∧ k ≤ -1) (ne : j ≠ k) : pl c.m0 (c.top + j) ≠ pl c.m0 (c.top + k) := by
  have := h.s
  exact pl_ne (by omega) (by omega) (by omega)
theorem g1 : gI c.M3 (c.top + -1) = c.behind % 256 := by
  have hp := m0_pos h
  unfold Cf.M3
  rw [gI_ne (by rw [M2_len h]; exact hp) (by
    rw [pl2 h, pl2 h]
    exact top_ne h (by omega) (by omega) (by omega))]
  unfold Cf.M2 setP
  rw [gI_same (by rw [sIl]; exact hp) (by rw [show c.top + -2 + 1 = c.top + -1 by omega])]
theorem g2 : gI c.M3 (c.top + -2) = c.behind / 256 := by
  have hp := m0_pos h
  unfold Cf.M3
  rw [gI_ne (by rw [M2_len h]; exact hp) (by
    rw [pl2 h, pl2 h]
    exact top_ne h (by omega) (by omega) (by omega))]
  unfold Cf.M2 setP
  rw [gI_ne (by rw [sIl]; exact hp) (by
    rw [pl_sI, pl_sI, show c.top + -2 + 1 = c.top + -1 by omega]
    exact top_ne h (by omega) (by omega) (by omega)), gI_same hp rfl]
theorem g3 : gI c.M3 (c.top + -3) = c.a := by
  unfold Cf.M3
  rw [gI_same (by rw [M2_len h]; exact m0_pos h) rfl]
theorem call_C (i : Nat) : setP (c.C0 i) (c.top + -2) c.behind = c.C1 i := by
  unfold Cf.C0 Cf.C1
  split
  · rfl
  · have hp := m0_pos h
    unfold setP
    rw [sI_self (by rw [M3_len h]; exact hp) (g2 h), show c.top + -2 + 1 = c.top + -1 by omega, sI_self (by rw [M3_len h]; exact hp) (g1 h)]
theorem push_C (i : Nat) : sI (c.C1 i) (c.top + -3) c.a = c.M3 := by
  unfold Cf.C1
  split
  · rfl
  · exact sI_self (by rw [M3_len h]; exact m0_pos h) (g3 h)
theorem behind_lt : 0 ≤ c.behind ∧ c.behind < c.m0.length := by
  have := m0_pos h
  exact ⟨Int.emod_nonneg _ (by omega), Int.emod_lt_of_pos _ (by omega)⟩
theorem back_at : pairV c.M3 (c.top + -2) = c.behind := by
  unfold pairV
  rw [g2 h, show c.top + -2 + 1 = c.top + -1 by omega, g1 h, Int.mul_comm, Int.mul_ediv_add_emod]
theorem top_lt : 0 ≤ c.top ∧ c.top < c.m0.length := by
  have := m0_pos h
  rw [h.tp]
  exact ⟨Int.emod_nonneg _ (by omega), Int.emod_lt_of_pos _ (by omega)⟩
theorem pl_top : pl c.m0 c.top = c.top := by
  have := top_lt h
  unfold pl
  exact Int.emod_eq_of_lt this.1 this.2
theorem sum_by (x : Str) (u v : Int) : by_ (sumV x u v) := by
  unfold sumV
  repeat' split
  all_goals exact ⟨Int.emod_nonneg _ (by decide), Int.emod_lt_of_pos _ (by decide)⟩
theorem num_by (i : Nat) : by_ (c.num i) := by
  cases i with
  | zero =>
    show by_ c.fz
    unfold Cf.fz
    split <;> exact ⟨by decide, by decide⟩
  | succ i => exact sum_by h _ _ _
theorem y4_by (i : Nat) : by_ (c.y4 i) := by
  unfold Cf.y4
  split
  · exact h.bs.2.2.2.2.1
  · exact h.a
theorem good_of {M bs : List Int} {p t : Int} {ev : List D} (hM : M.length = c.m0.length) (h8 : bs.length = 8) (hb : ∀ i ∈ bs, by_ i) (he : ev.length ≤ 1) : Good ⟨M, bs, p, t, ev⟩ := by
  have := h.s
  exact ⟨by intro e; have e : M = [] := e; rw [e] at hM; simp at hM; omega, by show M.length < _; omega, h8, hb, by show ev.length < _; omega⟩
theorem good_b {M : List Int} {b n y p t : Int} {ev : List D} (hM : M.length = c.m0.length) (hb : by_ b) (hn : by_ n) (hy : by_ y) (he : ev.length ≤ 1) : Good ⟨M, c.bxs b n y, p, t, ev⟩ :=
  good_of h hM rfl (fun i hi => by
    simp only [Cf.bxs, List.mem_cons, List.not_mem_nil, or_false] at hi
    rcases hi with rfl | rfl | rfl | rfl | rfl | rfl | rfl | rfl
    · exact h.a
    · exact hb
    · exact hn
    · exact ⟨by decide, by decide⟩
    · exact hy
    · exact h.bs.2.2.2.2.2.1
    · exact h.bs.2.2.2.2.2.2.1
    · exact ⟨by decide, by decide⟩) he
theorem C0_len (i : Nat) : (c.C0 i).length = c.m0.length := by
  unfold Cf.C0
  split
  · rfl
  · exact M3_len h
theorem C1_len (i : Nat) : (c.C1 i).length = c.m0.length := by
  unfold Cf.C1
  split
  · exact M2_len h
  · exact M3_len h
theorem good_Q (i r : Nat) (hi : i < c.b ∨ i = c.b ∧ r = 0) : Good (c.Q i r) := by
  have hb := h.b
  have b1 : by_ ((c.b : Int) - i) := ⟨by omega, by omega⟩
  unfold Cf.Q
  split
  · exact good_b h (C0_len h i) b1 (num_by h i) (y4_by h i) (by decide)
  · exact good_b h (C1_len h i) b1 (num_by h i) (y4_by h i) (by decide)
  · exact good_b h (M3_len h) b1 (num_by h i) (y4_by h i) (by decide)
  · exact good_b h (M3_len h) b1 (num_by h (i + 1)) (y4_by h i) (by decide)
  · exact good_b h (M3_len h) b1 (num_by h (i + 1)) h.a (by decide)
  · exact good_b h (M3_len h) b1 (num_by h (i + 1)) h.a (by decide)
  · rename_i hr0 _ _ _ _ _
    have hlt : i < c.b := by
      rcases hi with q | ⟨_, q⟩
      · exact q
      · exact absurd q hr0
    exact good_b h (M3_len h) ⟨by omega, by omega⟩ (num_by h (i + 1)) h.a (by decide)
theorem good_tr (j : Nat) (hj : j ≤ 6 + 7 * c.b) : Good (c.tr j) := by
  have hb := h.b
  obtain ⟨k0, k1, k2, k3, k4, k5, k6, k7⟩ := h.bs
  have hbb : by_ (c.b : Int) := ⟨by omega, by omega⟩
  have hf : by_ c.fz := num_by h 0
  unfold Cf.tr
  split
  · exact good_of h rfl rfl (fun i hi => by
      simp only [List.mem_cons, List.not_mem_nil, or_false] at hi
      rcases hi with rfl | rfl | rfl | rfl | rfl | rfl | rfl | rfl <;> assumption) (by decide)
  · have := h.a
    exact good_of h rfl rfl (fun i hi => by
      simp only [List.mem_cons, List.not_mem_nil, or_false] at hi
      rcases hi with rfl | rfl | rfl | rfl | rfl | rfl | rfl | rfl <;> assumption) (by decide)
  · have := h.a
    exact good_of h rfl rfl (fun i hi => by
      simp only [List.mem_cons, List.not_mem_nil, or_false] at hi
      rcases hi with rfl | rfl | rfl | rfl | rfl | rfl | rfl | rfl <;> assumption) (by decide)
  · have := h.a
    exact good_of h rfl rfl (fun i hi => by
      simp only [List.mem_cons, List.not_mem_nil, or_false] at hi
      rcases hi with rfl | rfl | rfl | rfl | rfl | rfl | rfl | rfl <;> assumption) (by decide)
  · have := h.a
    have h1 : by_ 1 := ⟨by decide, by decide⟩
    exact good_of h rfl rfl (fun i hi => by
      simp only [List.mem_cons, List.not_mem_nil, or_false] at hi
      rcases hi with rfl | rfl | rfl | rfl | rfl | rfl | rfl | rfl <;> assumption) (by decide)
  · rename_i j
    split
    · exact good_b h (M3_len h) ⟨by decide, by decide⟩ (num_by h c.b) h.a (Nat.le_refl _)
    · refine good_Q h _ _ ?_
      omega
end
end K69
namespace K69
open PySem Ow
theorem bOk {n : Nat} (h : n < 8) : boxOk (n : Int) := ⟨by omega, by omega⟩
theorem Nx.to {s s' s2 : Ms} (n : Nx s s') (e : s' = s2) : Nx s s2 := e ▸ n
section
variable {c : Cf} {d : Int} (h : CfOk c d)
include h
theorem atPl {M : List Int} (hM : M.length = c.m0.length) (o : Nat) : c.at_ o = pl M (c.base + o) := by
  unfold Cf.at_ pl
  rw [hM]
theorem nx_P (k : Nat) (hk : k < 5) : Nx (c.tr k) (c.tr (k + 1)) := by
  have hb := h.b
  have hne : ¬ 0 = 7 * c.b + 1 := by omega
  have e5 : c.tr 5 = ⟨c.m0, [c.a, c.b, c.fz, 1, c.x4, c.x5, c.x6, 0], c.at_ 15, c.top, []⟩ := by
    show (if 0 = 7 * c.b + 1 then c.Fin else c.Q (0 / 7) (0 % 7)) = _
    rw [if_neg hne]
    show (⟨c.C0 0, c.bxs (c.b - (0 : Nat)) (c.num 0) (c.y4 0), c.at_ (if 0 < c.b then 15 else 27), c.top, []⟩ : Ms) = _
    rw [if_pos (by omega), show (c.b : Int) - (0 : Nat) = c.b by omega]
    rfl
  match k, hk with
  | 0, _ => exact nx_set (s := c.tr 0) (o := 0) (r := 0) (n := c.a) h.co rfl rfl rfl rfl (bOk (n := 0) (by decide))
  | 1, _ => exact nx_set (s := c.tr 1) (o := 3) (r := 1) (n := c.b) h.co rfl rfl rfl rfl (bOk (n := 1) (by decide))
  | 2, _ => exact nx_set (s := c.tr 2) (o := 6) (r := 2) (n := c.fz) h.co rfl rfl rfl rfl (bOk (n := 2) (by decide))
  | 3, _ => exact nx_set (s := c.tr 3) (o := 9) (r := 3) (n := 1) h.co rfl rfl rfl rfl (bOk (n := 3) (by decide))
  | 4, _ =>
    rw [e5]
    exact nx_set (s := c.tr 4) (o := 12) (r := 7) (n := 0) h.co rfl rfl rfl rfl (bOk (n := 7) (by decide))
theorem op_word : ∃ n : Nat, 3 + c.form = (n : Int) + 1 ∧ words[n]? = some (opOf c.form) ∧ (opOf c.form = "add" ∨ opOf c.form = "sub" ∨ opOf c.form = "mul") := by
  have hf := h.f
  obtain e | e | e : c.form = 0 ∨ c.form = 1 ∨ c.form = 2 := by omega
  · exact ⟨2, by omega, by rw [e]; rfl, by rw [e]; exact .inl rfl⟩
  · exact ⟨3, by omega, by rw [e]; rfl, by rw [e]; exact .inr (.inl rfl)⟩
  · exact ⟨4, by omega, by rw [e]; rfl, by rw [e]; exact .inr (.inr rfl)⟩
theorem nx_Q (i r : Nat) (hi : i < c.b) (hr : r < 6) : Nx (c.Q i r) (c.Q i (r + 1)) := by
  have hb := h.b
  have l3 := M3_len h
  match r, hr with
  | 0, _ =>
    have ea : (c.Q i 0).at_ = pl (c.C0 i) (c.base + (15 : Nat)) := by
      show c.at_ (if i < c.b then 15 else 27) = _
      rw [if_pos hi]
      exact atPl h (C0_len h i) 15
    refine (nx_call (s := c.Q i 0) (o := 15) (p := c.part) (hasC0 h i) ea rfl rfl rfl).to ?_
    show (⟨setP (c.C0 i) (c.top + -2) (pl (c.C0 i) (c.base + (18 : Nat))), _, pl (c.C0 i) c.part, pl (c.C0 i) (c.top + -2), []⟩ : Ms) = _
    rw [plC0 h, plC0 h, plC0 h, h.pa]
    rw [show setP (c.C0 i) (c.top + -2) (pl c.m0 (c.base + (18 : Nat))) = c.C1 i from call_C h i]
    rfl
  | 1, _ =>
    refine (nx_push (s := c.Q i 1) (o := 30) (r := 0) (hasC1 h i) (atPl h (C1_len h i) 30) rfl rfl (bOk (n := 0) (by decide))).to ?_
    show (⟨sI (c.C1 i) (pl c.m0 (c.top + -2) + -1) c.a, _, pl (c.C1 i) (c.base + (32 : Nat)), pl (c.C1 i) (pl c.m0 (c.top + -2) + -1), []⟩ : Ms) = _
    rw [plC1 h, plC1 h, pl_add, show c.top + -2 + -1 = c.top + -3 by omega, sI_eq (j := c.top + -3) (by rw [plC1 h, plC1 h, pl_add, show c.top + -2 + -1 = c.top + -3 by omega]), push_C h]
    rfl
  | 2, _ =>
    obtain ⟨n, e1, e2, e3⟩ := op_word h
    refine (nx_sum (s := c.Q i 2) (o := 32) (r := 2) (p := 2) (q := 0) (hasM3 h) (atPl h l3 32) n e1 e2 e3 rfl rfl rfl rfl (bOk (n := 2) (by decide)) (bOk (n := 2) (by decide)) (bOk (n := 0) (by decide))).to ?_
    show (⟨c.M3, _, pl c.M3 (c.base + (36 : Nat)), _, []⟩ : Ms) = _
    rw [pl3 h]
    rfl
  | 3, _ =>
    refine (nx_pop (s := c.Q i 3) (o := 36) (r := 4) (hasM3 h) (atPl h l3 36) rfl rfl (bOk (n := 4) (by decide))).to ?_
    show (⟨c.M3, (c.bxs (c.b - i) (c.num (i + 1)) (c.y4 i)).set 4 (gI c.M3 (pl c.m0 (c.top + -3))), pl c.M3 (c.base + (38 : Nat)), pl c.M3 (pl c.m0 (c.top + -3) + 1), []⟩ : Ms) = _
    rw [pl3 h, pl3 h, pl_add, show c.top + -3 + 1 = c.top + -2 by omega, gI_eq (j := c.top + -3) (by rw [pl3 h, pl3 h, pl_pl]), g3 h]
    rfl
  | 4, _ =>
    refine (nx_back (s := c.Q i 4) (o := 38) (hasM3 h) (atPl h l3 38) rfl).to ?_
    show (⟨c.M3, _, pl c.M3 (pairV c.M3 (pl c.m0 (c.top + -2))), pl c.M3 (pl c.m0 (c.top + -2) + 2), []⟩ : Ms) = _
    have e : pairV c.M3 (pl c.m0 (c.top + -2)) = c.behind := by
      rw [← back_at h]
      unfold pairV
      rw [gI_eq (i := pl c.m0 (c.top + -2)) (j := c.top + -2) (by rw [pl3 h, pl3 h, pl_pl]), gI_eq (i := pl c.m0 (c.top + -2) + 1) (j := c.top + -2 + 1) (by rw [pl3 h, pl3 h, pl_add])]
    rw [e, pl3 h, pl3 h, pl_add, show c.top + -2 + 2 = c.top by omega, pl_top h]
    unfold Cf.behind
    rw [pl_pl]
    rfl
  | 5, _ =>
    refine (nx_sum (s := c.Q i 5) (o := 18) (r := 1) (p := 1) (q := 3) (x := "sub") (hasM3 h) (atPl h l3 18) 3 rfl rfl (.inr (.inl rfl)) rfl rfl rfl rfl (bOk (n := 1) (by decide)) (bOk (n := 1) (by decide)) (bOk (n := 3) (by decide))).to ?_
    show (⟨c.M3, (c.bxs (c.b - i) (c.num (i + 1)) c.a).set 1 (sumV "sub" (c.b - i) 1), pl c.M3 (c.base + (22 : Nat)), _, []⟩ : Ms) = _
    rw [pl3 h, show sumV "sub" (c.b - i) 1 = ((c.b : Int) - i - 1) % 256 by unfold sumV; rw [if_neg (by decide +kernel), if_pos rfl], Int.emod_eq_of_lt (by omega) (by omega)]
    rfl
theorem nx_L (i : Nat) (hi : i < c.b) : Nx (c.Q i 6) (c.Q (i + 1) 0) := by
  have hb := h.b
  refine (nx_less (s := c.Q i 6) (o := 22) (r := 7) (q := 1) (p := c.loop) (hasM3 h) (atPl h (M3_len h) 22) rfl rfl rfl rfl rfl (bOk (n := 7) (by decide)) (bOk (n := 1) (by decide))).to ?_
  show (⟨c.M3, c.bxs (c.b - i - 1) (c.num (i + 1)) c.a, pl c.M3 (if 0 < (c.b : Int) - i - 1 then c.loop else c.base + (27 : Nat)), c.top, []⟩ : Ms) = ⟨c.C0 (i + 1), c.bxs (c.b - (i + 1 : Nat)) (c.num (i + 1)) (c.y4 (i + 1)), c.at_ (if i + 1 < c.b then 15 else 27), c.top, []⟩
  rw [show (c.b : Int) - (i + 1 : Nat) = c.b - i - 1 by omega, pl3 h]
  have e : pl c.m0 (if 0 < (c.b : Int) - i - 1 then c.loop else c.base + (27 : Nat)) = c.at_ (if i + 1 < c.b then 15 else 27) := by
    by_cases q : i + 1 < c.b
    · rw [if_pos q, if_pos (by omega)]
      exact h.lo
    · rw [if_neg q, if_neg (by omega)]
      rfl
  rw [e]
  rfl
theorem nx_T : Nx (c.Q c.b 0) c.Fin := by
  have hb := h.b
  have ea : (c.Q c.b 0).at_ = pl (c.C0 c.b) (c.base + (27 : Nat)) := by
    show c.at_ (if c.b < c.b then 15 else 27) = _
    rw [if_neg (by omega)]
    exact atPl h (C0_len h c.b) 27
  refine (nx_tell (s := c.Q c.b 0) (o := 27) (r := 2) (hasC0 h c.b) ea rfl rfl (bOk (n := 2) (by decide))).to ?_
  have e0 : c.C0 c.b = c.M3 := by unfold Cf.C0; rw [if_neg (by omega)]
  have ey : c.y4 c.b = c.a := by unfold Cf.y4; rw [if_neg (by omega)]
  show (⟨c.C0 c.b, c.bxs (c.b - (c.b : Nat)) (c.num c.b) (c.y4 c.b), pl (c.C0 c.b) (c.base + (29 : Nat)), c.top, [c.told]⟩ : Ms) = _
  rw [plC0 h, e0, ey, show (c.b : Int) - (c.b : Nat) = 0 by omega]
  rfl
theorem nx_tr (j : Nat) (hj : j < 6 + 7 * c.b) : Nx (c.tr j) (c.tr (j + 1)) := by
  by_cases h5 : j < 5
  · exact nx_P h j h5
  · obtain ⟨k, rfl⟩ : ∃ k, j = k + 5 := ⟨j - 5, by omega⟩
    show Nx (if k = 7 * c.b + 1 then c.Fin else c.Q (k / 7) (k % 7)) (if k + 1 = 7 * c.b + 1 then c.Fin else c.Q ((k + 1) / 7) ((k + 1) % 7))
    rw [if_neg (by omega)]
    by_cases hk : k = 7 * c.b
    · rw [if_pos (by omega), show k / 7 = c.b by omega, show k % 7 = 0 by omega]
      exact nx_T h
    · rw [if_neg (by omega)]
      by_cases hr : k % 7 = 6
      · rw [show (k + 1) / 7 = k / 7 + 1 by omega, show (k + 1) % 7 = 0 by omega, hr]
        exact nx_L h _ (by omega)
      · rw [show (k + 1) / 7 = k / 7 by omega, show (k + 1) % 7 = k % 7 + 1 by omega]
        exact nx_Q h _ _ (by omega) (by omega)
theorem run_tr : Run (c.tr 0) (6 + 7 * c.b) c.tr where
  zero := rfl
  good := good_tr h
  step := nx_tr h
  stop := by
    have e : c.tr (6 + 7 * c.b) = c.Fin := by
      rw [show 6 + 7 * c.b = (7 * c.b + 1) + 5 by omega]
      show (if 7 * c.b + 1 = 7 * c.b + 1 then c.Fin else _) = _
      rw [if_pos rfl]
    rw [e]
    show InsAt c.M3 (c.at_ 29) "stop" []
    rw [atPl h (M3_len h) 29]
    exact ins_stop (hasM3 h) rfl
end
end K69
namespace K69
open PySem Ow
/-- a line's code -/
def lnJ (q : Str × List Int) : Nat := words.idxOf q.1
def lnC (q : Str × List Int) : List Int := codeL (lnJ q) (shapes.getD (lnJ q) "").cps.toList q.2
/-- a line that the law can code -/
def LnOk (q : Str × List Int) : Prop := ∃ z : Str, words[lnJ q]? = some q.1 ∧ shapes[lnJ q]? = some z ∧ q.2.length ≤ z.cps.toList.length ∧ lnC q = codeL (lnJ q) z.cps.toList q.2
theorem lnOk_of {q : Str × List Int} (j : Nat) (z : Str) (hj : words.idxOf q.1 = j) (hw : words[j]? = some q.1) (hz : shapes[j]? = some z) (hl : q.2.length ≤ z.cps.toList.length) : LnOk q := by
  have e : lnJ q = j := hj
  refine ⟨z, by rw [e]; exact hw, by rw [e]; exact hz, hl, ?_⟩
  unfold lnC
  rw [e, List.getD_eq_getElem?_getD, hz]
  rfl
theorem lnOk {form a b loop part : Int} (hf : 0 ≤ form ∧ form < 3) : ∀ q ∈ linesV form a b loop part, LnOk q := by
  intro q hq
  have hop : LnOk (opOf form, [2, 2, 0]) := by
    obtain rfl | rfl | rfl : form = 0 ∨ form = 1 ∨ form = 2 := by omega
    · exact lnOk_of 2 "rrr" (show List.idxOf ("add" : Str) words = 2 by decide +kernel) rfl rfl (by decide +kernel)
    · exact lnOk_of 3 "rrr" (show List.idxOf ("sub" : Str) words = 3 by decide +kernel) rfl rfl (by decide +kernel)
    · exact lnOk_of 4 "rrr" (show List.idxOf ("mul" : Str) words = 4 by decide +kernel) rfl rfl (by decide +kernel)
  simp only [linesV, List.mem_cons, List.not_mem_nil, or_false] at hq
  rcases hq with rfl | rfl | rfl | rfl | rfl | rfl | rfl | rfl | rfl | rfl | rfl | rfl | rfl | rfl
  · exact lnOk_of 0 "rn" (show List.idxOf ("set" : Str) words = 0 by decide +kernel) rfl rfl (by show 2 ≤ _; decide +kernel)
  · exact lnOk_of 0 "rn" (show List.idxOf ("set" : Str) words = 0 by decide +kernel) rfl rfl (by show 2 ≤ _; decide +kernel)
  · exact lnOk_of 0 "rn" (show List.idxOf ("set" : Str) words = 0 by decide +kernel) rfl rfl (by show 2 ≤ _; decide +kernel)
  · exact lnOk_of 0 "rn" (show List.idxOf ("set" : Str) words = 0 by decide +kernel) rfl rfl (by show 2 ≤ _; decide +kernel)
  · exact lnOk_of 0 "rn" (show List.idxOf ("set" : Str) words = 0 by decide +kernel) rfl rfl (by show 2 ≤ _; decide +kernel)
  · exact lnOk_of 13 "A" (show List.idxOf ("call" : Str) words = 13 by decide +kernel) rfl rfl (by show 1 ≤ _; decide +kernel)
  · exact lnOk_of 3 "rrr" (show List.idxOf ("sub" : Str) words = 3 by decide +kernel) rfl rfl (by show 3 ≤ _; decide +kernel)
  · exact lnOk_of 10 "rrA" (show List.idxOf ("less" : Str) words = 10 by decide +kernel) rfl rfl (by show 3 ≤ _; decide +kernel)
  · exact lnOk_of 7 "r" (show List.idxOf ("tell" : Str) words = 7 by decide +kernel) rfl rfl (by show 1 ≤ _; decide +kernel)
  · exact lnOk_of 18 "-" (show List.idxOf ("stop" : Str) words = 18 by decide +kernel) rfl rfl (by show 0 ≤ _; decide +kernel)
  · exact lnOk_of 15 "r" (show List.idxOf ("push" : Str) words = 15 by decide +kernel) rfl rfl (by show 1 ≤ _; decide +kernel)
  · exact hop
  · exact lnOk_of 16 "r" (show List.idxOf ("pop" : Str) words = 16 by decide +kernel) rfl rfl (by show 1 ≤ _; decide +kernel)
  · exact lnOk_of 14 "-" (show List.idxOf ("back" : Str) words = 14 by decide +kernel) rfl rfl (by show 0 ≤ _; decide +kernel)
theorem lnC_is {q : Str × List Int} (j : Nat) (cs : List Nat) (hj : words.idxOf q.1 = j) (hz : (shapes.getD j "").cps.toList = cs) : lnC q = codeL j cs q.2 := by
  have e : lnJ q = j := hj
  unfold lnC
  rw [e, hz]
/-- all the code -/
def codeAll (form a b loop part : Int) : List Int := (linesV form a b loop part).flatMap lnC
theorem codeAll_is {form a b loop part : Int} (hf : 0 ≤ form ∧ form < 3) (ha : by_ a) (hb : by_ b) : codeAll form a b loop part = codeV form a b loop part := by
  have hop : lnC (opOf form, [2, 2, 0]) = [3 + form, 2, 2, 0] := by
    obtain rfl | rfl | rfl : form = 0 ∨ form = 1 ∨ form = 2 := by omega
    · rw [lnC_is 2 [114, 114, 114] (show List.idxOf ("add" : Str) words = 2 by decide +kernel) (by decide +kernel)]; rfl
    · rw [lnC_is 3 [114, 114, 114] (show List.idxOf ("sub" : Str) words = 3 by decide +kernel) (by decide +kernel)]; rfl
    · rw [lnC_is 4 [114, 114, 114] (show List.idxOf ("mul" : Str) words = 4 by decide +kernel) (by decide +kernel)]; rfl
  have e1 : ∀ r n : Int, lnC ("set", [r, n]) = [1, r % 256, n % 256] := fun r n => by rw [lnC_is 0 [114, 110] (show List.idxOf ("set" : Str) words = 0 by decide +kernel) (by decide +kernel)]; rfl
  have e2 : ∀ p : Int, lnC ("call", [p]) = [14, p / 256, p % 256] := fun p => by rw [lnC_is 13 [65] (show List.idxOf ("call" : Str) words = 13 by decide +kernel) (by decide +kernel)]; rfl
  have e3 : lnC ("sub", [1, 1, 3]) = [4, 1, 1, 3] := by rw [lnC_is 3 [114, 114, 114] (show List.idxOf ("sub" : Str) words = 3 by decide +kernel) (by decide +kernel)]; rfl
  have e4 : ∀ p : Int, lnC ("less", [7, 1, p]) = [11, 7, 1, p / 256, p % 256] := fun p => by rw [lnC_is 10 [114, 114, 65] (show List.idxOf ("less" : Str) words = 10 by decide +kernel) (by decide +kernel)]; rfl
  have e5 : lnC ("tell", [2]) = [8, 2] := by rw [lnC_is 7 [114] (show List.idxOf ("tell" : Str) words = 7 by decide +kernel) (by decide +kernel)]; rfl
  have e6 : lnC ("stop", []) = [19] := by rw [lnC_is 18 [45] (show List.idxOf ("stop" : Str) words = 18 by decide +kernel) (by decide +kernel)]; rfl
  have e7 : lnC ("push", [0]) = [16, 0] := by rw [lnC_is 15 [114] (show List.idxOf ("push" : Str) words = 15 by decide +kernel) (by decide +kernel)]; rfl
  have e8 : lnC ("pop", [4]) = [17, 4] := by rw [lnC_is 16 [114] (show List.idxOf ("pop" : Str) words = 16 by decide +kernel) (by decide +kernel)]; rfl
  have e9 : lnC ("back", []) = [15] := by rw [lnC_is 14 [45] (show List.idxOf ("back" : Str) words = 14 by decide +kernel) (by decide +kernel)]; rfl
  unfold codeAll linesV codeV
  simp only [List.flatMap_cons, List.flatMap_nil, e1, e2, e3, e4, e5, e6, e7, e8, e9, hop]
  rw [Int.emod_eq_of_lt ha.1 ha.2, Int.emod_eq_of_lt hb.1 hb.2]
  by_cases hf2 : form = 2
  · rw [if_pos hf2]; rfl
  · rw [if_neg hf2]; rfl
/-- the place behind n lines -/
def plc (qs : List (Str × List Int)) (n : Nat) : Int := (((qs.take n).flatMap lnC).length : Nat)
def places (qs : List (Str × List Int)) (n : Nat) : List Int := (List.range (n + 1)).map (plc qs)
theorem places_len (qs : List (Str × List Int)) (n : Nat) : (places qs n).length = n + 1 := by unfold places; rw [List.length_map, List.length_range]
theorem places_at {qs : List (Str × List Int)} {n k : Nat} (h : k ≤ n) : (places qs n)[k]? = some (plc qs k) := by
  unfold places
  rw [List.getElem?_map, List.getElem?_range (by omega)]
  rfl
theorem places_snoc {qs : List (Str × List Int)} {n : Nat} {q : Str × List Int} (h : qs[n]? = some q) : places qs (n + 1) = places qs n ++ [plc qs n + ((lnC q).length : Nat)] := by
  unfold places
  rw [List.range_succ (n := n + 1), List.map_append]
  congr 1
  show [plc qs (n + 1)] = _
  unfold plc
  rw [List.take_add_one, h, List.flatMap_append, List.length_append]
  simp
theorem take_code {qs : List (Str × List Int)} {n : Nat} {q : Str × List Int} (h : qs[n]? = some q) : (qs.take (n + 1)).flatMap lnC = (qs.take n).flatMap lnC ++ lnC q := by
  rw [List.take_add_one, h, List.flatMap_append]
  simp
theorem lines_len (form a b loop part : Int) : (linesV form a b loop part).length = 14 := rfl
theorem code39 {form a b loop part : Int} (hf : 0 ≤ form ∧ form < 3) (ha : by_ a) (hb : by_ b) : (codeAll form a b loop part).length = 39 := by rw [codeAll_is hf ha hb]; rfl
theorem take_plc {form a b loop part : Int} (hf : 0 ≤ form ∧ form < 3) (n : Nat) (k : Nat) (h : n ≤ 14)
    (e : ∀ op : Str, ((([("set", [0, a]), ("set", [1, b]), ("set", [2, if form = 2 then 1 else 0]), ("set", [3, 1]), ("set", [7, 0]), ("call", [part]), ("sub", [1, 1, 3]), ("less", [7, 1, loop]), ("tell", [2]), ("stop", []), ("push", [0]), (op, [2, 2, 0]), ("pop", [4]), ("back", [])] : List (Str × List Int)).take n).flatMap lnC).length = k) : plc (linesV form a b loop part) n = k := by
  unfold plc
  have := e (opOf form)
  unfold linesV
  rw [this]
theorem plc5 {form a b loop part : Int} : plc (linesV form a b loop part) 5 = 15 := by
  have e1 : ∀ r n : Int, lnC ("set", [r, n]) = [1, r % 256, n % 256] := fun r n => by rw [lnC_is 0 [114, 110] (show List.idxOf ("set" : Str) words = 0 by decide +kernel) (by decide +kernel)]; rfl
  unfold plc linesV
  simp only [List.take, List.flatMap_cons, List.flatMap_nil, e1]
  rfl
theorem plc_all {form a b loop part : Int} : plc (linesV form a b loop part) 5 = 15 ∧ plc (linesV form a b loop part) 6 = 18 ∧ plc (linesV form a b loop part) 8 = 27 ∧ plc (linesV form a b loop part) 9 = 29 ∧ plc (linesV form a b loop part) 10 = 30 := by
  have e1 : ∀ r n : Int, lnC ("set", [r, n]) = [1, r % 256, n % 256] := fun r n => by rw [lnC_is 0 [114, 110] (show List.idxOf ("set" : Str) words = 0 by decide +kernel) (by decide +kernel)]; rfl
  have e2 : ∀ p : Int, lnC ("call", [p]) = [14, p / 256, p % 256] := fun p => by rw [lnC_is 13 [65] (show List.idxOf ("call" : Str) words = 13 by decide +kernel) (by decide +kernel)]; rfl
  have e3 : lnC ("sub", [1, 1, 3]) = [4, 1, 1, 3] := by rw [lnC_is 3 [114, 114, 114] (show List.idxOf ("sub" : Str) words = 3 by decide +kernel) (by decide +kernel)]; rfl
  have e4 : ∀ p : Int, lnC ("less", [7, 1, p]) = [11, 7, 1, p / 256, p % 256] := fun p => by rw [lnC_is 10 [114, 114, 65] (show List.idxOf ("less" : Str) words = 10 by decide +kernel) (by decide +kernel)]; rfl
  have e5 : lnC ("tell", [2]) = [8, 2] := by rw [lnC_is 7 [114] (show List.idxOf ("tell" : Str) words = 7 by decide +kernel) (by decide +kernel)]; rfl
  have e6 : lnC ("stop", []) = [19] := by rw [lnC_is 18 [45] (show List.idxOf ("stop" : Str) words = 18 by decide +kernel) (by decide +kernel)]; rfl
  refine ⟨?_, ?_, ?_, ?_, ?_⟩
  all_goals
    unfold plc linesV
    simp only [List.take, List.flatMap_cons, List.flatMap_nil, e1, e2, e3, e4, e5, e6]
    rfl
theorem code_lt {form a b loop part : Int} (hf : 0 ≤ form ∧ form < 3) {q : Str × List Int} (h : q ∈ linesV form a b loop part) : (lnC q).length ≤ 100 := by
  have e : (codeAll form 0 0 loop part).length = 39 := code39 hf ⟨by decide, by decide⟩ ⟨by decide, by decide⟩
  obtain ⟨z, k1, k2, k3, k4⟩ := lnOk hf q h
  rw [k4]
  have : ∀ (cs : List Nat) (as : List Int), (codeO cs as).length ≤ 2 * as.length := by
    intro cs
    induction cs with
    | nil => intro as; cases as <;> simp [codeO]
    | cons c cs ih =>
      intro as
      cases as with
      | nil => simp [codeO]
      | cons x as =>
        have := ih as
        simp only [codeO, List.length_append, List.length_cons]
        split <;> simp <;> omega
  have h2 := this z.cps.toList q.2
  have h3 : q.2.length ≤ 3 := by
    simp only [linesV, List.mem_cons, List.not_mem_nil, or_false] at h
    rcases h with rfl | rfl | rfl | rfl | rfl | rfl | rfl | rfl | rfl | rfl | rfl | rfl | rfl | rfl <;> simp
  unfold codeL
  simp only [List.length_cons]
  omega
theorem flat_lt {form a b loop part : Int} (hf : 0 ≤ form ∧ form < 3) (n : Nat) : (((linesV form a b loop part).take n).flatMap lnC).length ≤ 10000 := by
  have key : ∀ qs : List (Str × List Int), (∀ q ∈ qs, (lnC q).length ≤ 100) → (qs.flatMap lnC).length ≤ 100 * qs.length := by
    intro qs
    induction qs with
    | nil => intro _; simp
    | cons q qs ih =>
      intro h
      have h1 := h q (by simp)
      have h2 := ih fun q hq => h q (by simp [hq])
      simp only [List.flatMap_cons, List.length_append, List.length_cons]
      omega
  have h1 := key ((linesV form a b loop part).take n) fun q hq => code_lt hf (List.mem_of_mem_take hq)
  have h2 : ((linesV form a b loop part).take n).length ≤ 14 := by
    rw [List.length_take, lines_len]
    omega
  omega
def mulN (a : Int) : Nat → Int
  | 0 => 1
  | i + 1 => (mulN a i * a) % 256
def numV (form a : Int) (b : Nat) : Int := if form = 0 then (a * b) % 256 else if form = 1 then (0 - a * b) % 256 else mulN a b
theorem num_is {c : Cf} (hf : 0 ≤ c.form ∧ c.form < 3) (n : Nat) : c.num n = numV c.form c.a n := by
  obtain e | e | e : c.form = 0 ∨ c.form = 1 ∨ c.form = 2 := by omega
  · unfold numV
    rw [if_pos e]
    induction n with
    | zero => show c.fz = _; unfold Cf.fz; rw [if_neg (by omega)]; simp
    | succ n ih =>
      show sumV (opOf c.form) (c.num n) c.a = _
      rw [ih, e]
      show (c.a * n % 256 + c.a) % 256 = _
      rw [Int.emod_add_emod, show c.a * (n : Int) + c.a = c.a * ((n + 1 : Nat) : Int) by rw [show ((n + 1 : Nat) : Int) = (n : Int) + 1 by omega, Int.mul_add, Int.mul_one]]
  · unfold numV
    rw [if_neg (by omega), if_pos e]
    induction n with
    | zero => show c.fz = _; unfold Cf.fz; rw [if_neg (by omega)]; simp
    | succ n ih =>
      show sumV (opOf c.form) (c.num n) c.a = _
      rw [ih, e]
      show ((0 - c.a * n) % 256 - c.a) % 256 = _
      have : (0 : Int) - c.a * ((n + 1 : Nat) : Int) = (0 - c.a * n) - c.a := by rw [show ((n + 1 : Nat) : Int) = (n : Int) + 1 by omega, Int.mul_add, Int.mul_one]; omega
      rw [this, Int.emod_sub_emod]
  · unfold numV
    rw [if_neg (by omega), if_neg (by omega)]
    induction n with
    | zero => show c.fz = _; unfold Cf.fz; rw [if_pos e]; rfl
    | succ n ih =>
      show sumV (opOf c.form) (c.num n) c.a = _
      rw [ih, e]
      rfl
end K69
namespace K69
open PySem Ow
section
variable {c : Cf} {d : Int} (h : CfOk c d)
include h
theorem M3_is : c.M3 = sI (sI (sI c.m0 (c.top - 3) c.a) (c.top - 2) (c.behind / 256)) (c.top - 1) (c.behind % 256) := by
  have hp := m0_pos h
  unfold Cf.M3 Cf.M2 setP
  rw [show c.top + -2 + 1 = c.top + -1 by omega, show c.top - 3 = c.top + -3 by omega, show c.top - 2 = c.top + -2 by omega, show c.top - 1 = c.top + -1 by omega]
  rw [sI_comm (ns := sI c.m0 (c.top + -2) (c.behind / 256)) (by rw [sIl]; exact hp) (i := c.top + -1) (j := c.top + -3) (by rw [pl_sI, pl_sI]; exact top_ne h (by omega) (by omega) (by omega))]
  rw [sI_comm (ns := c.m0) hp (i := c.top + -2) (j := c.top + -3) (top_ne h (by omega) (by omega) (by omega))]
theorem tr_end (n : Nat) (hn : 5 + 7 * c.b ≤ n) : c.tr (min n (6 + 7 * c.b)) = ⟨c.M3, [c.a, 0, numV c.form c.a c.b, 1, c.a, c.x5, c.x6, 0], c.at_ (if 6 + 7 * c.b ≤ n then 29 else 27), c.top, if 6 + 7 * c.b ≤ n then [.tup [.str "tell", .int (numV c.form c.a c.b)]] else []⟩ := by
  have hb := h.b
  rw [← num_is h.f c.b]
  by_cases q : 6 + 7 * c.b ≤ n
  · rw [if_pos q, if_pos q, Nat.min_eq_right q, show 6 + 7 * c.b = (7 * c.b + 1) + 5 by omega]
    show (if 7 * c.b + 1 = 7 * c.b + 1 then c.Fin else _) = _
    rw [if_pos rfl]
    rfl
  · rw [if_neg q, if_neg q, Nat.min_eq_left (by omega), show n = 7 * c.b + 5 by omega]
    show (if 7 * c.b = 7 * c.b + 1 then c.Fin else c.Q (7 * c.b / 7) (7 * c.b % 7)) = _
    rw [if_neg (by omega), show 7 * c.b / 7 = c.b by omega, show 7 * c.b % 7 = 0 by omega]
    have e0 : c.C0 c.b = c.M3 := by unfold Cf.C0; rw [if_neg (by omega)]
    have ey : c.y4 c.b = c.a := by unfold Cf.y4; rw [if_neg (by omega)]
    show (⟨c.C0 c.b, c.bxs (c.b - (c.b : Nat)) (c.num c.b) (c.y4 c.b), c.at_ (if c.b < c.b then 15 else 27), c.top, []⟩ : Ms) = _
    rw [e0, ey, show (c.b : Int) - (c.b : Nat) = 0 by omega, if_neg (by omega)]
    rfl
theorem tr_0 : c.tr 0 = ⟨c.m0, [c.x0, c.x1, c.x2, c.x3, c.x4, c.x5, c.x6, c.x7], c.base, c.top, []⟩ := by
  have e : c.at_ 0 = c.base := by
    unfold Cf.at_ pl
    have := h.ba
    rw [show c.base + ((0 : Nat) : Int) = c.base by omega]
    exact Int.emod_eq_of_lt this.1 this.2
  show c.P _ 0 = _
  unfold Cf.P
  rw [e]
theorem st_ok : StOk (c.tr 0) := by
  rw [tr_0 h]
  have := h.s
  have := h.ba
  obtain ⟨k0, k1, k2, k3, k4, k5, k6, k7⟩ := h.bs
  exact ⟨⟨by show 1 ≤ c.m0.length; omega, by show c.m0.length ≤ _; omega⟩, h.cb, rfl, fun i hi => by
    simp only [List.mem_cons, List.not_mem_nil, or_false] at hi
    rcases hi with rfl | rfl | rfl | rfl | rfl | rfl | rfl | rfl <;> assumption, h.ba, top_lt h⟩
end
/-- the memory that the law fills -/
def mem0 (start step : Int) (n : Nat) : List Int := (List.range n).map fun k : Nat => (start + step * k) % 256
theorem mem0_len (start step : Int) (n : Nat) : (mem0 start step n).length = n := by unfold mem0; rw [List.length_map, List.length_range]
theorem mem0_by (start step : Int) (n : Nat) : ∀ i ∈ mem0 start step n, by_ i := fun i hi => by
  obtain ⟨k, _, rfl⟩ := List.mem_map.mp hi
  exact ⟨Int.emod_nonneg _ (by decide), Int.emod_lt_of_pos _ (by decide)⟩
theorem codeV_by {form a b loop part : Int} (hf : 0 ≤ form ∧ form < 3) (ha : by_ a) (hb : by_ b) (hl : 0 ≤ loop ∧ loop < 65536) (hp : 0 ≤ part ∧ part < 65536) : ∀ i ∈ codeV form a b loop part, by_ i := fun i hi => by
  simp only [codeV, List.mem_cons, List.not_mem_nil, or_false] at hi
  have t : ∀ n : Int, 0 ≤ n → n < 256 → by_ n := fun n h1 h2 => ⟨h1, h2⟩
  have e1 : by_ (loop / 256) := ⟨by omega, by omega⟩
  have e2 : by_ (loop % 256) := ⟨by omega, by omega⟩
  have e3 : by_ (part / 256) := ⟨by omega, by omega⟩
  have e4 : by_ (part % 256) := ⟨by omega, by omega⟩
  have e5 : by_ (if form = 2 then 1 else 0) := by split <;> exact ⟨by decide, by decide⟩
  have e6 : by_ (3 + form) := ⟨by omega, by omega⟩
  rcases hi with rfl | rfl | rfl | rfl | rfl | rfl | rfl | rfl | rfl | rfl | rfl | rfl | rfl | rfl | rfl | rfl | rfl | rfl | rfl | rfl | rfl | rfl | rfl | rfl | rfl | rfl | rfl | rfl | rfl | rfl | rfl | rfl | rfl | rfl | rfl | rfl | rfl | rfl | rfl
  all_goals first | assumption | exact ⟨by decide, by decide⟩
/-- the law's choices make a program that runs -/
theorem cf_ok0 {form a base top d x0 x1 x2 x3 x4 x5 x6 x7 : Int} {b size : Nat} {M : List Int} (hf : 0 ≤ form ∧ form < 3) (ha : by_ a) (hb : 1 ≤ b ∧ b ≤ 100) (hs : 64 ≤ size ∧ size ≤ 4096) (hba : 0 ≤ base ∧ base < size) (hd : 0 ≤ d ∧ d < 9)
    (htop : top = (base - d) % size) (hx : by_ x0 ∧ by_ x1 ∧ by_ x2 ∧ by_ x3 ∧ by_ x4 ∧ by_ x5 ∧ by_ x6 ∧ by_ x7) (hlen : M.length = size) {loop part : Int} (hl : loop % size = (base + 15) % size) (hp : part % size = (base + 30) % size)
    (hC : HasC M base (codeV form a b loop part)) (hB : ∀ i ∈ M, by_ i) : CfOk ⟨form, a, b, base, top, loop, part, M, x0, x1, x2, x3, x4, x5, x6, x7⟩ d := by
  have hpl : ∀ i : Int, pl M i = i % size := fun i => by unfold pl; rw [hlen]
  exact ⟨hf, ha, hb, by rw [hlen]; exact hs, by rw [hlen]; exact hba, hd, by rw [hpl]; exact htop, by rw [hpl, hpl]; exact hl, by rw [hpl, hpl]; exact hp, hC, hB, hx⟩
theorem more_lt {size : Nat} {r : Int} (hs : 64 ≤ size ∧ size ≤ 4096) (hr : 0 ≤ r ∧ r < 3) (i : Int) : 0 ≤ i % (size : Int) + size * r ∧ i % (size : Int) + size * r < 65536 := by
  have q1 : 0 ≤ i % (size : Int) := Int.emod_nonneg _ (by omega)
  have q2 : i % (size : Int) < size := Int.emod_lt_of_pos _ (by omega)
  obtain e | e | e : r = 0 ∨ r = 1 ∨ r = 2 := by omega
  all_goals rw [e]; omega
theorem more_mod {size : Nat} {r : Int} (i : Int) : (i % size + size * r) % size = i % size := by rw [Int.add_mul_emod_self_left, Int.emod_emod_of_dvd _ (Int.dvd_refl _)]
theorem cf_ok {form a base top start step r d x0 x1 x2 x3 x4 x5 x6 x7 : Int} {b size : Nat} (hf : 0 ≤ form ∧ form < 3) (ha : by_ a) (hb : 1 ≤ b ∧ b ≤ 100) (hs : 64 ≤ size ∧ size ≤ 4096) (hba : 0 ≤ base ∧ base < size) (hr : 0 ≤ r ∧ r < 3) (hd : 0 ≤ d ∧ d < 9)
    (htop : top = (base - d) % size) (hx : by_ x0 ∧ by_ x1 ∧ by_ x2 ∧ by_ x3 ∧ by_ x4 ∧ by_ x5 ∧ by_ x6 ∧ by_ x7) {loop part : Int} (hl : loop = (base + 15) % size + size * r) (hp : part = (base + 30) % size + size * r) {M : List Int}
    (hM : M = wrs (mem0 start step size) base (codeAll form a b loop part)) : CfOk ⟨form, a, b, base, top, loop, part, M, x0, x1, x2, x3, x4, x5, x6, x7⟩ d := by
  have hbb : by_ (b : Int) := ⟨by omega, by omega⟩
  refine cf_ok0 hf ha hb hs hba hd htop hx (by rw [hM, wrs_len, mem0_len]) (by rw [hl, more_mod]) (by rw [hp, more_mod]) ?_ ?_
  · rw [hM, ← codeAll_is hf ha hbb]
    intro k x hk
    exact wrs_get _ _ _ _ _ (by rw [mem0_len, code39 hf ha hbb]; omega) hk
  · rw [hM, codeAll_is hf ha hbb]
    exact wrs_mem _ _ _ (mem0_by _ _ _) (codeV_by hf ha hbb (by rw [hl]; exact more_lt hs hr _) (by rw [hp]; exact more_lt hs hr _))
end K69
namespace K69
open PySem PySem.Spec PyProof.Rows L2 Ow
abbrev Fu := List O → (O → List O → Prop) → Prop
abbrev di (i : Int) : O := .dat (.int i)
abbrev db (b : Bool) : O := .dat (.bl b)
abbrev f_is_integer (K : PySem.W.Frag) : Fu := fun os Post => ∃ i, os = [di i] ∧ Post (db true) os
abbrev f_is_number (K : PySem.W.Frag) : Fu := fun os Post => ∃ i, os = [di i] ∧ Post (db (decide (0 ≤ i))) os
abbrev f_is_number_below (K : PySem.W.Frag) : Fu := fun os Post => ∃ i l, os = [di i, di l] ∧ Post (db (decide (0 ≤ i) && decide (i < l))) os
abbrev f_is_byte (K : PySem.W.Frag) : Fu := fun os Post => ∃ i, os = [di i] ∧ Post (db (decide (0 ≤ i) && decide (i < 256))) os
abbrev f_is_tuple_of (K : PySem.W.Frag) : Fu := fun os Post => ∃ ds n, os = [.dat (.tup ds), di n] ∧ Post (db (decide ((ds.length : Int) = n))) os
abbrev f_are_bytes (K : PySem.W.Frag) : Fu := fun os Post => ∃ ns, os = [.dat (dI ns)] ∧ ns.length < sizeLine ∧ (∀ i ∈ ns, 0 ≤ i ∧ i < 256) ∧ Post (db true) os
abbrev f_are_below (K : PySem.W.Frag) : Fu := fun os Post => ∃ ns l, os = [.dat (dI ns), di l] ∧ ns.length < sizeLine ∧ (∀ i ∈ ns, 0 ≤ i ∧ i < l) ∧ Post (db true) os
abbrev f_are_numbers_below (K : PySem.W.Frag) : Fu := fun os Post => ∃ ns n l, os = [.dat (dI ns), di n, di l] ∧ ns.length < sizeLine ∧ (ns.length : Int) = n ∧ (∀ i ∈ ns, 0 ≤ i ∧ i < l) ∧ Post (db true) os
abbrev f_is_opcode (K : PySem.W.Frag) : Fu := fun os Post => ∃ i, os = [di i] ∧ Post (db (decide (1 ≤ i) && decide (i ≤ 19))) os
abbrev f_word_of (K : PySem.W.Frag) : Fu := fun os Post => ∃ (j : Nat) (x : Str), os = [di ((j : Int) + 1)] ∧ words[j]? = some x ∧ Post (.dat (.str x)) os
abbrev f_length_of (K : PySem.W.Frag) : Fu := fun os Post => ∃ x, os = [.dat (.str x)] ∧ x ∈ used ∧ Post (di (lenW x)) os
abbrev f_sum_of (K : PySem.W.Frag) : Fu := fun os Post => ∃ x a b, os = [.dat (.str x), di a, di b] ∧ (x = "add" ∨ x = "sub" ∨ x = "mul") ∧ 0 ≤ a ∧ a < 256 ∧ Post (di (sumV x a b)) os
abbrev f_test_holds (K : PySem.W.Frag) : Fu := fun os Post => ∃ a b, os = [.dat (.str "less"), di a, di b] ∧ Post (db (decide (a < b))) os
abbrev f_high_and_low (K : PySem.W.Frag) : Fu := fun os Post => ∃ n, os = [di n] ∧ Post (.dat (.tup [.int (n / 256), .int (n % 256)])) os
abbrev f_joined_bytes (K : PySem.W.Frag) : Fu := fun os Post => ∃ a b, os = [di a, di b] ∧ Post (di (a * 256 + b)) os
structure Ad where
  m : Addr
  mem : Addr
  row : Addr
  box : Addr
  out : Addr
  told : Addr
abbrev outF : List Str := ["answers", "taken", "told"]
abbrev memF : List Str := ["row", "many"]
abbrev machF : List Str := ["memory", "boxes", "at", "top", "outside"]
abbrev outT (K : PySem.W.Frag) (a l : Addr) (ev : List D) : O := .ins a (He.ga K "Outside") outF [.dat (.tup []), .dat (.int 0), .lst l ev]
abbrev memT (K : PySem.W.Frag) (a r : Addr) (ns : List Int) : O := .ins a (He.ga K "RawMemory") memF [.lst r (ns.map .int), .dat (.int ns.length)]
abbrev machT (K : PySem.W.Frag) (A : Ad) (s : Ms) : O := .ins A.m (He.ga K "RawMachine") machF [memT K A.mem A.row s.cells, .lst A.box (s.boxes.map .int), .dat (.int s.at_), .dat (.int s.top), outT K A.out A.told s.ev]
abbrev f_Outside_init (K : PySem.W.Frag) : Fu := fun os Post => ∃ a C, os = [.ins a C [] [], .dat (.tup [])] ∧ C = He.ga K "Outside" ∧ ∀ l, Post (.dat .non) [outT K a l [], .dat (.tup [])]
abbrev f_Outside_tell (K : PySem.W.Frag) : Fu := fun os Post => ∃ a l ev d, os = [outT K a l ev, .dat d] ∧ ev.length < sizeLine ∧ Post (.dat .non) [outT K a l (ev ++ [d]), .dat d]
abbrev f_Outside_events (K : PySem.W.Frag) : Fu := fun os Post => ∃ a l ev, os = [outT K a l ev] ∧ Post (.dat (.tup ev)) os
abbrev f_RawMemory_init (K : PySem.W.Frag) : Fu := fun os Post => ∃ a C ns, os = [.ins a C [] [], .dat (dI ns)] ∧ C = He.ga K "RawMemory" ∧ ∀ r, Post (.dat .non) [memT K a r ns, .dat (dI ns)]
abbrev f_RawMemory_place_of_address (K : PySem.W.Frag) : Fu := fun os Post => ∃ a r ns i, os = [memT K a r ns, di i] ∧ ns ≠ [] ∧ Post (di (pl ns i)) os
abbrev f_RawMemory_byte_at (K : PySem.W.Frag) : Fu := fun os Post => ∃ a r ns i, os = [memT K a r ns, di i] ∧ ns ≠ [] ∧ Post (di (gI ns i)) os
abbrev f_RawMemory_set_byte (K : PySem.W.Frag) : Fu := fun os Post => ∃ a r ns i b, os = [memT K a r ns, di i, di b] ∧ ns ≠ [] ∧ Post (.dat .non) [memT K a r (sI ns i b), di i, di b]
abbrev f_RawMemory_pair_at (K : PySem.W.Frag) : Fu := fun os Post => ∃ a r ns i, os = [memT K a r ns, di i] ∧ ns ≠ [] ∧ Post (di (pairV ns i)) os
abbrev f_RawMemory_set_pair (K : PySem.W.Frag) : Fu := fun os Post => ∃ a r ns i n, os = [memT K a r ns, di i, di n] ∧ ns ≠ [] ∧ Post (.dat .non) [memT K a r (setP ns i n), di i, di n]
abbrev f_RawMemory_operand (K : PySem.W.Frag) : Fu := fun os Post => ∃ a r ns k i, os = [memT K a r ns, .dat (.str k), di i] ∧ ns ≠ [] ∧ Post (di (opV ns k i)) os
abbrev f_RawMemory_instruction_at (K : PySem.W.Frag) : Fu := fun os Post => ∃ a r ns i x ops, os = [memT K a r ns, di i] ∧ ns ≠ [] ∧ InsAt ns i x ops ∧ Post (.dat (.tup (.str x :: ops.map .int))) os
abbrev f_RawMemory_whole (K : PySem.W.Frag) : Fu := fun os Post => ∃ a r ns, os = [memT K a r ns] ∧ Post (.dat (dI ns)) os
abbrev f_RawMachine_init (K : PySem.W.Frag) : Fu := fun os Post => ∃ a C s, os = [.ins a C [] [], .dat (stD s), .dat (.tup [])] ∧ C = He.ga K "RawMachine" ∧ s.ev = [] ∧ ∀ A : Ad, A.m = a → Post (.dat .non) [machT K A s, .dat (stD s), .dat (.tup [])]
abbrev f_RawMachine_whole_state (K : PySem.W.Frag) : Fu := fun os Post => ∃ A s, os = [machT K A s] ∧ Post (.dat (stD s)) os
abbrev f_RawMachine_go_to (K : PySem.W.Frag) : Fu := fun os Post => ∃ A s i, os = [machT K A s, di i] ∧ s.cells ≠ [] ∧ Post (.dat .non) [machT K A { s with at_ := pl s.cells i }, di i]
abbrev f_RawMachine_move_top (K : PySem.W.Frag) : Fu := fun os Post => ∃ A s i, os = [machT K A s, di i] ∧ s.cells ≠ [] ∧ Post (.dat .non) [machT K A { s with top := pl s.cells (s.top + i) }, di i]
abbrev f_RawMachine_waits_at (K : PySem.W.Frag) : Fu := fun os Post => ∃ A s x, os = [machT K A s, .dat (.str x)] ∧ x ∈ used ∧ Post (db false) os
abbrev f_deed (K : PySem.W.Frag) (W : List Str) : Fu := fun os Post => ∃ A s x ops, x ∈ W ∧ os = [machT K A s, .dat (insD x ops)] ∧ Good s ∧ OpsOk x ops ∧ Post (.dat .non) [machT K A (deed x ops s), .dat (insD x ops)]
def deedsOf : List (Str × List Str) := [("raw_set", ["set"]), ("raw_sum", ["add", "sub", "mul"]), ("raw_tell", ["tell"]), ("raw_test", ["less"]), ("raw_call", ["call"]), ("raw_back", ["back"]), ("raw_push", ["push"]), ("raw_pop", ["pop"])]
def deedS (K : PySem.W.Frag) (f : Addr) (sp : Sp) : Prop := ∃ q ∈ deedsOf, f = He.ga K q.1 ∧ sp = spM K 2 (f_deed K q.2)
abbrev f_raw_set (K : PySem.W.Frag) : Fu := f_deed K ["set"]
abbrev f_raw_sum (K : PySem.W.Frag) : Fu := f_deed K ["add", "sub", "mul"]
abbrev f_raw_tell (K : PySem.W.Frag) : Fu := f_deed K ["tell"]
abbrev f_raw_test (K : PySem.W.Frag) : Fu := f_deed K ["less"]
abbrev f_raw_call (K : PySem.W.Frag) : Fu := f_deed K ["call"]
abbrev f_raw_back (K : PySem.W.Frag) : Fu := f_deed K ["back"]
abbrev f_raw_push (K : PySem.W.Frag) : Fu := f_deed K ["push"]
abbrev f_raw_pop (K : PySem.W.Frag) : Fu := f_deed K ["pop"]
abbrev f_RawMachine_do (K : PySem.W.Frag) : Fu := fun os Post => ∃ A s x ops, os = [machT K A s, .dat (insD x ops)] ∧ x ∈ used ∧ Good s ∧ OpsOk x ops ∧ Post (.dat .non) [machT K A (stepV x ops s), .dat (insD x ops)]
abbrev f_RawMachine_run_on (K : PySem.W.Frag) : Fu := fun os Post => ∃ (A : Ad) (s : Ms) (n N : Nat) (tr : Nat → Ms), os = [machT K A s, di n] ∧ Run s N tr ∧
  Post (.dat (.tup [.str (if n ≤ N then "tired" else "stopped")])) [machT K A (tr (min n N)), di n]
abbrev f_ran (K : PySem.W.Frag) : Fu := fun os Post => ∃ (s : Ms) (n N : Nat) (tr : Nat → Ms), os = [.dat (stD s), .dat (.tup []), di n] ∧ s.ev = [] ∧ Run s N tr ∧ Post (.dat (ranD N n tr)) os
abbrev f_is_machine_state (K : PySem.W.Frag) : Fu := fun os Post => ∃ s, os = [.dat (stD s)] ∧ StOk s ∧ Post (db true) os
abbrev f_are_machine_answers (K : PySem.W.Frag) : Fu := fun os Post => os = [.dat (.tup [])] ∧ Post (db true) os
abbrev f_machine_run (K : PySem.W.Frag) : Fu := fun os Post => ∃ (s : Ms) (n N : Nat) (tr : Nat → Ms), os = [.dat (stD s), .dat (.tup []), di n] ∧ s.ev = [] ∧ StOk s ∧ Run s N tr ∧ Post (.dat (ranD N n tr)) os
structure Jar where
  cs : List Int
  p : Int
  q : Int
  c : Int
structure JarOk (j : Jar) : Prop where
  ne : j.cs ≠ []
  sz : j.cs.length ≤ 1000
  p : 0 ≤ j.p
  q : 0 ≤ j.q
def jarL (j : Jar) : List D := [.lst (j.cs.map .int), .int j.p, .int j.q, .int j.c]
abbrev f__law_jar (K : PySem.W.Frag) : Fu := fun os Post => ∃ ns : List Int, os = [.dat (.scr ns)] ∧ ns.length < sizeLine ∧ ∀ a j, JarOk j → Post (.lst a (jarL j)) os
abbrev f__law_draw (K : PySem.W.Frag) : Fu := fun os Post => ∃ a j l, os = [.lst a (jarL j), di l] ∧ JarOk j ∧ 0 < l ∧ l < 100000 ∧ ∀ j' r, JarOk j' → 0 ≤ r → r < l → Post (di r) [.lst a (jarL j'), di l]
def okD : Nat → D → Bool
  | 0, _ => false
  | m + 1, .tup ds => (decide (ds.length < 1000)) && ds.all (okD m)
  | _ + 1, .int _ => true
  | _ + 1, .str _ => true
  | _ + 1, _ => false
abbrev f__law_same (K : PySem.W.Frag) (m : Nat) : Fu := fun os Post => ∃ d, okD m d = true ∧ os = [.dat d, .dat d] ∧ Post (db true) os
abbrev f__law_bytes (K : PySem.W.Frag) : Fu := fun os Post => ∃ ns a, os = [.dat (dI ns), .lst a (ns.map .int)] ∧ ns.length < 100000 ∧ Post (db true) os
abbrev f__law_coded (K : PySem.W.Frag) : Fu := fun os Post => ∃ (x : Str) (as : List Int) (j : Nat) (z : Str), os = [.dat (insD x as)] ∧ words[j]? = some x ∧ shapes[j]? = some z ∧ as.length ≤ z.cps.toList.length ∧ ∀ l, Post (.lst l ((codeL j z.cps.toList as).map .int)) os
abbrev f__law_lines (K : PySem.W.Frag) : Fu := fun os Post => ∃ form a b loop part, os = [di form, di a, di b, di loop, di part] ∧ 0 ≤ form ∧ form < 3 ∧ ∀ l, Post (.lst l (linesD form a b loop part)) os
abbrev f__law_all (K : PySem.W.Frag) : Fu := fun os Post => ∃ ns : List Int, os = [.dat (.scr ns)] ∧ ns.length < sizeLine ∧ Post (db true) os
abbrev f_law (K : PySem.W.Frag) : Fu := fun os Post => ∃ ns : List Int, os = [.dat (.scr ns)] ∧ ns.length < sizeLine ∧ Post (db true) os
end K69
set_option maxHeartbeats 0
namespace K69
open PySem PySem.Spec PyProof.Rows L2
def top (i : Nat) : Stmt := PySem.Challenge.pw_codenotary_k69_machine_counts.main.body.getD i (.Pass ⟨0, 0, 0, 0⟩)
abbrev s_is_integer : Stmt := top 1
abbrev s_is_number : Stmt := top 2
abbrev s_is_number_below : Stmt := top 3
abbrev s_is_byte : Stmt := top 4
abbrev s_is_tuple_of : Stmt := top 5
abbrev s_are_bytes : Stmt := top 6
abbrev s_are_below : Stmt := top 7
abbrev s_are_numbers_below : Stmt := top 8
abbrev s_InvalidAnswers_init : Stmt := inClass (top 11) 0
abbrev s_InvalidNumber_init : Stmt := inClass (top 12) 0
abbrev s_InvalidWork_init : Stmt := inClass (top 13) 0
abbrev s_is_opcode : Stmt := top 21
abbrev s_word_of : Stmt := top 22
abbrev s_length_of : Stmt := top 23
abbrev s_sum_of : Stmt := top 24
abbrev s_rest_of : Stmt := top 25
abbrev s_test_holds : Stmt := top 26
abbrev s_high_and_low : Stmt := top 27
abbrev s_joined_bytes : Stmt := top 28
abbrev s_Outside_init : Stmt := inClass (top 30) 0
abbrev s_Outside_has_answer : Stmt := inClass (top 30) 1
abbrev s_Outside_take : Stmt := inClass (top 30) 2
abbrev s_Outside_tell : Stmt := inClass (top 30) 3
abbrev s_Outside_events : Stmt := inClass (top 30) 4
abbrev s_is_machine_state : Stmt := top 34
abbrev s_are_machine_answers : Stmt := top 35
abbrev s_RawMemory_init : Stmt := inClass (top 36) 0
abbrev s_RawMemory_place_of_address : Stmt := inClass (top 36) 1
abbrev s_RawMemory_byte_at : Stmt := inClass (top 36) 2
abbrev s_RawMemory_set_byte : Stmt := inClass (top 36) 3
abbrev s_RawMemory_pair_at : Stmt := inClass (top 36) 4
abbrev s_RawMemory_set_pair : Stmt := inClass (top 36) 5
abbrev s_RawMemory_operand : Stmt := inClass (top 36) 6
abbrev s_RawMemory_instruction_at : Stmt := inClass (top 36) 7
abbrev s_RawMemory_whole : Stmt := inClass (top 36) 8
abbrev s_RawMachine_init : Stmt := inClass (top 37) 0
abbrev s_RawMachine_whole_state : Stmt := inClass (top 37) 1
abbrev s_RawMachine_go_to : Stmt := inClass (top 37) 2
abbrev s_RawMachine_move_top : Stmt := inClass (top 37) 3
abbrev s_RawMachine_answer_ahead : Stmt := inClass (top 37) 4
abbrev s_RawMachine_waits_at : Stmt := inClass (top 37) 5
abbrev s_RawMachine_do : Stmt := inClass (top 37) 6
abbrev s_RawMachine_run_on : Stmt := inClass (top 37) 7
abbrev s_raw_set : Stmt := top 38
abbrev s_raw_copy : Stmt := top 39
abbrev s_raw_sum : Stmt := top 40
abbrev s_raw_low : Stmt := top 41
abbrev s_raw_ask : Stmt := top 42
abbrev s_raw_tell : Stmt := top 43
abbrev s_raw_get : Stmt := top 44
abbrev s_raw_put : Stmt := top 45
abbrev s_raw_test : Stmt := top 46
abbrev s_raw_jump : Stmt := top 47
abbrev s_raw_call : Stmt := top 48
abbrev s_raw_back : Stmt := top 49
abbrev s_raw_push : Stmt := top 50
abbrev s_raw_pop : Stmt := top 51
abbrev s_raw_out : Stmt := top 52
abbrev s_ran : Stmt := top 55
abbrev s_machine_run : Stmt := top 56
abbrev s__law_jar : Stmt := top 58
abbrev s__law_draw : Stmt := top 59
abbrev s__law_same : Stmt := top 60
abbrev s__law_bytes : Stmt := top 61
abbrev s__law_coded : Stmt := top 62
abbrev s__law_lines : Stmt := top 63
abbrev s__law_all : Stmt := top 64
abbrev s_law : Stmt := top 65
def dd_is_integer : He.DefD := ⟨("is_integer", none), "is_integer", "is_integer", defArgs s_is_integer, defBody s_is_integer, defScope s_is_integer, [], []⟩
def dd_is_number : He.DefD := ⟨("is_number", none), "is_number", "is_number", defArgs s_is_number, defBody s_is_number, defScope s_is_number, [], []⟩
def dd_is_number_below : He.DefD := ⟨("is_number_below", none), "is_number_below", "is_number_below", defArgs s_is_number_below, defBody s_is_number_below, defScope s_is_number_below, [], []⟩
def dd_is_byte : He.DefD := ⟨("is_byte", none), "is_byte", "is_byte", defArgs s_is_byte, defBody s_is_byte, defScope s_is_byte, [], []⟩
def dd_is_tuple_of : He.DefD := ⟨("is_tuple_of", none), "is_tuple_of", "is_tuple_of", defArgs s_is_tuple_of, defBody s_is_tuple_of, defScope s_is_tuple_of, [], []⟩
def dd_are_bytes : He.DefD := ⟨("are_bytes", none), "are_bytes", "are_bytes", defArgs s_are_bytes, defBody s_are_bytes, defScope s_are_bytes, [], []⟩
def dd_are_below : He.DefD := ⟨("are_below", none), "are_below", "are_below", defArgs s_are_below, defBody s_are_below, defScope s_are_below, [], []⟩
def dd_are_numbers_below : He.DefD := ⟨("are_numbers_below", none), "are_numbers_below", "are_numbers_below", defArgs s_are_numbers_below, defBody s_are_numbers_below, defScope s_are_numbers_below, [], []⟩
def dd_InvalidAnswers_init : He.DefD := ⟨("InvalidAnswers", some "__init__"), "__init__", "InvalidAnswers.__init__", defArgs s_InvalidAnswers_init, defBody s_InvalidAnswers_init, defScope s_InvalidAnswers_init, [], []⟩
def dd_InvalidNumber_init : He.DefD := ⟨("InvalidNumber", some "__init__"), "__init__", "InvalidNumber.__init__", defArgs s_InvalidNumber_init, defBody s_InvalidNumber_init, defScope s_InvalidNumber_init, [], []⟩
def dd_InvalidWork_init : He.DefD := ⟨("InvalidWork", some "__init__"), "__init__", "InvalidWork.__init__", defArgs s_InvalidWork_init, defBody s_InvalidWork_init, defScope s_InvalidWork_init, [], []⟩
def dd_is_opcode : He.DefD := ⟨("is_opcode", none), "is_opcode", "is_opcode", defArgs s_is_opcode, defBody s_is_opcode, defScope s_is_opcode, [], []⟩
def dd_word_of : He.DefD := ⟨("word_of", none), "word_of", "word_of", defArgs s_word_of, defBody s_word_of, defScope s_word_of, [], []⟩
def dd_length_of : He.DefD := ⟨("length_of", none), "length_of", "length_of", defArgs s_length_of, defBody s_length_of, defScope s_length_of, [], []⟩
def dd_sum_of : He.DefD := ⟨("sum_of", none), "sum_of", "sum_of", defArgs s_sum_of, defBody s_sum_of, defScope s_sum_of, [], []⟩
def dd_rest_of : He.DefD := ⟨("rest_of", none), "rest_of", "rest_of", defArgs s_rest_of, defBody s_rest_of, defScope s_rest_of, [], []⟩
def dd_test_holds : He.DefD := ⟨("test_holds", none), "test_holds", "test_holds", defArgs s_test_holds, defBody s_test_holds, defScope s_test_holds, [], []⟩
def dd_high_and_low : He.DefD := ⟨("high_and_low", none), "high_and_low", "high_and_low", defArgs s_high_and_low, defBody s_high_and_low, defScope s_high_and_low, [], []⟩
def dd_joined_bytes : He.DefD := ⟨("joined_bytes", none), "joined_bytes", "joined_bytes", defArgs s_joined_bytes, defBody s_joined_bytes, defScope s_joined_bytes, [], []⟩
def dd_Outside_init : He.DefD := ⟨("Outside", some "__init__"), "__init__", "Outside.__init__", defArgs s_Outside_init, defBody s_Outside_init, defScope s_Outside_init, [], []⟩
def dd_Outside_has_answer : He.DefD := ⟨("Outside", some "has_answer"), "has_answer", "Outside.has_answer", defArgs s_Outside_has_answer, defBody s_Outside_has_answer, defScope s_Outside_has_answer, [], []⟩
def dd_Outside_take : He.DefD := ⟨("Outside", some "take"), "take", "Outside.take", defArgs s_Outside_take, defBody s_Outside_take, defScope s_Outside_take, [], []⟩
def dd_Outside_tell : He.DefD := ⟨("Outside", some "tell"), "tell", "Outside.tell", defArgs s_Outside_tell, defBody s_Outside_tell, defScope s_Outside_tell, [], []⟩
def dd_Outside_events : He.DefD := ⟨("Outside", some "events"), "events", "Outside.events", defArgs s_Outside_events, defBody s_Outside_events, defScope s_Outside_events, [], []⟩
def dd_is_machine_state : He.DefD := ⟨("is_machine_state", none), "is_machine_state", "is_machine_state", defArgs s_is_machine_state, defBody s_is_machine_state, defScope s_is_machine_state, [], []⟩
def dd_are_machine_answers : He.DefD := ⟨("are_machine_answers", none), "are_machine_answers", "are_machine_answers", defArgs s_are_machine_answers, defBody s_are_machine_answers, defScope s_are_machine_answers, [], []⟩
def dd_RawMemory_init : He.DefD := ⟨("RawMemory", some "__init__"), "__init__", "RawMemory.__init__", defArgs s_RawMemory_init, defBody s_RawMemory_init, defScope s_RawMemory_init, [], []⟩
def dd_RawMemory_place_of_address : He.DefD := ⟨("RawMemory", some "place_of_address"), "place_of_address", "RawMemory.place_of_address", defArgs s_RawMemory_place_of_address, defBody s_RawMemory_place_of_address, defScope s_RawMemory_place_of_address, [], []⟩
def dd_RawMemory_byte_at : He.DefD := ⟨("RawMemory", some "byte_at"), "byte_at", "RawMemory.byte_at", defArgs s_RawMemory_byte_at, defBody s_RawMemory_byte_at, defScope s_RawMemory_byte_at, [], []⟩
def dd_RawMemory_set_byte : He.DefD := ⟨("RawMemory", some "set_byte"), "set_byte", "RawMemory.set_byte", defArgs s_RawMemory_set_byte, defBody s_RawMemory_set_byte, defScope s_RawMemory_set_byte, [], []⟩
def dd_RawMemory_pair_at : He.DefD := ⟨("RawMemory", some "pair_at"), "pair_at", "RawMemory.pair_at", defArgs s_RawMemory_pair_at, defBody s_RawMemory_pair_at, defScope s_RawMemory_pair_at, [], []⟩
def dd_RawMemory_set_pair : He.DefD := ⟨("RawMemory", some "set_pair"), "set_pair", "RawMemory.set_pair", defArgs s_RawMemory_set_pair, defBody s_RawMemory_set_pair, defScope s_RawMemory_set_pair, [], []⟩
def dd_RawMemory_operand : He.DefD := ⟨("RawMemory", some "operand"), "operand", "RawMemory.operand", defArgs s_RawMemory_operand, defBody s_RawMemory_operand, defScope s_RawMemory_operand, [], []⟩
def dd_RawMemory_instruction_at : He.DefD := ⟨("RawMemory", some "instruction_at"), "instruction_at", "RawMemory.instruction_at", defArgs s_RawMemory_instruction_at, defBody s_RawMemory_instruction_at, defScope s_RawMemory_instruction_at, [], []⟩
def dd_RawMemory_whole : He.DefD := ⟨("RawMemory", some "whole"), "whole", "RawMemory.whole", defArgs s_RawMemory_whole, defBody s_RawMemory_whole, defScope s_RawMemory_whole, [], []⟩
def dd_RawMachine_init : He.DefD := ⟨("RawMachine", some "__init__"), "__init__", "RawMachine.__init__", defArgs s_RawMachine_init, defBody s_RawMachine_init, defScope s_RawMachine_init, [], []⟩
def dd_RawMachine_whole_state : He.DefD := ⟨("RawMachine", some "whole_state"), "whole_state", "RawMachine.whole_state", defArgs s_RawMachine_whole_state, defBody s_RawMachine_whole_state, defScope s_RawMachine_whole_state, [], []⟩
def dd_RawMachine_go_to : He.DefD := ⟨("RawMachine", some "go_to"), "go_to", "RawMachine.go_to", defArgs s_RawMachine_go_to, defBody s_RawMachine_go_to, defScope s_RawMachine_go_to, [], []⟩
def dd_RawMachine_move_top : He.DefD := ⟨("RawMachine", some "move_top"), "move_top", "RawMachine.move_top", defArgs s_RawMachine_move_top, defBody s_RawMachine_move_top, defScope s_RawMachine_move_top, [], []⟩
def dd_RawMachine_answer_ahead : He.DefD := ⟨("RawMachine", some "answer_ahead"), "answer_ahead", "RawMachine.answer_ahead", defArgs s_RawMachine_answer_ahead, defBody s_RawMachine_answer_ahead, defScope s_RawMachine_answer_ahead, [], []⟩
def dd_RawMachine_waits_at : He.DefD := ⟨("RawMachine", some "waits_at"), "waits_at", "RawMachine.waits_at", defArgs s_RawMachine_waits_at, defBody s_RawMachine_waits_at, defScope s_RawMachine_waits_at, [], []⟩
def dd_RawMachine_do : He.DefD := ⟨("RawMachine", some "do"), "do", "RawMachine.do", defArgs s_RawMachine_do, defBody s_RawMachine_do, defScope s_RawMachine_do, [], []⟩
def dd_RawMachine_run_on : He.DefD := ⟨("RawMachine", some "run_on"), "run_on", "RawMachine.run_on", defArgs s_RawMachine_run_on, defBody s_RawMachine_run_on, defScope s_RawMachine_run_on, [], []⟩
def dd_raw_set : He.DefD := ⟨("raw_set", none), "raw_set", "raw_set", defArgs s_raw_set, defBody s_raw_set, defScope s_raw_set, [], []⟩
def dd_raw_copy : He.DefD := ⟨("raw_copy", none), "raw_copy", "raw_copy", defArgs s_raw_copy, defBody s_raw_copy, defScope s_raw_copy, [], []⟩
def dd_raw_sum : He.DefD := ⟨("raw_sum", none), "raw_sum", "raw_sum", defArgs s_raw_sum, defBody s_raw_sum, defScope s_raw_sum, [], []⟩
def dd_raw_low : He.DefD := ⟨("raw_low", none), "raw_low", "raw_low", defArgs s_raw_low, defBody s_raw_low, defScope s_raw_low, [], []⟩
def dd_raw_ask : He.DefD := ⟨("raw_ask", none), "raw_ask", "raw_ask", defArgs s_raw_ask, defBody s_raw_ask, defScope s_raw_ask, [], []⟩
def dd_raw_tell : He.DefD := ⟨("raw_tell", none), "raw_tell", "raw_tell", defArgs s_raw_tell, defBody s_raw_tell, defScope s_raw_tell, [], []⟩
def dd_raw_get : He.DefD := ⟨("raw_get", none), "raw_get", "raw_get", defArgs s_raw_get, defBody s_raw_get, defScope s_raw_get, [], []⟩
def dd_raw_put : He.DefD := ⟨("raw_put", none), "raw_put", "raw_put", defArgs s_raw_put, defBody s_raw_put, defScope s_raw_put, [], []⟩
def dd_raw_test : He.DefD := ⟨("raw_test", none), "raw_test", "raw_test", defArgs s_raw_test, defBody s_raw_test, defScope s_raw_test, [], []⟩
def dd_raw_jump : He.DefD := ⟨("raw_jump", none), "raw_jump", "raw_jump", defArgs s_raw_jump, defBody s_raw_jump, defScope s_raw_jump, [], []⟩
def dd_raw_call : He.DefD := ⟨("raw_call", none), "raw_call", "raw_call", defArgs s_raw_call, defBody s_raw_call, defScope s_raw_call, [], []⟩
def dd_raw_back : He.DefD := ⟨("raw_back", none), "raw_back", "raw_back", defArgs s_raw_back, defBody s_raw_back, defScope s_raw_back, [], []⟩
def dd_raw_push : He.DefD := ⟨("raw_push", none), "raw_push", "raw_push", defArgs s_raw_push, defBody s_raw_push, defScope s_raw_push, [], []⟩
def dd_raw_pop : He.DefD := ⟨("raw_pop", none), "raw_pop", "raw_pop", defArgs s_raw_pop, defBody s_raw_pop, defScope s_raw_pop, [], []⟩
def dd_raw_out : He.DefD := ⟨("raw_out", none), "raw_out", "raw_out", defArgs s_raw_out, defBody s_raw_out, defScope s_raw_out, [], []⟩
def dd_ran : He.DefD := ⟨("ran", none), "ran", "ran", defArgs s_ran, defBody s_ran, defScope s_ran, [], []⟩
def dd_machine_run : He.DefD := ⟨("machine_run", none), "machine_run", "machine_run", defArgs s_machine_run, defBody s_machine_run, defScope s_machine_run, [], []⟩
def dd__law_jar : He.DefD := ⟨("_law_jar", none), "_law_jar", "_law_jar", defArgs s__law_jar, defBody s__law_jar, defScope s__law_jar, [], []⟩
def dd__law_draw : He.DefD := ⟨("_law_draw", none), "_law_draw", "_law_draw", defArgs s__law_draw, defBody s__law_draw, defScope s__law_draw, [], []⟩
def dd__law_same : He.DefD := ⟨("_law_same", none), "_law_same", "_law_same", defArgs s__law_same, defBody s__law_same, defScope s__law_same, [], []⟩
def dd__law_bytes : He.DefD := ⟨("_law_bytes", none), "_law_bytes", "_law_bytes", defArgs s__law_bytes, defBody s__law_bytes, defScope s__law_bytes, [], []⟩
def dd__law_coded : He.DefD := ⟨("_law_coded", none), "_law_coded", "_law_coded", defArgs s__law_coded, defBody s__law_coded, defScope s__law_coded, [], []⟩
def dd__law_lines : He.DefD := ⟨("_law_lines", none), "_law_lines", "_law_lines", defArgs s__law_lines, defBody s__law_lines, defScope s__law_lines, [], []⟩
def dd__law_all : He.DefD := ⟨("_law_all", none), "_law_all", "_law_all", defArgs s__law_all, defBody s__law_all, defScope s__law_all, [], []⟩
def dd_law : He.DefD := ⟨("law", none), "law", "law", defArgs s_law, defBody s_law, defScope s_law, [], []⟩
def fa0 : List He.Fa := [.glo "is_integer", .glo "is_number", .glo "is_number_below", .glo "is_byte", .glo "is_tuple_of", .glo "are_bytes", .glo "are_below", .glo "are_numbers_below", .glo "is_opcode", .glo "word_of", .glo "length_of", .glo "sum_of", .glo "rest_of", .glo "test_holds", .glo "high_and_low"]
def fa1 : List He.Fa := [.glo "joined_bytes", .glo "is_machine_state", .glo "are_machine_answers", .glo "raw_set", .glo "raw_copy", .glo "raw_sum", .glo "raw_low", .glo "raw_ask", .glo "raw_tell", .glo "raw_get", .glo "raw_put", .glo "raw_test", .glo "raw_jump", .glo "raw_call", .glo "raw_back"]
def fa2 : List He.Fa := [.glo "raw_push", .glo "raw_pop", .glo "raw_out", .glo "ran", .glo "machine_run", .glo "_law_jar", .glo "_law_draw", .glo "_law_same", .glo "_law_bytes", .glo "_law_coded", .glo "_law_lines", .glo "_law_all", .glo "law", .glo "NotaryError", .glo "InvalidAnswers"]
def fa3 : List He.Fa := [.glo "InvalidNumber", .glo "InvalidWork", .glo "Outside", .glo "RawMemory", .glo "RawMachine", .free "all", .free "bool", .free "int", .free "isinstance", .free "len", .free "list", .free "range", .free "str", .free "sum", .free "super"]
def fa4 : List He.Fa := [.free "tuple", .int "BOXES" 8, .int "BYTES" 256, .int "ADDRESSES" 65536, .glo "WORDS", .glo "ANSWER_NEEDED", .glo "ANSWER_OR_NONE", .glo "OPERANDS", .glo "SIZES", .glo "RAW_DEEDS", .cls "Outside", .mkr "Outside", .noat "Outside" "answers", .noat "Outside" "taken", .noat "Outside" "told"]
def fa5 : List He.Fa := [.meth "Outside" "__init__", .meth "Outside" "has_answer", .meth "Outside" "take", .meth "Outside" "tell", .meth "Outside" "events", .cls "RawMemory", .mkr "RawMemory", .noat "RawMemory" "many", .noat "RawMemory" "row", .meth "RawMemory" "__init__", .meth "RawMemory" "place_of_address", .meth "RawMemory" "byte_at", .meth "RawMemory" "set_byte", .meth "RawMemory" "pair_at", .meth "RawMemory" "set_pair"]
def fa6 : List He.Fa := [.meth "RawMemory" "operand", .meth "RawMemory" "instruction_at", .meth "RawMemory" "whole", .cls "RawMachine", .mkr "RawMachine", .noat "RawMachine" "at", .noat "RawMachine" "boxes", .noat "RawMachine" "memory", .noat "RawMachine" "outside", .noat "RawMachine" "top", .meth "RawMachine" "__init__", .meth "RawMachine" "whole_state", .meth "RawMachine" "go_to", .meth "RawMachine" "move_top", .meth "RawMachine" "answer_ahead"]
def fa7 : List He.Fa := [.meth "RawMachine" "waits_at", .meth "RawMachine" "do", .meth "RawMachine" "run_on"]
def fa : List He.Fa := fa0 ++ fa1 ++ fa2 ++ fa3 ++ fa4 ++ fa5 ++ fa6 ++ fa7
def fn0 : List He.DefD := [dd_is_integer, dd_is_number, dd_is_number_below, dd_is_byte, dd_is_tuple_of, dd_are_bytes, dd_are_below, dd_are_numbers_below, dd_is_opcode, dd_word_of, dd_length_of, dd_sum_of, dd_rest_of, dd_test_holds, dd_high_and_low]
def fn1 : List He.DefD := [dd_joined_bytes, dd_Outside_init, dd_Outside_has_answer, dd_Outside_take, dd_Outside_tell, dd_Outside_events, dd_is_machine_state, dd_are_machine_answers, dd_RawMemory_init, dd_RawMemory_place_of_address, dd_RawMemory_byte_at, dd_RawMemory_set_byte, dd_RawMemory_pair_at, dd_RawMemory_set_pair, dd_RawMemory_operand]
def fn2 : List He.DefD := [dd_RawMemory_instruction_at, dd_RawMemory_whole, dd_RawMachine_init, dd_RawMachine_whole_state, dd_RawMachine_go_to, dd_RawMachine_move_top, dd_RawMachine_answer_ahead, dd_RawMachine_waits_at, dd_RawMachine_do, dd_RawMachine_run_on, dd_raw_set, dd_raw_copy, dd_raw_sum, dd_raw_low, dd_raw_ask]
def fn3 : List He.DefD := [dd_raw_tell, dd_raw_get, dd_raw_put, dd_raw_test, dd_raw_jump, dd_raw_call, dd_raw_back, dd_raw_push, dd_raw_pop, dd_raw_out, dd_ran, dd_machine_run, dd__law_jar, dd__law_draw, dd__law_same]
def fn4 : List He.DefD := [dd__law_bytes, dd__law_coded, dd__law_lines, dd__law_all, dd_law]
def fn : List He.DefD := fn0 ++ fn1 ++ fn2 ++ fn3 ++ fn4
def loose0 : List Str := ["is_integer", "is_number", "is_number_below", "is_byte", "is_tuple_of", "are_bytes", "are_below", "are_numbers_below", "NotaryError", "InvalidAnswers", "InvalidNumber", "InvalidWork", "BOXES", "BYTES", "ADDRESSES"]
def loose1 : List Str := ["WORDS", "OPERANDS", "SIZES", "is_opcode", "word_of", "length_of", "sum_of", "rest_of", "test_holds", "high_and_low", "joined_bytes", "Outside", "ANSWER_NEEDED", "ANSWER_OR_NONE", "is_machine_state"]
def loose2 : List Str := ["are_machine_answers", "RawMemory", "RawMachine", "raw_set", "raw_copy", "raw_sum", "raw_low", "raw_ask", "raw_tell", "raw_get", "raw_put", "raw_test", "raw_jump", "raw_call", "raw_back"]
def loose3 : List Str := ["raw_push", "raw_pop", "raw_out", "RAW_DEEDS", "ran", "machine_run", "_law_jar", "_law_draw", "_law_same", "_law_bytes", "_law_coded", "_law_lines", "_law_all"]
def loose : List Str := loose0 ++ loose1 ++ loose2 ++ loose3
def ts : List He.Tab := [(fun K => He.ga K "OPERANDS", ["set", "copy", "add", "sub", "mul", "low", "ask", "tell", "get", "put", "less", "same", "jump", "call", "back", "push", "pop", "out", "stop"]), (fun K => He.ga K "SIZES", ["box", "byte", "address"]), (fun K => He.ga K "RAW_DEEDS", ["set", "copy", "add", "sub", "mul", "low", "ask", "tell", "get", "put", "less", "same", "jump", "call", "back", "push", "pop", "out"])]
def oprT : List (Str × List He.Dv) := [("set", [.str "box", .str "byte"]), ("copy", [.str "box", .str "box"]), ("add", [.str "box", .str "box", .str "box"]), ("sub", [.str "box", .str "box", .str "box"]), ("mul", [.str "box", .str "box", .str "box"]), ("low", [.str "box", .str "byte"]), ("ask", [.str "box"]), ("tell", [.str "box"]), ("get", [.str "box", .str "address", .str "box"]), ("put", [.str "address", .str "box", .str "box"]), ("less", [.str "box", .str "box", .str "address"]), ("same", [.str "box", .str "box", .str "address"]), ("jump", [.str "address"]), ("call", [.str "address"]), ("back", []), ("push", [.str "box"]), ("pop", [.str "box"]), ("out", [.str "address"]), ("stop", [])]
def tupAt (K : PySem.W.Frag) (a : Addr) (vs : List He.Dv) : Bool := match K.lookup a with
  | some ⟨.type c, _, .seq its _, _⟩ => decide (c = "tuple") && (decide (its.size ≤ sizeLine) && He.relAll (vs.map (He.Dv.v K)) its.toList)
  | _ => false
def oprB (K : PySem.W.Frag) : Bool := oprT.all fun q => match PySem.W.nsIn K (He.ga K "OPERANDS") q.1 with
  | some (some (.ref a)) => tupAt K a q.2
  | _ => false
def ex (K : PySem.W.Frag) : Bool := He.tupB K "WORDS" [.str "set", .str "copy", .str "add", .str "sub", .str "mul", .str "low", .str "ask", .str "tell", .str "get", .str "put", .str "less", .str "same", .str "jump", .str "call", .str "back", .str "push", .str "pop", .str "out", .str "stop"] && (He.tupB K "ANSWER_NEEDED" [.str "ask", .str "out"] && (He.tupB K "ANSWER_OR_NONE" [.str "get"] && (oprB K && (He.valsB K (He.ga K "SIZES") [("box", .int 1), ("byte", .int 1), ("address", .int 2)] && (He.valsB K (He.ga K "RAW_DEEDS") [("set", .glo "raw_set"), ("copy", .glo "raw_copy"), ("add", .glo "raw_sum"), ("sub", .glo "raw_sum"), ("mul", .glo "raw_sum"), ("low", .glo "raw_low"), ("ask", .glo "raw_ask"), ("tell", .glo "raw_tell"), ("get", .glo "raw_get"), ("put", .glo "raw_put"), ("less", .glo "raw_test"), ("same", .glo "raw_test"), ("jump", .glo "raw_jump"), ("call", .glo "raw_call"), ("back", .glo "raw_back"), ("push", .glo "raw_push"), ("pop", .glo "raw_pop"), ("out", .glo "raw_out")])))))
abbrev R : PySem.W.OpenRow := PySem.W.OpenLaw.row PySem.Challenge.rw_codenotary_k69_machine_counts
abbrev AlQ : Type := He.AlT × Bool
def obsQ (g : Addr → Option Obj) : AlQ := (He.obsT fa fn ts (He.frG g (He.asD g 4)), ex (He.frG g (He.asD g 4)))
def valQ (w : World) : AlQ := (He.valT fn ts w, true)
def hk : PySem.W.Hook where
  α := AlQ
  obs := fun s => obsQ s.heap.get?
  val := fun w => valQ w
  says := fun w h => ∃ K : PySem.W.Frag, K.In h ∧ He.SaysT fa fn ts w K ∧ ex K = true
  of := fun _ _ e => ⟨_, He.frG_in, congrArg (fun z : AlQ => z.1) e, congrArg (fun z : AlQ => z.2) e⟩
  keeps := fun _ _ _ ⟨K, hK, c⟩ k => ⟨K, PySem.W.Frag.In.keeps hK k, c⟩
def ob (s : PySem.W.SharedT) : AlQ := obsQ (HandSHeadRun.getT s)
theorem ob_eq (s : PySem.W.SharedT) : ob s = hk.obs s.abs := by
  have e : HandSHeadRun.getT s = s.abs.heap.get? := funext (HandSHeadRun.getT_eq s)
  show obsQ (HandSHeadRun.getT s) = obsQ s.abs.heap.get?
  rw [e]
theorem run0 (w : World) : HandSHeadRun.RunEq R (PySem.W.view R.prog [65]) hk ob 9000 loose (w.withFollow "special-get-raises" false) := by
  intro os
  kernel_rfl
theorem run1 (w : World) : HandSHeadRun.RunEq R (PySem.W.view R.prog [65]) hk ob 9000 loose (w.withFollow "special-get-raises" true) := by
  intro os
  kernel_rfl
theorem run (w : World) : HandSHeadRun.RunEq R (PySem.W.view R.prog [65]) hk ob 9000 loose w :=
  PySem.W.byRow2 "special-get-raises" (P := fun w => HandSHeadRun.RunEq R (PySem.W.view R.prog [65]) hk ob 9000 loose w) run0 run1 w
end K69
set_option maxHeartbeats 4000000
namespace K69
open PySem PySem.Spec PyProof.Rows L2 Ow
structure Fx (K : PySem.W.Frag) (w : World) (mg : Str → Option Value) : Prop where
  f_all : mg "all" = none
  f_bool : mg "bool" = none
  f_int : mg "int" = none
  f_isinstance : mg "isinstance" = none
  f_len : mg "len" = none
  f_list : mg "list" = none
  f_range : mg "range" = none
  f_str : mg "str" = none
  f_sum : mg "sum" = none
  f_super : mg "super" = none
  f_tuple : mg "tuple" = none
  i_BOXES : ∃ u, mg "BOXES" = some u ∧ RelV (.int 8) u
  i_BYTES : ∃ u, mg "BYTES" = some u ∧ RelV (.int 256) u
  i_ADDRESSES : ∃ u, mg "ADDRESSES" = some u ∧ RelV (.int 65536) u
  g_WORDS : mg "WORDS" = some (.ref (He.ga K "WORDS"))
  g_ANSWER_NEEDED : mg "ANSWER_NEEDED" = some (.ref (He.ga K "ANSWER_NEEDED"))
  g_ANSWER_OR_NONE : mg "ANSWER_OR_NONE" = some (.ref (He.ga K "ANSWER_OR_NONE"))
  g_OPERANDS : mg "OPERANDS" = some (.ref (He.ga K "OPERANDS"))
  g_SIZES : mg "SIZES" = some (.ref (He.ga K "SIZES"))
  g_RAW_DEEDS : mg "RAW_DEEDS" = some (.ref (He.ga K "RAW_DEEDS"))
theorem sc_is_integer : FnScope ["value"] ["value"] (defScope s_is_integer) := C8.fnScope_by (by decide +kernel)
def t_is_integer (K : PySem.W.Frag) (w : World)  : TS := (tRet (tAndV (tCB (rIsi K) (tCons (tVar 0) (tCons (tC (.ty "int")) tNil))) (tNotV (tCB (rIsi K) (tCons (tVar 0) (tCons (tC (.ty "bool")) tNil))))))
theorem d_is_integer {P : Program} {w : World} {K : PySem.W.Frag} {mg : Str → Option Value} {base : Heap}  {fA : Addr} (Z : Fx K w mg)  (cdv : Value) (A : Around) (outer : List Env) (s : Shared) (H : Hp) (E : XK)
    (hr : Room 0 (A.deeper (envOfC "is_integer" (defScope s_is_integer) s.heap.objs.size fA cdv))) : PSs (cxOf C8.CX0 P w K mg base ["value"] "is_integer" (defScope s_is_integer) fA cdv A outer s H E).nox (defBody s_is_integer) (t_is_integer K w ) :=
  have scx := sc_is_integer
  (pss_one (ps_ret (pe_and (pe_callB call_isi rfl Z.f_isinstance rfl (pa_cons (pv 0) (pa_cons (pe_bltn (v := .ty "int") (u := .type "int") rfl Z.f_int rfl rfl) pa_nil))) (pe_one (pe_not (pe_callB call_isi rfl Z.f_isinstance rfl (pa_cons (pv 0) (pa_cons (pe_bltn (v := .ty "bool") (u := .type "bool") rfl Z.f_bool rfl rfl) pa_nil))))))))
theorem sc_is_number : FnScope ["value"] ["value"] (defScope s_is_number) := C8.fnScope_by (by decide +kernel)
def t_is_number (K : PySem.W.Frag) (w : World)  : TS := (tRet (tAndV (tCall (spM K 1 (f_is_integer K)) [] C8.E0 (tCons (tVar 0) tNil)) (tOp (rI0 fun i j => .bl (decide (j ≤ i))) (tVar 0) (tC (.int 0)))))
theorem d_is_number {P : Program} {w : World} {K : PySem.W.Frag} {mg : Str → Option Value} {base : Heap}  {fA : Addr} (Z : Fx K w mg) (c_is_integer : C8.Cal P w K mg base 1 "is_integer" (spM K 1 (f_is_integer K)) []) (cdv : Value) (A : Around) (outer : List Env) (s : Shared) (H : Hp) (E : XK)
    (hr : Room 1 (A.deeper (envOfC "is_number" (defScope s_is_number) s.heap.objs.size fA cdv))) : PSs (cxOf C8.CX0 P w K mg base ["value"] "is_number" (defScope s_is_number) fA cdv A outer s H E).nox (defBody s_is_number) (t_is_number K w ) :=
  have scx := sc_is_number
  (pss_one (ps_ret (pe_and (C8.pe_c c_is_integer hr (by first | decide | assumption) rfl (pa_cons (pv 0) pa_nil)) (pe_one (pe_cmpR op_ge (pv 0) pe_int (nomark _))))))
theorem sc_is_number_below : FnScope ["value", "limit"] ["value", "limit"] (defScope s_is_number_below) := C8.fnScope_by (by decide +kernel)
def t_is_number_below (K : PySem.W.Frag) (w : World)  : TS := (tRet (tAndV (tCall (spM K 1 (f_is_integer K)) [] C8.E0 (tCons (tVar 0) tNil)) (tChain (rI0 fun i j => .bl (decide (i ≤ j))) (rI0 fun i j => .bl (decide (i < j))) (tC (.int 0)) (tVar 0) (tVar 1))))
theorem d_is_number_below {P : Program} {w : World} {K : PySem.W.Frag} {mg : Str → Option Value} {base : Heap}  {fA : Addr} (Z : Fx K w mg) (c_is_integer : C8.Cal P w K mg base 1 "is_integer" (spM K 1 (f_is_integer K)) []) (cdv : Value) (A : Around) (outer : List Env) (s : Shared) (H : Hp) (E : XK)
    (hr : Room 1 (A.deeper (envOfC "is_number_below" (defScope s_is_number_below) s.heap.objs.size fA cdv))) : PSs (cxOf C8.CX0 P w K mg base ["value", "limit"] "is_number_below" (defScope s_is_number_below) fA cdv A outer s H E).nox (defBody s_is_number_below) (t_is_number_below K w ) :=
  have scx := sc_is_number_below
  (pss_one (ps_ret (pe_and (C8.pe_c c_is_integer hr (by first | decide | assumption) rfl (pa_cons (pv 0) pa_nil)) (pe_one (pe_chain op_le op_lt pe_int (pv 0) (pv 1))))))
theorem sc_is_byte : FnScope ["value"] ["value"] (defScope s_is_byte) := C8.fnScope_by (by decide +kernel)
def t_is_byte (K : PySem.W.Frag) (w : World)  : TS := (tRet (tCall (spM K 2 (f_is_number_below K)) [] C8.E0 (tCons (tVar 0) (tCons (tC (.int 256)) tNil))))
theorem d_is_byte {P : Program} {w : World} {K : PySem.W.Frag} {mg : Str → Option Value} {base : Heap}  {fA : Addr} (Z : Fx K w mg) (c_is_number_below : C8.Cal P w K mg base 2 "is_number_below" (spM K 2 (f_is_number_below K)) []) (cdv : Value) (A : Around) (outer : List Env) (s : Shared) (H : Hp) (E : XK)
    (hr : Room 2 (A.deeper (envOfC "is_byte" (defScope s_is_byte) s.heap.objs.size fA cdv))) : PSs (cxOf C8.CX0 P w K mg base ["value"] "is_byte" (defScope s_is_byte) fA cdv A outer s H E).nox (defBody s_is_byte) (t_is_byte K w ) :=
  have scx := sc_is_byte
  (pss_one (ps_ret (C8.pe_c c_is_number_below hr (by first | decide | assumption) rfl (pa_cons (pv 0) (pa_cons pe_int pa_nil)))))
theorem sc_is_tuple_of : FnScope ["value", "many"] ["value", "many"] (defScope s_is_tuple_of) := C8.fnScope_by (by decide +kernel)
def t_is_tuple_of (K : PySem.W.Frag) (w : World)  : TS := (tRet (tAndV (tCB (rIsi K) (tCons (tVar 0) (tCons (tC (.ty "tuple")) tNil))) (tOp rEq (tCB (rLn K) (tCons (tVar 0) tNil)) (tVar 1))))
theorem d_is_tuple_of {P : Program} {w : World} {K : PySem.W.Frag} {mg : Str → Option Value} {base : Heap}  {fA : Addr} (Z : Fx K w mg)  (cdv : Value) (A : Around) (outer : List Env) (s : Shared) (H : Hp) (E : XK)
    (hr : Room 0 (A.deeper (envOfC "is_tuple_of" (defScope s_is_tuple_of) s.heap.objs.size fA cdv))) : PSs (cxOf C8.CX0 P w K mg base ["value", "many"] "is_tuple_of" (defScope s_is_tuple_of) fA cdv A outer s H E).nox (defBody s_is_tuple_of) (t_is_tuple_of K w ) :=
  have scx := sc_is_tuple_of
  (pss_one (ps_ret (pe_and (pe_callB call_isi rfl Z.f_isinstance rfl (pa_cons (pv 0) (pa_cons (pe_bltn (v := .ty "tuple") (u := .type "tuple") rfl Z.f_tuple rfl rfl) pa_nil))) (pe_one (pe_cmpR op_eq (pe_callB c_len rfl Z.f_len boot_len (pa_cons (pv 0) pa_nil)) (pv 1) (nomark _))))))
theorem sc_are_bytes : FnScope ["value", "one"] ["value"] (defScope s_are_bytes) := C8.fnScope_by (by decide +kernel)
def t_are_bytes (K : PySem.W.Frag) (w : World)  : TS := (tRet (tAndV (tCB (rIsi K) (tCons (tVar 0) (tCons (tC (.ty "tuple")) tNil))) (tCB (rAll K) (tCons (tLc (iTup K (tVar 0)) (gName 1) tYes (tCall (spM K 1 (f_is_byte K)) [] C8.E0 (tCons (tVar 1) tNil)) [1]) tNil))))
theorem d_are_bytes {P : Program} {w : World} {K : PySem.W.Frag} {mg : Str → Option Value} {base : Heap}  {fA : Addr} (Z : Fx K w mg) (c_is_byte : C8.Cal P w K mg base 3 "is_byte" (spM K 1 (f_is_byte K)) []) (cdv : Value) (A : Around) (outer : List Env) (s : Shared) (H : Hp) (E : XK)
    (hr : Room 3 (A.deeper (envOfC "are_bytes" (defScope s_are_bytes) s.heap.objs.size fA cdv))) : PSs (cxOf C8.CX0 P w K mg base ["value", "one"] "are_bytes" (defScope s_are_bytes) fA cdv A outer s H E).nox (defBody s_are_bytes) (t_are_bytes K w ) :=
  have scx := sc_are_bytes
  (pss_one (ps_ret (pe_and (pe_callB call_isi rfl Z.f_isinstance rfl (pa_cons (pv 0) (pa_cons (pe_bltn (v := .ty "tuple") (u := .type "tuple") rfl Z.f_tuple rfl rfl) pa_nil))) (pe_one (pe_callB (cr_all rfl) rfl Z.f_all rfl (pa_cons (pe_lc (own := [("one", 1)]) rfl scx.nd (pi_tup (pv 0)) (by refine blkOk_by (N := ["value", "one"]) (sc := defScope s_are_bytes) ?_; decide +kernel) (fun _ _ _ _ _ => (pg_name (i := 1) scx.nd rfl (by first | exact Or.inl rfl | exact Or.inr rfl))) (fun _ _ _ _ _ => pts_nil) (fun _ _ _ _ _ => (C8.pe_c c_is_byte hr (by first | decide | assumption) rfl (pa_cons (pv 1) pa_nil)))) pa_nil))))))
theorem sc_are_below : FnScope ["value", "limit", "one"] ["value", "limit"] (defScope s_are_below) := C8.fnScope_by (by decide +kernel)
def t_are_below (K : PySem.W.Frag) (w : World)  : TS := (tRet (tAndV (tCB (rIsi K) (tCons (tVar 0) (tCons (tC (.ty "tuple")) tNil))) (tCB (rAll K) (tCons (tLc (iTup K (tVar 0)) (gName 2) tYes (tCall (spM K 2 (f_is_number_below K)) [] C8.E0 (tCons (tVar 2) (tCons (tVar 1) tNil))) [2]) tNil))))
theorem d_are_below {P : Program} {w : World} {K : PySem.W.Frag} {mg : Str → Option Value} {base : Heap}  {fA : Addr} (Z : Fx K w mg) (c_is_number_below : C8.Cal P w K mg base 2 "is_number_below" (spM K 2 (f_is_number_below K)) []) (cdv : Value) (A : Around) (outer : List Env) (s : Shared) (H : Hp) (E : XK)
    (hr : Room 2 (A.deeper (envOfC "are_below" (defScope s_are_below) s.heap.objs.size fA cdv))) : PSs (cxOf C8.CX0 P w K mg base ["value", "limit", "one"] "are_below" (defScope s_are_below) fA cdv A outer s H E).nox (defBody s_are_below) (t_are_below K w ) :=
  have scx := sc_are_below
  (pss_one (ps_ret (pe_and (pe_callB call_isi rfl Z.f_isinstance rfl (pa_cons (pv 0) (pa_cons (pe_bltn (v := .ty "tuple") (u := .type "tuple") rfl Z.f_tuple rfl rfl) pa_nil))) (pe_one (pe_callB (cr_all rfl) rfl Z.f_all rfl (pa_cons (pe_lc (own := [("one", 2)]) rfl scx.nd (pi_tup (pv 0)) (by refine blkOk_by (N := ["value", "limit", "one"]) (sc := defScope s_are_below) ?_; decide +kernel) (fun _ _ _ _ _ => (pg_name (i := 2) scx.nd rfl (by first | exact Or.inl rfl | exact Or.inr rfl))) (fun _ _ _ _ _ => pts_nil) (fun _ _ _ _ _ => (C8.pe_c c_is_number_below hr (by first | decide | assumption) rfl (pa_cons (pv 2) (pa_cons (pv 1) pa_nil))))) pa_nil))))))
theorem sc_are_numbers_below : FnScope ["value", "many", "limit"] ["value", "many", "limit"] (defScope s_are_numbers_below) := C8.fnScope_by (by decide +kernel)
def t_are_numbers_below (K : PySem.W.Frag) (w : World)  : TS := (tRet (tAndV (tCall (spM K 2 (f_is_tuple_of K)) [] C8.E0 (tCons (tVar 0) (tCons (tVar 1) tNil))) (tCall (spM K 2 (f_are_below K)) [] C8.E0 (tCons (tVar 0) (tCons (tVar 2) tNil)))))
theorem d_are_numbers_below {P : Program} {w : World} {K : PySem.W.Frag} {mg : Str → Option Value} {base : Heap}  {fA : Addr} (Z : Fx K w mg) (c_are_below : C8.Cal P w K mg base 3 "are_below" (spM K 2 (f_are_below K)) []) (c_is_tuple_of : C8.Cal P w K mg base 1 "is_tuple_of" (spM K 2 (f_is_tuple_of K)) []) (cdv : Value) (A : Around) (outer : List Env) (s : Shared) (H : Hp) (E : XK)
    (hr : Room 3 (A.deeper (envOfC "are_numbers_below" (defScope s_are_numbers_below) s.heap.objs.size fA cdv))) : PSs (cxOf C8.CX0 P w K mg base ["value", "many", "limit"] "are_numbers_below" (defScope s_are_numbers_below) fA cdv A outer s H E).nox (defBody s_are_numbers_below) (t_are_numbers_below K w ) :=
  have scx := sc_are_numbers_below
  (pss_one (ps_ret (pe_and (C8.pe_c c_is_tuple_of hr (by first | decide | assumption) rfl (pa_cons (pv 0) (pa_cons (pv 1) pa_nil))) (pe_one (C8.pe_c c_are_below hr (by first | decide | assumption) rfl (pa_cons (pv 0) (pa_cons (pv 2) pa_nil)))))))
theorem sc_is_opcode : FnScope ["number"] ["number"] (defScope s_is_opcode) := C8.fnScope_by (by decide +kernel)
def t_is_opcode (K : PySem.W.Frag) (w : World)  : TS := (tRet (tChain (rI0 fun i j => .bl (decide (i ≤ j))) (rI0 fun i j => .bl (decide (i ≤ j))) (tC (.int 1)) (tVar 0) (tCB (rLn K) (tCons (tC (.ref (He.ga K "WORDS"))) tNil))))
theorem d_is_opcode {P : Program} {w : World} {K : PySem.W.Frag} {mg : Str → Option Value} {base : Heap}  {fA : Addr} (Z : Fx K w mg)  (cdv : Value) (A : Around) (outer : List Env) (s : Shared) (H : Hp) (E : XK)
    (hr : Room 0 (A.deeper (envOfC "is_opcode" (defScope s_is_opcode) s.heap.objs.size fA cdv))) : PSs (cxOf C8.CX0 P w K mg base ["number"] "is_opcode" (defScope s_is_opcode) fA cdv A outer s H E).nox (defBody s_is_opcode) (t_is_opcode K w ) :=
  have scx := sc_is_opcode
  (pss_one (ps_ret (pe_chain op_le op_le pe_int (pv 0) (pe_callB c_len rfl Z.f_len boot_len (pa_cons (C8.pe_gc rfl (gcR Z.g_WORDS)) pa_nil)))))
theorem sc_word_of : FnScope ["opcode"] ["opcode"] (defScope s_word_of) := C8.fnScope_by (by decide +kernel)
def t_word_of (K : PySem.W.Frag) (w : World)  : TS := (tRet (tOp (rIx K) (tC (.ref (He.ga K "WORDS"))) (tOp (rI0 fun i j => .int (i - j)) (tVar 0) (tC (.int 1)))))
theorem d_word_of {P : Program} {w : World} {K : PySem.W.Frag} {mg : Str → Option Value} {base : Heap}  {fA : Addr} (Z : Fx K w mg)  (cdv : Value) (A : Around) (outer : List Env) (s : Shared) (H : Hp) (E : XK)
    (hr : Room 0 (A.deeper (envOfC "word_of" (defScope s_word_of) s.heap.objs.size fA cdv))) : PSs (cxOf C8.CX0 P w K mg base ["opcode"] "word_of" (defScope s_word_of) fA cdv A outer s H E).nox (defBody s_word_of) (t_word_of K w ) :=
  have scx := sc_word_of
  (pss_one (ps_ret (pe_ix ix_seq (C8.pe_gc rfl (gcR Z.g_WORDS)) (pe_op op_sub (pv 0) pe_int) fun _ _ => rfl)))
theorem sc_length_of : FnScope ["word", "kind"] ["word"] (defScope s_length_of) := C8.fnScope_by (by decide +kernel)
def t_length_of (K : PySem.W.Frag) (w : World)  : TS := (tRet (tOp (rI0 fun i j => .int (i + j)) (tC (.int 1)) (tCB (rSum K) (tCons (tLc (iTup K (tOp (rIxD K w) (tC (.ref (He.ga K "OPERANDS"))) (tVar 0))) (gName 1) tYes (tOp (rIxD K w) (tC (.ref (He.ga K "SIZES"))) (tVar 1)) [1]) tNil))))
theorem d_length_of {P : Program} {w : World} {K : PySem.W.Frag} {mg : Str → Option Value} {base : Heap}  {fA : Addr} (Z : Fx K w mg)  (cdv : Value) (A : Around) (outer : List Env) (s : Shared) (H : Hp) (E : XK)
    (hr : Room 0 (A.deeper (envOfC "length_of" (defScope s_length_of) s.heap.objs.size fA cdv))) : PSs (cxOf C8.CX0 P w K mg base ["word", "kind"] "length_of" (defScope s_length_of) fA cdv A outer s H E).nox (defBody s_length_of) (t_length_of K w ) :=
  have scx := sc_length_of
  (pss_one (ps_ret (pe_op op_add pe_int (pe_callB (cr_sum rfl) rfl Z.f_sum rfl (pa_cons (pe_lc (own := [("kind", 1)]) rfl scx.nd (pi_tup (pe_ix ix_kdict (C8.pe_gc rfl (gcR Z.g_OPERANDS)) (pv 0) fun _ _ => rfl)) (by refine blkOk_by (N := ["word", "kind"]) (sc := defScope s_length_of) ?_; decide +kernel) (fun _ _ _ _ _ => (pg_name (i := 1) scx.nd rfl (by first | exact Or.inl rfl | exact Or.inr rfl))) (fun _ _ _ _ _ => pts_nil) (fun _ _ _ _ _ => (pe_ix ix_kdict (C8.pe_gc rfl (gcR Z.g_SIZES)) (pv 1) fun _ _ => rfl))) pa_nil)))))
theorem sc_sum_of : FnScope ["word", "a", "b"] ["word", "a", "b"] (defScope s_sum_of) := C8.fnScope_by (by decide +kernel)
def t_sum_of (K : PySem.W.Frag) (w : World)  : TS := (tSeq (tIfS (tTest (tOp rEq (tVar 0) (tC (.str "add")))) (tRet (tOp (rI (fun _ j => 0 < j) fun i j => .int (i % j)) (tCB rIn1 (tCons (tOp (rI0 fun i j => .int (i + j)) (tVar 1) (tVar 2)) tNil)) (tC (.int 256)))) tNext) (tSeq (tIfS (tTest (tOp rEq (tVar 0) (tC (.str "sub")))) (tRet (tOp (rI (fun _ j => 0 < j) fun i j => .int (i % j)) (tCB rIn1 (tCons (tOp (rI0 fun i j => .int (i - j)) (tVar 1) (tVar 2)) tNil)) (tC (.int 256)))) tNext) (tRet (tOp (rI (fun _ j => 0 < j) fun i j => .int (i % j)) (tCB rIn1 (tCons (tOp (rI CMul fun i j => .int (i * j)) (tVar 1) (tVar 2)) tNil)) (tC (.int 256))))))
theorem d_sum_of {P : Program} {w : World} {K : PySem.W.Frag} {mg : Str → Option Value} {base : Heap}  {fA : Addr} (Z : Fx K w mg)  (cdv : Value) (A : Around) (outer : List Env) (s : Shared) (H : Hp) (E : XK)
    (hr : Room 0 (A.deeper (envOfC "sum_of" (defScope s_sum_of) s.heap.objs.size fA cdv))) : PSs (cxOf C8.CX0 P w K mg base ["word", "a", "b"] "sum_of" (defScope s_sum_of) fA cdv A outer s H E).nox (defBody s_sum_of) (t_sum_of K w ) :=
  have scx := sc_sum_of
  (pss_cons (ps_if (pt_cmpR op_eq (pv 0) pe_str (nomark _)) (pss_one (ps_ret (pe_op op_mod (pe_callTy c_int rfl Z.f_int rfl (pa_cons (pe_op op_add (pv 1) (pv 2)) pa_nil)) (C8.pe_gc rfl Z.i_BYTES)))) pss_nil)
    (pss_cons (ps_if (pt_cmpR op_eq (pv 0) pe_str (nomark _)) (pss_one (ps_ret (pe_op op_mod (pe_callTy c_int rfl Z.f_int rfl (pa_cons (pe_op op_sub (pv 1) (pv 2)) pa_nil)) (C8.pe_gc rfl Z.i_BYTES)))) pss_nil)
    (pss_one (ps_ret (pe_op op_mod (pe_callTy c_int rfl Z.f_int rfl (pa_cons (pe_op op_mul (pv 1) (pv 2)) pa_nil)) (C8.pe_gc rfl Z.i_BYTES))))))
theorem sc_test_holds : FnScope ["word", "a", "b"] ["word", "a", "b"] (defScope s_test_holds) := C8.fnScope_by (by decide +kernel)
def t_test_holds (K : PySem.W.Frag) (w : World)  : TS := (tRet (tIf (tTest (tOp rEq (tVar 0) (tC (.str "less")))) (tOp (rI0 fun i j => .bl (decide (i < j))) (tVar 1) (tVar 2)) (tOp rEq (tVar 1) (tVar 2))))
theorem d_test_holds {P : Program} {w : World} {K : PySem.W.Frag} {mg : Str → Option Value} {base : Heap}  {fA : Addr} (Z : Fx K w mg)  (cdv : Value) (A : Around) (outer : List Env) (s : Shared) (H : Hp) (E : XK)
    (hr : Room 0 (A.deeper (envOfC "test_holds" (defScope s_test_holds) s.heap.objs.size fA cdv))) : PSs (cxOf C8.CX0 P w K mg base ["word", "a", "b"] "test_holds" (defScope s_test_holds) fA cdv A outer s H E).nox (defBody s_test_holds) (t_test_holds K w ) :=
  have scx := sc_test_holds
  (pss_one (ps_ret (pe_ifExp (pt_cmpR op_eq (pv 0) pe_str (nomark _)) (pe_cmpR op_lt (pv 1) (pv 2) (nomark _)) (pe_cmpR op_eq (pv 1) (pv 2) (nomark _)))))
theorem sc_high_and_low : FnScope ["number"] ["number"] (defScope s_high_and_low) := C8.fnScope_by (by decide +kernel)
def t_high_and_low (K : PySem.W.Frag) (w : World)  : TS := (tRet (tTup (tCons (tOp (rI CDiv fun i j => .int (i / j)) (tVar 0) (tC (.int 256))) (tCons (tOp (rI (fun _ j => 0 < j) fun i j => .int (i % j)) (tCB rIn1 (tCons (tVar 0) tNil)) (tC (.int 256))) tNil))))
theorem d_high_and_low {P : Program} {w : World} {K : PySem.W.Frag} {mg : Str → Option Value} {base : Heap}  {fA : Addr} (Z : Fx K w mg)  (cdv : Value) (A : Around) (outer : List Env) (s : Shared) (H : Hp) (E : XK)
    (hr : Room 0 (A.deeper (envOfC "high_and_low" (defScope s_high_and_low) s.heap.objs.size fA cdv))) : PSs (cxOf C8.CX0 P w K mg base ["number"] "high_and_low" (defScope s_high_and_low) fA cdv A outer s H E).nox (defBody s_high_and_low) (t_high_and_low K w ) :=
  have scx := sc_high_and_low
  (pss_one (ps_ret (pe_tup (pa_cons (pe_op op_fdiv (pv 0) (C8.pe_gc rfl Z.i_BYTES)) (pa_cons (pe_op op_mod (pe_callTy c_int rfl Z.f_int rfl (pa_cons (pv 0) pa_nil)) (C8.pe_gc rfl Z.i_BYTES)) pa_nil)))))
theorem sc_joined_bytes : FnScope ["high", "low"] ["high", "low"] (defScope s_joined_bytes) := C8.fnScope_by (by decide +kernel)
def t_joined_bytes (K : PySem.W.Frag) (w : World)  : TS := (tRet (tOp (rI0 fun i j => .int (i + j)) (tOp (rI CMul fun i j => .int (i * j)) (tVar 0) (tC (.int 256))) (tVar 1)))
theorem d_joined_bytes {P : Program} {w : World} {K : PySem.W.Frag} {mg : Str → Option Value} {base : Heap}  {fA : Addr} (Z : Fx K w mg)  (cdv : Value) (A : Around) (outer : List Env) (s : Shared) (H : Hp) (E : XK)
    (hr : Room 0 (A.deeper (envOfC "joined_bytes" (defScope s_joined_bytes) s.heap.objs.size fA cdv))) : PSs (cxOf C8.CX0 P w K mg base ["high", "low"] "joined_bytes" (defScope s_joined_bytes) fA cdv A outer s H E).nox (defBody s_joined_bytes) (t_joined_bytes K w ) :=
  have scx := sc_joined_bytes
  (pss_one (ps_ret (pe_op op_add (pe_op op_mul (pv 0) (C8.pe_gc rfl Z.i_BYTES)) (pv 1))))
theorem sc_Outside_init : FnScope ["self", "answers"] ["self", "answers"] (defScope s_Outside_init) := C8.fnScope_by (by decide +kernel)
def t_Outside_init (K : PySem.W.Frag) (w : World)  : TS := (tSeq (sFld K (tVar 0) (tVar 1) "answers") (tSeq (sFld K (tVar 0) (tC (.int 0)) "taken") (sFld K (tVar 0) (tLst tNil) "told")))
theorem d_Outside_init {P : Program} {w : World} {K : PySem.W.Frag} {mg : Str → Option Value} {base : Heap}  {fA : Addr} (Z : Fx K w mg)  (cdv : Value) (A : Around) (outer : List Env) (s : Shared) (H : Hp) (E : XK)
    (hr : Room 0 (A.deeper (envOfC "Outside.__init__" (defScope s_Outside_init) s.heap.objs.size fA cdv))) : PSs (cxOf C8.CX0 P w K mg base ["self", "answers"] "Outside.__init__" (defScope s_Outside_init) fA cdv A outer s H E).nox (defBody s_Outside_init) (t_Outside_init K w ) :=
  have scx := sc_Outside_init
  (pss_cons (ps_fld (pv 0) (pv 1) (by rfl))
    (pss_cons (ps_fld (pv 0) pe_int (by rfl))
    (pss_one (ps_fld (pv 0) (pe_lst pa_nil) (by rfl)))))
theorem sc_Outside_tell : FnScope ["self", "event"] ["self", "event"] (defScope s_Outside_tell) := C8.fnScope_by (by decide +kernel)
def t_Outside_tell (K : PySem.W.Frag) (w : World)  : TS := (tDrop (tBM K "list" rAppend (tFld K (tVar 0) "told") (tCons (tVar 1) tNil)))
theorem d_Outside_tell {P : Program} {w : World} {K : PySem.W.Frag} {mg : Str → Option Value} {base : Heap}  {fA : Addr} (Z : Fx K w mg)  (cdv : Value) (A : Around) (outer : List Env) (s : Shared) (H : Hp) (E : XK)
    (hr : Room 0 (A.deeper (envOfC "Outside.tell" (defScope s_Outside_tell) s.heap.objs.size fA cdv))) : PSs (cxOf C8.CX0 P w K mg base ["self", "event"] "Outside.tell" (defScope s_Outside_tell) fA cdv A outer s H E).nox (defBody s_Outside_tell) (t_Outside_tell K w ) :=
  have scx := sc_Outside_tell
  (pss_one (ps_expr (pe_bm F.plainAttrs_list F.slot_list_append F.type_list_append mt_append (pe_fld (pv 0) (by rfl)) (pa_cons (pv 1) pa_nil))))
theorem sc_Outside_events : FnScope ["self"] ["self"] (defScope s_Outside_events) := C8.fnScope_by (by decide +kernel)
def t_Outside_events (K : PySem.W.Frag) (w : World)  : TS := (tRet (tCB (rTp K) (tCons (tFld K (tVar 0) "told") tNil)))
theorem d_Outside_events {P : Program} {w : World} {K : PySem.W.Frag} {mg : Str → Option Value} {base : Heap}  {fA : Addr} (Z : Fx K w mg)  (cdv : Value) (A : Around) (outer : List Env) (s : Shared) (H : Hp) (E : XK)
    (hr : Room 0 (A.deeper (envOfC "Outside.events" (defScope s_Outside_events) s.heap.objs.size fA cdv))) : PSs (cxOf C8.CX0 P w K mg base ["self"] "Outside.events" (defScope s_Outside_events) fA cdv A outer s H E).nox (defBody s_Outside_events) (t_Outside_events K w ) :=
  have scx := sc_Outside_events
  (pss_one (ps_ret (pe_callTy c_tuple rfl Z.f_tuple rfl (pa_cons (pe_fld (pv 0) (by rfl)) pa_nil))))
theorem sc_is_machine_state : FnScope ["value"] ["value"] (defScope s_is_machine_state) := C8.fnScope_by (by decide +kernel)
def t_is_machine_state (K : PySem.W.Frag) (w : World)  : TS := (tSeq (tIfS (tOr (tNot (tB (tCall (spM K 2 (f_is_tuple_of K)) [] C8.E0 (tCons (tVar 0) (tCons (tC (.int 4)) tNil))))) (tOr (tNot (tB (tCall (spM K 1 (f_are_bytes K)) [] C8.E0 (tCons (tOp (rIx K) (tVar 0) (tC (.int 0))) tNil)))) (tNot (tTest (tChain (rI0 fun i j => .bl (decide (i ≤ j))) (rI0 fun i j => .bl (decide (i ≤ j))) (tC (.int 1)) (tCB (rLn K) (tCons (tOp (rIx K) (tVar 0) (tC (.int 0))) tNil)) (tC (.int 65536))))))) (tRet (tC (.bl false))) tNext) (tSeq (tIfS (tNot (tB (tCall (spM K 3 (f_are_numbers_below K)) [] C8.E0 (tCons (tOp (rIx K) (tVar 0) (tC (.int 1))) (tCons (tC (.int 8)) (tCons (tC (.int 256)) tNil)))))) (tRet (tC (.bl false))) tNext) (tRet (tAndV (tCall (spM K 2 (f_is_number_below K)) [] C8.E0 (tCons (tOp (rIx K) (tVar 0) (tC (.int 2))) (tCons (tCB (rLn K) (tCons (tOp (rIx K) (tVar 0) (tC (.int 0))) tNil)) tNil))) (tCall (spM K 2 (f_is_number_below K)) [] C8.E0 (tCons (tOp (rIx K) (tVar 0) (tC (.int 3))) (tCons (tCB (rLn K) (tCons (tOp (rIx K) (tVar 0) (tC (.int 0))) tNil)) tNil)))))))
theorem d_is_machine_state {P : Program} {w : World} {K : PySem.W.Frag} {mg : Str → Option Value} {base : Heap}  {fA : Addr} (Z : Fx K w mg) (c_are_bytes : C8.Cal P w K mg base 4 "are_bytes" (spM K 1 (f_are_bytes K)) []) (c_are_numbers_below : C8.Cal P w K mg base 4 "are_numbers_below" (spM K 3 (f_are_numbers_below K)) []) (c_is_number_below : C8.Cal P w K mg base 2 "is_number_below" (spM K 2 (f_is_number_below K)) []) (c_is_tuple_of : C8.Cal P w K mg base 1 "is_tuple_of" (spM K 2 (f_is_tuple_of K)) []) (cdv : Value) (A : Around) (outer : List Env) (s : Shared) (H : Hp) (E : XK)
    (hr : Room 4 (A.deeper (envOfC "is_machine_state" (defScope s_is_machine_state) s.heap.objs.size fA cdv))) : PSs (cxOf C8.CX0 P w K mg base ["value"] "is_machine_state" (defScope s_is_machine_state) fA cdv A outer s H E).nox (defBody s_is_machine_state) (t_is_machine_state K w ) :=
  have scx := sc_is_machine_state
  (pss_cons (ps_if (PW.pt (pw_or (pt_not (pt_val (C8.pe_c c_is_tuple_of hr (by first | decide | assumption) rfl (pa_cons (pv 0) (pa_cons pe_int pa_nil))))) (pw_or (pt_not (pt_val (C8.pe_c c_are_bytes hr (by first | decide | assumption) rfl (pa_cons (pe_ix ix_seq (pv 0) pe_int fun _ _ => rfl) pa_nil)))) (pw_or1 (pt_not (pt_chain op_le op_le pe_int (pe_callB c_len rfl Z.f_len boot_len (pa_cons (pe_ix ix_seq (pv 0) pe_int fun _ _ => rfl) pa_nil)) (C8.pe_gc rfl Z.i_ADDRESSES))))))) (pss_one (ps_ret pe_bl)) pss_nil)
    (pss_cons (ps_if (pt_not (pt_val (C8.pe_c c_are_numbers_below hr (by first | decide | assumption) rfl (pa_cons (pe_ix ix_seq (pv 0) pe_int fun _ _ => rfl) (pa_cons (C8.pe_gc rfl Z.i_BOXES) (pa_cons (C8.pe_gc rfl Z.i_BYTES) pa_nil)))))) (pss_one (ps_ret pe_bl)) pss_nil)
    (pss_one (ps_ret (pe_and (C8.pe_c c_is_number_below hr (by first | decide | assumption) rfl (pa_cons (pe_ix ix_seq (pv 0) pe_int fun _ _ => rfl) (pa_cons (pe_callB c_len rfl Z.f_len boot_len (pa_cons (pe_ix ix_seq (pv 0) pe_int fun _ _ => rfl) pa_nil)) pa_nil))) (pe_one (C8.pe_c c_is_number_below hr (by first | decide | assumption) rfl (pa_cons (pe_ix ix_seq (pv 0) pe_int fun _ _ => rfl) (pa_cons (pe_callB c_len rfl Z.f_len boot_len (pa_cons (pe_ix ix_seq (pv 0) pe_int fun _ _ => rfl) pa_nil)) pa_nil)))))))))
theorem sc_are_machine_answers : FnScope ["value", "one"] ["value"] (defScope s_are_machine_answers) := C8.fnScope_by (by decide +kernel)
def t_are_machine_answers (K : PySem.W.Frag) (w : World)  : TS := (tRet (tAndV (tCB (rIsi K) (tCons (tVar 0) (tCons (tC (.ty "tuple")) tNil))) (tCall (spM K 1 (f_are_bytes K)) [] C8.E0 (tCons (tCB (rTp K) (tCons (tLc (iTup K (tVar 0)) (gName 1) (tTest (tOp rNotN (tVar 1) (tC .non))) (tVar 1) [1]) tNil)) tNil))))
theorem d_are_machine_answers {P : Program} {w : World} {K : PySem.W.Frag} {mg : Str → Option Value} {base : Heap}  {fA : Addr} (Z : Fx K w mg) (c_are_bytes : C8.Cal P w K mg base 4 "are_bytes" (spM K 1 (f_are_bytes K)) []) (cdv : Value) (A : Around) (outer : List Env) (s : Shared) (H : Hp) (E : XK)
    (hr : Room 4 (A.deeper (envOfC "are_machine_answers" (defScope s_are_machine_answers) s.heap.objs.size fA cdv))) : PSs (cxOf C8.CX0 P w K mg base ["value", "one"] "are_machine_answers" (defScope s_are_machine_answers) fA cdv A outer s H E).nox (defBody s_are_machine_answers) (t_are_machine_answers K w ) :=
  have scx := sc_are_machine_answers
  (pss_one (ps_ret (pe_and (pe_callB call_isi rfl Z.f_isinstance rfl (pa_cons (pv 0) (pa_cons (pe_bltn (v := .ty "tuple") (u := .type "tuple") rfl Z.f_tuple rfl rfl) pa_nil))) (pe_one (C8.pe_c c_are_bytes hr (by first | decide | assumption) rfl (pa_cons (pe_callTy c_tuple rfl Z.f_tuple rfl (pa_cons (pe_lc (own := [("one", 1)]) rfl scx.nd (pi_tup (pv 0)) (by refine blkOk_by (N := ["value", "one"]) (sc := defScope s_are_machine_answers) ?_; decide +kernel) (fun _ _ _ _ _ => (pg_name (i := 1) scx.nd rfl (by first | exact Or.inl rfl | exact Or.inr rfl))) (fun _ _ _ _ _ => (pts_one (pt_cmpR op_notN (pv 1) pe_non (nomark _)))) (fun _ _ _ _ _ => (pv 1))) pa_nil)) pa_nil))))))
theorem sc_RawMemory_init : FnScope ["self", "row"] ["self", "row"] (defScope s_RawMemory_init) := C8.fnScope_by (by decide +kernel)
def t_RawMemory_init (K : PySem.W.Frag) (w : World)  : TS := (tSeq (sFld K (tVar 0) (tCB (rLs K) (tCons (tVar 1) tNil)) "row") (sFld K (tVar 0) (tCB (rLn K) (tCons (tVar 1) tNil)) "many"))
theorem d_RawMemory_init {P : Program} {w : World} {K : PySem.W.Frag} {mg : Str → Option Value} {base : Heap}  {fA : Addr} (Z : Fx K w mg)  (cdv : Value) (A : Around) (outer : List Env) (s : Shared) (H : Hp) (E : XK)
    (hr : Room 0 (A.deeper (envOfC "RawMemory.__init__" (defScope s_RawMemory_init) s.heap.objs.size fA cdv))) : PSs (cxOf C8.CX0 P w K mg base ["self", "row"] "RawMemory.__init__" (defScope s_RawMemory_init) fA cdv A outer s H E).nox (defBody s_RawMemory_init) (t_RawMemory_init K w ) :=
  have scx := sc_RawMemory_init
  (pss_cons (ps_fld (pv 0) (pe_callTy c_list rfl Z.f_list rfl (pa_cons (pv 1) pa_nil)) (by rfl))
    (pss_one (ps_fld (pv 0) (pe_callB c_len rfl Z.f_len boot_len (pa_cons (pv 1) pa_nil)) (by rfl))))
theorem sc_RawMemory_place_of_address : FnScope ["self", "address"] ["self", "address"] (defScope s_RawMemory_place_of_address) := C8.fnScope_by (by decide +kernel)
def t_RawMemory_place_of_address (K : PySem.W.Frag) (w : World)  : TS := (tRet (tOp (rI (fun _ j => 0 < j) fun i j => .int (i % j)) (tCB rIn1 (tCons (tVar 1) tNil)) (tFld K (tVar 0) "many")))
theorem d_RawMemory_place_of_address {P : Program} {w : World} {K : PySem.W.Frag} {mg : Str → Option Value} {base : Heap}  {fA : Addr} (Z : Fx K w mg)  (cdv : Value) (A : Around) (outer : List Env) (s : Shared) (H : Hp) (E : XK)
    (hr : Room 0 (A.deeper (envOfC "RawMemory.place_of_address" (defScope s_RawMemory_place_of_address) s.heap.objs.size fA cdv))) : PSs (cxOf C8.CX0 P w K mg base ["self", "address"] "RawMemory.place_of_address" (defScope s_RawMemory_place_of_address) fA cdv A outer s H E).nox (defBody s_RawMemory_place_of_address) (t_RawMemory_place_of_address K w ) :=
  have scx := sc_RawMemory_place_of_address
  (pss_one (ps_ret (pe_op op_mod (pe_callTy c_int rfl Z.f_int rfl (pa_cons (pv 1) pa_nil)) (pe_fld (pv 0) (by rfl)))))
theorem sc_RawMemory_byte_at : FnScope ["self", "address"] ["self", "address"] (defScope s_RawMemory_byte_at) := C8.fnScope_by (by decide +kernel)
def t_RawMemory_byte_at (K : PySem.W.Frag) (w : World)  : TS := (tRet (tOp (rIx K) (tFld K (tVar 0) "row") (tMeth (He.ga K "RawMemory") "place_of_address" (spM K 2 (f_RawMemory_place_of_address K)) [] C8.E0 (tVar 0) (tCons (tVar 1) tNil))))
theorem d_RawMemory_byte_at {P : Program} {w : World} {K : PySem.W.Frag} {mg : Str → Option Value} {base : Heap}  {fA : Addr} (Z : Fx K w mg) (c_RawMemory_place_of_address : C8.Met P w K mg base 1 (He.ga K "RawMemory") "place_of_address" (spM K 2 (f_RawMemory_place_of_address K)) []) (cdv : Value) (A : Around) (outer : List Env) (s : Shared) (H : Hp) (E : XK)
    (hr : Room 1 (A.deeper (envOfC "RawMemory.byte_at" (defScope s_RawMemory_byte_at) s.heap.objs.size fA cdv))) : PSs (cxOf C8.CX0 P w K mg base ["self", "address"] "RawMemory.byte_at" (defScope s_RawMemory_byte_at) fA cdv A outer s H E).nox (defBody s_RawMemory_byte_at) (t_RawMemory_byte_at K w ) :=
  have scx := sc_RawMemory_byte_at
  (pss_one (ps_ret (pe_ix ix_seq (pe_fld (pv 0) (by rfl)) (C8.pe_mt c_RawMemory_place_of_address hr (by first | decide | assumption) (pv 0) (pa_cons (pv 1) pa_nil)) fun _ _ => rfl)))
theorem sc_RawMemory_set_byte : FnScope ["self", "address", "byte"] ["self", "address", "byte"] (defScope s_RawMemory_set_byte) := C8.fnScope_by (by decide +kernel)
def t_RawMemory_set_byte (K : PySem.W.Frag) (w : World)  : TS := (tAsg (tVar 2) (gSub (tFld K (tVar 0) "row") (tMeth (He.ga K "RawMemory") "place_of_address" (spM K 2 (f_RawMemory_place_of_address K)) [] C8.E0 (tVar 0) (tCons (tVar 1) tNil)) rSetL))
theorem d_RawMemory_set_byte {P : Program} {w : World} {K : PySem.W.Frag} {mg : Str → Option Value} {base : Heap}  {fA : Addr} (Z : Fx K w mg) (c_RawMemory_place_of_address : C8.Met P w K mg base 1 (He.ga K "RawMemory") "place_of_address" (spM K 2 (f_RawMemory_place_of_address K)) []) (cdv : Value) (A : Around) (outer : List Env) (s : Shared) (H : Hp) (E : XK)
    (hr : Room 1 (A.deeper (envOfC "RawMemory.set_byte" (defScope s_RawMemory_set_byte) s.heap.objs.size fA cdv))) : PSs (cxOf C8.CX0 P w K mg base ["self", "address", "byte"] "RawMemory.set_byte" (defScope s_RawMemory_set_byte) fA cdv A outer s H E).nox (defBody s_RawMemory_set_byte) (t_RawMemory_set_byte K w ) :=
  have scx := sc_RawMemory_set_byte
  (pss_one (ps_asg (pv 2) (pg_sub (pe_fld (pv 0) (by rfl)) (C8.pe_mt c_RawMemory_place_of_address hr (by first | decide | assumption) (pv 0) (pa_cons (pv 1) pa_nil)) set_list)))
theorem sc_RawMemory_pair_at : FnScope ["self", "address"] ["self", "address"] (defScope s_RawMemory_pair_at) := C8.fnScope_by (by decide +kernel)
def t_RawMemory_pair_at (K : PySem.W.Frag) (w : World)  : TS := (tRet (tCall (spM K 2 (f_joined_bytes K)) [] C8.E0 (tCons (tMeth (He.ga K "RawMemory") "byte_at" (spM K 2 (f_RawMemory_byte_at K)) [] C8.E0 (tVar 0) (tCons (tVar 1) tNil)) (tCons (tMeth (He.ga K "RawMemory") "byte_at" (spM K 2 (f_RawMemory_byte_at K)) [] C8.E0 (tVar 0) (tCons (tOp (rI0 fun i j => .int (i + j)) (tVar 1) (tC (.int 1))) tNil)) tNil))))
theorem d_RawMemory_pair_at {P : Program} {w : World} {K : PySem.W.Frag} {mg : Str → Option Value} {base : Heap}  {fA : Addr} (Z : Fx K w mg) (c_RawMemory_byte_at : C8.Met P w K mg base 2 (He.ga K "RawMemory") "byte_at" (spM K 2 (f_RawMemory_byte_at K)) []) (c_joined_bytes : C8.Cal P w K mg base 1 "joined_bytes" (spM K 2 (f_joined_bytes K)) []) (cdv : Value) (A : Around) (outer : List Env) (s : Shared) (H : Hp) (E : XK)
    (hr : Room 2 (A.deeper (envOfC "RawMemory.pair_at" (defScope s_RawMemory_pair_at) s.heap.objs.size fA cdv))) : PSs (cxOf C8.CX0 P w K mg base ["self", "address"] "RawMemory.pair_at" (defScope s_RawMemory_pair_at) fA cdv A outer s H E).nox (defBody s_RawMemory_pair_at) (t_RawMemory_pair_at K w ) :=
  have scx := sc_RawMemory_pair_at
  (pss_one (ps_ret (C8.pe_c c_joined_bytes hr (by first | decide | assumption) rfl (pa_cons (C8.pe_mt c_RawMemory_byte_at hr (by first | decide | assumption) (pv 0) (pa_cons (pv 1) pa_nil)) (pa_cons (C8.pe_mt c_RawMemory_byte_at hr (by first | decide | assumption) (pv 0) (pa_cons (pe_op op_add (pv 1) pe_int) pa_nil)) pa_nil)))))
theorem sc_RawMemory_set_pair : FnScope ["self", "address", "number", "high", "low"] ["self", "address", "number"] (defScope s_RawMemory_set_pair) := C8.fnScope_by (by decide +kernel)
def t_RawMemory_set_pair (K : PySem.W.Frag) (w : World)  : TS := (tSeq (tAsg (tCall (spM K 1 (f_high_and_low K)) [] C8.E0 (tCons (tVar 2) tNil)) (gTup K 2 (gCons (gName 3) (gCons (gName 4) gNil)))) (tSeq (tDrop (tMeth (He.ga K "RawMemory") "set_byte" (spM K 3 (f_RawMemory_set_byte K)) [] C8.E0 (tVar 0) (tCons (tVar 1) (tCons (tVar 3) tNil)))) (tDrop (tMeth (He.ga K "RawMemory") "set_byte" (spM K 3 (f_RawMemory_set_byte K)) [] C8.E0 (tVar 0) (tCons (tOp (rI0 fun i j => .int (i + j)) (tVar 1) (tC (.int 1))) (tCons (tVar 4) tNil))))))
theorem d_RawMemory_set_pair {P : Program} {w : World} {K : PySem.W.Frag} {mg : Str → Option Value} {base : Heap}  {fA : Addr} (Z : Fx K w mg) (c_RawMemory_set_byte : C8.Met P w K mg base 2 (He.ga K "RawMemory") "set_byte" (spM K 3 (f_RawMemory_set_byte K)) []) (c_high_and_low : C8.Cal P w K mg base 1 "high_and_low" (spM K 1 (f_high_and_low K)) []) (cdv : Value) (A : Around) (outer : List Env) (s : Shared) (H : Hp) (E : XK)
    (hr : Room 2 (A.deeper (envOfC "RawMemory.set_pair" (defScope s_RawMemory_set_pair) s.heap.objs.size fA cdv))) : PSs (cxOf C8.CX0 P w K mg base ["self", "address", "number", "high", "low"] "RawMemory.set_pair" (defScope s_RawMemory_set_pair) fA cdv A outer s H E).nox (defBody s_RawMemory_set_pair) (t_RawMemory_set_pair K w ) :=
  have scx := sc_RawMemory_set_pair
  (pss_cons (ps_asg (C8.pe_c c_high_and_low hr (by first | decide | assumption) rfl (pa_cons (pv 2) pa_nil)) (pg_tup rfl (pgs_cons (pg_name (i := 3) scx.nd rfl (by first | exact Or.inl rfl | exact Or.inr rfl)) (pgs_cons (pg_name (i := 4) scx.nd rfl (by first | exact Or.inl rfl | exact Or.inr rfl)) pgs_nil))))
    (pss_cons (ps_expr (C8.pe_mt c_RawMemory_set_byte hr (by first | decide | assumption) (pv 0) (pa_cons (pv 1) (pa_cons (pv 3) pa_nil))))
    (pss_one (ps_expr (C8.pe_mt c_RawMemory_set_byte hr (by first | decide | assumption) (pv 0) (pa_cons (pe_op op_add (pv 1) pe_int) (pa_cons (pv 4) pa_nil)))))))
theorem sc_RawMemory_operand : FnScope ["self", "kind", "address"] ["self", "kind", "address"] (defScope s_RawMemory_operand) := C8.fnScope_by (by decide +kernel)
def t_RawMemory_operand (K : PySem.W.Frag) (w : World)  : TS := (tSeq (tIfS (tTest (tOp rEq (tVar 1) (tC (.str "address")))) (tRet (tMeth (He.ga K "RawMemory") "pair_at" (spM K 2 (f_RawMemory_pair_at K)) [] C8.E0 (tVar 0) (tCons (tVar 2) tNil))) tNext) (tSeq (tIfS (tTest (tOp rEq (tVar 1) (tC (.str "box")))) (tRet (tOp (rI (fun _ j => 0 < j) fun i j => .int (i % j)) (tCB rIn1 (tCons (tMeth (He.ga K "RawMemory") "byte_at" (spM K 2 (f_RawMemory_byte_at K)) [] C8.E0 (tVar 0) (tCons (tVar 2) tNil)) tNil)) (tC (.int 8)))) tNext) (tRet (tMeth (He.ga K "RawMemory") "byte_at" (spM K 2 (f_RawMemory_byte_at K)) [] C8.E0 (tVar 0) (tCons (tVar 2) tNil)))))
theorem d_RawMemory_operand {P : Program} {w : World} {K : PySem.W.Frag} {mg : Str → Option Value} {base : Heap}  {fA : Addr} (Z : Fx K w mg) (c_RawMemory_byte_at : C8.Met P w K mg base 2 (He.ga K "RawMemory") "byte_at" (spM K 2 (f_RawMemory_byte_at K)) []) (c_RawMemory_pair_at : C8.Met P w K mg base 3 (He.ga K "RawMemory") "pair_at" (spM K 2 (f_RawMemory_pair_at K)) []) (cdv : Value) (A : Around) (outer : List Env) (s : Shared) (H : Hp) (E : XK)
    (hr : Room 3 (A.deeper (envOfC "RawMemory.operand" (defScope s_RawMemory_operand) s.heap.objs.size fA cdv))) : PSs (cxOf C8.CX0 P w K mg base ["self", "kind", "address"] "RawMemory.operand" (defScope s_RawMemory_operand) fA cdv A outer s H E).nox (defBody s_RawMemory_operand) (t_RawMemory_operand K w ) :=
  have scx := sc_RawMemory_operand
  (pss_cons (ps_if (pt_cmpR op_eq (pv 1) pe_str (nomark _)) (pss_one (ps_ret (C8.pe_mt c_RawMemory_pair_at hr (by first | decide | assumption) (pv 0) (pa_cons (pv 2) pa_nil)))) pss_nil)
    (pss_cons (ps_if (pt_cmpR op_eq (pv 1) pe_str (nomark _)) (pss_one (ps_ret (pe_op op_mod (pe_callTy c_int rfl Z.f_int rfl (pa_cons (C8.pe_mt c_RawMemory_byte_at hr (by first | decide | assumption) (pv 0) (pa_cons (pv 2) pa_nil)) pa_nil)) (C8.pe_gc rfl Z.i_BOXES)))) pss_nil)
    (pss_one (ps_ret (C8.pe_mt c_RawMemory_byte_at hr (by first | decide | assumption) (pv 0) (pa_cons (pv 2) pa_nil))))))
theorem sc_RawMemory_instruction_at : FnScope ["self", "address", "opcode", "members", "place", "kind"] ["self", "address"] (defScope s_RawMemory_instruction_at) := C8.fnScope_by (by decide +kernel)
def t_RawMemory_instruction_at (K : PySem.W.Frag) (w : World)  : TS := (tSeq (tAsg (tMeth (He.ga K "RawMemory") "byte_at" (spM K 2 (f_RawMemory_byte_at K)) [] C8.E0 (tVar 0) (tCons (tVar 1) tNil)) (gName 2)) (tSeq (tIfS (tNot (tB (tCall (spM K 1 (f_is_opcode K)) [] C8.E0 (tCons (tVar 2) tNil)))) (tRet (tC .non)) tNext) (tSeq (tAsg (tLst (tCons (tCall (spM K 1 (f_word_of K)) [] C8.E0 (tCons (tVar 2) tNil)) tNil)) (gName 3)) (tSeq (tAsg (tOp (rI0 fun i j => .int (i + j)) (tVar 1) (tC (.int 1))) (gName 4)) (tSeq (tFor (iTup K (tOp (rIxD K w) (tC (.ref (He.ga K "OPERANDS"))) (tOp (rIx K) (tVar 3) (tC (.int 0))))) (gName 5) (tSeq (tDrop (tBM K "list" rAppend (tVar 3) (tCons (tMeth (He.ga K "RawMemory") "operand" (spM K 3 (f_RawMemory_operand K)) [] C8.E0 (tVar 0) (tCons (tVar 5) (tCons (tVar 4) tNil))) tNil))) (tAug 4 (tOp (rIxD K w) (tC (.ref (He.ga K "SIZES"))) (tVar 5)) (ipI fun i j => i + j)))) (tRet (tCB (rTp K) (tCons (tVar 3) tNil))))))))
theorem d_RawMemory_instruction_at {P : Program} {w : World} {K : PySem.W.Frag} {mg : Str → Option Value} {base : Heap}  {fA : Addr} (Z : Fx K w mg) (c_RawMemory_byte_at : C8.Met P w K mg base 2 (He.ga K "RawMemory") "byte_at" (spM K 2 (f_RawMemory_byte_at K)) []) (c_RawMemory_operand : C8.Met P w K mg base 4 (He.ga K "RawMemory") "operand" (spM K 3 (f_RawMemory_operand K)) []) (c_is_opcode : C8.Cal P w K mg base 1 "is_opcode" (spM K 1 (f_is_opcode K)) []) (c_word_of : C8.Cal P w K mg base 1 "word_of" (spM K 1 (f_word_of K)) []) (cdv : Value) (A : Around) (outer : List Env) (s : Shared) (H : Hp) (E : XK)
    (hr : Room 4 (A.deeper (envOfC "RawMemory.instruction_at" (defScope s_RawMemory_instruction_at) s.heap.objs.size fA cdv))) : PSs (cxOf C8.CX0 P w K mg base ["self", "address", "opcode", "members", "place", "kind"] "RawMemory.instruction_at" (defScope s_RawMemory_instruction_at) fA cdv A outer s H E).nox (defBody s_RawMemory_instruction_at) (t_RawMemory_instruction_at K w ) :=
  have scx := sc_RawMemory_instruction_at
  (pss_cons (ps_set (i := 2) scx.nd rfl (by first | exact Or.inl rfl | exact Or.inr rfl) (C8.pe_mt c_RawMemory_byte_at hr (by first | decide | assumption) (pv 0) (pa_cons (pv 1) pa_nil)))
    (pss_cons (ps_if (pt_not (pt_val (C8.pe_c c_is_opcode hr (by first | decide | assumption) rfl (pa_cons (pv 2) pa_nil)))) (pss_one (ps_ret pe_non)) pss_nil)
    (pss_cons (ps_set (i := 3) scx.nd rfl (by first | exact Or.inl rfl | exact Or.inr rfl) (pe_lst (pa_cons (C8.pe_c c_word_of hr (by first | decide | assumption) rfl (pa_cons (pv 2) pa_nil)) pa_nil)))
    (pss_cons (ps_set (i := 4) scx.nd rfl (by first | exact Or.inl rfl | exact Or.inr rfl) (pe_op op_add (pv 1) pe_int))
    (pss_cons (ps_for PassesOwn.never rfl (pi_tup (pe_ix ix_kdict (C8.pe_gc rfl (gcR Z.g_OPERANDS)) (pe_ix ix_seq (pv 3) pe_int fun _ _ => rfl) fun _ _ => rfl)) (pg_name (i := 5) scx.nd rfl (by first | exact Or.inl rfl | exact Or.inr rfl)) (pss_cons (ps_expr (pe_bm F.plainAttrs_list F.slot_list_append F.type_list_append mt_append (pv 3) (pa_cons (C8.pe_mt c_RawMemory_operand hr (by first | decide | assumption) (pv 0) (pa_cons (pv 5) (pa_cons (pv 4) pa_nil))) pa_nil)))
    (pss_one (ps_aug scx.nd rfl (by first | exact Or.inl rfl | exact Or.inr rfl) (pe_ix ix_kdict (C8.pe_gc rfl (gcR Z.g_SIZES)) (pv 5) fun _ _ => rfl) ip_add))))
    (pss_one (ps_ret (pe_callTy c_tuple rfl Z.f_tuple rfl (pa_cons (pv 3) pa_nil)))))))))
theorem sc_RawMemory_whole : FnScope ["self"] ["self"] (defScope s_RawMemory_whole) := C8.fnScope_by (by decide +kernel)
def t_RawMemory_whole (K : PySem.W.Frag) (w : World)  : TS := (tRet (tCB (rTp K) (tCons (tFld K (tVar 0) "row") tNil)))
theorem d_RawMemory_whole {P : Program} {w : World} {K : PySem.W.Frag} {mg : Str → Option Value} {base : Heap}  {fA : Addr} (Z : Fx K w mg)  (cdv : Value) (A : Around) (outer : List Env) (s : Shared) (H : Hp) (E : XK)
    (hr : Room 0 (A.deeper (envOfC "RawMemory.whole" (defScope s_RawMemory_whole) s.heap.objs.size fA cdv))) : PSs (cxOf C8.CX0 P w K mg base ["self"] "RawMemory.whole" (defScope s_RawMemory_whole) fA cdv A outer s H E).nox (defBody s_RawMemory_whole) (t_RawMemory_whole K w ) :=
  have scx := sc_RawMemory_whole
  (pss_one (ps_ret (pe_callTy c_tuple rfl Z.f_tuple rfl (pa_cons (pe_fld (pv 0) (by rfl)) pa_nil))))
theorem sc_RawMachine_init : FnScope ["self", "state", "answers", "memory", "boxes", "at", "top"] ["self", "state", "answers"] (defScope s_RawMachine_init) := C8.fnScope_by (by decide +kernel)
def t_RawMachine_init (K : PySem.W.Frag) (w : World)  : TS := (tSeq (tAsg (tVar 1) (gTup K 4 (gCons (gName 3) (gCons (gName 4) (gCons (gName 5) (gCons (gName 6) gNil)))))) (tSeq (sFld K (tVar 0) (tMake (He.ga K "RawMemory") (spM K 2 (f_RawMemory_init K)) [] C8.E0 (tCons (tVar 3) tNil)) "memory") (tSeq (sFld K (tVar 0) (tCB (rLs K) (tCons (tVar 4) tNil)) "boxes") (tSeq (sFld K (tVar 0) (tVar 5) "at") (tSeq (sFld K (tVar 0) (tVar 6) "top") (sFld K (tVar 0) (tMake (He.ga K "Outside") (spM K 2 (f_Outside_init K)) [] C8.E0 (tCons (tVar 2) tNil)) "outside"))))))
theorem d_RawMachine_init {P : Program} {w : World} {K : PySem.W.Frag} {mg : Str → Option Value} {base : Heap}  {fA : Addr} (Z : Fx K w mg) (c_Outside_init : C8.Mak P w K mg base 1 "Outside" (He.ga K "Outside") (spM K 2 (f_Outside_init K)) []) (c_RawMemory_init : C8.Mak P w K mg base 1 "RawMemory" (He.ga K "RawMemory") (spM K 2 (f_RawMemory_init K)) []) (cdv : Value) (A : Around) (outer : List Env) (s : Shared) (H : Hp) (E : XK)
    (hr : Room 2 (A.deeper (envOfC "RawMachine.__init__" (defScope s_RawMachine_init) s.heap.objs.size fA cdv))) : PSs (cxOf C8.CX0 P w K mg base ["self", "state", "answers", "memory", "boxes", "at", "top"] "RawMachine.__init__" (defScope s_RawMachine_init) fA cdv A outer s H E).nox (defBody s_RawMachine_init) (t_RawMachine_init K w ) :=
  have scx := sc_RawMachine_init
  (pss_cons (ps_asg (pv 1) (pg_tup rfl (pgs_cons (pg_name (i := 3) scx.nd rfl (by first | exact Or.inl rfl | exact Or.inr rfl)) (pgs_cons (pg_name (i := 4) scx.nd rfl (by first | exact Or.inl rfl | exact Or.inr rfl)) (pgs_cons (pg_name (i := 5) scx.nd rfl (by first | exact Or.inl rfl | exact Or.inr rfl)) (pgs_cons (pg_name (i := 6) scx.nd rfl (by first | exact Or.inl rfl | exact Or.inr rfl)) pgs_nil))))))
    (pss_cons (ps_fld (pv 0) (C8.pe_mk c_RawMemory_init hr (by first | decide | assumption) rfl (pa_cons (pv 3) pa_nil)) (by rfl))
    (pss_cons (ps_fld (pv 0) (pe_callTy c_list rfl Z.f_list rfl (pa_cons (pv 4) pa_nil)) (by rfl))
    (pss_cons (ps_fld (pv 0) (pv 5) (by rfl))
    (pss_cons (ps_fld (pv 0) (pv 6) (by rfl))
    (pss_one (ps_fld (pv 0) (C8.pe_mk c_Outside_init hr (by first | decide | assumption) rfl (pa_cons (pv 2) pa_nil)) (by rfl))))))))
theorem sc_RawMachine_whole_state : FnScope ["self"] ["self"] (defScope s_RawMachine_whole_state) := C8.fnScope_by (by decide +kernel)
def t_RawMachine_whole_state (K : PySem.W.Frag) (w : World)  : TS := (tRet (tTup (tCons (tMeth (He.ga K "RawMemory") "whole" (spM K 1 (f_RawMemory_whole K)) [] C8.E0 (tFld K (tVar 0) "memory") tNil) (tCons (tCB (rTp K) (tCons (tFld K (tVar 0) "boxes") tNil)) (tCons (tFld K (tVar 0) "at") (tCons (tFld K (tVar 0) "top") tNil))))))
theorem d_RawMachine_whole_state {P : Program} {w : World} {K : PySem.W.Frag} {mg : Str → Option Value} {base : Heap}  {fA : Addr} (Z : Fx K w mg) (c_RawMemory_whole : C8.Met P w K mg base 1 (He.ga K "RawMemory") "whole" (spM K 1 (f_RawMemory_whole K)) []) (cdv : Value) (A : Around) (outer : List Env) (s : Shared) (H : Hp) (E : XK)
    (hr : Room 1 (A.deeper (envOfC "RawMachine.whole_state" (defScope s_RawMachine_whole_state) s.heap.objs.size fA cdv))) : PSs (cxOf C8.CX0 P w K mg base ["self"] "RawMachine.whole_state" (defScope s_RawMachine_whole_state) fA cdv A outer s H E).nox (defBody s_RawMachine_whole_state) (t_RawMachine_whole_state K w ) :=
  have scx := sc_RawMachine_whole_state
  (pss_one (ps_ret (pe_tup (pa_cons (C8.pe_mt0 c_RawMemory_whole hr (by first | decide | assumption) (pe_fld (pv 0) (by rfl))) (pa_cons (pe_callTy c_tuple rfl Z.f_tuple rfl (pa_cons (pe_fld (pv 0) (by rfl)) pa_nil)) (pa_cons (pe_fld (pv 0) (by rfl)) (pa_cons (pe_fld (pv 0) (by rfl)) pa_nil)))))))
theorem sc_RawMachine_go_to : FnScope ["self", "address"] ["self", "address"] (defScope s_RawMachine_go_to) := C8.fnScope_by (by decide +kernel)
def t_RawMachine_go_to (K : PySem.W.Frag) (w : World)  : TS := (sFld K (tVar 0) (tMeth (He.ga K "RawMemory") "place_of_address" (spM K 2 (f_RawMemory_place_of_address K)) [] C8.E0 (tFld K (tVar 0) "memory") (tCons (tVar 1) tNil)) "at")
theorem d_RawMachine_go_to {P : Program} {w : World} {K : PySem.W.Frag} {mg : Str → Option Value} {base : Heap}  {fA : Addr} (Z : Fx K w mg) (c_RawMemory_place_of_address : C8.Met P w K mg base 1 (He.ga K "RawMemory") "place_of_address" (spM K 2 (f_RawMemory_place_of_address K)) []) (cdv : Value) (A : Around) (outer : List Env) (s : Shared) (H : Hp) (E : XK)
    (hr : Room 1 (A.deeper (envOfC "RawMachine.go_to" (defScope s_RawMachine_go_to) s.heap.objs.size fA cdv))) : PSs (cxOf C8.CX0 P w K mg base ["self", "address"] "RawMachine.go_to" (defScope s_RawMachine_go_to) fA cdv A outer s H E).nox (defBody s_RawMachine_go_to) (t_RawMachine_go_to K w ) :=
  have scx := sc_RawMachine_go_to
  (pss_one (ps_fld (pv 0) (C8.pe_mt c_RawMemory_place_of_address hr (by first | decide | assumption) (pe_fld (pv 0) (by rfl)) (pa_cons (pv 1) pa_nil)) (by rfl)))
theorem sc_RawMachine_move_top : FnScope ["self", "many"] ["self", "many"] (defScope s_RawMachine_move_top) := C8.fnScope_by (by decide +kernel)
def t_RawMachine_move_top (K : PySem.W.Frag) (w : World)  : TS := (sFld K (tVar 0) (tMeth (He.ga K "RawMemory") "place_of_address" (spM K 2 (f_RawMemory_place_of_address K)) [] C8.E0 (tFld K (tVar 0) "memory") (tCons (tOp (rI0 fun i j => .int (i + j)) (tFld K (tVar 0) "top") (tVar 1)) tNil)) "top")
theorem d_RawMachine_move_top {P : Program} {w : World} {K : PySem.W.Frag} {mg : Str → Option Value} {base : Heap}  {fA : Addr} (Z : Fx K w mg) (c_RawMemory_place_of_address : C8.Met P w K mg base 1 (He.ga K "RawMemory") "place_of_address" (spM K 2 (f_RawMemory_place_of_address K)) []) (cdv : Value) (A : Around) (outer : List Env) (s : Shared) (H : Hp) (E : XK)
    (hr : Room 1 (A.deeper (envOfC "RawMachine.move_top" (defScope s_RawMachine_move_top) s.heap.objs.size fA cdv))) : PSs (cxOf C8.CX0 P w K mg base ["self", "many"] "RawMachine.move_top" (defScope s_RawMachine_move_top) fA cdv A outer s H E).nox (defBody s_RawMachine_move_top) (t_RawMachine_move_top K w ) :=
  have scx := sc_RawMachine_move_top
  (pss_one (ps_fld (pv 0) (C8.pe_mt c_RawMemory_place_of_address hr (by first | decide | assumption) (pe_fld (pv 0) (by rfl)) (pa_cons (pe_op op_add (pe_fld (pv 0) (by rfl)) (pv 1)) pa_nil)) (by rfl)))
theorem sc_RawMachine_waits_at : FnScope ["self", "word"] ["self", "word"] (defScope s_RawMachine_waits_at) := C8.fnScope_by (by decide +kernel)
def t_RawMachine_waits_at (K : PySem.W.Frag) (w : World)  : TS := (tSeq (tIfS (tTest (tOp (rIn K false) (tVar 1) (tC (.ref (He.ga K "ANSWER_OR_NONE"))))) tNever tNext) (tSeq (tIfS (tTest (tOp (rIn K false) (tVar 1) (tC (.ref (He.ga K "ANSWER_NEEDED"))))) tNever tNext) (tRet (tC (.bl false)))))
theorem d_RawMachine_waits_at {P : Program} {w : World} {K : PySem.W.Frag} {mg : Str → Option Value} {base : Heap}  {fA : Addr} (Z : Fx K w mg)  (cdv : Value) (A : Around) (outer : List Env) (s : Shared) (H : Hp) (E : XK)
    (hr : Room 0 (A.deeper (envOfC "RawMachine.waits_at" (defScope s_RawMachine_waits_at) s.heap.objs.size fA cdv))) : PSs (cxOf C8.CX0 P w K mg base ["self", "word"] "RawMachine.waits_at" (defScope s_RawMachine_waits_at) fA cdv A outer s H E).nox (defBody s_RawMachine_waits_at) (t_RawMachine_waits_at K w ) :=
  have scx := sc_RawMachine_waits_at
  (pss_cons (ps_if (pt_cmpR op_in_seq (pv 1) (C8.pe_gc rfl (gcR Z.g_ANSWER_OR_NONE)) (by rfl)) (pss_one ps_never) pss_nil)
    (pss_cons (ps_if (pt_cmpR op_in_seq (pv 1) (C8.pe_gc rfl (gcR Z.g_ANSWER_NEEDED)) (by rfl)) (pss_one ps_never) pss_nil)
    (pss_one (ps_ret pe_bl))))
theorem sc_raw_set : FnScope ["machine", "instruction", "_", "r", "n"] ["machine", "instruction"] (defScope s_raw_set) := C8.fnScope_by (by decide +kernel)
def t_raw_set (K : PySem.W.Frag) (w : World)  : TS := (tSeq (tAsg (tVar 1) (gTup K 3 (gCons (gName 2) (gCons (gName 3) (gCons (gName 4) gNil))))) (tAsg (tVar 4) (gSub (tFld K (tVar 0) "boxes") (tVar 3) rSetL)))
theorem d_raw_set {P : Program} {w : World} {K : PySem.W.Frag} {mg : Str → Option Value} {base : Heap}  {fA : Addr} (Z : Fx K w mg)  (cdv : Value) (A : Around) (outer : List Env) (s : Shared) (H : Hp) (E : XK)
    (hr : Room 0 (A.deeper (envOfC "raw_set" (defScope s_raw_set) s.heap.objs.size fA cdv))) : PSs (cxOf C8.CX0 P w K mg base ["machine", "instruction", "_", "r", "n"] "raw_set" (defScope s_raw_set) fA cdv A outer s H E).nox (defBody s_raw_set) (t_raw_set K w ) :=
  have scx := sc_raw_set
  (pss_cons (ps_asg (pv 1) (pg_tup rfl (pgs_cons (pg_name (i := 2) scx.nd rfl (by first | exact Or.inl rfl | exact Or.inr rfl)) (pgs_cons (pg_name (i := 3) scx.nd rfl (by first | exact Or.inl rfl | exact Or.inr rfl)) (pgs_cons (pg_name (i := 4) scx.nd rfl (by first | exact Or.inl rfl | exact Or.inr rfl)) pgs_nil)))))
    (pss_one (ps_asg (pv 4) (pg_sub (pe_fld (pv 0) (by rfl)) (pv 3) set_list))))
theorem sc_raw_sum : FnScope ["machine", "instruction", "word", "r", "s", "t"] ["machine", "instruction"] (defScope s_raw_sum) := C8.fnScope_by (by decide +kernel)
def t_raw_sum (K : PySem.W.Frag) (w : World)  : TS := (tSeq (tAsg (tVar 1) (gTup K 4 (gCons (gName 2) (gCons (gName 3) (gCons (gName 4) (gCons (gName 5) gNil)))))) (tAsg (tCall (spM K 3 (f_sum_of K)) [] C8.E0 (tCons (tVar 2) (tCons (tOp (rIx K) (tFld K (tVar 0) "boxes") (tVar 4)) (tCons (tOp (rIx K) (tFld K (tVar 0) "boxes") (tVar 5)) tNil)))) (gSub (tFld K (tVar 0) "boxes") (tVar 3) rSetL)))
theorem d_raw_sum {P : Program} {w : World} {K : PySem.W.Frag} {mg : Str → Option Value} {base : Heap}  {fA : Addr} (Z : Fx K w mg) (c_sum_of : C8.Cal P w K mg base 1 "sum_of" (spM K 3 (f_sum_of K)) []) (cdv : Value) (A : Around) (outer : List Env) (s : Shared) (H : Hp) (E : XK)
    (hr : Room 1 (A.deeper (envOfC "raw_sum" (defScope s_raw_sum) s.heap.objs.size fA cdv))) : PSs (cxOf C8.CX0 P w K mg base ["machine", "instruction", "word", "r", "s", "t"] "raw_sum" (defScope s_raw_sum) fA cdv A outer s H E).nox (defBody s_raw_sum) (t_raw_sum K w ) :=
  have scx := sc_raw_sum
  (pss_cons (ps_asg (pv 1) (pg_tup rfl (pgs_cons (pg_name (i := 2) scx.nd rfl (by first | exact Or.inl rfl | exact Or.inr rfl)) (pgs_cons (pg_name (i := 3) scx.nd rfl (by first | exact Or.inl rfl | exact Or.inr rfl)) (pgs_cons (pg_name (i := 4) scx.nd rfl (by first | exact Or.inl rfl | exact Or.inr rfl)) (pgs_cons (pg_name (i := 5) scx.nd rfl (by first | exact Or.inl rfl | exact Or.inr rfl)) pgs_nil))))))
    (pss_one (ps_asg (C8.pe_c c_sum_of hr (by first | decide | assumption) rfl (pa_cons (pv 2) (pa_cons (pe_ix ix_seq (pe_fld (pv 0) (by rfl)) (pv 4) fun _ _ => rfl) (pa_cons (pe_ix ix_seq (pe_fld (pv 0) (by rfl)) (pv 5) fun _ _ => rfl) pa_nil)))) (pg_sub (pe_fld (pv 0) (by rfl)) (pv 3) set_list))))
theorem sc_raw_tell : FnScope ["machine", "instruction"] ["machine", "instruction"] (defScope s_raw_tell) := C8.fnScope_by (by decide +kernel)
def t_raw_tell (K : PySem.W.Frag) (w : World)  : TS := (tDrop (tMeth (He.ga K "Outside") "tell" (spM K 2 (f_Outside_tell K)) [] C8.E0 (tFld K (tVar 0) "outside") (tCons (tTup (tCons (tC (.str "tell")) (tCons (tOp (rIx K) (tFld K (tVar 0) "boxes") (tOp (rIx K) (tVar 1) (tC (.int 1)))) tNil))) tNil)))
theorem d_raw_tell {P : Program} {w : World} {K : PySem.W.Frag} {mg : Str → Option Value} {base : Heap}  {fA : Addr} (Z : Fx K w mg) (c_Outside_tell : C8.Met P w K mg base 1 (He.ga K "Outside") "tell" (spM K 2 (f_Outside_tell K)) []) (cdv : Value) (A : Around) (outer : List Env) (s : Shared) (H : Hp) (E : XK)
    (hr : Room 1 (A.deeper (envOfC "raw_tell" (defScope s_raw_tell) s.heap.objs.size fA cdv))) : PSs (cxOf C8.CX0 P w K mg base ["machine", "instruction"] "raw_tell" (defScope s_raw_tell) fA cdv A outer s H E).nox (defBody s_raw_tell) (t_raw_tell K w ) :=
  have scx := sc_raw_tell
  (pss_one (ps_expr (C8.pe_mt c_Outside_tell hr (by first | decide | assumption) (pe_fld (pv 0) (by rfl)) (pa_cons (pe_tup (pa_cons pe_str (pa_cons (pe_ix ix_seq (pe_fld (pv 0) (by rfl)) (pe_ix ix_seq (pv 1) pe_int fun _ _ => rfl) fun _ _ => rfl) pa_nil))) pa_nil))))
theorem sc_raw_test : FnScope ["machine", "instruction", "word", "s", "t", "address"] ["machine", "instruction"] (defScope s_raw_test) := C8.fnScope_by (by decide +kernel)
def t_raw_test (K : PySem.W.Frag) (w : World)  : TS := (tSeq (tAsg (tVar 1) (gTup K 4 (gCons (gName 2) (gCons (gName 3) (gCons (gName 4) (gCons (gName 5) gNil)))))) (tIfS (tB (tCall (spM K 3 (f_test_holds K)) [] C8.E0 (tCons (tVar 2) (tCons (tOp (rIx K) (tFld K (tVar 0) "boxes") (tVar 3)) (tCons (tOp (rIx K) (tFld K (tVar 0) "boxes") (tVar 4)) tNil))))) (tDrop (tMeth (He.ga K "RawMachine") "go_to" (spM K 2 (f_RawMachine_go_to K)) [] C8.E0 (tVar 0) (tCons (tVar 5) tNil))) tNext))
theorem d_raw_test {P : Program} {w : World} {K : PySem.W.Frag} {mg : Str → Option Value} {base : Heap}  {fA : Addr} (Z : Fx K w mg) (c_RawMachine_go_to : C8.Met P w K mg base 2 (He.ga K "RawMachine") "go_to" (spM K 2 (f_RawMachine_go_to K)) []) (c_test_holds : C8.Cal P w K mg base 1 "test_holds" (spM K 3 (f_test_holds K)) []) (cdv : Value) (A : Around) (outer : List Env) (s : Shared) (H : Hp) (E : XK)
    (hr : Room 2 (A.deeper (envOfC "raw_test" (defScope s_raw_test) s.heap.objs.size fA cdv))) : PSs (cxOf C8.CX0 P w K mg base ["machine", "instruction", "word", "s", "t", "address"] "raw_test" (defScope s_raw_test) fA cdv A outer s H E).nox (defBody s_raw_test) (t_raw_test K w ) :=
  have scx := sc_raw_test
  (pss_cons (ps_asg (pv 1) (pg_tup rfl (pgs_cons (pg_name (i := 2) scx.nd rfl (by first | exact Or.inl rfl | exact Or.inr rfl)) (pgs_cons (pg_name (i := 3) scx.nd rfl (by first | exact Or.inl rfl | exact Or.inr rfl)) (pgs_cons (pg_name (i := 4) scx.nd rfl (by first | exact Or.inl rfl | exact Or.inr rfl)) (pgs_cons (pg_name (i := 5) scx.nd rfl (by first | exact Or.inl rfl | exact Or.inr rfl)) pgs_nil))))))
    (pss_one (ps_if (pt_val (C8.pe_c c_test_holds hr (by first | decide | assumption) rfl (pa_cons (pv 2) (pa_cons (pe_ix ix_seq (pe_fld (pv 0) (by rfl)) (pv 3) fun _ _ => rfl) (pa_cons (pe_ix ix_seq (pe_fld (pv 0) (by rfl)) (pv 4) fun _ _ => rfl) pa_nil))))) (pss_one (ps_expr (C8.pe_mt c_RawMachine_go_to hr (by first | decide | assumption) (pv 0) (pa_cons (pv 5) pa_nil)))) pss_nil)))
theorem sc_raw_call : FnScope ["machine", "instruction"] ["machine", "instruction"] (defScope s_raw_call) := C8.fnScope_by (by decide +kernel)
def t_raw_call (K : PySem.W.Frag) (w : World)  : TS := (tSeq (tDrop (tMeth (He.ga K "RawMachine") "move_top" (spM K 2 (f_RawMachine_move_top K)) [] C8.E0 (tVar 0) (tCons (tUn (rU fun i => .int (-i)) (tC (.int 2))) tNil))) (tSeq (tDrop (tMeth (He.ga K "RawMemory") "set_pair" (spM K 3 (f_RawMemory_set_pair K)) [] C8.E0 (tFld K (tVar 0) "memory") (tCons (tFld K (tVar 0) "top") (tCons (tFld K (tVar 0) "at") tNil)))) (tDrop (tMeth (He.ga K "RawMachine") "go_to" (spM K 2 (f_RawMachine_go_to K)) [] C8.E0 (tVar 0) (tCons (tOp (rIx K) (tVar 1) (tC (.int 1))) tNil)))))
theorem d_raw_call {P : Program} {w : World} {K : PySem.W.Frag} {mg : Str → Option Value} {base : Heap}  {fA : Addr} (Z : Fx K w mg) (c_RawMachine_go_to : C8.Met P w K mg base 2 (He.ga K "RawMachine") "go_to" (spM K 2 (f_RawMachine_go_to K)) []) (c_RawMachine_move_top : C8.Met P w K mg base 2 (He.ga K "RawMachine") "move_top" (spM K 2 (f_RawMachine_move_top K)) []) (c_RawMemory_set_pair : C8.Met P w K mg base 3 (He.ga K "RawMemory") "set_pair" (spM K 3 (f_RawMemory_set_pair K)) []) (cdv : Value) (A : Around) (outer : List Env) (s : Shared) (H : Hp) (E : XK)
    (hr : Room 3 (A.deeper (envOfC "raw_call" (defScope s_raw_call) s.heap.objs.size fA cdv))) : PSs (cxOf C8.CX0 P w K mg base ["machine", "instruction"] "raw_call" (defScope s_raw_call) fA cdv A outer s H E).nox (defBody s_raw_call) (t_raw_call K w ) :=
  have scx := sc_raw_call
  (pss_cons (ps_expr (C8.pe_mt c_RawMachine_move_top hr (by first | decide | assumption) (pv 0) (pa_cons (pe_un un_neg pe_int) pa_nil)))
    (pss_cons (ps_expr (C8.pe_mt c_RawMemory_set_pair hr (by first | decide | assumption) (pe_fld (pv 0) (by rfl)) (pa_cons (pe_fld (pv 0) (by rfl)) (pa_cons (pe_fld (pv 0) (by rfl)) pa_nil))))
    (pss_one (ps_expr (C8.pe_mt c_RawMachine_go_to hr (by first | decide | assumption) (pv 0) (pa_cons (pe_ix ix_seq (pv 1) pe_int fun _ _ => rfl) pa_nil))))))
theorem sc_raw_back : FnScope ["machine", "instruction"] ["machine", "instruction"] (defScope s_raw_back) := C8.fnScope_by (by decide +kernel)
def t_raw_back (K : PySem.W.Frag) (w : World)  : TS := (tSeq (tDrop (tMeth (He.ga K "RawMachine") "go_to" (spM K 2 (f_RawMachine_go_to K)) [] C8.E0 (tVar 0) (tCons (tMeth (He.ga K "RawMemory") "pair_at" (spM K 2 (f_RawMemory_pair_at K)) [] C8.E0 (tFld K (tVar 0) "memory") (tCons (tFld K (tVar 0) "top") tNil)) tNil))) (tDrop (tMeth (He.ga K "RawMachine") "move_top" (spM K 2 (f_RawMachine_move_top K)) [] C8.E0 (tVar 0) (tCons (tC (.int 2)) tNil))))
theorem d_raw_back {P : Program} {w : World} {K : PySem.W.Frag} {mg : Str → Option Value} {base : Heap}  {fA : Addr} (Z : Fx K w mg) (c_RawMachine_go_to : C8.Met P w K mg base 2 (He.ga K "RawMachine") "go_to" (spM K 2 (f_RawMachine_go_to K)) []) (c_RawMachine_move_top : C8.Met P w K mg base 2 (He.ga K "RawMachine") "move_top" (spM K 2 (f_RawMachine_move_top K)) []) (c_RawMemory_pair_at : C8.Met P w K mg base 3 (He.ga K "RawMemory") "pair_at" (spM K 2 (f_RawMemory_pair_at K)) []) (cdv : Value) (A : Around) (outer : List Env) (s : Shared) (H : Hp) (E : XK)
    (hr : Room 3 (A.deeper (envOfC "raw_back" (defScope s_raw_back) s.heap.objs.size fA cdv))) : PSs (cxOf C8.CX0 P w K mg base ["machine", "instruction"] "raw_back" (defScope s_raw_back) fA cdv A outer s H E).nox (defBody s_raw_back) (t_raw_back K w ) :=
  have scx := sc_raw_back
  (pss_cons (ps_expr (C8.pe_mt c_RawMachine_go_to hr (by first | decide | assumption) (pv 0) (pa_cons (C8.pe_mt c_RawMemory_pair_at hr (by first | decide | assumption) (pe_fld (pv 0) (by rfl)) (pa_cons (pe_fld (pv 0) (by rfl)) pa_nil)) pa_nil)))
    (pss_one (ps_expr (C8.pe_mt c_RawMachine_move_top hr (by first | decide | assumption) (pv 0) (pa_cons pe_int pa_nil)))))
theorem sc_raw_push : FnScope ["machine", "instruction"] ["machine", "instruction"] (defScope s_raw_push) := C8.fnScope_by (by decide +kernel)
def t_raw_push (K : PySem.W.Frag) (w : World)  : TS := (tSeq (tDrop (tMeth (He.ga K "RawMachine") "move_top" (spM K 2 (f_RawMachine_move_top K)) [] C8.E0 (tVar 0) (tCons (tUn (rU fun i => .int (-i)) (tC (.int 1))) tNil))) (tDrop (tMeth (He.ga K "RawMemory") "set_byte" (spM K 3 (f_RawMemory_set_byte K)) [] C8.E0 (tFld K (tVar 0) "memory") (tCons (tFld K (tVar 0) "top") (tCons (tOp (rIx K) (tFld K (tVar 0) "boxes") (tOp (rIx K) (tVar 1) (tC (.int 1)))) tNil)))))
theorem d_raw_push {P : Program} {w : World} {K : PySem.W.Frag} {mg : Str → Option Value} {base : Heap}  {fA : Addr} (Z : Fx K w mg) (c_RawMachine_move_top : C8.Met P w K mg base 2 (He.ga K "RawMachine") "move_top" (spM K 2 (f_RawMachine_move_top K)) []) (c_RawMemory_set_byte : C8.Met P w K mg base 2 (He.ga K "RawMemory") "set_byte" (spM K 3 (f_RawMemory_set_byte K)) []) (cdv : Value) (A : Around) (outer : List Env) (s : Shared) (H : Hp) (E : XK)
    (hr : Room 2 (A.deeper (envOfC "raw_push" (defScope s_raw_push) s.heap.objs.size fA cdv))) : PSs (cxOf C8.CX0 P w K mg base ["machine", "instruction"] "raw_push" (defScope s_raw_push) fA cdv A outer s H E).nox (defBody s_raw_push) (t_raw_push K w ) :=
  have scx := sc_raw_push
  (pss_cons (ps_expr (C8.pe_mt c_RawMachine_move_top hr (by first | decide | assumption) (pv 0) (pa_cons (pe_un un_neg pe_int) pa_nil)))
    (pss_one (ps_expr (C8.pe_mt c_RawMemory_set_byte hr (by first | decide | assumption) (pe_fld (pv 0) (by rfl)) (pa_cons (pe_fld (pv 0) (by rfl)) (pa_cons (pe_ix ix_seq (pe_fld (pv 0) (by rfl)) (pe_ix ix_seq (pv 1) pe_int fun _ _ => rfl) fun _ _ => rfl) pa_nil))))))
theorem sc_raw_pop : FnScope ["machine", "instruction"] ["machine", "instruction"] (defScope s_raw_pop) := C8.fnScope_by (by decide +kernel)
def t_raw_pop (K : PySem.W.Frag) (w : World)  : TS := (tSeq (tAsg (tMeth (He.ga K "RawMemory") "byte_at" (spM K 2 (f_RawMemory_byte_at K)) [] C8.E0 (tFld K (tVar 0) "memory") (tCons (tFld K (tVar 0) "top") tNil)) (gSub (tFld K (tVar 0) "boxes") (tOp (rIx K) (tVar 1) (tC (.int 1))) rSetL)) (tDrop (tMeth (He.ga K "RawMachine") "move_top" (spM K 2 (f_RawMachine_move_top K)) [] C8.E0 (tVar 0) (tCons (tC (.int 1)) tNil))))
theorem d_raw_pop {P : Program} {w : World} {K : PySem.W.Frag} {mg : Str → Option Value} {base : Heap}  {fA : Addr} (Z : Fx K w mg) (c_RawMachine_move_top : C8.Met P w K mg base 2 (He.ga K "RawMachine") "move_top" (spM K 2 (f_RawMachine_move_top K)) []) (c_RawMemory_byte_at : C8.Met P w K mg base 2 (He.ga K "RawMemory") "byte_at" (spM K 2 (f_RawMemory_byte_at K)) []) (cdv : Value) (A : Around) (outer : List Env) (s : Shared) (H : Hp) (E : XK)
    (hr : Room 2 (A.deeper (envOfC "raw_pop" (defScope s_raw_pop) s.heap.objs.size fA cdv))) : PSs (cxOf C8.CX0 P w K mg base ["machine", "instruction"] "raw_pop" (defScope s_raw_pop) fA cdv A outer s H E).nox (defBody s_raw_pop) (t_raw_pop K w ) :=
  have scx := sc_raw_pop
  (pss_cons (ps_asg (C8.pe_mt c_RawMemory_byte_at hr (by first | decide | assumption) (pe_fld (pv 0) (by rfl)) (pa_cons (pe_fld (pv 0) (by rfl)) pa_nil)) (pg_sub (pe_fld (pv 0) (by rfl)) (pe_ix ix_seq (pv 1) pe_int fun _ _ => rfl) set_list))
    (pss_one (ps_expr (C8.pe_mt c_RawMachine_move_top hr (by first | decide | assumption) (pv 0) (pa_cons pe_int pa_nil)))))
theorem sc_RawMachine_do : FnScope ["self", "instruction", "deed"] ["self", "instruction"] (defScope s_RawMachine_do) := C8.fnScope_by (by decide +kernel)
def t_RawMachine_do (K : PySem.W.Frag) (w : World)  : TS := (tSeq (tDrop (tMeth (He.ga K "RawMachine") "go_to" (spM K 2 (f_RawMachine_go_to K)) [] C8.E0 (tVar 0) (tCons (tOp (rI0 fun i j => .int (i + j)) (tFld K (tVar 0) "at") (tCall (spM K 1 (f_length_of K)) [] C8.E0 (tCons (tOp (rIx K) (tVar 1) (tC (.int 0))) tNil))) tNil))) (tSeq (tAsg (tOp (rIxD K w) (tC (.ref (He.ga K "RAW_DEEDS"))) (tOp (rIx K) (tVar 1) (tC (.int 0)))) (gName 2)) (tDrop (tCallR 2 (deedS K) (tCons (tVar 0) (tCons (tVar 1) tNil))))))
theorem d_RawMachine_do {P : Program} {w : World} {K : PySem.W.Frag} {mg : Str → Option Value} {base : Heap}  {fA : Addr} (Z : Fx K w mg) (c_RawMachine_go_to : C8.Met P w K mg base 2 (He.ga K "RawMachine") "go_to" (spM K 2 (f_RawMachine_go_to K)) []) (c_length_of : C8.Cal P w K mg base 1 "length_of" (spM K 1 (f_length_of K)) []) (c_deeds : ∀ f sp, deedS K f sp → Held P w K mg base 6 f sp) (cdv : Value) (A : Around) (outer : List Env) (s : Shared) (H : Hp) (E : XK)
    (hr : Room 6 (A.deeper (envOfC "RawMachine.do" (defScope s_RawMachine_do) s.heap.objs.size fA cdv))) : PSs (cxOf C8.CX0 P w K mg base ["self", "instruction", "deed"] "RawMachine.do" (defScope s_RawMachine_do) fA cdv A outer s H E).nox (defBody s_RawMachine_do) (t_RawMachine_do K w ) :=
  have scx := sc_RawMachine_do
  (pss_cons (ps_expr (C8.pe_mt c_RawMachine_go_to hr (by first | decide | assumption) (pv 0) (pa_cons (pe_op op_add (pe_fld (pv 0) (by rfl)) (C8.pe_c c_length_of hr (by first | decide | assumption) rfl (pa_cons (pe_ix ix_seq (pv 1) pe_int fun _ _ => rfl) pa_nil))) pa_nil)))
    (pss_cons (ps_set (i := 2) scx.nd rfl (by first | exact Or.inl rfl | exact Or.inr rfl) (pe_ix ix_kdict (C8.pe_gc rfl (gcR Z.g_RAW_DEEDS)) (pe_ix ix_seq (pv 1) pe_int fun _ _ => rfl) fun _ _ => rfl))
    (pss_one (ps_expr (pe_callR c_deeds (hr.mono (by decide)) rfl (by first | exact Or.inl rfl | exact Or.inr (Or.inl rfl)) (pa_cons (pv 0) (pa_cons (pv 1) pa_nil)))))))
theorem sc_RawMachine_run_on : FnScope ["self", "n", "done", "instruction"] ["self", "n"] (defScope s_RawMachine_run_on) := C8.fnScope_by (by decide +kernel)
def t_RawMachine_run_on (K : PySem.W.Frag) (w : World)  : TS := (tSeq (tAsg (tC (.int 0)) (gName 2)) (tWhile (tB (tC (.bl true))) (tSeq (tAsg (tMeth (He.ga K "RawMemory") "instruction_at" (spM K 2 (f_RawMemory_instruction_at K)) [] C8.E0 (tFld K (tVar 0) "memory") (tCons (tFld K (tVar 0) "at") tNil)) (gName 3)) (tSeq (tIfS (tAnd (tTest (tOp rNotN (tVar 3) (tC .non))) (tB (tMeth (He.ga K "RawMachine") "waits_at" (spM K 2 (f_RawMachine_waits_at K)) [] C8.E0 (tVar 0) (tCons (tOp (rIx K) (tVar 3) (tC (.int 0))) tNil)))) (tRet (tTup (tCons (tC (.str "waits")) tNil))) tNext) (tSeq (tIfS (tTest (tOp rEq (tVar 2) (tVar 1))) (tRet (tTup (tCons (tC (.str "tired")) tNil))) tNext) (tSeq (tAug 2 (tC (.int 1)) (ipI fun i j => i + j)) (tIfS (tTest (tOp rIsN (tVar 3) (tC .non))) (tDrop (tMeth (He.ga K "RawMachine") "go_to" (spM K 2 (f_RawMachine_go_to K)) [] C8.E0 (tVar 0) (tCons (tOp (rI0 fun i j => .int (i + j)) (tFld K (tVar 0) "at") (tC (.int 1))) tNil))) (tIfS (tTest (tOp rEq (tOp (rIx K) (tVar 3) (tC (.int 0))) (tC (.str "stop")))) (tRet (tTup (tCons (tC (.str "stopped")) tNil))) (tDrop (tMeth (He.ga K "RawMachine") "do" (spM K 2 (f_RawMachine_do K)) [] C8.E0 (tVar 0) (tCons (tVar 3) tNil)))))))))))
theorem d_RawMachine_run_on {P : Program} {w : World} {K : PySem.W.Frag} {mg : Str → Option Value} {base : Heap}  {fA : Addr} (Z : Fx K w mg) (c_RawMachine_do : C8.Met P w K mg base 7 (He.ga K "RawMachine") "do" (spM K 2 (f_RawMachine_do K)) []) (c_RawMachine_go_to : C8.Met P w K mg base 2 (He.ga K "RawMachine") "go_to" (spM K 2 (f_RawMachine_go_to K)) []) (c_RawMachine_waits_at : C8.Met P w K mg base 1 (He.ga K "RawMachine") "waits_at" (spM K 2 (f_RawMachine_waits_at K)) []) (c_RawMemory_instruction_at : C8.Met P w K mg base 5 (He.ga K "RawMemory") "instruction_at" (spM K 2 (f_RawMemory_instruction_at K)) []) (cdv : Value) (A : Around) (outer : List Env) (s : Shared) (H : Hp) (E : XK)
    (hr : Room 7 (A.deeper (envOfC "RawMachine.run_on" (defScope s_RawMachine_run_on) s.heap.objs.size fA cdv))) : PSs (cxOf C8.CX0 P w K mg base ["self", "n", "done", "instruction"] "RawMachine.run_on" (defScope s_RawMachine_run_on) fA cdv A outer s H E).nox (defBody s_RawMachine_run_on) (t_RawMachine_run_on K w ) :=
  have scx := sc_RawMachine_run_on
  (pss_cons (ps_set (i := 2) scx.nd rfl (by first | exact Or.inl rfl | exact Or.inr rfl) pe_int)
    (pss_one (ps_while PassesOwn.never (pt_val pe_bl) (pss_cons (ps_set (i := 3) scx.nd rfl (by first | exact Or.inl rfl | exact Or.inr rfl) (C8.pe_mt c_RawMemory_instruction_at hr (by first | decide | assumption) (pe_fld (pv 0) (by rfl)) (pa_cons (pe_fld (pv 0) (by rfl)) pa_nil)))
    (pss_cons (ps_if (PW.pt (pw_and (pt_cmpR op_notN (pv 3) pe_non (nomark _)) (pw_and1 (pt_val (C8.pe_mt c_RawMachine_waits_at hr (by first | decide | assumption) (pv 0) (pa_cons (pe_ix ix_seq (pv 3) pe_int fun _ _ => rfl) pa_nil)))))) (pss_one (ps_ret (pe_tup (pa_cons pe_str pa_nil)))) pss_nil)
    (pss_cons (ps_if (pt_cmpR op_eq (pv 2) (pv 1) (nomark _)) (pss_one (ps_ret (pe_tup (pa_cons pe_str pa_nil)))) pss_nil)
    (pss_cons (ps_aug scx.nd rfl (by first | exact Or.inl rfl | exact Or.inr rfl) pe_int ip_add)
    (pss_one (ps_if (pt_cmpR op_isN (pv 3) pe_non (nomark _)) (pss_one (ps_expr (C8.pe_mt c_RawMachine_go_to hr (by first | decide | assumption) (pv 0) (pa_cons (pe_op op_add (pe_fld (pv 0) (by rfl)) pe_int) pa_nil)))) (pss_one (ps_if (pt_cmpR op_eq (pe_ix ix_seq (pv 3) pe_int fun _ _ => rfl) pe_str (nomark _)) (pss_one (ps_ret (pe_tup (pa_cons pe_str pa_nil)))) (pss_one (ps_expr (C8.pe_mt c_RawMachine_do hr (by first | decide | assumption) (pv 0) (pa_cons (pv 3) pa_nil)))))))))))))))
theorem sc_ran : FnScope ["state", "answers", "n", "machine", "end"] ["state", "answers", "n"] (defScope s_ran) := C8.fnScope_by (by decide +kernel)
def t_ran (K : PySem.W.Frag) (w : World)  : TS := (tSeq (tAsg (tMake (He.ga K "RawMachine") (spM K 3 (f_RawMachine_init K)) [] C8.E0 (tCons (tVar 0) (tCons (tVar 1) tNil))) (gName 3)) (tSeq (tAsg (tMeth (He.ga K "RawMachine") "run_on" (spM K 2 (f_RawMachine_run_on K)) [] C8.E0 (tVar 3) (tCons (tVar 2) tNil)) (gName 4)) (tRet (tTup (tCons (tMeth (He.ga K "Outside") "events" (spM K 1 (f_Outside_events K)) [] C8.E0 (tFld K (tVar 3) "outside") tNil) (tCons (tVar 4) (tCons (tMeth (He.ga K "RawMachine") "whole_state" (spM K 1 (f_RawMachine_whole_state K)) [] C8.E0 (tVar 3) tNil) tNil)))))))
theorem d_ran {P : Program} {w : World} {K : PySem.W.Frag} {mg : Str → Option Value} {base : Heap}  {fA : Addr} (Z : Fx K w mg) (c_Outside_events : C8.Met P w K mg base 1 (He.ga K "Outside") "events" (spM K 1 (f_Outside_events K)) []) (c_RawMachine_init : C8.Mak P w K mg base 3 "RawMachine" (He.ga K "RawMachine") (spM K 3 (f_RawMachine_init K)) []) (c_RawMachine_run_on : C8.Met P w K mg base 8 (He.ga K "RawMachine") "run_on" (spM K 2 (f_RawMachine_run_on K)) []) (c_RawMachine_whole_state : C8.Met P w K mg base 2 (He.ga K "RawMachine") "whole_state" (spM K 1 (f_RawMachine_whole_state K)) []) (cdv : Value) (A : Around) (outer : List Env) (s : Shared) (H : Hp) (E : XK)
    (hr : Room 8 (A.deeper (envOfC "ran" (defScope s_ran) s.heap.objs.size fA cdv))) : PSs (cxOf C8.CX0 P w K mg base ["state", "answers", "n", "machine", "end"] "ran" (defScope s_ran) fA cdv A outer s H E).nox (defBody s_ran) (t_ran K w ) :=
  have scx := sc_ran
  (pss_cons (ps_set (i := 3) scx.nd rfl (by first | exact Or.inl rfl | exact Or.inr rfl) (C8.pe_mk c_RawMachine_init hr (by first | decide | assumption) rfl (pa_cons (pv 0) (pa_cons (pv 1) pa_nil))))
    (pss_cons (ps_set (i := 4) scx.nd rfl (by first | exact Or.inl rfl | exact Or.inr rfl) (C8.pe_mt c_RawMachine_run_on hr (by first | decide | assumption) (pv 3) (pa_cons (pv 2) pa_nil)))
    (pss_one (ps_ret (pe_tup (pa_cons (C8.pe_mt0 c_Outside_events hr (by first | decide | assumption) (pe_fld (pv 3) (by rfl))) (pa_cons (pv 4) (pa_cons (C8.pe_mt0 c_RawMachine_whole_state hr (by first | decide | assumption) (pv 3)) pa_nil))))))))
theorem sc_machine_run : FnScope ["state", "answers", "n"] ["state", "answers", "n"] (defScope s_machine_run) := C8.fnScope_by (by decide +kernel)
def t_machine_run (K : PySem.W.Frag) (w : World)  : TS := (tSeq (tIfS (tNot (tB (tCall (spM K 1 (f_is_machine_state K)) [] C8.E0 (tCons (tVar 0) tNil)))) tNever tNext) (tSeq (tIfS (tNot (tB (tCall (spM K 1 (f_are_machine_answers K)) [] C8.E0 (tCons (tVar 1) tNil)))) tNever tNext) (tSeq (tIfS (tNot (tB (tCall (spM K 1 (f_is_number K)) [] C8.E0 (tCons (tVar 2) tNil)))) tNever tNext) (tRet (tCall (spM K 3 (f_ran K)) [] C8.E0 (tCons (tVar 0) (tCons (tVar 1) (tCons (tVar 2) tNil))))))))
theorem d_machine_run {P : Program} {w : World} {K : PySem.W.Frag} {mg : Str → Option Value} {base : Heap}  {fA : Addr} (Z : Fx K w mg) (c_are_machine_answers : C8.Cal P w K mg base 5 "are_machine_answers" (spM K 1 (f_are_machine_answers K)) []) (c_is_machine_state : C8.Cal P w K mg base 5 "is_machine_state" (spM K 1 (f_is_machine_state K)) []) (c_is_number : C8.Cal P w K mg base 2 "is_number" (spM K 1 (f_is_number K)) []) (c_ran : C8.Cal P w K mg base 9 "ran" (spM K 3 (f_ran K)) []) (cdv : Value) (A : Around) (outer : List Env) (s : Shared) (H : Hp) (E : XK)
    (hr : Room 9 (A.deeper (envOfC "machine_run" (defScope s_machine_run) s.heap.objs.size fA cdv))) : PSs (cxOf C8.CX0 P w K mg base ["state", "answers", "n"] "machine_run" (defScope s_machine_run) fA cdv A outer s H E).nox (defBody s_machine_run) (t_machine_run K w ) :=
  have scx := sc_machine_run
  (pss_cons (ps_if (pt_not (pt_val (C8.pe_c c_is_machine_state hr (by first | decide | assumption) rfl (pa_cons (pv 0) pa_nil)))) (pss_one ps_never) pss_nil)
    (pss_cons (ps_if (pt_not (pt_val (C8.pe_c c_are_machine_answers hr (by first | decide | assumption) rfl (pa_cons (pv 1) pa_nil)))) (pss_one ps_never) pss_nil)
    (pss_cons (ps_if (pt_not (pt_val (C8.pe_c c_is_number hr (by first | decide | assumption) rfl (pa_cons (pv 2) pa_nil)))) (pss_one ps_never) pss_nil)
    (pss_one (ps_ret (C8.pe_c c_ran hr (by first | decide | assumption) rfl (pa_cons (pv 0) (pa_cons (pv 1) (pa_cons (pv 2) pa_nil)))))))))
theorem sc__law_jar : FnScope ["script", "cell"] ["script"] (defScope s__law_jar) := C8.fnScope_by (by decide +kernel)
def t__law_jar (K : PySem.W.Frag) (w : World)  : TS := (tRet (tLst (tCons (tOp rCat (tSl (rSlL K) (tLc (iList K (tVar 0)) (gName 1) tYes (tCB rIn1 (tCons (tVar 1) tNil)) [1]) tNoPart (tPart (tC (.int 63)))) (tOp rRep (tLst (tCons (tC (.int 5)) tNil)) (tCB rIn1 (tCons (tOp rEq (tCB (rLn K) (tCons (tVar 0) tNil)) (tC (.int 0))) tNil)))) (tCons (tC (.int 0)) (tCons (tC (.int 0)) (tCons (tC (.int 0)) tNil))))))
theorem d__law_jar {P : Program} {w : World} {K : PySem.W.Frag} {mg : Str → Option Value} {base : Heap}  {fA : Addr} (Z : Fx K w mg)  (cdv : Value) (A : Around) (outer : List Env) (s : Shared) (H : Hp) (E : XK)
    (hr : Room 0 (A.deeper (envOfC "_law_jar" (defScope s__law_jar) s.heap.objs.size fA cdv))) : PSs (cxOf C8.CX0 P w K mg base ["script", "cell"] "_law_jar" (defScope s__law_jar) fA cdv A outer s H E).nox (defBody s__law_jar) (t__law_jar K w ) :=
  have scx := sc__law_jar
  (pss_one (ps_ret (pe_lst (pa_cons (pe_op op_cat (pe_slice sl_list (pe_lc (own := [("cell", 1)]) rfl scx.nd (pi_list (pv 0)) (by refine blkOk_by (N := ["script", "cell"]) (sc := defScope s__law_jar) ?_; decide +kernel) (fun _ _ _ _ _ => (pg_name (i := 1) scx.nd rfl (by first | exact Or.inl rfl | exact Or.inr rfl))) (fun _ _ _ _ _ => pts_nil) (fun _ _ _ _ _ => (pe_callTy c_int rfl Z.f_int rfl (pa_cons (pv 1) pa_nil)))) po_none (po_some pe_int)) (pe_op op_rep (pe_lst (pa_cons pe_int pa_nil)) (pe_callTy c_int rfl Z.f_int rfl (pa_cons (pe_cmpR op_eq (pe_callB c_len rfl Z.f_len boot_len (pa_cons (pv 0) pa_nil)) pe_int (nomark _)) pa_nil)))) (pa_cons pe_int (pa_cons pe_int (pa_cons pe_int pa_nil)))))))
theorem sc__law_draw : FnScope ["jar", "limit", "digit", "cell", "mixed"] ["jar", "limit"] (defScope s__law_draw) := C8.fnScope_by (by decide +kernel)
def t__law_draw (K : PySem.W.Frag) (w : World)  : TS := (tSeq (tAsg (tOp (rI0 fun i j => .int (i + j)) (tOp (rIx K) (tVar 0) (tC (.int 3))) (tC (.int 1))) (gSub (tVar 0) (tC (.int 3)) rSetL)) (tSeq (tIfS (tAnd (tTest (tOp rEq (tOp (rIx K) (tVar 0) (tC (.int 2))) (tC (.int 0)))) (tTest (tOp (rI0 fun i j => .bl (decide (i < j))) (tOp (rIx K) (tVar 0) (tC (.int 1))) (tCB (rLn K) (tCons (tOp (rIx K) (tVar 0) (tC (.int 0))) tNil))))) (tSeq (tAsg (tIf (tTest (tOp (rI0 fun i j => .bl (decide (j ≤ i))) (tOp (rIx K) (tOp (rIx K) (tVar 0) (tC (.int 0))) (tOp (rIx K) (tVar 0) (tC (.int 1)))) (tOp (rI CPow fun i j => .int (i ^ j.toNat)) (tC (.int 10)) (tC (.int 12))))) (tOp (rIx K) (tOp (rIx K) (tVar 0) (tC (.int 0))) (tOp (rIx K) (tVar 0) (tC (.int 1)))) (tC (.int 0))) (gSub (tVar 0) (tC (.int 2)) rSetL)) (tAsg (tOp (rI0 fun i j => .int (i + j)) (tOp (rIx K) (tVar 0) (tC (.int 1))) (tC (.int 1))) (gSub (tVar 0) (tC (.int 1)) rSetL))) tNext) (tSeq (tIfS (tTest (tOp (rI0 fun i j => .bl (decide (j < i))) (tOp (rIx K) (tVar 0) (tC (.int 2))) (tC (.int 0)))) (tSeq (tAsg (tOp (rI (fun _ j => 0 < j) fun i j => .int (i % j)) (tCB rIn1 (tCons (tOp (rIx K) (tVar 0) (tC (.int 2))) tNil)) (tVar 1)) (gName 2)) (tSeq (tAsg (tOp (rI CDiv fun i j => .int (i / j)) (tOp (rIx K) (tVar 0) (tC (.int 2))) (tVar 1)) (gSub (tVar 0) (tC (.int 2)) rSetL)) (tRet (tVar 2)))) tNext) (tSeq (tAsg (tOp (rIx K) (tOp (rIx K) (tVar 0) (tC (.int 0))) (tOp (rI (fun _ j => 0 < j) fun i j => .int (i % j)) (tCB rIn1 (tCons (tOp (rIx K) (tVar 0) (tC (.int 3))) tNil)) (tCB (rLn K) (tCons (tOp (rIx K) (tVar 0) (tC (.int 0))) tNil)))) (gName 3)) (tSeq (tAsg (tOp (rI (fun _ j => 0 < j) fun i j => .int (i % j)) (tCB rIn1 (tCons (tOp (rI0 fun i j => .int (i + j)) (tOp (rI0 fun i j => .int (i + j)) (tOp (rI CMul fun i j => .int (i * j)) (tVar 3) (tC (.int 69069))) (tOp (rI CMul fun i j => .int (i * j)) (tOp (rIx K) (tVar 0) (tC (.int 3))) (tC (.int 40503)))) (tC (.int 11))) tNil)) (tC (.int 1000000007))) (gName 4)) (tSeq (tAsg (tOp (rI (fun _ j => 0 < j) fun i j => .int (i % j)) (tCB rIn1 (tCons (tOp (rI0 fun i j => .int (i + j)) (tOp (rI0 fun i j => .int (i + j)) (tOp (rI CMul fun i j => .int (i * j)) (tVar 4) (tVar 4)) (tOp (rI CMul fun i j => .int (i * j)) (tOp (rIx K) (tVar 0) (tC (.int 3))) (tC (.int 7919)))) (tVar 3)) tNil)) (tC (.int 998244353))) (gName 4)) (tRet (tOp (rI (fun _ j => 0 < j) fun i j => .int (i % j)) (tCB rIn1 (tCons (tOp (rI CDiv fun i j => .int (i / j)) (tVar 4) (tC (.int 16))) tNil)) (tVar 1)))))))))
theorem d__law_draw {P : Program} {w : World} {K : PySem.W.Frag} {mg : Str → Option Value} {base : Heap}  {fA : Addr} (Z : Fx K w mg)  (cdv : Value) (A : Around) (outer : List Env) (s : Shared) (H : Hp) (E : XK)
    (hr : Room 0 (A.deeper (envOfC "_law_draw" (defScope s__law_draw) s.heap.objs.size fA cdv))) : PSs (cxOf C8.CX0 P w K mg base ["jar", "limit", "digit", "cell", "mixed"] "_law_draw" (defScope s__law_draw) fA cdv A outer s H E).nox (defBody s__law_draw) (t__law_draw K w ) :=
  have scx := sc__law_draw
  (pss_cons (ps_asg (pe_op op_add (pe_ix ix_seq (pv 0) pe_int fun _ _ => rfl) pe_int) (pg_sub (pv 0) pe_int set_list))
    (pss_cons (ps_if (PW.pt (pw_and (pt_cmpR op_eq (pe_ix ix_seq (pv 0) pe_int fun _ _ => rfl) pe_int (nomark _)) (pw_and1 (pt_cmpR op_lt (pe_ix ix_seq (pv 0) pe_int fun _ _ => rfl) (pe_callB c_len rfl Z.f_len boot_len (pa_cons (pe_ix ix_seq (pv 0) pe_int fun _ _ => rfl) pa_nil)) (nomark _))))) (pss_cons (ps_asg (pe_ifExp (pt_cmpR op_ge (pe_ix ix_seq (pe_ix ix_seq (pv 0) pe_int fun _ _ => rfl) (pe_ix ix_seq (pv 0) pe_int fun _ _ => rfl) fun _ _ => rfl) (pe_op op_pow pe_int pe_int) (nomark _)) (pe_ix ix_seq (pe_ix ix_seq (pv 0) pe_int fun _ _ => rfl) (pe_ix ix_seq (pv 0) pe_int fun _ _ => rfl) fun _ _ => rfl) pe_int) (pg_sub (pv 0) pe_int set_list))
    (pss_one (ps_asg (pe_op op_add (pe_ix ix_seq (pv 0) pe_int fun _ _ => rfl) pe_int) (pg_sub (pv 0) pe_int set_list)))) pss_nil)
    (pss_cons (ps_if (pt_cmpR op_gt (pe_ix ix_seq (pv 0) pe_int fun _ _ => rfl) pe_int (nomark _)) (pss_cons (ps_set (i := 2) scx.nd rfl (by first | exact Or.inl rfl | exact Or.inr rfl) (pe_op op_mod (pe_callTy c_int rfl Z.f_int rfl (pa_cons (pe_ix ix_seq (pv 0) pe_int fun _ _ => rfl) pa_nil)) (pv 1)))
    (pss_cons (ps_asg (pe_op op_fdiv (pe_ix ix_seq (pv 0) pe_int fun _ _ => rfl) (pv 1)) (pg_sub (pv 0) pe_int set_list))
    (pss_one (ps_ret (pv 2))))) pss_nil)
    (pss_cons (ps_set (i := 3) scx.nd rfl (by first | exact Or.inl rfl | exact Or.inr rfl) (pe_ix ix_seq (pe_ix ix_seq (pv 0) pe_int fun _ _ => rfl) (pe_op op_mod (pe_callTy c_int rfl Z.f_int rfl (pa_cons (pe_ix ix_seq (pv 0) pe_int fun _ _ => rfl) pa_nil)) (pe_callB c_len rfl Z.f_len boot_len (pa_cons (pe_ix ix_seq (pv 0) pe_int fun _ _ => rfl) pa_nil))) fun _ _ => rfl))
    (pss_cons (ps_set (i := 4) scx.nd rfl (by first | exact Or.inl rfl | exact Or.inr rfl) (pe_op op_mod (pe_callTy c_int rfl Z.f_int rfl (pa_cons (pe_op op_add (pe_op op_add (pe_op op_mul (pv 3) pe_int) (pe_op op_mul (pe_ix ix_seq (pv 0) pe_int fun _ _ => rfl) pe_int)) pe_int) pa_nil)) pe_int))
    (pss_cons (ps_set (i := 4) scx.nd rfl (by first | exact Or.inl rfl | exact Or.inr rfl) (pe_op op_mod (pe_callTy c_int rfl Z.f_int rfl (pa_cons (pe_op op_add (pe_op op_add (pe_op op_mul (pv 4) (pv 4)) (pe_op op_mul (pe_ix ix_seq (pv 0) pe_int fun _ _ => rfl) pe_int)) (pv 3)) pa_nil)) pe_int))
    (pss_one (ps_ret (pe_op op_mod (pe_callTy c_int rfl Z.f_int rfl (pa_cons (pe_op op_fdiv (pv 4) pe_int) pa_nil)) (pv 1))))))))))
theorem sc__law_same : FnScope ["came", "due", "good", "k"] ["came", "due"] (defScope s__law_same) := C8.fnScope_by (by decide +kernel)
def t__law_same (K : PySem.W.Frag) (w : World) (m : Nat) : TS := (tSeq (tIfS (tB (tCB (rIsi K) (tCons (tVar 1) (tCons (tC (.ty "tuple")) tNil)))) (tSeq (tAsg (tAndV (tCB (rIsi K) (tCons (tVar 0) (tCons (tC (.ty "tuple")) tNil))) (tOp rEq (tCB (rLn K) (tCons (tVar 0) tNil)) (tCB (rLn K) (tCons (tVar 1) tNil)))) (gName 2)) (tRet (tAndV (tVar 2) (tOp (rIn K true) (tC (.bl false)) (tLc (iRng1 (tCons (tCB (rLn K) (tCons (tVar 1) tNil)) tNil)) (gName 3) tYes (tCall (spM K 2 (f__law_same K m)) [] C8.E0 (tCons (tOp (rIx K) (tVar 0) (tVar 3)) (tCons (tOp (rIx K) (tVar 1) (tVar 3)) tNil))) [3]))))) tNext) (tSeq (tIfS (tOr (tTest (tOp rIsN (tVar 1) (tC .non))) (tTest (tOp rIsN (tVar 0) (tC .non)))) (tRet (tAndV (tOp rIsN (tVar 1) (tC .non)) (tOp rIsN (tVar 0) (tC .non)))) tNext) (tSeq (tIfS (tOr (tTest (tOp rNe (tCB (rIsi K) (tCons (tVar 0) (tCons (tC (.ty "bool")) tNil))) (tCB (rIsi K) (tCons (tVar 1) (tCons (tC (.ty "bool")) tNil))))) (tTest (tOp rNe (tCB (rIsi K) (tCons (tVar 0) (tCons (tC (.ty "int")) tNil))) (tCB (rIsi K) (tCons (tVar 1) (tCons (tC (.ty "int")) tNil)))))) (tRet (tC (.bl false))) tNext) (tRet (tAndV (tOp rEq (tCB (rIsi K) (tCons (tVar 0) (tCons (tC (.ty "str")) tNil))) (tCB (rIsi K) (tCons (tVar 1) (tCons (tC (.ty "str")) tNil)))) (tOp rEq (tVar 0) (tVar 1)))))))
theorem d__law_same {lv kk : Nat} {P : Program} {w : World} {K : PySem.W.Frag} {mg : Str → Option Value} {base : Heap} (m : Nat) {fA : Addr} (Z : Fx K w mg) (c__law_same : C8.Cal P w K mg base kk "_law_same" (spM K 2 (f__law_same K m)) []) (hkk : kk ≤ lv) (cdv : Value) (A : Around) (outer : List Env) (s : Shared) (H : Hp) (E : XK)
    (hr : Room lv (A.deeper (envOfC "_law_same" (defScope s__law_same) s.heap.objs.size fA cdv))) : PSs (cxOf C8.CX0 P w K mg base ["came", "due", "good", "k"] "_law_same" (defScope s__law_same) fA cdv A outer s H E).nox (defBody s__law_same) (t__law_same K w m) :=
  have scx := sc__law_same
  (pss_cons (ps_if (pt_val (pe_callB call_isi rfl Z.f_isinstance rfl (pa_cons (pv 1) (pa_cons (pe_bltn (v := .ty "tuple") (u := .type "tuple") rfl Z.f_tuple rfl rfl) pa_nil)))) (pss_cons (ps_set (i := 2) scx.nd rfl (by first | exact Or.inl rfl | exact Or.inr rfl) (pe_and (pe_callB call_isi rfl Z.f_isinstance rfl (pa_cons (pv 0) (pa_cons (pe_bltn (v := .ty "tuple") (u := .type "tuple") rfl Z.f_tuple rfl rfl) pa_nil))) (pe_one (pe_cmpR op_eq (pe_callB c_len rfl Z.f_len boot_len (pa_cons (pv 0) pa_nil)) (pe_callB c_len rfl Z.f_len boot_len (pa_cons (pv 1) pa_nil)) (nomark _)))))
    (pss_one (ps_ret (pe_and (pv 2) (pe_one (pe_cmpR op_notIn_seq pe_bl (pe_lc (own := [("k", 3)]) rfl scx.nd (pi_range1 rfl Z.f_range (pa_cons (pe_callB c_len rfl Z.f_len boot_len (pa_cons (pv 1) pa_nil)) pa_nil)) (by refine blkOk_by (N := ["came", "due", "good", "k"]) (sc := defScope s__law_same) ?_; decide +kernel) (fun _ _ _ _ _ => (pg_name (i := 3) scx.nd rfl (by first | exact Or.inl rfl | exact Or.inr rfl))) (fun _ _ _ _ _ => pts_nil) (fun _ _ _ _ _ => (C8.pe_c c__law_same hr (by first | decide | assumption) rfl (pa_cons (pe_ix ix_seq (pv 0) (pv 3) fun _ _ => rfl) (pa_cons (pe_ix ix_seq (pv 1) (pv 3) fun _ _ => rfl) pa_nil))))) (by rfl))))))) pss_nil)
    (pss_cons (ps_if (PW.pt (pw_or (pt_cmpR op_isN (pv 1) pe_non (nomark _)) (pw_or1 (pt_cmpR op_isN (pv 0) pe_non (nomark _))))) (pss_one (ps_ret (pe_and (pe_cmpR op_isN (pv 1) pe_non (nomark _)) (pe_one (pe_cmpR op_isN (pv 0) pe_non (nomark _)))))) pss_nil)
    (pss_cons (ps_if (PW.pt (pw_or (pt_cmpR op_ne (pe_callB call_isi rfl Z.f_isinstance rfl (pa_cons (pv 0) (pa_cons (pe_bltn (v := .ty "bool") (u := .type "bool") rfl Z.f_bool rfl rfl) pa_nil))) (pe_callB call_isi rfl Z.f_isinstance rfl (pa_cons (pv 1) (pa_cons (pe_bltn (v := .ty "bool") (u := .type "bool") rfl Z.f_bool rfl rfl) pa_nil))) (nomark _)) (pw_or1 (pt_cmpR op_ne (pe_callB call_isi rfl Z.f_isinstance rfl (pa_cons (pv 0) (pa_cons (pe_bltn (v := .ty "int") (u := .type "int") rfl Z.f_int rfl rfl) pa_nil))) (pe_callB call_isi rfl Z.f_isinstance rfl (pa_cons (pv 1) (pa_cons (pe_bltn (v := .ty "int") (u := .type "int") rfl Z.f_int rfl rfl) pa_nil))) (nomark _))))) (pss_one (ps_ret pe_bl)) pss_nil)
    (pss_one (ps_ret (pe_and (pe_cmpR op_eq (pe_callB call_isi rfl Z.f_isinstance rfl (pa_cons (pv 0) (pa_cons (pe_bltn (v := .ty "str") (u := .type "str") rfl Z.f_str rfl rfl) pa_nil))) (pe_callB call_isi rfl Z.f_isinstance rfl (pa_cons (pv 1) (pa_cons (pe_bltn (v := .ty "str") (u := .type "str") rfl Z.f_str rfl rfl) pa_nil))) (nomark _)) (pe_one (pe_cmpR op_eq (pv 0) (pv 1) (nomark _)))))))))
theorem sc__law_bytes : FnScope ["came", "due", "one"] ["came", "due"] (defScope s__law_bytes) := C8.fnScope_by (by decide +kernel)
def t__law_bytes (K : PySem.W.Frag) (w : World)  : TS := (tSeq (tIfS (tOr (tNot (tB (tCB (rIsi K) (tCons (tVar 0) (tCons (tC (.ty "tuple")) tNil))))) (tTest (tOp (rIn K false) (tC (.bl false)) (tLc (iTup K (tVar 0)) (gName 2) tYes (tAndV (tCB (rIsi K) (tCons (tVar 2) (tCons (tC (.ty "int")) tNil))) (tNotV (tCB (rIsi K) (tCons (tVar 2) (tCons (tC (.ty "bool")) tNil))))) [2])))) (tRet (tC (.bl false))) tNext) (tRet (tOp (rEqD K) (tVar 0) (tCB (rTp K) (tCons (tVar 1) tNil)))))
theorem d__law_bytes {P : Program} {w : World} {K : PySem.W.Frag} {mg : Str → Option Value} {base : Heap}  {fA : Addr} (Z : Fx K w mg)  (cdv : Value) (A : Around) (outer : List Env) (s : Shared) (H : Hp) (E : XK)
    (hr : Room 0 (A.deeper (envOfC "_law_bytes" (defScope s__law_bytes) s.heap.objs.size fA cdv))) : PSs (cxOf C8.CX0 P w K mg base ["came", "due", "one"] "_law_bytes" (defScope s__law_bytes) fA cdv A outer s H E).nox (defBody s__law_bytes) (t__law_bytes K w ) :=
  have scx := sc__law_bytes
  (pss_cons (ps_if (PW.pt (pw_or (pt_not (pt_val (pe_callB call_isi rfl Z.f_isinstance rfl (pa_cons (pv 0) (pa_cons (pe_bltn (v := .ty "tuple") (u := .type "tuple") rfl Z.f_tuple rfl rfl) pa_nil))))) (pw_or1 (pt_cmpR op_in_seq pe_bl (pe_lc (own := [("one", 2)]) rfl scx.nd (pi_tup (pv 0)) (by refine blkOk_by (N := ["came", "due", "one"]) (sc := defScope s__law_bytes) ?_; decide +kernel) (fun _ _ _ _ _ => (pg_name (i := 2) scx.nd rfl (by first | exact Or.inl rfl | exact Or.inr rfl))) (fun _ _ _ _ _ => pts_nil) (fun _ _ _ _ _ => (pe_and (pe_callB call_isi rfl Z.f_isinstance rfl (pa_cons (pv 2) (pa_cons (pe_bltn (v := .ty "int") (u := .type "int") rfl Z.f_int rfl rfl) pa_nil))) (pe_one (pe_not (pe_callB call_isi rfl Z.f_isinstance rfl (pa_cons (pv 2) (pa_cons (pe_bltn (v := .ty "bool") (u := .type "bool") rfl Z.f_bool rfl rfl) pa_nil)))))))) (by rfl))))) (pss_one (ps_ret pe_bl)) pss_nil)
    (pss_one (ps_ret (pe_cmpR (op_eqD hr.units) (pv 0) (pe_callTy c_tuple rfl Z.f_tuple rfl (pa_cons (pv 1) pa_nil)) (nomark _)))))
theorem sc__law_coded : FnScope ["one", "words", "shape", "told", "k"] ["one"] (defScope s__law_coded) := C8.fnScope_by (by decide +kernel)
def t__law_coded (K : PySem.W.Frag) (w : World)  : TS := (tSeq (tAsg (tM1 rSplit (tC (.str "set copy add sub mul low ask tell get put less same jump call back push pop out stop")) (tC (.str " "))) (gName 1)) (tSeq (tAsg (tOp (rIx K) (tM1 rSplit (tC (.str "rn rr rrr rrr rrr rn r r rAr Arr rrA rrA A A - r r A -")) (tC (.str " "))) (tBM K "list" (rIndex K) (tVar 1) (tCons (tOp (rIx K) (tVar 0) (tC (.int 0))) tNil))) (gName 2)) (tSeq (tAsg (tLst (tCons (tOp (rI0 fun i j => .int (i + j)) (tBM K "list" (rIndex K) (tVar 1) (tCons (tOp (rIx K) (tVar 0) (tC (.int 0))) tNil)) (tC (.int 1))) tNil)) (gName 3)) (tSeq (tFor (iRng1 (tCons (tOp (rI0 fun i j => .int (i - j)) (tCB (rLn K) (tCons (tVar 0) tNil)) (tC (.int 1))) tNil)) (gName 4) (tDrop (tBM K "list" rExtend (tVar 3) (tCons (tSl (rSlL K) (tLst (tCons (tOp (rI CDiv fun i j => .int (i / j)) (tOp (rIx K) (tVar 0) (tOp (rI0 fun i j => .int (i + j)) (tVar 4) (tC (.int 1)))) (tC (.int 256))) (tCons (tOp (rI (fun _ j => 0 < j) fun i j => .int (i % j)) (tCB rIn1 (tCons (tOp (rIx K) (tVar 0) (tOp (rI0 fun i j => .int (i + j)) (tVar 4) (tC (.int 1)))) tNil)) (tC (.int 256))) tNil))) (tPart (tCB rIn1 (tCons (tOp rNe (tOp (rIx K) (tVar 2) (tVar 4)) (tC (.str "A"))) tNil))) tNoPart) tNil)))) (tRet (tVar 3))))))
theorem d__law_coded {P : Program} {w : World} {K : PySem.W.Frag} {mg : Str → Option Value} {base : Heap}  {fA : Addr} (Z : Fx K w mg)  (cdv : Value) (A : Around) (outer : List Env) (s : Shared) (H : Hp) (E : XK)
    (hr : Room 0 (A.deeper (envOfC "_law_coded" (defScope s__law_coded) s.heap.objs.size fA cdv))) : PSs (cxOf C8.CX0 P w K mg base ["one", "words", "shape", "told", "k"] "_law_coded" (defScope s__law_coded) fA cdv A outer s H E).nox (defBody s__law_coded) (t__law_coded K w ) :=
  have scx := sc__law_coded
  (pss_cons (ps_set (i := 1) scx.nd rfl (by first | exact Or.inl rfl | exact Or.inr rfl) (p_split pe_str pe_str))
    (pss_cons (ps_set (i := 2) scx.nd rfl (by first | exact Or.inl rfl | exact Or.inr rfl) (pe_ix ix_seq (p_split pe_str pe_str) (pe_bm F.plainAttrs_list F.slot_list_index F.type_list_index mt_index (pv 1) (pa_cons (pe_ix ix_seq (pv 0) pe_int fun _ _ => rfl) pa_nil)) fun _ _ => rfl))
    (pss_cons (ps_set (i := 3) scx.nd rfl (by first | exact Or.inl rfl | exact Or.inr rfl) (pe_lst (pa_cons (pe_op op_add (pe_bm F.plainAttrs_list F.slot_list_index F.type_list_index mt_index (pv 1) (pa_cons (pe_ix ix_seq (pv 0) pe_int fun _ _ => rfl) pa_nil)) pe_int) pa_nil)))
    (pss_cons (ps_for PassesOwn.never rfl (pi_range1 rfl Z.f_range (pa_cons (pe_op op_sub (pe_callB c_len rfl Z.f_len boot_len (pa_cons (pv 0) pa_nil)) pe_int) pa_nil)) (pg_name (i := 4) scx.nd rfl (by first | exact Or.inl rfl | exact Or.inr rfl)) (pss_one (ps_expr (pe_bm F.plainAttrs_list F.slot_list_extend F.type_list_extend mt_extend (pv 3) (pa_cons (pe_slice sl_list (pe_lst (pa_cons (pe_op op_fdiv (pe_ix ix_seq (pv 0) (pe_op op_add (pv 4) pe_int) fun _ _ => rfl) pe_int) (pa_cons (pe_op op_mod (pe_callTy c_int rfl Z.f_int rfl (pa_cons (pe_ix ix_seq (pv 0) (pe_op op_add (pv 4) pe_int) fun _ _ => rfl) pa_nil)) pe_int) pa_nil))) (po_some (pe_callTy c_int rfl Z.f_int rfl (pa_cons (pe_cmpR op_ne (pe_ix ix_seq (pv 2) (pv 4) fun _ _ => rfl) pe_str (nomark _)) pa_nil))) po_none) pa_nil)))))
    (pss_one (ps_ret (pv 3)))))))
theorem sc__law_lines : FnScope ["form", "a", "b", "loop", "part", "word", "rows"] ["form", "a", "b", "loop", "part"] (defScope s__law_lines) := C8.fnScope_by (by decide +kernel)
def t__law_lines (K : PySem.W.Frag) (w : World)  : TS := (tSeq (tAsg (tOp (rIx K) (tLst (tCons (tC (.str "add")) (tCons (tC (.str "sub")) (tCons (tC (.str "mul")) tNil)))) (tVar 0)) (gName 5)) (tSeq (tAsg (tLst (tCons (tTup (tCons (tC (.str "set")) (tCons (tC (.int 0)) (tCons (tVar 1) tNil)))) (tCons (tTup (tCons (tC (.str "set")) (tCons (tC (.int 1)) (tCons (tVar 2) tNil)))) (tCons (tTup (tCons (tC (.str "set")) (tCons (tC (.int 2)) (tCons (tCB rIn1 (tCons (tOp rEq (tVar 0) (tC (.int 2))) tNil)) tNil)))) (tCons (tTup (tCons (tC (.str "set")) (tCons (tC (.int 3)) (tCons (tC (.int 1)) tNil)))) (tCons (tTup (tCons (tC (.str "set")) (tCons (tC (.int 7)) (tCons (tC (.int 0)) tNil)))) tNil)))))) (gName 6)) (tSeq (tDrop (tBM K "list" rExtend (tVar 6) (tCons (tLst (tCons (tTup (tCons (tC (.str "call")) (tCons (tVar 4) tNil))) (tCons (tTup (tCons (tC (.str "sub")) (tCons (tC (.int 1)) (tCons (tC (.int 1)) (tCons (tC (.int 3)) tNil))))) (tCons (tTup (tCons (tC (.str "less")) (tCons (tC (.int 7)) (tCons (tC (.int 1)) (tCons (tVar 3) tNil))))) (tCons (tTup (tCons (tC (.str "tell")) (tCons (tC (.int 2)) tNil))) (tCons (tTup (tCons (tC (.str "stop")) tNil)) tNil)))))) tNil))) (tRet (tOp rCat (tVar 6) (tLst (tCons (tTup (tCons (tC (.str "push")) (tCons (tC (.int 0)) tNil))) (tCons (tTup (tCons (tVar 5) (tCons (tC (.int 2)) (tCons (tC (.int 2)) (tCons (tC (.int 0)) tNil))))) (tCons (tTup (tCons (tC (.str "pop")) (tCons (tC (.int 4)) tNil))) (tCons (tTup (tCons (tC (.str "back")) tNil)) tNil))))))))))
theorem d__law_lines {P : Program} {w : World} {K : PySem.W.Frag} {mg : Str → Option Value} {base : Heap}  {fA : Addr} (Z : Fx K w mg)  (cdv : Value) (A : Around) (outer : List Env) (s : Shared) (H : Hp) (E : XK)
    (hr : Room 0 (A.deeper (envOfC "_law_lines" (defScope s__law_lines) s.heap.objs.size fA cdv))) : PSs (cxOf C8.CX0 P w K mg base ["form", "a", "b", "loop", "part", "word", "rows"] "_law_lines" (defScope s__law_lines) fA cdv A outer s H E).nox (defBody s__law_lines) (t__law_lines K w ) :=
  have scx := sc__law_lines
  (pss_cons (ps_set (i := 5) scx.nd rfl (by first | exact Or.inl rfl | exact Or.inr rfl) (pe_ix ix_seq (pe_lst (pa_cons pe_str (pa_cons pe_str (pa_cons pe_str pa_nil)))) (pv 0) fun _ _ => rfl))
    (pss_cons (ps_set (i := 6) scx.nd rfl (by first | exact Or.inl rfl | exact Or.inr rfl) (pe_lst (pa_cons (pe_tup (pa_cons pe_str (pa_cons pe_int (pa_cons (pv 1) pa_nil)))) (pa_cons (pe_tup (pa_cons pe_str (pa_cons pe_int (pa_cons (pv 2) pa_nil)))) (pa_cons (pe_tup (pa_cons pe_str (pa_cons pe_int (pa_cons (pe_callTy c_int rfl Z.f_int rfl (pa_cons (pe_cmpR op_eq (pv 0) pe_int (nomark _)) pa_nil)) pa_nil)))) (pa_cons (pe_tup (pa_cons pe_str (pa_cons pe_int (pa_cons pe_int pa_nil)))) (pa_cons (pe_tup (pa_cons pe_str (pa_cons pe_int (pa_cons pe_int pa_nil)))) pa_nil)))))))
    (pss_cons (ps_expr (pe_bm F.plainAttrs_list F.slot_list_extend F.type_list_extend mt_extend (pv 6) (pa_cons (pe_lst (pa_cons (pe_tup (pa_cons pe_str (pa_cons (pv 4) pa_nil))) (pa_cons (pe_tup (pa_cons pe_str (pa_cons pe_int (pa_cons pe_int (pa_cons pe_int pa_nil))))) (pa_cons (pe_tup (pa_cons pe_str (pa_cons pe_int (pa_cons pe_int (pa_cons (pv 3) pa_nil))))) (pa_cons (pe_tup (pa_cons pe_str (pa_cons pe_int pa_nil))) (pa_cons (pe_tup (pa_cons pe_str pa_nil)) pa_nil)))))) pa_nil)))
    (pss_one (ps_ret (pe_op op_cat (pv 6) (pe_lst (pa_cons (pe_tup (pa_cons pe_str (pa_cons pe_int pa_nil))) (pa_cons (pe_tup (pa_cons (pv 5) (pa_cons pe_int (pa_cons pe_int (pa_cons pe_int pa_nil))))) (pa_cons (pe_tup (pa_cons pe_str (pa_cons pe_int pa_nil))) (pa_cons (pe_tup (pa_cons pe_str pa_nil)) pa_nil)))))))))))
theorem sc__law_all : FnScope ["script", "jar", "form", "a", "b", "size", "base", "more", "places", "one", "loop", "part", "code", "start", "step", "k", "memory", "boxes", "top", "state", "number", "steps", "n", "told", "events", "end", "behind", "byte", "due", "at"] ["script"] (defScope s__law_all) := C8.fnScope_by (by decide +kernel)
def tl__law_all_29 (K : PySem.W.Frag) (w : World) : TS := (tRet (tCall (spM K 2 (f__law_same K 9)) [] C8.E0 (tCons (tSl (rSlT K) (tOp (rIx K) (tVar 23) (tC (.int 2))) (tPart (tC (.int 1))) tNoPart) (tCons (tTup (tCons (tCB (rTp K) (tCons (tVar 28) tNil)) (tCons (tVar 29) (tCons (tVar 18) tNil)))) tNil))))
def tl__law_all_28 (K : PySem.W.Frag) (w : World) : TS := tSeq (tIfS (tOr (tNot (tB (tCB (rIsi K) (tCons (tOp (rIx K) (tVar 23) (tC (.int 2))) (tCons (tC (.ty "tuple")) tNil))))) (tOr (tTest (tOp rNe (tCB (rLn K) (tCons (tOp (rIx K) (tVar 23) (tC (.int 2))) tNil)) (tC (.int 4)))) (tNot (tB (tCall (spM K 2 (f__law_bytes K)) [] C8.E0 (tCons (tOp (rIx K) (tOp (rIx K) (tVar 23) (tC (.int 2))) (tC (.int 0))) (tCons (tVar 16) tNil))))))) (tRet (tC (.bl false))) tNext) (tl__law_all_29 K w)
def tl__law_all_27 (K : PySem.W.Frag) (w : World) : TS := tSeq (tAsg (tOp (rI (fun _ j => 0 < j) fun i j => .int (i % j)) (tCB rIn1 (tCons (tOp (rI0 fun i j => .int (i + j)) (tVar 6) (tOp (rIx K) (tVar 8) (tOp (rI0 fun i j => .int (i + j)) (tC (.int 8)) (tCB rIn1 (tCons (tOp (rI0 fun i j => .bl (decide (j < i))) (tVar 22) (tOp (rI0 fun i j => .int (i - j)) (tVar 21) (tC (.int 2)))) tNil))))) tNil)) (tVar 5)) (gName 29)) (tl__law_all_28 K w)
def tl__law_all_26 (K : PySem.W.Frag) (w : World) : TS := tSeq (tAsg (tLst (tCons (tVar 3) (tCons (tC (.int 0)) (tCons (tVar 20) (tCons (tC (.int 1)) (tCons (tVar 3) (tCons (tOp (rIx K) (tVar 17) (tC (.int 5))) (tCons (tOp (rIx K) (tVar 17) (tC (.int 6))) (tCons (tC (.int 0)) tNil))))))))) (gName 28)) (tl__law_all_27 K w)
def tl__law_all_25 (K : PySem.W.Frag) (w : World) : TS := tSeq (tFor (iTup K (tTup (tCons (tTup (tCons (tC (.int 3)) (tCons (tVar 3) tNil))) (tCons (tTup (tCons (tC (.int 2)) (tCons (tOp (rI CDiv fun i j => .int (i / j)) (tVar 26) (tC (.int 256))) tNil))) (tCons (tTup (tCons (tC (.int 1)) (tCons (tOp (rI (fun _ j => 0 < j) fun i j => .int (i % j)) (tCB rIn1 (tCons (tVar 26) tNil)) (tC (.int 256))) tNil))) tNil))))) (gTup K 2 (gCons (gName 15) (gCons (gName 27) gNil))) (tAsg (tVar 27) (gSub (tVar 16) (tOp (rI (fun _ j => 0 < j) fun i j => .int (i % j)) (tCB rIn1 (tCons (tOp (rI0 fun i j => .int (i - j)) (tVar 18) (tVar 15)) tNil)) (tVar 5)) rSetL))) (tl__law_all_26 K w)
def tl__law_all_24 (K : PySem.W.Frag) (w : World) : TS := tSeq (tAsg (tOp (rI (fun _ j => 0 < j) fun i j => .int (i % j)) (tCB rIn1 (tCons (tOp (rI0 fun i j => .int (i + j)) (tVar 6) (tOp (rIx K) (tVar 8) (tC (.int 6)))) tNil)) (tVar 5)) (gName 26)) (tl__law_all_25 K w)
def tl__law_all_23 (K : PySem.W.Frag) (w : World) : TS := tSeq (tIfS (tOr (tNot (tB (tCB (rIsi K) (tCons (tVar 23) (tCons (tC (.ty "tuple")) tNil))))) (tOr (tTest (tOp rNe (tCB (rLn K) (tCons (tVar 23) tNil)) (tC (.int 3)))) (tNot (tB (tCall (spM K 2 (f__law_same K 9)) [] C8.E0 (tCons (tSl (rSlT K) (tVar 23) tNoPart (tPart (tC (.int 2)))) (tCons (tTup (tCons (tVar 24) (tCons (tVar 25) tNil))) tNil))))))) (tRet (tC (.bl false))) tNext) (tl__law_all_24 K w)
def tl__law_all_22 (K : PySem.W.Frag) (w : World) : TS := tSeq (tPar 24 25 (tCons (tOp (rRepS K) (tTup (tCons (tTup (tCons (tC (.str "tell")) (tCons (tVar 20) tNil))) tNil)) (tCB rIn1 (tCons (tOp (rI0 fun i j => .bl (decide (j < i))) (tVar 22) (tOp (rI0 fun i j => .int (i - j)) (tVar 21) (tC (.int 2)))) tNil))) (tCons (tIf (tTest (tOp (rI0 fun i j => .bl (decide (j ≤ i))) (tVar 22) (tVar 21))) (tTup (tCons (tC (.str "stopped")) tNil)) (tTup (tCons (tC (.str "tired")) tNil))) tNil))) (tl__law_all_23 K w)
def tl__law_all_21 (K : PySem.W.Frag) (w : World) : TS := tSeq (tAsg (tCall (spM K 3 (f_machine_run K)) [] C8.E0 (tCons (tVar 19) (tCons (tTup tNil) (tCons (tVar 22) tNil)))) (gName 23)) (tl__law_all_22 K w)
def tl__law_all_20 (K : PySem.W.Frag) (w : World) : TS := tSeq (tAsg (tOp (rI0 fun i j => .int (i - j)) (tVar 21) (tOp (rIx K) (tLst (tCons (tC (.int 0)) (tCons (tC (.int 0)) (tCons (tC (.int 1)) (tCons (tC (.int 2)) (tCons (tOp (rI0 fun i j => .int (i - j)) (tC (.int 0)) (tC (.int 5))) tNil)))))) (tCall (spM K 2 (f__law_draw K)) [] C8.E0 (tCons (tVar 1) (tCons (tC (.int 5)) tNil))))) (gName 22)) (tl__law_all_21 K w)
def tl__law_all_19 (K : PySem.W.Frag) (w : World) : TS := tSeq (tAsg (tOp (rI0 fun i j => .int (i + j)) (tC (.int 7)) (tOp (rI CMul fun i j => .int (i * j)) (tC (.int 7)) (tVar 4))) (gName 21)) (tl__law_all_20 K w)
def tl__law_all_18 (K : PySem.W.Frag) (w : World) : TS := tSeq (tAsg (tOp (rIx K) (tLst (tCons (tOp (rI (fun _ j => 0 < j) fun i j => .int (i % j)) (tCB rIn1 (tCons (tOp (rI CMul fun i j => .int (i * j)) (tVar 3) (tVar 4)) tNil)) (tC (.int 256))) (tCons (tOp (rI (fun _ j => 0 < j) fun i j => .int (i % j)) (tCB rIn1 (tCons (tOp (rI0 fun i j => .int (i - j)) (tC (.int 0)) (tOp (rI CMul fun i j => .int (i * j)) (tVar 3) (tVar 4))) tNil)) (tC (.int 256))) (tCons (tVar 20) tNil)))) (tVar 2)) (gName 20)) (tl__law_all_19 K w)
def tl__law_all_17 (K : PySem.W.Frag) (w : World) : TS := tSeq (tFor (iRng1 (tCons (tVar 4) tNil)) (gName 15) (tAsg (tOp (rI (fun _ j => 0 < j) fun i j => .int (i % j)) (tCB rIn1 (tCons (tOp (rI CMul fun i j => .int (i * j)) (tVar 20) (tVar 3)) tNil)) (tC (.int 256))) (gName 20))) (tl__law_all_18 K w)
def tl__law_all_16 (K : PySem.W.Frag) (w : World) : TS := tSeq (tAsg (tC (.int 1)) (gName 20)) (tl__law_all_17 K w)
def tl__law_all_15 (K : PySem.W.Frag) (w : World) : TS := tSeq (tAsg (tTup (tCons (tCB (rTp K) (tCons (tVar 16) tNil)) (tCons (tCB (rTp K) (tCons (tVar 17) tNil)) (tCons (tVar 6) (tCons (tVar 18) tNil))))) (gName 19)) (tl__law_all_16 K w)
def tl__law_all_14 (K : PySem.W.Frag) (w : World) : TS := tSeq (tAsg (tOp (rI (fun _ j => 0 < j) fun i j => .int (i % j)) (tCB rIn1 (tCons (tOp (rI0 fun i j => .int (i - j)) (tVar 6) (tCall (spM K 2 (f__law_draw K)) [] C8.E0 (tCons (tVar 1) (tCons (tC (.int 9)) tNil)))) tNil)) (tVar 5)) (gName 18)) (tl__law_all_15 K w)
def tl__law_all_13 (K : PySem.W.Frag) (w : World) : TS := tSeq (tAsg (tLc (iRng1 (tCons (tC (.int 8)) tNil)) (gName 15) tYes (tCall (spM K 2 (f__law_draw K)) [] C8.E0 (tCons (tVar 1) (tCons (tC (.int 256)) tNil))) [15]) (gName 17)) (tl__law_all_14 K w)
def tl__law_all_12 (K : PySem.W.Frag) (w : World) : TS := tSeq (tFor (iRng1 (tCons (tCB (rLn K) (tCons (tVar 12) tNil)) tNil)) (gName 15) (tAsg (tOp (rIx K) (tVar 12) (tVar 15)) (gSub (tVar 16) (tOp (rI (fun _ j => 0 < j) fun i j => .int (i % j)) (tCB rIn1 (tCons (tOp (rI0 fun i j => .int (i + j)) (tVar 6) (tVar 15)) tNil)) (tVar 5)) rSetL))) (tl__law_all_13 K w)
def tl__law_all_11 (K : PySem.W.Frag) (w : World) : TS := tSeq (tAsg (tLc (iRng1 (tCons (tVar 5) tNil)) (gName 15) tYes (tOp (rI (fun _ j => 0 < j) fun i j => .int (i % j)) (tCB rIn1 (tCons (tOp (rI0 fun i j => .int (i + j)) (tVar 13) (tOp (rI CMul fun i j => .int (i * j)) (tVar 14) (tVar 15))) tNil)) (tC (.int 256))) [15]) (gName 16)) (tl__law_all_12 K w)
def tl__law_all_10 (K : PySem.W.Frag) (w : World) : TS := tSeq (tAsg (tTup (tCons (tCall (spM K 2 (f__law_draw K)) [] C8.E0 (tCons (tVar 1) (tCons (tC (.int 256)) tNil))) (tCons (tCall (spM K 2 (f__law_draw K)) [] C8.E0 (tCons (tVar 1) (tCons (tC (.int 256)) tNil))) tNil))) (gTup K 2 (gCons (gName 13) (gCons (gName 14) gNil)))) (tl__law_all_11 K w)
def tl__law_all_9 (K : PySem.W.Frag) (w : World) : TS := tSeq (tFor (iList K (tCall (spM K 5 (f__law_lines K)) [] C8.E0 (tCons (tVar 2) (tCons (tVar 3) (tCons (tVar 4) (tCons (tVar 10) (tCons (tVar 11) tNil))))))) (gName 9) (tDrop (tBM K "list" rExtend (tVar 12) (tCons (tCall (spM K 1 (f__law_coded K)) [] C8.E0 (tCons (tVar 9) tNil)) tNil)))) (tl__law_all_10 K w)
def tl__law_all_8 (K : PySem.W.Frag) (w : World) : TS := tSeq (tAsg (tLst tNil) (gName 12)) (tl__law_all_9 K w)
def tl__law_all_7 (K : PySem.W.Frag) (w : World) : TS := tSeq (tPar 10 11 (tCons (tOp (rI0 fun i j => .int (i + j)) (tOp (rI (fun _ j => 0 < j) fun i j => .int (i % j)) (tCB rIn1 (tCons (tOp (rI0 fun i j => .int (i + j)) (tVar 6) (tOp (rIx K) (tVar 8) (tC (.int 5)))) tNil)) (tVar 5)) (tVar 7)) (tCons (tOp (rI0 fun i j => .int (i + j)) (tOp (rI (fun _ j => 0 < j) fun i j => .int (i % j)) (tCB rIn1 (tCons (tOp (rI0 fun i j => .int (i + j)) (tVar 6) (tOp (rIx K) (tVar 8) (tC (.int 10)))) tNil)) (tVar 5)) (tVar 7)) tNil))) (tl__law_all_8 K w)
def tl__law_all_6 (K : PySem.W.Frag) (w : World) : TS := tSeq (tFor (iList K (tCall (spM K 5 (f__law_lines K)) [] C8.E0 (tCons (tVar 2) (tCons (tVar 3) (tCons (tVar 4) (tCons (tC (.int 0)) (tCons (tC (.int 0)) tNil))))))) (gName 9) (tDrop (tBM K "list" rAppend (tVar 8) (tCons (tOp (rI0 fun i j => .int (i + j)) (tOp (rIx K) (tVar 8) (tOp (rI0 fun i j => .int (i - j)) (tCB (rLn K) (tCons (tVar 8) tNil)) (tC (.int 1)))) (tCB (rLn K) (tCons (tCall (spM K 1 (f__law_coded K)) [] C8.E0 (tCons (tVar 9) tNil)) tNil))) tNil)))) (tl__law_all_7 K w)
def tl__law_all_5 (K : PySem.W.Frag) (w : World) : TS := tSeq (tAsg (tLst (tCons (tC (.int 0)) tNil)) (gName 8)) (tl__law_all_6 K w)
def tl__law_all_4 (K : PySem.W.Frag) (w : World) : TS := tSeq (tAsg (tOp (rI CMul fun i j => .int (i * j)) (tVar 5) (tCall (spM K 2 (f__law_draw K)) [] C8.E0 (tCons (tVar 1) (tCons (tC (.int 3)) tNil)))) (gName 7)) (tl__law_all_5 K w)
def tl__law_all_3 (K : PySem.W.Frag) (w : World) : TS := tSeq (tAsg (tOp (rIx K) (tLst (tCons (tCall (spM K 2 (f__law_draw K)) [] C8.E0 (tCons (tVar 1) (tCons (tVar 5) tNil))) (tCons (tOp (rI0 fun i j => .int (i - j)) (tOp (rI0 fun i j => .int (i - j)) (tVar 5) (tC (.int 1))) (tCall (spM K 2 (f__law_draw K)) [] C8.E0 (tCons (tVar 1) (tCons (tC (.int 14)) tNil)))) (tCons (tC (.int 0)) tNil)))) (tCall (spM K 2 (f__law_draw K)) [] C8.E0 (tCons (tVar 1) (tCons (tC (.int 3)) tNil)))) (gName 6)) (tl__law_all_4 K w)
def tl__law_all_2 (K : PySem.W.Frag) (w : World) : TS := tSeq (tAsg (tOp (rIx K) (tLst (tCons (tC (.int 64)) (tCons (tC (.int 65)) (tCons (tC (.int 128)) (tCons (tOp (rI0 fun i j => .int (i + j)) (tC (.int 300)) (tCall (spM K 2 (f__law_draw K)) [] C8.E0 (tCons (tVar 1) (tCons (tC (.int 300)) tNil)))) (tCons (tC (.int 4096)) tNil)))))) (tOp (rIx K) (tLst (tCons (tC (.int 0)) (tCons (tC (.int 0)) (tCons (tC (.int 1)) (tCons (tC (.int 2)) (tCons (tC (.int 3)) (tCons (tC (.int 3)) (tCons (tC (.int 0)) (tCons (tC (.int 4)) tNil))))))))) (tCall (spM K 2 (f__law_draw K)) [] C8.E0 (tCons (tVar 1) (tCons (tC (.int 8)) tNil))))) (gName 5)) (tl__law_all_3 K w)
def tl__law_all_1 (K : PySem.W.Frag) (w : World) : TS := tSeq (tPar3 2 3 4 (tCons (tCall (spM K 2 (f__law_draw K)) [] C8.E0 (tCons (tVar 1) (tCons (tC (.int 3)) tNil))) (tCons (tOp (rIx K) (tLst (tCons (tC (.int 0)) (tCons (tC (.int 1)) (tCons (tC (.int 3)) (tCons (tC (.int 255)) (tCons (tCall (spM K 2 (f__law_draw K)) [] C8.E0 (tCons (tVar 1) (tCons (tC (.int 256)) tNil))) tNil)))))) (tCall (spM K 2 (f__law_draw K)) [] C8.E0 (tCons (tVar 1) (tCons (tC (.int 5)) tNil)))) (tCons (tOp (rI0 fun i j => .int (i + j)) (tC (.int 1)) (tCall (spM K 2 (f__law_draw K)) [] C8.E0 (tCons (tVar 1) (tCons (tOp (rIx K) (tLst (tCons (tC (.int 5)) (tCons (tC (.int 30)) (tCons (tC (.int 100)) tNil)))) (tCall (spM K 2 (f__law_draw K)) [] C8.E0 (tCons (tVar 1) (tCons (tC (.int 3)) tNil)))) tNil)))) tNil)))) (tl__law_all_2 K w)
def tl__law_all_0 (K : PySem.W.Frag) (w : World) : TS := tSeq (tAsg (tCall (spM K 1 (f__law_jar K)) [] C8.E0 (tCons (tVar 0) tNil)) (gName 1)) (tl__law_all_1 K w)
def t__law_all (K : PySem.W.Frag) (w : World)  : TS := tl__law_all_0 K w
theorem d__law_all {P : Program} {w : World} {K : PySem.W.Frag} {mg : Str → Option Value} {base : Heap}  {fA : Addr} (Z : Fx K w mg) (c__law_bytes : C8.Cal P w K mg base 1 "_law_bytes" (spM K 2 (f__law_bytes K)) []) (c__law_coded : C8.Cal P w K mg base 1 "_law_coded" (spM K 1 (f__law_coded K)) []) (c__law_draw : C8.Cal P w K mg base 1 "_law_draw" (spM K 2 (f__law_draw K)) []) (c__law_jar : C8.Cal P w K mg base 1 "_law_jar" (spM K 1 (f__law_jar K)) []) (c__law_lines : C8.Cal P w K mg base 1 "_law_lines" (spM K 5 (f__law_lines K)) []) (c__law_same : C8.Cal P w K mg base 10 "_law_same" (spM K 2 (f__law_same K 9)) []) (c_machine_run : C8.Cal P w K mg base 10 "machine_run" (spM K 3 (f_machine_run K)) []) (cdv : Value) (A : Around) (outer : List Env) (s : Shared) (H : Hp) (E : XK)
    (hr : Room 10 (A.deeper (envOfC "_law_all" (defScope s__law_all) s.heap.objs.size fA cdv))) : PSs (cxOf C8.CX0 P w K mg base ["script", "jar", "form", "a", "b", "size", "base", "more", "places", "one", "loop", "part", "code", "start", "step", "k", "memory", "boxes", "top", "state", "number", "steps", "n", "told", "events", "end", "behind", "byte", "due", "at"] "_law_all" (defScope s__law_all) fA cdv A outer s H E).nox (defBody s__law_all) (tSeq (tAsg (tCall (spM K 1 (f__law_jar K)) [] C8.E0 (tCons (tVar 0) tNil)) (gName 1)) (tSeq (tPar3 2 3 4 (tCons (tCall (spM K 2 (f__law_draw K)) [] C8.E0 (tCons (tVar 1) (tCons (tC (.int 3)) tNil))) (tCons (tOp (rIx K) (tLst (tCons (tC (.int 0)) (tCons (tC (.int 1)) (tCons (tC (.int 3)) (tCons (tC (.int 255)) (tCons (tCall (spM K 2 (f__law_draw K)) [] C8.E0 (tCons (tVar 1) (tCons (tC (.int 256)) tNil))) tNil)))))) (tCall (spM K 2 (f__law_draw K)) [] C8.E0 (tCons (tVar 1) (tCons (tC (.int 5)) tNil)))) (tCons (tOp (rI0 fun i j => .int (i + j)) (tC (.int 1)) (tCall (spM K 2 (f__law_draw K)) [] C8.E0 (tCons (tVar 1) (tCons (tOp (rIx K) (tLst (tCons (tC (.int 5)) (tCons (tC (.int 30)) (tCons (tC (.int 100)) tNil)))) (tCall (spM K 2 (f__law_draw K)) [] C8.E0 (tCons (tVar 1) (tCons (tC (.int 3)) tNil)))) tNil)))) tNil)))) (tSeq (tAsg (tOp (rIx K) (tLst (tCons (tC (.int 64)) (tCons (tC (.int 65)) (tCons (tC (.int 128)) (tCons (tOp (rI0 fun i j => .int (i + j)) (tC (.int 300)) (tCall (spM K 2 (f__law_draw K)) [] C8.E0 (tCons (tVar 1) (tCons (tC (.int 300)) tNil)))) (tCons (tC (.int 4096)) tNil)))))) (tOp (rIx K) (tLst (tCons (tC (.int 0)) (tCons (tC (.int 0)) (tCons (tC (.int 1)) (tCons (tC (.int 2)) (tCons (tC (.int 3)) (tCons (tC (.int 3)) (tCons (tC (.int 0)) (tCons (tC (.int 4)) tNil))))))))) (tCall (spM K 2 (f__law_draw K)) [] C8.E0 (tCons (tVar 1) (tCons (tC (.int 8)) tNil))))) (gName 5)) (tSeq (tAsg (tOp (rIx K) (tLst (tCons (tCall (spM K 2 (f__law_draw K)) [] C8.E0 (tCons (tVar 1) (tCons (tVar 5) tNil))) (tCons (tOp (rI0 fun i j => .int (i - j)) (tOp (rI0 fun i j => .int (i - j)) (tVar 5) (tC (.int 1))) (tCall (spM K 2 (f__law_draw K)) [] C8.E0 (tCons (tVar 1) (tCons (tC (.int 14)) tNil)))) (tCons (tC (.int 0)) tNil)))) (tCall (spM K 2 (f__law_draw K)) [] C8.E0 (tCons (tVar 1) (tCons (tC (.int 3)) tNil)))) (gName 6)) (tSeq (tAsg (tOp (rI CMul fun i j => .int (i * j)) (tVar 5) (tCall (spM K 2 (f__law_draw K)) [] C8.E0 (tCons (tVar 1) (tCons (tC (.int 3)) tNil)))) (gName 7)) (tSeq (tAsg (tLst (tCons (tC (.int 0)) tNil)) (gName 8)) (tSeq (tFor (iList K (tCall (spM K 5 (f__law_lines K)) [] C8.E0 (tCons (tVar 2) (tCons (tVar 3) (tCons (tVar 4) (tCons (tC (.int 0)) (tCons (tC (.int 0)) tNil))))))) (gName 9) (tDrop (tBM K "list" rAppend (tVar 8) (tCons (tOp (rI0 fun i j => .int (i + j)) (tOp (rIx K) (tVar 8) (tOp (rI0 fun i j => .int (i - j)) (tCB (rLn K) (tCons (tVar 8) tNil)) (tC (.int 1)))) (tCB (rLn K) (tCons (tCall (spM K 1 (f__law_coded K)) [] C8.E0 (tCons (tVar 9) tNil)) tNil))) tNil)))) (tSeq (tPar 10 11 (tCons (tOp (rI0 fun i j => .int (i + j)) (tOp (rI (fun _ j => 0 < j) fun i j => .int (i % j)) (tCB rIn1 (tCons (tOp (rI0 fun i j => .int (i + j)) (tVar 6) (tOp (rIx K) (tVar 8) (tC (.int 5)))) tNil)) (tVar 5)) (tVar 7)) (tCons (tOp (rI0 fun i j => .int (i + j)) (tOp (rI (fun _ j => 0 < j) fun i j => .int (i % j)) (tCB rIn1 (tCons (tOp (rI0 fun i j => .int (i + j)) (tVar 6) (tOp (rIx K) (tVar 8) (tC (.int 10)))) tNil)) (tVar 5)) (tVar 7)) tNil))) (tSeq (tAsg (tLst tNil) (gName 12)) (tSeq (tFor (iList K (tCall (spM K 5 (f__law_lines K)) [] C8.E0 (tCons (tVar 2) (tCons (tVar 3) (tCons (tVar 4) (tCons (tVar 10) (tCons (tVar 11) tNil))))))) (gName 9) (tDrop (tBM K "list" rExtend (tVar 12) (tCons (tCall (spM K 1 (f__law_coded K)) [] C8.E0 (tCons (tVar 9) tNil)) tNil)))) (tSeq (tAsg (tTup (tCons (tCall (spM K 2 (f__law_draw K)) [] C8.E0 (tCons (tVar 1) (tCons (tC (.int 256)) tNil))) (tCons (tCall (spM K 2 (f__law_draw K)) [] C8.E0 (tCons (tVar 1) (tCons (tC (.int 256)) tNil))) tNil))) (gTup K 2 (gCons (gName 13) (gCons (gName 14) gNil)))) (tSeq (tAsg (tLc (iRng1 (tCons (tVar 5) tNil)) (gName 15) tYes (tOp (rI (fun _ j => 0 < j) fun i j => .int (i % j)) (tCB rIn1 (tCons (tOp (rI0 fun i j => .int (i + j)) (tVar 13) (tOp (rI CMul fun i j => .int (i * j)) (tVar 14) (tVar 15))) tNil)) (tC (.int 256))) [15]) (gName 16)) (tSeq (tFor (iRng1 (tCons (tCB (rLn K) (tCons (tVar 12) tNil)) tNil)) (gName 15) (tAsg (tOp (rIx K) (tVar 12) (tVar 15)) (gSub (tVar 16) (tOp (rI (fun _ j => 0 < j) fun i j => .int (i % j)) (tCB rIn1 (tCons (tOp (rI0 fun i j => .int (i + j)) (tVar 6) (tVar 15)) tNil)) (tVar 5)) rSetL))) (tSeq (tAsg (tLc (iRng1 (tCons (tC (.int 8)) tNil)) (gName 15) tYes (tCall (spM K 2 (f__law_draw K)) [] C8.E0 (tCons (tVar 1) (tCons (tC (.int 256)) tNil))) [15]) (gName 17)) (tSeq (tAsg (tOp (rI (fun _ j => 0 < j) fun i j => .int (i % j)) (tCB rIn1 (tCons (tOp (rI0 fun i j => .int (i - j)) (tVar 6) (tCall (spM K 2 (f__law_draw K)) [] C8.E0 (tCons (tVar 1) (tCons (tC (.int 9)) tNil)))) tNil)) (tVar 5)) (gName 18)) (tSeq (tAsg (tTup (tCons (tCB (rTp K) (tCons (tVar 16) tNil)) (tCons (tCB (rTp K) (tCons (tVar 17) tNil)) (tCons (tVar 6) (tCons (tVar 18) tNil))))) (gName 19)) (tSeq (tAsg (tC (.int 1)) (gName 20)) (tSeq (tFor (iRng1 (tCons (tVar 4) tNil)) (gName 15) (tAsg (tOp (rI (fun _ j => 0 < j) fun i j => .int (i % j)) (tCB rIn1 (tCons (tOp (rI CMul fun i j => .int (i * j)) (tVar 20) (tVar 3)) tNil)) (tC (.int 256))) (gName 20))) (tSeq (tAsg (tOp (rIx K) (tLst (tCons (tOp (rI (fun _ j => 0 < j) fun i j => .int (i % j)) (tCB rIn1 (tCons (tOp (rI CMul fun i j => .int (i * j)) (tVar 3) (tVar 4)) tNil)) (tC (.int 256))) (tCons (tOp (rI (fun _ j => 0 < j) fun i j => .int (i % j)) (tCB rIn1 (tCons (tOp (rI0 fun i j => .int (i - j)) (tC (.int 0)) (tOp (rI CMul fun i j => .int (i * j)) (tVar 3) (tVar 4))) tNil)) (tC (.int 256))) (tCons (tVar 20) tNil)))) (tVar 2)) (gName 20)) (tSeq (tAsg (tOp (rI0 fun i j => .int (i + j)) (tC (.int 7)) (tOp (rI CMul fun i j => .int (i * j)) (tC (.int 7)) (tVar 4))) (gName 21)) (tSeq (tAsg (tOp (rI0 fun i j => .int (i - j)) (tVar 21) (tOp (rIx K) (tLst (tCons (tC (.int 0)) (tCons (tC (.int 0)) (tCons (tC (.int 1)) (tCons (tC (.int 2)) (tCons (tOp (rI0 fun i j => .int (i - j)) (tC (.int 0)) (tC (.int 5))) tNil)))))) (tCall (spM K 2 (f__law_draw K)) [] C8.E0 (tCons (tVar 1) (tCons (tC (.int 5)) tNil))))) (gName 22)) (tSeq (tAsg (tCall (spM K 3 (f_machine_run K)) [] C8.E0 (tCons (tVar 19) (tCons (tTup tNil) (tCons (tVar 22) tNil)))) (gName 23)) (tSeq (tPar 24 25 (tCons (tOp (rRepS K) (tTup (tCons (tTup (tCons (tC (.str "tell")) (tCons (tVar 20) tNil))) tNil)) (tCB rIn1 (tCons (tOp (rI0 fun i j => .bl (decide (j < i))) (tVar 22) (tOp (rI0 fun i j => .int (i - j)) (tVar 21) (tC (.int 2)))) tNil))) (tCons (tIf (tTest (tOp (rI0 fun i j => .bl (decide (j ≤ i))) (tVar 22) (tVar 21))) (tTup (tCons (tC (.str "stopped")) tNil)) (tTup (tCons (tC (.str "tired")) tNil))) tNil))) (tSeq (tIfS (tOr (tNot (tB (tCB (rIsi K) (tCons (tVar 23) (tCons (tC (.ty "tuple")) tNil))))) (tOr (tTest (tOp rNe (tCB (rLn K) (tCons (tVar 23) tNil)) (tC (.int 3)))) (tNot (tB (tCall (spM K 2 (f__law_same K 9)) [] C8.E0 (tCons (tSl (rSlT K) (tVar 23) tNoPart (tPart (tC (.int 2)))) (tCons (tTup (tCons (tVar 24) (tCons (tVar 25) tNil))) tNil))))))) (tRet (tC (.bl false))) tNext) (tSeq (tAsg (tOp (rI (fun _ j => 0 < j) fun i j => .int (i % j)) (tCB rIn1 (tCons (tOp (rI0 fun i j => .int (i + j)) (tVar 6) (tOp (rIx K) (tVar 8) (tC (.int 6)))) tNil)) (tVar 5)) (gName 26)) (tSeq (tFor (iTup K (tTup (tCons (tTup (tCons (tC (.int 3)) (tCons (tVar 3) tNil))) (tCons (tTup (tCons (tC (.int 2)) (tCons (tOp (rI CDiv fun i j => .int (i / j)) (tVar 26) (tC (.int 256))) tNil))) (tCons (tTup (tCons (tC (.int 1)) (tCons (tOp (rI (fun _ j => 0 < j) fun i j => .int (i % j)) (tCB rIn1 (tCons (tVar 26) tNil)) (tC (.int 256))) tNil))) tNil))))) (gTup K 2 (gCons (gName 15) (gCons (gName 27) gNil))) (tAsg (tVar 27) (gSub (tVar 16) (tOp (rI (fun _ j => 0 < j) fun i j => .int (i % j)) (tCB rIn1 (tCons (tOp (rI0 fun i j => .int (i - j)) (tVar 18) (tVar 15)) tNil)) (tVar 5)) rSetL))) (tSeq (tAsg (tLst (tCons (tVar 3) (tCons (tC (.int 0)) (tCons (tVar 20) (tCons (tC (.int 1)) (tCons (tVar 3) (tCons (tOp (rIx K) (tVar 17) (tC (.int 5))) (tCons (tOp (rIx K) (tVar 17) (tC (.int 6))) (tCons (tC (.int 0)) tNil))))))))) (gName 28)) (tSeq (tAsg (tOp (rI (fun _ j => 0 < j) fun i j => .int (i % j)) (tCB rIn1 (tCons (tOp (rI0 fun i j => .int (i + j)) (tVar 6) (tOp (rIx K) (tVar 8) (tOp (rI0 fun i j => .int (i + j)) (tC (.int 8)) (tCB rIn1 (tCons (tOp (rI0 fun i j => .bl (decide (j < i))) (tVar 22) (tOp (rI0 fun i j => .int (i - j)) (tVar 21) (tC (.int 2)))) tNil))))) tNil)) (tVar 5)) (gName 29)) (tSeq (tIfS (tOr (tNot (tB (tCB (rIsi K) (tCons (tOp (rIx K) (tVar 23) (tC (.int 2))) (tCons (tC (.ty "tuple")) tNil))))) (tOr (tTest (tOp rNe (tCB (rLn K) (tCons (tOp (rIx K) (tVar 23) (tC (.int 2))) tNil)) (tC (.int 4)))) (tNot (tB (tCall (spM K 2 (f__law_bytes K)) [] C8.E0 (tCons (tOp (rIx K) (tOp (rIx K) (tVar 23) (tC (.int 2))) (tC (.int 0))) (tCons (tVar 16) tNil))))))) (tRet (tC (.bl false))) tNext) (tRet (tCall (spM K 2 (f__law_same K 9)) [] C8.E0 (tCons (tSl (rSlT K) (tOp (rIx K) (tVar 23) (tC (.int 2))) (tPart (tC (.int 1))) tNoPart) (tCons (tTup (tCons (tCB (rTp K) (tCons (tVar 28) tNil)) (tCons (tVar 29) (tCons (tVar 18) tNil)))) tNil))))))))))))))))))))))))))))))))) :=
  have scx := sc__law_all
  (pss_cons (ps_set (i := 1) scx.nd rfl (by first | exact Or.inl rfl | exact Or.inr rfl) (C8.pe_c c__law_jar hr (by first | decide | assumption) rfl (pa_cons (pv 0) pa_nil)))
    (pss_cons (ps_par3 (i := 2) (j := 3) (l := 4) rfl scx.nd rfl rfl rfl (by decide) (by decide) (by decide) rfl rfl rfl (pa_cons (C8.pe_c c__law_draw hr (by first | decide | assumption) rfl (pa_cons (pv 1) (pa_cons pe_int pa_nil))) (pa_cons (pe_ix ix_seq (pe_lst (pa_cons pe_int (pa_cons pe_int (pa_cons pe_int (pa_cons pe_int (pa_cons (C8.pe_c c__law_draw hr (by first | decide | assumption) rfl (pa_cons (pv 1) (pa_cons pe_int pa_nil))) pa_nil)))))) (C8.pe_c c__law_draw hr (by first | decide | assumption) rfl (pa_cons (pv 1) (pa_cons pe_int pa_nil))) fun _ _ => rfl) (pa_cons (pe_op op_add pe_int (C8.pe_c c__law_draw hr (by first | decide | assumption) rfl (pa_cons (pv 1) (pa_cons (pe_ix ix_seq (pe_lst (pa_cons pe_int (pa_cons pe_int (pa_cons pe_int pa_nil)))) (C8.pe_c c__law_draw hr (by first | decide | assumption) rfl (pa_cons (pv 1) (pa_cons pe_int pa_nil))) fun _ _ => rfl) pa_nil)))) pa_nil))) (by rfl))
    (pss_cons (ps_set (i := 5) scx.nd rfl (by first | exact Or.inl rfl | exact Or.inr rfl) (pe_ix ix_seq (pe_lst (pa_cons pe_int (pa_cons pe_int (pa_cons pe_int (pa_cons (pe_op op_add pe_int (C8.pe_c c__law_draw hr (by first | decide | assumption) rfl (pa_cons (pv 1) (pa_cons pe_int pa_nil)))) (pa_cons pe_int pa_nil)))))) (pe_ix ix_seq (pe_lst (pa_cons pe_int (pa_cons pe_int (pa_cons pe_int (pa_cons pe_int (pa_cons pe_int (pa_cons pe_int (pa_cons pe_int (pa_cons pe_int pa_nil))))))))) (C8.pe_c c__law_draw hr (by first | decide | assumption) rfl (pa_cons (pv 1) (pa_cons pe_int pa_nil))) fun _ _ => rfl) fun _ _ => rfl))
    (pss_cons (ps_set (i := 6) scx.nd rfl (by first | exact Or.inl rfl | exact Or.inr rfl) (pe_ix ix_seq (pe_lst (pa_cons (C8.pe_c c__law_draw hr (by first | decide | assumption) rfl (pa_cons (pv 1) (pa_cons (pv 5) pa_nil))) (pa_cons (pe_op op_sub (pe_op op_sub (pv 5) pe_int) (C8.pe_c c__law_draw hr (by first | decide | assumption) rfl (pa_cons (pv 1) (pa_cons pe_int pa_nil)))) (pa_cons pe_int pa_nil)))) (C8.pe_c c__law_draw hr (by first | decide | assumption) rfl (pa_cons (pv 1) (pa_cons pe_int pa_nil))) fun _ _ => rfl))
    (pss_cons (ps_set (i := 7) scx.nd rfl (by first | exact Or.inl rfl | exact Or.inr rfl) (pe_op op_mul (pv 5) (C8.pe_c c__law_draw hr (by first | decide | assumption) rfl (pa_cons (pv 1) (pa_cons pe_int pa_nil)))))
    (pss_cons (ps_set (i := 8) scx.nd rfl (by first | exact Or.inl rfl | exact Or.inr rfl) (pe_lst (pa_cons pe_int pa_nil)))
    (pss_cons (ps_for PassesOwn.never rfl (pi_list (C8.pe_c c__law_lines hr (by first | decide | assumption) rfl (pa_cons (pv 2) (pa_cons (pv 3) (pa_cons (pv 4) (pa_cons pe_int (pa_cons pe_int pa_nil))))))) (pg_name (i := 9) scx.nd rfl (by first | exact Or.inl rfl | exact Or.inr rfl)) (pss_one (ps_expr (pe_bm F.plainAttrs_list F.slot_list_append F.type_list_append mt_append (pv 8) (pa_cons (pe_op op_add (pe_ix ix_seq (pv 8) (pe_op op_sub (pe_callB c_len rfl Z.f_len boot_len (pa_cons (pv 8) pa_nil)) pe_int) fun _ _ => rfl) (pe_callB c_len rfl Z.f_len boot_len (pa_cons (C8.pe_c c__law_coded hr (by first | decide | assumption) rfl (pa_cons (pv 9) pa_nil)) pa_nil))) pa_nil)))))
    (pss_cons (ps_par (i := 10) (j := 11) rfl scx.nd rfl rfl (by decide) rfl rfl (pa_cons (pe_op op_add (pe_op op_mod (pe_callTy c_int rfl Z.f_int rfl (pa_cons (pe_op op_add (pv 6) (pe_ix ix_seq (pv 8) pe_int fun _ _ => rfl)) pa_nil)) (pv 5)) (pv 7)) (pa_cons (pe_op op_add (pe_op op_mod (pe_callTy c_int rfl Z.f_int rfl (pa_cons (pe_op op_add (pv 6) (pe_ix ix_seq (pv 8) pe_int fun _ _ => rfl)) pa_nil)) (pv 5)) (pv 7)) pa_nil)) (by rfl))
    (pss_cons (ps_set (i := 12) scx.nd rfl (by first | exact Or.inl rfl | exact Or.inr rfl) (pe_lst pa_nil))
    (pss_cons (ps_for PassesOwn.never rfl (pi_list (C8.pe_c c__law_lines hr (by first | decide | assumption) rfl (pa_cons (pv 2) (pa_cons (pv 3) (pa_cons (pv 4) (pa_cons (pv 10) (pa_cons (pv 11) pa_nil))))))) (pg_name (i := 9) scx.nd rfl (by first | exact Or.inl rfl | exact Or.inr rfl)) (pss_one (ps_expr (pe_bm F.plainAttrs_list F.slot_list_extend F.type_list_extend mt_extend (pv 12) (pa_cons (C8.pe_c c__law_coded hr (by first | decide | assumption) rfl (pa_cons (pv 9) pa_nil)) pa_nil)))))
    (pss_cons (ps_asg (pe_tup (pa_cons (C8.pe_c c__law_draw hr (by first | decide | assumption) rfl (pa_cons (pv 1) (pa_cons pe_int pa_nil))) (pa_cons (C8.pe_c c__law_draw hr (by first | decide | assumption) rfl (pa_cons (pv 1) (pa_cons pe_int pa_nil))) pa_nil))) (pg_tup rfl (pgs_cons (pg_name (i := 13) scx.nd rfl (by first | exact Or.inl rfl | exact Or.inr rfl)) (pgs_cons (pg_name (i := 14) scx.nd rfl (by first | exact Or.inl rfl | exact Or.inr rfl)) pgs_nil))))
    (pss_cons (ps_setLc (i := 16) (own := [("k", 15)]) rfl scx.nd rfl rfl (by rfl) (pi_range1 rfl Z.f_range (pa_cons (pv 5) pa_nil)) (by refine blkOk_by (N := ["script", "jar", "form", "a", "b", "size", "base", "more", "places", "one", "loop", "part", "code", "start", "step", "k", "memory", "boxes", "top", "state", "number", "steps", "n", "told", "events", "end", "behind", "byte", "due", "at"]) (sc := defScope s__law_all) ?_; decide +kernel) (fun _ _ _ _ _ => (pg_name (i := 15) scx.nd rfl (by first | exact Or.inl rfl | exact Or.inr rfl))) (fun _ _ _ _ _ => pts_nil) (fun _ _ _ _ _ => (pe_op op_mod (pe_callTy c_int rfl Z.f_int rfl (pa_cons (pe_op op_add (pv 13) (pe_op op_mul (pv 14) (pv 15))) pa_nil)) pe_int)))
    (pss_cons (ps_for PassesOwn.never rfl (pi_range1 rfl Z.f_range (pa_cons (pe_callB c_len rfl Z.f_len boot_len (pa_cons (pv 12) pa_nil)) pa_nil)) (pg_name (i := 15) scx.nd rfl (by first | exact Or.inl rfl | exact Or.inr rfl)) (pss_one (ps_asg (pe_ix ix_seq (pv 12) (pv 15) fun _ _ => rfl) (pg_sub (pv 16) (pe_op op_mod (pe_callTy c_int rfl Z.f_int rfl (pa_cons (pe_op op_add (pv 6) (pv 15)) pa_nil)) (pv 5)) set_list))))
    (pss_cons (ps_setLc (i := 17) (own := [("k", 15)]) rfl scx.nd rfl rfl (by rfl) (pi_range1 rfl Z.f_range (pa_cons pe_int pa_nil)) (by refine blkOk_by (N := ["script", "jar", "form", "a", "b", "size", "base", "more", "places", "one", "loop", "part", "code", "start", "step", "k", "memory", "boxes", "top", "state", "number", "steps", "n", "told", "events", "end", "behind", "byte", "due", "at"]) (sc := defScope s__law_all) ?_; decide +kernel) (fun _ _ _ _ _ => (pg_name (i := 15) scx.nd rfl (by first | exact Or.inl rfl | exact Or.inr rfl))) (fun _ _ _ _ _ => pts_nil) (fun _ _ _ _ _ => (C8.pe_c c__law_draw hr (by first | decide | assumption) rfl (pa_cons (pv 1) (pa_cons pe_int pa_nil)))))
    (pss_cons (ps_set (i := 18) scx.nd rfl (by first | exact Or.inl rfl | exact Or.inr rfl) (pe_op op_mod (pe_callTy c_int rfl Z.f_int rfl (pa_cons (pe_op op_sub (pv 6) (C8.pe_c c__law_draw hr (by first | decide | assumption) rfl (pa_cons (pv 1) (pa_cons pe_int pa_nil)))) pa_nil)) (pv 5)))
    (pss_cons (ps_set (i := 19) scx.nd rfl (by first | exact Or.inl rfl | exact Or.inr rfl) (pe_tup (pa_cons (pe_callTy c_tuple rfl Z.f_tuple rfl (pa_cons (pv 16) pa_nil)) (pa_cons (pe_callTy c_tuple rfl Z.f_tuple rfl (pa_cons (pv 17) pa_nil)) (pa_cons (pv 6) (pa_cons (pv 18) pa_nil))))))
    (pss_cons (ps_set (i := 20) scx.nd rfl (by first | exact Or.inl rfl | exact Or.inr rfl) pe_int)
    (pss_cons (ps_for PassesOwn.never rfl (pi_range1 rfl Z.f_range (pa_cons (pv 4) pa_nil)) (pg_name (i := 15) scx.nd rfl (by first | exact Or.inl rfl | exact Or.inr rfl)) (pss_one (ps_set (i := 20) scx.nd rfl (by first | exact Or.inl rfl | exact Or.inr rfl) (pe_op op_mod (pe_callTy c_int rfl Z.f_int rfl (pa_cons (pe_op op_mul (pv 20) (pv 3)) pa_nil)) pe_int))))
    (pss_cons (ps_set (i := 20) scx.nd rfl (by first | exact Or.inl rfl | exact Or.inr rfl) (pe_ix ix_seq (pe_lst (pa_cons (pe_op op_mod (pe_callTy c_int rfl Z.f_int rfl (pa_cons (pe_op op_mul (pv 3) (pv 4)) pa_nil)) pe_int) (pa_cons (pe_op op_mod (pe_callTy c_int rfl Z.f_int rfl (pa_cons (pe_op op_sub pe_int (pe_op op_mul (pv 3) (pv 4))) pa_nil)) pe_int) (pa_cons (pv 20) pa_nil)))) (pv 2) fun _ _ => rfl))
    (pss_cons (ps_set (i := 21) scx.nd rfl (by first | exact Or.inl rfl | exact Or.inr rfl) (pe_op op_add pe_int (pe_op op_mul pe_int (pv 4))))
    (pss_cons (ps_set (i := 22) scx.nd rfl (by first | exact Or.inl rfl | exact Or.inr rfl) (pe_op op_sub (pv 21) (pe_ix ix_seq (pe_lst (pa_cons pe_int (pa_cons pe_int (pa_cons pe_int (pa_cons pe_int (pa_cons (pe_op op_sub pe_int pe_int) pa_nil)))))) (C8.pe_c c__law_draw hr (by first | decide | assumption) rfl (pa_cons (pv 1) (pa_cons pe_int pa_nil))) fun _ _ => rfl)))
    (pss_cons (ps_set (i := 23) scx.nd rfl (by first | exact Or.inl rfl | exact Or.inr rfl) (C8.pe_c c_machine_run hr (by first | decide | assumption) rfl (pa_cons (pv 19) (pa_cons (pe_tup pa_nil) (pa_cons (pv 22) pa_nil)))))
    (pss_cons (ps_par (i := 24) (j := 25) rfl scx.nd rfl rfl (by decide) rfl rfl (pa_cons (pe_op op_repS (pe_tup (pa_cons (pe_tup (pa_cons pe_str (pa_cons (pv 20) pa_nil))) pa_nil)) (pe_callTy c_int rfl Z.f_int rfl (pa_cons (pe_cmpR op_gt (pv 22) (pe_op op_sub (pv 21) pe_int) (nomark _)) pa_nil))) (pa_cons (pe_ifExp (pt_cmpR op_ge (pv 22) (pv 21) (nomark _)) (pe_tup (pa_cons pe_str pa_nil)) (pe_tup (pa_cons pe_str pa_nil))) pa_nil)) (by rfl))
    (pss_cons (ps_if (PW.pt (pw_or (pt_not (pt_val (pe_callB call_isi rfl Z.f_isinstance rfl (pa_cons (pv 23) (pa_cons (pe_bltn (v := .ty "tuple") (u := .type "tuple") rfl Z.f_tuple rfl rfl) pa_nil))))) (pw_or (pt_cmpR op_ne (pe_callB c_len rfl Z.f_len boot_len (pa_cons (pv 23) pa_nil)) pe_int (nomark _)) (pw_or1 (pt_not (pt_val (C8.pe_c c__law_same hr (by first | decide | assumption) rfl (pa_cons (pe_slice sl_tup (pv 23) po_none (po_some pe_int)) (pa_cons (pe_tup (pa_cons (pv 24) (pa_cons (pv 25) pa_nil))) pa_nil))))))))) (pss_one (ps_ret pe_bl)) pss_nil)
    (pss_cons (ps_set (i := 26) scx.nd rfl (by first | exact Or.inl rfl | exact Or.inr rfl) (pe_op op_mod (pe_callTy c_int rfl Z.f_int rfl (pa_cons (pe_op op_add (pv 6) (pe_ix ix_seq (pv 8) pe_int fun _ _ => rfl)) pa_nil)) (pv 5)))
    (pss_cons (ps_for PassesOwn.never rfl (pi_tup (pe_tup (pa_cons (pe_tup (pa_cons pe_int (pa_cons (pv 3) pa_nil))) (pa_cons (pe_tup (pa_cons pe_int (pa_cons (pe_op op_fdiv (pv 26) pe_int) pa_nil))) (pa_cons (pe_tup (pa_cons pe_int (pa_cons (pe_op op_mod (pe_callTy c_int rfl Z.f_int rfl (pa_cons (pv 26) pa_nil)) pe_int) pa_nil))) pa_nil))))) (pg_tup rfl (pgs_cons (pg_name (i := 15) scx.nd rfl (by first | exact Or.inl rfl | exact Or.inr rfl)) (pgs_cons (pg_name (i := 27) scx.nd rfl (by first | exact Or.inl rfl | exact Or.inr rfl)) pgs_nil))) (pss_one (ps_asg (pv 27) (pg_sub (pv 16) (pe_op op_mod (pe_callTy c_int rfl Z.f_int rfl (pa_cons (pe_op op_sub (pv 18) (pv 15)) pa_nil)) (pv 5)) set_list))))
    (pss_cons (ps_set (i := 28) scx.nd rfl (by first | exact Or.inl rfl | exact Or.inr rfl) (pe_lst (pa_cons (pv 3) (pa_cons pe_int (pa_cons (pv 20) (pa_cons pe_int (pa_cons (pv 3) (pa_cons (pe_ix ix_seq (pv 17) pe_int fun _ _ => rfl) (pa_cons (pe_ix ix_seq (pv 17) pe_int fun _ _ => rfl) (pa_cons pe_int pa_nil))))))))))
    (pss_cons (ps_set (i := 29) scx.nd rfl (by first | exact Or.inl rfl | exact Or.inr rfl) (pe_op op_mod (pe_callTy c_int rfl Z.f_int rfl (pa_cons (pe_op op_add (pv 6) (pe_ix ix_seq (pv 8) (pe_op op_add pe_int (pe_callTy c_int rfl Z.f_int rfl (pa_cons (pe_cmpR op_gt (pv 22) (pe_op op_sub (pv 21) pe_int) (nomark _)) pa_nil))) fun _ _ => rfl)) pa_nil)) (pv 5)))
    (pss_cons (ps_if (PW.pt (pw_or (pt_not (pt_val (pe_callB call_isi rfl Z.f_isinstance rfl (pa_cons (pe_ix ix_seq (pv 23) pe_int fun _ _ => rfl) (pa_cons (pe_bltn (v := .ty "tuple") (u := .type "tuple") rfl Z.f_tuple rfl rfl) pa_nil))))) (pw_or (pt_cmpR op_ne (pe_callB c_len rfl Z.f_len boot_len (pa_cons (pe_ix ix_seq (pv 23) pe_int fun _ _ => rfl) pa_nil)) pe_int (nomark _)) (pw_or1 (pt_not (pt_val (C8.pe_c c__law_bytes hr (by first | decide | assumption) rfl (pa_cons (pe_ix ix_seq (pe_ix ix_seq (pv 23) pe_int fun _ _ => rfl) pe_int fun _ _ => rfl) (pa_cons (pv 16) pa_nil))))))))) (pss_one (ps_ret pe_bl)) pss_nil)
    (pss_one (ps_ret (C8.pe_c c__law_same hr (by first | decide | assumption) rfl (pa_cons (pe_slice sl_tup (pe_ix ix_seq (pv 23) pe_int fun _ _ => rfl) (po_some pe_int) po_none) (pa_cons (pe_tup (pa_cons (pe_callTy c_tuple rfl Z.f_tuple rfl (pa_cons (pv 28) pa_nil)) (pa_cons (pv 29) (pa_cons (pv 18) pa_nil)))) pa_nil))))))))))))))))))))))))))))))))))
theorem sc_law : FnScope ["script"] ["script"] (defScope s_law) := C8.fnScope_by (by decide +kernel)
def t_law (K : PySem.W.Frag) (w : World)  : TS := (tRet (tCall (spM K 1 (f__law_all K)) [] C8.E0 (tCons (tVar 0) tNil)))
theorem d_law {P : Program} {w : World} {K : PySem.W.Frag} {mg : Str → Option Value} {base : Heap}  {fA : Addr} (Z : Fx K w mg) (c__law_all : C8.Cal P w K mg base 11 "_law_all" (spM K 1 (f__law_all K)) []) (cdv : Value) (A : Around) (outer : List Env) (s : Shared) (H : Hp) (E : XK)
    (hr : Room 11 (A.deeper (envOfC "law" (defScope s_law) s.heap.objs.size fA cdv))) : PSs (cxOf C8.CX0 P w K mg base ["script"] "law" (defScope s_law) fA cdv A outer s H E).nox (defBody s_law) (t_law K w ) :=
  have scx := sc_law
  (pss_one (ps_try_thru0 (pss_one (ps_ret (C8.pe_c c__law_all hr (by first | decide | assumption) rfl (pa_cons (pv 0) pa_nil))))))
end K69
set_option maxHeartbeats 4000000
namespace K69
open PySem PySem.Spec PyProof.Rows L2 Ow
variable {K : PySem.W.Frag} {w : World}
theorem re_v {ρ : En} {Q : D → En → Prop} {i : Nat} (h : ∃ d, ρ[i]? = some (some (.dat d)) ∧ Q d ρ) : RE K (tVar i) ρ Q := by
  obtain ⟨d, h1, h2⟩ := h
  exact re_var h1 h2
theorem re_meth {ρ : En} {Q : D → En → Prop} {ta : TE} {ts : TA} {n : Nat} {f : Fu} {E0' : XK} {C : Addr} {m : Str} (h0 : ∃ (i : Nat) (p : List Str) (a : Addr) (ns : List Str) (os : List O), RP K ta ρ i p (.ins a C ns os) ∧ m ∉ ns ∧
    RA K ts ρ fun as ρ1 => ∃ os1, Res ρ1 (.at i p a :: as) os1 ∧ (slotsOf (.at i p a :: as)).Nodup ∧ as.length + 1 = n ∧ f os1 fun r os' => ∃ d, r = .dat d ∧ Q d (pbk ρ1 (.at i p a :: as) os')) : RE K (tMeth C m (spM K n f) [] E0' ta ts) ρ Q := by
  obtain ⟨i, p, a, ns, os, hp, hm, h⟩ := h0
  exact re_ro (ro_meth hp hm h)
theorem rs_meth {ρ : En} {E : De} {ta : TE} {ts : TA} {n : Nat} {f : Fu} {E0' : XK} {C : Addr} {m : Str} (h0 : ∃ (i : Nat) (p : List Str) (a : Addr) (ns : List Str) (os : List O), RP K ta ρ i p (.ins a C ns os) ∧ m ∉ ns ∧
    RA K ts ρ fun as ρ1 => ∃ os1, Res ρ1 (.at i p a :: as) os1 ∧ (slotsOf (.at i p a :: as)).Nodup ∧ as.length + 1 = n ∧ f os1 fun r os' => E.nx (pbk ρ1 (.at i p a :: as) os')) : RS K (tDrop (tMeth C m (spM K n f) [] E0' ta ts)) ρ E := by
  obtain ⟨i, p, a, ns, os, hp, hm, h⟩ := h0
  exact rs_dropO (ro_meth hp hm h)
section
variable {ρ : En} {i : Nat} {Q : D → En → Prop} {tb : TE}
theorem re_ixV (h : ∃ a ds0, ρ[i]? = some (some (.lst a ds0)) ∧ RE K tb ρ fun j ρ2 => ∃ k a ds d, j = .int k ∧ ρ2[i]? = some (some (.lst a ds)) ∧ atI ds k = some d ∧ Q d ρ2) : RE K (tOp (rIx K) (tVar i) tb) ρ Q := by
  obtain ⟨a, ds0, h1, h2⟩ := h
  refine re_ixO (rp_var h1) ?_
  intro F σ H R Q' q
  refine h2 F σ H R Q' fun j ρ2 v H2 ⟨k, a2, ds, d, e1, e2, e3, e4⟩ R2 dv m => ?_
  have ea : a2 = a := by
    obtain ⟨v1, g1, g2⟩ := R.slot i _ h1
    obtain ⟨v2, g3, g4⟩ := R2.slot i _ e2
    rw [g1] at g3
    cases g3
    have r1 := g2.root (a := a) rfl
    have r2 := g4.root (a := a2) rfl
    rw [r1] at r2
    cases r2
    rfl
  subst ea
  exact q j ρ2 v H2 ⟨k, _, ds, d, e1, e2, sub_nil, e3, e4⟩ R2 dv m
theorem re_lenV (h : ∃ a ds0, ρ[i]? = some (some (.lst a ds0)) ∧ Q (.int ds0.length) ρ) : RE K (tCB (rLn K) (tCons (tVar i) tNil)) ρ Q := by
  obtain ⟨a, ds0, h1, h2⟩ := h
  exact re_lenO (rp_var h1) h2
theorem re_tupV (h : ∃ a ds0, ρ[i]? = some (some (.lst a ds0)) ∧ Q (.tup ds0) ρ) : RE K (tCB (rTp K) (tCons (tVar i) tNil)) ρ Q := by
  obtain ⟨a, ds0, h1, h2⟩ := h
  exact re_tupO (rp_var h1) h2
theorem ra_atV {ts : TA} {Qa : List Ar → En → Prop} (h : ∃ o a, ρ[i]? = some (some o) ∧ root o = some a ∧ RA K ts ρ fun as ρ2 => Qa (.at i [] a :: as) ρ2) : RA K (tCons (tVar i) ts) ρ Qa := by
  obtain ⟨o, a, h1, h2, h3⟩ := h
  exact ra_at (rp_var h1) h2 h3
theorem oT {ds : List D} {i : Int} {Qd : D → Prop} (h : ∃ d, atI ds i = some d ∧ Qd d) : ∃ d, OD (K := K) (rIx K) (.tup ds) (.int i) d ∧ Qd d := by
  obtain ⟨d, h1, h2⟩ := h
  exact ⟨d, od_ixT h1, h2⟩
theorem oL {ds : List D} {i : Int} {Qd : D → Prop} (h : ∃ d, atI ds i = some d ∧ Qd d) : ∃ d, OD (K := K) (rIx K) (.lst ds) (.int i) d ∧ Qd d := by
  obtain ⟨d, h1, h2⟩ := h
  exact ⟨d, od_ixL h1, h2⟩
theorem od_inF {d : D} {ds : List D} {b : Bool} (f : flatD d = true) (fs : ∀ z ∈ ds, flatD z = true) (e : inV (toV d) (ds.map toV) = b) {d2 : D} (h2 : d2 = .tup ds ∨ d2 = .lst ds) : OD (K := K) (rIn K false) d d2 (.bl b) := od_in (neg := false) f fs (by rw [if_neg Bool.false_ne_true]; exact e) h2
end
/-- what the head tells of classes and tables -/
structure Kx (K : PySem.W.Frag) (w : World) : Prop where
  cMem : Cls K (He.ga K "RawMemory")
  cMach : Cls K (He.ga K "RawMachine")
  cOut : Cls K (He.ga K "Outside")
  nRow : NoAttr K (He.ga K "RawMemory") "row"
  nMany : NoAttr K (He.ga K "RawMemory") "many"
  nMemory : NoAttr K (He.ga K "RawMachine") "memory"
  nBoxes : NoAttr K (He.ga K "RawMachine") "boxes"
  nAt : NoAttr K (He.ga K "RawMachine") "at"
  nTop : NoAttr K (He.ga K "RawMachine") "top"
  nOutside : NoAttr K (He.ga K "RawMachine") "outside"
  nAnswers : NoAttr K (He.ga K "Outside") "answers"
  nTaken : NoAttr K (He.ga K "Outside") "taken"
  nTold : NoAttr K (He.ga K "Outside") "told"
  words : ∀ H S, DV K H S (.tup (words.map .str)) (.ref (He.ga K "WORDS"))
  needed : ∀ H S, DV K H S (.tup [.str "ask", .str "out"]) (.ref (He.ga K "ANSWER_NEEDED"))
  ornone : ∀ H S, DV K H S (.tup [.str "get"]) (.ref (He.ga K "ANSWER_OR_NONE"))
  operands : ∀ x, x ∈ used → ∃ v, KDct K w (He.ga K "OPERANDS") x v ∧ ∀ H S, DV K H S (.tup ((kinds x).map .str)) v
  sizes : ∀ k : Str, k = "box" ∨ k = "byte" ∨ k = "address" → KDct K w (He.ga K "SIZES") k (.int (size1 k))
  deeds : ∀ q ∈ deedsOf, ∀ x ∈ q.2, KDct K w (He.ga K "RAW_DEEDS") x (.ref (He.ga K q.1))
section
variable {ρ : En} {i : Nat} {Q : D → En → Prop} {tb : TE} (G : Kx K w)
include G
theorem rp_row {a r ns} (h : ρ[i]? = some (some (memT K a r ns))) : RP K (tFld K (tVar i) "row") ρ i ["row"] (.lst r (ns.map .int)) := rp_fld (rp_var h) rfl G.cMem G.nRow
theorem re_many (h : ∃ a r ns, ρ[i]? = some (some (memT K a r ns)) ∧ Q (.int ns.length) ρ) : RE K (tFld K (tVar i) "many") ρ Q := by
  obtain ⟨a, r, ns, h, q⟩ := h
  exact re_path (rp_fld (rp_var h) rfl G.cMem G.nMany) q
theorem rp_told {a l ev} (h : ρ[i]? = some (some (outT K a l ev))) : RP K (tFld K (tVar i) "told") ρ i ["told"] (.lst l ev) := rp_fld (rp_var h) rfl G.cOut G.nTold
theorem rp_memory {A s} (h : ρ[i]? = some (some (machT K A s))) : RP K (tFld K (tVar i) "memory") ρ i ["memory"] (memT K A.mem A.row s.cells) := rp_fld (rp_var h) rfl G.cMach G.nMemory
theorem rp_boxes {A s} (h : ρ[i]? = some (some (machT K A s))) : RP K (tFld K (tVar i) "boxes") ρ i ["boxes"] (.lst A.box (s.boxes.map .int)) := rp_fld (rp_var h) rfl G.cMach G.nBoxes
theorem re_box (h : ∃ A s, ρ[i]? = some (some (machT K A s)) ∧ RE K tb ρ fun j ρ2 => ∃ k A2 s d, j = .int k ∧ ρ2[i]? = some (some (machT K A2 s)) ∧ A2.box = A.box ∧ atI (s.boxes.map D.int) k = some d ∧ Q d ρ2) : RE K (tOp (rIx K) (tFld K (tVar i) "boxes") tb) ρ Q := by
  obtain ⟨A, s, h1, h2⟩ := h
  refine re_ixO (rp_boxes G h1) ?_
  intro F σ H R Q' q
  refine h2 F σ H R Q' fun j ρ2 v H2 ⟨k, A2, s2, d, e1, e2, e3, e4, e5⟩ R2 dv m => ?_
  exact q j ρ2 v H2 ⟨k, _, s2.boxes.map D.int, d, e1, e2, by rw [← e3]; rfl, e4, e5⟩ R2 dv m
theorem rp_outside {A s} (h : ρ[i]? = some (some (machT K A s))) : RP K (tFld K (tVar i) "outside") ρ i ["outside"] (outT K A.out A.told s.ev) := rp_fld (rp_var h) rfl G.cMach G.nOutside
theorem re_at (h : ∃ A s, ρ[i]? = some (some (machT K A s)) ∧ Q (.int s.at_) ρ) : RE K (tFld K (tVar i) "at") ρ Q := by
  obtain ⟨A, s, h, q⟩ := h
  exact re_path (rp_fld (rp_var h) rfl G.cMach G.nAt) q
theorem re_top (h : ∃ A s, ρ[i]? = some (some (machT K A s)) ∧ Q (.int s.top) ρ) : RE K (tFld K (tVar i) "top") ρ Q := by
  obtain ⟨A, s, h, q⟩ := h
  exact re_path (rp_fld (rp_var h) rfl G.cMach G.nTop) q

omit G in
theorem rs_fldS {te : TE} {f : Str} {E : De} (h : RO K te ρ fun z ρ1 => ∃ a C ns os, ρ1[i]? = some (some (.ins a C ns os)) ∧ Cls K C ∧ NoAttr K C f ∧ ns.length < 1000 ∧ E.nx (ρ1.set i (some (.ins a C (setN ns f) (setF ns os f z))))) : RS K (sFld K (tVar i) te f) ρ E :=
  rs_fld fun F σ H R Q' k => h F σ H R Q' fun z ρ1 v H1 ⟨a, C, ns, os, h1, h2, h3, h4, h5⟩ => k z ρ1 v H1 ⟨i, [], a, C, ns, os, rp_var h1, h2, h3, h4, fun o e => by rw [h1] at e; cases e; rw [putAt_nil]; exact h5⟩
end
theorem dvI {H : Hp} {S : Addr → Prop} {i : Int} : DV K H S (.int i) (.int i) := by unfold DV; rfl
theorem dvR {H : Hp} {S : Addr → Prop} {i : Addr} : DV K H S (.ref i) (.ref i) := by unfold DV; rfl
theorem isi_int_int {i : Int} : CD (K := K) (rIsi K) [.int i, .ty "int"] (.bl true) := cd_isi rfl (by decide +kernel)
theorem isi_int_bool {i : Int} : CD (K := K) (rIsi K) [.int i, .ty "bool"] (.bl false) := cd_isi rfl (by decide +kernel)
theorem isi_int_str {i : Int} : CD (K := K) (rIsi K) [.int i, .ty "str"] (.bl false) := cd_isi rfl (by decide +kernel)
theorem isi_int_tuple {i : Int} : CD (K := K) (rIsi K) [.int i, .ty "tuple"] (.bl false) := cd_isi rfl (by decide +kernel)
theorem isi_str_int {i : Str} : CD (K := K) (rIsi K) [.str i, .ty "int"] (.bl false) := cd_isi rfl (by decide +kernel)
theorem isi_str_bool {i : Str} : CD (K := K) (rIsi K) [.str i, .ty "bool"] (.bl false) := cd_isi rfl (by decide +kernel)
theorem isi_str_str {i : Str} : CD (K := K) (rIsi K) [.str i, .ty "str"] (.bl true) := cd_isi rfl (by decide +kernel)
theorem isi_str_tuple {i : Str} : CD (K := K) (rIsi K) [.str i, .ty "tuple"] (.bl false) := cd_isi rfl (by decide +kernel)
theorem isi_tup_tuple {ds : List D} : CD (K := K) (rIsi K) [.tup ds, .ty "tuple"] (.bl true) := cd_isi rfl (by decide +kernel)
end K69
namespace K69
open PySem PySem.Spec PyProof.Rows L2 Ow
set_option maxHeartbeats 4000000
local macro_rules
  | `(tactic| walk_at "od") => `(tactic| first
    | with_reducible refine ⟨_, od_I0, ?_⟩
    | with_reducible refine ⟨_, od_B0, ?_⟩
    | with_reducible refine ⟨_, od_eqI, ?_⟩
    | with_reducible refine ⟨_, od_eqB, ?_⟩
    | with_reducible refine ⟨_, od_eqS, ?_⟩
    | with_reducible refine ⟨_, od_neS, ?_⟩
    | with_reducible refine ⟨_, od_neB, ?_⟩
    | with_reducible refine ⟨_, od_notNT, ?_⟩
    | with_reducible refine ⟨_, od_isNT, ?_⟩
    | with_reducible refine ⟨_, od_ip, ?_⟩
    | with_reducible refine ⟨_, ud_I, ?_⟩)
local macro_rules
  | `(tactic| walk_at "cd") => `(tactic| first
    | with_reducible refine ⟨_, isi_int_int, ?_⟩
    | with_reducible refine ⟨_, isi_int_bool, ?_⟩
    | with_reducible refine ⟨_, isi_int_str, ?_⟩
    | with_reducible refine ⟨_, isi_int_tuple, ?_⟩
    | with_reducible refine ⟨_, isi_str_int, ?_⟩
    | with_reducible refine ⟨_, isi_str_bool, ?_⟩
    | with_reducible refine ⟨_, isi_str_str, ?_⟩
    | with_reducible refine ⟨_, isi_str_tuple, ?_⟩
    | with_reducible refine ⟨_, isi_tup_tuple, ?_⟩
    | with_reducible refine ⟨_, cd_intI, ?_⟩
    | with_reducible refine ⟨_, cd_intB, ?_⟩
    | with_reducible refine ⟨_, cd_lenT, ?_⟩
    | with_reducible refine ⟨_, cd_lenL, ?_⟩
    | with_reducible refine ⟨_, cd_lenX, ?_⟩
    | with_reducible refine ⟨_, cd_tupL, ?_⟩
    | with_reducible refine ⟨_, cd_tupT, ?_⟩)
local macro_rules
  | `(tactic| walk_at "kx") => `(tactic| first
    | exact Kx.cMem (w := _) (by assumption) | exact Kx.cMach (w := _) (by assumption) | exact Kx.cOut (w := _) (by assumption) | exact Kx.nRow (w := _) (by assumption) | exact Kx.nMany (w := _) (by assumption) | exact Kx.nMemory (w := _) (by assumption) | exact Kx.nBoxes (w := _) (by assumption) | exact Kx.nAt (w := _) (by assumption) | exact Kx.nTop (w := _) (by assumption) | exact Kx.nOutside (w := _) (by assumption) | exact Kx.nAnswers (w := _) (by assumption) | exact Kx.nTaken (w := _) (by assumption) | exact Kx.nTold (w := _) (by assumption))
local macro_rules
  | `(tactic| walk_at "rp") => `(tactic| first
    | with_reducible exact rp_row (w := _) (by assumption) rfl
    | ((with_reducible refine rp_row (w := _) (by assumption) ?_); exact rfl)
    | ((with_reducible refine rp_told (w := _) (by assumption) ?_); exact rfl)
    | ((with_reducible refine rp_memory (w := _) (by assumption) ?_); exact rfl)
    | ((with_reducible refine rp_boxes (w := _) (by assumption) ?_); exact rfl)
    | ((with_reducible refine rp_outside (w := _) (by assumption) ?_); exact rfl)
    | ((with_reducible refine rp_var ?_); exact rfl))
local macro_rules
  | `(tactic| walk_at "bl") => `(tactic| first
    | with_reducible refine ⟨true, rfl, fun (_ : true = true) => ?_, fun h => absurd (Eq.symm h) Bool.false_ne_true⟩
    | with_reducible refine ⟨true, rfl, fun h => absurd (Eq.symm h) Bool.false_ne_true, fun (_ : true = true) => ?_⟩
    | with_reducible refine ⟨false, rfl, fun h => absurd h Bool.false_ne_true, fun (_ : false = false) => ?_⟩
    | with_reducible refine ⟨false, rfl, fun (_ : false = false) => ?_, fun h => absurd h Bool.false_ne_true⟩
    | with_reducible refine ⟨_, rfl, ?_⟩)
local macro_rules
  | `(tactic| walk_at "if") => `(tactic| first
    | with_reducible refine ⟨fun (_ : true = true) => ?_, fun h => absurd (Eq.symm h) Bool.false_ne_true⟩
    | with_reducible refine ⟨fun h => absurd (Eq.symm h) Bool.false_ne_true, fun (_ : true = true) => ?_⟩
    | with_reducible refine ⟨fun h => absurd h Bool.false_ne_true, fun (_ : false = false) => ?_⟩
    | with_reducible refine ⟨fun (_ : false = false) => ?_, fun h => absurd h Bool.false_ne_true⟩
    | refine ⟨fun (h : (!true) = true) => absurd h Bool.false_ne_true, fun _ => ?_⟩
    | refine ⟨fun _ => ?_, fun (h : (!true) = true) => absurd h Bool.false_ne_true⟩
    | refine ⟨fun _ => ?_, fun (h : (!false) = false) => absurd (Eq.symm h) Bool.false_ne_true⟩
    | refine ⟨fun (h : (!false) = false) => absurd (Eq.symm h) Bool.false_ne_true, fun _ => ?_⟩)
local macro_rules
  | `(tactic| walk_at "res") => `(tactic| repeat (first | exact Res.nil | apply Res.dat | apply Res.at rfl rfl rfl))
local macro_rules
  | `(tactic| walk_at "args") => `(tactic| (apply Exists.intro; apply And.intro; (focus walk_at "res"); (refine ⟨?_, ?_, ?_⟩); (focus simp [slotsOf]); (focus rfl)))
local macro_rules
  | `(tactic| walk_at "vs") => `(tactic| (intro v hv o e; simp only [List.mem_cons, List.not_mem_nil, or_false] at hv; subst hv; first | exact nomatch e | (cases e; exact ⟨_, rfl⟩)))
local macro_rules
  | `(tactic| walk_at "recv") => `(tactic| first
    | refine ⟨_, _, _, _, _, rp_var rfl, by decide +kernel, ?_⟩
    | refine ⟨_, _, _, _, _, rp_memory (w := _) (by assumption) rfl, by decide +kernel, ?_⟩
    | refine ⟨_, _, _, _, _, rp_outside (w := _) (by assumption) rfl, by decide +kernel, ?_⟩)
local macro_rules
  | `(tactic| walk_at "meth") => `(tactic| first
    | ((with_reducible refine re_meth ?_); walk_at "recv")
    | ((with_reducible refine rs_meth ?_); walk_at "recv"))
local macro_rules
  | `(tactic| walk_at "ow1") => `(tactic| first
    | with_reducible refine rs_seq ?_
    | with_reducible refine rs_ret ?_
    | with_reducible refine rs_next ?_
    | with_reducible refine rs_if ?_
    | with_reducible refine rt_test ?_
    | with_reducible refine rt_B ?_
    | with_reducible refine rt_not ?_
    | with_reducible refine rt_or ?_
    | with_reducible refine rt_and ?_
    | with_reducible refine re_int ?_
    | with_reducible refine re_str ?_
    | with_reducible refine re_bl ?_
    | with_reducible refine re_non ?_
    | with_reducible refine re_kt (Kx.words (w := _) (by assumption)) ?_
    | with_reducible refine re_kt (Kx.needed (w := _) (by assumption)) ?_
    | with_reducible refine re_kt (Kx.ornone (w := _) (by assumption)) ?_
    | with_reducible refine re_ref ?_
    | with_reducible refine re_ty ?_
    | ((with_reducible refine re_box (w := _) (by assumption) ?_); refine ⟨_, _, rfl, ?_⟩)
    | ((with_reducible refine re_ixV ?_); refine ⟨_, _, rfl, ?_⟩)
    | with_reducible refine re_op ?_
    | with_reducible refine re_un ?_
    | with_reducible refine re_and ?_
    | with_reducible refine re_or ?_
    | with_reducible refine re_not ?_
    | with_reducible refine re_if ?_
    | with_reducible refine re_chain ?_
    | ((with_reducible refine re_lenV ?_); refine ⟨_, _, rfl, ?_⟩)
    | ((with_reducible refine re_tupV ?_); refine ⟨_, _, rfl, ?_⟩)
    | with_reducible refine re_cb ?_
    | with_reducible refine re_callF ?_
    | with_reducible refine rd_nil ?_
    | with_reducible refine rd_cons ?_
    | with_reducible refine ra_nil ?_
    | ((with_reducible refine ra_atV ?_); refine ⟨_, _, rfl, rfl, ?_⟩)
    | with_reducible refine ra_dat ?_
    | with_reducible refine re_tup ?_
    | ((with_reducible refine re_v ?_); refine ⟨_, rfl, ?_⟩)
    | ((with_reducible refine re_many (w := _) (by assumption) ?_); refine ⟨_, _, _, rfl, ?_⟩)
    | ((with_reducible refine re_at (w := _) (by assumption) ?_); refine ⟨_, _, rfl, ?_⟩)
    | ((with_reducible refine re_top (w := _) (by assumption) ?_); refine ⟨_, _, rfl, ?_⟩)
    | walk_at "meth"
    | ((with_reducible refine rg_tup ?_ ?_); (focus rfl))
    | with_reducible refine rgs_cons ?_
    | with_reducible refine rgs_nil ?_
    | ((with_reducible refine rg_name ?_ ?_); (focus exact Nat.le_of_ble_eq_true rfl); (try dsimp only [List.set]))
    | with_reducible refine rs_set ?_
    | with_reducible refine rs_asg ?_
    | (refine ⟨Nat.le_of_ble_eq_true rfl, ?_⟩; (try dsimp only [List.set]))
    | walk_at "od"
    | walk_at "cd"
    | walk_at "bl"
    | walk_at "if"
    | walk_at "args"
    | refine ⟨Nat.le_of_lt (small1000 (Nat.le_of_ble_eq_true rfl)), ?_⟩)
local macro_rules
  | `(tactic| walk_at "ow") => `(tactic| repeat (walk_at "ow1"))
section
variable {K : PySem.W.Frag} {w : World}
abbrev RSf (K : PySem.W.Frag) (n m : Nat) (f : Fu) (t : TS) : Prop := ∀ os Post, os.length = n → f os Post → RS K t (os.map some ++ List.replicate m none) (fin os Post)
theorem rs_is_integer : RSf K 1 0 (f_is_integer K) (t_is_integer K w) := by
  rintro os Post - ⟨i, rfl, hP⟩
  change RS _ _ [_] _
  unfold t_is_integer
  walk_at "ow"
  exact ⟨hP, rfl⟩
theorem rs_is_number : RSf K 1 0 (f_is_number K) (t_is_number K w) := by
  rintro os Post - ⟨i, rfl, hP⟩
  change RS _ _ [_] _
  unfold t_is_number
  walk_at "ow"
  refine ⟨rfl, _, rfl, ?_⟩
  walk_at "ow"
  exact ⟨hP, rfl⟩
theorem rs_is_number_below : RSf K 2 0 (f_is_number_below K) (t_is_number_below K w) := by
  rintro os Post - ⟨i, l, rfl, hP⟩
  change RS _ _ [_, _] _
  unfold t_is_number_below
  walk_at "ow"
  refine ⟨rfl, _, rfl, ?_⟩
  walk_at "ow"
  refine ⟨fun h => ?_, fun h => ?_⟩
  · walk_at "ow"
    rw [h, Bool.true_and] at hP
    exact ⟨hP, rfl⟩
  · rw [h, Bool.false_and] at hP
    exact ⟨hP, rfl⟩
theorem rs_is_byte : RSf K 1 0 (f_is_byte K) (t_is_byte K w) := by
  rintro os Post - ⟨i, rfl, hP⟩
  change RS _ _ [_] _
  unfold t_is_byte
  walk_at "ow"
  refine ⟨rfl, _, _, rfl, ?_⟩
  walk_at "ow"
  exact ⟨hP, rfl⟩
theorem rs_is_tuple_of : RSf K 2 0 (f_is_tuple_of K) (t_is_tuple_of K w) := by
  rintro os Post - ⟨ds, n, rfl, hP⟩
  change RS _ _ [_, _] _
  unfold t_is_tuple_of
  walk_at "ow"
  exact ⟨hP, rfl⟩
theorem all_true (ns : List Int) : ((ns.map fun _ => true).all id) = true := by
  rw [List.all_eq_true]
  intro x hx
  obtain ⟨_, _, rfl⟩ := List.mem_map.mp hx
  rfl
theorem map_at {α β : Type} {l : List α} {f : α → β} {i : Nat} {d : β} (h : (l.map f)[i]? = some d) : ∃ x, l[i]? = some x ∧ x ∈ l ∧ d = f x := by
  rw [List.getElem?_map] at h
  cases e : l[i]? with
  | none => rw [e] at h; cases h
  | some x => rw [e] at h; cases h; exact ⟨x, rfl, List.mem_of_getElem? e, rfl⟩
theorem rs_are_bytes : RSf K 1 1 (f_are_bytes K) (t_are_bytes K w) := by
  rintro os Post - ⟨ns, rfl, hn, hb, hP⟩
  change RS _ _ [_, _] _
  unfold t_are_bytes
  walk_at "ow"
  refine re_lcM (ri_tup ?_)
  walk_at "ow"
  refine ⟨by walk_at "vs", by rw [List.length_map]; exact hn, (ns.map fun _ => true).map .bl, by simp, fun i d e h1 h2 => ?_, ?_⟩
  · obtain ⟨x, h3, h4, rfl⟩ := map_at h1
    obtain ⟨y, h5, h6, rfl⟩ := map_at h2
    obtain ⟨_, _, _, rfl⟩ := map_at h5
    refine rc_name (Nat.le_of_ble_eq_true rfl) ?_
    walk_at "ow"
    refine ⟨rfl, _, rfl, ?_⟩
    have hb2 := hb x h4
    rw [decide_eq_true hb2.1, decide_eq_true hb2.2]
    exact ⟨_, rfl, rfl, rfl⟩
  · walk_at "ow"
    refine ⟨_, cd_all, ?_⟩
    rw [all_true]
    exact ⟨hP, rfl⟩
theorem rs_are_below : RSf K 2 1 (f_are_below K) (t_are_below K w) := by
  rintro os Post - ⟨ns, l, rfl, hn, hb, hP⟩
  change RS _ _ [_, _, _] _
  unfold t_are_below
  walk_at "ow"
  refine re_lcM (ri_tup ?_)
  walk_at "ow"
  refine ⟨by walk_at "vs", by rw [List.length_map]; exact hn, (ns.map fun _ => true).map .bl, by simp, fun i d e h1 h2 => ?_, ?_⟩
  · obtain ⟨x, h3, h4, rfl⟩ := map_at h1
    obtain ⟨y, h5, h6, rfl⟩ := map_at h2
    obtain ⟨_, _, _, rfl⟩ := map_at h5
    refine rc_name (Nat.le_of_ble_eq_true rfl) ?_
    walk_at "ow"
    refine ⟨rfl, _, _, rfl, ?_⟩
    have hb2 := hb x h4
    rw [decide_eq_true hb2.1, decide_eq_true hb2.2]
    exact ⟨_, rfl, rfl, rfl⟩
  · walk_at "ow"
    refine ⟨_, cd_all, ?_⟩
    rw [all_true]
    exact ⟨hP, rfl⟩
theorem rs_are_numbers_below : RSf K 3 0 (f_are_numbers_below K) (t_are_numbers_below K w) := by
  rintro os Post - ⟨ns, n, l, rfl, hn, hl, hb, hP⟩
  change RS _ _ [_, _, _] _
  unfold t_are_numbers_below
  walk_at "ow"
  refine ⟨rfl, _, _, rfl, ?_⟩
  rw [decide_eq_true (by rw [List.length_map]; exact hl)]
  walk_at "ow"
  refine ⟨rfl, _, _, rfl, hn, hb, ?_⟩
  walk_at "ow"
  exact ⟨hP, rfl⟩
theorem rs_is_opcode (G : Kx K w) : RSf K 1 0 (f_is_opcode K) (t_is_opcode K w) := by
  rintro os Post - ⟨i, rfl, hP⟩
  change RS _ _ [_] _
  unfold t_is_opcode
  walk_at "ow"
  refine ⟨fun h => ?_, fun h => ?_⟩
  · walk_at "ow"
    rw [h, Bool.true_and] at hP
    exact ⟨hP, rfl⟩
  · rw [h, Bool.false_and] at hP
    exact ⟨hP, rfl⟩
theorem rs_word_of (G : Kx K w) : RSf K 1 0 (f_word_of K) (t_word_of K w) := by
  rintro os Post - ⟨j, x, rfl, hx, hP⟩
  change RS _ _ [_] _
  unfold t_word_of
  walk_at "ow"
  refine ⟨_, od_ixT (d := .str x) ?_, hP, rfl⟩
  rw [show (j : Int) + 1 - 1 = (j : Int) by omega]
  exact atI_nat (by rw [List.getElem?_map, hx]; rfl)
theorem kinds_mem {x k : Str} (h : k ∈ kinds x) : k = "box" ∨ k = "byte" ∨ k = "address" := by
  unfold kinds at h
  repeat' split at h
  all_goals simp at h
  all_goals (rcases h with rfl | rfl | rfl | h <;> simp_all)
theorem rs_length_of (G : Kx K w) : RSf K 1 1 (f_length_of K) (t_length_of K w) := by
  rintro os Post - ⟨x, rfl, hx, hP⟩
  change RS _ _ [_, _] _
  unfold t_length_of
  obtain ⟨v, hv, hd⟩ := G.operands x hx
  walk_at "ow"
  refine re_lcM (ri_tup ?_)
  walk_at "ow"
  refine ⟨_, od_ixD hv hd, ?_⟩
  walk_at "ow"
  refine ⟨by walk_at "vs", ?_, ((kinds x).map size1).map .int, by simp, fun i d e h1 h2 => ?_, ?_⟩
  · rw [List.length_map]
    exact small1000 (by unfold kinds; repeat' split
                        all_goals decide)
  · obtain ⟨k, h3, h4, rfl⟩ := map_at h1
    obtain ⟨y, h5, h6, rfl⟩ := map_at h2
    obtain ⟨z, h7, h8, rfl⟩ := map_at h5
    have : z = k := Option.some.inj (h7.symm.trans h3)
    subst this
    refine rc_name (Nat.le_of_ble_eq_true rfl) ?_
    walk_at "ow"
    refine ⟨_, od_ixD (G.sizes z (kinds_mem h4)) (fun _ _ => dvI), ?_⟩
    exact ⟨rfl, rfl⟩
  · walk_at "ow"
    refine ⟨_, cd_sum, ?_⟩
    walk_at "ow"
    exact ⟨hP, rfl⟩
theorem rs_sum_of : RSf K 3 0 (f_sum_of K) (t_sum_of K w) := by
  rintro os Post - ⟨x, a, b, rfl, hx, h1, h2, hP⟩
  change RS _ _ [_, _, _] _
  unfold t_sum_of
  walk_at "ow"
  refine ⟨fun h => ?_, fun h => ?_⟩
  · have e : x = "add" := of_decide_eq_true h
    subst e
    walk_at "ow"
    refine ⟨_, od_I (by decide), ?_⟩
    exact ⟨hP, rfl⟩
  · have e : x ≠ "add" := of_decide_eq_false h
    walk_at "ow"
    refine ⟨fun h => ?_, fun h => ?_⟩
    · have e : x = "sub" := of_decide_eq_true h
      subst e
      walk_at "ow"
      refine ⟨_, od_I (by decide), ?_⟩
      exact ⟨hP, rfl⟩
    · have e2 : x ≠ "sub" := of_decide_eq_false h
      walk_at "ow"
      refine ⟨_, od_I (.inl (by omega)), ?_⟩
      walk_at "ow"
      refine ⟨_, od_I (by decide), ?_⟩
      unfold sumV at hP
      rw [if_neg e, if_neg e2] at hP
      exact ⟨hP, rfl⟩
theorem rs_test_holds : RSf K 3 0 (f_test_holds K) (t_test_holds K w) := by
  rintro os Post - ⟨a, b, rfl, hP⟩
  change RS _ _ [_, _, _] _
  unfold t_test_holds
  walk_at "ow"
  exact ⟨hP, rfl⟩
theorem rs_high_and_low : RSf K 1 0 (f_high_and_low K) (t_high_and_low K w) := by
  rintro os Post - ⟨n, rfl, hP⟩
  change RS _ _ [_] _
  unfold t_high_and_low
  walk_at "ow"
  refine ⟨_, od_I ⟨by decide, by decide⟩, ?_⟩
  walk_at "ow"
  refine ⟨_, od_I (by decide), ?_⟩
  walk_at "ow"
  exact ⟨hP, rfl⟩
theorem rs_joined_bytes : RSf K 2 0 (f_joined_bytes K) (t_joined_bytes K w) := by
  rintro os Post - ⟨a, b, rfl, hP⟩
  change RS _ _ [_, _] _
  unfold t_joined_bytes
  walk_at "ow"
  refine ⟨_, od_I (.inr (by decide)), ?_⟩
  walk_at "ow"
  exact ⟨hP, rfl⟩
theorem rs_Outside_tell (G : Kx K w) : RSf K 2 0 (f_Outside_tell K) (t_Outside_tell K w) := by
  rintro os Post - ⟨a, l, ev, d, rfl, hl, hP⟩
  change RS _ _ [_, _] _
  unfold t_Outside_tell
  refine rs_append (rp_told G rfl) ?_
  walk_at "ow"
  exact ⟨_, _, rfl, rfl, hl, hP, rfl⟩
theorem rs_Outside_events (G : Kx K w) : RSf K 1 0 (f_Outside_events K) (t_Outside_events K w) := by
  rintro os Post - ⟨a, l, ev, rfl, hP⟩
  change RS _ _ [_] _
  unfold t_Outside_events
  refine rs_ret (re_tupO (rp_told G rfl) ?_)
  exact ⟨hP, rfl⟩
theorem rs_RawMemory_place_of_address (G : Kx K w) : RSf K 2 0 (f_RawMemory_place_of_address K) (t_RawMemory_place_of_address K w) := by
  rintro os Post - ⟨a, r, ns, i, rfl, hne, hP⟩
  change RS _ _ [_, _] _
  unfold t_RawMemory_place_of_address
  walk_at "ow"
  have hl : 0 < ns.length := List.length_pos_iff.mpr hne
  refine ⟨_, od_I (by omega), ?_⟩
  exact ⟨hP, rfl⟩
theorem pl_lt {ns : List Int} (h : ns ≠ []) (i : Int) : 0 ≤ pl ns i ∧ pl ns i < ns.length := by
  have hl : 0 < ns.length := List.length_pos_iff.mpr h
  exact ⟨Int.emod_nonneg _ (by omega), Int.emod_lt_of_pos _ (by omega)⟩
theorem at_pl {ns : List Int} (h : ns ≠ []) (i : Int) : atI (ns.map D.int) (pl ns i) = some (.int (gI ns i)) := by
  obtain ⟨h1, h2⟩ := pl_lt h i
  have e : pl ns i = ((pl ns i).toNat : Int) := by omega
  have hlt : (pl ns i).toNat < ns.length := by omega
  rw [e]
  refine atI_nat ?_
  rw [List.getElem?_map, List.getElem?_eq_getElem hlt]
  unfold gI
  rw [List.getD_eq_getElem?_getD, List.getElem?_eq_getElem hlt]
  rfl
theorem ixN_pl {ns : List Int} (h : ns ≠ []) (i : Int) : ixN (ns.map D.int).length (pl ns i) = some (pl ns i).toNat := by
  obtain ⟨h1, h2⟩ := pl_lt h i
  unfold ixN
  rw [List.length_map, if_pos h1, if_pos h2]
theorem sI_ne {ns : List Int} (h : ns ≠ []) (i b : Int) : sI ns i b ≠ [] := fun e => h (by
  have := congrArg List.length e
  unfold sI at this
  rw [List.length_set] at this
  exact List.length_eq_zero_iff.mp this)
theorem sI_len {ns : List Int} (i b : Int) : (sI ns i b).length = ns.length := by unfold sI; rw [List.length_set]
theorem rs_RawMemory_byte_at (G : Kx K w) : RSf K 2 0 (f_RawMemory_byte_at K) (t_RawMemory_byte_at K w) := by
  rintro os Post - ⟨a, r, ns, i, rfl, hne, hP⟩
  change RS _ _ [_, _] _
  unfold t_RawMemory_byte_at
  refine rs_ret (re_ixO (rp_row G rfl) ?_)
  walk_at "ow"
  refine ⟨_, _, _, _, rfl, hne, ?_⟩
  refine ⟨_, rfl, _, _, _, _, rfl, rfl, rfl, at_pl hne i, ?_⟩
  exact ⟨hP, rfl⟩
theorem rs_RawMemory_set_byte (G : Kx K w) : RSf K 3 0 (f_RawMemory_set_byte K) (t_RawMemory_set_byte K w) := by
  rintro os Post - ⟨a, r, ns, i, b, rfl, hne, hP⟩
  change RS _ _ [_, _, _] _
  unfold t_RawMemory_set_byte
  refine rs_setix (i := 0) (p := ["row"]) (a := r) (ds0 := ns.map .int) ?_
  walk_at "ow"
  refine ⟨rp_row G rfl, ?_⟩
  walk_at "ow"
  refine ⟨_, _, _, _, rfl, hne, ?_⟩
  refine ⟨_, rfl, _, _, _, _, rfl, rfl, rfl, ixN_pl hne i, ?_⟩
  rw [show (ns.map D.int).set (pl ns i).toNat (.int b) = (sI ns i b).map .int by unfold sI; rw [List.map_set]]
  have hP' : Post (.dat .non) [.ins a (He.ga K "RawMemory") memF [.lst r ((sI ns i b).map .int), .dat (.int ns.length)], di i, di b] := by
    rw [show (ns.length : Int) = ((sI ns i b).length : Int) by rw [sI_len]]
    exact hP
  exact ⟨hP', rfl⟩
theorem rs_RawMemory_pair_at (G : Kx K w) : RSf K 2 0 (f_RawMemory_pair_at K) (t_RawMemory_pair_at K w) := by
  rintro os Post - ⟨a, r, ns, i, rfl, hne, hP⟩
  change RS _ _ [_, _] _
  unfold t_RawMemory_pair_at
  walk_at "ow"
  refine ⟨_, _, _, _, rfl, hne, _, rfl, ?_⟩
  walk_at "ow"
  refine ⟨_, _, _, _, rfl, hne, _, rfl, ?_⟩
  walk_at "ow"
  refine ⟨rfl, _, _, rfl, _, rfl, ?_⟩
  exact ⟨hP, rfl⟩
theorem rs_RawMemory_set_pair (G : Kx K w) : RSf K 3 2 (f_RawMemory_set_pair K) (t_RawMemory_set_pair K w) := by
  rintro os Post - ⟨a, r, ns, i, n, rfl, hne, hP⟩
  change RS _ _ [_, _, _, _, _] _
  unfold t_RawMemory_set_pair
  walk_at "ow"
  refine ⟨rfl, _, rfl, _, rfl, ?_⟩
  walk_at "ow"
  refine ⟨_, _, _, _, _, rfl, hne, ?_⟩
  change RS K _ [some (memT K a r _), _, _, _, _] _
  walk_at "ow"
  refine ⟨_, _, _, _, _, rfl, sI_ne hne _ _, ?_⟩
  exact ⟨hP, rfl⟩
theorem rs_Outside_init (G : Kx K w) : RSf K 2 0 (f_Outside_init K) (t_Outside_init K w) := by
  rintro os Post - ⟨a, C, rfl, rfl, hP⟩
  change RS _ _ [_, _] _
  unfold t_Outside_init
  refine rs_seq (rs_fldS (ro_of ?_))
  walk_at "ow"
  refine ⟨_, _, _, _, rfl, G.cOut, G.nAnswers, by decide, ?_⟩
  refine rs_seq (rs_fldS (ro_of ?_))
  walk_at "ow"
  refine ⟨_, _, _, _, rfl, G.cOut, G.nTaken, by decide, ?_⟩
  refine rs_fldS (ro_lst ?_)
  walk_at "ow"
  intro l
  refine ⟨_, _, _, _, rfl, G.cOut, G.nTold, by decide, ?_⟩
  exact ⟨hP l, rfl⟩
theorem rs_RawMemory_init (G : Kx K w) : RSf K 2 0 (f_RawMemory_init K) (t_RawMemory_init K w) := by
  rintro os Post - ⟨a, C, ns, rfl, rfl, hP⟩
  change RS _ _ [_, _] _
  unfold t_RawMemory_init
  refine rs_seq (rs_fldS (ro_list ?_))
  walk_at "ow"
  refine ⟨_, .inl rfl, fun r => ?_⟩
  refine ⟨_, _, _, _, rfl, G.cMem, G.nRow, by decide, ?_⟩
  refine rs_fldS (ro_of ?_)
  walk_at "ow"
  refine ⟨_, _, _, _, rfl, G.cMem, G.nMany, by decide, ?_⟩
  have e : Post (.dat .non) [.ins a (He.ga K "RawMemory") memF [.lst r (ns.map .int), .dat (.int (ns.map D.int).length)], .dat (dI ns)] := by
    rw [List.length_map]
    exact hP r
  exact ⟨e, rfl⟩
theorem rs_RawMemory_whole (G : Kx K w) : RSf K 1 0 (f_RawMemory_whole K) (t_RawMemory_whole K w) := by
  rintro os Post - ⟨a, r, ns, rfl, hP⟩
  change RS _ _ [_] _
  unfold t_RawMemory_whole
  refine rs_ret (re_tupO (rp_row G rfl) ?_)
  exact ⟨hP, rfl⟩
theorem rs_RawMemory_operand (G : Kx K w) : RSf K 3 0 (f_RawMemory_operand K) (t_RawMemory_operand K w) := by
  rintro os Post - ⟨a, r, ns, k, i, rfl, hne, hP⟩
  change RS _ _ [_, _, _] _
  unfold t_RawMemory_operand
  walk_at "ow"
  unfold opV at hP
  refine ⟨fun h => ?_, fun h => ?_⟩
  · rw [if_pos (of_decide_eq_true h)] at hP
    walk_at "ow"
    refine ⟨_, _, _, _, rfl, hne, _, rfl, ?_⟩
    exact ⟨hP, rfl⟩
  · rw [if_neg (of_decide_eq_false h)] at hP
    walk_at "ow"
    refine ⟨fun h => ?_, fun h => ?_⟩
    · rw [if_pos (of_decide_eq_true h)] at hP
      walk_at "ow"
      refine ⟨_, _, _, _, rfl, hne, _, rfl, ?_⟩
      walk_at "ow"
      refine ⟨_, od_I (by decide), ?_⟩
      exact ⟨hP, rfl⟩
    · rw [if_neg (of_decide_eq_false h)] at hP
      walk_at "ow"
      refine ⟨_, _, _, _, rfl, hne, _, rfl, ?_⟩
      exact ⟨hP, rfl⟩
theorem opsV_get (ns : List Int) : ∀ (ks : List Str) (i : Int) (n : Nat) (k : Str), ks[n]? = some k → (opsV ns ks i).take (n + 1) = (opsV ns ks i).take n ++ [opV ns k (i + ((ks.take n).map size1).sum)]
  | [], i, n, k, h => by simp at h
  | k0 :: ks, i, 0, k, h => by
    have : k0 = k := by simpa using h
    subst this
    simp [opsV]
  | k0 :: ks, i, n + 1, k, h => by
    have h' : ks[n]? = some k := by simpa using h
    show opV ns k0 i :: (opsV ns ks (i + size1 k0)).take (n + 1) = opV ns k0 i :: ((opsV ns ks (i + size1 k0)).take n ++ [opV ns k (i + (((k0 :: ks).take (n + 1)).map size1).sum)])
    rw [opsV_get ns ks (i + size1 k0) n k h']
    simp only [List.take_succ_cons, List.map_cons, List.sum_cons]
    rw [show i + size1 k0 + ((ks.take n).map size1).sum = i + (size1 k0 + ((ks.take n).map size1).sum) by omega]
theorem opsV_len (ns : List Int) : ∀ (ks : List Str) (i : Int), (opsV ns ks i).length = ks.length
  | [], i => rfl
  | k :: ks, i => by
    show (opsV ns ks (i + size1 k)).length + 1 = ks.length + 1
    rw [opsV_len ns ks]
theorem words_lt {j : Nat} {x : Str} (h : words[j]? = some x) : j < 19 := (List.getElem?_eq_some_iff.mp h).1
theorem kinds_len (x : Str) : (kinds x).length ≤ 3 := by
  unfold kinds
  repeat' split
  all_goals decide
theorem sum_snoc (l : List Str) (k : Str) (n : Nat) (h : l[n]? = some k) : ((l.take (n + 1)).map size1).sum = ((l.take n).map size1).sum + size1 k := by
  rw [List.take_add_one, h]
  simp
theorem rs_RawMemory_instruction_at (G : Kx K w) : RSf K 2 4 (f_RawMemory_instruction_at K) (t_RawMemory_instruction_at K w) := by
  rintro os Post - ⟨a, r, ns, i, x, ops, rfl, hne, ⟨j, hj, hw, hu, rfl⟩, hP⟩
  change RS _ _ [_, _, _, _, _, _] _
  unfold t_RawMemory_instruction_at
  have h19 := words_lt hw
  have hb : (decide (1 ≤ (j : Int) + 1) && decide ((j : Int) + 1 ≤ 19)) = true := by
    rw [decide_eq_true (by omega), decide_eq_true (by omega)]; rfl
  walk_at "ow"
  refine ⟨_, _, _, _, rfl, hne, _, rfl, ?_⟩
  rw [hj]
  walk_at "ow"
  refine ⟨rfl, _, rfl, _, rfl, _, rfl, fun h => ?_, fun _ => ?_⟩
  · rw [hb] at h
    cases h
  refine rs_next ?_
  change RS K _ [some (memT K a r ns), some (di i), some (di (j + 1)), none, none, none] _
  refine rs_seq (rs_setO (ro_lst ?_))
  walk_at "ow"
  refine ⟨rfl, j, x, rfl, hw, _, rfl, ?_⟩
  walk_at "ow"
  intro p
  walk_at "ow"
  refine rs_for (ri_tup ?_)
  obtain ⟨v, hv, hd⟩ := G.operands x hu
  walk_at "ow"
  refine ⟨_, _, _, _, rfl, rfl, rfl, ?_⟩
  refine ⟨_, od_ixD hv hd, ?_⟩
  walk_at "ow"
  refine ⟨fun n ρ' => ∃ z, ρ' = [some (memT K a r ns), some (di i), some (di (j + 1)), some (.lst p (.str x :: ((opsV ns (kinds x) (i + 1)).take n).map .int)), some (di (i + 1 + (((kinds x).take n).map size1).sum)), z], ⟨_, by simp; rfl⟩, fun n d ρ' h1 ⟨z, hz⟩ => ?_, fun ρ' ⟨z, hz⟩ => ?_⟩
  · obtain ⟨k, h3, h4, rfl⟩ := map_at h1
    subst hz
    walk_at "ow"
    refine rs_append (i := 3) (p := []) (rp_var rfl) ?_
    walk_at "ow"
    refine ⟨_, _, _, _, _, rfl, hne, _, rfl, ?_⟩
    refine ⟨_, _, rfl, rfl, ?_, ?_⟩
    · refine small1000 ?_
      have h1 := kinds_len x
      have h2 := opsV_len ns (kinds x) (i + 1)
      simp
      omega
    refine rs_aug (d0 := .int (i + 1 + (((kinds x).take n).map size1).sum)) rfl ?_
    walk_at "ow"
    refine ⟨_, od_ixD (G.sizes k (kinds_mem h4)) (fun _ _ => dvI), Nat.le_of_ble_eq_true rfl, _, od_ip, ?_⟩
    refine ⟨some (.dat (.str k)), ?_⟩
    rw [opsV_get ns (kinds x) (i + 1) n k h3, sum_snoc (kinds x) k n h3]
    rw [List.map_append]
    rw [show i + 1 + (((kinds x).take n).map size1).sum + size1 k = i + 1 + ((((kinds x).take n).map size1).sum + size1 k) by omega]
    rfl
  · subst hz
    walk_at "ow"
    rw [List.length_map, ← opsV_len ns (kinds x) (i + 1), List.take_length]
    exact ⟨hP, rfl⟩
theorem rs_RawMachine_init (G : Kx K w) : RSf K 3 4 (f_RawMachine_init K) (t_RawMachine_init K w) := by
  rintro os Post - ⟨a, C, s, rfl, rfl, hev, hP⟩
  change RS _ _ [_, _, _, _, _, _, _] _
  unfold t_RawMachine_init
  walk_at "ow"
  refine rs_fldS (ro_make ?_)
  walk_at "ow"
  intro m1
  refine ⟨_, _, _, rfl, rfl, fun r => ⟨rfl, _, _, rfl, ?_⟩⟩
  refine ⟨_, _, _, _, rfl, G.cMach, G.nMemory, by decide, ?_⟩
  refine rs_seq (rs_fldS (ro_list ?_))
  walk_at "ow"
  refine ⟨_, .inl rfl, fun b => ?_⟩
  refine ⟨_, _, _, _, rfl, G.cMach, G.nBoxes, by decide, ?_⟩
  refine rs_seq (rs_fldS (ro_of ?_))
  walk_at "ow"
  refine ⟨_, _, _, _, rfl, G.cMach, G.nAt, by decide, ?_⟩
  refine rs_seq (rs_fldS (ro_of ?_))
  walk_at "ow"
  refine ⟨_, _, _, _, rfl, G.cMach, G.nTop, by decide, ?_⟩
  refine rs_fldS (ro_make ?_)
  walk_at "ow"
  intro m2
  refine ⟨_, _, rfl, rfl, fun l => ⟨rfl, _, _, rfl, ?_⟩⟩
  refine ⟨_, _, _, _, rfl, G.cMach, G.nOutside, by decide, ?_⟩
  have e := hP ⟨a, m1, r, b, m2, l⟩ rfl
  rw [show machT K ⟨a, m1, r, b, m2, l⟩ s = machT K ⟨a, m1, r, b, m2, l⟩ { s with ev := [] } by rw [← hev]] at e
  exact ⟨e, rfl⟩
theorem rs_RawMachine_whole_state (G : Kx K w) : RSf K 1 0 (f_RawMachine_whole_state K) (t_RawMachine_whole_state K w) := by
  rintro os Post - ⟨A, s, rfl, hP⟩
  change RS _ _ [_] _
  unfold t_RawMachine_whole_state
  walk_at "ow"
  refine ⟨_, _, _, rfl, _, rfl, ?_⟩
  change RD K _ [some (machT K A s)] _
  refine rd_cons (re_tupO (rp_boxes G rfl) ?_)
  walk_at "ow"
  exact ⟨hP, rfl⟩
theorem rs_RawMachine_go_to (G : Kx K w) : RSf K 2 0 (f_RawMachine_go_to K) (t_RawMachine_go_to K w) := by
  rintro os Post - ⟨A, s, i, rfl, hne, hP⟩
  change RS _ _ [_, _] _
  unfold t_RawMachine_go_to
  refine rs_fldS (ro_of ?_)
  walk_at "ow"
  refine ⟨_, _, _, _, rfl, hne, _, rfl, ?_⟩
  refine ⟨_, _, _, _, rfl, G.cMach, G.nAt, by decide, ?_⟩
  exact ⟨hP, rfl⟩
theorem rs_RawMachine_move_top (G : Kx K w) : RSf K 2 0 (f_RawMachine_move_top K) (t_RawMachine_move_top K w) := by
  rintro os Post - ⟨A, s, i, rfl, hne, hP⟩
  change RS _ _ [_, _] _
  unfold t_RawMachine_move_top
  refine rs_fldS (ro_of ?_)
  walk_at "ow"
  refine ⟨_, _, _, _, rfl, hne, _, rfl, ?_⟩
  refine ⟨_, _, _, _, rfl, G.cMach, G.nTop, by decide, ?_⟩
  exact ⟨hP, rfl⟩
theorem rs_RawMachine_waits_at (G : Kx K w) : RSf K 2 0 (f_RawMachine_waits_at K) (t_RawMachine_waits_at K w) := by
  rintro os Post - ⟨A, s, x, rfl, hx, hP⟩
  change RS _ _ [_, _] _
  unfold t_RawMachine_waits_at
  walk_at "ow"
  have e1 : inV (.str x) [.str "get"] = false := by
    unfold used at hx
    simp only [List.mem_cons, List.not_mem_nil, or_false] at hx
    rcases hx with rfl | rfl | rfl | rfl | rfl | rfl | rfl | rfl | rfl | rfl | rfl <;> decide +kernel
  have e2 : inV (.str x) [.str "ask", .str "out"] = false := by
    unfold used at hx
    simp only [List.mem_cons, List.not_mem_nil, or_false] at hx
    rcases hx with rfl | rfl | rfl | rfl | rfl | rfl | rfl | rfl | rfl | rfl | rfl <;> decide +kernel
  refine ⟨_, od_inF (d := .str x) (ds := [.str "get"]) (b := false) rfl (by simp [flatD]) e1 (.inl rfl), _, rfl, fun h => absurd h Bool.false_ne_true, fun _ => ?_⟩
  walk_at "ow"
  refine ⟨_, od_inF (d := .str x) (ds := [.str "ask", .str "out"]) (b := false) rfl (by simp [flatD]) e2 (.inl rfl), _, rfl, fun h => absurd h Bool.false_ne_true, fun _ => ?_⟩
  walk_at "ow"
  exact ⟨hP, rfl⟩
theorem bx_at {s : Ms} (g : Good s) {r : Int} (h : boxOk r) : atI (s.boxes.map D.int) r = some (.int (bx s r)) := by
  obtain ⟨h1, h2⟩ := h
  have e : r = (r.toNat : Int) := by omega
  have hlt : r.toNat < s.boxes.length := by rw [g.b8]; omega
  unfold bx
  rw [e]
  refine atI_nat ?_
  rw [List.getElem?_map, Int.toNat_natCast, List.getElem?_eq_getElem hlt, List.getD_eq_getElem?_getD, List.getElem?_eq_getElem hlt]
  rfl
theorem ixN_box {s : Ms} (g : Good s) {r : Int} (h : boxOk r) : ixN (s.boxes.map D.int).length r = some r.toNat := by
  obtain ⟨h1, h2⟩ := h
  unfold ixN
  rw [List.length_map, g.b8, if_pos h1, if_pos (by omega)]
theorem bx_lt {s : Ms} (g : Good s) {r : Int} (h : boxOk r) : 0 ≤ bx s r ∧ bx s r < 256 := by
  obtain ⟨h1, h2⟩ := h
  have hlt : r.toNat < s.boxes.length := by rw [g.b8]; omega
  unfold bx
  rw [List.getD_eq_getElem?_getD, List.getElem?_eq_getElem hlt]
  exact g.bb _ (List.getElem_mem hlt)
theorem ok1 {x : Str} {ops : List Int} (h : OpsOk x ops) : (x = "back" ∧ ops = []) ∨ (∃ r, ops = [r] ∧ (x = "call" ∨ ((x = "tell" ∨ x = "push" ∨ x = "pop") ∧ boxOk r))) ∨ (∃ r n, ops = [r, n] ∧ x = "set" ∧ boxOk r) ∨
    (∃ r p q, ops = [r, p, q] ∧ ((x = "less" ∧ boxOk r ∧ boxOk p) ∨ ((x = "add" ∨ x = "sub" ∨ x = "mul") ∧ boxOk r ∧ boxOk p ∧ boxOk q))) := by
  match ops, h with
  | [], h => exact .inl ⟨h, rfl⟩
  | [r], h => exact .inr (.inl ⟨r, rfl, h⟩)
  | [r, n], h => exact .inr (.inr (.inl ⟨r, n, rfl, h⟩))
  | [r, p, q], h => exact .inr (.inr (.inr ⟨r, p, q, rfl, h⟩))
theorem rs_raw_set (G : Kx K w) : RSf K 2 3 (f_raw_set K) (t_raw_set K w) := by
  rintro os Post - ⟨A, s, x, ops, hx, rfl, g, ok, hP⟩
  simp only [List.mem_cons, List.not_mem_nil, or_false] at hx
  subst hx
  rcases ok1 ok with ⟨h, rfl⟩ | ⟨r, rfl, h | ⟨h | h | h, hr⟩⟩ | ⟨r, n, rfl, h, hr⟩ | ⟨r, p, q, rfl, ⟨h, hr⟩ | ⟨h | h | h, hr⟩⟩ <;> first | exact absurd h (by decide +kernel) | skip
  change RS _ _ [_, some (.dat (.tup [.str "set", .int r, .int n])), _, _, _] _
  unfold t_raw_set
  walk_at "ow"
  refine rg_sub ⟨_, _, _, _, rp_boxes G rfl, ?_⟩
  walk_at "ow"
  refine ⟨_, _, _, _, rfl, rfl, rfl, ixN_box g hr, ?_⟩
  rw [show (s.boxes.map D.int).set r.toNat (.int n) = (s.boxes.set r.toNat n).map .int by rw [List.map_set]]
  exact ⟨hP, rfl⟩
theorem rs_raw_tell (G : Kx K w) : RSf K 2 0 (f_raw_tell K) (t_raw_tell K w) := by
  rintro os Post - ⟨A, s, x, ops, hx, rfl, g, ok, hP⟩
  simp only [List.mem_cons, List.not_mem_nil, or_false] at hx
  subst hx
  rcases ok1 ok with ⟨h, rfl⟩ | ⟨r, rfl, h | ⟨h | h | h, hr⟩⟩ | ⟨r, n, rfl, h, hr⟩ | ⟨r, p, q, rfl, ⟨h, hr⟩ | ⟨h | h | h, hr⟩⟩ <;> first | exact absurd h (by decide +kernel) | skip
  change RS _ _ [_, some (.dat (.tup [.str "tell", .int r]))] _
  unfold t_raw_tell
  walk_at "ow"
  refine ⟨_, od_ixT (i := 1) (d := .int r) rfl, _, _, _, _, rfl, rfl, rfl, bx_at g hr, ?_⟩
  walk_at "ow"
  have hl : s.ev.length < sizeLine := small1000 (Nat.le_of_lt g.ev)
  refine ⟨_, _, _, _, rfl, hl, ?_⟩
  exact ⟨hP, rfl⟩
theorem rs_raw_push (G : Kx K w) : RSf K 2 0 (f_raw_push K) (t_raw_push K w) := by
  rintro os Post - ⟨A, s, x, ops, hx, rfl, g, ok, hP⟩
  simp only [List.mem_cons, List.not_mem_nil, or_false] at hx
  subst hx
  rcases ok1 ok with ⟨h, rfl⟩ | ⟨r, rfl, h | ⟨h | h | h, hr⟩⟩ | ⟨r, n, rfl, h, hr⟩ | ⟨r, p, q, rfl, ⟨h, hr⟩ | ⟨h | h | h, hr⟩⟩ <;> first | exact absurd h (by decide +kernel) | skip
  change RS _ _ [_, some (.dat (.tup [.str "push", .int r]))] _
  unfold t_raw_push
  walk_at "ow"
  refine ⟨_, _, _, rfl, g.ne, ?_⟩
  change RS K _ [some (machT K A { s with top := pl s.cells (s.top + -1) }), _] _
  walk_at "ow"
  refine ⟨_, od_ixT (i := 1) (d := .int r) rfl, _, _, _, _, rfl, rfl, rfl, bx_at (s := s) g hr, ?_⟩
  walk_at "ow"
  refine ⟨_, _, _, _, _, rfl, g.ne, ?_⟩
  exact ⟨hP, rfl⟩
theorem rs_raw_pop (G : Kx K w) : RSf K 2 0 (f_raw_pop K) (t_raw_pop K w) := by
  rintro os Post - ⟨A, s, x, ops, hx, rfl, g, ok, hP⟩
  simp only [List.mem_cons, List.not_mem_nil, or_false] at hx
  subst hx
  rcases ok1 ok with ⟨h, rfl⟩ | ⟨r, rfl, h | ⟨h | h | h, hr⟩⟩ | ⟨r, n, rfl, h, hr⟩ | ⟨r, p, q, rfl, ⟨h, hr⟩ | ⟨h | h | h, hr⟩⟩ <;> first | exact absurd h (by decide +kernel) | skip
  change RS _ _ [_, some (.dat (.tup [.str "pop", .int r]))] _
  unfold t_raw_pop
  walk_at "ow"
  refine ⟨_, _, _, _, rfl, g.ne, _, rfl, ?_⟩
  refine rg_sub ⟨_, _, _, _, rp_boxes G rfl, ?_⟩
  walk_at "ow"
  refine ⟨_, od_ixT (i := 1) (d := .int r) rfl, ?_⟩
  refine ⟨_, _, _, _, rfl, rfl, rfl, ixN_box g hr, ?_⟩
  rw [show (s.boxes.map D.int).set r.toNat (.int (gI s.cells s.top)) = (s.boxes.set r.toNat (gI s.cells s.top)).map .int by rw [List.map_set]]
  change RS K _ [some (machT K A { s with boxes := s.boxes.set r.toNat (gI s.cells s.top) }), _] _
  walk_at "ow"
  refine ⟨_, _, _, rfl, g.ne, ?_⟩
  exact ⟨hP, rfl⟩
theorem rs_raw_call (G : Kx K w) : RSf K 2 0 (f_raw_call K) (t_raw_call K w) := by
  rintro os Post - ⟨A, s, x, ops, hx, rfl, g, ok, hP⟩
  simp only [List.mem_cons, List.not_mem_nil, or_false] at hx
  subst hx
  rcases ok1 ok with ⟨h, rfl⟩ | ⟨r, rfl, h | ⟨h | h | h, hr⟩⟩ | ⟨r, n, rfl, h, hr⟩ | ⟨r, p, q, rfl, ⟨h, hr⟩ | ⟨h | h | h, hr⟩⟩ <;> first | exact absurd h (by decide +kernel) | skip
  change RS _ _ [_, some (.dat (.tup [.str "call", .int r]))] _
  unfold t_raw_call
  walk_at "ow"
  refine ⟨_, _, _, rfl, g.ne, ?_⟩
  change RS K _ [some (machT K A { s with top := pl s.cells (s.top + -2) }), _] _
  walk_at "ow"
  refine ⟨_, _, _, _, _, rfl, g.ne, ?_⟩
  change RS K _ [some (.ins A.m (He.ga K "RawMachine") machF [memT K A.mem A.row (setP s.cells (pl s.cells (s.top + -2)) s.at_), .lst A.box (s.boxes.map .int), .dat (.int s.at_), .dat (.int (pl s.cells (s.top + -2))), outT K A.out A.told s.ev]), _] _
  change RS K _ [some (machT K A { s with cells := setP s.cells (pl s.cells (s.top + -2)) s.at_, top := pl s.cells (s.top + -2) }), _] _
  walk_at "ow"
  refine ⟨_, od_ixT (i := 1) (d := .int r) rfl, ?_⟩
  walk_at "ow"
  refine ⟨_, _, _, rfl, sI_ne (sI_ne g.ne _ _) _ _, ?_⟩
  have e : pl (setP s.cells (pl s.cells (s.top + -2)) s.at_) r = pl s.cells r := by
    unfold pl
    rw [setPl]
  have hP2 : Post (.dat .non) [machT K A { s with cells := setP s.cells (pl s.cells (s.top + -2)) s.at_, top := pl s.cells (s.top + -2), at_ := pl (setP s.cells (pl s.cells (s.top + -2)) s.at_) r }, .dat (insD "call" [r])] := by
    rw [e]
    exact hP
  exact ⟨hP2, rfl⟩
theorem rs_raw_back (G : Kx K w) : RSf K 2 0 (f_raw_back K) (t_raw_back K w) := by
  rintro os Post - ⟨A, s, x, ops, hx, rfl, g, ok, hP⟩
  simp only [List.mem_cons, List.not_mem_nil, or_false] at hx
  subst hx
  rcases ok1 ok with ⟨h, rfl⟩ | ⟨r, rfl, h | ⟨h | h | h, hr⟩⟩ | ⟨r, n, rfl, h, hr⟩ | ⟨r, p, q, rfl, ⟨h, hr⟩ | ⟨h | h | h, hr⟩⟩ <;> first | exact absurd h (by decide +kernel) | skip
  change RS _ _ [_, some (.dat (.tup [.str "back"]))] _
  unfold t_raw_back
  walk_at "ow"
  refine ⟨_, _, _, _, rfl, g.ne, _, rfl, ?_⟩
  walk_at "ow"
  refine ⟨_, _, _, rfl, g.ne, ?_⟩
  change RS K _ [some (machT K A { s with at_ := pl s.cells (pairV s.cells s.top) }), _] _
  walk_at "ow"
  refine ⟨_, _, _, rfl, g.ne, ?_⟩
  exact ⟨hP, rfl⟩
theorem rs_raw_test (G : Kx K w) : RSf K 2 4 (f_raw_test K) (t_raw_test K w) := by
  rintro os Post - ⟨A, s, x, ops, hx, rfl, g, ok, hP⟩
  simp only [List.mem_cons, List.not_mem_nil, or_false] at hx
  subst hx
  rcases ok1 ok with ⟨h, rfl⟩ | ⟨r, rfl, h | ⟨h | h | h, hr⟩⟩ | ⟨r, n, rfl, h, hr⟩ | ⟨r, p, q, rfl, ⟨h, hr⟩ | ⟨h | h | h, hr⟩⟩ <;> first | exact absurd h (by decide +kernel) | skip
  obtain ⟨hr, hp⟩ := hr
  change RS _ _ [_, some (.dat (.tup [.str "less", .int r, .int p, .int q])), _, _, _, _] _
  unfold t_raw_test
  walk_at "ow"
  refine ⟨_, _, _, _, rfl, rfl, rfl, bx_at g hr, ?_⟩
  walk_at "ow"
  refine ⟨_, _, _, _, rfl, rfl, rfl, bx_at g hp, ?_⟩
  walk_at "ow"
  refine ⟨rfl, _, _, rfl, _, rfl, _, rfl, fun h => ?_, fun h => ?_⟩
  · walk_at "ow"
    refine ⟨_, _, _, rfl, g.ne, ?_⟩
    have h' := of_decide_eq_true h
    have e : deed "less" [r, p, q] s = { s with at_ := pl s.cells q } := by
      show (if ("less" : Str) = "less" then (if bx s r < bx s p then ({ s with at_ := pl s.cells q } : Ms) else s) else (if ("less" : Str) = "add" ∨ ("less" : Str) = "sub" ∨ ("less" : Str) = "mul" then sb s r (sumV "less" (bx s p) (bx s q)) else s)) = _
      rw [if_pos rfl, if_pos h']
    rw [e] at hP
    exact ⟨hP, rfl⟩
  · have h' := of_decide_eq_false h
    have e : deed "less" [r, p, q] s = s := by
      show (if ("less" : Str) = "less" then (if bx s r < bx s p then ({ s with at_ := pl s.cells q } : Ms) else s) else (if ("less" : Str) = "add" ∨ ("less" : Str) = "sub" ∨ ("less" : Str) = "mul" then sb s r (sumV "less" (bx s p) (bx s q)) else s)) = _
      rw [if_pos rfl, if_neg h']
    rw [e] at hP
    walk_at "ow"
    exact ⟨hP, rfl⟩
theorem rs_raw_sum (G : Kx K w) : RSf K 2 4 (f_raw_sum K) (t_raw_sum K w) := by
  rintro os Post - ⟨A, s, x, ops, hx, rfl, g, ok, hP⟩
  obtain ⟨r, p, q, rfl, hw, hr, hp, hq⟩ : ∃ r p q, ops = [r, p, q] ∧ (x = "add" ∨ x = "sub" ∨ x = "mul") ∧ boxOk r ∧ boxOk p ∧ boxOk q := by
    simp only [List.mem_cons, List.not_mem_nil, or_false] at hx
    rcases ok1 ok with ⟨h, rfl⟩ | ⟨r, rfl, h | ⟨h | h | h, hr⟩⟩ | ⟨r, n, rfl, h, hr⟩ | ⟨r, p, q, rfl, ⟨h, hr⟩ | ⟨h, hr⟩⟩
    all_goals first | exact ⟨_, _, _, rfl, h, hr.1, hr.2.1, hr.2.2⟩ | (subst h; exact absurd hx (by decide +kernel))
  have hd : deed x [r, p, q] s = sb s r (sumV x (bx s p) (bx s q)) := by
    show (if x = "less" then _ else if x = "add" ∨ x = "sub" ∨ x = "mul" then _ else _) = _
    rw [if_neg (by rcases hw with rfl | rfl | rfl <;> decide +kernel), if_pos hw]
  rw [hd] at hP
  change RS _ _ [_, some (.dat (.tup [.str x, .int r, .int p, .int q])), _, _, _, _] _
  unfold t_raw_sum
  walk_at "ow"
  refine ⟨_, _, _, _, rfl, rfl, rfl, bx_at g hp, ?_⟩
  walk_at "ow"
  refine ⟨_, _, _, _, rfl, rfl, rfl, bx_at g hq, ?_⟩
  walk_at "ow"
  have hb := bx_lt g hp
  refine ⟨rfl, _, _, _, rfl, hw, hb.1, hb.2, _, rfl, ?_⟩
  refine rg_sub ⟨_, _, _, _, rp_boxes G rfl, ?_⟩
  walk_at "ow"
  refine ⟨_, _, _, _, rfl, rfl, rfl, ixN_box g hr, ?_⟩
  rw [show (s.boxes.map D.int).set r.toNat (.int (sumV x (bx s p) (bx s q))) = (s.boxes.set r.toNat (sumV x (bx s p) (bx s q))).map .int by rw [List.map_set]]
  exact ⟨hP, rfl⟩
theorem deedOf {x : Str} (h : x ∈ used) (hs : x ≠ "stop") : ∃ q ∈ deedsOf, x ∈ q.2 := by
  unfold used at h
  simp only [List.mem_cons, List.not_mem_nil, or_false] at h
  rcases h with rfl | rfl | rfl | rfl | rfl | rfl | rfl | rfl | rfl | rfl | rfl
  all_goals first | exact absurd rfl hs | exact ⟨("raw_set", ["set"]), by decide +kernel, by decide +kernel⟩ | exact ⟨("raw_sum", ["add", "sub", "mul"]), by decide +kernel, by decide +kernel⟩ | exact ⟨("raw_tell", ["tell"]), by decide +kernel, by decide +kernel⟩ | exact ⟨("raw_test", ["less"]), by decide +kernel, by decide +kernel⟩ | exact ⟨("raw_call", ["call"]), by decide +kernel, by decide +kernel⟩ | exact ⟨("raw_back", ["back"]), by decide +kernel, by decide +kernel⟩ | exact ⟨("raw_push", ["push"]), by decide +kernel, by decide +kernel⟩ | exact ⟨("raw_pop", ["pop"]), by decide +kernel, by decide +kernel⟩
theorem Good.at_ {s : Ms} (g : Good s) (a : Int) : Good { s with at_ := a } := ⟨g.ne, g.sz, g.b8, g.bb, g.ev⟩
theorem rs_RawMachine_do (G : Kx K w) : RSf K 2 1 (f_RawMachine_do K) (t_RawMachine_do K w) := by
  rintro os Post - ⟨A, s, x, ops, rfl, hu, g, ok, hP⟩
  have hs : x ≠ "stop" := by
    rintro rfl
    rcases ok1 ok with ⟨h, rfl⟩ | ⟨r, rfl, h | ⟨h | h | h, hr⟩⟩ | ⟨r, n, rfl, h, hr⟩ | ⟨r, p, q, rfl, ⟨h, hr⟩ | ⟨h | h | h, hr⟩⟩ <;> exact absurd h (by decide +kernel)
  obtain ⟨q, hq, hx⟩ := deedOf hu hs
  change RS _ _ [_, some (.dat (.tup (.str x :: ops.map .int))), _] _
  unfold t_RawMachine_do
  walk_at "ow"
  refine ⟨_, od_ixT (i := 0) (d := .str x) (atI_nat (j := 0) rfl), ?_⟩
  walk_at "ow"
  refine ⟨rfl, _, rfl, hu, _, rfl, ?_⟩
  walk_at "ow"
  refine ⟨_, _, _, rfl, g.ne, ?_⟩
  change RS K _ [some (machT K A { s with at_ := pl s.cells (s.at_ + lenW x) }), some (.dat (.tup (.str x :: ops.map .int))), _] _
  walk_at "ow"
  refine ⟨_, od_ixT (i := 0) (d := .str x) (atI_nat (j := 0) rfl), ?_⟩
  refine ⟨_, od_ixD (G.deeds q hq x hx) (fun _ _ => dvR), ?_⟩
  walk_at "ow"
  refine rs_dropO (ro_callR rfl ⟨q, hq, rfl, rfl⟩ ?_)
  walk_at "ow"
  refine ⟨_, _, _, _, hx, rfl, g.at_ _, ok, ?_⟩
  exact ⟨hP, rfl⟩
theorem rs_RawMachine_run_on (G : Kx K w) : RSf K 2 2 (f_RawMachine_run_on K) (t_RawMachine_run_on K w) := by
  rintro os Post - ⟨A, s, n, N, tr, rfl, run, hP⟩
  change RS _ _ [_, _, _, _] _
  unfold t_RawMachine_run_on
  walk_at "ow"
  refine rs_while (fun m ρ' => ∃ k z, k ≤ n ∧ k ≤ N ∧ m = N - k ∧ ρ' = [some (machT K A (tr k)), some (di n), some (di k), z]) N ⟨0, none, by omega, by omega, rfl, by rw [run.zero]; rfl⟩ fun m ρ' ⟨k, z, hkn, hkN, hm, hρ⟩ => ?_
  subst hρ hm
  have g := run.good k hkN
  obtain ⟨x, ops, hI, hk⟩ : ∃ (x : Str) (ops : List Int), InsAt (tr k).cells (tr k).at_ x ops ∧ ((k < N ∧ x ≠ "stop" ∧ OpsOk x ops ∧ tr (k + 1) = stepV x ops (tr k)) ∨ (k = N ∧ x = "stop")) := by
    by_cases h : k < N
    · obtain ⟨x, ops, h1, h2, h3, h4⟩ := run.step k h
      exact ⟨x, ops, h2, .inl ⟨h, h1, h3, h4⟩⟩
    · have e : k = N := by omega
      subst e
      exact ⟨_, _, run.stop, .inr ⟨rfl, rfl⟩⟩
  have hu : x ∈ used := by
    obtain ⟨_, _, _, hu, _⟩ := hI
    exact hu
  walk_at "ow"
  refine ⟨_, _, _, _, x, ops, rfl, g.ne, hI, _, rfl, ?_⟩
  walk_at "ow"
  refine ⟨_, od_ixT (i := 0) (d := .str x) (atI_nat (j := 0) rfl), ?_⟩
  walk_at "ow"
  refine ⟨_, _, _, rfl, hu, _, rfl, ?_⟩
  walk_at "ow"
  refine ⟨fun h => ?_, fun h => ?_⟩
  · have e : (k : Int) = n := of_decide_eq_true h
    have e : k = n := by omega
    subst e
    walk_at "ow"
    have e2 : min k N = k := by omega
    rw [e2, if_pos hkN] at hP
    exact ⟨hP, rfl⟩
  · have e : (k : Int) ≠ n := of_decide_eq_false h
    walk_at "ow"
    change RS K _ [some (machT K A (tr k)), some (di n), some (di k), some (.dat (.tup (.str x :: ops.map .int)))] _
    refine rs_aug (d0 := .int k) rfl ?_
    walk_at "ow"
    refine ⟨_, od_ixT (i := 0) (d := .str x) (atI_nat (j := 0) rfl), ?_⟩
    walk_at "ow"
    refine ⟨fun h => ?_, fun h => ?_⟩
    · have hx : x = "stop" := of_decide_eq_true h
      have hN : k = N := by
        rcases hk with ⟨_, h2, _⟩ | ⟨h2, _⟩
        · exact absurd hx h2
        · exact h2
      subst hN
      walk_at "ow"
      have e2 : min n k = k := by omega
      rw [e2, if_neg (by omega)] at hP
      exact ⟨hP, rfl⟩
    · have hx : x ≠ "stop" := of_decide_eq_false h
      obtain ⟨h1, h2, h3, h4⟩ : k < N ∧ x ≠ ("stop" : Str) ∧ OpsOk x ops ∧ tr (k + 1) = stepV x ops (tr k) := by
        rcases hk with h | ⟨_, h2⟩
        · exact h
        · exact absurd h2 hx
      walk_at "ow"
      refine ⟨_, _, _, _, rfl, hu, g, h3, ?_⟩
      refine ⟨N - (k + 1), by omega, k + 1, some (.dat (.tup (.str x :: ops.map .int))), by omega, by omega, rfl, ?_⟩
      rw [h4]
      rfl
theorem rs_ran (G : Kx K w) : RSf K 3 2 (f_ran K) (t_ran K w) := by
  rintro os Post - ⟨s, n, N, tr, rfl, hev, run, hP⟩
  change RS _ _ [_, _, _, _, _] _
  unfold t_ran
  refine rs_seq (rs_setO (ro_make ?_))
  walk_at "ow"
  intro m
  refine ⟨_, _, _, rfl, rfl, hev, fun A hA => ⟨rfl, _, _, rfl, Nat.le_of_ble_eq_true rfl, ?_⟩⟩
  change RS K _ [some (.dat (stD s)), some (.dat (.tup [])), some (di n), some (machT K A s), none] _
  walk_at "ow"
  refine ⟨A, s, n, N, tr, rfl, run, _, rfl, ?_⟩
  change _ ∧ _
  refine ⟨Nat.le_of_ble_eq_true rfl, ?_⟩
  change RS K _ [some (.dat (stD s)), some (.dat (.tup [])), some (di n), some (machT K A (tr (min n N))), some (.dat (.tup [.str (if n ≤ N then "tired" else "stopped")]))] _
  walk_at "ow"
  refine ⟨_, _, _, rfl, _, rfl, ?_⟩
  change RD K _ [some (.dat (stD s)), some (.dat (.tup [])), some (di n), some (machT K A (tr (min n N))), some (.dat (.tup [.str (if n ≤ N then "tired" else "stopped")]))] _
  walk_at "ow"
  refine ⟨_, _, rfl, _, rfl, ?_⟩
  walk_at "ow"
  exact ⟨hP, rfl⟩
theorem rs_machine_run (G : Kx K w) : RSf K 3 0 (f_machine_run K) (t_machine_run K w) := by
  rintro os Post - ⟨s, n, N, tr, rfl, hev, ok, run, hP⟩
  change RS _ _ [_, _, _] _
  unfold t_machine_run
  walk_at "ow"
  refine ⟨rfl, _, rfl, ok, _, rfl, _, rfl, ?_⟩
  walk_at "ow"
  refine ⟨rfl, rfl, _, rfl, _, rfl, ?_⟩
  walk_at "ow"
  refine ⟨rfl, _, rfl, _, rfl, _, rfl, fun h => absurd h (by simp), fun h => ?_⟩
  walk_at "ow"
  refine ⟨rfl, _, _, _, _, rfl, hev, run, _, rfl, ?_⟩
  exact ⟨hP, rfl⟩
theorem rs_are_machine_answers (G : Kx K w) : RSf K 1 1 (f_are_machine_answers K) (t_are_machine_answers K w) := by
  rintro os Post - ⟨rfl, hP⟩
  change RS _ _ [_, _] _
  unfold t_are_machine_answers
  walk_at "ow"
  refine re_fz (ro_lc (ri_tup ?_))
  walk_at "ow"
  refine ⟨by walk_at "vs", by simp [sizeLine_eq], fun i outs ρ' => ρ' = [some (.dat (.tup [])), none] ∧ outs = [], ⟨rfl, rfl⟩, fun i d outs ρ' h _ => absurd h (by simp), fun outs ρ' p ⟨h1, h2⟩ => ?_⟩
  subst h1 h2
  change RD K tNil [some (.dat (.tup [])), none] _
  refine rd_nil ?_
  refine ⟨_, cd_tupL, ?_⟩
  refine rd_nil ?_
  refine ⟨rfl, [], rfl, by simp [sizeLine_eq], by simp, _, rfl, ?_⟩
  exact ⟨hP, rfl⟩
theorem rs_is_machine_state (G : Kx K w) : RSf K 1 0 (f_is_machine_state K) (t_is_machine_state K w) := by
  rintro os Post - ⟨s, rfl, ok, hP⟩
  have hs : s.cells.length < sizeLine := by rw [sizeLine_eq]; have := ok.sz; omega
  change RS _ _ [_] _
  unfold t_is_machine_state
  walk_at "ow"
  refine ⟨rfl, _, _, rfl, .bl true, rfl, true, rfl, ?_⟩
  walk_at "ow"
  refine ⟨_, od_ixT (i := 0) (d := dI s.cells) (atI_nat (j := 0) rfl), ?_⟩
  walk_at "ow"
  refine ⟨rfl, _, rfl, hs, ok.cb, _, rfl, _, rfl, ?_⟩
  walk_at "ow"
  refine ⟨_, od_ixT (i := 0) (d := dI s.cells) (atI_nat (j := 0) rfl), ?_⟩
  walk_at "ow"
  have h1 := ok.sz.1
  have h2 := ok.sz.2
  rw [List.length_map]
  refine ⟨fun _ => ?_, fun h => absurd h (by simp; omega)⟩
  walk_at "ow"
  refine ⟨fun h => absurd h (by simp; omega), fun _ => ?_⟩
  walk_at "ow"
  refine ⟨_, od_ixT (i := 1) (d := dI s.boxes) (atI_nat (j := 1) rfl), ?_⟩
  walk_at "ow"
  refine ⟨rfl, _, _, _, rfl, small1000 (by rw [ok.b8]; decide), by rw [ok.b8]; rfl, ok.bb, _, rfl, _, rfl, ?_⟩
  walk_at "ow"
  refine ⟨_, od_ixT (i := 2) (d := .int s.at_) (atI_nat (j := 2) rfl), ?_⟩
  walk_at "ow"
  refine ⟨_, od_ixT (i := 0) (d := dI s.cells) (atI_nat (j := 0) rfl), ?_⟩
  walk_at "ow"
  rw [List.length_map]
  refine ⟨rfl, _, _, rfl, ?_⟩
  rw [decide_eq_true ok.a.1, decide_eq_true ok.a.2]
  refine ⟨.bl true, rfl, true, rfl, fun _ => ?_, fun h => absurd (Eq.symm h) Bool.false_ne_true⟩
  walk_at "ow"
  refine ⟨_, od_ixT (i := 3) (d := .int s.top) (atI_nat (j := 3) rfl), ?_⟩
  walk_at "ow"
  refine ⟨_, od_ixT (i := 0) (d := dI s.cells) (atI_nat (j := 0) rfl), ?_⟩
  walk_at "ow"
  rw [List.length_map]
  refine ⟨rfl, _, _, rfl, ?_⟩
  rw [decide_eq_true ok.t.1, decide_eq_true ok.t.2]
  exact ⟨.bl true, rfl, hP, rfl⟩
end
end K69
namespace K69
open PySem PySem.Spec PyProof.Rows L2 Ow
set_option maxHeartbeats 4000000
local macro_rules
  | `(tactic| walk_at "od") => `(tactic| first
    | with_reducible refine ⟨_, od_I0, ?_⟩
    | with_reducible refine ⟨_, od_B0, ?_⟩
    | with_reducible refine ⟨_, od_eqI, ?_⟩
    | with_reducible refine ⟨_, od_neBs, ?_⟩
    | with_reducible refine ⟨_, od_eqBs, ?_⟩
    | with_reducible refine ⟨_, od_eqB, ?_⟩
    | with_reducible refine ⟨_, od_eqS, ?_⟩
    | with_reducible refine ⟨_, od_neS, ?_⟩
    | with_reducible refine ⟨_, od_neB, ?_⟩
    | with_reducible refine ⟨_, od_notNT, ?_⟩
    | with_reducible refine ⟨_, od_isNT, ?_⟩
    | ((with_reducible refine oT ?_); refine ⟨_, rfl, ?_⟩)
    | ((with_reducible refine oL ?_); refine ⟨_, rfl, ?_⟩)
    | with_reducible refine ⟨_, od_ip, ?_⟩
    | with_reducible refine ⟨_, ud_I, ?_⟩)
local macro_rules
  | `(tactic| walk_at "cd") => `(tactic| first
    | with_reducible refine ⟨_, isi_int_int, ?_⟩
    | with_reducible refine ⟨_, isi_int_bool, ?_⟩
    | with_reducible refine ⟨_, isi_int_str, ?_⟩
    | with_reducible refine ⟨_, isi_int_tuple, ?_⟩
    | with_reducible refine ⟨_, isi_str_int, ?_⟩
    | with_reducible refine ⟨_, isi_str_bool, ?_⟩
    | with_reducible refine ⟨_, isi_str_str, ?_⟩
    | with_reducible refine ⟨_, isi_str_tuple, ?_⟩
    | with_reducible refine ⟨_, isi_tup_tuple, ?_⟩
    | with_reducible refine ⟨_, cd_intI, ?_⟩
    | with_reducible refine ⟨_, cd_intB, ?_⟩
    | with_reducible refine ⟨_, cd_lenT, ?_⟩
    | with_reducible refine ⟨_, cd_lenL, ?_⟩
    | with_reducible refine ⟨_, cd_lenX, ?_⟩
    | with_reducible refine ⟨_, cd_tupL, ?_⟩
    | with_reducible refine ⟨_, cd_tupT, ?_⟩)
local macro_rules
  | `(tactic| walk_at "kx") => `(tactic| first
    | exact Kx.cMem (w := _) (by assumption) | exact Kx.cMach (w := _) (by assumption) | exact Kx.cOut (w := _) (by assumption) | exact Kx.nRow (w := _) (by assumption) | exact Kx.nMany (w := _) (by assumption) | exact Kx.nMemory (w := _) (by assumption) | exact Kx.nBoxes (w := _) (by assumption) | exact Kx.nAt (w := _) (by assumption) | exact Kx.nTop (w := _) (by assumption) | exact Kx.nOutside (w := _) (by assumption) | exact Kx.nAnswers (w := _) (by assumption) | exact Kx.nTaken (w := _) (by assumption) | exact Kx.nTold (w := _) (by assumption))
local macro_rules
  | `(tactic| walk_at "rp") => `(tactic| first
    | with_reducible exact rp_row (w := _) (by assumption) rfl
    | ((with_reducible refine rp_row (w := _) (by assumption) ?_); exact rfl)
    | ((with_reducible refine rp_told (w := _) (by assumption) ?_); exact rfl)
    | ((with_reducible refine rp_memory (w := _) (by assumption) ?_); exact rfl)
    | ((with_reducible refine rp_boxes (w := _) (by assumption) ?_); exact rfl)
    | ((with_reducible refine rp_outside (w := _) (by assumption) ?_); exact rfl)
    | ((with_reducible refine rp_var ?_); exact rfl))
local macro_rules
  | `(tactic| walk_at "bl") => `(tactic| first
    | with_reducible refine ⟨true, rfl, fun (_ : true = true) => ?_, fun h => absurd (Eq.symm h) Bool.false_ne_true⟩
    | with_reducible refine ⟨true, rfl, fun h => absurd (Eq.symm h) Bool.false_ne_true, fun (_ : true = true) => ?_⟩
    | with_reducible refine ⟨false, rfl, fun h => absurd h Bool.false_ne_true, fun (_ : false = false) => ?_⟩
    | with_reducible refine ⟨false, rfl, fun (_ : false = false) => ?_, fun h => absurd h Bool.false_ne_true⟩
    | with_reducible refine ⟨_, rfl, ?_⟩)
local macro_rules
  | `(tactic| walk_at "if") => `(tactic| first
    | with_reducible refine ⟨fun (_ : true = true) => ?_, fun h => absurd (Eq.symm h) Bool.false_ne_true⟩
    | with_reducible refine ⟨fun h => absurd (Eq.symm h) Bool.false_ne_true, fun (_ : true = true) => ?_⟩
    | with_reducible refine ⟨fun h => absurd h Bool.false_ne_true, fun (_ : false = false) => ?_⟩
    | with_reducible refine ⟨fun (_ : false = false) => ?_, fun h => absurd h Bool.false_ne_true⟩
    | refine ⟨fun (h : (!true) = true) => absurd h Bool.false_ne_true, fun _ => ?_⟩
    | refine ⟨fun _ => ?_, fun (h : (!true) = true) => absurd h Bool.false_ne_true⟩
    | refine ⟨fun _ => ?_, fun (h : (!false) = false) => absurd (Eq.symm h) Bool.false_ne_true⟩
    | refine ⟨fun (h : (!false) = false) => absurd (Eq.symm h) Bool.false_ne_true, fun _ => ?_⟩)
local macro_rules
  | `(tactic| walk_at "res") => `(tactic| repeat (first | exact Res.nil | apply Res.dat | apply Res.at rfl rfl rfl))
local macro_rules
  | `(tactic| walk_at "args") => `(tactic| (apply Exists.intro; apply And.intro; (focus walk_at "res"); (refine ⟨?_, ?_, ?_⟩); (focus simp [slotsOf]); (focus rfl)))
local macro_rules
  | `(tactic| walk_at "vs") => `(tactic| (intro v hv o e; simp only [List.mem_cons, List.not_mem_nil, or_false] at hv; subst hv; first | exact nomatch e | (cases e; exact ⟨_, rfl⟩)))
local macro_rules
  | `(tactic| walk_at "recv") => `(tactic| first
    | refine ⟨_, _, _, _, _, rp_var rfl, by decide +kernel, ?_⟩
    | refine ⟨_, _, _, _, _, rp_memory (w := _) (by assumption) rfl, by decide +kernel, ?_⟩
    | refine ⟨_, _, _, _, _, rp_outside (w := _) (by assumption) rfl, by decide +kernel, ?_⟩)
local macro_rules
  | `(tactic| walk_at "meth") => `(tactic| first
    | ((with_reducible refine re_meth ?_); walk_at "recv")
    | ((with_reducible refine rs_meth ?_); walk_at "recv"))
local macro_rules
  | `(tactic| walk_at "ow1") => `(tactic| first
    | with_reducible refine rs_seq ?_
    | with_reducible refine rs_ret ?_
    | with_reducible refine rs_next ?_
    | with_reducible refine rs_if ?_
    | with_reducible refine rt_test ?_
    | with_reducible refine rt_B ?_
    | with_reducible refine rt_not ?_
    | with_reducible refine rt_or ?_
    | with_reducible refine rt_and ?_
    | with_reducible refine re_int ?_
    | with_reducible refine re_str ?_
    | with_reducible refine re_bl ?_
    | with_reducible refine re_non ?_
    | with_reducible refine re_kt (Kx.words (w := _) (by assumption)) ?_
    | with_reducible refine re_kt (Kx.needed (w := _) (by assumption)) ?_
    | with_reducible refine re_kt (Kx.ornone (w := _) (by assumption)) ?_
    | with_reducible refine re_ref ?_
    | with_reducible refine re_ty ?_
    | ((with_reducible refine re_box (w := _) (by assumption) ?_); refine ⟨_, _, rfl, ?_⟩)
    | ((with_reducible refine re_ixV ?_); refine ⟨_, _, rfl, ?_⟩)
    | with_reducible refine re_op ?_
    | with_reducible refine re_un ?_
    | with_reducible refine re_and ?_
    | with_reducible refine re_or ?_
    | with_reducible refine re_not ?_
    | with_reducible refine re_if ?_
    | with_reducible refine re_chain ?_
    | ((with_reducible refine re_lenV ?_); refine ⟨_, _, rfl, ?_⟩)
    | ((with_reducible refine re_tupV ?_); refine ⟨_, _, rfl, ?_⟩)
    | with_reducible refine re_cb ?_
    | with_reducible refine re_callF ?_
    | with_reducible refine rd_nil ?_
    | with_reducible refine rd_cons ?_
    | with_reducible refine ra_nil ?_
    | ((with_reducible refine ra_atV ?_); refine ⟨_, _, rfl, rfl, ?_⟩)
    | with_reducible refine ra_dat ?_
    | with_reducible refine re_tup ?_
    | with_reducible refine re_lst ?_
    | with_reducible refine rx_none ?_
    | with_reducible refine rx_some ?_
    | with_reducible refine re_slT ?_
    | ((with_reducible refine re_v ?_); refine ⟨_, rfl, ?_⟩)
    | ((with_reducible refine re_many (w := _) (by assumption) ?_); refine ⟨_, _, _, rfl, ?_⟩)
    | ((with_reducible refine re_at (w := _) (by assumption) ?_); refine ⟨_, _, rfl, ?_⟩)
    | ((with_reducible refine re_top (w := _) (by assumption) ?_); refine ⟨_, _, rfl, ?_⟩)
    | walk_at "meth"
    | ((with_reducible refine rg_tup ?_ ?_); (focus rfl))
    | with_reducible refine rgs_cons ?_
    | with_reducible refine rgs_nil ?_
    | ((with_reducible refine rg_name ?_ ?_); (focus exact Nat.le_of_ble_eq_true rfl); (try dsimp only [List.set]))
    | with_reducible refine rs_set ?_
    | with_reducible refine rs_asg ?_
    | (refine ⟨Nat.le_of_ble_eq_true rfl, ?_⟩; (try dsimp only [List.set]))
    | walk_at "od"
    | walk_at "cd"
    | walk_at "bl"
    | walk_at "if"
    | walk_at "args"
    | refine ⟨_, _, _, _, rfl, rfl, rfl, ?_⟩
    | refine ⟨Nat.le_of_lt (small1000 (Nat.le_of_ble_eq_true rfl)), ?_⟩)
local macro_rules
  | `(tactic| walk_at "ow") => `(tactic| repeat (walk_at "ow1"))
section
variable {K : PySem.W.Frag} {w : World}
theorem cut63 (ns : List Int) : Ow.cutD (ns.map D.int) none (some 63) = (ns.take 63).map .int := by
  unfold Ow.cutD
  rw [show (some (63 : Int) : Option Int) = some ((63 : Nat) : Int) from rfl, HT.sIx_none, HT.sIx_nat]
  simp only [List.drop_zero, Nat.sub_zero, List.length_map, List.map_take]
  by_cases h : ns.length ≤ 63
  · rw [Nat.min_eq_right h, List.take_of_length_le (by simp), List.take_of_length_le (by simpa using h)]
  · rw [Nat.min_eq_left (by omega)]
theorem rs__law_jar (G : Kx K w) : RSf K 1 1 (f__law_jar K) (t__law_jar K w) := by
  rintro os Post - ⟨ns, rfl, hn, hP⟩
  change RS _ _ [_, _] _
  unfold t__law_jar
  refine rs_retO (ro_lst ?_)
  walk_at "ow"
  refine re_slL ?_
  refine re_lcM (ri_list ?_)
  walk_at "ow"
  refine .inr ⟨ns, rfl, by walk_at "vs", by rw [List.length_map]; exact hn, ns.map .int, by simp, fun i d e h1 h2 => ?_, ?_⟩
  · obtain ⟨x, h3, h4, rfl⟩ := map_at h1
    have : D.int x = e := Option.some.inj (h1.symm.trans h2)
    subst this
    refine rc_name (Nat.le_of_ble_eq_true rfl) ?_
    walk_at "ow"
    exact ⟨rfl, rfl⟩
  · walk_at "ow"
    rw [cut63]
    have hq : ∀ b : Bool, -(2 ^ 63) ≤ (if b then (1 : Int) else 0) ∧ (if b then (1 : Int) else 0) < 2 ^ 63 ∧ (if b then (1 : Int) else 0).toNat ≤ 1 := by decide
    obtain ⟨q1, q2, q3⟩ := hq (decide ((ns.length : Int) = 0))
    refine ⟨_, od_rep q1 q2 (by simp only [List.length_cons, List.length_nil]; rw [sizeLine_eq]; omega), ?_⟩
    have hl : (List.replicate (if decide ((ns.length : Int) = 0) = true then (1 : Int) else 0).toNat [D.int 5]).flatten = (if ns = [] then [5] else []).map .int := by
      cases ns with
      | nil => rfl
      | cons x xs =>
        have hd : decide (((x :: xs).length : Int) = 0) = false := decide_eq_false (by simp only [List.length_cons]; omega)
        rw [hd]
        simp
    rw [hl]
    refine ⟨_, od_cat (by simp only [List.length_map, List.length_take]; rw [sizeLine_eq]; split <;> simp <;> omega), ?_⟩
    walk_at "ow"
    intro p
    rw [← List.map_append]
    refine ⟨hP p ⟨ns.take 63 ++ (if ns = [] then [5] else []), 0, 0, 0⟩ ⟨?_, ?_, Int.le_refl _, Int.le_refl _⟩, rfl⟩
    · cases ns with
      | nil => simp
      | cons x xs => simp
    · simp only [List.length_append, List.length_take]
      split <;> simp <;> omega
theorem in_false (ns : List Int) : inV (.bl false) ((ns.map fun _ => true).map fun b => V.bl b) = false := by
  unfold inV
  rw [List.any_eq_false]
  intro x hx
  obtain ⟨b, hb, rfl⟩ := List.mem_map.mp hx
  obtain ⟨_, _, rfl⟩ := List.mem_map.mp hb
  decide
theorem dp_ints {H : Hp} : ∀ (ns : List Int), DpAll K H (ns.map V.int) (ns.map PyData.int)
  | [] => .nil
  | n :: ns => .cons (.int n) (dp_ints ns)
theorem lay_ints : ∀ ns : List Int, PyData.canLayAll0 (ns.map PyData.int) = true
  | [] => rfl
  | n :: ns => by
    show (PyData.canLay0 (.int n) && PyData.canLayAll0 (ns.map PyData.int)) = true
    rw [lay_ints ns]
    rfl
theorem od_eqInts {ns : List Int} (hd : SeqAt.shaped (.tuple (ns.map PyData.int)) = true) : OD (K := K) (rEqD K) (dI ns) (dI ns) (.bl true) := fun H S x y hS dx dy Q' k => by
  obtain ⟨a, xs, rfl, ha, hx⟩ := dv_tup dx
  obtain ⟨b, ys, rfl, hb, hy⟩ := dv_tup dy
  rw [hx.of_ints] at ha
  rw [hy.of_ints] at hb
  refine ⟨.tuple (ns.map .int), .tuple (ns.map .int), .tup ha (dp_ints ns), .tup hb (dp_ints ns), hd, hd, ?_⟩
  rw [SeqAt.eqv_refl _ (show PyData.canLay0 (.tuple (ns.map .int)) = true from lay_ints ns)]
  exact k _ H (fun _ _ h => h) (by unfold DV; rfl)
theorem shaped_ints (ns : List Int) : SeqAt.shaped (.tuple (ns.map PyData.int)) = true := by
  unfold SeqAt.shaped
  rw [show PyData.canLay0 (.tuple (ns.map .int)) = true from lay_ints ns, Bool.true_and]
  refine decide_eq_true ?_
  have h : ∀ ns : List Int, (PyData.depthAll (ns.map PyData.int)) ≤ 1 := by
    intro ns
    induction ns with
    | nil => decide
    | cons n ns ih =>
      show max (PyData.depth (.int n)) (PyData.depthAll (ns.map PyData.int)) ≤ 1
      have : PyData.depth (.int n) ≤ 1 := by show _ ≤ _; simp [PyData.depth]
      omega
  have := h ns
  show PyData.depthAll (ns.map PyData.int) + 1 ≤ 64
  omega
theorem rs__law_bytes (G : Kx K w) : RSf K 2 1 (f__law_bytes K) (t__law_bytes K w) := by
  rintro os Post - ⟨ns, a, rfl, hl, hP⟩
  change RS _ _ [_, _, _] _
  unfold t__law_bytes
  walk_at "ow"
  refine re_lcM (ri_tup ?_)
  walk_at "ow"
  have hz : (ns.map D.int).length < sizeLine := by rw [List.length_map, sizeLine_eq]; omega
  refine ⟨by walk_at "vs", hz, (ns.map fun _ => true).map .bl, by simp, fun i d e h1 h2 => ?_, ?_⟩
  · obtain ⟨x, h3, h4, rfl⟩ := map_at h1
    obtain ⟨y, h5, h6, rfl⟩ := map_at h2
    obtain ⟨_, _, _, rfl⟩ := map_at h5
    refine rc_name (Nat.le_of_ble_eq_true rfl) ?_
    walk_at "ow"
    exact ⟨rfl, rfl⟩
  · walk_at "ow"
    refine ⟨_, od_inF (b := false) rfl (by simp [flatD]) (by rw [List.map_map]; exact in_false ns) (.inr rfl), _, rfl, fun h => absurd h Bool.false_ne_true, fun _ => ?_⟩
    walk_at "ow"
    exact ⟨_, od_eqInts (shaped_ints ns), hP, rfl⟩
theorem rs__law_lines (G : Kx K w) : RSf K 5 2 (f__law_lines K) (t__law_lines K w) := by
  rintro os Post - ⟨form, a, b, loop, part, rfl, h1, h2, hP⟩
  change RS _ _ [_, _, _, _, _, _, _] _
  unfold t__law_lines
  walk_at "ow"
  have hf : atI [D.str "add", D.str "sub", D.str "mul"] form = some (.str (opOf form)) := by
    obtain rfl | rfl | rfl : form = 0 ∨ form = 1 ∨ form = 2 := by omega
    · rfl
    · rfl
    · rfl
  refine ⟨_, od_ixL hf, Nat.le_of_ble_eq_true rfl, ?_⟩
  dsimp only [List.set]
  refine rs_seq (rs_setO (ro_lst ?_))
  walk_at "ow"
  intro l
  refine ⟨Nat.le_of_ble_eq_true rfl, ?_⟩
  refine rs_seq (rs_extend (i := 6) (p := []) (rp_var rfl) ?_)
  walk_at "ow"
  refine ⟨_, _, rfl, sub_nil, Nat.le_of_lt (small1000 (Nat.le_of_ble_eq_true rfl)), ?_⟩
  rw [putAt_nil]
  refine rs_retO (ro_catO (rp_var rfl) ?_)
  walk_at "ow"
  refine ⟨_, _, _, rfl, rfl, sub_nil, Nat.le_of_lt (small1000 (Nat.le_of_ble_eq_true rfl)), fun p => ?_⟩
  have e : (if decide (form = 2) = true then (1 : Int) else 0) = if form = 2 then 1 else 0 := by by_cases h : form = 2 <;> simp [h]
  rw [e]
  exact ⟨hP p, rfl⟩
abbrev jarX (cs : List Int) (p q c : Int) : List D := [.lst (cs.map .int), .int p, .int q, .int c]
theorem cell_at {j : Jar} {p : Int} (h1 : 0 ≤ p) (h2 : p < j.cs.length) : ∃ x, atI (j.cs.map D.int) p = some (.int x) := by
  have hlt : p.toNat < j.cs.length := by omega
  have e : atI (j.cs.map D.int) ((p.toNat : Nat) : Int) = some (.int j.cs[p.toNat]) := atI_nat (by rw [List.getElem?_map, List.getElem?_eq_getElem hlt]; rfl)
  exact ⟨j.cs[p.toNat], by rw [Int.toNat_of_nonneg h1] at e; exact e⟩
theorem rs__law_draw (G : Kx K w) : RSf K 2 3 (f__law_draw K) (t__law_draw K w) := by
  rintro os Post - ⟨a, j, l, rfl, ok, h1, h2, hP⟩
  change RS _ _ [some (.lst a (jarX j.cs j.p j.q j.c)), _, _, _, _] _
  unfold t__law_draw
  walk_at "ow"
  refine rg_sub ⟨_, _, _, _, rp_var rfl, ?_⟩
  walk_at "ow"
  refine ⟨_, _, _, _, rfl, rfl, sub_nil, rfl, ?_⟩
  change RS K _ [some (.lst a (jarX j.cs j.p j.q (j.c + 1))), some (di l), none, none, none] _
  refine rs_seq (RS.imp (E := { nx := fun ρ' => ∃ p q, 0 ≤ p ∧ 0 ≤ q ∧ ρ' = [some (.lst a (jarX j.cs p q (j.c + 1))), some (di l), none, none, none], rt := fun _ _ => False }) ?_ (fun ρ' ⟨p, q, hp, hq, hρ⟩ => ?_) (fun _ _ z => z.elim) (fun _ z => z.elim) (fun _ z => z.elim))
  · walk_at "ow"
    refine ⟨fun hq0 => ?_, fun hq0 => ?_⟩
    · walk_at "ow"
      rw [List.length_map]
      refine ⟨fun hl => ?_, fun hl => ?_⟩
      · have hl := of_decide_eq_true hl
        obtain ⟨x, hx⟩ := cell_at ok.p hl
        have fin2 : ∀ y : Int, 0 ≤ y → RG K (gSub (tVar 0) (tC (.int 2)) rSetL) (.int y) [some (.lst a (jarX j.cs j.p j.q (j.c + 1))), some (di l), none, none, none]
            fun ρ1 => RS K (tAsg (tOp (rI0 fun i j => V.int (i + j)) (tOp (rIx K) (tVar 0) (tC (V.int 1))) (tC (V.int 1))) (gSub (tVar 0) (tC (V.int 1)) rSetL)) ρ1
              { nx := fun ρ' => ∃ p q, 0 ≤ p ∧ 0 ≤ q ∧ ρ' = [some (.lst a (jarX j.cs p q (j.c + 1))), some (di l), none, none, none], rt := fun _ _ => False } := fun y hy => by
          refine rg_sub ⟨_, _, _, _, rp_var rfl, ?_⟩
          walk_at "ow"
          refine ⟨_, _, _, _, rfl, rfl, sub_nil, rfl, ?_⟩
          change RS K _ [some (.lst a (jarX j.cs j.p y (j.c + 1))), some (di l), none, none, none] _
          walk_at "ow"
          refine rg_sub ⟨_, _, _, _, rp_var rfl, ?_⟩
          walk_at "ow"
          refine ⟨_, _, _, _, rfl, rfl, sub_nil, rfl, ?_⟩
          exact ⟨j.p + 1, y, by have := ok.p; omega, hy, rfl⟩
        walk_at "ow"
        refine ⟨_, od_ixL hx, ?_⟩
        walk_at "ow"
        refine ⟨_, od_I ⟨by decide, by decide, by decide⟩, ?_⟩
        walk_at "ow"
        refine ⟨fun hb => ?_, fun hb => ?_⟩
        · have hb := of_decide_eq_true hb
          walk_at "ow"
          refine ⟨_, od_ixL hx, ?_⟩
          exact fin2 x (Int.le_trans (by decide) hb)
        · walk_at "ow"
          exact fin2 0 (Int.le_refl _)
      · walk_at "ow"
        exact ⟨j.p, j.q, ok.p, ok.q, rfl⟩
    · walk_at "ow"
      exact ⟨j.p, j.q, ok.p, ok.q, rfl⟩
  · subst hρ
    have hne : 0 < j.cs.length := List.length_pos_iff.mpr ok.ne
    walk_at "ow"
    refine ⟨fun hb => ?_, fun hb => ?_⟩
    · have hb := of_decide_eq_true hb
      walk_at "ow"
      refine ⟨_, od_I h1, Nat.le_of_ble_eq_true rfl, ?_⟩
      dsimp only [List.set]
      walk_at "ow"
      refine ⟨_, od_I ⟨h1, by omega⟩, ?_⟩
      refine rg_sub ⟨_, _, _, _, rp_var rfl, ?_⟩
      walk_at "ow"
      refine ⟨_, _, _, _, rfl, rfl, sub_nil, rfl, ?_⟩
      change RS K _ [some (.lst a (jarX j.cs p (q / l) (j.c + 1))), some (di l), some (.dat (.int (q % l))), none, none] _
      walk_at "ow"
      exact ⟨hP ⟨j.cs, p, q / l, j.c + 1⟩ (q % l) ⟨ok.ne, ok.sz, hp, Int.ediv_nonneg hq (Int.le_of_lt h1)⟩ (Int.emod_nonneg _ (by omega)) (Int.emod_lt_of_pos _ h1), rfl⟩
    · walk_at "ow"
      rw [List.length_map]
      obtain ⟨x, hx⟩ := cell_at (j := j) (p := (j.c + 1) % (j.cs.length : Int)) (Int.emod_nonneg _ (by omega)) (Int.emod_lt_of_pos _ (by omega))
      refine ⟨_, od_I (by omega), ?_⟩
      refine ⟨_, od_ixL hx, Nat.le_of_ble_eq_true rfl, ?_⟩
      dsimp only [List.set]
      walk_at "ow"
      refine ⟨_, od_I (.inr (by decide)), ?_⟩
      walk_at "ow"
      refine ⟨_, od_I (.inr (by decide)), ?_⟩
      walk_at "ow"
      refine ⟨_, od_I (by decide), Nat.le_of_ble_eq_true rfl, ?_⟩
      dsimp only [List.set]
      have m1 := Int.emod_nonneg (x * 69069 + (j.c + 1) * 40503 + 11) (b := 1000000007) (by decide)
      have m2 := Int.emod_lt_of_pos (x * 69069 + (j.c + 1) * 40503 + 11) (b := 1000000007) (by decide)
      generalize (x * 69069 + (j.c + 1) * 40503 + 11) % 1000000007 = mx at m1 m2 ⊢
      walk_at "ow"
      refine ⟨_, od_I (.inl ⟨by omega, by omega⟩), ?_⟩
      walk_at "ow"
      refine ⟨_, od_I (.inr (by decide)), ?_⟩
      walk_at "ow"
      refine ⟨_, od_I (by decide), Nat.le_of_ble_eq_true rfl, ?_⟩
      dsimp only [List.set]
      walk_at "ow"
      refine ⟨_, od_I ⟨by decide, by decide⟩, ?_⟩
      walk_at "ow"
      refine ⟨_, od_I h1, ?_⟩
      exact ⟨hP ⟨j.cs, p, q, j.c + 1⟩ _ ⟨ok.ne, ok.sz, hp, hq⟩ (Int.emod_nonneg _ (by omega)) (Int.emod_lt_of_pos _ h1), rfl⟩
end
end K69
set_option maxHeartbeats 4000000

namespace K69
open PySem PySem.Spec PyProof.Rows L2 Ow
variable {K : PySem.W.Frag} {w : World}
theorem od_neBs {b : Bool} : OD (K := K) rNe (.bl b) (.bl b) (.bl false) := od_ne rfl rfl rfl (by rw [decide_eq_true rfl]; rfl)
theorem od_eqBs {b : Bool} : OD (K := K) rEq (.bl b) (.bl b) (.bl true) := od_eq rfl rfl rfl (decide_eq_true rfl)
end K69
namespace K69
open PySem PySem.Spec PyProof.Rows L2 Ow
set_option maxHeartbeats 4000000
local macro_rules
  | `(tactic| walk_at "od") => `(tactic| first
    | with_reducible refine ⟨_, od_I0, ?_⟩
    | with_reducible refine ⟨_, od_B0, ?_⟩
    | with_reducible refine ⟨_, od_eqI, ?_⟩
    | with_reducible refine ⟨_, od_neBs, ?_⟩
    | with_reducible refine ⟨_, od_eqBs, ?_⟩
    | with_reducible refine ⟨_, od_eqB, ?_⟩
    | with_reducible refine ⟨_, od_eqS, ?_⟩
    | with_reducible refine ⟨_, od_neS, ?_⟩
    | with_reducible refine ⟨_, od_neB, ?_⟩
    | with_reducible refine ⟨_, od_notNT, ?_⟩
    | with_reducible refine ⟨_, od_isNT, ?_⟩
    | ((with_reducible refine oT ?_); refine ⟨_, rfl, ?_⟩)
    | ((with_reducible refine oL ?_); refine ⟨_, rfl, ?_⟩)
    | with_reducible refine ⟨_, od_ip, ?_⟩
    | with_reducible refine ⟨_, ud_I, ?_⟩)
local macro_rules
  | `(tactic| walk_at "cd") => `(tactic| first
    | with_reducible refine ⟨_, isi_int_int, ?_⟩
    | with_reducible refine ⟨_, isi_int_bool, ?_⟩
    | with_reducible refine ⟨_, isi_int_str, ?_⟩
    | with_reducible refine ⟨_, isi_int_tuple, ?_⟩
    | with_reducible refine ⟨_, isi_str_int, ?_⟩
    | with_reducible refine ⟨_, isi_str_bool, ?_⟩
    | with_reducible refine ⟨_, isi_str_str, ?_⟩
    | with_reducible refine ⟨_, isi_str_tuple, ?_⟩
    | with_reducible refine ⟨_, isi_tup_tuple, ?_⟩
    | with_reducible refine ⟨_, cd_intI, ?_⟩
    | with_reducible refine ⟨_, cd_intB, ?_⟩
    | with_reducible refine ⟨_, cd_lenT, ?_⟩
    | with_reducible refine ⟨_, cd_lenL, ?_⟩
    | with_reducible refine ⟨_, cd_lenX, ?_⟩
    | with_reducible refine ⟨_, cd_tupL, ?_⟩
    | with_reducible refine ⟨_, cd_tupT, ?_⟩)
local macro_rules
  | `(tactic| walk_at "kx") => `(tactic| first
    | exact Kx.cMem (w := _) (by assumption) | exact Kx.cMach (w := _) (by assumption) | exact Kx.cOut (w := _) (by assumption) | exact Kx.nRow (w := _) (by assumption) | exact Kx.nMany (w := _) (by assumption) | exact Kx.nMemory (w := _) (by assumption) | exact Kx.nBoxes (w := _) (by assumption) | exact Kx.nAt (w := _) (by assumption) | exact Kx.nTop (w := _) (by assumption) | exact Kx.nOutside (w := _) (by assumption) | exact Kx.nAnswers (w := _) (by assumption) | exact Kx.nTaken (w := _) (by assumption) | exact Kx.nTold (w := _) (by assumption))
local macro_rules
  | `(tactic| walk_at "rp") => `(tactic| first
    | with_reducible exact rp_row (w := _) (by assumption) rfl
    | ((with_reducible refine rp_row (w := _) (by assumption) ?_); exact rfl)
    | ((with_reducible refine rp_told (w := _) (by assumption) ?_); exact rfl)
    | ((with_reducible refine rp_memory (w := _) (by assumption) ?_); exact rfl)
    | ((with_reducible refine rp_boxes (w := _) (by assumption) ?_); exact rfl)
    | ((with_reducible refine rp_outside (w := _) (by assumption) ?_); exact rfl)
    | ((with_reducible refine rp_var ?_); exact rfl))
local macro_rules
  | `(tactic| walk_at "bl") => `(tactic| first
    | with_reducible refine ⟨true, rfl, fun (_ : true = true) => ?_, fun h => absurd (Eq.symm h) Bool.false_ne_true⟩
    | with_reducible refine ⟨true, rfl, fun h => absurd (Eq.symm h) Bool.false_ne_true, fun (_ : true = true) => ?_⟩
    | with_reducible refine ⟨false, rfl, fun h => absurd h Bool.false_ne_true, fun (_ : false = false) => ?_⟩
    | with_reducible refine ⟨false, rfl, fun (_ : false = false) => ?_, fun h => absurd h Bool.false_ne_true⟩
    | with_reducible refine ⟨_, rfl, ?_⟩)
local macro_rules
  | `(tactic| walk_at "if") => `(tactic| first
    | with_reducible refine ⟨fun (_ : true = true) => ?_, fun h => absurd (Eq.symm h) Bool.false_ne_true⟩
    | with_reducible refine ⟨fun h => absurd (Eq.symm h) Bool.false_ne_true, fun (_ : true = true) => ?_⟩
    | with_reducible refine ⟨fun h => absurd h Bool.false_ne_true, fun (_ : false = false) => ?_⟩
    | with_reducible refine ⟨fun (_ : false = false) => ?_, fun h => absurd h Bool.false_ne_true⟩
    | refine ⟨fun (h : (!true) = true) => absurd h Bool.false_ne_true, fun _ => ?_⟩
    | refine ⟨fun _ => ?_, fun (h : (!true) = true) => absurd h Bool.false_ne_true⟩
    | refine ⟨fun _ => ?_, fun (h : (!false) = false) => absurd (Eq.symm h) Bool.false_ne_true⟩
    | refine ⟨fun (h : (!false) = false) => absurd (Eq.symm h) Bool.false_ne_true, fun _ => ?_⟩)
local macro_rules
  | `(tactic| walk_at "res") => `(tactic| repeat (first | exact Res.nil | apply Res.dat | apply Res.at rfl rfl rfl))
local macro_rules
  | `(tactic| walk_at "args") => `(tactic| (apply Exists.intro; apply And.intro; (focus walk_at "res"); (refine ⟨?_, ?_, ?_⟩); (focus simp [slotsOf]); (focus rfl)))
local macro_rules
  | `(tactic| walk_at "vs") => `(tactic| (intro v hv o e; simp only [List.mem_cons, List.not_mem_nil, or_false] at hv; subst hv; first | exact nomatch e | (cases e; exact ⟨_, rfl⟩)))
local macro_rules
  | `(tactic| walk_at "recv") => `(tactic| first
    | refine ⟨_, _, _, _, _, rp_var rfl, by decide +kernel, ?_⟩
    | refine ⟨_, _, _, _, _, rp_memory (w := _) (by assumption) rfl, by decide +kernel, ?_⟩
    | refine ⟨_, _, _, _, _, rp_outside (w := _) (by assumption) rfl, by decide +kernel, ?_⟩)
local macro_rules
  | `(tactic| walk_at "meth") => `(tactic| first
    | ((with_reducible refine re_meth ?_); walk_at "recv")
    | ((with_reducible refine rs_meth ?_); walk_at "recv"))
local macro_rules
  | `(tactic| walk_at "ow1") => `(tactic| first
    | with_reducible refine rs_seq ?_
    | with_reducible refine rs_ret ?_
    | with_reducible refine rs_next ?_
    | with_reducible refine rs_if ?_
    | with_reducible refine rt_test ?_
    | with_reducible refine rt_B ?_
    | with_reducible refine rt_not ?_
    | with_reducible refine rt_or ?_
    | with_reducible refine rt_and ?_
    | with_reducible refine re_int ?_
    | with_reducible refine re_str ?_
    | with_reducible refine re_bl ?_
    | with_reducible refine re_non ?_
    | with_reducible refine re_kt (Kx.words (w := _) (by assumption)) ?_
    | with_reducible refine re_kt (Kx.needed (w := _) (by assumption)) ?_
    | with_reducible refine re_kt (Kx.ornone (w := _) (by assumption)) ?_
    | with_reducible refine re_ref ?_
    | with_reducible refine re_ty ?_
    | ((with_reducible refine re_box (w := _) (by assumption) ?_); refine ⟨_, _, rfl, ?_⟩)
    | ((with_reducible refine re_ixV ?_); refine ⟨_, _, rfl, ?_⟩)
    | with_reducible refine re_op ?_
    | with_reducible refine re_un ?_
    | with_reducible refine re_and ?_
    | with_reducible refine re_or ?_
    | with_reducible refine re_not ?_
    | with_reducible refine re_if ?_
    | with_reducible refine re_chain ?_
    | ((with_reducible refine re_lenV ?_); refine ⟨_, _, rfl, ?_⟩)
    | ((with_reducible refine re_tupV ?_); refine ⟨_, _, rfl, ?_⟩)
    | with_reducible refine re_cb ?_
    | with_reducible refine re_callF ?_
    | with_reducible refine rd_nil ?_
    | with_reducible refine rd_cons ?_
    | with_reducible refine ra_nil ?_
    | ((with_reducible refine ra_atV ?_); refine ⟨_, _, rfl, rfl, ?_⟩)
    | with_reducible refine ra_dat ?_
    | with_reducible refine re_tup ?_
    | with_reducible refine re_lst ?_
    | with_reducible refine rx_none ?_
    | with_reducible refine rx_some ?_
    | with_reducible refine re_slT ?_
    | ((with_reducible refine re_v ?_); refine ⟨_, rfl, ?_⟩)
    | ((with_reducible refine re_many (w := _) (by assumption) ?_); refine ⟨_, _, _, rfl, ?_⟩)
    | ((with_reducible refine re_at (w := _) (by assumption) ?_); refine ⟨_, _, rfl, ?_⟩)
    | ((with_reducible refine re_top (w := _) (by assumption) ?_); refine ⟨_, _, rfl, ?_⟩)
    | walk_at "meth"
    | ((with_reducible refine rg_tup ?_ ?_); (focus rfl))
    | with_reducible refine rgs_cons ?_
    | with_reducible refine rgs_nil ?_
    | ((with_reducible refine rg_name ?_ ?_); (focus exact Nat.le_of_ble_eq_true rfl); (try dsimp only [List.set]))
    | with_reducible refine rs_set ?_
    | with_reducible refine rs_asg ?_
    | (refine ⟨Nat.le_of_ble_eq_true rfl, ?_⟩; (try dsimp only [List.set]))
    | walk_at "od"
    | walk_at "cd"
    | walk_at "bl"
    | walk_at "if"
    | walk_at "args"
    | refine ⟨_, _, _, _, rfl, rfl, rfl, ?_⟩
    | refine ⟨Nat.le_of_lt (small1000 (Nat.le_of_ble_eq_true rfl)), ?_⟩)
local macro_rules
  | `(tactic| walk_at "ow") => `(tactic| repeat (walk_at "ow1"))
section
variable {K : PySem.W.Frag} {w : World}
theorem rs__law_same (G : Kx K w) (m : Nat) : RSf K 2 2 (f__law_same K (m + 1)) (t__law_same K w m) := by
  rintro os Post - ⟨d, hd, rfl, hP⟩
  change RS _ _ [_, _, _, _] _
  unfold t__law_same
  match d, hd with
  | .int i, _ =>
    walk_at "ow"
    refine ⟨_, od_isN (b := false) rfl rfl, ?_⟩
    walk_at "ow"
    refine ⟨_, od_isN (b := false) rfl rfl, ?_⟩
    walk_at "ow"
    rw [decide_eq_true (show i = i from rfl)]
    exact ⟨hP, rfl⟩
  | .str x, _ =>
    walk_at "ow"
    refine ⟨_, od_isN (b := false) rfl rfl, ?_⟩
    walk_at "ow"
    refine ⟨_, od_isN (b := false) rfl rfl, ?_⟩
    walk_at "ow"
    rw [decide_eq_true (show x = x from rfl)]
    exact ⟨hP, rfl⟩
  | .tup ds, hd =>
    have h1 : ds.length < 1000 ∧ ∀ d ∈ ds, okD m d = true := by
      have : (decide (ds.length < 1000) && ds.all (okD m)) = true := hd
      rw [Bool.and_eq_true] at this
      exact ⟨of_decide_eq_true this.1, fun d hd => List.all_eq_true.mp this.2 d hd⟩
    walk_at "ow"
    refine ⟨fun _ => ?_, fun h => absurd h (by simp)⟩
    walk_at "ow"
    refine re_lcM (ri_rng1 ?_)
    walk_at "ow"
    refine ⟨by have := h1.1; omega, by have := h1.1; omega, by walk_at "vs", ?_, (ds.map fun _ => true).map .bl, by simp, fun i d e g1 g2 => ?_, ?_⟩
    · have := h1.1
      simp only [List.length_map, List.length_range]
      rw [sizeLine_eq]
      omega
    · obtain ⟨k, g3, g4, rfl⟩ := map_at g1
      obtain ⟨y, g5, g6, rfl⟩ := map_at g2
      obtain ⟨z, g7, g8, rfl⟩ := map_at g5
      have ek : i = k := by
        have hlt := (List.getElem?_eq_some_iff.mp g3).1
        rw [List.length_range] at hlt
        rw [List.getElem?_range hlt] at g3
        cases g3
        rfl
      subst ek
      refine rc_name (Nat.le_of_ble_eq_true rfl) ?_
      have hat : atI ds (i : Int) = some z := atI_nat g7
      walk_at "ow"
      refine ⟨_, od_ixT hat, ?_⟩
      walk_at "ow"
      refine ⟨_, od_ixT hat, ?_⟩
      walk_at "ow"
      refine ⟨rfl, z, h1.2 z g8, rfl, _, rfl, rfl, rfl⟩
    · have hin : inV (.bl false) (((ds.map fun _ => true).map D.bl).map toV) = false := by
        unfold inV
        rw [List.any_eq_false]
        intro x hx
        simp only [List.mem_map] at hx
        obtain ⟨_, ⟨_, ⟨_, _, rfl⟩, rfl⟩, rfl⟩ := hx
        decide
      refine ⟨_, od_in (neg := true) (b := true) (d := .bl false) rfl (by simp [flatD]) (by rw [if_pos rfl]; exact congrArg Bool.not hin) (.inr rfl), ?_⟩
      exact ⟨hP, rfl⟩
theorem split_words : (Txt.split "set copy add sub mul low ask tell get put less same jump call back push pop out stop" " ") = words := by decide +kernel
theorem split_shapes : (Txt.split "rn rr rrr rrr rrr rn r r rAr Arr rrA rrA A A - r r A -" " ") = shapes := by decide +kernel
theorem words_nd : words.Nodup := by decide +kernel
theorem index_words {ρ : En} {ta tb : TE} {Q : D → En → Prop} {x : Str} {j : Nat} (hx : words[j]? = some x) (h : RE K ta ρ fun d ρ1 => d = .lst (words.map .str) ∧ RE K tb ρ1 fun e ρ2 => e = .str x ∧ Q (.int (j : Int)) ρ2) :
    RE K (tBM K "list" (rIndex K) ta (tCons tb tNil)) ρ Q :=
  re_index (h.imp fun d ρ1 ⟨h1, h2⟩ => ⟨_, h1, h2.imp fun e ρ2 ⟨h3, h4⟩ => by
    subst h3
    refine ⟨j, .str x, rfl, ?_, by rw [List.getElem?_map, hx]; rfl, by simp [toV, eqV], fun m z' hm hz => ?_, h4⟩
    · intro z hz
      obtain ⟨y, _, rfl⟩ := List.mem_map.mp hz
      rfl
    · obtain ⟨y, g1, g2, rfl⟩ := map_at hz
      have hne : y ≠ x := fun e => by
        subst e
        have := L2.nodup_ix words_nd g1 hx
        omega
      show (y == x) = false
      exact beq_eq_false_iff_ne.mpr hne⟩)
theorem codeO_snoc : ∀ (cs : List Nat) (as : List Int) (n c : Nat) (a : Int), cs[n]? = some c → as[n]? = some a → codeO cs (as.take (n + 1)) = codeO cs (as.take n) ++ (if c = 65 then [a / 256, a % 256] else [a % 256])
  | [], as, n, c, a, h, _ => by simp at h
  | c0 :: cs, [], n, c, a, _, h => by simp at h
  | c0 :: cs, a0 :: as, 0, c, a, h1, h2 => by
    have e1 : c0 = c := by simpa using h1
    have e2 : a0 = a := by simpa using h2
    subst e1 e2
    cases cs <;> simp [codeO]
  | c0 :: cs, a0 :: as, n + 1, c, a, h1, h2 => by
    have h1' : cs[n]? = some c := by simpa using h1
    have h2' : as[n]? = some a := by simpa using h2
    show (if c0 = 65 then [a0 / 256, a0 % 256] else [a0 % 256]) ++ codeO cs (as.take (n + 1)) = ((if c0 = 65 then [a0 / 256, a0 % 256] else [a0 % 256]) ++ codeO cs (as.take n)) ++ _
    rw [codeO_snoc cs as n c a h1' h2', List.append_assoc]
theorem codeO_len (cs : List Nat) (as : List Int) : (codeO cs as).length ≤ 2 * cs.length := by
  induction cs generalizing as with
  | nil => simp [codeO]
  | cons c cs ih =>
    cases as with
    | nil => simp [codeO]
    | cons a as =>
      have := ih as
      simp only [codeO, List.length_append, List.length_cons]
      split <;> simp <;> omega
theorem shapes_len : ∀ y ∈ shapes, y.cps.toList.length ≤ 3 := by decide +kernel
theorem rs__law_coded (G : Kx K w) : RSf K 1 4 (f__law_coded K) (t__law_coded K w) := by
  rintro os Post - ⟨x, as, j, z, rfl, hx, hz, hl, hP⟩
  change RS _ _ [some (.dat (.tup (.str x :: as.map .int))), _, _, _, _] _
  unfold t__law_coded
  walk_at "ow"
  refine re_split ?_
  walk_at "ow"
  refine ⟨by decide +kernel, by rw [sizeLine_eq]; decide +kernel, Nat.le_of_ble_eq_true rfl, ?_⟩
  rw [split_words]
  dsimp only [List.set]
  walk_at "ow"
  refine re_split ?_
  walk_at "ow"
  refine ⟨by decide +kernel, by rw [sizeLine_eq]; decide +kernel, ?_⟩
  rw [split_shapes]
  refine index_words hx ?_
  walk_at "ow"
  refine ⟨rfl, ?_⟩
  walk_at "ow"
  refine ⟨_, od_ixT (i := 0) (d := .str x) (atI_nat (j := 0) rfl), rfl, ?_⟩
  refine ⟨_, od_ixL (d := .str z) (atI_nat (by rw [List.getElem?_map, hz]; rfl)), Nat.le_of_ble_eq_true rfl, ?_⟩
  dsimp only [List.set]
  refine rs_seq (rs_setO (ro_lst ?_))
  walk_at "ow"
  refine index_words hx ?_
  walk_at "ow"
  refine ⟨rfl, ?_⟩
  walk_at "ow"
  refine ⟨_, od_ixT (i := 0) (d := .str x) (atI_nat (j := 0) rfl), rfl, ?_⟩
  walk_at "ow"
  intro p
  refine ⟨Nat.le_of_ble_eq_true rfl, ?_⟩
  have hz3 := shapes_len z (List.mem_of_getElem? hz)
  refine rs_seq (rs_for (ri_rng1 ?_))
  walk_at "ow"
  simp only [List.length_cons, List.length_map]
  rw [show ((as.length + 1 : Nat) : Int) - 1 = (as.length : Int) by omega]
  refine ⟨by omega, by omega, ?_⟩
  refine ⟨fun n ρ' => ∃ zz, ρ' = [some (.dat (.tup (.str x :: as.map .int))), some (.dat (.lst (words.map .str))), some (.dat (.str z)), some (.lst p ((codeL j z.cps.toList (as.take n)).map .int)), zz], ⟨none, by simp [codeL]; cases z.cps.toList <;> rfl⟩, fun n d ρ' g1 ⟨zz, hzz⟩ => ?_, fun ρ' ⟨zz, hzz⟩ => ?_⟩
  · subst hzz
    obtain ⟨k, g3, g4, rfl⟩ := map_at g1
    have hlt := (List.getElem?_eq_some_iff.mp g3).1
    rw [List.length_range] at hlt
    rw [List.getElem?_range hlt] at g3
    cases g3
    have hn : n < as.length := by omega
    have ha : as[n]? = some as[n] := List.getElem?_eq_getElem hn
    have hc : z.cps.toList[n]? = some z.cps.toList[n] := List.getElem?_eq_getElem (by omega)
    generalize as[n] = a at ha
    generalize z.cps.toList[n] = c at hc
    have hat : atI (D.str x :: as.map D.int) ((n : Int) + 1) = some (.int a) := by
      rw [show (n : Int) + 1 = ((n + 1 : Nat) : Int) by omega]
      exact atI_nat (by simp [ha])
    walk_at "ow"
    refine rs_extend (i := 3) (p := []) (rp_var rfl) ?_
    refine re_slL ?_
    walk_at "ow"
    refine ⟨_, od_ixT hat, ?_⟩
    walk_at "ow"
    refine ⟨_, od_I ⟨by decide, by decide⟩, ?_⟩
    walk_at "ow"
    refine ⟨_, od_ixT hat, ?_⟩
    walk_at "ow"
    refine ⟨_, od_I (by decide), ?_⟩
    walk_at "ow"
    refine ⟨_, od_ixS (by unfold Str.length; rw [sizeLine_eq]; simp at hz3; omega) (atI_nat hc), ?_⟩
    walk_at "ow"
    have hcut : Ow.cutD [D.int (a / 256), D.int (a % 256)] (some (if (!decide ((⟨#[c]⟩ : Str) = "A")) = true then 1 else 0)) none = (if c = 65 then [a / 256, a % 256] else [a % 256]).map D.int := by
      by_cases h : c = 65
      · subst h
        rw [if_pos rfl, show decide ((⟨#[65]⟩ : Str) = "A") = true by decide +kernel]
        rfl
      · rw [if_neg h, show decide ((⟨#[c]⟩ : Str) = "A") = false from decide_eq_false fun e => h (by
          have e2 := congrArg (fun s : Str => s.cps.toList) e
          have e3 : [c] = [65] := e2
          cases e3
          rfl)]
        rfl
    rw [hcut]
    have hlen : (codeL j z.cps.toList (as.take n)).length ≤ 7 := by
      have := codeO_len z.cps.toList (as.take n)
      simp only [codeL, List.length_cons]
      omega
    refine ⟨_, _, rfl, sub_nil, ?_, some (.dat (.int n)), ?_⟩
    · rw [sizeLine_eq, List.length_map, List.length_map]
      split <;> simp <;> omega
    · rw [putAt_nil, ← List.map_append]
      unfold codeL
      rw [codeO_snoc _ _ _ _ _ hc ha]
      rfl
  · subst hzz
    rw [List.length_range, Int.toNat_natCast, List.take_length]
    refine rs_retO (ro_slot rfl ?_)
    exact ⟨hP p, rfl⟩
theorem rs_law (G : Kx K w) : RSf K 1 0 (f_law K) (t_law K w) := by
  rintro os Post - ⟨ns, rfl, hn, hP⟩
  change RS _ _ [_] _
  unfold t_law
  walk_at "ow"
  exact ⟨rfl, _, rfl, hn, _, rfl, hP, rfl⟩
theorem re_draw {ρ : En} {te : TE} {Q : D → En → Prop} {E0' : XK} {i : Nat} (h0 : ∃ a ds0, ρ[i]? = some (some (.lst a ds0)) ∧ RE K te ρ fun d ρ1 => ∃ l j, d = .int l ∧ ρ1[i]? = some (some (.lst a (jarL j))) ∧ JarOk j ∧ 0 < l ∧ l < 100000 ∧
    ∀ j' r, JarOk j' → 0 ≤ r → r < l → Q (.int r) (ρ1.set i (some (.lst a (jarL j'))))) : RE K (tCall (spM K 2 (f__law_draw K)) [] E0' (tCons (tVar i) (tCons te tNil))) ρ Q := by
  obtain ⟨a, ds0, h1, h2⟩ := h0
  refine re_ro (ro_call (ra_at (rp_var h1) rfl (ra_dat (h2.imp fun d ρ1 ⟨l, j, e, g1, g2, g3, g4, g5⟩ => ra_nil ?_))))
  subst e
  refine ⟨_, .at g1 sub_nil rfl (.dat .nil), by simp [slotsOf], rfl, a, j, l, rfl, g2, g3, g4, fun j' r k1 k2 k3 => ⟨_, rfl, ?_⟩⟩
  have := g5 j' r k1 k2 k3
  show Q (.int r) (match ρ1[i]? with
    | some (some r0) => pbk (ρ1.set i (some (putAt r0 [] (.lst a (jarL j'))))) [.dat (.int l)] [.dat (.int l)]
    | _ => pbk ρ1 [.dat (.int l)] [.dat (.int l)])
  rw [g1]
  simp only [putAt_nil]
  exact this
end
end K69
namespace K69
open PySem PySem.Spec PyProof.Rows L2 Ow
set_option maxHeartbeats 4000000
local macro_rules
  | `(tactic| walk_at "od") => `(tactic| first
    | with_reducible refine ⟨_, od_I0, ?_⟩
    | with_reducible refine ⟨_, od_B0, ?_⟩
    | with_reducible refine ⟨_, od_eqI, ?_⟩
    | with_reducible refine ⟨_, od_neBs, ?_⟩
    | with_reducible refine ⟨_, od_eqBs, ?_⟩
    | with_reducible refine ⟨_, od_eqB, ?_⟩
    | with_reducible refine ⟨_, od_eqS, ?_⟩
    | with_reducible refine ⟨_, od_neS, ?_⟩
    | with_reducible refine ⟨_, od_neB, ?_⟩
    | with_reducible refine ⟨_, od_notNT, ?_⟩
    | with_reducible refine ⟨_, od_isNT, ?_⟩
    | ((with_reducible refine oT ?_); refine ⟨_, rfl, ?_⟩)
    | ((with_reducible refine oL ?_); refine ⟨_, rfl, ?_⟩)
    | with_reducible refine ⟨_, od_ip, ?_⟩
    | with_reducible refine ⟨_, ud_I, ?_⟩)
local macro_rules
  | `(tactic| walk_at "cd") => `(tactic| first
    | with_reducible refine ⟨_, isi_int_int, ?_⟩
    | with_reducible refine ⟨_, isi_int_bool, ?_⟩
    | with_reducible refine ⟨_, isi_int_str, ?_⟩
    | with_reducible refine ⟨_, isi_int_tuple, ?_⟩
    | with_reducible refine ⟨_, isi_str_int, ?_⟩
    | with_reducible refine ⟨_, isi_str_bool, ?_⟩
    | with_reducible refine ⟨_, isi_str_str, ?_⟩
    | with_reducible refine ⟨_, isi_str_tuple, ?_⟩
    | with_reducible refine ⟨_, isi_tup_tuple, ?_⟩
    | with_reducible refine ⟨_, cd_intI, ?_⟩
    | with_reducible refine ⟨_, cd_intB, ?_⟩
    | with_reducible refine ⟨_, cd_lenT, ?_⟩
    | with_reducible refine ⟨_, cd_lenL, ?_⟩
    | with_reducible refine ⟨_, cd_lenX, ?_⟩
    | with_reducible refine ⟨_, cd_tupL, ?_⟩
    | with_reducible refine ⟨_, cd_tupT, ?_⟩)
local macro_rules
  | `(tactic| walk_at "kx") => `(tactic| first
    | exact Kx.cMem (w := _) (by assumption) | exact Kx.cMach (w := _) (by assumption) | exact Kx.cOut (w := _) (by assumption) | exact Kx.nRow (w := _) (by assumption) | exact Kx.nMany (w := _) (by assumption) | exact Kx.nMemory (w := _) (by assumption) | exact Kx.nBoxes (w := _) (by assumption) | exact Kx.nAt (w := _) (by assumption) | exact Kx.nTop (w := _) (by assumption) | exact Kx.nOutside (w := _) (by assumption) | exact Kx.nAnswers (w := _) (by assumption) | exact Kx.nTaken (w := _) (by assumption) | exact Kx.nTold (w := _) (by assumption))
local macro_rules
  | `(tactic| walk_at "rp") => `(tactic| first
    | with_reducible exact rp_row (w := _) (by assumption) rfl
    | ((with_reducible refine rp_row (w := _) (by assumption) ?_); exact rfl)
    | ((with_reducible refine rp_told (w := _) (by assumption) ?_); exact rfl)
    | ((with_reducible refine rp_memory (w := _) (by assumption) ?_); exact rfl)
    | ((with_reducible refine rp_boxes (w := _) (by assumption) ?_); exact rfl)
    | ((with_reducible refine rp_outside (w := _) (by assumption) ?_); exact rfl)
    | ((with_reducible refine rp_var ?_); exact rfl))
local macro_rules
  | `(tactic| walk_at "bl") => `(tactic| first
    | with_reducible refine ⟨true, rfl, fun (_ : true = true) => ?_, fun h => absurd (Eq.symm h) Bool.false_ne_true⟩
    | with_reducible refine ⟨true, rfl, fun h => absurd (Eq.symm h) Bool.false_ne_true, fun (_ : true = true) => ?_⟩
    | with_reducible refine ⟨false, rfl, fun h => absurd h Bool.false_ne_true, fun (_ : false = false) => ?_⟩
    | with_reducible refine ⟨false, rfl, fun (_ : false = false) => ?_, fun h => absurd h Bool.false_ne_true⟩
    | with_reducible refine ⟨_, rfl, ?_⟩)
local macro_rules
  | `(tactic| walk_at "if") => `(tactic| first
    | with_reducible refine ⟨fun (_ : true = true) => ?_, fun h => absurd (Eq.symm h) Bool.false_ne_true⟩
    | with_reducible refine ⟨fun h => absurd (Eq.symm h) Bool.false_ne_true, fun (_ : true = true) => ?_⟩
    | with_reducible refine ⟨fun h => absurd h Bool.false_ne_true, fun (_ : false = false) => ?_⟩
    | with_reducible refine ⟨fun (_ : false = false) => ?_, fun h => absurd h Bool.false_ne_true⟩
    | refine ⟨fun (h : (!true) = true) => absurd h Bool.false_ne_true, fun _ => ?_⟩
    | refine ⟨fun _ => ?_, fun (h : (!true) = true) => absurd h Bool.false_ne_true⟩
    | refine ⟨fun _ => ?_, fun (h : (!false) = false) => absurd (Eq.symm h) Bool.false_ne_true⟩
    | refine ⟨fun (h : (!false) = false) => absurd (Eq.symm h) Bool.false_ne_true, fun _ => ?_⟩)
local macro_rules
  | `(tactic| walk_at "res") => `(tactic| repeat (first | exact Res.nil | apply Res.dat | apply Res.at rfl rfl rfl))
local macro_rules
  | `(tactic| walk_at "args") => `(tactic| (apply Exists.intro; apply And.intro; (focus walk_at "res"); (refine ⟨?_, ?_, ?_⟩); (focus simp [slotsOf]); (focus rfl)))
local macro_rules
  | `(tactic| walk_at "vs") => `(tactic| (intro v hv o e; simp only [List.mem_cons, List.not_mem_nil, or_false] at hv; subst hv; first | exact nomatch e | (cases e; exact ⟨_, rfl⟩)))
local macro_rules
  | `(tactic| walk_at "recv") => `(tactic| first
    | refine ⟨_, _, _, _, _, rp_var rfl, by decide +kernel, ?_⟩
    | refine ⟨_, _, _, _, _, rp_memory (w := _) (by assumption) rfl, by decide +kernel, ?_⟩
    | refine ⟨_, _, _, _, _, rp_outside (w := _) (by assumption) rfl, by decide +kernel, ?_⟩)
local macro_rules
  | `(tactic| walk_at "meth") => `(tactic| first
    | ((with_reducible refine re_meth ?_); walk_at "recv")
    | ((with_reducible refine rs_meth ?_); walk_at "recv"))
local macro_rules
  | `(tactic| walk_at "ow1") => `(tactic| first
    | with_reducible refine rs_seq ?_
    | with_reducible refine rs_ret ?_
    | with_reducible refine rs_next ?_
    | with_reducible refine rs_if ?_
    | with_reducible refine rt_test ?_
    | with_reducible refine rt_B ?_
    | with_reducible refine rt_not ?_
    | with_reducible refine rt_or ?_
    | with_reducible refine rt_and ?_
    | with_reducible refine re_int ?_
    | with_reducible refine re_str ?_
    | with_reducible refine re_bl ?_
    | with_reducible refine re_non ?_
    | with_reducible refine re_kt (Kx.words (w := _) (by assumption)) ?_
    | with_reducible refine re_kt (Kx.needed (w := _) (by assumption)) ?_
    | with_reducible refine re_kt (Kx.ornone (w := _) (by assumption)) ?_
    | with_reducible refine re_ref ?_
    | with_reducible refine re_ty ?_
    | ((with_reducible refine re_box (w := _) (by assumption) ?_); refine ⟨_, _, rfl, ?_⟩)
    | ((with_reducible refine re_ixV ?_); refine ⟨_, _, rfl, ?_⟩)
    | with_reducible refine re_op ?_
    | with_reducible refine re_un ?_
    | with_reducible refine re_and ?_
    | with_reducible refine re_or ?_
    | with_reducible refine re_not ?_
    | with_reducible refine re_if ?_
    | with_reducible refine re_chain ?_
    | ((with_reducible refine re_lenV ?_); refine ⟨_, _, rfl, ?_⟩)
    | ((with_reducible refine re_tupV ?_); refine ⟨_, _, rfl, ?_⟩)
    | with_reducible refine re_cb ?_
    | ((with_reducible refine re_draw ?_); refine ⟨_, _, rfl, ?_⟩)
    | with_reducible refine re_callF ?_
    | with_reducible refine rd_nil ?_
    | with_reducible refine rd_cons ?_
    | with_reducible refine ra_nil ?_
    | ((with_reducible refine ra_atV ?_); refine ⟨_, _, rfl, rfl, ?_⟩)
    | with_reducible refine ra_dat ?_
    | with_reducible refine re_tup ?_
    | with_reducible refine re_lst ?_
    | with_reducible refine rx_none ?_
    | with_reducible refine rx_some ?_
    | with_reducible refine re_slT ?_
    | ((with_reducible refine re_v ?_); refine ⟨_, rfl, ?_⟩)
    | ((with_reducible refine re_many (w := _) (by assumption) ?_); refine ⟨_, _, _, rfl, ?_⟩)
    | ((with_reducible refine re_at (w := _) (by assumption) ?_); refine ⟨_, _, rfl, ?_⟩)
    | ((with_reducible refine re_top (w := _) (by assumption) ?_); refine ⟨_, _, rfl, ?_⟩)
    | walk_at "meth"
    | ((with_reducible refine rg_tup ?_ ?_); (focus rfl))
    | with_reducible refine rgs_cons ?_
    | with_reducible refine rgs_nil ?_
    | ((with_reducible refine rg_name ?_ ?_); (focus exact Nat.le_of_ble_eq_true rfl); (try dsimp only [List.set]))
    | with_reducible refine rs_set ?_
    | with_reducible refine rs_asg ?_
    | (refine ⟨Nat.le_of_ble_eq_true rfl, ?_⟩; (try dsimp only [List.set]))
    | walk_at "od"
    | walk_at "cd"
    | walk_at "bl"
    | walk_at "if"
    | walk_at "args"
    | refine ⟨_, _, _, _, rfl, rfl, rfl, ?_⟩
    | refine ⟨Nat.le_of_lt (small1000 (Nat.le_of_ble_eq_true rfl)), ?_⟩)
local macro_rules
  | `(tactic| walk_at "ow") => `(tactic| repeat (walk_at "ow1"))
section
variable {K : PySem.W.Frag} {w : World}
abbrev vi (i : Int) : Option O := some (.dat (.int i))
theorem pick5 {r : Int} {v : Int} (h1 : 0 ≤ r) (h2 : r < 5) (g1 : 0 ≤ v) (g2 : v < 256) : ∃ a, atI [D.int 0, D.int 1, D.int 3, D.int 255, D.int v] r = some (.int a) ∧ 0 ≤ a ∧ a < 256 := by
  obtain rfl | rfl | rfl | rfl | rfl : r = 0 ∨ r = 1 ∨ r = 2 ∨ r = 3 ∨ r = 4 := by omega
  · exact ⟨0, rfl, by decide, by decide⟩
  · exact ⟨1, rfl, by decide, by decide⟩
  · exact ⟨3, rfl, by decide, by decide⟩
  · exact ⟨255, rfl, by decide, by decide⟩
  · exact ⟨v, rfl, g1, g2⟩
theorem pick3 {r : Int} (h1 : 0 ≤ r) (h2 : r < 3) : ∃ a, atI [D.int 5, D.int 30, D.int 100] r = some (.int a) ∧ 0 < a ∧ a ≤ 100 := by
  obtain rfl | rfl | rfl : r = 0 ∨ r = 1 ∨ r = 2 := by omega
  · exact ⟨5, rfl, by decide, by decide⟩
  · exact ⟨30, rfl, by decide, by decide⟩
  · exact ⟨100, rfl, by decide, by decide⟩
theorem pick8 {r v : Int} (h1 : 0 ≤ r) (h2 : r < 8) (g1 : 0 ≤ v) (g2 : v < 300) : ∃ q s, atI [D.int 0, D.int 0, D.int 1, D.int 2, D.int 3, D.int 3, D.int 0, D.int 4] r = some (.int q) ∧ atI [D.int 64, D.int 65, D.int 128, D.int (300 + v), D.int 4096] q = some (.int s) ∧ 64 ≤ s ∧ s ≤ 4096 := by
  obtain rfl | rfl | rfl | rfl | rfl | rfl | rfl | rfl : r = 0 ∨ r = 1 ∨ r = 2 ∨ r = 3 ∨ r = 4 ∨ r = 5 ∨ r = 6 ∨ r = 7 := by omega
  · exact ⟨0, 64, rfl, rfl, by decide, by decide⟩
  · exact ⟨0, 64, rfl, rfl, by decide, by decide⟩
  · exact ⟨1, 65, rfl, rfl, by decide, by decide⟩
  · exact ⟨2, 128, rfl, rfl, by decide, by decide⟩
  · exact ⟨3, 300 + v, rfl, rfl, by omega, by omega⟩
  · exact ⟨3, 300 + v, rfl, rfl, by omega, by omega⟩
  · exact ⟨0, 64, rfl, rfl, by decide, by decide⟩
  · exact ⟨4, 4096, rfl, rfl, by decide, by decide⟩
theorem pickB {r s x y : Int} (h1 : 0 ≤ r) (h2 : r < 3) (hs : 64 ≤ s) (x1 : 0 ≤ x) (x2 : x < s) (y1 : 0 ≤ y) (y2 : y < 14) : ∃ b, atI [D.int x, D.int (s - 1 - y), D.int 0] r = some (.int b) ∧ 0 ≤ b ∧ b < s := by
  obtain rfl | rfl | rfl : r = 0 ∨ r = 1 ∨ r = 2 := by omega
  · exact ⟨x, rfl, x1, x2⟩
  · exact ⟨s - 1 - y, rfl, by omega, by omega⟩
  · exact ⟨0, rfl, by omega, by omega⟩
theorem la0 {ns : List Int} {E : De} (hn : ns.length < sizeLine)
    (next : ∀ aj j form a b size base more, JarOk j → (0 ≤ form ∧ form < 3) → (0 ≤ a ∧ a < 256) → (1 ≤ b ∧ b ≤ 100) → (64 ≤ size ∧ size ≤ 4096) → (0 ≤ base ∧ base < size) → (∃ r, 0 ≤ r ∧ r < 3 ∧ more = size * r) →
      RS K (tl__law_all_5 K w) [some (.dat (.scr ns)), some (.lst aj (jarL j)), vi form, vi a, vi b, vi size, vi base, vi more, none, none, none, none, none, none, none, none, none, none, none, none, none, none, none, none, none, none, none, none, none, none] E) :
    RS K (tl__law_all_0 K w) [some (.dat (.scr ns)), none, none, none, none, none, none, none, none, none, none, none, none, none, none, none, none, none, none, none, none, none, none, none, none, none, none, none, none, none] E := by
  unfold tl__law_all_0
  refine rs_seq (rs_setO (ro_callF ?_))
  walk_at "ow"
  refine ⟨rfl, ns, rfl, hn, fun aj j0 ok0 => ⟨Nat.le_of_ble_eq_true rfl, ?_⟩⟩
  try dsimp only [List.set]
  unfold tl__law_all_1
  refine rs_seq (rs_par3 ?_)
  walk_at "ow"
  refine ⟨_, _, rfl, rfl, ok0, by decide, by decide, fun j1 form ok1 f1 f2 => ?_⟩
  try dsimp only [List.set]
  walk_at "ow"
  refine ⟨_, _, rfl, rfl, ok1, by decide, by decide, fun j2 v1 ok2 v11 v12 => ?_⟩
  try dsimp only [List.set]
  walk_at "ow"
  refine ⟨_, _, rfl, rfl, ok2, by decide, by decide, fun j3 v2 ok3 v21 v22 => ?_⟩
  try dsimp only [List.set]
  obtain ⟨a, ha, a1, a2⟩ := pick5 v21 v22 v11 v12
  refine ⟨_, od_ixL ha, ?_⟩
  walk_at "ow"
  refine ⟨_, _, rfl, rfl, ok3, by decide, by decide, fun j4 v3 ok4 v31 v32 => ?_⟩
  try dsimp only [List.set]
  obtain ⟨lb, hlb, lb1, lb2⟩ := pick3 v31 v32
  refine ⟨_, od_ixL hlb, ?_⟩
  refine ⟨_, _, rfl, rfl, ok4, lb1, by omega, fun j5 b0 ok5 b01 b02 => ?_⟩
  try dsimp only [List.set]
  walk_at "ow"
  obtain ⟨b, hb⟩ : ∃ b, b = 1 + b0 := ⟨_, rfl⟩
  rw [← hb]
  have b1 : 1 ≤ b := by omega
  have b2 : b ≤ 100 := by omega
  clear hb hlb ha
  refine ⟨_, _, _, rfl, Nat.le_of_ble_eq_true rfl, Nat.le_of_ble_eq_true rfl, Nat.le_of_ble_eq_true rfl, ?_⟩
  try dsimp only [List.set]
  unfold tl__law_all_2
  walk_at "ow"
  refine ⟨_, _, rfl, rfl, ok5, by decide, by decide, fun j6 v4 ok6 v41 v42 => ?_⟩
  try dsimp only [List.set]
  walk_at "ow"
  refine ⟨_, _, rfl, rfl, ok6, by decide, by decide, fun j7 v5 ok7 v51 v52 => ?_⟩
  try dsimp only [List.set]
  obtain ⟨q5, size, hq5, hsz, s1, s2⟩ := pick8 v51 v52 v41 v42
  refine ⟨_, od_ixL hq5, _, od_ixL hsz, Nat.le_of_ble_eq_true rfl, ?_⟩
  clear hq5 hsz
  try dsimp only [List.set]
  unfold tl__law_all_3
  walk_at "ow"
  refine ⟨_, _, rfl, rfl, ok7, by omega, by omega, fun j8 v6 ok8 v61 v62 => ?_⟩
  try dsimp only [List.set]
  walk_at "ow"
  refine ⟨_, _, rfl, rfl, ok8, by decide, by decide, fun j9 v7 ok9 v71 v72 => ?_⟩
  try dsimp only [List.set]
  walk_at "ow"
  refine ⟨_, _, rfl, rfl, ok9, by decide, by decide, fun j10 v8 ok10 v81 v82 => ?_⟩
  try dsimp only [List.set]
  obtain ⟨base, hbase, base1, base2⟩ := pickB v81 v82 s1 v61 v62 v71 v72
  refine ⟨_, od_ixL hbase, Nat.le_of_ble_eq_true rfl, ?_⟩
  clear hbase
  try dsimp only [List.set]
  unfold tl__law_all_4
  walk_at "ow"
  refine ⟨_, _, rfl, rfl, ok10, by decide, by decide, fun j11 v9 ok11 v91 v92 => ?_⟩
  try dsimp only [List.set]
  refine ⟨_, od_I (.inl ⟨by omega, by omega⟩), Nat.le_of_ble_eq_true rfl, ?_⟩
  try dsimp only [List.set]
  exact next aj j11 form a b size base (size * v9) ok11 ⟨f1, f2⟩ ⟨a1, a2⟩ ⟨b1, b2⟩ ⟨s1, s2⟩ ⟨base1, base2⟩ ⟨v9, v91, v92, rfl⟩
abbrev Ia (ns : List Int) : List D := ns.map .int
theorem la5 (G : Kx K w) {E : De} {ns : List Int} {aj : Addr} {j : Jar} {form a b size base more : Int} (hf : 0 ≤ form ∧ form < 3)
    (next : ∀ ap z, RS K (tl__law_all_7 K w) [some (.dat (.scr ns)), some (.lst aj (jarL j)), vi form, vi a, vi b, vi size, vi base, vi more, some (.lst ap ((places (linesV form a b 0 0) 14).map .int)), z, none, none, none, none, none, none, none, none, none, none, none, none, none, none, none, none, none, none, none, none] E) : RS K (tl__law_all_5 K w) [some (.dat (.scr ns)), some (.lst aj (jarL j)), vi form, vi a, vi b, vi size, vi base, vi more, none, none, none, none, none, none, none, none, none, none, none, none, none, none, none, none, none, none, none, none, none, none] E := by
  unfold tl__law_all_5
  refine rs_seq (rs_setO (ro_lst ?_))
  walk_at "ow"
  intro ap
  refine ⟨Nat.le_of_ble_eq_true rfl, ?_⟩
  try dsimp only [List.set]
  unfold tl__law_all_6
  refine rs_seq (rs_for (ri_list (re_fz (ro_callF ?_))))
  walk_at "ow"
  refine ⟨rfl, form, a, b, 0, 0, rfl, hf.1, hf.2, fun l => .inl ⟨_, rfl, ?_⟩⟩
  refine ⟨fun n ρ' => ∃ z, ρ' = [some (.dat (.scr ns)), some (.lst aj (jarL j)), vi form, vi a, vi b, vi size, vi base, vi more, some (.lst ap ((places (linesV form a b 0 0) n).map .int)), z, none, none, none, none, none, none, none, none, none, none, none, none, none, none, none, none, none, none, none, none], ⟨none, rfl⟩, fun n d ρ' g1 ⟨z, hz⟩ => ?_, fun ρ' ⟨z, hz⟩ => ?_⟩
  · subst hz
    obtain ⟨q, hq, hqm, rfl⟩ := map_at g1
    obtain ⟨zz, k1, k2, k3, k4⟩ := lnOk hf q hqm
    walk_at "ow"
    refine rs_append (i := 8) (p := []) (rp_var rfl) ?_
    walk_at "ow"
    refine ⟨_, _, _, _, rfl, rfl, (show atI (Ia (places (linesV form a b 0 0) n)) _ = some (.int (plc (linesV form a b 0 0) n)) from ?_), ?_⟩
    · rw [List.length_map, places_len, show ((n + 1 : Nat) : Int) - 1 = (n : Int) by omega]
      exact atI_nat (by rw [List.getElem?_map, places_at (Nat.le_refl n)]; rfl)
    refine re_cb (rd_cons (re_fz (ro_callF ?_)))
    walk_at "ow"
    refine ⟨rfl, q.1, q.2, lnJ q, zz, rfl, k1, k2, k3, fun l => ?_⟩
    walk_at "ow"
    refine ⟨_, _, rfl, sub_nil, ?_, ?_⟩
    · rw [List.length_map, places_len, sizeLine_eq]
      have := (List.getElem?_eq_some_iff.mp hq).1
      rw [lines_len] at this
      omega
    · refine ⟨some (.dat (insD q.1 q.2)), ?_⟩
      rw [putAt_nil, places_snoc hq, ← k4, List.length_map, List.map_append]
      rfl
  · subst hz
    exact next ap z
theorem at_I {ns : List Int} {k : Nat} {x : Int} (h : ns[k]? = some x) : atI (Ia ns) (k : Int) = some (.int x) := atI_nat (by rw [List.getElem?_map, h]; rfl)
theorem la7 {E : De} {ns ps : List Int} {aj ap : Addr} {j : Jar} {form a b size base more : Int} {z : Option O} (hs : 0 < size) (p5 : ps[5]? = some 15) (p10 : ps[10]? = some 30)
    (next : RS K (tl__law_all_8 K w) [some (.dat (.scr ns)), some (.lst aj (jarL j)), vi form, vi a, vi b, vi size, vi base, vi more, some (.lst ap (Ia ps)), z, vi ((base + 15) % size + more), vi ((base + 30) % size + more), none, none, none, none, none, none, none, none, none, none, none, none, none, none, none, none, none, none] E) : RS K (tl__law_all_7 K w) [some (.dat (.scr ns)), some (.lst aj (jarL j)), vi form, vi a, vi b, vi size, vi base, vi more, some (.lst ap (Ia ps)), z, none, none, none, none, none, none, none, none, none, none, none, none, none, none, none, none, none, none, none, none] E := by
  unfold tl__law_all_7
  refine rs_seq (rs_par ?_)
  walk_at "ow"
  refine ⟨_, _, _, _, rfl, rfl, at_I (k := 5) p5, ?_⟩
  walk_at "ow"
  refine ⟨_, od_I hs, ?_⟩
  walk_at "ow"
  refine ⟨_, _, _, _, rfl, rfl, at_I (k := 10) p10, ?_⟩
  walk_at "ow"
  refine ⟨_, od_I hs, ?_⟩
  walk_at "ow"
  refine ⟨_, _, rfl, Nat.le_of_ble_eq_true rfl, Nat.le_of_ble_eq_true rfl, ?_⟩
  exact next
theorem la8 (G : Kx K w) {E : De} {ns ps : List Int} {aj ap : Addr} {j : Jar} {form a b size base more loop part : Int} {z : Option O} (hf : 0 ≤ form ∧ form < 3)
    (next : ∀ ac z, RS K (tl__law_all_10 K w) [some (.dat (.scr ns)), some (.lst aj (jarL j)), vi form, vi a, vi b, vi size, vi base, vi more, some (.lst ap (Ia ps)), z, vi loop, vi part, some (.lst ac (Ia (codeAll form a b loop part))), none, none, none, none, none, none, none, none, none, none, none, none, none, none, none, none, none] E) : RS K (tl__law_all_8 K w) [some (.dat (.scr ns)), some (.lst aj (jarL j)), vi form, vi a, vi b, vi size, vi base, vi more, some (.lst ap (Ia ps)), z, vi loop, vi part, none, none, none, none, none, none, none, none, none, none, none, none, none, none, none, none, none, none] E := by
  unfold tl__law_all_8
  refine rs_seq (rs_setO (ro_lst ?_))
  walk_at "ow"
  intro ac
  refine ⟨Nat.le_of_ble_eq_true rfl, ?_⟩
  try dsimp only [List.set]
  unfold tl__law_all_9
  refine rs_seq (rs_for (ri_list (re_fz (ro_callF ?_))))
  walk_at "ow"
  refine ⟨rfl, form, a, b, loop, part, rfl, hf.1, hf.2, fun l => .inl ⟨_, rfl, ?_⟩⟩
  refine ⟨fun n ρ' => ∃ z, ρ' = [some (.dat (.scr ns)), some (.lst aj (jarL j)), vi form, vi a, vi b, vi size, vi base, vi more, some (.lst ap (Ia ps)), z, vi loop, vi part, some (.lst ac (Ia (((linesV form a b loop part).take n).flatMap lnC))), none, none, none, none, none, none, none, none, none, none, none, none, none, none, none, none, none], ⟨z, rfl⟩, fun n d ρ' g1 ⟨z, hz⟩ => ?_, fun ρ' ⟨z, hz⟩ => ?_⟩
  · subst hz
    obtain ⟨q, hq, hqm, rfl⟩ := map_at g1
    obtain ⟨zz, k1, k2, k3, k4⟩ := lnOk hf q hqm
    walk_at "ow"
    refine rs_extend (i := 12) (p := []) (rp_var rfl) ?_
    refine re_fz (ro_callF ?_)
    walk_at "ow"
    refine ⟨rfl, q.1, q.2, lnJ q, zz, rfl, k1, k2, k3, fun l => ?_⟩
    refine ⟨_, rfl, _, _, rfl, sub_nil, ?_, ?_⟩
    · rw [List.length_map, List.length_map, sizeLine_eq]
      have h1 := flat_lt (form := form) (a := a) (b := b) (loop := loop) (part := part) hf n
      have h2 := code_lt hf hqm
      rw [← k4]
      omega
    · refine ⟨some (.dat (insD q.1 q.2)), ?_⟩
      rw [putAt_nil, take_code hq, ← k4, ← List.map_append]
      rfl
  · subst hz
    exact next ac z
theorem la10 {E : De} {ns ps cs : List Int} {aj ap ac : Addr} {j : Jar} {form a b size base more loop part : Int} {z : Option O} (ok : JarOk j)
    (next : ∀ j start step, JarOk j → (0 ≤ start ∧ start < 256) → (0 ≤ step ∧ step < 256) → RS K (tl__law_all_11 K w) [some (.dat (.scr ns)), some (.lst aj (jarL j)), vi form, vi a, vi b, vi size, vi base, vi more, some (.lst ap (Ia ps)), z, vi loop, vi part, some (.lst ac (Ia cs)), vi start, vi step, none, none, none, none, none, none, none, none, none, none, none, none, none, none, none] E) : RS K (tl__law_all_10 K w) [some (.dat (.scr ns)), some (.lst aj (jarL j)), vi form, vi a, vi b, vi size, vi base, vi more, some (.lst ap (Ia ps)), z, vi loop, vi part, some (.lst ac (Ia cs)), none, none, none, none, none, none, none, none, none, none, none, none, none, none, none, none, none] E := by
  unfold tl__law_all_10
  walk_at "ow"
  refine ⟨_, _, rfl, rfl, ok, by decide, by decide, fun j1 start ok1 k1 k2 => ?_⟩
  try dsimp only [List.set]
  walk_at "ow"
  refine ⟨_, _, rfl, rfl, ok1, by decide, by decide, fun j2 step ok2 k3 k4 => ?_⟩
  try dsimp only [List.set]
  walk_at "ow"
  exact next j2 start step ok2 ⟨k1, k2⟩ ⟨k3, k4⟩
abbrev dz (z : Option D) : Option O := z.map O.dat
theorem dz_dat {z : Option D} {o : O} (h : dz z = some o) : ∃ d, o = .dat d := by
  cases z with
  | none => cases h
  | some d => cases h; exact ⟨d, rfl⟩
theorem la11 {E : De} {ns ps cs : List Int} {aj ap ac am : Addr} {j : Jar} {form a b base more loop part start step : Int} {sz : Nat} {z : Option O} (hs : 64 ≤ sz ∧ sz ≤ 4096) (h1 : 0 ≤ start ∧ start < 256) (h2 : 0 ≤ step ∧ step < 256)
    (next : ∀ am, RS K (tl__law_all_12 K w) [some (.dat (.scr ns)), some (.lst aj (jarL j)), vi form, vi a, vi b, vi (sz : Nat), vi base, vi more, some (.lst ap (Ia ps)), z, vi loop, vi part, some (.lst ac (Ia cs)), vi start, vi step, none, some (.lst am (Ia (mem0 start step sz))), none, none, none, none, none, none, none, none, none, none, none, none, none] E) : RS K (tl__law_all_11 K w) [some (.dat (.scr ns)), some (.lst aj (jarL j)), vi form, vi a, vi b, vi (sz : Nat), vi base, vi more, some (.lst ap (Ia ps)), z, vi loop, vi part, some (.lst ac (Ia cs)), vi start, vi step, none, none, none, none, none, none, none, none, none, none, none, none, none, none, none] E := by
  unfold tl__law_all_11
  refine rs_seq (rs_setO (ro_lcM (ri_rng1 ?_)))
  walk_at "ow"
  refine ⟨by omega, by omega, by walk_at "vs", by rw [List.length_map, List.length_range, sizeLine_eq]; omega, Ia (mem0 start step sz), by rw [List.length_map, List.length_map, List.length_range, mem0_len]; omega, fun i d e g1 g2 => ?_, fun p => ⟨Nat.le_of_ble_eq_true rfl, ?_⟩⟩
  · obtain ⟨k, g3, g4, rfl⟩ := map_at g1
    obtain ⟨y, g5, g6, rfl⟩ := map_at g2
    have hlt := (List.getElem?_eq_some_iff.mp g3).1
    rw [List.length_range] at hlt
    rw [List.getElem?_range hlt] at g3
    cases g3
    have ey : y = (start + step * i) % 256 := by
      unfold mem0 at g5
      rw [List.getElem?_map, List.getElem?_range (by omega)] at g5
      exact (Option.some.inj g5).symm
    subst ey
    refine rc_name (Nat.le_of_ble_eq_true rfl) ?_
    walk_at "ow"
    refine ⟨_, od_I (.inl ⟨by omega, by omega⟩), ?_⟩
    walk_at "ow"
    refine ⟨_, od_I (by decide), ?_⟩
    exact ⟨rfl, rfl⟩
  · exact next p
theorem ixN_at {ms : List Int} {i : Int} (h : 0 < ms.length) : ixN (Ia ms).length (i % (ms.length : Nat)) = some (pl ms i).toNat := by
  have e1 := Int.emod_nonneg i (b := (ms.length : Int)) (by omega)
  have e2 := Int.emod_lt_of_pos i (b := (ms.length : Int)) (by omega)
  unfold ixN pl
  rw [List.length_map, if_pos e1, if_pos (by omega)]
theorem la12 {E : De} {ns ps cs : List Int} {aj ap ac am : Addr} {j : Jar} {form a b base more loop part start step : Int} {sz : Nat} {z : Option O} {ms : List Int} (hm : ms.length = sz) (hs : 64 ≤ sz ∧ sz ≤ 4096) (hc : cs.length < 1000)
    (next : ∀ z2, RS K (tl__law_all_13 K w) [some (.dat (.scr ns)), some (.lst aj (jarL j)), vi form, vi a, vi b, vi (sz : Nat), vi base, vi more, some (.lst ap (Ia ps)), z, vi loop, vi part, some (.lst ac (Ia cs)), vi start, vi step, dz z2, some (.lst am (Ia (wrs ms base cs))), none, none, none, none, none, none, none, none, none, none, none, none, none] E) : RS K (tl__law_all_12 K w) [some (.dat (.scr ns)), some (.lst aj (jarL j)), vi form, vi a, vi b, vi (sz : Nat), vi base, vi more, some (.lst ap (Ia ps)), z, vi loop, vi part, some (.lst ac (Ia cs)), vi start, vi step, none, some (.lst am (Ia ms)), none, none, none, none, none, none, none, none, none, none, none, none, none] E := by
  unfold tl__law_all_12
  refine rs_seq (rs_for (ri_rng1 ?_))
  walk_at "ow"
  simp only [List.length_map]
  refine ⟨by omega, by omega, ?_⟩
  refine ⟨fun n ρ' => ∃ z2, ρ' = [some (.dat (.scr ns)), some (.lst aj (jarL j)), vi form, vi a, vi b, vi (sz : Nat), vi base, vi more, some (.lst ap (Ia ps)), z, vi loop, vi part, some (.lst ac (Ia cs)), vi start, vi step, dz z2, some (.lst am (Ia (wrs ms base (cs.take n)))), none, none, none, none, none, none, none, none, none, none, none, none, none], ⟨none, rfl⟩, fun n d ρ' g1 ⟨z2, hz⟩ => ?_, fun ρ' ⟨z2, hz⟩ => ?_⟩
  · subst hz
    obtain ⟨k, g3, g4, rfl⟩ := map_at g1
    have hlt := (List.getElem?_eq_some_iff.mp g3).1
    rw [List.length_range] at hlt
    rw [List.getElem?_range hlt] at g3
    cases g3
    have hn : n < cs.length := by omega
    have hx : cs[n]? = some cs[n] := List.getElem?_eq_getElem hn
    generalize cs[n] = x at hx
    walk_at "ow"
    refine ⟨_, _, _, _, rfl, rfl, at_I hx, ?_⟩
    refine rg_sub ⟨_, _, _, _, rp_var rfl, ?_⟩
    walk_at "ow"
    refine ⟨_, od_I (by omega), ?_⟩
    have hl : (wrs ms base (cs.take n)).length = sz := by rw [wrs_len, hm]
    refine ⟨_, _, _, _, rfl, rfl, sub_nil, (show ixN (Ia (wrs ms base (cs.take n))).length ((base + (n : Int)) % (sz : Nat)) = some _ by rw [← hl]; exact ixN_at (by omega)), some (.int n), ?_⟩
    rw [putAt_nil, List.take_add_one, hx]
    rw [show (cs.take n ++ (some x).toList) = cs.take n ++ [x] from rfl, wrs_snoc, List.length_take, Nat.min_eq_left (Nat.le_of_lt hn)]
    unfold sI
    rw [← List.map_set]
    rfl
  · subst hz
    rw [List.length_range, Int.toNat_natCast, List.take_length]
    exact next z2
theorem rt_yes {ρ : En} {Q : Bool → En → Prop} (h : Q true ρ) : RT K tYes ρ Q := fun F σ H R Qz kz => kz true ρ H h R .refl
theorem la13 {E : De} {ns ps cs ms : List Int} {aj ap ac am : Addr} {j : Jar} {form a b base more loop part start step : Int} {sz : Nat} {z : Option O} {z2 : Option D} (ok : JarOk j)
    (next : ∀ ab j bs, JarOk j → bs.length = 8 → (∀ x ∈ bs, by_ x) → RS K (tl__law_all_14 K w) [some (.dat (.scr ns)), some (.lst aj (jarL j)), vi form, vi a, vi b, vi (sz : Nat), vi base, vi more, some (.lst ap (Ia ps)), z, vi loop, vi part, some (.lst ac (Ia cs)), vi start, vi step, dz z2, some (.lst am (Ia ms)), some (.lst ab (Ia bs)), none, none, none, none, none, none, none, none, none, none, none, none] E) : RS K (tl__law_all_13 K w) [some (.dat (.scr ns)), some (.lst aj (jarL j)), vi form, vi a, vi b, vi (sz : Nat), vi base, vi more, some (.lst ap (Ia ps)), z, vi loop, vi part, some (.lst ac (Ia cs)), vi start, vi step, dz z2, some (.lst am (Ia ms)), none, none, none, none, none, none, none, none, none, none, none, none, none] E := by
  unfold tl__law_all_13
  refine rs_seq (rs_setO (ro_lc (ri_rng1 ?_)))
  walk_at "ow"
  refine ⟨by decide, by decide, ?_, by rw [List.length_map, List.length_range, sizeLine_eq]; decide, fun i outs ρ' => ∃ j bs, JarOk j ∧ outs = Ia bs ∧ bs.length = i ∧ (∀ x ∈ bs, by_ x) ∧ ρ' = [some (.dat (.scr ns)), some (.lst aj (jarL j)), vi form, vi a, vi b, vi (sz : Nat), vi base, vi more, some (.lst ap (Ia ps)), z, vi loop, vi part, some (.lst ac (Ia cs)), vi start, vi step, none, some (.lst am (Ia ms)), none, none, none, none, none, none, none, none, none, none, none, none, none], ⟨j, [], ok, rfl, rfl, by simp, rfl⟩, fun i d outs ρ' g1 ⟨j, bs, ok, h1, h2, h3, h4⟩ => ?_, fun outs ρ' p ⟨j, bs, ok, h1, h2, h3, h4⟩ => ?_⟩
  · intro v hv o e
    simp only [List.mem_cons, List.not_mem_nil, or_false] at hv
    subst hv
    exact dz_dat (z := z2) (Option.some.inj e)
  · subst h1 h4
    obtain ⟨k, g3, g4, rfl⟩ := map_at g1
    refine rc_name (Nat.le_of_ble_eq_true rfl) ?_
    refine rt_yes ⟨fun _ => ?_, fun z => nomatch z⟩
    try dsimp only [List.set]
    walk_at "ow"
    refine ⟨_, _, rfl, rfl, ok, by decide, by decide, fun j1 x ok1 x1 x2 => ?_⟩
    exact ⟨j1, bs ++ [x], ok1, by simp, by simp [h2], fun y hy => by
      rcases List.mem_append.mp hy with q | q
      · exact h3 y q
      · rw [List.mem_singleton.mp q]; exact ⟨x1, x2⟩, rfl⟩
  · subst h1 h4
    exact ⟨Nat.le_of_ble_eq_true rfl, next p j bs ok (by rw [h2]; simp) h3⟩
theorem la14 {E : De} {ns ps cs ms bs : List Int} {aj ap ac am ab : Addr} {j : Jar} {form a b base more loop part start step : Int} {sz : Nat} {z z2 : Option O} (ok : JarOk j) (hs : 64 ≤ sz ∧ sz ≤ 4096)
    (next : ∀ j d top, JarOk j → 0 ≤ d ∧ d < 9 → top = (base - d) % (sz : Nat) → RS K (tl__law_all_17 K w) [some (.dat (.scr ns)), some (.lst aj (jarL j)), vi form, vi a, vi b, vi (sz : Nat), vi base, vi more, some (.lst ap (Ia ps)), z, vi loop, vi part, some (.lst ac (Ia cs)), vi start, vi step, z2, some (.lst am (Ia ms)), some (.lst ab (Ia bs)), vi top, some (.dat (.tup [dI ms, dI bs, .int base, .int top])), vi 1, none, none, none, none, none, none, none, none, none] E) : RS K (tl__law_all_14 K w) [some (.dat (.scr ns)), some (.lst aj (jarL j)), vi form, vi a, vi b, vi (sz : Nat), vi base, vi more, some (.lst ap (Ia ps)), z, vi loop, vi part, some (.lst ac (Ia cs)), vi start, vi step, z2, some (.lst am (Ia ms)), some (.lst ab (Ia bs)), none, none, none, none, none, none, none, none, none, none, none, none] E := by
  unfold tl__law_all_14
  walk_at "ow"
  refine ⟨_, _, rfl, rfl, ok, by decide, by decide, fun j1 d ok1 d1 d2 => ?_⟩
  try dsimp only [List.set]
  walk_at "ow"
  refine ⟨_, od_I (by omega), Nat.le_of_ble_eq_true rfl, ?_⟩
  try dsimp only [List.set]
  unfold tl__law_all_15
  walk_at "ow"
  unfold tl__law_all_16
  walk_at "ow"
  exact next j1 d _ ok1 ⟨d1, d2⟩ rfl
theorem mulN_by (a : Int) (n : Nat) : by_ (mulN a n) := by
  cases n with
  | zero => exact (⟨by decide, by decide⟩ : by_ 1)
  | succ n => exact ⟨Int.emod_nonneg _ (by decide), Int.emod_lt_of_pos _ (by decide)⟩
theorem pickN {form x y v : Int} (hf : 0 ≤ form ∧ form < 3) : atI [D.int x, D.int y, D.int v] form = some (.int (if form = 0 then x else if form = 1 then y else v)) := by
  obtain rfl | rfl | rfl : form = 0 ∨ form = 1 ∨ form = 2 := by omega
  · rfl
  · rfl
  · rfl
theorem pickC {r : Int} (h1 : 0 ≤ r) (h2 : r < 5) : ∃ c : Int, atI [D.int 0, D.int 0, D.int 1, D.int 2, D.int (0 - 5)] r = some (.int c) ∧ (c = 0 ∨ c = 1 ∨ c = 2 ∨ c = -5) := by
  obtain rfl | rfl | rfl | rfl | rfl : r = 0 ∨ r = 1 ∨ r = 2 ∨ r = 3 ∨ r = 4 := by omega
  · exact ⟨0, rfl, by decide⟩
  · exact ⟨0, rfl, by decide⟩
  · exact ⟨1, rfl, by decide⟩
  · exact ⟨2, rfl, by decide⟩
  · exact ⟨-5, rfl, by decide⟩
theorem la17 {E : De} {bn : Nat} {ns ps cs ms bs : List Int} {aj ap ac am ab : Addr} {j : Jar} {form a b base more loop part start step top : Int} {sz : Nat} {z z2 : Option O} (ok : JarOk j) (ha : by_ a) (hb : 1 ≤ bn ∧ bn ≤ 100) (hf : 0 ≤ form ∧ form < 3)
    (next : ∀ j nn z2, JarOk j → 5 + 7 * bn ≤ nn ∧ nn ≤ 12 + 7 * bn → RS K (tl__law_all_21 K w) [some (.dat (.scr ns)), some (.lst aj (jarL j)), vi form, vi a, vi (bn : Nat), vi (sz : Nat), vi base, vi more, some (.lst ap (Ia ps)), z, vi loop, vi part, some (.lst ac (Ia cs)), vi start, vi step, z2, some (.lst am (Ia ms)), some (.lst ab (Ia bs)), vi top, some (.dat (.tup [dI ms, dI bs, .int base, .int top])), vi (numV form a bn), vi (7 + 7 * (bn : Nat)), vi (nn : Nat), none, none, none, none, none, none, none] E) : RS K (tl__law_all_17 K w) [some (.dat (.scr ns)), some (.lst aj (jarL j)), vi form, vi a, vi (bn : Nat), vi (sz : Nat), vi base, vi more, some (.lst ap (Ia ps)), z, vi loop, vi part, some (.lst ac (Ia cs)), vi start, vi step, z2, some (.lst am (Ia ms)), some (.lst ab (Ia bs)), vi top, some (.dat (.tup [dI ms, dI bs, .int base, .int top])), vi 1, none, none, none, none, none, none, none, none, none] E := by
  unfold tl__law_all_17
  refine rs_seq (rs_for (ri_rng1 ?_))
  walk_at "ow"
  refine ⟨by omega, by omega, ?_⟩
  refine ⟨fun n ρ' => ∃ z2, ρ' = [some (.dat (.scr ns)), some (.lst aj (jarL j)), vi form, vi a, vi (bn : Nat), vi (sz : Nat), vi base, vi more, some (.lst ap (Ia ps)), z, vi loop, vi part, some (.lst ac (Ia cs)), vi start, vi step, z2, some (.lst am (Ia ms)), some (.lst ab (Ia bs)), vi top, some (.dat (.tup [dI ms, dI bs, .int base, .int top])), vi (mulN a n), none, none, none, none, none, none, none, none, none], ⟨z2, rfl⟩, fun n d ρ' g1 ⟨z2, hz⟩ => ?_, fun ρ' ⟨z2, hz⟩ => ?_⟩
  · subst hz
    obtain ⟨k, g3, g4, rfl⟩ := map_at g1
    have hm := mulN_by a n
    walk_at "ow"
    refine ⟨_, od_I (.inl ⟨by omega, by omega⟩), ?_⟩
    walk_at "ow"
    refine ⟨_, od_I (by decide), Nat.le_of_ble_eq_true rfl, ?_⟩
    exact ⟨some (.dat (.int k)), rfl⟩
  · subst hz
    rw [List.length_map, List.length_range, Int.toNat_natCast]
    unfold tl__law_all_18
    walk_at "ow"
    refine ⟨_, od_I (.inl ⟨by omega, by omega⟩), ?_⟩
    walk_at "ow"
    refine ⟨_, od_I (by decide), ?_⟩
    walk_at "ow"
    refine ⟨_, od_I (.inl ⟨by omega, by omega⟩), ?_⟩
    walk_at "ow"
    refine ⟨_, od_I (by decide), ?_⟩
    walk_at "ow"
    refine ⟨_, od_ixL (pickN hf), Nat.le_of_ble_eq_true rfl, ?_⟩
    try dsimp only [List.set]
    unfold tl__law_all_19
    walk_at "ow"
    refine ⟨_, od_I (.inl ⟨by omega, by omega⟩), ?_⟩
    walk_at "ow"
    unfold tl__law_all_20
    walk_at "ow"
    refine ⟨_, _, rfl, rfl, ok, by decide, by decide, fun j1 r ok1 r1 r2 => ?_⟩
    try dsimp only [List.set]
    obtain ⟨c, hc1, hc2⟩ := pickC r1 r2
    refine ⟨_, od_ixL hc1, ?_⟩
    walk_at "ow"
    obtain ⟨nn, hnn⟩ : ∃ nn : Nat, (nn : Int) = 7 + 7 * (bn : Int) - c := ⟨(7 + 7 * (bn : Int) - c).toNat, by omega⟩
    rw [← hnn]
    exact next j1 nn z2 ok1 (by omega)
theorem la21 {E : De} {ns ps cs ms bs : List Int} {aj ap ac am ab : Addr} {j : Jar} {form a base more loop part start step top num : Int} {sz bn nn : Nat} {z z2 : Option O} {tr : Nat → Ms} (ok : StOk ⟨ms, bs, base, top, []⟩) (run : Run ⟨ms, bs, base, top, []⟩ (6 + 7 * bn) tr)
    (next : ∀ (ev : List D) (wd : Str) (s1 : Ms), ev = (tr (min nn (6 + 7 * bn))).ev → wd = (if nn ≤ 6 + 7 * bn then ("tired" : Str) else "stopped") → s1 = tr (min nn (6 + 7 * bn)) → RS K (tl__law_all_22 K w) [some (.dat (.scr ns)), some (.lst aj (jarL j)), vi form, vi a, vi (bn : Nat), vi (sz : Nat), vi base, vi more, some (.lst ap (Ia ps)), z, vi loop, vi part, some (.lst ac (Ia cs)), vi start, vi step, z2, some (.lst am (Ia ms)), some (.lst ab (Ia bs)), vi top, some (.dat (.tup [dI ms, dI bs, .int base, .int top])), vi num, vi (7 + 7 * (bn : Nat)), vi (nn : Nat), some (.dat (.tup [.tup ev, .tup [.str wd], stD s1])), none, none, none, none, none, none] E) : RS K (tl__law_all_21 K w) [some (.dat (.scr ns)), some (.lst aj (jarL j)), vi form, vi a, vi (bn : Nat), vi (sz : Nat), vi base, vi more, some (.lst ap (Ia ps)), z, vi loop, vi part, some (.lst ac (Ia cs)), vi start, vi step, z2, some (.lst am (Ia ms)), some (.lst ab (Ia bs)), vi top, some (.dat (.tup [dI ms, dI bs, .int base, .int top])), vi num, vi (7 + 7 * (bn : Nat)), vi (nn : Nat), none, none, none, none, none, none, none] E := by
  unfold tl__law_all_21
  walk_at "ow"
  refine ⟨rfl, _, nn, _, tr, rfl, rfl, ok, run, _, rfl, Nat.le_of_ble_eq_true rfl, ?_⟩
  exact next _ _ _ rfl rfl rfl
theorem rep01 {x : D} {p : Bool} : (List.replicate (if p = true then (1 : Int) else 0).toNat [x]).flatten = if p = true then [x] else [] := by cases p <;> rfl
theorem la22 {E : De} {ns ps cs ms bs : List Int} {aj ap ac am ab : Addr} {j : Jar} {form a base more loop part start step top num : Int} {sz bn nn : Nat} {z z2 : Option O} {ev : List D} {wd : Str} {s1 : Ms} (hev : ev = (if 6 + 7 * bn ≤ nn then [.tup [.str "tell", .int num]] else [])) (hwd : wd = (if nn ≤ 6 + 7 * bn then ("tired" : Str) else "stopped"))
    (next : RS K (tl__law_all_23 K w) [some (.dat (.scr ns)), some (.lst aj (jarL j)), vi form, vi a, vi (bn : Nat), vi (sz : Nat), vi base, vi more, some (.lst ap (Ia ps)), z, vi loop, vi part, some (.lst ac (Ia cs)), vi start, vi step, z2, some (.lst am (Ia ms)), some (.lst ab (Ia bs)), vi top, some (.dat (.tup [dI ms, dI bs, .int base, .int top])), vi num, vi (7 + 7 * (bn : Nat)), vi (nn : Nat), some (.dat (.tup [.tup ev, .tup [.str wd], stD s1])), some (.dat (.tup ev)), some (.dat (.tup [.str wd])), none, none, none, none] E) : RS K (tl__law_all_22 K w) [some (.dat (.scr ns)), some (.lst aj (jarL j)), vi form, vi a, vi (bn : Nat), vi (sz : Nat), vi base, vi more, some (.lst ap (Ia ps)), z, vi loop, vi part, some (.lst ac (Ia cs)), vi start, vi step, z2, some (.lst am (Ia ms)), some (.lst ab (Ia bs)), vi top, some (.dat (.tup [dI ms, dI bs, .int base, .int top])), vi num, vi (7 + 7 * (bn : Nat)), vi (nn : Nat), some (.dat (.tup [.tup ev, .tup [.str wd], stD s1])), none, none, none, none, none, none] E := by
  unfold tl__law_all_22
  refine rs_seq (rs_par ?_)
  walk_at "ow"
  refine ⟨_, od_repS (by simp) (by split <;> simp), ?_⟩
  rw [rep01]
  have e1 : (if decide (7 + 7 * (bn : Int) - 2 < (nn : Int)) = true then [D.tup [.str "tell", .int num]] else []) = ev := by
    rw [hev]
    by_cases q : 6 + 7 * bn ≤ nn
    · rw [if_pos q, if_pos (decide_eq_true (by omega))]
    · rw [if_neg q, if_neg (by simp; omega)]
  rw [e1]
  have key : ∀ x : Str, x = wd → ∃ d e, [D.tup ev, D.tup [.str x]] = [d, e] ∧ 24 < 30 ∧ 25 < 30 ∧ ({ nx := fun ρ1 => RS K (tl__law_all_23 K w) ρ1 E, rt := E.rt, bk := E.bk, ct := E.ct } : De).nx (([some (.dat (.scr ns)), some (.lst aj (jarL j)), vi form, vi a, vi (bn : Nat), vi (sz : Nat), vi base, vi more, some (.lst ap (Ia ps)), z, vi loop, vi part, some (.lst ac (Ia cs)), vi start, vi step, z2, some (.lst am (Ia ms)), some (.lst ab (Ia bs)), vi top, some (.dat (.tup [dI ms, dI bs, .int base, .int top])), vi num, vi (7 + 7 * (bn : Nat)), vi (nn : Nat), some (.dat (.tup [.tup ev, .tup [.str wd], stD s1])), none, none, none, none, none, none] : En).set 24 (some (.dat d)) |>.set 25 (some (.dat e))) := fun x hx => by
    subst hx
    exact ⟨_, _, rfl, by decide, by decide, next⟩
  walk_at "ow"
  refine ⟨fun h => ?_, fun h => ?_⟩
  · walk_at "ow"
    exact key _ (by rw [hwd, if_neg]; have := of_decide_eq_true h; omega)
  · walk_at "ow"
    exact key _ (by rw [hwd, if_pos]; have := of_decide_eq_false h; omega)
theorem la23 {E : De} {ns ps cs ms bs : List Int} {aj ap ac am ab : Addr} {j : Jar} {form a base more loop part start step top num : Int} {sz bn nn : Nat} {z z2 : Option O} {ev : List D} {wd : Str} {s1 : Ms} (hev : okD 8 (.tup ev) = true)
    (next : RS K (tl__law_all_24 K w) [some (.dat (.scr ns)), some (.lst aj (jarL j)), vi form, vi a, vi (bn : Nat), vi (sz : Nat), vi base, vi more, some (.lst ap (Ia ps)), z, vi loop, vi part, some (.lst ac (Ia cs)), vi start, vi step, z2, some (.lst am (Ia ms)), some (.lst ab (Ia bs)), vi top, some (.dat (.tup [dI ms, dI bs, .int base, .int top])), vi num, vi (7 + 7 * (bn : Nat)), vi (nn : Nat), some (.dat (.tup [.tup ev, .tup [.str wd], stD s1])), some (.dat (.tup ev)), some (.dat (.tup [.str wd])), none, none, none, none] E) : RS K (tl__law_all_23 K w) [some (.dat (.scr ns)), some (.lst aj (jarL j)), vi form, vi a, vi (bn : Nat), vi (sz : Nat), vi base, vi more, some (.lst ap (Ia ps)), z, vi loop, vi part, some (.lst ac (Ia cs)), vi start, vi step, z2, some (.lst am (Ia ms)), some (.lst ab (Ia bs)), vi top, some (.dat (.tup [dI ms, dI bs, .int base, .int top])), vi num, vi (7 + 7 * (bn : Nat)), vi (nn : Nat), some (.dat (.tup [.tup ev, .tup [.str wd], stD s1])), some (.dat (.tup ev)), some (.dat (.tup [.str wd])), none, none, none, none] E := by
  unfold tl__law_all_23
  walk_at "ow"
  refine ⟨_, od_ne (b := false) rfl rfl rfl rfl, false, rfl, fun _ => ?_, fun h => absurd (Eq.symm h) Bool.false_ne_true.symm⟩
  walk_at "ow"
  refine ⟨fun h => absurd (show HT.sIx 3 3 (some 2) = 3 from h.2) (by decide +kernel), ?_⟩
  have hc : Ow.cutD [D.tup ev, D.tup [D.str wd], stD s1] none (some 2) = [D.tup ev, D.tup [D.str wd]] := rfl
  rw [hc]
  walk_at "ow"
  refine ⟨rfl, _, ?_, rfl, _, rfl, true, rfl, fun h => absurd h (by decide), fun _ => ?_⟩
  · simp [okD] at hev ⊢
    exact hev
  · exact rs_next next
def wrt (ms : List Int) (top : Int) : List (Int × Int) → List Int
  | [] => ms
  | q :: r => wrt (sI ms (top - q.1) q.2) top r
theorem wrt_snoc : ∀ (r : List (Int × Int)) (ms : List Int) (top : Int) (q : Int × Int), wrt ms top (r ++ [q]) = sI (wrt ms top r) (top - q.1) q.2
  | [], ms, top, q => rfl
  | x :: r, ms, top, q => wrt_snoc r _ top q
theorem wrt_len : ∀ (r : List (Int × Int)) (ms : List Int) (top : Int), (wrt ms top r).length = ms.length
  | [], ms, top => rfl
  | x :: r, ms, top => by unfold wrt; rw [wrt_len r, sIl]
theorem la24 {E : De} {ns ps cs ms bs : List Int} {aj ap ac am ab : Addr} {j : Jar} {form a base more loop part start step top num : Int} {sz bn nn : Nat} {z z2 : Option O} {ev : List D} {wd : Str} {s1 : Ms} (hs : 64 ≤ sz ∧ sz ≤ 4096) (p6 : ps[6]? = some 18)
    (next : ∀ bh, bh = (base + 18) % (sz : Nat) → RS K (tl__law_all_25 K w) [some (.dat (.scr ns)), some (.lst aj (jarL j)), vi form, vi a, vi (bn : Nat), vi (sz : Nat), vi base, vi more, some (.lst ap (Ia ps)), z, vi loop, vi part, some (.lst ac (Ia cs)), vi start, vi step, z2, some (.lst am (Ia ms)), some (.lst ab (Ia bs)), vi top, some (.dat (.tup [dI ms, dI bs, .int base, .int top])), vi num, vi (7 + 7 * (bn : Nat)), vi (nn : Nat), some (.dat (.tup [.tup ev, .tup [.str wd], stD s1])), some (.dat (.tup ev)), some (.dat (.tup [.str wd])), vi bh, none, none, none] E) : RS K (tl__law_all_24 K w) [some (.dat (.scr ns)), some (.lst aj (jarL j)), vi form, vi a, vi (bn : Nat), vi (sz : Nat), vi base, vi more, some (.lst ap (Ia ps)), z, vi loop, vi part, some (.lst ac (Ia cs)), vi start, vi step, z2, some (.lst am (Ia ms)), some (.lst ab (Ia bs)), vi top, some (.dat (.tup [dI ms, dI bs, .int base, .int top])), vi num, vi (7 + 7 * (bn : Nat)), vi (nn : Nat), some (.dat (.tup [.tup ev, .tup [.str wd], stD s1])), some (.dat (.tup ev)), some (.dat (.tup [.str wd])), none, none, none, none] E := by
  unfold tl__law_all_24
  walk_at "ow"
  refine ⟨_, _, _, _, rfl, rfl, at_I (k := 6) p6, ?_⟩
  walk_at "ow"
  refine ⟨_, od_I (by omega), Nat.le_of_ble_eq_true rfl, ?_⟩
  exact next _ rfl
theorem la25 {E : De} {ns ps cs ms bs : List Int} {aj ap ac am ab : Addr} {j : Jar} {form a base more loop part start step top num : Int} {sz bn nn : Nat} {z z2 : Option O} {ev : List D} {wd : Str} {s1 : Ms} {bh : Int} (hm : ms.length = sz) (hs : 64 ≤ sz ∧ sz ≤ 4096)
    (next : ∀ zk zb, RS K (tl__law_all_26 K w) [some (.dat (.scr ns)), some (.lst aj (jarL j)), vi form, vi a, vi (bn : Nat), vi (sz : Nat), vi base, vi more, some (.lst ap (Ia ps)), z, vi loop, vi part, some (.lst ac (Ia cs)), vi start, vi step, zk, some (.lst am (Ia (wrt ms top [(3, a), (2, bh / 256), (1, bh % 256)]))), some (.lst ab (Ia bs)), vi top, some (.dat (.tup [dI ms, dI bs, .int base, .int top])), vi num, vi (7 + 7 * (bn : Nat)), vi (nn : Nat), some (.dat (.tup [.tup ev, .tup [.str wd], stD s1])), some (.dat (.tup ev)), some (.dat (.tup [.str wd])), vi bh, zb, none, none] E) : RS K (tl__law_all_25 K w) [some (.dat (.scr ns)), some (.lst aj (jarL j)), vi form, vi a, vi (bn : Nat), vi (sz : Nat), vi base, vi more, some (.lst ap (Ia ps)), z, vi loop, vi part, some (.lst ac (Ia cs)), vi start, vi step, z2, some (.lst am (Ia ms)), some (.lst ab (Ia bs)), vi top, some (.dat (.tup [dI ms, dI bs, .int base, .int top])), vi num, vi (7 + 7 * (bn : Nat)), vi (nn : Nat), some (.dat (.tup [.tup ev, .tup [.str wd], stD s1])), some (.dat (.tup ev)), some (.dat (.tup [.str wd])), vi bh, none, none, none] E := by
  unfold tl__law_all_25
  refine rs_seq (rs_for (ri_tup ?_))
  walk_at "ow"
  refine ⟨_, od_I ⟨by decide, by decide⟩, ?_⟩
  walk_at "ow"
  refine ⟨_, od_I (by decide), ?_⟩
  walk_at "ow"
  refine ⟨fun n ρ' => ∃ zk zb, ρ' = [some (.dat (.scr ns)), some (.lst aj (jarL j)), vi form, vi a, vi (bn : Nat), vi (sz : Nat), vi base, vi more, some (.lst ap (Ia ps)), z, vi loop, vi part, some (.lst ac (Ia cs)), vi start, vi step, zk, some (.lst am (Ia (wrt ms top (([(3, a), (2, bh / 256), (1, bh % 256)] : List (Int × Int)).take n)))), some (.lst ab (Ia bs)), vi top, some (.dat (.tup [dI ms, dI bs, .int base, .int top])), vi num, vi (7 + 7 * (bn : Nat)), vi (nn : Nat), some (.dat (.tup [.tup ev, .tup [.str wd], stD s1])), some (.dat (.tup ev)), some (.dat (.tup [.str wd])), vi bh, zb, none, none], ⟨z2, none, rfl⟩, fun n d ρ' g1 ⟨zk, zb, hz⟩ => ?_, fun ρ' ⟨zk, zb, hz⟩ => ?_⟩
  · subst hz
    have g2 : (([(3, a), (2, bh / 256), (1, bh % 256)] : List (Int × Int)).map fun q => D.tup [.int q.1, .int q.2])[n]? = some d := g1
    obtain ⟨q, hq, hqm, rfl⟩ := map_at g2
    walk_at "ow"
    refine rg_sub ⟨_, _, _, _, rp_var rfl, ?_⟩
    walk_at "ow"
    refine ⟨_, od_I (by omega), ?_⟩
    have hl : (wrt ms top (([(3, a), (2, bh / 256), (1, bh % 256)] : List (Int × Int)).take n)).length = sz := by rw [wrt_len, hm]
    refine ⟨_, _, _, _, rfl, rfl, sub_nil, (show ixN (Ia (wrt ms top (([(3, a), (2, bh / 256), (1, bh % 256)] : List (Int × Int)).take n))).length ((top - q.1) % (sz : Nat)) = some _ by rw [← hl]; exact ixN_at (by omega)), vi q.1, vi q.2, ?_⟩
    rw [putAt_nil, List.take_add_one, hq, show ∀ l : List (Int × Int), l ++ (some q).toList = l ++ [q] from fun _ => rfl, wrt_snoc]
    unfold sI
    rw [← List.map_set]
    rfl
  · subst hz
    exact next zk zb
theorem la26 {E : De} {ns ps cs ms bs M : List Int} {aj ap ac am ab : Addr} {j : Jar} {form a base more loop part start step top num bh x5 x6 : Int} {sz bn nn : Nat} {z z2 z3 : Option O} {ev : List D} {wd : Str} {s1 : Ms} (b5 : bs[5]? = some x5) (b6 : bs[6]? = some x6)
    (next : RS K (tl__law_all_27 K w) [some (.dat (.scr ns)), some (.lst aj (jarL j)), vi form, vi a, vi (bn : Nat), vi (sz : Nat), vi base, vi more, some (.lst ap (Ia ps)), z, vi loop, vi part, some (.lst ac (Ia cs)), vi start, vi step, z2, some (.lst am (Ia M)), some (.lst ab (Ia bs)), vi top, some (.dat (.tup [dI ms, dI bs, .int base, .int top])), vi num, vi (7 + 7 * (bn : Nat)), vi (nn : Nat), some (.dat (.tup [.tup ev, .tup [.str wd], stD s1])), some (.dat (.tup ev)), some (.dat (.tup [.str wd])), vi bh, z3, some (.dat (.lst (Ia [a, 0, num, 1, a, x5, x6, 0]))), none] E) : RS K (tl__law_all_26 K w) [some (.dat (.scr ns)), some (.lst aj (jarL j)), vi form, vi a, vi (bn : Nat), vi (sz : Nat), vi base, vi more, some (.lst ap (Ia ps)), z, vi loop, vi part, some (.lst ac (Ia cs)), vi start, vi step, z2, some (.lst am (Ia M)), some (.lst ab (Ia bs)), vi top, some (.dat (.tup [dI ms, dI bs, .int base, .int top])), vi num, vi (7 + 7 * (bn : Nat)), vi (nn : Nat), some (.dat (.tup [.tup ev, .tup [.str wd], stD s1])), some (.dat (.tup ev)), some (.dat (.tup [.str wd])), vi bh, z3, none, none] E := by
  unfold tl__law_all_26
  walk_at "ow"
  refine ⟨_, _, _, _, rfl, rfl, at_I (k := 5) b5, ?_⟩
  walk_at "ow"
  refine ⟨_, _, _, _, rfl, rfl, at_I (k := 6) b6, ?_⟩
  walk_at "ow"
  exact next
theorem la27 {E : De} {ns ps cs ms bs M : List Int} {aj ap ac am ab : Addr} {j : Jar} {form a base more loop part start step top num bh x5 x6 : Int} {sz bn nn : Nat} {z z2 z3 : Option O} {ev : List D} {wd : Str} {s1 : Ms} (hs : 64 ≤ sz ∧ sz ≤ 4096) (p8 : ps[8]? = some 27) (p9 : ps[9]? = some 29) {atv : Int} (hat : atv = (base + if 6 + 7 * bn ≤ nn then 29 else 27) % (sz : Nat))
    (next : RS K (tl__law_all_28 K w) [some (.dat (.scr ns)), some (.lst aj (jarL j)), vi form, vi a, vi (bn : Nat), vi (sz : Nat), vi base, vi more, some (.lst ap (Ia ps)), z, vi loop, vi part, some (.lst ac (Ia cs)), vi start, vi step, z2, some (.lst am (Ia M)), some (.lst ab (Ia bs)), vi top, some (.dat (.tup [dI ms, dI bs, .int base, .int top])), vi num, vi (7 + 7 * (bn : Nat)), vi (nn : Nat), some (.dat (.tup [.tup ev, .tup [.str wd], stD s1])), some (.dat (.tup ev)), some (.dat (.tup [.str wd])), vi bh, z3, some (.dat (.lst (Ia [a, 0, num, 1, a, x5, x6, 0]))), vi atv] E) : RS K (tl__law_all_27 K w) [some (.dat (.scr ns)), some (.lst aj (jarL j)), vi form, vi a, vi (bn : Nat), vi (sz : Nat), vi base, vi more, some (.lst ap (Ia ps)), z, vi loop, vi part, some (.lst ac (Ia cs)), vi start, vi step, z2, some (.lst am (Ia M)), some (.lst ab (Ia bs)), vi top, some (.dat (.tup [dI ms, dI bs, .int base, .int top])), vi num, vi (7 + 7 * (bn : Nat)), vi (nn : Nat), some (.dat (.tup [.tup ev, .tup [.str wd], stD s1])), some (.dat (.tup ev)), some (.dat (.tup [.str wd])), vi bh, z3, some (.dat (.lst (Ia [a, 0, num, 1, a, x5, x6, 0]))), none] E := by
  unfold tl__law_all_27
  walk_at "ow"
  have e : atI (Ia ps) (8 + if decide (7 + 7 * (bn : Int) - 2 < (nn : Int)) = true then 1 else 0) = some (.int (if 6 + 7 * bn ≤ nn then 29 else 27)) := by
    by_cases q : 6 + 7 * bn ≤ nn
    · rw [if_pos q, if_pos (decide_eq_true (by omega))]
      exact at_I (k := 9) p9
    · rw [if_neg q, if_neg (by simp; omega)]
      exact at_I (k := 8) p8
  refine ⟨_, _, _, _, rfl, rfl, e, ?_⟩
  walk_at "ow"
  refine ⟨_, od_I (by omega), Nat.le_of_ble_eq_true rfl, ?_⟩
  rw [← hat]
  exact next
theorem la28 {E : De} {ns ps cs ms bs M : List Int} {aj ap ac am ab : Addr} {j : Jar} {form a base more loop part start step top num bh x5 x6 : Int} {sz bn nn : Nat} {z z2 z3 : Option O} {ev : List D} {wd : Str} {s1 : Ms} {atv : Int} (hl : M.length = sz) (hs : 64 ≤ sz ∧ sz ≤ 4096) (h1 : s1 = ⟨M, [a, 0, num, 1, a, x5, x6, 0], atv, top, ev⟩) (hE : ∀ ρ, E.rt (db true) ρ) : RS K (tl__law_all_28 K w) [some (.dat (.scr ns)), some (.lst aj (jarL j)), vi form, vi a, vi (bn : Nat), vi (sz : Nat), vi base, vi more, some (.lst ap (Ia ps)), z, vi loop, vi part, some (.lst ac (Ia cs)), vi start, vi step, z2, some (.lst am (Ia M)), some (.lst ab (Ia bs)), vi top, some (.dat (.tup [dI ms, dI bs, .int base, .int top])), vi num, vi (7 + 7 * (bn : Nat)), vi (nn : Nat), some (.dat (.tup [.tup ev, .tup [.str wd], stD s1])), some (.dat (.tup ev)), some (.dat (.tup [.str wd])), vi bh, z3, some (.dat (.lst (Ia [a, 0, num, 1, a, x5, x6, 0]))), vi atv] E := by
  subst h1
  unfold tl__law_all_28
  walk_at "ow"
  refine ⟨_, od_ne (b := false) rfl rfl rfl rfl, false, rfl, fun _ => ?_, fun h => absurd (Eq.symm h) Bool.false_ne_true.symm⟩
  refine rt_not (rt_B (re_ro (ro_call ?_)))
  walk_at "ow"
  refine ⟨M, am, rfl, by omega, _, rfl, true, rfl, fun h => absurd h (by decide), fun _ => rs_next ?_⟩
  change RS K (tl__law_all_29 K w) [some (.dat (.scr ns)), some (.lst aj (jarL j)), vi form, vi a, vi (bn : Nat), vi (sz : Nat), vi base, vi more, some (.lst ap (Ia ps)), z, vi loop, vi part, some (.lst ac (Ia cs)), vi start, vi step, z2, some (.lst am (Ia M)), some (.lst ab (Ia bs)), vi top, some (.dat (.tup [dI ms, dI bs, .int base, .int top])), vi num, vi (7 + 7 * (bn : Nat)), vi (nn : Nat), some (.dat (.tup [.tup ev, .tup [.str wd], stD ⟨M, [a, 0, num, 1, a, x5, x6, 0], atv, top, ev⟩])), some (.dat (.tup ev)), some (.dat (.tup [.str wd])), vi bh, z3, some (.dat (.lst (Ia [a, 0, num, 1, a, x5, x6, 0]))), vi atv] E
  unfold tl__law_all_29
  walk_at "ow"
  refine ⟨fun h => absurd (show HT.sIx 4 0 (some 1) = 0 from h.1) (by decide +kernel), ?_⟩
  walk_at "ow"
  refine ⟨rfl, .tup [dI [a, 0, num, 1, a, x5, x6, 0], .int atv, .int top], rfl, rfl, _, rfl, hE _⟩
theorem list8 {bs : List Int} (h : bs.length = 8) : ∃ x0 x1 x2 x3 x4 x5 x6 x7, bs = [x0, x1, x2, x3, x4, x5, x6, x7] := by
  match bs, h with
  | [x0, x1, x2, x3, x4, x5, x6, x7], _ => exact ⟨x0, x1, x2, x3, x4, x5, x6, x7, rfl⟩
theorem rs__law_all (G : Kx K w) : RSf K 1 29 (f__law_all K) (t__law_all K w) := by
  rintro os Post - ⟨ns, rfl, hn, hP⟩
  change RS K (tl__law_all_0 K w) [some (.dat (.scr ns)), none, none, none, none, none, none, none, none, none, none, none, none, none, none, none, none, none, none, none, none, none, none, none, none, none, none, none, none, none] _
  have hE : ∀ ρ, (fin [.dat (.scr ns)] Post).rt (db true) ρ := fun ρ => ⟨hP, rfl⟩
  generalize fin [.dat (.scr ns)] Post = E at hE
  refine la0 hn fun aj j form a b size base more ok hf ha hb hs hba hr => ?_
  obtain ⟨sz, rfl⟩ : ∃ sz : Nat, size = sz := ⟨size.toNat, by omega⟩
  obtain ⟨bn, rfl⟩ : ∃ bn : Nat, b = bn := ⟨b.toNat, by omega⟩
  have hs : 64 ≤ sz ∧ sz ≤ 4096 := by omega
  have hb : 1 ≤ bn ∧ bn ≤ 100 := by omega
  obtain ⟨r, r1, r2, hmore⟩ := hr
  refine la5 G hf fun ap z => ?_
  obtain ⟨q5, q6, q8, q9, q10⟩ := plc_all (form := form) (a := a) (b := bn) (loop := 0) (part := 0)
  have hpl : ∀ (k : Nat) (x : Int), k ≤ 14 → plc (linesV form a bn 0 0) k = x → (places (linesV form a bn 0 0) 14)[k]? = some x := fun k x h e => by rw [places_at h, e]
  have p5 := hpl 5 15 (by decide) q5
  have p6 := hpl 6 18 (by decide) q6
  have p8 := hpl 8 27 (by decide) q8
  have p9 := hpl 9 29 (by decide) q9
  have p10 := hpl 10 30 (by decide) q10
  clear hpl q5 q6 q8 q9 q10
  generalize places (linesV form a bn 0 0) 14 = ps at p5 p6 p8 p9 p10
  refine la7 (by omega) p5 p10 ?_
  obtain ⟨loop, hloop⟩ : ∃ loop, loop = (base + 15) % (sz : Int) + more := ⟨_, rfl⟩
  obtain ⟨part, hpart⟩ : ∃ part, part = (base + 30) % (sz : Int) + more := ⟨_, rfl⟩
  rw [← hloop, ← hpart]
  refine la8 G hf fun ac z => ?_
  refine la10 ok fun j start step ok h1 h2 => ?_
  refine la11 (am := ac) hs h1 h2 fun am => ?_
  have hbb : by_ (bn : Int) := ⟨by omega, by omega⟩
  refine la12 (mem0_len _ _ _) hs (by rw [code39 hf ha hbb]; decide) fun z2 => ?_
  obtain ⟨ms, hms⟩ : ∃ ms, ms = wrs (mem0 start step sz) base (codeAll form a bn loop part) := ⟨_, rfl⟩
  rw [← hms]
  refine la13 ok fun ab j bs ok hb8 hbs => ?_
  refine la14 ok hs fun j d top ok hd htop => ?_
  refine la17 (b := 0) ok ha hb hf fun j nn z2 ok hnn => ?_
  obtain ⟨x0, x1, x2, x3, x4, x5, x6, x7, rfl⟩ := list8 hb8
  have cok := cf_ok (start := start) (step := step) hf ha hb hs hba ⟨r1, r2⟩ hd htop ⟨hbs x0 (by simp), hbs x1 (by simp), hbs x2 (by simp), hbs x3 (by simp), hbs x4 (by simp), hbs x5 (by simp), hbs x6 (by simp), hbs x7 (by simp)⟩ (by rw [hloop, hmore]) (by rw [hpart, hmore]) hms
  have run := run_tr cok
  have sok := st_ok cok
  have hlen : ms.length = sz := by rw [hms, wrs_len, mem0_len]
  have h0 := tr_0 cok
  have hend := tr_end cok nn hnn.1
  have hM3 := M3_is cok
  have hbeh : Cf.behind ⟨form, a, bn, base, top, loop, part, ms, x0, x1, x2, x3, x4, x5, x6, x7⟩ = (base + 18) % (sz : Int) := by
    show pl ms (base + ((18 : Nat) : Int)) = _
    unfold pl
    rw [hlen]
    rfl
  have hatv : Cf.at_ ⟨form, a, bn, base, top, loop, part, ms, x0, x1, x2, x3, x4, x5, x6, x7⟩ (if 6 + 7 * bn ≤ nn then 29 else 27) = (base + if 6 + 7 * bn ≤ nn then 29 else 27) % (sz : Int) := by
    show pl ms (base + (((if 6 + 7 * bn ≤ nn then 29 else 27) : Nat) : Int)) = _
    unfold pl
    rw [hlen]
    split <;> rfl
  rw [h0] at run sok
  rw [hatv] at hend
  rw [hbeh] at hM3
  generalize Cf.M3 ⟨form, a, bn, base, top, loop, part, ms, x0, x1, x2, x3, x4, x5, x6, x7⟩ = M3 at hend hM3
  generalize Cf.tr ⟨form, a, bn, base, top, loop, part, ms, x0, x1, x2, x3, x4, x5, x6, x7⟩ = tr at run hend
  refine la21 sok run fun ev wd s1 hev hwd hs1 => ?_
  rw [hend] at hev hs1
  refine la22 hev hwd ?_
  refine la23 (by rw [hev]; split <;> rfl) ?_
  refine la24 hs p6 fun bh hbh => ?_
  refine la25 hlen hs fun zk zb => ?_
  have hMe : wrt ms top [(3, a), (2, bh / 256), (1, bh % 256)] = M3 := by
    rw [hM3, hbh]
    rfl
  rw [hMe]
  refine la26 rfl rfl ?_
  refine la27 hs p8 p9 rfl ?_
  refine la28 (by rw [← hMe, wrt_len, hlen]) hs ?_ hE
  rw [hs1, hev]
end
end K69
set_option maxHeartbeats 0
namespace K69
open PySem PySem.Spec PyProof.Rows L2 Ow
theorem kt_of {K : PySem.W.Frag} {x : Str} {vs : List He.Dv} (h : He.tupB K x vs = true) : KT K (He.ga K x) (vs.map (He.Dv.v K)) := by
  rcases He.tupB_ok h (fun _ => none) with h | h
  · rcases h with h | ⟨o, h⟩ <;> cases h
  · exact h
theorem kt_at {K : PySem.W.Frag} {a : Addr} {vs : List He.Dv} (h : tupAt K a vs = true) : KT K a (vs.map (He.Dv.v K)) := by
  unfold tupAt at h
  cases q : K.lookup a with
  | none =>
    rw [q] at h
    cases h
  | some o =>
    obtain ⟨oc, od, dt, osl⟩ := o
    rw [q] at h
    cases oc with
    | type c =>
      cases dt with
      | seq its n =>
        obtain ⟨h1, h2⟩ := He.ba (show (decide (c = "tuple") && (decide (its.size ≤ sizeLine) && He.relAll (vs.map (He.Dv.v K)) its.toList)) = true from h)
        obtain ⟨h3, h4⟩ := He.ba h2
        exact ⟨_, its, n, q, congrArg Value.type (of_decide_eq_true h1), rfl, of_decide_eq_true h3, He.relAll_ok h4⟩
      | _ => cases h
    | _ => cases dt <;> cases h
theorem dv_kt {K : PySem.W.Frag} {a : Addr} {vs : List Str} (h : KT K a (vs.map V.str)) : ∀ H S, DV K H S (.tup (vs.map .str)) (.ref a) := fun H S => by
  unfold DV
  exact ⟨a, _, rfl, .inr h, DVs.strs vs⟩
theorem kd_of {K : PySem.W.Frag} {w : World} {a : Addr} (T : ∃ es n, KDict K w a es n) {kvs : List (Str × He.Dv)} (h : He.valsB K a kvs = true) {q : Str × He.Dv} (hq : q ∈ kvs) : KDct K w a q.1 (q.2.v K) := by
  obtain ⟨es, n, kd⟩ := T
  obtain ⟨u, h1, h2⟩ := He.valsB_ok h hq
  exact ⟨es, n, u, kd.at_, kd.lit, h1, h2⟩
section
variable {P : Program} {w : World} {K : PySem.W.Frag} {h base : Heap} {mg : Str → Option Value}
theorem fx (X : K.In h) (G : h.Ns mainGlobals mg) (c : He.SaysT fa fn ts w K) : Fx K w mg where

  f_all := He.free_ok X G (c.d.fact 50 (f := .free "all") rfl)
  f_bool := He.free_ok X G (c.d.fact 51 (f := .free "bool") rfl)
  f_int := He.free_ok X G (c.d.fact 52 (f := .free "int") rfl)
  f_isinstance := He.free_ok X G (c.d.fact 53 (f := .free "isinstance") rfl)
  f_len := He.free_ok X G (c.d.fact 54 (f := .free "len") rfl)
  f_list := He.free_ok X G (c.d.fact 55 (f := .free "list") rfl)
  f_range := He.free_ok X G (c.d.fact 56 (f := .free "range") rfl)
  f_str := He.free_ok X G (c.d.fact 57 (f := .free "str") rfl)
  f_sum := He.free_ok X G (c.d.fact 58 (f := .free "sum") rfl)
  f_super := He.free_ok X G (c.d.fact 59 (f := .free "super") rfl)
  f_tuple := He.free_ok X G (c.d.fact 60 (f := .free "tuple") rfl)
  i_BOXES := gcI (He.int_ok X G (c.d.fact 61 (f := .int "BOXES" 8) rfl))
  i_BYTES := gcI (He.int_ok X G (c.d.fact 62 (f := .int "BYTES" 256) rfl))
  i_ADDRESSES := gcI (He.int_ok X G (c.d.fact 63 (f := .int "ADDRESSES" 65536) rfl))
  g_WORDS := He.glo_ok X G (c.d.fact 64 (f := .glo "WORDS") rfl)
  g_ANSWER_NEEDED := He.glo_ok X G (c.d.fact 65 (f := .glo "ANSWER_NEEDED") rfl)
  g_ANSWER_OR_NONE := He.glo_ok X G (c.d.fact 66 (f := .glo "ANSWER_OR_NONE") rfl)
  g_OPERANDS := He.glo_ok X G (c.d.fact 67 (f := .glo "OPERANDS") rfl)
  g_SIZES := He.glo_ok X G (c.d.fact 68 (f := .glo "SIZES") rfl)
  g_RAW_DEEDS := He.glo_ok X G (c.d.fact 69 (f := .glo "RAW_DEEDS") rfl)
def deedT : List (Str × He.Dv) := [("set", .glo "raw_set"), ("copy", .glo "raw_copy"), ("add", .glo "raw_sum"), ("sub", .glo "raw_sum"), ("mul", .glo "raw_sum"), ("low", .glo "raw_low"), ("ask", .glo "raw_ask"), ("tell", .glo "raw_tell"), ("get", .glo "raw_get"), ("put", .glo "raw_put"), ("less", .glo "raw_test"), ("same", .glo "raw_test"), ("jump", .glo "raw_jump"), ("call", .glo "raw_call"), ("back", .glo "raw_back"), ("push", .glo "raw_push"), ("pop", .glo "raw_pop"), ("out", .glo "raw_out")]
theorem kx (c : He.SaysT fa fn ts w K) (e : ex K = true) : Kx K w := by
  obtain ⟨e1, e⟩ := He.ba e
  obtain ⟨e2, e⟩ := He.ba e
  obtain ⟨e3, e⟩ := He.ba e
  obtain ⟨e4, e⟩ := He.ba e
  obtain ⟨e5, e6⟩ := He.ba e
  exact {
    cMem := He.cls_ok (c.d.fact 80 (f := .cls "RawMemory") rfl)
    cMach := He.cls_ok (c.d.fact 93 (f := .cls "RawMachine") rfl)
    cOut := He.cls_ok (c.d.fact 70 (f := .cls "Outside") rfl)
    nRow := He.noat_ok (c.d.fact 83 (f := .noat "RawMemory" "row") rfl)
    nMany := He.noat_ok (c.d.fact 82 (f := .noat "RawMemory" "many") rfl)
    nMemory := He.noat_ok (c.d.fact 97 (f := .noat "RawMachine" "memory") rfl)
    nBoxes := He.noat_ok (c.d.fact 96 (f := .noat "RawMachine" "boxes") rfl)
    nAt := He.noat_ok (c.d.fact 95 (f := .noat "RawMachine" "at") rfl)
    nTop := He.noat_ok (c.d.fact 99 (f := .noat "RawMachine" "top") rfl)
    nOutside := He.noat_ok (c.d.fact 98 (f := .noat "RawMachine" "outside") rfl)
    nAnswers := He.noat_ok (c.d.fact 72 (f := .noat "Outside" "answers") rfl)
    nTaken := He.noat_ok (c.d.fact 73 (f := .noat "Outside" "taken") rfl)
    nTold := He.noat_ok (c.d.fact 74 (f := .noat "Outside" "told") rfl)
    words := dv_kt (vs := words) (kt_of e1)
    needed := dv_kt (vs := ["ask", "out"]) (kt_of e2)
    ornone := dv_kt (vs := ["get"]) (kt_of e3)
    operands := fun x hx => by
      have hm : (x, (kinds x).map He.Dv.str) ∈ oprT := by
        simp only [used, List.mem_cons, List.not_mem_nil, or_false] at hx
        rcases hx with rfl | rfl | rfl | rfl | rfl | rfl | rfl | rfl | rfl | rfl | rfl
        · exact .head _
        · exact .tail _ (.tail _ (.head _))
        · exact .tail _ (.tail _ (.tail _ (.head _)))
        · exact .tail _ (.tail _ (.tail _ (.tail _ (.head _))))
        · exact .tail _ (.tail _ (.tail _ (.tail _ (.tail _ (.tail _ (.tail _ (.head _)))))))
        · exact .tail _ (.tail _ (.tail _ (.tail _ (.tail _ (.tail _ (.tail _ (.tail _ (.tail _ (.tail _ (.head _))))))))))
        · exact .tail _ (.tail _ (.tail _ (.tail _ (.tail _ (.tail _ (.tail _ (.tail _ (.tail _ (.tail _ (.tail _ (.tail _ (.tail _ (.head _)))))))))))))
        · exact .tail _ (.tail _ (.tail _ (.tail _ (.tail _ (.tail _ (.tail _ (.tail _ (.tail _ (.tail _ (.tail _ (.tail _ (.tail _ (.tail _ (.head _))))))))))))))
        · exact .tail _ (.tail _ (.tail _ (.tail _ (.tail _ (.tail _ (.tail _ (.tail _ (.tail _ (.tail _ (.tail _ (.tail _ (.tail _ (.tail _ (.tail _ (.head _)))))))))))))))
        · exact .tail _ (.tail _ (.tail _ (.tail _ (.tail _ (.tail _ (.tail _ (.tail _ (.tail _ (.tail _ (.tail _ (.tail _ (.tail _ (.tail _ (.tail _ (.tail _ (.head _))))))))))))))))
        · exact .tail _ (.tail _ (.tail _ (.tail _ (.tail _ (.tail _ (.tail _ (.tail _ (.tail _ (.tail _ (.tail _ (.tail _ (.tail _ (.tail _ (.tail _ (.tail _ (.tail _ (.tail _ (.head _))))))))))))))))))
      have h2 := List.all_eq_true.mp e4 _ hm
      obtain ⟨es, n, kd⟩ := c.tab 0
      cases q : PySem.W.nsIn K (He.ga K "OPERANDS") x with
      | none => rw [show PySem.W.nsIn K (He.ga K "OPERANDS") (x, (kinds x).map He.Dv.str).1 = none from q] at h2; cases h2
      | some r =>
        rw [show PySem.W.nsIn K (He.ga K "OPERANDS") (x, (kinds x).map He.Dv.str).1 = some r from q] at h2
        cases r with
        | none => cases h2
        | some u =>
          cases u with
          | ref a =>
            refine ⟨.ref a, ⟨es, n, .ref a, kd.at_, kd.lit, q, rfl⟩, dv_kt (vs := kinds x) ?_⟩
            have h3 := kt_at (show tupAt K a ((kinds x).map He.Dv.str) = true from h2)
            rw [List.map_map] at h3
            exact h3
          | _ => cases h2
    sizes := fun k hk => by
      rcases hk with rfl | rfl | rfl
      · exact kd_of (c.tab 1) e5 (q := ("box", .int 1)) (.head _)
      · exact kd_of (c.tab 1) e5 (q := ("byte", .int 1)) (.tail _ (.head _))
      · exact kd_of (c.tab 1) e5 (q := ("address", .int 2)) (.tail _ (.tail _ (.head _)))
    deeds := fun q hq x hx => by
      have hm : (x, He.Dv.glo q.1) ∈ deedT := by
        simp only [deedsOf, List.mem_cons, List.not_mem_nil, or_false] at hq
        rcases hq with rfl | rfl | rfl | rfl | rfl | rfl | rfl | rfl
        all_goals
          simp only [List.mem_cons, List.not_mem_nil, or_false] at hx
          first
            | (subst hx; simp only [deedT, List.mem_cons, Prod.mk.injEq, true_and]; simp)
            | (rcases hx with rfl | rfl | rfl <;> (simp only [deedT, List.mem_cons, Prod.mk.injEq, true_and]; simp))
      exact kd_of (c.tab 2) (kvs := deedT) e6 hm }
theorem c_is_integer (X : K.In base) (M : base.Ns mainGlobals mg) (c : He.SaysT fa fn ts w K) (Z : Fx K w mg) (G : Kx K w) : C8.Cal P w K mg base 1 "is_integer" (spM K 1 (f_is_integer K)) [] := by
  obtain ⟨fd, F⟩ := c.d.def_ 0 (d := dd_is_integer) rfl
  have F : FnP K "is_integer" "is_integer" s_is_integer (He.ga K "is_integer") fd := F
  have b := FunD.bindsN (ps := ["value"]) F fun _ _ _ _ _ _ us hl => match us, hl with | [_], _ => rfl
  exact cal_by (st := s_is_integer) F (He.glo_ok X M (c.d.fact 0 (f := .glo "is_integer") rfl)) b sc_is_integer rfl (fun cdv A outer s H E hr => d_is_integer Z  cdv A outer s H E hr) (rs_is_integer)
theorem c_is_number (X : K.In base) (M : base.Ns mainGlobals mg) (c : He.SaysT fa fn ts w K) (Z : Fx K w mg) (G : Kx K w) : C8.Cal P w K mg base 2 "is_number" (spM K 1 (f_is_number K)) [] := by
  obtain ⟨fd, F⟩ := c.d.def_ 1 (d := dd_is_number) rfl
  have F : FnP K "is_number" "is_number" s_is_number (He.ga K "is_number") fd := F
  have b := FunD.bindsN (ps := ["value"]) F fun _ _ _ _ _ _ us hl => match us, hl with | [_], _ => rfl
  exact cal_by (st := s_is_number) F (He.glo_ok X M (c.d.fact 1 (f := .glo "is_number") rfl)) b sc_is_number rfl (fun cdv A outer s H E hr => d_is_number Z (c_is_integer X M c Z G) cdv A outer s H E hr) (rs_is_number)
theorem c_is_number_below (X : K.In base) (M : base.Ns mainGlobals mg) (c : He.SaysT fa fn ts w K) (Z : Fx K w mg) (G : Kx K w) : C8.Cal P w K mg base 2 "is_number_below" (spM K 2 (f_is_number_below K)) [] := by
  obtain ⟨fd, F⟩ := c.d.def_ 2 (d := dd_is_number_below) rfl
  have F : FnP K "is_number_below" "is_number_below" s_is_number_below (He.ga K "is_number_below") fd := F
  have b := FunD.bindsN (ps := ["value", "limit"]) F fun _ _ _ _ _ _ us hl => match us, hl with | [_, _], _ => rfl
  exact cal_by (st := s_is_number_below) F (He.glo_ok X M (c.d.fact 2 (f := .glo "is_number_below") rfl)) b sc_is_number_below rfl (fun cdv A outer s H E hr => d_is_number_below Z (c_is_integer X M c Z G) cdv A outer s H E hr) (rs_is_number_below)
theorem c_is_byte (X : K.In base) (M : base.Ns mainGlobals mg) (c : He.SaysT fa fn ts w K) (Z : Fx K w mg) (G : Kx K w) : C8.Cal P w K mg base 3 "is_byte" (spM K 1 (f_is_byte K)) [] := by
  obtain ⟨fd, F⟩ := c.d.def_ 3 (d := dd_is_byte) rfl
  have F : FnP K "is_byte" "is_byte" s_is_byte (He.ga K "is_byte") fd := F
  have b := FunD.bindsN (ps := ["value"]) F fun _ _ _ _ _ _ us hl => match us, hl with | [_], _ => rfl
  exact cal_by (st := s_is_byte) F (He.glo_ok X M (c.d.fact 3 (f := .glo "is_byte") rfl)) b sc_is_byte rfl (fun cdv A outer s H E hr => d_is_byte Z (c_is_number_below X M c Z G) cdv A outer s H E hr) (rs_is_byte)
theorem c_is_tuple_of (X : K.In base) (M : base.Ns mainGlobals mg) (c : He.SaysT fa fn ts w K) (Z : Fx K w mg) (G : Kx K w) : C8.Cal P w K mg base 1 "is_tuple_of" (spM K 2 (f_is_tuple_of K)) [] := by
  obtain ⟨fd, F⟩ := c.d.def_ 4 (d := dd_is_tuple_of) rfl
  have F : FnP K "is_tuple_of" "is_tuple_of" s_is_tuple_of (He.ga K "is_tuple_of") fd := F
  have b := FunD.bindsN (ps := ["value", "many"]) F fun _ _ _ _ _ _ us hl => match us, hl with | [_, _], _ => rfl
  exact cal_by (st := s_is_tuple_of) F (He.glo_ok X M (c.d.fact 4 (f := .glo "is_tuple_of") rfl)) b sc_is_tuple_of rfl (fun cdv A outer s H E hr => d_is_tuple_of Z  cdv A outer s H E hr) (rs_is_tuple_of)
theorem c_are_bytes (X : K.In base) (M : base.Ns mainGlobals mg) (c : He.SaysT fa fn ts w K) (Z : Fx K w mg) (G : Kx K w) : C8.Cal P w K mg base 4 "are_bytes" (spM K 1 (f_are_bytes K)) [] := by
  obtain ⟨fd, F⟩ := c.d.def_ 5 (d := dd_are_bytes) rfl
  have F : FnP K "are_bytes" "are_bytes" s_are_bytes (He.ga K "are_bytes") fd := F
  have b := FunD.bindsN (ps := ["value"]) F fun _ _ _ _ _ _ us hl => match us, hl with | [_], _ => rfl
  exact cal_by (st := s_are_bytes) F (He.glo_ok X M (c.d.fact 5 (f := .glo "are_bytes") rfl)) b sc_are_bytes rfl (fun cdv A outer s H E hr => d_are_bytes Z (c_is_byte X M c Z G) cdv A outer s H E hr) (rs_are_bytes)
theorem c_are_below (X : K.In base) (M : base.Ns mainGlobals mg) (c : He.SaysT fa fn ts w K) (Z : Fx K w mg) (G : Kx K w) : C8.Cal P w K mg base 3 "are_below" (spM K 2 (f_are_below K)) [] := by
  obtain ⟨fd, F⟩ := c.d.def_ 6 (d := dd_are_below) rfl
  have F : FnP K "are_below" "are_below" s_are_below (He.ga K "are_below") fd := F
  have b := FunD.bindsN (ps := ["value", "limit"]) F fun _ _ _ _ _ _ us hl => match us, hl with | [_, _], _ => rfl
  exact cal_by (st := s_are_below) F (He.glo_ok X M (c.d.fact 6 (f := .glo "are_below") rfl)) b sc_are_below rfl (fun cdv A outer s H E hr => d_are_below Z (c_is_number_below X M c Z G) cdv A outer s H E hr) (rs_are_below)
theorem c_are_numbers_below (X : K.In base) (M : base.Ns mainGlobals mg) (c : He.SaysT fa fn ts w K) (Z : Fx K w mg) (G : Kx K w) : C8.Cal P w K mg base 4 "are_numbers_below" (spM K 3 (f_are_numbers_below K)) [] := by
  obtain ⟨fd, F⟩ := c.d.def_ 7 (d := dd_are_numbers_below) rfl
  have F : FnP K "are_numbers_below" "are_numbers_below" s_are_numbers_below (He.ga K "are_numbers_below") fd := F
  have b := FunD.bindsN (ps := ["value", "many", "limit"]) F fun _ _ _ _ _ _ us hl => match us, hl with | [_, _, _], _ => rfl
  exact cal_by (st := s_are_numbers_below) F (He.glo_ok X M (c.d.fact 7 (f := .glo "are_numbers_below") rfl)) b sc_are_numbers_below rfl (fun cdv A outer s H E hr => d_are_numbers_below Z (c_are_below X M c Z G) (c_is_tuple_of X M c Z G) cdv A outer s H E hr) (rs_are_numbers_below)
theorem c_is_opcode (X : K.In base) (M : base.Ns mainGlobals mg) (c : He.SaysT fa fn ts w K) (Z : Fx K w mg) (G : Kx K w) : C8.Cal P w K mg base 1 "is_opcode" (spM K 1 (f_is_opcode K)) [] := by
  obtain ⟨fd, F⟩ := c.d.def_ 8 (d := dd_is_opcode) rfl
  have F : FnP K "is_opcode" "is_opcode" s_is_opcode (He.ga K "is_opcode") fd := F
  have b := FunD.bindsN (ps := ["number"]) F fun _ _ _ _ _ _ us hl => match us, hl with | [_], _ => rfl
  exact cal_by (st := s_is_opcode) F (He.glo_ok X M (c.d.fact 8 (f := .glo "is_opcode") rfl)) b sc_is_opcode rfl (fun cdv A outer s H E hr => d_is_opcode Z  cdv A outer s H E hr) (rs_is_opcode G)
theorem c_word_of (X : K.In base) (M : base.Ns mainGlobals mg) (c : He.SaysT fa fn ts w K) (Z : Fx K w mg) (G : Kx K w) : C8.Cal P w K mg base 1 "word_of" (spM K 1 (f_word_of K)) [] := by
  obtain ⟨fd, F⟩ := c.d.def_ 9 (d := dd_word_of) rfl
  have F : FnP K "word_of" "word_of" s_word_of (He.ga K "word_of") fd := F
  have b := FunD.bindsN (ps := ["opcode"]) F fun _ _ _ _ _ _ us hl => match us, hl with | [_], _ => rfl
  exact cal_by (st := s_word_of) F (He.glo_ok X M (c.d.fact 9 (f := .glo "word_of") rfl)) b sc_word_of rfl (fun cdv A outer s H E hr => d_word_of Z  cdv A outer s H E hr) (rs_word_of G)
theorem c_length_of (X : K.In base) (M : base.Ns mainGlobals mg) (c : He.SaysT fa fn ts w K) (Z : Fx K w mg) (G : Kx K w) : C8.Cal P w K mg base 1 "length_of" (spM K 1 (f_length_of K)) [] := by
  obtain ⟨fd, F⟩ := c.d.def_ 10 (d := dd_length_of) rfl
  have F : FnP K "length_of" "length_of" s_length_of (He.ga K "length_of") fd := F
  have b := FunD.bindsN (ps := ["word"]) F fun _ _ _ _ _ _ us hl => match us, hl with | [_], _ => rfl
  exact cal_by (st := s_length_of) F (He.glo_ok X M (c.d.fact 10 (f := .glo "length_of") rfl)) b sc_length_of rfl (fun cdv A outer s H E hr => d_length_of Z  cdv A outer s H E hr) (rs_length_of G)
theorem c_sum_of (X : K.In base) (M : base.Ns mainGlobals mg) (c : He.SaysT fa fn ts w K) (Z : Fx K w mg) (G : Kx K w) : C8.Cal P w K mg base 1 "sum_of" (spM K 3 (f_sum_of K)) [] := by
  obtain ⟨fd, F⟩ := c.d.def_ 11 (d := dd_sum_of) rfl
  have F : FnP K "sum_of" "sum_of" s_sum_of (He.ga K "sum_of") fd := F
  have b := FunD.bindsN (ps := ["word", "a", "b"]) F fun _ _ _ _ _ _ us hl => match us, hl with | [_, _, _], _ => rfl
  exact cal_by (st := s_sum_of) F (He.glo_ok X M (c.d.fact 11 (f := .glo "sum_of") rfl)) b sc_sum_of rfl (fun cdv A outer s H E hr => d_sum_of Z  cdv A outer s H E hr) (rs_sum_of)
theorem c_test_holds (X : K.In base) (M : base.Ns mainGlobals mg) (c : He.SaysT fa fn ts w K) (Z : Fx K w mg) (G : Kx K w) : C8.Cal P w K mg base 1 "test_holds" (spM K 3 (f_test_holds K)) [] := by
  obtain ⟨fd, F⟩ := c.d.def_ 13 (d := dd_test_holds) rfl
  have F : FnP K "test_holds" "test_holds" s_test_holds (He.ga K "test_holds") fd := F
  have b := FunD.bindsN (ps := ["word", "a", "b"]) F fun _ _ _ _ _ _ us hl => match us, hl with | [_, _, _], _ => rfl
  exact cal_by (st := s_test_holds) F (He.glo_ok X M (c.d.fact 13 (f := .glo "test_holds") rfl)) b sc_test_holds rfl (fun cdv A outer s H E hr => d_test_holds Z  cdv A outer s H E hr) (rs_test_holds)
theorem c_high_and_low (X : K.In base) (M : base.Ns mainGlobals mg) (c : He.SaysT fa fn ts w K) (Z : Fx K w mg) (G : Kx K w) : C8.Cal P w K mg base 1 "high_and_low" (spM K 1 (f_high_and_low K)) [] := by
  obtain ⟨fd, F⟩ := c.d.def_ 14 (d := dd_high_and_low) rfl
  have F : FnP K "high_and_low" "high_and_low" s_high_and_low (He.ga K "high_and_low") fd := F
  have b := FunD.bindsN (ps := ["number"]) F fun _ _ _ _ _ _ us hl => match us, hl with | [_], _ => rfl
  exact cal_by (st := s_high_and_low) F (He.glo_ok X M (c.d.fact 14 (f := .glo "high_and_low") rfl)) b sc_high_and_low rfl (fun cdv A outer s H E hr => d_high_and_low Z  cdv A outer s H E hr) (rs_high_and_low)
theorem c_joined_bytes (X : K.In base) (M : base.Ns mainGlobals mg) (c : He.SaysT fa fn ts w K) (Z : Fx K w mg) (G : Kx K w) : C8.Cal P w K mg base 1 "joined_bytes" (spM K 2 (f_joined_bytes K)) [] := by
  obtain ⟨fd, F⟩ := c.d.def_ 15 (d := dd_joined_bytes) rfl
  have F : FnP K "joined_bytes" "joined_bytes" s_joined_bytes (He.ga K "joined_bytes") fd := F
  have b := FunD.bindsN (ps := ["high", "low"]) F fun _ _ _ _ _ _ us hl => match us, hl with | [_, _], _ => rfl
  exact cal_by (st := s_joined_bytes) F (He.glo_ok X M (c.d.fact 15 (f := .glo "joined_bytes") rfl)) b sc_joined_bytes rfl (fun cdv A outer s H E hr => d_joined_bytes Z  cdv A outer s H E hr) (rs_joined_bytes)
theorem c_Outside_init (X : K.In base) (M : base.Ns mainGlobals mg) (c : He.SaysT fa fn ts w K) (Z : Fx K w mg) (G : Kx K w) : C8.Mak P w K mg base 1 "Outside" (He.ga K "Outside") (spM K 2 (f_Outside_init K)) [] := by
  obtain ⟨fd, F⟩ := c.d.def_ 16 (d := dd_Outside_init) rfl
  have F : FnP K "__init__" "Outside.__init__" s_Outside_init (He.ma K (He.ga K "Outside") "__init__") fd := F
  have b := FunD.bindsN (ps := ["self", "answers"]) F fun _ _ _ _ _ _ us hl => match us, hl with | [_, _], _ => rfl
  exact mak_by (st := s_Outside_init) (He.mkr_ok (c.d.fact 71 (f := .mkr "Outside") rfl)) (He.glo_ok X M (c.d.fact 47 (f := .glo "Outside") rfl)) F b sc_Outside_init rfl (fun cdv A outer s H E hr => d_Outside_init Z  cdv A outer s H E hr) (rs_Outside_init G)
theorem c_Outside_tell (X : K.In base) (M : base.Ns mainGlobals mg) (c : He.SaysT fa fn ts w K) (Z : Fx K w mg) (G : Kx K w) : C8.Met P w K mg base 1 (He.ga K "Outside") "tell" (spM K 2 (f_Outside_tell K)) [] := by
  obtain ⟨fd, F⟩ := c.d.def_ 19 (d := dd_Outside_tell) rfl
  have F : FnP K "tell" "Outside.tell" s_Outside_tell (He.ma K (He.ga K "Outside") "tell") fd := F
  have b := FunD.bindsN (ps := ["self", "event"]) F fun _ _ _ _ _ _ us hl => match us, hl with | [_, _], _ => rfl
  exact met_by (st := s_Outside_tell) (He.cls_ok (c.d.fact 70 (f := .cls "Outside") rfl)) (He.meth_ok (c.d.fact 78 (f := .meth "Outside" "tell") rfl)) F b sc_Outside_tell rfl (fun cdv A outer s H E hr => d_Outside_tell Z  cdv A outer s H E hr) (rs_Outside_tell G)
theorem c_Outside_events (X : K.In base) (M : base.Ns mainGlobals mg) (c : He.SaysT fa fn ts w K) (Z : Fx K w mg) (G : Kx K w) : C8.Met P w K mg base 1 (He.ga K "Outside") "events" (spM K 1 (f_Outside_events K)) [] := by
  obtain ⟨fd, F⟩ := c.d.def_ 20 (d := dd_Outside_events) rfl
  have F : FnP K "events" "Outside.events" s_Outside_events (He.ma K (He.ga K "Outside") "events") fd := F
  have b := FunD.bindsN (ps := ["self"]) F fun _ _ _ _ _ _ us hl => match us, hl with | [_], _ => rfl
  exact met_by (st := s_Outside_events) (He.cls_ok (c.d.fact 70 (f := .cls "Outside") rfl)) (He.meth_ok (c.d.fact 79 (f := .meth "Outside" "events") rfl)) F b sc_Outside_events rfl (fun cdv A outer s H E hr => d_Outside_events Z  cdv A outer s H E hr) (rs_Outside_events G)
theorem c_is_machine_state (X : K.In base) (M : base.Ns mainGlobals mg) (c : He.SaysT fa fn ts w K) (Z : Fx K w mg) (G : Kx K w) : C8.Cal P w K mg base 5 "is_machine_state" (spM K 1 (f_is_machine_state K)) [] := by
  obtain ⟨fd, F⟩ := c.d.def_ 21 (d := dd_is_machine_state) rfl
  have F : FnP K "is_machine_state" "is_machine_state" s_is_machine_state (He.ga K "is_machine_state") fd := F
  have b := FunD.bindsN (ps := ["value"]) F fun _ _ _ _ _ _ us hl => match us, hl with | [_], _ => rfl
  exact cal_by (st := s_is_machine_state) F (He.glo_ok X M (c.d.fact 16 (f := .glo "is_machine_state") rfl)) b sc_is_machine_state rfl (fun cdv A outer s H E hr => d_is_machine_state Z (c_are_bytes X M c Z G) (c_are_numbers_below X M c Z G) (c_is_number_below X M c Z G) (c_is_tuple_of X M c Z G) cdv A outer s H E hr) (rs_is_machine_state G)
theorem c_are_machine_answers (X : K.In base) (M : base.Ns mainGlobals mg) (c : He.SaysT fa fn ts w K) (Z : Fx K w mg) (G : Kx K w) : C8.Cal P w K mg base 5 "are_machine_answers" (spM K 1 (f_are_machine_answers K)) [] := by
  obtain ⟨fd, F⟩ := c.d.def_ 22 (d := dd_are_machine_answers) rfl
  have F : FnP K "are_machine_answers" "are_machine_answers" s_are_machine_answers (He.ga K "are_machine_answers") fd := F
  have b := FunD.bindsN (ps := ["value"]) F fun _ _ _ _ _ _ us hl => match us, hl with | [_], _ => rfl
  exact cal_by (st := s_are_machine_answers) F (He.glo_ok X M (c.d.fact 17 (f := .glo "are_machine_answers") rfl)) b sc_are_machine_answers rfl (fun cdv A outer s H E hr => d_are_machine_answers Z (c_are_bytes X M c Z G) cdv A outer s H E hr) (rs_are_machine_answers G)
theorem c_RawMemory_init (X : K.In base) (M : base.Ns mainGlobals mg) (c : He.SaysT fa fn ts w K) (Z : Fx K w mg) (G : Kx K w) : C8.Mak P w K mg base 1 "RawMemory" (He.ga K "RawMemory") (spM K 2 (f_RawMemory_init K)) [] := by
  obtain ⟨fd, F⟩ := c.d.def_ 23 (d := dd_RawMemory_init) rfl
  have F : FnP K "__init__" "RawMemory.__init__" s_RawMemory_init (He.ma K (He.ga K "RawMemory") "__init__") fd := F
  have b := FunD.bindsN (ps := ["self", "row"]) F fun _ _ _ _ _ _ us hl => match us, hl with | [_, _], _ => rfl
  exact mak_by (st := s_RawMemory_init) (He.mkr_ok (c.d.fact 81 (f := .mkr "RawMemory") rfl)) (He.glo_ok X M (c.d.fact 48 (f := .glo "RawMemory") rfl)) F b sc_RawMemory_init rfl (fun cdv A outer s H E hr => d_RawMemory_init Z  cdv A outer s H E hr) (rs_RawMemory_init G)
theorem c_RawMemory_place_of_address (X : K.In base) (M : base.Ns mainGlobals mg) (c : He.SaysT fa fn ts w K) (Z : Fx K w mg) (G : Kx K w) : C8.Met P w K mg base 1 (He.ga K "RawMemory") "place_of_address" (spM K 2 (f_RawMemory_place_of_address K)) [] := by
  obtain ⟨fd, F⟩ := c.d.def_ 24 (d := dd_RawMemory_place_of_address) rfl
  have F : FnP K "place_of_address" "RawMemory.place_of_address" s_RawMemory_place_of_address (He.ma K (He.ga K "RawMemory") "place_of_address") fd := F
  have b := FunD.bindsN (ps := ["self", "address"]) F fun _ _ _ _ _ _ us hl => match us, hl with | [_, _], _ => rfl
  exact met_by (st := s_RawMemory_place_of_address) (He.cls_ok (c.d.fact 80 (f := .cls "RawMemory") rfl)) (He.meth_ok (c.d.fact 85 (f := .meth "RawMemory" "place_of_address") rfl)) F b sc_RawMemory_place_of_address rfl (fun cdv A outer s H E hr => d_RawMemory_place_of_address Z  cdv A outer s H E hr) (rs_RawMemory_place_of_address G)
theorem c_RawMemory_byte_at (X : K.In base) (M : base.Ns mainGlobals mg) (c : He.SaysT fa fn ts w K) (Z : Fx K w mg) (G : Kx K w) : C8.Met P w K mg base 2 (He.ga K "RawMemory") "byte_at" (spM K 2 (f_RawMemory_byte_at K)) [] := by
  obtain ⟨fd, F⟩ := c.d.def_ 25 (d := dd_RawMemory_byte_at) rfl
  have F : FnP K "byte_at" "RawMemory.byte_at" s_RawMemory_byte_at (He.ma K (He.ga K "RawMemory") "byte_at") fd := F
  have b := FunD.bindsN (ps := ["self", "address"]) F fun _ _ _ _ _ _ us hl => match us, hl with | [_, _], _ => rfl
  exact met_by (st := s_RawMemory_byte_at) (He.cls_ok (c.d.fact 80 (f := .cls "RawMemory") rfl)) (He.meth_ok (c.d.fact 86 (f := .meth "RawMemory" "byte_at") rfl)) F b sc_RawMemory_byte_at rfl (fun cdv A outer s H E hr => d_RawMemory_byte_at Z (c_RawMemory_place_of_address X M c Z G) cdv A outer s H E hr) (rs_RawMemory_byte_at G)
theorem c_RawMemory_set_byte (X : K.In base) (M : base.Ns mainGlobals mg) (c : He.SaysT fa fn ts w K) (Z : Fx K w mg) (G : Kx K w) : C8.Met P w K mg base 2 (He.ga K "RawMemory") "set_byte" (spM K 3 (f_RawMemory_set_byte K)) [] := by
  obtain ⟨fd, F⟩ := c.d.def_ 26 (d := dd_RawMemory_set_byte) rfl
  have F : FnP K "set_byte" "RawMemory.set_byte" s_RawMemory_set_byte (He.ma K (He.ga K "RawMemory") "set_byte") fd := F
  have b := FunD.bindsN (ps := ["self", "address", "byte"]) F fun _ _ _ _ _ _ us hl => match us, hl with | [_, _, _], _ => rfl
  exact met_by (st := s_RawMemory_set_byte) (He.cls_ok (c.d.fact 80 (f := .cls "RawMemory") rfl)) (He.meth_ok (c.d.fact 87 (f := .meth "RawMemory" "set_byte") rfl)) F b sc_RawMemory_set_byte rfl (fun cdv A outer s H E hr => d_RawMemory_set_byte Z (c_RawMemory_place_of_address X M c Z G) cdv A outer s H E hr) (rs_RawMemory_set_byte G)
theorem c_RawMemory_pair_at (X : K.In base) (M : base.Ns mainGlobals mg) (c : He.SaysT fa fn ts w K) (Z : Fx K w mg) (G : Kx K w) : C8.Met P w K mg base 3 (He.ga K "RawMemory") "pair_at" (spM K 2 (f_RawMemory_pair_at K)) [] := by
  obtain ⟨fd, F⟩ := c.d.def_ 27 (d := dd_RawMemory_pair_at) rfl
  have F : FnP K "pair_at" "RawMemory.pair_at" s_RawMemory_pair_at (He.ma K (He.ga K "RawMemory") "pair_at") fd := F
  have b := FunD.bindsN (ps := ["self", "address"]) F fun _ _ _ _ _ _ us hl => match us, hl with | [_, _], _ => rfl
  exact met_by (st := s_RawMemory_pair_at) (He.cls_ok (c.d.fact 80 (f := .cls "RawMemory") rfl)) (He.meth_ok (c.d.fact 88 (f := .meth "RawMemory" "pair_at") rfl)) F b sc_RawMemory_pair_at rfl (fun cdv A outer s H E hr => d_RawMemory_pair_at Z (c_RawMemory_byte_at X M c Z G) (c_joined_bytes X M c Z G) cdv A outer s H E hr) (rs_RawMemory_pair_at G)
theorem c_RawMemory_set_pair (X : K.In base) (M : base.Ns mainGlobals mg) (c : He.SaysT fa fn ts w K) (Z : Fx K w mg) (G : Kx K w) : C8.Met P w K mg base 3 (He.ga K "RawMemory") "set_pair" (spM K 3 (f_RawMemory_set_pair K)) [] := by
  obtain ⟨fd, F⟩ := c.d.def_ 28 (d := dd_RawMemory_set_pair) rfl
  have F : FnP K "set_pair" "RawMemory.set_pair" s_RawMemory_set_pair (He.ma K (He.ga K "RawMemory") "set_pair") fd := F
  have b := FunD.bindsN (ps := ["self", "address", "number"]) F fun _ _ _ _ _ _ us hl => match us, hl with | [_, _, _], _ => rfl
  exact met_by (st := s_RawMemory_set_pair) (He.cls_ok (c.d.fact 80 (f := .cls "RawMemory") rfl)) (He.meth_ok (c.d.fact 89 (f := .meth "RawMemory" "set_pair") rfl)) F b sc_RawMemory_set_pair rfl (fun cdv A outer s H E hr => d_RawMemory_set_pair Z (c_RawMemory_set_byte X M c Z G) (c_high_and_low X M c Z G) cdv A outer s H E hr) (rs_RawMemory_set_pair G)
theorem c_RawMemory_operand (X : K.In base) (M : base.Ns mainGlobals mg) (c : He.SaysT fa fn ts w K) (Z : Fx K w mg) (G : Kx K w) : C8.Met P w K mg base 4 (He.ga K "RawMemory") "operand" (spM K 3 (f_RawMemory_operand K)) [] := by
  obtain ⟨fd, F⟩ := c.d.def_ 29 (d := dd_RawMemory_operand) rfl
  have F : FnP K "operand" "RawMemory.operand" s_RawMemory_operand (He.ma K (He.ga K "RawMemory") "operand") fd := F
  have b := FunD.bindsN (ps := ["self", "kind", "address"]) F fun _ _ _ _ _ _ us hl => match us, hl with | [_, _, _], _ => rfl
  exact met_by (st := s_RawMemory_operand) (He.cls_ok (c.d.fact 80 (f := .cls "RawMemory") rfl)) (He.meth_ok (c.d.fact 90 (f := .meth "RawMemory" "operand") rfl)) F b sc_RawMemory_operand rfl (fun cdv A outer s H E hr => d_RawMemory_operand Z (c_RawMemory_byte_at X M c Z G) (c_RawMemory_pair_at X M c Z G) cdv A outer s H E hr) (rs_RawMemory_operand G)
theorem c_RawMemory_instruction_at (X : K.In base) (M : base.Ns mainGlobals mg) (c : He.SaysT fa fn ts w K) (Z : Fx K w mg) (G : Kx K w) : C8.Met P w K mg base 5 (He.ga K "RawMemory") "instruction_at" (spM K 2 (f_RawMemory_instruction_at K)) [] := by
  obtain ⟨fd, F⟩ := c.d.def_ 30 (d := dd_RawMemory_instruction_at) rfl
  have F : FnP K "instruction_at" "RawMemory.instruction_at" s_RawMemory_instruction_at (He.ma K (He.ga K "RawMemory") "instruction_at") fd := F
  have b := FunD.bindsN (ps := ["self", "address"]) F fun _ _ _ _ _ _ us hl => match us, hl with | [_, _], _ => rfl
  exact met_by (st := s_RawMemory_instruction_at) (He.cls_ok (c.d.fact 80 (f := .cls "RawMemory") rfl)) (He.meth_ok (c.d.fact 91 (f := .meth "RawMemory" "instruction_at") rfl)) F b sc_RawMemory_instruction_at rfl (fun cdv A outer s H E hr => d_RawMemory_instruction_at Z (c_RawMemory_byte_at X M c Z G) (c_RawMemory_operand X M c Z G) (c_is_opcode X M c Z G) (c_word_of X M c Z G) cdv A outer s H E hr) (rs_RawMemory_instruction_at G)
theorem c_RawMemory_whole (X : K.In base) (M : base.Ns mainGlobals mg) (c : He.SaysT fa fn ts w K) (Z : Fx K w mg) (G : Kx K w) : C8.Met P w K mg base 1 (He.ga K "RawMemory") "whole" (spM K 1 (f_RawMemory_whole K)) [] := by
  obtain ⟨fd, F⟩ := c.d.def_ 31 (d := dd_RawMemory_whole) rfl
  have F : FnP K "whole" "RawMemory.whole" s_RawMemory_whole (He.ma K (He.ga K "RawMemory") "whole") fd := F
  have b := FunD.bindsN (ps := ["self"]) F fun _ _ _ _ _ _ us hl => match us, hl with | [_], _ => rfl
  exact met_by (st := s_RawMemory_whole) (He.cls_ok (c.d.fact 80 (f := .cls "RawMemory") rfl)) (He.meth_ok (c.d.fact 92 (f := .meth "RawMemory" "whole") rfl)) F b sc_RawMemory_whole rfl (fun cdv A outer s H E hr => d_RawMemory_whole Z  cdv A outer s H E hr) (rs_RawMemory_whole G)
theorem c_RawMachine_init (X : K.In base) (M : base.Ns mainGlobals mg) (c : He.SaysT fa fn ts w K) (Z : Fx K w mg) (G : Kx K w) : C8.Mak P w K mg base 3 "RawMachine" (He.ga K "RawMachine") (spM K 3 (f_RawMachine_init K)) [] := by
  obtain ⟨fd, F⟩ := c.d.def_ 32 (d := dd_RawMachine_init) rfl
  have F : FnP K "__init__" "RawMachine.__init__" s_RawMachine_init (He.ma K (He.ga K "RawMachine") "__init__") fd := F
  have b := FunD.bindsN (ps := ["self", "state", "answers"]) F fun _ _ _ _ _ _ us hl => match us, hl with | [_, _, _], _ => rfl
  exact mak_by (st := s_RawMachine_init) (He.mkr_ok (c.d.fact 94 (f := .mkr "RawMachine") rfl)) (He.glo_ok X M (c.d.fact 49 (f := .glo "RawMachine") rfl)) F b sc_RawMachine_init rfl (fun cdv A outer s H E hr => d_RawMachine_init Z (c_Outside_init X M c Z G) (c_RawMemory_init X M c Z G) cdv A outer s H E hr) (rs_RawMachine_init G)
theorem c_RawMachine_whole_state (X : K.In base) (M : base.Ns mainGlobals mg) (c : He.SaysT fa fn ts w K) (Z : Fx K w mg) (G : Kx K w) : C8.Met P w K mg base 2 (He.ga K "RawMachine") "whole_state" (spM K 1 (f_RawMachine_whole_state K)) [] := by
  obtain ⟨fd, F⟩ := c.d.def_ 33 (d := dd_RawMachine_whole_state) rfl
  have F : FnP K "whole_state" "RawMachine.whole_state" s_RawMachine_whole_state (He.ma K (He.ga K "RawMachine") "whole_state") fd := F
  have b := FunD.bindsN (ps := ["self"]) F fun _ _ _ _ _ _ us hl => match us, hl with | [_], _ => rfl
  exact met_by (st := s_RawMachine_whole_state) (He.cls_ok (c.d.fact 93 (f := .cls "RawMachine") rfl)) (He.meth_ok (c.d.fact 101 (f := .meth "RawMachine" "whole_state") rfl)) F b sc_RawMachine_whole_state rfl (fun cdv A outer s H E hr => d_RawMachine_whole_state Z (c_RawMemory_whole X M c Z G) cdv A outer s H E hr) (rs_RawMachine_whole_state G)
theorem c_RawMachine_go_to (X : K.In base) (M : base.Ns mainGlobals mg) (c : He.SaysT fa fn ts w K) (Z : Fx K w mg) (G : Kx K w) : C8.Met P w K mg base 2 (He.ga K "RawMachine") "go_to" (spM K 2 (f_RawMachine_go_to K)) [] := by
  obtain ⟨fd, F⟩ := c.d.def_ 34 (d := dd_RawMachine_go_to) rfl
  have F : FnP K "go_to" "RawMachine.go_to" s_RawMachine_go_to (He.ma K (He.ga K "RawMachine") "go_to") fd := F
  have b := FunD.bindsN (ps := ["self", "address"]) F fun _ _ _ _ _ _ us hl => match us, hl with | [_, _], _ => rfl
  exact met_by (st := s_RawMachine_go_to) (He.cls_ok (c.d.fact 93 (f := .cls "RawMachine") rfl)) (He.meth_ok (c.d.fact 102 (f := .meth "RawMachine" "go_to") rfl)) F b sc_RawMachine_go_to rfl (fun cdv A outer s H E hr => d_RawMachine_go_to Z (c_RawMemory_place_of_address X M c Z G) cdv A outer s H E hr) (rs_RawMachine_go_to G)
theorem c_RawMachine_move_top (X : K.In base) (M : base.Ns mainGlobals mg) (c : He.SaysT fa fn ts w K) (Z : Fx K w mg) (G : Kx K w) : C8.Met P w K mg base 2 (He.ga K "RawMachine") "move_top" (spM K 2 (f_RawMachine_move_top K)) [] := by
  obtain ⟨fd, F⟩ := c.d.def_ 35 (d := dd_RawMachine_move_top) rfl
  have F : FnP K "move_top" "RawMachine.move_top" s_RawMachine_move_top (He.ma K (He.ga K "RawMachine") "move_top") fd := F
  have b := FunD.bindsN (ps := ["self", "many"]) F fun _ _ _ _ _ _ us hl => match us, hl with | [_, _], _ => rfl
  exact met_by (st := s_RawMachine_move_top) (He.cls_ok (c.d.fact 93 (f := .cls "RawMachine") rfl)) (He.meth_ok (c.d.fact 103 (f := .meth "RawMachine" "move_top") rfl)) F b sc_RawMachine_move_top rfl (fun cdv A outer s H E hr => d_RawMachine_move_top Z (c_RawMemory_place_of_address X M c Z G) cdv A outer s H E hr) (rs_RawMachine_move_top G)
theorem c_RawMachine_waits_at (X : K.In base) (M : base.Ns mainGlobals mg) (c : He.SaysT fa fn ts w K) (Z : Fx K w mg) (G : Kx K w) : C8.Met P w K mg base 1 (He.ga K "RawMachine") "waits_at" (spM K 2 (f_RawMachine_waits_at K)) [] := by
  obtain ⟨fd, F⟩ := c.d.def_ 37 (d := dd_RawMachine_waits_at) rfl
  have F : FnP K "waits_at" "RawMachine.waits_at" s_RawMachine_waits_at (He.ma K (He.ga K "RawMachine") "waits_at") fd := F
  have b := FunD.bindsN (ps := ["self", "word"]) F fun _ _ _ _ _ _ us hl => match us, hl with | [_, _], _ => rfl
  exact met_by (st := s_RawMachine_waits_at) (He.cls_ok (c.d.fact 93 (f := .cls "RawMachine") rfl)) (He.meth_ok (c.d.fact 105 (f := .meth "RawMachine" "waits_at") rfl)) F b sc_RawMachine_waits_at rfl (fun cdv A outer s H E hr => d_RawMachine_waits_at Z  cdv A outer s H E hr) (rs_RawMachine_waits_at G)
theorem c_raw_set (X : K.In base) (M : base.Ns mainGlobals mg) (c : He.SaysT fa fn ts w K) (Z : Fx K w mg) (G : Kx K w) : C8.Cal P w K mg base 1 "raw_set" (spM K 2 (f_raw_set K)) [] := by
  obtain ⟨fd, F⟩ := c.d.def_ 40 (d := dd_raw_set) rfl
  have F : FnP K "raw_set" "raw_set" s_raw_set (He.ga K "raw_set") fd := F
  have b := FunD.bindsN (ps := ["machine", "instruction"]) F fun _ _ _ _ _ _ us hl => match us, hl with | [_, _], _ => rfl
  exact cal_by (st := s_raw_set) F (He.glo_ok X M (c.d.fact 18 (f := .glo "raw_set") rfl)) b sc_raw_set rfl (fun cdv A outer s H E hr => d_raw_set Z  cdv A outer s H E hr) (rs_raw_set G)
theorem h_raw_set (X : K.In base) (M : base.Ns mainGlobals mg) (c : He.SaysT fa fn ts w K) (Z : Fx K w mg) (G : Kx K w) : Held P w K mg base 6 (He.ga K "raw_set") (spM K 2 (f_raw_set K)) := by
  obtain ⟨fd, F⟩ := c.d.def_ 40 (d := dd_raw_set) rfl
  have F : FnP K "raw_set" "raw_set" s_raw_set (He.ga K "raw_set") fd := F
  have b := FunD.bindsN (ps := ["machine", "instruction"]) F fun _ _ _ _ _ _ us hl => match us, hl with | [_, _], _ => rfl
  exact held_by (k := 5) (st := s_raw_set) F b sc_raw_set rfl (fun cdv A outer s H E hr => d_raw_set Z  cdv A outer s H E (hr.mono (by decide))) (rs_raw_set G)
theorem c_raw_sum (X : K.In base) (M : base.Ns mainGlobals mg) (c : He.SaysT fa fn ts w K) (Z : Fx K w mg) (G : Kx K w) : C8.Cal P w K mg base 2 "raw_sum" (spM K 2 (f_raw_sum K)) [] := by
  obtain ⟨fd, F⟩ := c.d.def_ 42 (d := dd_raw_sum) rfl
  have F : FnP K "raw_sum" "raw_sum" s_raw_sum (He.ga K "raw_sum") fd := F
  have b := FunD.bindsN (ps := ["machine", "instruction"]) F fun _ _ _ _ _ _ us hl => match us, hl with | [_, _], _ => rfl
  exact cal_by (st := s_raw_sum) F (He.glo_ok X M (c.d.fact 20 (f := .glo "raw_sum") rfl)) b sc_raw_sum rfl (fun cdv A outer s H E hr => d_raw_sum Z (c_sum_of X M c Z G) cdv A outer s H E hr) (rs_raw_sum G)
theorem h_raw_sum (X : K.In base) (M : base.Ns mainGlobals mg) (c : He.SaysT fa fn ts w K) (Z : Fx K w mg) (G : Kx K w) : Held P w K mg base 6 (He.ga K "raw_sum") (spM K 2 (f_raw_sum K)) := by
  obtain ⟨fd, F⟩ := c.d.def_ 42 (d := dd_raw_sum) rfl
  have F : FnP K "raw_sum" "raw_sum" s_raw_sum (He.ga K "raw_sum") fd := F
  have b := FunD.bindsN (ps := ["machine", "instruction"]) F fun _ _ _ _ _ _ us hl => match us, hl with | [_, _], _ => rfl
  exact held_by (k := 5) (st := s_raw_sum) F b sc_raw_sum rfl (fun cdv A outer s H E hr => d_raw_sum Z (c_sum_of X M c Z G) cdv A outer s H E (hr.mono (by decide))) (rs_raw_sum G)
theorem c_raw_tell (X : K.In base) (M : base.Ns mainGlobals mg) (c : He.SaysT fa fn ts w K) (Z : Fx K w mg) (G : Kx K w) : C8.Cal P w K mg base 2 "raw_tell" (spM K 2 (f_raw_tell K)) [] := by
  obtain ⟨fd, F⟩ := c.d.def_ 45 (d := dd_raw_tell) rfl
  have F : FnP K "raw_tell" "raw_tell" s_raw_tell (He.ga K "raw_tell") fd := F
  have b := FunD.bindsN (ps := ["machine", "instruction"]) F fun _ _ _ _ _ _ us hl => match us, hl with | [_, _], _ => rfl
  exact cal_by (st := s_raw_tell) F (He.glo_ok X M (c.d.fact 23 (f := .glo "raw_tell") rfl)) b sc_raw_tell rfl (fun cdv A outer s H E hr => d_raw_tell Z (c_Outside_tell X M c Z G) cdv A outer s H E hr) (rs_raw_tell G)
theorem h_raw_tell (X : K.In base) (M : base.Ns mainGlobals mg) (c : He.SaysT fa fn ts w K) (Z : Fx K w mg) (G : Kx K w) : Held P w K mg base 6 (He.ga K "raw_tell") (spM K 2 (f_raw_tell K)) := by
  obtain ⟨fd, F⟩ := c.d.def_ 45 (d := dd_raw_tell) rfl
  have F : FnP K "raw_tell" "raw_tell" s_raw_tell (He.ga K "raw_tell") fd := F
  have b := FunD.bindsN (ps := ["machine", "instruction"]) F fun _ _ _ _ _ _ us hl => match us, hl with | [_, _], _ => rfl
  exact held_by (k := 5) (st := s_raw_tell) F b sc_raw_tell rfl (fun cdv A outer s H E hr => d_raw_tell Z (c_Outside_tell X M c Z G) cdv A outer s H E (hr.mono (by decide))) (rs_raw_tell G)
theorem c_raw_test (X : K.In base) (M : base.Ns mainGlobals mg) (c : He.SaysT fa fn ts w K) (Z : Fx K w mg) (G : Kx K w) : C8.Cal P w K mg base 3 "raw_test" (spM K 2 (f_raw_test K)) [] := by
  obtain ⟨fd, F⟩ := c.d.def_ 48 (d := dd_raw_test) rfl
  have F : FnP K "raw_test" "raw_test" s_raw_test (He.ga K "raw_test") fd := F
  have b := FunD.bindsN (ps := ["machine", "instruction"]) F fun _ _ _ _ _ _ us hl => match us, hl with | [_, _], _ => rfl
  exact cal_by (st := s_raw_test) F (He.glo_ok X M (c.d.fact 26 (f := .glo "raw_test") rfl)) b sc_raw_test rfl (fun cdv A outer s H E hr => d_raw_test Z (c_RawMachine_go_to X M c Z G) (c_test_holds X M c Z G) cdv A outer s H E hr) (rs_raw_test G)
theorem h_raw_test (X : K.In base) (M : base.Ns mainGlobals mg) (c : He.SaysT fa fn ts w K) (Z : Fx K w mg) (G : Kx K w) : Held P w K mg base 6 (He.ga K "raw_test") (spM K 2 (f_raw_test K)) := by
  obtain ⟨fd, F⟩ := c.d.def_ 48 (d := dd_raw_test) rfl
  have F : FnP K "raw_test" "raw_test" s_raw_test (He.ga K "raw_test") fd := F
  have b := FunD.bindsN (ps := ["machine", "instruction"]) F fun _ _ _ _ _ _ us hl => match us, hl with | [_, _], _ => rfl
  exact held_by (k := 5) (st := s_raw_test) F b sc_raw_test rfl (fun cdv A outer s H E hr => d_raw_test Z (c_RawMachine_go_to X M c Z G) (c_test_holds X M c Z G) cdv A outer s H E (hr.mono (by decide))) (rs_raw_test G)
theorem c_raw_call (X : K.In base) (M : base.Ns mainGlobals mg) (c : He.SaysT fa fn ts w K) (Z : Fx K w mg) (G : Kx K w) : C8.Cal P w K mg base 4 "raw_call" (spM K 2 (f_raw_call K)) [] := by
  obtain ⟨fd, F⟩ := c.d.def_ 50 (d := dd_raw_call) rfl
  have F : FnP K "raw_call" "raw_call" s_raw_call (He.ga K "raw_call") fd := F
  have b := FunD.bindsN (ps := ["machine", "instruction"]) F fun _ _ _ _ _ _ us hl => match us, hl with | [_, _], _ => rfl
  exact cal_by (st := s_raw_call) F (He.glo_ok X M (c.d.fact 28 (f := .glo "raw_call") rfl)) b sc_raw_call rfl (fun cdv A outer s H E hr => d_raw_call Z (c_RawMachine_go_to X M c Z G) (c_RawMachine_move_top X M c Z G) (c_RawMemory_set_pair X M c Z G) cdv A outer s H E hr) (rs_raw_call G)
theorem h_raw_call (X : K.In base) (M : base.Ns mainGlobals mg) (c : He.SaysT fa fn ts w K) (Z : Fx K w mg) (G : Kx K w) : Held P w K mg base 6 (He.ga K "raw_call") (spM K 2 (f_raw_call K)) := by
  obtain ⟨fd, F⟩ := c.d.def_ 50 (d := dd_raw_call) rfl
  have F : FnP K "raw_call" "raw_call" s_raw_call (He.ga K "raw_call") fd := F
  have b := FunD.bindsN (ps := ["machine", "instruction"]) F fun _ _ _ _ _ _ us hl => match us, hl with | [_, _], _ => rfl
  exact held_by (k := 5) (st := s_raw_call) F b sc_raw_call rfl (fun cdv A outer s H E hr => d_raw_call Z (c_RawMachine_go_to X M c Z G) (c_RawMachine_move_top X M c Z G) (c_RawMemory_set_pair X M c Z G) cdv A outer s H E (hr.mono (by decide))) (rs_raw_call G)
theorem c_raw_back (X : K.In base) (M : base.Ns mainGlobals mg) (c : He.SaysT fa fn ts w K) (Z : Fx K w mg) (G : Kx K w) : C8.Cal P w K mg base 4 "raw_back" (spM K 2 (f_raw_back K)) [] := by
  obtain ⟨fd, F⟩ := c.d.def_ 51 (d := dd_raw_back) rfl
  have F : FnP K "raw_back" "raw_back" s_raw_back (He.ga K "raw_back") fd := F
  have b := FunD.bindsN (ps := ["machine", "instruction"]) F fun _ _ _ _ _ _ us hl => match us, hl with | [_, _], _ => rfl
  exact cal_by (st := s_raw_back) F (He.glo_ok X M (c.d.fact 29 (f := .glo "raw_back") rfl)) b sc_raw_back rfl (fun cdv A outer s H E hr => d_raw_back Z (c_RawMachine_go_to X M c Z G) (c_RawMachine_move_top X M c Z G) (c_RawMemory_pair_at X M c Z G) cdv A outer s H E hr) (rs_raw_back G)
theorem h_raw_back (X : K.In base) (M : base.Ns mainGlobals mg) (c : He.SaysT fa fn ts w K) (Z : Fx K w mg) (G : Kx K w) : Held P w K mg base 6 (He.ga K "raw_back") (spM K 2 (f_raw_back K)) := by
  obtain ⟨fd, F⟩ := c.d.def_ 51 (d := dd_raw_back) rfl
  have F : FnP K "raw_back" "raw_back" s_raw_back (He.ga K "raw_back") fd := F
  have b := FunD.bindsN (ps := ["machine", "instruction"]) F fun _ _ _ _ _ _ us hl => match us, hl with | [_, _], _ => rfl
  exact held_by (k := 5) (st := s_raw_back) F b sc_raw_back rfl (fun cdv A outer s H E hr => d_raw_back Z (c_RawMachine_go_to X M c Z G) (c_RawMachine_move_top X M c Z G) (c_RawMemory_pair_at X M c Z G) cdv A outer s H E (hr.mono (by decide))) (rs_raw_back G)
theorem c_raw_push (X : K.In base) (M : base.Ns mainGlobals mg) (c : He.SaysT fa fn ts w K) (Z : Fx K w mg) (G : Kx K w) : C8.Cal P w K mg base 3 "raw_push" (spM K 2 (f_raw_push K)) [] := by
  obtain ⟨fd, F⟩ := c.d.def_ 52 (d := dd_raw_push) rfl
  have F : FnP K "raw_push" "raw_push" s_raw_push (He.ga K "raw_push") fd := F
  have b := FunD.bindsN (ps := ["machine", "instruction"]) F fun _ _ _ _ _ _ us hl => match us, hl with | [_, _], _ => rfl
  exact cal_by (st := s_raw_push) F (He.glo_ok X M (c.d.fact 30 (f := .glo "raw_push") rfl)) b sc_raw_push rfl (fun cdv A outer s H E hr => d_raw_push Z (c_RawMachine_move_top X M c Z G) (c_RawMemory_set_byte X M c Z G) cdv A outer s H E hr) (rs_raw_push G)
theorem h_raw_push (X : K.In base) (M : base.Ns mainGlobals mg) (c : He.SaysT fa fn ts w K) (Z : Fx K w mg) (G : Kx K w) : Held P w K mg base 6 (He.ga K "raw_push") (spM K 2 (f_raw_push K)) := by
  obtain ⟨fd, F⟩ := c.d.def_ 52 (d := dd_raw_push) rfl
  have F : FnP K "raw_push" "raw_push" s_raw_push (He.ga K "raw_push") fd := F
  have b := FunD.bindsN (ps := ["machine", "instruction"]) F fun _ _ _ _ _ _ us hl => match us, hl with | [_, _], _ => rfl
  exact held_by (k := 5) (st := s_raw_push) F b sc_raw_push rfl (fun cdv A outer s H E hr => d_raw_push Z (c_RawMachine_move_top X M c Z G) (c_RawMemory_set_byte X M c Z G) cdv A outer s H E (hr.mono (by decide))) (rs_raw_push G)
theorem c_raw_pop (X : K.In base) (M : base.Ns mainGlobals mg) (c : He.SaysT fa fn ts w K) (Z : Fx K w mg) (G : Kx K w) : C8.Cal P w K mg base 3 "raw_pop" (spM K 2 (f_raw_pop K)) [] := by
  obtain ⟨fd, F⟩ := c.d.def_ 53 (d := dd_raw_pop) rfl
  have F : FnP K "raw_pop" "raw_pop" s_raw_pop (He.ga K "raw_pop") fd := F
  have b := FunD.bindsN (ps := ["machine", "instruction"]) F fun _ _ _ _ _ _ us hl => match us, hl with | [_, _], _ => rfl
  exact cal_by (st := s_raw_pop) F (He.glo_ok X M (c.d.fact 31 (f := .glo "raw_pop") rfl)) b sc_raw_pop rfl (fun cdv A outer s H E hr => d_raw_pop Z (c_RawMachine_move_top X M c Z G) (c_RawMemory_byte_at X M c Z G) cdv A outer s H E hr) (rs_raw_pop G)
theorem h_raw_pop (X : K.In base) (M : base.Ns mainGlobals mg) (c : He.SaysT fa fn ts w K) (Z : Fx K w mg) (G : Kx K w) : Held P w K mg base 6 (He.ga K "raw_pop") (spM K 2 (f_raw_pop K)) := by
  obtain ⟨fd, F⟩ := c.d.def_ 53 (d := dd_raw_pop) rfl
  have F : FnP K "raw_pop" "raw_pop" s_raw_pop (He.ga K "raw_pop") fd := F
  have b := FunD.bindsN (ps := ["machine", "instruction"]) F fun _ _ _ _ _ _ us hl => match us, hl with | [_, _], _ => rfl
  exact held_by (k := 5) (st := s_raw_pop) F b sc_raw_pop rfl (fun cdv A outer s H E hr => d_raw_pop Z (c_RawMachine_move_top X M c Z G) (c_RawMemory_byte_at X M c Z G) cdv A outer s H E (hr.mono (by decide))) (rs_raw_pop G)
theorem c_deeds (X : K.In base) (M : base.Ns mainGlobals mg) (c : He.SaysT fa fn ts w K) (Z : Fx K w mg) (G : Kx K w) : ∀ f sp, deedS K f sp → Held P w K mg base 6 f sp := by
  rintro f sp ⟨q, hq, rfl, rfl⟩
  simp only [deedsOf, List.mem_cons, List.not_mem_nil, or_false] at hq
  rcases hq with rfl | rfl | rfl | rfl | rfl | rfl | rfl | rfl
  · exact h_raw_set X M c Z G
  · exact h_raw_sum X M c Z G
  · exact h_raw_tell X M c Z G
  · exact h_raw_test X M c Z G
  · exact h_raw_call X M c Z G
  · exact h_raw_back X M c Z G
  · exact h_raw_push X M c Z G
  · exact h_raw_pop X M c Z G
theorem c_RawMachine_do (X : K.In base) (M : base.Ns mainGlobals mg) (c : He.SaysT fa fn ts w K) (Z : Fx K w mg) (G : Kx K w) : C8.Met P w K mg base 7 (He.ga K "RawMachine") "do" (spM K 2 (f_RawMachine_do K)) [] := by
  obtain ⟨fd, F⟩ := c.d.def_ 38 (d := dd_RawMachine_do) rfl
  have F : FnP K "do" "RawMachine.do" s_RawMachine_do (He.ma K (He.ga K "RawMachine") "do") fd := F
  have b := FunD.bindsN (ps := ["self", "instruction"]) F fun _ _ _ _ _ _ us hl => match us, hl with | [_, _], _ => rfl
  exact met_by (st := s_RawMachine_do) (He.cls_ok (c.d.fact 93 (f := .cls "RawMachine") rfl)) (He.meth_ok (c.d.fact 106 (f := .meth "RawMachine" "do") rfl)) F b sc_RawMachine_do rfl (fun cdv A outer s H E hr => d_RawMachine_do Z (c_RawMachine_go_to X M c Z G) (c_length_of X M c Z G) (c_deeds X M c Z G) cdv A outer s H E hr) (rs_RawMachine_do G)
theorem c_RawMachine_run_on (X : K.In base) (M : base.Ns mainGlobals mg) (c : He.SaysT fa fn ts w K) (Z : Fx K w mg) (G : Kx K w) : C8.Met P w K mg base 8 (He.ga K "RawMachine") "run_on" (spM K 2 (f_RawMachine_run_on K)) [] := by
  obtain ⟨fd, F⟩ := c.d.def_ 39 (d := dd_RawMachine_run_on) rfl
  have F : FnP K "run_on" "RawMachine.run_on" s_RawMachine_run_on (He.ma K (He.ga K "RawMachine") "run_on") fd := F
  have b := FunD.bindsN (ps := ["self", "n"]) F fun _ _ _ _ _ _ us hl => match us, hl with | [_, _], _ => rfl
  exact met_by (st := s_RawMachine_run_on) (He.cls_ok (c.d.fact 93 (f := .cls "RawMachine") rfl)) (He.meth_ok (c.d.fact 107 (f := .meth "RawMachine" "run_on") rfl)) F b sc_RawMachine_run_on rfl (fun cdv A outer s H E hr => d_RawMachine_run_on Z (c_RawMachine_do X M c Z G) (c_RawMachine_go_to X M c Z G) (c_RawMachine_waits_at X M c Z G) (c_RawMemory_instruction_at X M c Z G) cdv A outer s H E hr) (rs_RawMachine_run_on G)
theorem c_ran (X : K.In base) (M : base.Ns mainGlobals mg) (c : He.SaysT fa fn ts w K) (Z : Fx K w mg) (G : Kx K w) : C8.Cal P w K mg base 9 "ran" (spM K 3 (f_ran K)) [] := by
  obtain ⟨fd, F⟩ := c.d.def_ 55 (d := dd_ran) rfl
  have F : FnP K "ran" "ran" s_ran (He.ga K "ran") fd := F
  have b := FunD.bindsN (ps := ["state", "answers", "n"]) F fun _ _ _ _ _ _ us hl => match us, hl with | [_, _, _], _ => rfl
  exact cal_by (st := s_ran) F (He.glo_ok X M (c.d.fact 33 (f := .glo "ran") rfl)) b sc_ran rfl (fun cdv A outer s H E hr => d_ran Z (c_Outside_events X M c Z G) (c_RawMachine_init X M c Z G) (c_RawMachine_run_on X M c Z G) (c_RawMachine_whole_state X M c Z G) cdv A outer s H E hr) (rs_ran G)
theorem c_machine_run (X : K.In base) (M : base.Ns mainGlobals mg) (c : He.SaysT fa fn ts w K) (Z : Fx K w mg) (G : Kx K w) : C8.Cal P w K mg base 10 "machine_run" (spM K 3 (f_machine_run K)) [] := by
  obtain ⟨fd, F⟩ := c.d.def_ 56 (d := dd_machine_run) rfl
  have F : FnP K "machine_run" "machine_run" s_machine_run (He.ga K "machine_run") fd := F
  have b := FunD.bindsN (ps := ["state", "answers", "n"]) F fun _ _ _ _ _ _ us hl => match us, hl with | [_, _, _], _ => rfl
  exact cal_by (st := s_machine_run) F (He.glo_ok X M (c.d.fact 34 (f := .glo "machine_run") rfl)) b sc_machine_run rfl (fun cdv A outer s H E hr => d_machine_run Z (c_are_machine_answers X M c Z G) (c_is_machine_state X M c Z G) (c_is_number X M c Z G) (c_ran X M c Z G) cdv A outer s H E hr) (rs_machine_run G)
theorem c__law_jar (X : K.In base) (M : base.Ns mainGlobals mg) (c : He.SaysT fa fn ts w K) (Z : Fx K w mg) (G : Kx K w) : C8.Cal P w K mg base 1 "_law_jar" (spM K 1 (f__law_jar K)) [] := by
  obtain ⟨fd, F⟩ := c.d.def_ 57 (d := dd__law_jar) rfl
  have F : FnP K "_law_jar" "_law_jar" s__law_jar (He.ga K "_law_jar") fd := F
  have b := FunD.bindsN (ps := ["script"]) F fun _ _ _ _ _ _ us hl => match us, hl with | [_], _ => rfl
  exact cal_by (st := s__law_jar) F (He.glo_ok X M (c.d.fact 35 (f := .glo "_law_jar") rfl)) b sc__law_jar rfl (fun cdv A outer s H E hr => d__law_jar Z  cdv A outer s H E hr) (rs__law_jar G)
theorem c__law_draw (X : K.In base) (M : base.Ns mainGlobals mg) (c : He.SaysT fa fn ts w K) (Z : Fx K w mg) (G : Kx K w) : C8.Cal P w K mg base 1 "_law_draw" (spM K 2 (f__law_draw K)) [] := by
  obtain ⟨fd, F⟩ := c.d.def_ 58 (d := dd__law_draw) rfl
  have F : FnP K "_law_draw" "_law_draw" s__law_draw (He.ga K "_law_draw") fd := F
  have b := FunD.bindsN (ps := ["jar", "limit"]) F fun _ _ _ _ _ _ us hl => match us, hl with | [_, _], _ => rfl
  exact cal_by (st := s__law_draw) F (He.glo_ok X M (c.d.fact 36 (f := .glo "_law_draw") rfl)) b sc__law_draw rfl (fun cdv A outer s H E hr => d__law_draw Z  cdv A outer s H E hr) (rs__law_draw G)
theorem c__law_sames (X : K.In base) (M : base.Ns mainGlobals mg) (c : He.SaysT fa fn ts w K) (Z : Fx K w mg) (G : Kx K w) : ∀ m, C8.Cal P w K mg base (m + 1) "_law_same" (spM K 2 (f__law_same K m)) []
  | 0 => by
    obtain ⟨fd, F⟩ := c.d.def_ 59 (d := dd__law_same) rfl
    have F : FnP K "_law_same" "_law_same" s__law_same (He.ga K "_law_same") fd := F
    have b := FunD.bindsN (ps := ["came", "due"]) F fun _ _ _ _ _ _ us hl => match us, hl with | [_, _], _ => rfl
    exact cal_by (st := s__law_same) (t := tNever) (k := 0) F (He.glo_ok X M (c.d.fact 37 (f := .glo "_law_same") rfl)) b sc__law_same rfl (fun _ _ _ _ _ _ _ => pss_never) fun os Post _ ⟨_, hd, _⟩ => nomatch hd
  | m + 1 => by
    have ih := c__law_sames X M c Z G m
    obtain ⟨fd, F⟩ := c.d.def_ 59 (d := dd__law_same) rfl
    have F : FnP K "_law_same" "_law_same" s__law_same (He.ga K "_law_same") fd := F
    have b := FunD.bindsN (ps := ["came", "due"]) F fun _ _ _ _ _ _ us hl => match us, hl with | [_, _], _ => rfl
    exact cal_by (st := s__law_same) F (He.glo_ok X M (c.d.fact 37 (f := .glo "_law_same") rfl)) b sc__law_same rfl (fun cdv A outer s H E hr => d__law_same m Z ih (Nat.le_refl _) cdv A outer s H E hr) (rs__law_same G m)
theorem c__law_same (X : K.In base) (M : base.Ns mainGlobals mg) (c : He.SaysT fa fn ts w K) (Z : Fx K w mg) (G : Kx K w) : C8.Cal P w K mg base 10 "_law_same" (spM K 2 (f__law_same K 9)) [] := c__law_sames X M c Z G 9
theorem c__law_bytes (X : K.In base) (M : base.Ns mainGlobals mg) (c : He.SaysT fa fn ts w K) (Z : Fx K w mg) (G : Kx K w) : C8.Cal P w K mg base 1 "_law_bytes" (spM K 2 (f__law_bytes K)) [] := by
  obtain ⟨fd, F⟩ := c.d.def_ 60 (d := dd__law_bytes) rfl
  have F : FnP K "_law_bytes" "_law_bytes" s__law_bytes (He.ga K "_law_bytes") fd := F
  have b := FunD.bindsN (ps := ["came", "due"]) F fun _ _ _ _ _ _ us hl => match us, hl with | [_, _], _ => rfl
  exact cal_by (st := s__law_bytes) F (He.glo_ok X M (c.d.fact 38 (f := .glo "_law_bytes") rfl)) b sc__law_bytes rfl (fun cdv A outer s H E hr => d__law_bytes Z  cdv A outer s H E hr) (rs__law_bytes G)
theorem c__law_coded (X : K.In base) (M : base.Ns mainGlobals mg) (c : He.SaysT fa fn ts w K) (Z : Fx K w mg) (G : Kx K w) : C8.Cal P w K mg base 1 "_law_coded" (spM K 1 (f__law_coded K)) [] := by
  obtain ⟨fd, F⟩ := c.d.def_ 61 (d := dd__law_coded) rfl
  have F : FnP K "_law_coded" "_law_coded" s__law_coded (He.ga K "_law_coded") fd := F
  have b := FunD.bindsN (ps := ["one"]) F fun _ _ _ _ _ _ us hl => match us, hl with | [_], _ => rfl
  exact cal_by (st := s__law_coded) F (He.glo_ok X M (c.d.fact 39 (f := .glo "_law_coded") rfl)) b sc__law_coded rfl (fun cdv A outer s H E hr => d__law_coded Z  cdv A outer s H E hr) (rs__law_coded G)
theorem c__law_lines (X : K.In base) (M : base.Ns mainGlobals mg) (c : He.SaysT fa fn ts w K) (Z : Fx K w mg) (G : Kx K w) : C8.Cal P w K mg base 1 "_law_lines" (spM K 5 (f__law_lines K)) [] := by
  obtain ⟨fd, F⟩ := c.d.def_ 62 (d := dd__law_lines) rfl
  have F : FnP K "_law_lines" "_law_lines" s__law_lines (He.ga K "_law_lines") fd := F
  have b := FunD.bindsN (ps := ["form", "a", "b", "loop", "part"]) F fun _ _ _ _ _ _ us hl => match us, hl with | [_, _, _, _, _], _ => rfl
  exact cal_by (st := s__law_lines) F (He.glo_ok X M (c.d.fact 40 (f := .glo "_law_lines") rfl)) b sc__law_lines rfl (fun cdv A outer s H E hr => d__law_lines Z  cdv A outer s H E hr) (rs__law_lines G)
theorem c__law_all (X : K.In base) (M : base.Ns mainGlobals mg) (c : He.SaysT fa fn ts w K) (Z : Fx K w mg) (G : Kx K w) : C8.Cal P w K mg base 11 "_law_all" (spM K 1 (f__law_all K)) [] := by
  obtain ⟨fd, F⟩ := c.d.def_ 63 (d := dd__law_all) rfl
  have F : FnP K "_law_all" "_law_all" s__law_all (He.ga K "_law_all") fd := F
  have b := FunD.bindsN (ps := ["script"]) F fun _ _ _ _ _ _ us hl => match us, hl with | [_], _ => rfl
  exact cal_by (st := s__law_all) F (He.glo_ok X M (c.d.fact 41 (f := .glo "_law_all") rfl)) b sc__law_all rfl (fun cdv A outer s H E hr => d__law_all Z (c__law_bytes X M c Z G) (c__law_coded X M c Z G) (c__law_draw X M c Z G) (c__law_jar X M c Z G) (c__law_lines X M c Z G) (c__law_same X M c Z G) (c_machine_run X M c Z G) cdv A outer s H E hr) (rs__law_all G)
theorem facts {f : Addr} (X : K.In h) (M : h.Ns mainGlobals mg) (hfa : mg ("law" : Str) = some (.ref f)) (c : He.SaysT fa fn ts w K) (e : ex K = true) :
    ∃ fd : FuncData, (∀ (s : Shared) (v : Value), BindsTo s fd ⟨[v], []⟩ [("script", v)]) ∧ ∀ base : Heap, K.In base → base.Ns mainGlobals mg → FnOk P w K mg base C8.CX0 12 f fd ["script"] (spM K 1 (f_law K)) := by
  have Z := fx X M c
  have G := kx c e
  obtain ⟨fd, F⟩ := c.d.def_ 64 (d := dd_law) rfl
  have F : FnP K "law" "law" s_law (He.ga K "law") fd := F
  have b := FunD.bindsN (ps := ["script"]) F fun _ _ _ _ _ _ us hl => match us, hl with | [_], _ => rfl
  have e := hfa.symm.trans (He.glo_ok X M (c.d.fact 42 (f := .glo "law") rfl))
  cases e
  have b2 := FunD.bindsA (ps := ["script"]) F fun _ _ _ _ _ _ us hl => match us, hl with | [_], _ => rfl
  exact ⟨fd, fun s v => b2 s [v] rfl, fun base X M => fn_by (st := s_law) F sc_law rfl (fun cdv A outer s H E hr => d_law Z (c__law_all X M c Z G) cdv A outer s H E hr) (rs_law G)⟩
end
theorem start_sp {K : PySem.W.Frag} {H : Hp} {a : Addr} {ns : List Int} (hl : ns.length ≤ 63) (hS : SqL K H a (ns.map V.int)) : spM K 1 (f_law K) [.ref a] H (fun v _ => v = .bl true) fun _ _ _ => False := by
  have hn : own [some (O.dat (D.scr ns))] = fun _ => False := by
    funext b
    apply propext
    refine ⟨fun ⟨i, o, e, hb⟩ => ?_, False.elim⟩
    match i, e with
    | 0, e =>
      have e2 : O.dat (D.scr ns) = o := Option.some.inj (Option.some.inj e)
      rw [← e2, adr_dat] at hb
      cases hb
    | i + 1, e => simp at e
  refine ⟨[.dat (.scr ns)], fun _ => False, fun r _ => r = db true, rfl, ?_, ⟨ns, rfl, Nat.lt_of_le_of_lt hl (by rw [sizeLine_eq]; decide), rfl⟩, fun r os' v H' e _ R _ => ?_⟩
  · refine ⟨rfl, fun i o e => ?_, fun i o e => ?_, fun i j o o' b e1 e2 h1 h2 => ?_, fun b hb => ?_, fun b hb => ?_, fun b o _ e => e, fun b hb => hb.elim⟩
    · match i, e with
      | 0, e =>
        have e2 : O.dat (D.scr ns) = o := Option.some.inj (Option.some.inj e)
        subst e2
        refine ⟨.ref a, rfl, ?_⟩
        unfold OV DV
        refine ⟨a, rfl, ?_⟩
        rcases hS with q | q
        · refine .inl ⟨fun z => ?_, q⟩
          rcases z with z | z
          · exact z
          · exact (show (fun _ => False) a from hn ▸ z)
        · exact .inr q
      | i + 1, e => simp at e
    · match i, e with
      | 0, e =>
        have e2 : O.dat (D.scr ns) = o := Option.some.inj (Option.some.inj e)
        rw [← e2, adr_dat]
        exact List.nodup_nil
      | i + 1, e => simp at e
    · match i, e1 with
      | 0, e =>
        have e2 : O.dat (D.scr ns) = o := Option.some.inj (Option.some.inj e)
        rw [← e2, adr_dat] at h1
        cases h1
      | i + 1, e => simp at e
    · exact (show (fun _ => False) b from hn ▸ hb).elim
    · exact (show (fun _ => False) b from hn ▸ hb).elim
  · subst e
    obtain ⟨R1, _, dv⟩ := R.pop
    exact dv_bl dv
end K69
open PySem PySem.W PySem.Calls PyProof.Rows
theorem PySem.Challenge.cw_codenotary_k69_machine_counts_holds : PySem.Challenge.rw_codenotary_k69_machine_counts.Holds := by
  w_on; o_law
  refine HandSHeadRun.head_any (r := OpenLaw.row PySem.Challenge.rw_codenotary_k69_machine_counts) (q := view (OpenLaw.row PySem.Challenge.rw_codenotary_k69_machine_counts).prog [65]) (H := K69.hk) (ob := K69.ob) (M := 9000) (loose := K69.loose) (d := HandSHeadRun.topDef (OpenLaw.row PySem.Challenge.rw_codenotary_k69_machine_counts).prog 65) (kwd := []) K69.ob_eq
    (by kernel_rfl) (fun s => by kernel_rfl) K69.run (by kernel_rfl) (by kernel_rfl) (by kernel_rfl) (by rfl) (by first | assumption | decide +kernel) (by decide +kernel) ⟨rfl, rfl, rfl, rfl, rfl, by decide +kernel⟩ ?hw ?hc
  case hw => w_witness2
  case hc =>
    refine L2.walk_ofE (l := PySem.Challenge.rw_codenotary_k69_machine_counts) (n := 63) (k := 12) (x := "script") (CX := C8.CX0) rfl (by decide) (by kernel_rfl) ⟨rfl, by decide, by decide⟩ ?F (fun _ _ _ _ z => z)
    intro w mg fa h Y M hmg0
    obtain ⟨K, KX, c, e⟩ := Y
    have hmg : mg ("law" : PySem.Str) = some (.ref fa) := by
      have e : (HandSHeadRun.topDef (OpenLaw.row PySem.Challenge.rw_codenotary_k69_machine_counts).prog 65).name = ("law" : PySem.Str) := by kernel_rfl
      rw [← e]
      exact hmg0
    obtain ⟨fd, hb, hF⟩ := K69.facts (P := (PySem.Challenge.rw_codenotary_k69_machine_counts).prog) (w := w) KX M hmg c e
    exact ⟨K, fd, Ow.spM K 1 (K69.f_law K), KX, hb, fun H a ns hl _ hS => K69.start_sp hl hS, hF⟩
