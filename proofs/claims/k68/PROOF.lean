import PyProof.Rows.All
import Wide.All
import OpenK.AllK
import Wide.FinOn
import HandS.ForMost
import HandS.Walk
import HandS.Wide
import HandS.Gcd
import HandS.IsInst
import HandS.TupAny
import HandS.TupMul
import HandS.Flow
import HandS.Style
import HandS.Zip
import HandS.Exc
import HandS.ExcOwn
import HandS.WordsExc
import KE.GoesMore
import KE.GoesEnum
import HandS.OwnEq
import HandS.More
import PyProof.InstNe
import HandS.Evl
import HandS.EndBits
import PySem.Challenge.RW_calmwebs_k68_lids_and_floors_judged
set_option Elab.async false
set_option linter.all false
set_option maxRecDepth 100000
set_option maxHeartbeats 4000000
/-! The data layer: values as data, code read over data. -/
namespace DL
open PySem PySem.Spec PyProof.Rows L2

/-- data: what a value is, all the way down -/
inductive D where
  | non | bl (b : Bool) | int (i : Int) | str (s : Str)
  | tup (ds : List D) | lst (ds : List D)
  /-- a dict with int keys -/
  | dic (ks : List Int) (ds : List D)
  /-- an instance of the class at C that nobody changes -/
  | obj (C : Addr) (ks : List Str) (ds : List D)
  /-- a def or a class, as a value -/
  | fn (f : Addr)
  /-- a built-in class, as a value -/
  | ty (n : String)
  /-- the law's pen -/
  | pen (a : Addr)

/-- an exception: its class and its fields -/
structure Ex where
  C : Addr
  ks : List Str
  ds : List D

/-- bits of the script's numbers -/
def scriptBits : Nat := 1100000

/-- the pen at a: at most n draws so far -/
def PenAt (K : PySem.W.Frag) (n : Nat) (H : Hp) (a : Addr) : Prop :=
  ∃ (cl : Addr) (cells : List Int) (aa dg ct fo : Int),
    H a = some (.dK [(Sum.inr "cells", V.ref cl), (Sum.inr "at", V.int aa), (Sum.inr "digits", V.int dg), (Sum.inr "count", V.int ct), (Sum.inr "fold", V.int fo)]) ∧
    H cl = some (.lst (cells.map V.int)) ∧ cells.length ≤ 63 ∧ (∀ c ∈ cells, c.natAbs < 2 ^ scriptBits) ∧
    0 ≤ aa ∧ 0 ≤ dg ∧ dg.natAbs < 2 ^ scriptBits ∧ 0 ≤ ct ∧ ct ≤ n ∧ 0 ≤ fo ∧ fo < 2147483563

/-- a tuple that is tracked, or stands in the written part -/
def SqU (K : PySem.W.Frag) (H : Hp) (a : Addr) (vs : List V) : Prop :=
  H a = some (.tup vs) ∨ ∃ (o : Obj) (its : Array Value) (n : Nat), K.lookup a = some o ∧ o.cls = .type "tuple" ∧ o.data = .seq its n ∧ its.size ≤ sizeLine ∧ Vals vs its.toList
theorem SqU.t {K : PySem.W.Frag} {H : Hp} {a : Addr} {vs : List V} (h : SqU K H a vs) : SqT K H a vs := h.elim (fun e => .inl (.inl e)) .inr

mutual
/-- the value v is this data in the heap H -/
def rep (K : PySem.W.Frag) (n : Nat) (H : Hp) : D → V → Prop
  | .non, v => v = .non
  | .bl b, v => v = .bl b
  | .int i, v => v = .int i
  | .str s, v => v = .str s
  | .tup ds, v => ∃ a vs, v = .ref a ∧ SqU K H a vs ∧ reps K n H ds vs
  | .lst ds, v => ∃ a vs, v = .ref a ∧ H a = some (.lst vs) ∧ reps K n H ds vs
  | .dic ks ds, v => ∃ a ws, v = .ref a ∧ H a = some (.dK ws) ∧ ws.map (·.1) = ks.map Sum.inl ∧ reps K n H ds (ws.map (·.2))
  | .obj C ks ds, v => ∃ a dx ws, v = .ref a ∧ H a = some (.ins C dx ws) ∧ ws.map (·.1) = ks ∧ reps K n H ds (ws.map (·.2))
  | .fn f, v => v = .ref f
  | .ty n, v => v = .ty n
  | .pen a, v => v = .ref a ∧ PenAt K n H a
def reps (K : PySem.W.Frag) (n : Nat) (H : Hp) : List D → List V → Prop
  | [], vs => vs = []
  | d :: ds, vs => ∃ v r, vs = v :: r ∧ rep K n H d v ∧ reps K n H ds r
end

/-- what must be told of two heaps so that all data stays -/
structure Tr (K : PySem.W.Frag) (n : Nat) (H : Hp) (k : Nat) (H' : Hp) : Prop where
  tup : ∀ a vs, SqU K H a vs → SqU K H' a vs
  lst : ∀ (a : Addr) (vs : List V), H a = some (.lst vs) → H' a = some (.lst vs)
  dic : ∀ (a : Addr) (ws : List (Key × V)) (ks : List Int), H a = some (.dK ws) → ws.map (·.1) = ks.map Sum.inl → H' a = some (.dK ws)
  obj : ∀ (a C dx : Addr) (ws : List (Str × V)), H a = some (.ins C dx ws) → H' a = some (.ins C dx ws)
  pen : ∀ a, PenAt K n H a → PenAt K k H' a

section
variable {K : PySem.W.Frag} {n k : Nat} {H H' : Hp}
mutual
theorem rep_tr (t : Tr K n H k H') : ∀ (d : D) (v : V), rep K n H d v → rep K k H' d v
  | .non, v, h => h
  | .bl b, v, h => h
  | .int i, v, h => h
  | .str s, v, h => h
  | .tup ds, v, ⟨a, vs, e, s, r⟩ => ⟨a, vs, e, t.tup a vs s, reps_tr t ds vs r⟩
  | .lst ds, v, ⟨a, vs, e, s, r⟩ => ⟨a, vs, e, t.lst a vs s, reps_tr t ds vs r⟩
  | .dic ks ds, v, ⟨a, ws, e, s, q, r⟩ => ⟨a, ws, e, t.dic a ws ks s q, q, reps_tr t ds _ r⟩
  | .obj C ks ds, v, ⟨a, dx, ws, e, s, q, r⟩ => ⟨a, dx, ws, e, t.obj a C dx ws s, q, reps_tr t ds _ r⟩
  | .fn f, v, h => h
  | .ty n, v, h => h
  | .pen a, v, ⟨e, p⟩ => ⟨e, t.pen a p⟩
theorem reps_tr (t : Tr K n H k H') : ∀ (ds : List D) (vs : List V), reps K n H ds vs → reps K k H' ds vs
  | [], vs, h => h
  | d :: ds, vs, ⟨v, r, e, h, hr⟩ => ⟨v, r, e, rep_tr t d v h, reps_tr t ds r hr⟩
end

/-- all that is tracked stays -/
def Grow (H H' : Hp) : Prop := ∀ a o, H a = some o → H' a = some o
theorem Grow.refl (H : Hp) : Grow H H := fun _ _ h => h
theorem Grow.trans {H1 : Hp} (g : Grow H H1) (g' : Grow H1 H') : Grow H H' := fun a o h => g' a o (g a o h)
theorem Grow.new {p : Addr} {o : HO} (h : H p = none) : Grow H (upd H p o) := fun a u e => by
  rw [upd_ne (ne_of_none e h)]; exact e
theorem Grow.sqU (g : Grow H H') {a : Addr} {vs : List V} (h : SqU K H a vs) : SqU K H' a vs := h.elim (fun e => .inl (g _ _ e)) .inr
theorem Grow.tr (g : Grow H H') (hn : n ≤ k) : Tr K n H k H' where
  tup := fun a vs h => g.sqU h
  lst := fun a vs h => g _ _ h
  dic := fun a ws ks h _ => g _ _ h
  obj := fun a C dx ws h => g _ _ h
  pen := fun a ⟨cl, cells, aa, dg, ct, fo, h1, h2, h3, h4, h5, h6, h7, h8, h9, h10, h11⟩ =>
    ⟨cl, cells, aa, dg, ct, fo, g _ _ h1, g _ _ h2, h3, h4, h5, h6, h7, h8, by omega, h10, h11⟩
theorem reps_len : ∀ {ds : List D} {vs : List V}, reps K n H ds vs → vs.length = ds.length
  | [], vs, h => by rw [show vs = [] from h]; rfl
  | d :: ds, vs, ⟨v, r, e, h, hr⟩ => by rw [e, List.length_cons, List.length_cons, reps_len hr]
theorem reps_get : ∀ {ds : List D} {vs : List V} {i : Nat} {d : D}, reps K n H ds vs → ds[i]? = some d → ∃ v, vs[i]? = some v ∧ rep K n H d v
  | [], vs, i, d, h, e => by simp at e
  | d :: ds, vs, 0, d', ⟨v, r, e, h, hr⟩, e' => by
    simp at e'; subst e'; subst e; exact ⟨v, rfl, h⟩
  | d :: ds, vs, i + 1, d', ⟨v, r, e, h, hr⟩, e' => by
    subst e
    obtain ⟨w, h1, h2⟩ := reps_get (i := i) hr (by simpa using e')
    exact ⟨w, by simpa using h1, h2⟩
theorem reps_get' : ∀ {ds : List D} {vs : List V} {i : Nat} {v : V}, reps K n H ds vs → vs[i]? = some v → ∃ d, ds[i]? = some d ∧ rep K n H d v
  | [], vs, i, d, h, e => by rw [show vs = [] from h] at e; simp at e
  | d :: ds, vs, 0, d', ⟨v, r, e, h, hr⟩, e' => by
    subst e; simp at e'; subst e'; exact ⟨d, rfl, h⟩
  | d :: ds, vs, i + 1, d', ⟨v, r, e, h, hr⟩, e' => by
    subst e
    obtain ⟨w, h1, h2⟩ := reps_get' (i := i) hr (by simpa using e')
    exact ⟨w, by simpa using h1, h2⟩
theorem reps_app : ∀ {ds es : List D} {vs ws : List V}, reps K n H ds vs → reps K n H es ws → reps K n H (ds ++ es) (vs ++ ws)
  | [], es, vs, ws, h, h' => by rw [show vs = [] from h]; exact h'
  | d :: ds, es, vs, ws, ⟨v, r, e, h, hr⟩, h' => ⟨v, r ++ ws, by rw [e]; rfl, h, reps_app hr h'⟩
theorem reps_one {d : D} {v : V} (h : rep K n H d v) : reps K n H [d] [v] := ⟨v, [], rfl, h, rfl⟩
theorem reps_drop : ∀ (m : Nat) {ds : List D} {vs : List V}, reps K n H ds vs → reps K n H (ds.drop m) (vs.drop m)
  | 0, ds, vs, h => h
  | m + 1, [], vs, h => by rw [show vs = [] from h]; exact rfl
  | m + 1, d :: ds, vs, ⟨v, r, e, h, hr⟩ => by subst e; exact reps_drop m hr
theorem reps_take : ∀ (m : Nat) {ds : List D} {vs : List V}, reps K n H ds vs → reps K n H (ds.take m) (vs.take m)
  | 0, ds, vs, h => rfl
  | m + 1, [], vs, h => by rw [show vs = [] from h]; exact rfl
  | m + 1, d :: ds, vs, ⟨v, r, e, h, hr⟩ => by subst e; exact ⟨v, r.take m, rfl, h, reps_take m hr⟩
theorem reps_set : ∀ (m : Nat) {ds : List D} {vs : List V} {d : D} {v : V}, reps K n H ds vs → rep K n H d v → reps K n H (ds.set m d) (vs.set m v)
  | _, [], vs, d, v, h, _ => by rw [show vs = [] from h]; exact rfl
  | 0, d :: ds, vs, d', v', ⟨v, r, e, h, hr⟩, h' => by subst e; exact ⟨v', r, rfl, h', hr⟩
  | m + 1, d :: ds, vs, d', v', ⟨v, r, e, h, hr⟩, h' => by subst e; exact ⟨v, r.set m v', rfl, h, reps_set m hr h'⟩
theorem reps_rev {ds : List D} {vs : List V} (h : reps K n H ds vs) : reps K n H ds.reverse vs.reverse := by
  induction ds generalizing vs with
  | nil => rw [show vs = [] from h]; exact rfl
  | cons d ds ih =>
    obtain ⟨v, r, e, h1, h2⟩ := h
    subst e
    rw [List.reverse_cons, List.reverse_cons]
    exact reps_app (ih h2) (reps_one h1)
end

/-! ### hidden lists -/
def hide (B : List Addr) (H : Hp) : Hp := fun b => if b ∈ B then none else H b
theorem hide_out {B : List Addr} {H : Hp} {a : Addr} (h : a ∉ B) : hide B H a = H a := if_neg h
theorem hide_in {B : List Addr} {H : Hp} {a : Addr} (h : a ∈ B) : hide B H a = none := if_pos h
theorem hide_some {B : List Addr} {H : Hp} {a : Addr} {o : HO} (h : hide B H a = some o) : a ∉ B ∧ H a = some o := by
  by_cases hb : a ∈ B
  · rw [hide_in hb] at h; cases h
  · rw [hide_out hb] at h; exact ⟨hb, h⟩
theorem hide_grow {B : List Addr} {H : Hp} : Grow (hide B H) H := fun a o h => (hide_some h).2
theorem hide_sub {B B' : List Addr} {H : Hp} (h : ∀ a ∈ B', a ∈ B) : Grow (hide B H) (hide B' H) := fun a o e => by
  obtain ⟨e1, e2⟩ := hide_some e
  rw [hide_out fun z => e1 (h a z)]; exact e2
theorem hide_upd_out {B : List Addr} {H : Hp} {p : Addr} {o : HO} (h : p ∉ B) : hide B (upd H p o) = upd (hide B H) p o := by
  funext b
  unfold hide upd
  by_cases hb : b = p
  · subst hb; rw [if_neg h, if_pos rfl, if_pos rfl]
  · rw [if_neg hb, if_neg hb]
theorem hide_upd_in {B : List Addr} {H : Hp} {p : Addr} {o : HO} (h : p ∈ B) : hide B (upd H p o) = hide B H := by
  funext b
  unfold hide
  by_cases hb : b ∈ B
  · rw [if_pos hb, if_pos hb]
  · rw [if_neg hb, if_neg hb, upd_ne fun e => hb (by rw [e]; exact h)]

/-- from H to H' while what is in B is hidden -/
structure Step (K : PySem.W.Frag) (B : List Addr) (n : Nat) (H : Hp) (k : Nat) (H' : Hp) : Prop where
  le : n ≤ k
  rep : ∀ d v, rep K n (hide B H) d v → rep K k (hide B H') d v
  same : ∀ a ∈ B, H' a = H a
theorem Step.refl {K : PySem.W.Frag} {B : List Addr} {n : Nat} {H : Hp} : Step K B n H n H := ⟨Nat.le_refl _, fun _ _ h => h, fun _ _ => rfl⟩
theorem Step.trans {K : PySem.W.Frag} {B : List Addr} {n k j : Nat} {H H1 H2 : Hp} (s : Step K B n H k H1) (t : Step K B k H1 j H2) : Step K B n H j H2 :=
  ⟨Nat.le_trans s.le t.le, fun d v h => t.rep d v (s.rep d v h), fun a h => (t.same a h).trans (s.same a h)⟩
theorem Step.new {K : PySem.W.Frag} {B : List Addr} {n : Nat} {H : Hp} {p : Addr} {o : HO} (h : H p = none) (hB : ∀ a ∈ B, H a ≠ none) : Step K B n H n (upd H p o) := by
  have hp : p ∉ B := fun z => hB p z h
  refine ⟨Nat.le_refl _, fun d v r => ?_, fun a ha => upd_ne fun e => hp (e ▸ ha)⟩
  rw [hide_upd_out hp]
  exact rep_tr ((Grow.new (by rw [hide_out hp]; exact h)).tr (Nat.le_refl _)) d v r
theorem Step.reps {K : PySem.W.Frag} {B : List Addr} {n k : Nat} {H H' : Hp} (s : Step K B n H k H') : ∀ {ds : List D} {vs : List V}, reps K n (hide B H) ds vs → reps K k (hide B H') ds vs
  | [], vs, h => h
  | d :: ds, vs, ⟨v, r, e, h, hr⟩ => ⟨v, r, e, s.rep d v h, s.reps hr⟩

/-- a list that the def alone holds: a tree of such lists, data at the leaves -/
inductive OT where
  | leaf (d : D)
  | node (a : Addr) (ts : List OT)
mutual
def OT.adr : OT → List Addr
  | .leaf _ => []
  | .node a ts => a :: OT.adrs ts
def OT.adrs : List OT → List Addr
  | [] => []
  | t :: ts => OT.adr t ++ OT.adrs ts
end
mutual
def repO (K : PySem.W.Frag) (B : List Addr) (n : Nat) (H : Hp) : OT → V → Prop
  | .leaf d, v => rep K n (hide B H) d v
  | .node a ts, v => v = .ref a ∧ ∃ vs, H a = some (.lst vs) ∧ repOs K B n H ts vs
def repOs (K : PySem.W.Frag) (B : List Addr) (n : Nat) (H : Hp) : List OT → List V → Prop
  | [], vs => vs = []
  | t :: ts, vs => ∃ v r, vs = v :: r ∧ repO K B n H t v ∧ repOs K B n H ts r
end
mutual
def OT.toD : OT → D
  | .leaf d => d
  | .node _ ts => .lst (OT.toDs ts)
def OT.toDs : List OT → List D
  | [] => []
  | t :: ts => OT.toD t :: OT.toDs ts
end
theorem reps_of {K : PySem.W.Frag} {n k : Nat} {H H' : Hp} (f : ∀ d v, rep K n H d v → rep K k H' d v) : ∀ {ds : List D} {vs : List V}, reps K n H ds vs → reps K k H' ds vs
  | [], vs, h => h
  | d :: ds, vs, ⟨v, r, e, h, hr⟩ => ⟨v, r, e, f d v h, reps_of f hr⟩
/-- what stands in a slot -/
inductive Ent where
  | no
  | sh (d : D)
  | ow (t : OT)
  /-- the instance at a of the class at C that is being made -/
  | slf (a C : Addr) (ks : List Str) (ds : List D)
def Ent.adr : Ent → List Addr
  | .ow t => t.adr
  | .slf a _ _ _ => [a]
  | _ => []
def own (ρ : List Ent) : List Addr := ρ.flatMap Ent.adr
def EntOk (K : PySem.W.Frag) (B : List Addr) (n : Nat) (H : Hp) : Ent → Option (Option V) → Prop
  | .no, _ => True
  | .sh d, o => ∃ v, o = some (some v) ∧ rep K n (hide B H) d v
  | .ow t, o => ∃ v, o = some (some v) ∧ repO K B n H t v
  | .slf a C ks ds, o => ∃ dx ws, o = some (some (.ref a)) ∧ H a = some (.ins C dx ws) ∧ ws.map (·.1) = ks ∧ reps K n (hide B H) ds (ws.map (·.2))
/-- the slots hold these entries; A: what is hidden from without -/
structure RE (K : PySem.W.Frag) (A : List Addr) (ρ : List Ent) (n : Nat) (σ : L2.St) (H : Hp) : Prop where
  sl : ∀ (i : Nat) (e : Ent), ρ[i]? = some e → EntOk K (A ++ own ρ) n H e σ[i]?
  nd : (own ρ).Nodup
  ap : ∀ a ∈ own ρ, a ∉ A
  al : ∀ a ∈ A, H a ≠ none
  ln : ρ.length ≤ σ.length
section
variable {K : PySem.W.Frag} {A B : List Addr} {ρ : List Ent} {n k : Nat} {σ : L2.St} {H H' : Hp}
mutual
theorem repO_step (s : Step K B n H k H') : ∀ (t : OT) (v : V), (∀ a ∈ t.adr, a ∈ B) → repO K B n H t v → repO K B k H' t v
  | .leaf d, v, _, h => s.rep d v h
  | .node a ts, v, hb, ⟨e, vs, h, r⟩ => ⟨e, vs, (s.same a (hb a (by rw [OT.adr]; exact List.mem_cons_self))).trans h, repOs_step s ts vs (fun b hm => hb b (by rw [OT.adr]; exact List.mem_cons_of_mem _ hm)) r⟩
theorem repOs_step (s : Step K B n H k H') : ∀ (ts : List OT) (vs : List V), (∀ a ∈ OT.adrs ts, a ∈ B) → repOs K B n H ts vs → repOs K B k H' ts vs
  | [], vs, _, h => h
  | t :: ts, vs, hb, ⟨v, r, e, h, hr⟩ => ⟨v, r, e, repO_step s t v (fun a hm => hb a (by rw [OT.adrs]; exact List.mem_append_left _ hm)) h, repOs_step s ts r (fun a hm => hb a (by rw [OT.adrs]; exact List.mem_append_right _ hm)) hr⟩
end
theorem mem_own {i : Nat} {e : Ent} {a : Addr} (h : ρ[i]? = some e) (ha : a ∈ e.adr) : a ∈ own ρ :=
  List.mem_flatMap.mpr ⟨e, List.mem_of_getElem? h, ha⟩
theorem RE.step (R : RE K A ρ n σ H) (s : Step K (A ++ own ρ) n H k H') : RE K A ρ k σ H' := by
  refine ⟨fun i e h => ?_, R.nd, R.ap, fun a ha => ?_, R.ln⟩
  · have q := R.sl i e h
    cases e with
    | no => trivial
    | sh d => obtain ⟨v, e1, r⟩ := q; exact ⟨v, e1, s.rep d v r⟩
    | ow t => obtain ⟨v, e1, r⟩ := q; exact ⟨v, e1, repO_step s t v (fun a ha => List.mem_append_right _ (mem_own h ha)) r⟩
    | slf a C ks ds => obtain ⟨dx, ws, e1, e2, e3, r⟩ := q; exact ⟨dx, ws, e1, (s.same a (List.mem_append_right _ (mem_own h List.mem_cons_self))).trans e2, e3, s.reps r⟩
  · rw [s.same a (List.mem_append_left _ ha)]; exact R.al a ha
mutual
theorem repO_there : ∀ (t : OT) (v : V), repO K B n H t v → ∀ a ∈ t.adr, ∃ vs, H a = some (.lst vs)
  | .leaf d, v, _, a, ha => by simp [OT.adr] at ha
  | .node b ts, v, ⟨e, vs, h, r⟩, a, ha => by
    rw [OT.adr] at ha
    rcases List.mem_cons.mp ha with z | z
    · exact ⟨vs, z ▸ h⟩
    · exact repOs_there ts vs r a z
theorem repOs_there : ∀ (ts : List OT) (vs : List V), repOs K B n H ts vs → ∀ a ∈ OT.adrs ts, ∃ vs, H a = some (.lst vs)
  | [], vs, _, a, ha => by simp [OT.adrs] at ha
  | t :: ts, vs, ⟨v, r, e, h, hr⟩, a, ha => by
    rw [OT.adrs] at ha
    rcases List.mem_append.mp ha with z | z
    · exact repO_there t v h a z
    · exact repOs_there ts r hr a z
end
theorem RE.there (R : RE K A ρ n σ H) : ∀ a ∈ own ρ, H a ≠ none := fun a ha => by
  obtain ⟨e, he, hae⟩ := List.mem_flatMap.mp ha
  obtain ⟨i, hi⟩ := List.getElem?_of_mem he
  have q := R.sl i e hi
  cases e with
  | no => simp [Ent.adr] at hae
  | sh d => simp [Ent.adr] at hae
  | ow t => obtain ⟨v, e1, r⟩ := q; obtain ⟨vs, e⟩ := repO_there t v r a hae; rw [e]; exact fun q => nomatch q
  | slf b C ks ds => obtain ⟨dx, ws, e1, e2, e3, r⟩ := q; rw [List.mem_singleton.mp hae, e2]; exact fun q => nomatch q
theorem RE.all (R : RE K A ρ n σ H) : ∀ a ∈ A ++ own ρ, H a ≠ none := fun a ha => by
  rcases List.mem_append.mp ha with z | z
  · exact R.al a z
  · exact R.there a z
end

/-! ### readings over data -/
abbrev DK := D → Nat → Prop
abbrev EK := Ex → Nat → Prop
abbrev WE := List Ent → Nat → DK → EK → Prop
abbrev WT := List Ent → Nat → (Bool → Nat → Prop) → EK → Prop
abbrev WA := List Ent → Nat → (List D → Nat → Prop) → EK → Prop
def Mono {α : Type} (m : List Ent → Nat → (α → Nat → Prop) → EK → Prop) : Prop :=
  ∀ ρ n (Q Q' : α → Nat → Prop) (E E' : EK), (∀ d k, Q d k → Q' d k) → (∀ x k, E x k → E' x k) → m ρ n Q E → m ρ n Q' E'
def xrep (K : PySem.W.Frag) (n : Nat) (H : Hp) (x : Ex) (dx : Addr) : Prop := ∃ ws, H dx = some (.xd ws) ∧ ws.map (·.1) = x.ks ∧ reps K n H x.ds (ws.map (·.2))
/-- what is wanted of an exception, from the state (n, H) on -/
def eP (K : PySem.W.Frag) (E : XK) (B : List Addr) (n : Nat) (H : Hp) : EK := fun x k => ∀ dx H', Step K B n H k H' → xrep K k (hide B H') x dx → E (.ref x.C) (some dx) H'
def tD (K : PySem.W.Frag) (E : XK) (m : WE) : TE := fun σ H Q => ∃ A ρ n, RE K A ρ n σ H ∧
  m ρ n (fun d k => ∀ v H', Step K (A ++ own ρ) n H k H' → rep K k (hide (A ++ own ρ) H') d v → Q v H') (eP K E (A ++ own ρ) n H)
def tDT (K : PySem.W.Frag) (E : XK) (m : WT) : TT := fun σ H Q => ∃ A ρ n, RE K A ρ n σ H ∧
  m ρ n (fun b k => ∀ H', Step K (A ++ own ρ) n H k H' → Q b H') (eP K E (A ++ own ρ) n H)
def tDA (K : PySem.W.Frag) (E : XK) (m : WA) : TA := fun σ H Q => ∃ A ρ n, RE K A ρ n σ H ∧
  m ρ n (fun ds k => ∀ vs H', Step K (A ++ own ρ) n H k H' → reps K k (hide (A ++ own ρ) H') ds vs → Q vs H') (eP K E (A ++ own ρ) n H)
structure DE (X : Cx) (E : XK) (e : Expr) (m : WE) : Prop where
  mono : Mono m
  pe : PE X e (tD X.K E m)
structure DT (X : Cx) (E : XK) (e : Expr) (m : WT) : Prop where
  mono : Mono m
  pt : PT X e (tDT X.K E m)
structure DA (X : Cx) (E : XK) (es : List Expr) (m : WA) : Prop where
  mono : Mono m
  pa : PA X es (tDA X.K E m)
theorem _root_.L2.PE.imp {X : Cx} {e : Expr} {t t' : TE} (h : PE X e t) (i : ∀ σ H Q, t' σ H Q → t σ H Q) : PE X e t' := ⟨fun pins s σ H Q I q => h.run pins s σ H Q I (i σ H Q q)⟩
theorem _root_.L2.PT.imp {X : Cx} {e : Expr} {t t' : TT} (h : PT X e t) (i : ∀ σ H Q, t' σ H Q → t σ H Q) : PT X e t' := ⟨fun pins s σ H Q I q => h.run pins s σ H Q I (i σ H Q q)⟩
theorem _root_.L2.PA.imp {X : Cx} {e : List Expr} {t t' : TA} (h : PA X e t) (i : ∀ σ H Q, t' σ H Q → t σ H Q) : PA X e t' := ⟨fun pos pins s σ H Q I q => h.run pos pins s σ H Q I (i σ H Q q)⟩

section
variable {K : PySem.W.Frag} {E : XK} {A : List Addr} {ρ : List Ent} {n : Nat} {σ : L2.St} {H : Hp}
theorem eP.step {B : List Addr} {n k : Nat} {H H1 : Hp} (s : Step K B n H k H1) (x : Ex) (j : Nat) (h : eP K E B n H x j) : eP K E B k H1 x j := fun dx H' t r => h dx H' (s.trans t) r
theorem tD.run {m : WE} {Q : VK} {Qd : DK} (M : Mono m) (R : RE K A ρ n σ H) (h : m ρ n Qd (eP K E (A ++ own ρ) n H))
    (q : ∀ d k v H', Step K (A ++ own ρ) n H k H' → rep K k (hide (A ++ own ρ) H') d v → Qd d k → Q v H') : tD K E m σ H Q :=
  ⟨A, ρ, n, R, M ρ n _ _ _ _ (fun d k hd v H' s r => q d k v H' s r hd) (fun _ _ z => z) h⟩
theorem tD.run' {m : WE} {Q : VK} {Qd : DK} {Ed : EK} (M : Mono m) (R : RE K A ρ n σ H) (h : m ρ n Qd Ed) (he : ∀ x j, Ed x j → eP K E (A ++ own ρ) n H x j)
    (q : ∀ d k v H', Step K (A ++ own ρ) n H k H' → rep K k (hide (A ++ own ρ) H') d v → Qd d k → Q v H') : tD K E m σ H Q :=
  ⟨A, ρ, n, R, M ρ n _ _ _ _ (fun d k hd v H' s r => q d k v H' s r hd) he h⟩
theorem tDT.run' {m : WT} {Q : Bool → Hp → Prop} {Qd : Bool → Nat → Prop} {Ed : EK} (M : Mono m) (R : RE K A ρ n σ H) (h : m ρ n Qd Ed) (he : ∀ x j, Ed x j → eP K E (A ++ own ρ) n H x j)
    (q : ∀ b k H', Step K (A ++ own ρ) n H k H' → Qd b k → Q b H') : tDT K E m σ H Q :=
  ⟨A, ρ, n, R, M ρ n _ _ _ _ (fun d k hd H' s => q d k H' s hd) he h⟩
theorem tDA.run' {m : WA} {Q : List V → Hp → Prop} {Qd : List D → Nat → Prop} {Ed : EK} (M : Mono m) (R : RE K A ρ n σ H) (h : m ρ n Qd Ed) (he : ∀ x j, Ed x j → eP K E (A ++ own ρ) n H x j)
    (q : ∀ ds k vs H', Step K (A ++ own ρ) n H k H' → reps K k (hide (A ++ own ρ) H') ds vs → Qd ds k → Q vs H') : tDA K E m σ H Q :=
  ⟨A, ρ, n, R, M ρ n _ _ _ _ (fun d k hd v H' s r => q d k v H' s r hd) he h⟩
end
end DL

set_option Elab.async false
set_option linter.all false
set_option maxRecDepth 100000
set_option maxHeartbeats 4000000
namespace DL
open PySem PySem.Spec PyProof.Rows L2

/-! ### names, constants -/
def entD (o : Option Ent) (k : D → Prop) : Prop := match o with
  | some (.sh d) => k d
  | _ => False
theorem entD_some {o : Option Ent} {k : D → Prop} (h : entD o k) : ∃ d, o = some (.sh d) ∧ k d := by
  unfold entD at h
  split at h
  · exact ⟨_, rfl, h⟩
  · exact h.elim
theorem entD_mono {o : Option Ent} {k k' : D → Prop} (i : ∀ d, k d → k' d) (h : entD o k) : entD o k' := by
  obtain ⟨d, e, q⟩ := entD_some h
  rw [e]; exact i d q
def dVar (i : Nat) : WE := fun ρ n Q _ => entD ρ[i]? fun d => Q d n
def dC (d : D) : WE := fun _ n Q _ => Q d n
section
variable {X : Cx} {E : XK} {pos : Pos}
theorem de_var (i : Nat) {x : Str} (hN : X.N[i]? = some x := by rfl) (hv : Vis X.env.scope x := by first | exact Or.inl rfl | exact Or.inr (Or.inl rfl) | exact Or.inr (Or.inr rfl)) (hd : (x == ("__debug__" : Str)) = false := by decide)
    (hcd : (x == ("__classdict__" : Str)) = false := by decide) : DE X E (.Name x pos) (dVar i) := by
  refine ⟨fun ρ n Q Q' E E' hq he h => entD_mono (fun d q => hq d n q) h, (pe_var (i := i) hN hv hd hcd).imp fun σ H Q h => ?_⟩
  obtain ⟨A, ρ, n, R, h⟩ := h
  obtain ⟨d, e, q⟩ := entD_some h
  obtain ⟨v, e1, r⟩ := R.sl i _ e
  exact ⟨v, e1, q v H Step.refl r⟩
theorem mono_dC {d : D} : Mono (dC d) := fun ρ n Q Q' E E' hq he h => hq _ _ h
theorem de_c {e : Expr} {d : D} {v : V} (h : PE X e (tC v)) (r : ∀ n H, rep X.K n H d v) : DE X E e (dC d) := by
  refine ⟨mono_dC, h.imp fun σ H Q h => ?_⟩
  obtain ⟨A, ρ, n, R, h⟩ := h
  exact h v H Step.refl (r _ _)
theorem de_int {i j} : DE X E (.Constant (.int i) j pos) (dC (.int i)) := de_c pe_int fun _ _ => rfl
theorem de_bl {b j} : DE X E (.Constant (.bool b) j pos) (dC (.bl b)) := de_c pe_bl fun _ _ => rfl
theorem de_non {j} : DE X E (.Constant .none j pos) (dC .non) := de_c pe_non fun _ _ => rfl
theorem de_str {x j} : DE X E (.Constant (.str x) j pos) (dC (.str x)) := de_c pe_str fun _ _ => rfl
/-- a name of the module: a constant tuple, a def, a class -/
theorem de_glob {x : Str} {v : V} {u : Value} {d : D} (hg : Gl X x) (hm : X.mg x = some u) (r : RelV v u) (hd : ∀ n H, rep X.K n H d v) (hdb : (x == ("__debug__" : Str)) = false := by decide) : DE X E (.Name x pos) (dC d) := de_c (pe_glob hg hm r hdb) hd
theorem de_fn {x : Str} {f : Addr} (hg : Gl X x) (hm : X.mg x = some (.ref f)) (hdb : (x == ("__debug__" : Str)) = false := by decide) : DE X E (.Name x pos) (dC (.fn f)) := de_c (pe_glob (v := .ref f) hg hm rfl hdb) fun _ _ => rfl
theorem de_ty {x : Str} {T : String} (hg : Gl X x) (hm : X.mg x = none) (hv : bootBuiltins x = some (.type T)) (hn : x ≠ "__name__" := by decide) (hdb : (x == ("__debug__" : Str)) = false := by decide) : DE X E (.Name x pos) (dC (.ty T)) :=
  de_c (pe_bltn (v := .ty T) hg hm hv rfl hn hdb) fun _ _ => rfl

/-! ### argument lists, displays -/
def dNil : WA := fun _ n Q _ => Q [] n
def dCons (m : WE) (r : WA) : WA := fun ρ n Q E => m ρ n (fun d k => r ρ k (fun ds j => Q (d :: ds) j) E) E
theorem mono_nil : Mono dNil := fun ρ n Q Q' E E' hq he h => hq _ _ h
theorem mono_cons {m : WE} {r : WA} (h1 : Mono m) (h2 : Mono r) : Mono (dCons m r) := fun ρ n Q Q' E E' hq he h =>
  h1 ρ n _ _ _ _ (fun d k h => h2 ρ k _ _ _ _ (fun ds j h => hq _ _ h) he h) he h
theorem da_nil : DA X E [] dNil := ⟨mono_nil, pa_nil.imp fun σ H Q h => by
  obtain ⟨A, ρ, n, R, h⟩ := h
  exact h [] H Step.refl rfl⟩
theorem da_cons {e : Expr} {es : List Expr} {m : WE} {r : WA} (h1 : DE X E e m) (h2 : DA X E es r) (hs : starEach (e :: es) X.env = (false, eval e X.env) :: starEach es X.env := by rfl) : DA X E (e :: es) (dCons m r) := by
  refine ⟨mono_cons h1.mono h2.mono, (pa_cons h1.pe h2.pa hs).imp fun σ H Q h => ?_⟩
  obtain ⟨A, ρ, n, R, h⟩ := h
  refine tD.run' h1.mono R h (fun _ _ z => z) fun d k v H1 s r h => ?_
  refine tDA.run' h2.mono (R.step s) h (fun x j z => z.step s) fun ds j vs H2 s2 r2 h => ?_
  exact h (v :: vs) H2 (s.trans s2) ⟨v, vs, rfl, s2.rep d v r, r2⟩
/-- how many there are -/
structure DAn (X : Cx) (E : XK) (es : List Expr) (m : WA) : Prop where
  da : DA X E es m
  len : ∀ ρ n Q E, m ρ n Q E → m ρ n (fun ds k => ds.length = es.length ∧ Q ds k) E
theorem dn_nil : DAn X E [] dNil := ⟨da_nil, fun ρ n Q E h => ⟨rfl, h⟩⟩
theorem dn_cons {e : Expr} {es : List Expr} {m : WE} {r : WA} (h1 : DE X E e m) (h2 : DAn X E es r) (hs : starEach (e :: es) X.env = (false, eval e X.env) :: starEach es X.env := by rfl) : DAn X E (e :: es) (dCons m r) :=
  ⟨da_cons h1 h2.da hs, fun ρ n Q E h => h1.mono ρ n _ _ _ _ (fun d k h => h2.da.mono ρ k _ _ _ _ (fun ds j h => ⟨by rw [List.length_cons, List.length_cons, h.1], h.2⟩) (fun _ _ z => z) (h2.len ρ k _ _ h)) (fun _ _ z => z) h⟩
def dTup (m : WA) : WE := fun ρ n Q E => m ρ n (fun ds k => Q (.tup ds) k) E
def dLst (m : WA) : WE := fun ρ n Q E => m ρ n (fun ds k => Q (.lst ds) k) E
theorem small_le {n : Nat} (h : n ≤ 1000) : n ≤ sizeLine := Nat.le_trans h (by decide)
theorem de_tup {es : List Expr} {m : WA} {x1} (h : DAn X E es m) (hl : es.length ≤ 1000 := by exact Nat.le_of_ble_eq_true rfl) : DE X E (.Tuple es x1 pos) (dTup m) := by
  refine ⟨fun ρ n Q Q' E E' hq he z => h.da.mono ρ n _ _ _ _ (fun d k h => hq _ _ h) he z, (pe_tup h.da.pa).imp fun σ H Q z => ?_⟩
  obtain ⟨A, ρ, n, R, z⟩ := z
  refine tDA.run' h.da.mono R (h.len _ _ _ _ z) (fun _ _ z => z) fun ds k vs H1 s r q => ?_
  refine ⟨small_le (by rw [reps_len r, q.1]; exact hl), fun p hp => ?_⟩
  have s2 := Step.new (K := X.K) (n := k) (o := .tup vs) hp (R.step s).all
  refine q.2 _ _ (s.trans s2) ⟨p, vs, rfl, .inl ?_, s2.reps r⟩
  rw [hide_out fun z => (R.step s).all p z hp, upd_same]
theorem de_lst {es : List Expr} {m : WA} (h : DAn X E es m) (hl : es.length ≤ 1000 := by exact Nat.le_of_ble_eq_true rfl) : DE X E (.List es pos) (dLst m) := by
  refine ⟨fun ρ n Q Q' E E' hq he z => h.da.mono ρ n _ _ _ _ (fun d k h => hq _ _ h) he z, (pe_lst h.da.pa).imp fun σ H Q z => ?_⟩
  obtain ⟨A, ρ, n, R, z⟩ := z
  refine tDA.run' h.da.mono R (h.len _ _ _ _ z) (fun _ _ z => z) fun ds k vs H1 s r q => ?_
  refine ⟨small_le (by rw [reps_len r, q.1]; exact hl), fun p hp => ?_⟩
  have s2 := Step.new (K := X.K) (n := k) (o := .lst vs) hp (R.step s).all
  refine q.2 _ _ (s.trans s2) ⟨p, vs, rfl, ?_, s2.reps r⟩
  rw [hide_out fun z => (R.step s).all p z hp, upd_same]
end

/-! ### operators of two -/
abbrev OpT := D → D → (D → Prop) → Prop
/-- what stands behind an operator's answer -/
abbrev After (K : PySem.W.Frag) (B : List Addr) (n : Nat) (H : Hp) (Q : VK) (d : D) : Prop := ∀ v H', Step K B n H n H' → rep K n (hide B H') d v → Q v H'
structure OpD (X : Cx) (f : Value → Value → Sem Value) (op : OpT) : Prop where
  ok : ∃ r, OpR X f r ∧ ∀ (B : List Addr) (n : Nat) (H : Hp) (a b : D) (x y : V) (Q : VK), (∀ c ∈ B, H c ≠ none) → rep X.K n (hide B H) a x → rep X.K n (hide B H) b y → op a b (After X.K B n H Q) → r x y H Q
  mono : ∀ a b (Q Q' : D → Prop), (∀ d, Q d → Q' d) → op a b Q → op a b Q'
def dOp (op : OpT) (ma mb : WE) : WE := fun ρ n Q E => ma ρ n (fun a k => mb ρ k (fun b j => op a b fun d => Q d j) E) E
def dTest (m : WE) : WT := fun ρ n Q E => m ρ n (fun d k => match d with | .bl b => Q b k | _ => False) E
section
variable {X : Cx} {E : XK} {pos : Pos} {a b : Expr} {ma mb : WE} {op : OpT}
theorem mono_op (hm : ∀ a b (Q Q' : D → Prop), (∀ d, Q d → Q' d) → op a b Q → op a b Q') (h1 : Mono ma) (h2 : Mono mb) : Mono (dOp op ma mb) := fun ρ n Q Q' E E' hq he h =>
  h1 ρ n _ _ _ _ (fun d k h => h2 ρ k _ _ _ _ (fun e j h => hm _ _ _ _ (fun d h => hq _ _ h) h) he h) he h
theorem op_imp {f : Value → Value → Sem Value} {r : R2} (h1 : DE X E a ma) (h2 : DE X E b mb)
    (hr : ∀ (B : List Addr) (n : Nat) (H : Hp) (a b : D) (x y : V) (Q : VK), (∀ c ∈ B, H c ≠ none) → rep X.K n (hide B H) a x → rep X.K n (hide B H) b y → op a b (After X.K B n H Q) → r x y H Q)
    (hm : ∀ a b (Q Q' : D → Prop), (∀ d, Q d → Q' d) → op a b Q → op a b Q') (σ : L2.St) (H : Hp) (Q : VK) (h : tD X.K E (dOp op ma mb) σ H Q) : tOp r (tD X.K E ma) (tD X.K E mb) σ H Q := by
  obtain ⟨A, ρ, n, R, h⟩ := h
  refine tD.run' h1.mono R h (fun _ _ z => z) fun d k v H1 s rv h => ?_
  refine tD.run' h2.mono (R.step s) h (fun x j z => z.step s) fun d2 k2 v2 H2 s2 r2 h => ?_
  refine hr _ k2 H2 d d2 v v2 Q ((R.step s).step s2).all (s2.rep d v rv) r2 (hm _ _ _ _ (fun z h w H3 s3 r3 => ?_) h)
  exact h w H3 ((s.trans s2).trans s3) r3
theorem de_op {o : Operator} (ho : OpD X (binaryOp o) op) (h1 : DE X E a ma) (h2 : DE X E b mb) : DE X E (.BinOp a o b pos) (dOp op ma mb) := by
  obtain ⟨r, ro, hr⟩ := ho.ok
  exact ⟨mono_op ho.mono h1.mono h2.mono, (pe_op ro h1.pe h2.pe).imp (op_imp (f := binaryOp o) h1 h2 hr ho.mono)⟩
theorem de_cmp {o : CmpOp} (ho : OpD X (compareOp o) op) (h1 : DE X E a ma) (h2 : DE X E b mb) (hm : behindInMarks o b = false := by first | exact nomark _ | rfl) : DE X E (.Compare a [o] [b] pos) (dOp op ma mb) := by
  obtain ⟨r, ro, hr⟩ := ho.ok
  exact ⟨mono_op ho.mono h1.mono h2.mono, (pe_cmpR ro h1.pe h2.pe hm).imp (op_imp (f := compareOp o) h1 h2 hr ho.mono)⟩
theorem mono_test {m : WE} (h : Mono m) : Mono (dTest m) := fun ρ n Q Q' E E' hq he z => h ρ n _ _ _ _ (fun d k h => by
  cases d <;> first | exact hq _ _ h | exact h.elim) he z
/-- an expression whose value is a bool, as a test -/
theorem dt_val {e : Expr} {m : WE} (h : DE X E e m) (he : ∀ whole, isTrue e X.env whole = (do let v ← whole; standAt e.pos; holding [v] (truthy v)) := by intro _; rfl) : DT X E e (dTest m) := by
  refine ⟨mono_test h.mono, (pt_val h.pe he).imp fun σ H Q z => ?_⟩
  obtain ⟨A, ρ, n, R, z⟩ := z
  refine tD.run' h.mono R z (fun _ _ z => z) fun d k v H1 s r q => ?_
  cases d with
  | bl c => exact ⟨c, r, q H1 s⟩
  | _ => exact q.elim
theorem dt_cmp {o : CmpOp} (ho : OpD X (compareOp o) op) (h1 : DE X E a ma) (h2 : DE X E b mb) (hm : behindInMarks o b = false := by first | exact nomark _ | rfl) : DT X E (.Compare a [o] [b] pos) (dTest (dOp op ma mb)) := by
  obtain ⟨r, ro, hr⟩ := ho.ok
  refine ⟨mono_test (mono_op ho.mono h1.mono h2.mono), (pt_cmpR ro h1.pe h2.pe hm).imp fun σ H Q z => ?_⟩
  obtain ⟨A, ρ, n, R, z⟩ := z
  refine op_imp (E := E) (f := compareOp o) h1 h2 hr ho.mono σ H _ ⟨A, ρ, n, R, mono_op ho.mono h1.mono h2.mono ρ n _ _ _ _ (fun d k q v H' s r => ?_) (fun _ _ z => z) z⟩
  cases d with
  | bl c => exact ⟨c, r, q H' s⟩
  | _ => exact q.elim
end

/-! ### and, or, not, if -/
def dAnd (t u : WT) : WT := fun ρ n Q E => t ρ n (fun b k => if b = true then u ρ k Q E else Q false k) E
def dOr (t u : WT) : WT := fun ρ n Q E => t ρ n (fun b k => if b = true then Q true k else u ρ k Q E) E
def dNot (t : WT) : WT := fun ρ n Q E => t ρ n (fun b k => Q (!b) k) E
/-- a test's answer as a value -/
def dB (t : WT) : WE := fun ρ n Q E => t ρ n (fun b k => Q (.bl b) k) E
def dIf (t : WT) (a b : WE) : WE := fun ρ n Q E => t ρ n (fun c k => if c = true then a ρ k Q E else b ρ k Q E) E
/-- a test that may be followed -/
structure DW (X : Cx) (E : XK) (e : Expr) (m : WT) : Prop where
  mono : Mono m
  pw : PW X e (tDT X.K E m)
theorem _root_.L2.PW.imp {X : Cx} {e : Expr} {t t' : TT} (h : PW X e t) (i : ∀ σ H Q, t' σ H Q → t σ H Q) : PW X e t' := ⟨fun w pins s σ H Q I q => h.run w pins s σ H Q I (i σ H Q q)⟩
theorem ite_mono {c : Prop} [Decidable c] {A B A' B' : Prop} (h1 : A → A') (h2 : B → B') (h : if c then A else B) : if c then A' else B' := by
  by_cases hc : c
  · rw [if_pos hc] at h ⊢; exact h1 h
  · rw [if_neg hc] at h ⊢; exact h2 h
section
variable {X : Cx} {E : XK} {pos : Pos} {a b : Expr} {rest : List Expr} {t u : WT} {ma mb : WE}
theorem mono_and (h1 : Mono t) (h2 : Mono u) : Mono (dAnd t u) := fun ρ n Q Q' E E' hq he h =>
  h1 ρ n _ _ _ _ (fun b k h => ite_mono (fun h => h2 ρ k _ _ _ _ hq he h) (fun h => hq _ _ h) h) he h
theorem mono_or (h1 : Mono t) (h2 : Mono u) : Mono (dOr t u) := fun ρ n Q Q' E E' hq he h =>
  h1 ρ n _ _ _ _ (fun b k h => ite_mono (fun h => hq _ _ h) (fun h => h2 ρ k _ _ _ _ hq he h) h) he h
theorem mono_not (h1 : Mono t) : Mono (dNot t) := fun ρ n Q Q' E E' hq he h => h1 ρ n _ _ _ _ (fun b k h => hq _ _ h) he h
theorem mono_B (h1 : Mono t) : Mono (dB t) := fun ρ n Q Q' E E' hq he h => h1 ρ n _ _ _ _ (fun b k h => hq _ _ h) he h
theorem mono_if (h1 : Mono t) (h2 : Mono ma) (h3 : Mono mb) : Mono (dIf t ma mb) := fun ρ n Q Q' E E' hq he h =>
  h1 ρ n _ _ _ _ (fun b k h => ite_mono (fun h => h2 ρ k _ _ _ _ hq he h) (fun h => h3 ρ k _ _ _ _ hq he h) h) he h
theorem DW.dt (h : DW X E a t) : DT X E a t := ⟨h.mono, h.pw.pt⟩
theorem dw_and1 (h : DT X E a t) : DW X E (.BoolOp .And [a] pos) t := ⟨h.mono, pw_and1 h.pt⟩
theorem dw_or1 (h : DT X E a t) : DW X E (.BoolOp .Or [a] pos) t := ⟨h.mono, pw_or1 h.pt⟩
theorem dw_and (h1 : DT X E a t) (h2 : DW X E (.BoolOp .And (b :: rest) pos) u) : DW X E (.BoolOp .And (a :: b :: rest) pos) (dAnd t u) := by
  refine ⟨mono_and h1.mono h2.mono, (pw_and h1.pt h2.pw).imp fun σ H Q z => ?_⟩
  obtain ⟨A, ρ, n, R, z⟩ := z
  refine tDT.run' h1.mono R z (fun _ _ z => z) fun c k H1 s q => ?_
  cases c with
  | true =>
    refine tDT.run' h2.mono (R.step s) q (fun x j z => z.step s) fun c k2 H2 s2 q => q H2 (s.trans s2)
  | false => exact q H1 s
theorem dw_or (h1 : DT X E a t) (h2 : DW X E (.BoolOp .Or (b :: rest) pos) u) : DW X E (.BoolOp .Or (a :: b :: rest) pos) (dOr t u) := by
  refine ⟨mono_or h1.mono h2.mono, (pw_or h1.pt h2.pw).imp fun σ H Q z => ?_⟩
  obtain ⟨A, ρ, n, R, z⟩ := z
  refine tDT.run' h1.mono R z (fun _ _ z => z) fun c k H1 s q => ?_
  cases c with
  | true => exact q H1 s
  | false =>
    refine tDT.run' h2.mono (R.step s) q (fun x j z => z.step s) fun c k2 H2 s2 q => q H2 (s.trans s2)
theorem dt_not (h1 : DT X E a t) : DT X E (.UnaryOp .Not a pos) (dNot t) := by
  refine ⟨mono_not h1.mono, (pt_not h1.pt).imp fun σ H Q z => ?_⟩
  obtain ⟨A, ρ, n, R, z⟩ := z
  exact tDT.run' h1.mono R z (fun _ _ z => z) fun c k H1 s q => q H1 s
/-- as values: bools -/
theorem de_one {op} {m : WE} (h : DE X E a m) : DE X E (.BoolOp op [a] pos) m := ⟨h.mono, pe_one h.pe⟩
def dAndV (ma mb : WE) : WE := fun ρ n Q E => ma ρ n (fun d k => match d with | .bl c => (if c = true then mb ρ k Q E else Q (.bl false) k) | _ => False) E
def dOrV (ma mb : WE) : WE := fun ρ n Q E => ma ρ n (fun d k => match d with | .bl c => (if c = true then Q (.bl true) k else mb ρ k Q E) | _ => False) E
def dNotV (ma : WE) : WE := fun ρ n Q E => ma ρ n (fun d k => match d with | .bl c => Q (.bl (!c)) k | _ => False) E
theorem de_and (h1 : DE X E a ma) (h2 : DE X E (.BoolOp .And (b :: rest) pos) mb) : DE X E (.BoolOp .And (a :: b :: rest) pos) (dAndV ma mb) := by
  refine ⟨fun ρ n Q Q' E E' hq he h => h1.mono ρ n _ _ _ _ (fun d k h => ?_) he h, (pe_and h1.pe h2.pe).imp fun σ H Q z => ?_⟩
  · cases d with
    | bl c => exact ite_mono (fun h => h2.mono ρ k _ _ _ _ hq he h) (fun h => hq _ _ h) h
    | _ => exact h.elim
  · obtain ⟨A, ρ, n, R, z⟩ := z
    refine tD.run' h1.mono R z (fun _ _ z => z) fun d k v H1 s r q => ?_
    cases d with
    | bl c =>
      refine ⟨c, r, ?_⟩
      cases c with
      | true => exact tD.run' h2.mono (R.step s) q (fun x j z => z.step s) fun d k2 v H2 s2 r2 q => q v H2 (s.trans s2) r2
      | false => exact q _ H1 s rfl
    | _ => exact q.elim
theorem de_or (h1 : DE X E a ma) (h2 : DE X E (.BoolOp .Or (b :: rest) pos) mb) : DE X E (.BoolOp .Or (a :: b :: rest) pos) (dOrV ma mb) := by
  refine ⟨fun ρ n Q Q' E E' hq he h => h1.mono ρ n _ _ _ _ (fun d k h => ?_) he h, (pe_or h1.pe h2.pe).imp fun σ H Q z => ?_⟩
  · cases d with
    | bl c => exact ite_mono (fun h => hq _ _ h) (fun h => h2.mono ρ k _ _ _ _ hq he h) h
    | _ => exact h.elim
  · obtain ⟨A, ρ, n, R, z⟩ := z
    refine tD.run' h1.mono R z (fun _ _ z => z) fun d k v H1 s r q => ?_
    cases d with
    | bl c =>
      refine ⟨c, r, ?_⟩
      cases c with
      | true => exact q _ H1 s rfl
      | false => exact tD.run' h2.mono (R.step s) q (fun x j z => z.step s) fun d k2 v H2 s2 r2 q => q v H2 (s.trans s2) r2
    | _ => exact q.elim
theorem de_not (h1 : DE X E a ma) : DE X E (.UnaryOp .Not a pos) (dNotV ma) := by
  refine ⟨fun ρ n Q Q' E E' hq he h => h1.mono ρ n _ _ _ _ (fun d k h => ?_) he h, (pe_not h1.pe).imp fun σ H Q z => ?_⟩
  · cases d with
    | bl c => exact hq _ _ h
    | _ => exact h.elim
  · obtain ⟨A, ρ, n, R, z⟩ := z
    refine tD.run' h1.mono R z (fun _ _ z => z) fun d k v H1 s r q => ?_
    cases d with
    | bl c => exact ⟨c, r, q _ H1 s rfl⟩
    | _ => exact q.elim
theorem de_ifExp {c : Expr} (hc : DT X E c t) (h1 : DE X E a ma) (h2 : DE X E b mb) : DE X E (.IfExp c a b pos) (dIf t ma mb) := by
  refine ⟨mono_if hc.mono h1.mono h2.mono, (pe_ifExp hc.pt h1.pe h2.pe).imp fun σ H Q z => ?_⟩
  obtain ⟨A, ρ, n, R, z⟩ := z
  refine tDT.run' hc.mono R z (fun _ _ z => z) fun c k H1 s q => ?_
  cases c with
  | true => exact tD.run' h1.mono (R.step s) q (fun x j z => z.step s) fun d k2 v H2 s2 r2 q => q v H2 (s.trans s2) r2
  | false => exact tD.run' h2.mono (R.step s) q (fun x j z => z.step s) fun d k2 v H2 s2 r2 q => q v H2 (s.trans s2) r2
end

/-! ### operators: ints -/
def oI (C : Int → Int → Prop) (g : Int → Int → D) : OpT := fun a b Q => match a, b with
  | .int i, .int j => C i j ∧ Q (g i j)
  | _, _ => False
def oI0 (g : Int → Int → D) : OpT := fun a b Q => match a, b with
  | .int i, .int j => Q (g i j)
  | _, _ => False
theorem oI_shape {C : Int → Int → Prop} {g : Int → Int → D} {a b : D} {Q : D → Prop} (h : oI C g a b Q) : ∃ i j, a = .int i ∧ b = .int j ∧ C i j ∧ Q (g i j) := by
  unfold oI at h
  split at h
  · exact ⟨_, _, rfl, rfl, h.1, h.2⟩
  · exact h.elim
theorem oI0_shape {g : Int → Int → D} {a b : D} {Q : D → Prop} (h : oI0 g a b Q) : ∃ i j, a = .int i ∧ b = .int j ∧ Q (g i j) := by
  unfold oI0 at h
  split at h
  · exact ⟨_, _, rfl, rfl, h⟩
  · exact h.elim
section
variable {X : Cx}
theorem opd_I {f : Value → Value → Sem Value} {C : Int → Int → Prop} {g : Int → Int → V} {gd : Int → Int → D} (h : OpR X f (rI C g)) (hg : ∀ n H i j, rep X.K n H (gd i j) (g i j)) : OpD X f (oI C gd) where
  ok := ⟨_, h, fun B n H a b x y Q hB ra rb h => by
    obtain ⟨i, j, rfl, rfl, c, q⟩ := oI_shape h
    exact ⟨i, j, ra, rb, c, q _ H Step.refl (hg _ _ i j)⟩⟩
  mono := fun a b Q Q' hq h => by
    obtain ⟨i, j, rfl, rfl, c, q⟩ := oI_shape h
    exact ⟨c, hq _ q⟩
theorem opd_I0 {f : Value → Value → Sem Value} {g : Int → Int → V} {gd : Int → Int → D} (h : OpR X f (rI0 g)) (hg : ∀ n H i j, rep X.K n H (gd i j) (g i j)) : OpD X f (oI0 gd) where
  ok := ⟨_, h, fun B n H a b x y Q hB ra rb h => by
    obtain ⟨i, j, rfl, rfl, q⟩ := oI0_shape h
    exact ⟨i, j, ra, rb, q _ H Step.refl (hg _ _ i j)⟩⟩
  mono := fun a b Q Q' hq h => by
    obtain ⟨i, j, rfl, rfl, q⟩ := oI0_shape h
    exact hq _ q
abbrev oAdd : OpT := oI0 fun i j => .int (i + j)
abbrev oSub : OpT := oI0 fun i j => .int (i - j)
/-- a product's size -/
def MulOk (i j : Int) : Prop := i.natAbs.log2 + j.natAbs.log2 < 1000000
/-- a divisor's size -/
def DivOk (_ j : Int) : Prop := 0 < j ∧ j.natAbs.log2 < 9000
abbrev oMul : OpT := oI MulOk fun i j => .int (i * j)
abbrev oDiv : OpT := oI DivOk fun i j => .int (i / j)
abbrev oMod : OpT := oI (fun _ j => 0 < j) fun i j => .int (i % j)
abbrev oLt : OpT := oI0 fun i j => .bl (decide (i < j))
abbrev oLe : OpT := oI0 fun i j => .bl (decide (i ≤ j))
abbrev oGt : OpT := oI0 fun i j => .bl (decide (j < i))
abbrev oGe : OpT := oI0 fun i j => .bl (decide (j ≤ i))
theorem od_add : OpD X (binaryOp .Add) oAdd := opd_I0 op_add fun _ _ _ _ => rfl
theorem od_sub : OpD X (binaryOp .Sub) oSub := opd_I0 op_sub fun _ _ _ _ => rfl
theorem od_mul : OpD X (binaryOp .Mult) oMul := opd_I (C := CMulW) op_mulW fun _ _ _ _ => rfl
theorem od_div : OpD X (binaryOp .FloorDiv) oDiv := opd_I (C := CDivW) op_fdivW fun _ _ _ _ => rfl
theorem od_mod : OpD X (binaryOp .Mod) oMod := opd_I op_mod fun _ _ _ _ => rfl
theorem od_lt : OpD X (compareOp .Lt) oLt := opd_I0 op_lt fun _ _ _ _ => rfl
theorem od_le : OpD X (compareOp .LtE) oLe := opd_I0 op_le fun _ _ _ _ => rfl
theorem od_gt : OpD X (compareOp .Gt) oGt := opd_I0 op_gt fun _ _ _ _ => rfl
theorem od_ge : OpD X (compareOp .GtE) oGe := opd_I0 op_ge fun _ _ _ _ => rfl
end
end DL

set_option Elab.async false
set_option linter.all false
set_option maxRecDepth 100000
set_option maxHeartbeats 4000000
namespace DL
open PySem PySem.Spec PyProof.Rows L2

/-! ### calls of defs -/
/-- what a def is worth: from data to data -/
abbrev W := List D → Nat → DK → EK → Prop
structure Wm (w : W) : Prop where
  mono : ∀ ds n (Q Q' : DK) (E E' : EK), (∀ d k, Q d k → Q' d k) → (∀ x k, E x k → E' x k) → w ds n Q E → w ds n Q' E'
/-- the promise of a def of ar parameters -/
def spD (K : PySem.W.Frag) (ar : Nat) (w : W) : Sp := fun vs H Q E => vs.length = ar ∧ ∃ A ds n, (∀ a ∈ A, H a ≠ none) ∧ reps K n (hide A H) ds vs ∧
  w ds n (fun d k => ∀ v H', Step K A n H k H' → rep K k (hide A H') d v → Q v H') (eP K E A n H)
def dCall (w : W) (m : WA) : WE := fun ρ n Q E => m ρ n (fun ds k => w ds k Q E) E
section
variable {X : Cx} {E : XK} {pos p : Pos} {e : Expr} {es : List Expr} {m : WA} {w : W}
theorem mono_call (hw : Wm w) (h : Mono m) : Mono (dCall w m) := fun ρ n Q Q' E E' hq he z => h ρ n _ _ _ _ (fun ds k z => hw.mono ds k _ _ _ _ hq he z) he z
theorem de_call {x : Str} {CX : CXT} {k : Nat} {f : Addr} {fd : FuncData} {ps : List Str} {ar : Nat} (hw : Wm w) (F : FnOk X.prog X.w X.K X.mg X.base CX k f fd ps (spD X.K ar w)) (hr : Room k X.A) (hg : Gl X x) (hm : X.mg x = some (.ref f)) (hk : PySem.W.keepIn X.K (.ref f) = true)
    (hb : Binds X.K fd ps []) (hx : Passes CX X E) (ha : DAn X E (e :: es) m) (hl : (e :: es).length = ar := by rfl) (hdb : (x == ("__debug__" : Str)) = false := by decide) (he : starEach (e :: es) X.env = (false, eval e X.env) :: starEach es X.env := by rfl) (hpl : (backTo pos (starEach es X.env)).any (·.1) = false := by rfl) :
    DE X E (.Call (.Name x p) (e :: es) [] pos) (dCall w m) := by
  refine ⟨mono_call hw ha.da.mono, (pe_call F hr hg hm hk hb .nil hx ha.da.pa hdb he hpl).imp fun σ H Q z => ?_⟩
  obtain ⟨A, ρ, n, R, z⟩ := z
  refine tDA.run' ha.da.mono R (ha.len _ _ _ _ z) (fun _ _ z => z) fun ds k vs H1 s r q => ?_
  obtain ⟨q1, q⟩ := q
  refine ⟨by rw [List.append_nil, reps_len r, q1]; exact hl, A ++ own ρ, ds, k, (R.step s).all, by rw [List.append_nil]; exact r, ?_⟩
  exact hw.mono ds k _ _ _ _ (fun d j q v H' s2 r2 => q v H' (s.trans s2) r2) (fun x j z => z.step s) q
end

/-! ### built-in functions -/
abbrev CallT := List D → (D → Prop) → Prop
structure CallD (X : Cx) (f : Value) (op : CallT) : Prop where
  ok : ∃ r, CallR X f r ∧ ∀ (B : List Addr) (n : Nat) (H : Hp) (ds : List D) (vs : List V) (Q : VK), (∀ c ∈ B, H c ≠ none) → reps X.K n (hide B H) ds vs → op ds (After X.K B n H Q) → r vs H Q
  mono : ∀ ds (Q Q' : D → Prop), (∀ d, Q d → Q' d) → op ds Q → op ds Q'
def dCB (op : CallT) (m : WA) : WE := fun ρ n Q E => m ρ n (fun ds k => op ds fun d => Q d k) E
section
variable {X : Cx} {E : XK} {pos p : Pos} {e : Expr} {es : List Expr} {m : WA} {op : CallT} {x : Str}
theorem mono_cb {f : Value} (ho : CallD X f op) (h : Mono m) : Mono (dCB op m) := fun ρ n Q Q' E E' hq he z => h ρ n _ _ _ _ (fun ds k z => ho.mono ds _ _ (fun d q => hq _ _ q) z) he z
theorem cb_imp {f : Value} {r : List V → Hp → VK → Prop} (hr : ∀ (B : List Addr) (n : Nat) (H : Hp) (ds : List D) (vs : List V) (Q : VK), (∀ c ∈ B, H c ≠ none) → reps X.K n (hide B H) ds vs → op ds (After X.K B n H Q) → r vs H Q)
    (hm : ∀ ds (Q Q' : D → Prop), (∀ d, Q d → Q' d) → op ds Q → op ds Q') (ha : DA X E es m) (σ : L2.St) (H : Hp) (Q : VK) (z : tD X.K E (dCB op m) σ H Q) : tCB r (tDA X.K E m) σ H Q := by
  obtain ⟨A, ρ, n, R, z⟩ := z
  refine tDA.run' ha.mono R z (fun _ _ z => z) fun ds k vs H1 s rv q => ?_
  refine hr _ k H1 ds vs Q (R.step s).all rv (hm ds _ _ (fun d q v H' s2 r2 => q v H' (s.trans s2) r2) q)
theorem de_callB {id : String} (ho : CallD X (.builtin id) op) (hg : Gl X x) (hm : X.mg x = none) (hv : bootBuiltins x = some (.builtin id)) (ha : DA X E (e :: es) m) (hn : x ≠ "__name__" := by decide) (hdb : (x == ("__debug__" : Str)) = false := by decide)
    (he : starEach (e :: es) X.env = (false, eval e X.env) :: starEach es X.env := by rfl) (hpl : (backTo pos (starEach es X.env)).any (·.1) = false := by rfl) : DE X E (.Call (.Name x p) (e :: es) [] pos) (dCB op m) := by
  obtain ⟨r, ro, hr⟩ := ho.ok
  exact ⟨mono_cb ho ha.mono, (pe_callB ro hg hm hv ha.pa hn hdb he hpl).imp (cb_imp (f := .builtin id) hr ho.mono ha)⟩
theorem de_callTy {T : String} (ho : CallD X (.type T) op) (hg : Gl X x) (hm : X.mg x = none) (hv : bootBuiltins x = some (.type T)) (ha : DA X E (e :: es) m) (hn : x ≠ "__name__" := by decide) (hdb : (x == ("__debug__" : Str)) = false := by decide)
    (he : starEach (e :: es) X.env = (false, eval e X.env) :: starEach es X.env := by rfl) (hpl : (backTo pos (starEach es X.env)).any (·.1) = false := by rfl) : DE X E (.Call (.Name x p) (e :: es) [] pos) (dCB op m) := by
  obtain ⟨r, ro, hr⟩ := ho.ok
  exact ⟨mono_cb ho ha.mono, (pe_callTy ro hg hm hv ha.pa hn hdb he hpl).imp (cb_imp (f := .type T) hr ho.mono ha)⟩
theorem de_callG {id : String} (ho : CallD X (.builtin id) op) (hg : Gl X x) (hm : X.mg x = some (.builtin id)) (ha : DA X E (e :: es) m) (hdb : (x == ("__debug__" : Str)) = false := by decide)
    (he : starEach (e :: es) X.env = (false, eval e X.env) :: starEach es X.env := by rfl) (hpl : (backTo pos (starEach es X.env)).any (·.1) = false := by rfl) : DE X E (.Call (.Name x p) (e :: es) [] pos) (dCB op m) := by
  obtain ⟨r, ro, hr⟩ := ho.ok
  exact ⟨mono_cb ho ha.mono, (pe_callBfun ro hg hm ha.pa hdb he hpl).imp (cb_imp (f := .builtin id) hr ho.mono ha)⟩
end

/-! ### sequences -/
/-- the items of a tuple or a list -/
def D.seq : D → Option (List D)
  | .tup ds => some ds
  | .lst ds => some ds
  | _ => none
section
variable {K : PySem.W.Frag} {n : Nat} {H : Hp}
theorem rep_seq {d : D} {ds : List D} {v : V} {B : List Addr} (h : d.seq = some ds) (r : rep K n (hide B H) d v) : ∃ a vs, v = .ref a ∧ (SqL K H a vs ∨ SqT K H a vs) ∧ reps K n (hide B H) ds vs := by
  cases d with
  | tup es =>
    cases h
    obtain ⟨a, vs, e, u, r⟩ := r
    exact ⟨a, vs, e, .inr ((hide_grow.sqU u).t), r⟩
  | lst es =>
    cases h
    obtain ⟨a, vs, e, u, r⟩ := r
    exact ⟨a, vs, e, .inl (.inl (.inl (hide_grow _ _ u))), r⟩
  | _ => cases h
theorem newRep {B : List Addr} {p : Addr} {vs : List V} {ds : List D} (hB : ∀ a ∈ B, H a ≠ none) (hp : H p = none) (r : reps K n (hide B H) ds vs) :
    Step K B n H n (upd H p (.tup vs)) ∧ rep K n (hide B (upd H p (.tup vs))) (.tup ds) (.ref p) := by
  have s := Step.new (K := K) (n := n) (o := .tup vs) hp hB
  refine ⟨s, p, vs, rfl, .inl ?_, s.reps r⟩
  rw [hide_out fun z => hB p z hp, upd_same]
theorem newLst {B : List Addr} {p : Addr} {vs : List V} {ds : List D} (hB : ∀ a ∈ B, H a ≠ none) (hp : H p = none) (r : reps K n (hide B H) ds vs) :
    Step K B n H n (upd H p (.lst vs)) ∧ rep K n (hide B (upd H p (.lst vs))) (.lst ds) (.ref p) := by
  have s := Step.new (K := K) (n := n) (o := .lst vs) hp hB
  refine ⟨s, p, vs, rfl, ?_, s.reps r⟩
  rw [hide_out fun z => hB p z hp, upd_same]
end
theorem reps1 {K : PySem.W.Frag} {n : Nat} {H : Hp} {d : D} {vs : List V} (h : reps K n H [d] vs) : ∃ v, vs = [v] ∧ rep K n H d v := by
  obtain ⟨v, r, rfl, h, hr⟩ := h
  rw [show r = [] from hr]; exact ⟨v, rfl, h⟩
theorem reps2 {K : PySem.W.Frag} {n : Nat} {H : Hp} {d e : D} {vs : List V} (h : reps K n H [d, e] vs) : ∃ v w, vs = [v, w] ∧ rep K n H d v ∧ rep K n H e w := by
  obtain ⟨v, r, rfl, h, hr⟩ := h
  obtain ⟨w, rfl, h2⟩ := reps1 hr
  exact ⟨v, w, rfl, h, h2⟩
theorem reps_nil {K : PySem.W.Frag} {n : Nat} {H : Hp} {vs : List V} (h : reps K n H [] vs) : vs = [] := h
def o1S (g : List D → D) : CallT := fun ds Q => match ds with
  | [d] => (match d.seq with | some es => Q (g es) | none => False)
  | _ => False
theorem o1S_shape {g : List D → D} {ds : List D} {Q : D → Prop} (h : o1S g ds Q) : ∃ d es, ds = [d] ∧ d.seq = some es ∧ Q (g es) := by
  unfold o1S at h
  split at h
  · split at h
    · exact ⟨_, _, rfl, by assumption, h⟩
    · exact h.elim
  · exact h.elim
theorem o1S_mono (g : List D → D) : ∀ ds (Q Q' : D → Prop), (∀ d, Q d → Q' d) → o1S g ds Q → o1S g ds Q' := fun ds Q Q' hq h => by
  obtain ⟨d, es, rfl, e, q⟩ := o1S_shape h
  unfold o1S
  simp only [e]
  exact hq _ q
abbrev oLen : CallT := o1S fun es => .int (es.length : Int)
abbrev oTuple : CallT := o1S fun es => .tup es
abbrev oList : CallT := o1S fun es => .lst es
section
variable {X : Cx}
theorem cd_len : CallD X (.builtin "len") oLen where
  ok := ⟨_, call_len_seq, fun B n H ds vs Q hB r h => by
    obtain ⟨d, es, rfl, e, q⟩ := o1S_shape h
    obtain ⟨v, rfl, rv⟩ := reps1 r
    obtain ⟨a, ws, rfl, s, rw'⟩ := rep_seq e rv
    exact ⟨a, ws, rfl, s, q _ H Step.refl (by rw [reps_len rw']; rfl)⟩⟩
  mono := o1S_mono _
theorem cd_tuple : CallD X (.type "tuple") oTuple where
  ok := ⟨_, call_tuple_of, fun B n H ds vs Q hB r h => by
    obtain ⟨d, es, rfl, e, q⟩ := o1S_shape h
    obtain ⟨v, rfl, rv⟩ := reps1 r
    cases d with
    | tup fs =>
      cases e
      obtain ⟨a, ws, rfl, u, rr⟩ := id rv
      exact ⟨a, ws, rfl, .inr ⟨(hide_grow.sqU u).t, q _ H Step.refl rv⟩⟩
    | lst fs =>
      cases e
      obtain ⟨a, ws, rfl, u, rr⟩ := id rv
      refine ⟨a, ws, rfl, .inl ⟨.inl (.inl (hide_grow _ _ u)), fun l hl => ?_⟩⟩
      obtain ⟨s, r2⟩ := newRep hB hl rr
      exact q _ _ s r2
    | _ => cases e⟩
  mono := o1S_mono _
theorem cd_list : CallD X (.type "list") oList where
  ok := ⟨_, call_list_of, fun B n H ds vs Q hB r h => by
    obtain ⟨d, es, rfl, e, q⟩ := o1S_shape h
    obtain ⟨v, rfl, rv⟩ := reps1 r
    obtain ⟨a, ws, rfl, s, rr⟩ := rep_seq e rv
    refine ⟨a, ws, rfl, s, fun l hl => ?_⟩
    obtain ⟨s, r2⟩ := newLst hB hl rr
    exact q _ _ s r2⟩
  mono := o1S_mono _
end
/-- lists of bools -/
def bools : List D → Option (List Bool)
  | [] => some []
  | .bl b :: ds => (bools ds).map (b :: ·)
  | _ :: _ => none
theorem bools_map (bs : List Bool) : bools (bs.map D.bl) = some bs := by
  induction bs with
  | nil => rfl
  | cons b bs ih => show (bools (bs.map D.bl)).map (b :: ·) = _; rw [ih]; rfl
theorem bools_of : ∀ {ds : List D} {bs : List Bool}, bools ds = some bs → ds = bs.map D.bl
  | [], bs, h => by cases h; rfl
  | d :: ds, bs, h => by
    cases d with
    | bl b =>
      unfold bools at h
      cases e : bools ds with
      | none => rw [e] at h; cases h
      | some cs => rw [e] at h; cases h; rw [bools_of e]; rfl
    | _ => cases h
theorem reps_bools {K : PySem.W.Frag} {n : Nat} {H : Hp} : ∀ {bs : List Bool} {vs : List V}, reps K n H (bs.map D.bl) vs → vs = bs.map V.bl
  | [], vs, h => h
  | b :: bs, vs, ⟨v, r, e, h, hr⟩ => by rw [e, show v = .bl b from h, reps_bools hr]; rfl
theorem reps_ints {K : PySem.W.Frag} {n : Nat} {H : Hp} : ∀ {bs : List Int} {vs : List V}, reps K n H (bs.map D.int) vs → vs = bs.map V.int
  | [], vs, h => h
  | b :: bs, vs, ⟨v, r, e, h, hr⟩ => by rw [e, show v = .int b from h, reps_ints hr]; rfl
def oBs (g : List Bool → D) : CallT := fun ds Q => match ds with
  | [.lst es] => (match bools es with | some bs => Q (g bs) | none => False)
  | _ => False
theorem oBs_shape {g : List Bool → D} {ds : List D} {Q : D → Prop} (h : oBs g ds Q) : ∃ bs : List Bool, ds = [.lst (bs.map D.bl)] ∧ Q (g bs) := by
  unfold oBs at h
  split at h
  · split at h
    · rename_i e
      exact ⟨_, by rw [bools_of e], h⟩
    · exact h.elim
  · exact h.elim
theorem oBs_mono (g : List Bool → D) : ∀ ds (Q Q' : D → Prop), (∀ d, Q d → Q' d) → oBs g ds Q → oBs g ds Q' := fun ds Q Q' hq h => by
  obtain ⟨bs, rfl, q⟩ := oBs_shape h
  unfold oBs
  simp only [bools_map]
  exact hq _ q
abbrev oAll : CallT := oBs fun bs => .bl (bs.all id)
abbrev oAny : CallT := oBs fun bs => .bl (bs.any id)
section
variable {X : Cx}
theorem cd_all (hc : X.calm = true) : CallD X (.builtin "all") oAll where
  ok := ⟨_, cr_all hc, fun B n H ds vs Q hB r h => by
    obtain ⟨bs, rfl, q⟩ := oBs_shape h
    obtain ⟨v, rfl, rv⟩ := reps1 r
    obtain ⟨a, ws, rfl, u, rr⟩ := rv
    rw [reps_bools rr] at u
    exact ⟨a, bs, rfl, .inl (.inl (hide_grow _ _ u)), q _ H Step.refl rfl⟩⟩
  mono := oBs_mono _
theorem cd_any (hc : X.calm = true) : CallD X (.builtin "any") oAny where
  ok := ⟨_, cr_any hc, fun B n H ds vs Q hB r h => by
    obtain ⟨bs, rfl, q⟩ := oBs_shape h
    obtain ⟨v, rfl, rv⟩ := reps1 r
    obtain ⟨a, ws, rfl, u, rr⟩ := rv
    rw [reps_bools rr] at u
    exact ⟨a, bs, rfl, .inl (.inl (hide_grow _ _ u)), q _ H Step.refl rfl⟩⟩
  mono := oBs_mono _
end
/-! numbers handed in -/
def o1I (g : Int → D) : CallT := fun ds Q => match ds with | [.int i] => Q (g i) | _ => False
def o2I (g : Int → Int → D) : CallT := fun ds Q => match ds with | [.int i, .int j] => Q (g i j) | _ => False
theorem o1I_shape {g : Int → D} {ds : List D} {Q : D → Prop} (h : o1I g ds Q) : ∃ i, ds = [.int i] ∧ Q (g i) := by
  unfold o1I at h; split at h
  · exact ⟨_, rfl, h⟩
  · exact h.elim
theorem o2I_shape {g : Int → Int → D} {ds : List D} {Q : D → Prop} (h : o2I g ds Q) : ∃ i j, ds = [.int i, .int j] ∧ Q (g i j) := by
  unfold o2I at h; split at h
  · exact ⟨_, _, rfl, h⟩
  · exact h.elim
/-- int(n), int(flag) -/
def oInt : CallT := fun ds Q => match ds with | [.int i] => Q (.int i) | [.bl b] => Q (.int (if b then 1 else 0)) | _ => False
theorem oInt_shape {ds : List D} {Q : D → Prop} (h : oInt ds Q) : (∃ i, ds = [.int i] ∧ Q (.int i)) ∨ ∃ b, ds = [.bl b] ∧ Q (.int (if b then 1 else 0)) := by
  unfold oInt at h; split at h
  · exact .inl ⟨_, rfl, h⟩
  · exact .inr ⟨_, rfl, h⟩
  · exact h.elim
section
variable {X : Cx}
theorem cd_abs : CallD X (.builtin "abs") (o1I fun i => .int (i.natAbs : Int)) where
  ok := ⟨_, call_abs, fun B n H ds vs Q hB r h => by
    obtain ⟨i, rfl, q⟩ := o1I_shape h
    obtain ⟨v, rfl, rv⟩ := reps1 r
    refine ⟨i, by rw [show v = .int i from rv], q _ H Step.refl ?_⟩
    show V.int _ = V.int _
    congr 1
    split <;> omega⟩
  mono := fun ds Q Q' hq h => by obtain ⟨i, rfl, q⟩ := o1I_shape h; exact hq _ q
theorem cd_max2 (hc : X.calm = true) : CallD X (.builtin "max") (o2I fun i j => .int (if j > i then j else i)) where
  ok := ⟨_, call_max2 hc, fun B n H ds vs Q hB r h => by
    obtain ⟨i, j, rfl, q⟩ := o2I_shape h
    obtain ⟨v, w, rfl, rv, rw'⟩ := reps2 r
    exact ⟨i, j, by rw [show v = .int i from rv, show w = .int j from rw'], q _ H Step.refl rfl⟩⟩
  mono := fun ds Q Q' hq h => by obtain ⟨i, j, rfl, q⟩ := o2I_shape h; exact hq _ q
theorem cd_min2 (hc : X.calm = true) : CallD X (.builtin "min") (o2I fun i j => .int (if j < i then j else i)) where
  ok := ⟨_, call_min2 hc, fun B n H ds vs Q hB r h => by
    obtain ⟨i, j, rfl, q⟩ := o2I_shape h
    obtain ⟨v, w, rfl, rv, rw'⟩ := reps2 r
    exact ⟨i, j, by rw [show v = .int i from rv, show w = .int j from rw'], q _ H Step.refl rfl⟩⟩
  mono := fun ds Q Q' hq h => by obtain ⟨i, j, rfl, q⟩ := o2I_shape h; exact hq _ q
theorem cd_gcd : CallD X (.builtin "math.gcd") (o2I fun i j => .int (Nat.gcd i.natAbs j.natAbs : Nat)) where
  ok := ⟨_, cr_gcd, fun B n H ds vs Q hB r h => by
    obtain ⟨i, j, rfl, q⟩ := o2I_shape h
    obtain ⟨v, w, rfl, rv, rw'⟩ := reps2 r
    exact ⟨i, j, by rw [show v = .int i from rv, show w = .int j from rw'], q _ H Step.refl rfl⟩⟩
  mono := fun ds Q Q' hq h => by obtain ⟨i, j, rfl, q⟩ := o2I_shape h; exact hq _ q
theorem cd_int : CallD X (.type "int") oInt where
  ok := ⟨_, call_int1, fun B n H ds vs Q hB r h => by
    rcases oInt_shape h with ⟨i, rfl, q⟩ | ⟨b, rfl, q⟩
    · obtain ⟨v, rfl, rv⟩ := reps1 r
      exact .inl ⟨i, by rw [show v = .int i from rv], q _ H Step.refl rfl⟩
    · obtain ⟨v, rfl, rv⟩ := reps1 r
      exact .inr ⟨b, by rw [show v = .bl b from rv], q _ H Step.refl rfl⟩⟩
  mono := fun ds Q Q' hq h => by
    rcases oInt_shape h with ⟨i, rfl, q⟩ | ⟨b, rfl, q⟩
    · exact hq _ q
    · exact hq _ q
/-- sum of a list of numbers -/
def oInts : List D → Option (List Int)
  | [] => some []
  | .int b :: ds => (oInts ds).map (b :: ·)
  | _ :: _ => none
theorem oInts_map (bs : List Int) : oInts (bs.map D.int) = some bs := by
  induction bs with
  | nil => rfl
  | cons b bs ih => show (oInts (bs.map D.int)).map (b :: ·) = _; rw [ih]; rfl
theorem oInts_of : ∀ {ds : List D} {bs : List Int}, oInts ds = some bs → ds = bs.map D.int
  | [], bs, h => by cases h; rfl
  | d :: ds, bs, h => by
    cases d with
    | int b =>
      unfold oInts at h
      cases e : oInts ds with
      | none => rw [e] at h; cases h
      | some cs => rw [e] at h; cases h; rw [oInts_of e]; rfl
    | _ => cases h
def oNs (C : List Int → Prop) (g : List Int → D → Prop) : CallT := fun ds Q => match ds with
  | [.lst es] => (match oInts es with | some bs => C bs ∧ ∀ d, g bs d → Q d | none => False)
  | _ => False
theorem oNs_shape {C : List Int → Prop} {g : List Int → D → Prop} {ds : List D} {Q : D → Prop} (h : oNs C g ds Q) : ∃ bs : List Int, ds = [.lst (bs.map D.int)] ∧ C bs ∧ ∀ d, g bs d → Q d := by
  unfold oNs at h
  split at h
  · split at h
    · rename_i e
      exact ⟨_, by rw [oInts_of e], h⟩
    · exact h.elim
  · exact h.elim
theorem oNs_mono (C : List Int → Prop) (g : List Int → D → Prop) : ∀ ds (Q Q' : D → Prop), (∀ d, Q d → Q' d) → oNs C g ds Q → oNs C g ds Q' := fun ds Q Q' hq h => by
  obtain ⟨bs, rfl, c, q⟩ := oNs_shape h
  unfold oNs
  simp only [oInts_map]
  exact ⟨c, fun d g => hq _ (q d g)⟩
theorem cd_sum (hc : X.calm = true) : CallD X (.builtin "sum") (oNs (fun _ => True) fun bs d => d = .int bs.sum) where
  ok := ⟨_, cr_sum hc, fun B n H ds vs Q hB r h => by
    obtain ⟨bs, rfl, _, q⟩ := oNs_shape h
    obtain ⟨v, rfl, rv⟩ := reps1 r
    obtain ⟨a, ws, rfl, u, rr⟩ := rv
    rw [reps_ints rr] at u
    exact ⟨a, bs, rfl, .inl (.inl (hide_grow _ _ u)), q _ rfl _ H Step.refl rfl⟩⟩
  mono := oNs_mono _ _
theorem cd_maxL (hc : X.calm = true) : CallD X (.builtin "max") (oNs (fun bs => 0 < bs.length) fun bs d => ∃ m, d = .int m ∧ m ∈ bs ∧ ∀ y ∈ bs, y ≤ m) where
  ok := ⟨_, cr_max hc, fun B n H ds vs Q hB r h => by
    obtain ⟨bs, rfl, c, q⟩ := oNs_shape h
    obtain ⟨v, rfl, rv⟩ := reps1 r
    obtain ⟨a, ws, rfl, u, rr⟩ := rv
    rw [reps_ints rr] at u
    exact ⟨a, bs, rfl, .inl (.inl (hide_grow _ _ u)), c, fun m h1 h2 => q _ ⟨m, rfl, h1, h2⟩ _ H Step.refl rfl⟩⟩
  mono := oNs_mono _ _
theorem cd_minL (hc : X.calm = true) : CallD X (.builtin "min") (oNs (fun bs => 0 < bs.length) fun bs d => ∃ m, d = .int m ∧ m ∈ bs ∧ ∀ y ∈ bs, m ≤ y) where
  ok := ⟨_, cr_min hc, fun B n H ds vs Q hB r h => by
    obtain ⟨bs, rfl, c, q⟩ := oNs_shape h
    obtain ⟨v, rfl, rv⟩ := reps1 r
    obtain ⟨a, ws, rfl, u, rr⟩ := rv
    rw [reps_ints rr] at u
    exact ⟨a, bs, rfl, .inl (.inl (hide_grow _ _ u)), c, fun m h1 h2 => q _ ⟨m, rfl, h1, h2⟩ _ H Step.refl rfl⟩⟩
  mono := oNs_mono _ _
end

/-! ### subscripts, slices -/
def oIx : OpT := fun a b Q => match a.seq, b with
  | some ds, .int i => (match atI ds i with | some d => Q d | none => False)
  | _, _ => False
theorem oIx_shape {a b : D} {Q : D → Prop} (h : oIx a b Q) : ∃ ds i d, a.seq = some ds ∧ b = .int i ∧ atI ds i = some d ∧ Q d := by
  unfold oIx at h
  split at h
  · split at h
    · exact ⟨_, _, _, by assumption, rfl, by assumption, h⟩
    · exact h.elim
  · exact h.elim
theorem atI_reps {K : PySem.W.Frag} {n : Nat} {H : Hp} {ds : List D} {vs : List V} {i : Int} {d : D} (r : reps K n H ds vs) (h : atI ds i = some d) : ∃ v, atI vs i = some v ∧ rep K n H d v := by
  unfold atI at h ⊢
  rw [reps_len r]
  cases e : ixN ds.length i with
  | none => rw [e] at h; cases h
  | some j =>
    rw [e] at h
    exact reps_get r h
def dIx (ma mb : WE) : WE := dOp oIx ma mb
theorem oIx_mono : ∀ a b (Q Q' : D → Prop), (∀ d, Q d → Q' d) → oIx a b Q → oIx a b Q' := fun a b Q Q' hq h => by
  obtain ⟨ds, i, d, e1, rfl, e2, q⟩ := oIx_shape h
  unfold oIx
  simp only [e1, e2]
  exact hq _ q
section
variable {X : Cx} {E : XK} {pos p2 : Pos} {a b : Expr} {ma mb : WE}
theorem de_ix (h1 : DE X E a ma) (h2 : DE X E b mb) (hs : PlainIx b := by intro _ _; rfl) : DE X E (.Subscript a b pos) (dIx ma mb) := by
  refine ⟨mono_op oIx_mono h1.mono h2.mono, (pe_ix (ix_list.or ix_tup) h1.pe h2.pe hs).imp (op_imp (f := getItem) h1 h2 (fun B n H a b x y Q hB ra rb h => ?_) oIx_mono)⟩
  obtain ⟨ds, i, d, e1, rfl, e2, q⟩ := oIx_shape h
  obtain ⟨p, vs, rfl, s, r⟩ := rep_seq e1 ra
  obtain ⟨v, e3, rv⟩ := atI_reps r e2
  rcases s with s | s
  · exact .inl ⟨p, vs, i, v, rfl, rb, s, e3, q v H Step.refl rv⟩
  · exact .inr ⟨p, vs, i, v, rfl, rb, s, e3, q v H Step.refl rv⟩
/-- a part of a slice -/
abbrev WO := List Ent → Nat → (Option Int → Nat → Prop) → EK → Prop
def dNoPart : WO := fun _ n Q _ => Q none n
def dPart (m : WE) : WO := fun ρ n Q E => m ρ n (fun d k => match d with | .int i => Q (some i) k | _ => False) E
def tDO (K : PySem.W.Frag) (E : XK) (m : WO) : TO := fun σ H Q => ∃ A ρ n, RE K A ρ n σ H ∧ m ρ n (fun o k => ∀ H', Step K (A ++ own ρ) n H k H' → Q o H') (eP K E (A ++ own ρ) n H)
structure DO (X : Cx) (E : XK) (e : Option Expr) (m : WO) : Prop where
  mono : Mono m
  po : PO X e (tDO X.K E m)
theorem do_none : DO X E none dNoPart := by
  refine ⟨fun ρ n Q Q' E E' hq he h => hq _ _ h, ⟨fun pins s σ H Q I h => po_none.run pins s σ H Q I ?_⟩⟩
  obtain ⟨A, ρ, n, R, z⟩ := h
  exact z H Step.refl
theorem do_some {e : Expr} {m : WE} (h : DE X E e m) : DO X E (some e) (dPart m) := by
  refine ⟨fun ρ n Q Q' E E' hq he z => h.mono ρ n _ _ _ _ (fun d k z => ?_) he z, ⟨fun pins s σ H Q I z => (po_some h.pe).run pins s σ H Q I ?_⟩⟩
  · cases d with
    | int i => exact hq _ _ z
    | _ => exact z.elim
  · obtain ⟨A, ρ, n, R, z⟩ := z
    refine tD.run' h.mono R z (fun _ _ z => z) fun d k v H1 s r q => ?_
    cases d with
    | int i => exact ⟨i, r, q H1 s⟩
    | _ => exact q.elim
/-- the items from lo to hi -/
def cutD (xs : List D) (lo hi : Option Int) : List D := (xs.drop (HT.sIx xs.length 0 lo)).take (HT.sIx xs.length xs.length hi - HT.sIx xs.length 0 lo)
def oSl (a : D) (lo hi : Option Int) (Q : D → Prop) : Prop := match a with
  | .tup ds => Q (.tup (cutD ds lo hi))
  | .lst ds => Q (.lst (cutD ds lo hi))
  | _ => False
def dSl (m : WE) (l h : WO) : WE := fun ρ n Q E => m ρ n (fun a k => l ρ k (fun lo j => h ρ j (fun hi i => oSl a lo hi fun d => Q d i) E) E) E
theorem oSl_mono {a : D} {lo hi : Option Int} {Q Q' : D → Prop} (hq : ∀ d, Q d → Q' d) (h : oSl a lo hi Q) : oSl a lo hi Q' := by
  cases a <;> first | exact hq _ h | exact h.elim
theorem tDO.run' {K : PySem.W.Frag} {E : XK} {A : List Addr} {ρ : List Ent} {n : Nat} {σ : L2.St} {H : Hp} {m : WO} {Q : Option Int → Hp → Prop} {Qd : Option Int → Nat → Prop} {Ed : EK} (M : Mono m) (R : RE K A ρ n σ H) (h : m ρ n Qd Ed) (he : ∀ x j, Ed x j → eP K E (A ++ own ρ) n H x j)
    (q : ∀ b k H', Step K (A ++ own ρ) n H k H' → Qd b k → Q b H') : tDO K E m σ H Q :=
  ⟨A, ρ, n, R, M ρ n _ _ _ _ (fun d k hd H' s => q d k H' s hd) he h⟩
theorem cut_reps {K : PySem.W.Frag} {n : Nat} {H : Hp} {ds : List D} {vs : List V} (lo hi : Option Int) (r : reps K n H ds vs) : reps K n H (cutD ds lo hi) (cutV vs lo hi) := by
  unfold cutD cutV
  rw [reps_len r]
  exact reps_take _ (reps_drop _ r)
theorem de_slice {lo hi : Option Expr} {m : WE} {l h : WO} (h1 : DE X E a m) (h2 : DO X E lo l) (h3 : DO X E hi h) : DE X E (.Subscript a (.Slice lo hi none p2) pos) (dSl m l h) := by
  refine ⟨fun ρ n Q Q' E E' hq he z => h1.mono ρ n _ _ _ _ (fun a k z => h2.mono ρ k _ _ _ _ (fun b j z => h3.mono ρ j _ _ _ _ (fun c i z => oSl_mono (fun d z => hq _ _ z) z) he z) he z) he z,
    (pe_slice (sl_list.or sl_tupA) h1.pe h2.po h3.po).imp fun σ H Q z => ?_⟩
  obtain ⟨A, ρ, n, R, z⟩ := z
  refine tD.run' h1.mono R z (fun _ _ z => z) fun d k v H1 s r z => ?_
  refine tDO.run' h2.mono (R.step s) z (fun x j z => z.step s) fun lo k2 H2 s2 z => ?_
  refine tDO.run' h3.mono ((R.step s).step s2) z (fun x j z => (z.step s).step s2) fun hi k3 H3 s3 z => ?_
  have R3 := ((R.step s).step s2).step s3
  have st := (s.trans s2).trans s3
  have r3 := (s2.trans s3).rep _ _ r
  cases d with
  | tup ds =>
    obtain ⟨p, vs, rfl, u, rr⟩ := id r3
    refine .inr ⟨p, vs, rfl, (hide_grow.sqU u).t, fun hw => ?_, fun hw q hq => ?_⟩
    · refine z _ H3 st ?_
      have e : cutD ds lo hi = ds := by
        have el := reps_len rr
        rw [el] at hw
        unfold cutD
        rw [hw.1, hw.2, List.drop_zero, Nat.sub_zero, List.take_length]
      rw [e]
      exact r3
    · obtain ⟨s4, r4⟩ := newRep R3.all hq (cut_reps lo hi rr)
      exact z _ _ (st.trans s4) r4
  | lst ds =>
    obtain ⟨p, vs, rfl, u, rr⟩ := id r3
    refine .inl ⟨p, vs, rfl, .inl (.inl (hide_grow _ _ u)), fun q hq => ?_⟩
    obtain ⟨s4, r4⟩ := newLst R3.all hq (cut_reps lo hi rr)
    exact z _ _ (st.trans s4) r4
  | _ => exact z.elim
end

/-! ### + and * of sequences -/
/-- + of tuples; of lists -/
def oCat : OpT := fun a b Q => match a, b with
  | .tup xs, .tup ys => xs.length + ys.length ≤ sizeLine ∧ Q (.tup (xs ++ ys))
  | .lst xs, .lst ys => xs.length + ys.length ≤ sizeLine ∧ Q (.lst (xs ++ ys))
  | _, _ => False
theorem oCat_shape {a b : D} {Q : D → Prop} (h : oCat a b Q) : (∃ xs ys, a = .tup xs ∧ b = .tup ys ∧ xs.length + ys.length ≤ sizeLine ∧ Q (.tup (xs ++ ys))) ∨ ∃ xs ys, a = .lst xs ∧ b = .lst ys ∧ xs.length + ys.length ≤ sizeLine ∧ Q (.lst (xs ++ ys)) := by
  unfold oCat at h
  split at h
  · exact .inl ⟨_, _, rfl, rfl, h.1, h.2⟩
  · exact .inr ⟨_, _, rfl, rfl, h.1, h.2⟩
  · exact h.elim
theorem len_nil {K : PySem.W.Frag} {n : Nat} {H : Hp} {ds : List D} {vs : List V} (r : reps K n H ds vs) : vs = [] ↔ ds = [] := by
  have e := reps_len r
  constructor
  · intro h; rw [h] at e; exact List.eq_nil_of_length_eq_zero e.symm
  · intro h; rw [h] at e; exact List.eq_nil_of_length_eq_zero e
section
variable {X : Cx}
theorem od_cat : OpD X (binaryOp .Add) oCat where
  ok := ⟨_, op_catA.or op_cat, fun B n H a b x y Q hB ra rb h => by
    rcases oCat_shape h with ⟨xs, ys, rfl, rfl, z, q⟩ | ⟨xs, ys, rfl, rfl, z, q⟩
    · obtain ⟨p, vs, rfl, u, rr⟩ := id ra
      obtain ⟨p', vs', rfl, u', rr'⟩ := id rb
      refine .inl ⟨p, p', vs, vs', rfl, rfl, (hide_grow.sqU u).t, (hide_grow.sqU u').t, by rw [reps_len rr, reps_len rr']; exact z, fun e => ?_, fun e e' => ?_, fun e e' t ht => ?_⟩
      · have := (len_nil rr).mp e
        subst this
        exact q _ H Step.refl rb
      · have := (len_nil rr').mp e'
        subst this
        rw [List.append_nil] at q
        exact q _ H Step.refl ra
      · obtain ⟨s, r2⟩ := newRep hB ht (reps_app rr rr')
        exact q _ _ s r2
    · obtain ⟨p, vs, rfl, u, rr⟩ := id ra
      obtain ⟨p', vs', rfl, u', rr'⟩ := id rb
      refine .inr ⟨p, p', vs, vs', rfl, rfl, hide_grow _ _ u, hide_grow _ _ u', by rw [reps_len rr, reps_len rr']; exact z, fun t ht => ?_⟩
      obtain ⟨s, r2⟩ := newLst hB ht (reps_app rr rr')
      exact q _ _ s r2⟩
  mono := fun a b Q Q' hq h => by
    rcases oCat_shape h with ⟨xs, ys, rfl, rfl, z, q⟩ | ⟨xs, ys, rfl, rfl, z, q⟩
    · exact ⟨z, hq _ q⟩
    · exact ⟨z, hq _ q⟩
/-- a list, a tuple times an int -/
def oRep : OpT := fun a b Q => match a, b with
  | .lst xs, .int k => -(2 ^ 63) ≤ k ∧ k < 2 ^ 63 ∧ xs.length * k.toNat ≤ sizeLine ∧ Q (.lst (List.replicate k.toNat xs).flatten)
  | .tup xs, .int k => xs ≠ [] ∧ 2 ≤ k ∧ k ≤ 1000 ∧ xs.length ≤ 1000 ∧ Q (.tup (List.replicate k.toNat xs).flatten)
  | _, _ => False
theorem oRep_shape {a b : D} {Q : D → Prop} (h : oRep a b Q) : (∃ xs k, a = .lst xs ∧ b = .int k ∧ -(2 ^ 63) ≤ k ∧ k < 2 ^ 63 ∧ xs.length * k.toNat ≤ sizeLine ∧ Q (.lst (List.replicate k.toNat xs).flatten)) ∨
    ∃ xs k, a = .tup xs ∧ b = .int k ∧ xs ≠ [] ∧ 2 ≤ k ∧ k ≤ 1000 ∧ xs.length ≤ 1000 ∧ Q (.tup (List.replicate k.toNat xs).flatten) := by
  unfold oRep at h
  split at h
  · exact .inl ⟨_, _, rfl, rfl, h⟩
  · exact .inr ⟨_, _, rfl, rfl, h⟩
  · exact h.elim
theorem reps_flat {K : PySem.W.Frag} {n : Nat} {H : Hp} {ds : List D} {vs : List V} (r : reps K n H ds vs) : ∀ k : Nat, reps K n H (List.replicate k ds).flatten (List.replicate k vs).flatten
  | 0 => rfl
  | k + 1 => by
    rw [List.replicate_succ, List.replicate_succ, List.flatten_cons, List.flatten_cons]
    exact reps_app r (reps_flat r k)
theorem od_rep : OpD X (binaryOp .Mult) oRep where
  ok := ⟨_, op_rep.or op_repT, fun B n H a b x y Q hB ra rb h => by
    rcases oRep_shape h with ⟨xs, k, rfl, rfl, h1, h2, h3, q⟩ | ⟨xs, k, rfl, rfl, h0, h1, h2, h3, q⟩
    · obtain ⟨p, vs, rfl, u, rr⟩ := id ra
      refine .inl ⟨p, k, vs, rfl, rb, hide_grow _ _ u, h1, h2, by rw [reps_len rr]; exact h3, fun t ht => ?_⟩
      obtain ⟨s, r2⟩ := newLst hB ht (reps_flat rr k.toNat)
      exact q _ _ s r2
    · obtain ⟨p, vs, rfl, u, rr⟩ := id ra
      refine .inr ⟨p, k, vs, rfl, rb, (hide_grow.sqU u).t, fun e => h0 ((len_nil rr).mp e), h1, h2, by rw [reps_len rr]; exact h3, fun t ht => ?_⟩
      obtain ⟨s, r2⟩ := newRep hB ht (reps_flat rr k.toNat)
      exact q _ _ s r2⟩
  mono := fun a b Q Q' hq h => by
    rcases oRep_shape h with ⟨xs, k, rfl, rfl, h1, h2, h3, q⟩ | ⟨xs, k, rfl, rfl, h0, h1, h2, h3, q⟩
    · exact ⟨h1, h2, h3, hq _ q⟩
    · exact ⟨h0, h1, h2, h3, hq _ q⟩
end
end DL

set_option Elab.async false
set_option linter.all false
set_option maxRecDepth 100000
set_option maxHeartbeats 4000000
namespace DL
open PySem PySem.Spec PyProof.Rows L2

/-! ### == of data -/
mutual
/-- plain data as the library has it (anything else is a dict, which no rule takes) -/
def D.py : D → PyData
  | .non => .none
  | .bl b => .bool b
  | .int i => .int i
  | .str s => .str s
  | .tup ds => .tuple (D.pys ds)
  | .lst ds => .list (D.pys ds)
  | _ => .dict []
def D.pys : List D → List PyData
  | [] => []
  | d :: ds => D.py d :: D.pys ds
end
/-- plain, and not too deep -/
def Pl (d : D) : Prop := SeqAt.shaped (D.py d) = true
def eqD (a b : D) : Bool := PyData.eqv (D.py a) (D.py b)
def oEq (neg : Bool) : OpT := fun a b Q => Pl a ∧ Pl b ∧ Q (.bl (if neg then !eqD a b else eqD a b))
section
variable {K : PySem.W.Frag} {n : Nat} {H : Hp} {B : List Addr}
mutual
theorem dp_of : ∀ (d : D) (v : V), (D.py d).canLay0 = true → rep K n (hide B H) d v → Dp K H v (D.py d)
  | .non, v, _, r => by rw [show v = .non from r]; exact .non
  | .bl b, v, _, r => by rw [show v = .bl b from r]; exact .bl b
  | .int i, v, _, r => by rw [show v = .int i from r]; exact .int i
  | .str i, v, _, r => by rw [show v = .str i from r]; exact .str i
  | .tup ds, v, c, ⟨a, vs, e, u, r⟩ => by rw [e]; exact .tup ((hide_grow.sqU u).t) (dps_of ds vs (by simpa [D.py, PyData.canLay0] using c) r)
  | .lst ds, v, c, ⟨a, vs, e, u, r⟩ => by rw [e]; exact .lst (.inl (.inl (hide_grow _ _ u))) (dps_of ds vs (by simpa [D.py, PyData.canLay0] using c) r)
  | .dic _ _, v, c, _ => by simp [D.py, PyData.canLay0] at c
  | .obj _ _ _, v, c, _ => by simp [D.py, PyData.canLay0] at c
  | .fn _, v, c, _ => by simp [D.py, PyData.canLay0] at c
  | .ty _, v, c, _ => by simp [D.py, PyData.canLay0] at c
  | .pen _, v, c, _ => by simp [D.py, PyData.canLay0] at c
theorem dps_of : ∀ (ds : List D) (vs : List V), PyData.canLayAll0 (D.pys ds) = true → reps K n (hide B H) ds vs → DpAll K H vs (D.pys ds)
  | [], vs, _, r => by rw [show vs = [] from r]; exact .nil
  | d :: ds, vs, c, ⟨v, w, e, r, rr⟩ => by
    simp only [D.pys, PyData.canLayAll0, Bool.and_eq_true] at c
    rw [e]; exact .cons (dp_of d v c.1 r) (dps_of ds w c.2 rr)
end
end
section
variable {X : Cx}
theorem od_eq (hu : X.A.units + 64 < cLine) : OpD X (compareOp .Eq) (oEq false) where
  ok := ⟨_, op_eqD hu, fun B n H a b x y Q hB ra rb h => by
    obtain ⟨pa, pb, q⟩ := h
    exact ⟨_, _, dp_of a x (SeqAt.canLay_of_shaped pa) ra, dp_of b y (SeqAt.canLay_of_shaped pb) rb, pa, pb, q _ H Step.refl rfl⟩⟩
  mono := fun a b Q Q' hq h => ⟨h.1, h.2.1, hq _ h.2.2⟩
theorem od_ne (hu : X.A.units + 64 < cLine) : OpD X (compareOp .NotEq) (oEq true) where
  ok := ⟨_, op_neD hu, fun B n H a b x y Q hB ra rb h => by
    obtain ⟨pa, pb, q⟩ := h
    exact ⟨_, _, dp_of a x (SeqAt.canLay_of_shaped pa) ra, dp_of b y (SeqAt.canLay_of_shaped pb) rb, pa, pb, q _ H Step.refl rfl⟩⟩
  mono := fun a b Q Q' hq h => ⟨h.1, h.2.1, hq _ h.2.2⟩
end

/-! ### is None -/
def D.isNon : D → Bool
  | .non => true
  | _ => false
theorem isNon_rep {K : PySem.W.Frag} {n : Nat} {H : Hp} {d : D} {v : V} (r : rep K n H d v) : decide (v = .non) = d.isNon := by
  cases d with
  | non => rw [show v = .non from r]; rfl
  | bl b => rw [show v = .bl b from r]; rfl
  | int b => rw [show v = .int b from r]; rfl
  | str b => rw [show v = .str b from r]; rfl
  | tup ds => obtain ⟨a, vs, e, _⟩ := r; rw [e]; rfl
  | lst ds => obtain ⟨a, vs, e, _⟩ := r; rw [e]; rfl
  | dic ks ds => obtain ⟨a, vs, e, _⟩ := r; rw [e]; rfl
  | obj C ks ds => obtain ⟨a, dx, ws, e, _⟩ := r; rw [e]; rfl
  | fn f => rw [show v = .ref f from r]; rfl
  | ty f => rw [show v = .ty f from r]; rfl
  | pen a => rw [show v = .ref a from r.1]; rfl
def dIsN (neg : Bool) (m : WE) : WE := fun ρ n Q E => m ρ n (fun d k => Q (.bl (if neg then !d.isNon else d.isNon)) k) E
section
variable {X : Cx} {E : XK} {pos pos' : Pos} {a : Expr} {m : WE}
theorem mono_isN {neg : Bool} (h : Mono m) : Mono (dIsN neg m) := fun ρ n Q Q' E E' hq he z => h ρ n _ _ _ _ (fun d k z => hq _ _ z) he z
theorem de_isN {j} (h : DE X E a m) : DE X E (.Compare a [.Is] [.Constant .none j pos'] pos) (dIsN false m) := by
  refine ⟨mono_isN h.mono, (pe_cmp (pc_isN h.pe)).imp fun σ H Q z => ?_⟩
  obtain ⟨A, ρ, n, R, z⟩ := z
  refine tD.run' h.mono R z (fun _ _ z => z) fun d k v H1 s r q => ?_
  rw [isNon_rep r]
  exact q _ H1 s rfl
theorem de_notN {j} (h : DE X E a m) : DE X E (.Compare a [.IsNot] [.Constant .none j pos'] pos) (dIsN true m) := by
  refine ⟨mono_isN h.mono, (pe_cmp (pc_notN h.pe)).imp fun σ H Q z => ?_⟩
  obtain ⟨A, ρ, n, R, z⟩ := z
  refine tD.run' h.mono R z (fun _ _ z => z) fun d k v H1 s r q => ?_
  rw [isNon_rep r]
  exact q _ H1 s rfl
theorem dt_isN {j} (h : DE X E a m) : DT X E (.Compare a [.Is] [.Constant .none j pos'] pos) (dTest (dIsN false m)) := by
  refine ⟨mono_test (mono_isN h.mono), (pt_cmp (pc_isN h.pe)).imp fun σ H Q z => ?_⟩
  obtain ⟨A, ρ, n, R, z⟩ := z
  show tD X.K E m σ H fun v H1 => ∃ c, V.bl (decide (v = .non)) = V.bl c ∧ Q c H1
  refine tD.run' h.mono R z (fun _ _ z => z) fun d k v H1 s r q => ⟨_, rfl, ?_⟩
  rw [isNon_rep r]
  exact q H1 s
theorem dt_notN {j} (h : DE X E a m) : DT X E (.Compare a [.IsNot] [.Constant .none j pos'] pos) (dTest (dIsN true m)) := by
  refine ⟨mono_test (mono_isN h.mono), (pt_cmp (pc_notN h.pe)).imp fun σ H Q z => ?_⟩
  obtain ⟨A, ρ, n, R, z⟩ := z
  show tD X.K E m σ H fun v H1 => ∃ c, V.bl (!decide (v = .non)) = V.bl c ∧ Q c H1
  refine tD.run' h.mono R z (fun _ _ z => z) fun d k v H1 s r q => ⟨_, rfl, ?_⟩
  rw [isNon_rep r]
  exact q H1 s
end

/-! ### isinstance -/
/-- the names of the built-in types that data has, and those that are asked for -/
def tyNames : List String := ["NoneType", "bool", "int", "str", "tuple", "list", "dict"]
def tyAsked : List String := ["bool", "int", "str", "tuple", "list", "dict"]
def isB (a b : String) : Bool := a == b || (a == "bool" && b == "int")
theorem kitB_all : ∀ a ∈ tyNames, ∀ b ∈ tyAsked, kitB a b = some (isB a b) := by decide +kernel
/-- what the written part says of the classes of the law -/
structure IsiF (K : PySem.W.Frag) (cls : List Addr) : Prop where
  cl : ∀ C ∈ cls, Cls K C
  ha : ∀ C ∈ cls, PySem.W.findIn K (.ref C) "__class__" = some (some (.builtin "object.__class__"))
  hn : PySem.W.specialIn K (.builtin "object.__class__") "__get__" = some (some (.builtin "getset_descriptor.__get__"))
  ht : PySem.W.takesIn K (.builtin "object.__class__") = some true
  hm : ∀ C ∈ cls, PySem.W.mroIn K C (.type "object") = some true
  oo : ∀ C ∈ cls, ∀ C' ∈ cls, PySem.W.kitOne K (.ref C) (.ref C') = some (decide (C = C'))
  ob : ∀ C ∈ cls, ∀ b ∈ tyAsked, PySem.W.kitOne K (.ref C) (.type b) = some false
  bo : ∀ a ∈ tyNames, ∀ C ∈ cls, PySem.W.kitOne K (.type a) (.ref C) = some false
/-- the type of data: a built-in's name, or a class -/
inductive Ty where
  | b (n : String)
  | c (C : Addr)
def D.type : D → Option Ty
  | .non => some (.b "NoneType")
  | .bl _ => some (.b "bool")
  | .int _ => some (.b "int")
  | .str _ => some (.b "str")
  | .tup _ => some (.b "tuple")
  | .lst _ => some (.b "list")
  | .dic _ _ => some (.b "dict")
  | .obj C _ _ => some (.c C)
  | _ => none
def Ty.val : Ty → Value
  | .b n => .type n
  | .c C => .ref C
def D.asCls : D → Option Ty
  | .ty n => some (.b n)
  | .fn C => some (.c C)
  | _ => none
def isTy : Ty → Ty → Bool
  | .b a, .b b => isB a b
  | .c C, .c C' => decide (C = C')
  | _, _ => false
/-- asked of these -/
def askOk (cls : List Addr) : Ty → Prop
  | .b n => n ∈ tyAsked
  | .c C => C ∈ cls
def hasOk (cls : List Addr) : Ty → Prop
  | .b n => n ∈ tyNames
  | .c C => C ∈ cls
theorem kit_isTy {K : PySem.W.Frag} {cls : List Addr} (F : IsiF K cls) {t u : Ty} (h : hasOk cls t) (h' : askOk cls u) : PySem.W.kitOne K t.val u.val = some (isTy t u) := by
  cases t with
  | b a => cases u with
    | b b => exact kit_ty (kitB_all a h b h')
    | c C => exact F.bo a h C h'
  | c C => cases u with
    | b b => exact F.ob C h b h'
    | c C' => exact F.oo C h C' h'
theorem type_ok {K : PySem.W.Frag} {cls : List Addr} (F : IsiF K cls) {n : Nat} {H : Hp} {B : List Addr} {d : D} {v : V} {t : Ty} (r : rep K n (hide B H) d v) (e : d.type = some t) (hc : ∀ C, t = .c C → C ∈ cls) : TyX K H v t.val ∧ hasOk cls t := by
  cases d with
  | non => cases e; rw [show v = .non from r]; exact ⟨.base .non, by show _ ∈ tyNames; decide⟩
  | bl b => cases e; rw [show v = .bl b from r]; exact ⟨.base (.bl b), by show _ ∈ tyNames; decide⟩
  | int b => cases e; rw [show v = .int b from r]; exact ⟨.base (.int b), by show _ ∈ tyNames; decide⟩
  | str b => cases e; rw [show v = .str b from r]; exact ⟨.base (.str b), by show _ ∈ tyNames; decide⟩
  | tup ds =>
    cases e
    obtain ⟨a, vs, rfl, u, _⟩ := r
    refine ⟨?_, by show _ ∈ tyNames; decide⟩
    rcases u with u | ⟨o, its, m, hk, hcl, _⟩
    · exact .base (.tup (hide_grow _ _ u))
    · exact .kTuple hk hcl
  | lst ds => cases e; obtain ⟨a, vs, rfl, u, _⟩ := r; exact ⟨.base (.lst (hide_grow _ _ u)), by show _ ∈ tyNames; decide⟩
  | dic ks ds => cases e; obtain ⟨a, vs, rfl, u, _⟩ := r; exact ⟨.base (.dK (hide_grow _ _ u)), by show _ ∈ tyNames; decide⟩
  | obj C ks ds =>
    cases e
    obtain ⟨a, dx, ws, rfl, u, _⟩ := r
    have h := hc C rfl
    exact ⟨.base (.ins (hide_grow _ _ u) (F.cl C h) (F.ha C h) F.hn F.ht (F.hm C h)), h⟩
  | _ => cases e
/-- x, one class -/
def oIsi1 (cls : List Addr) : CallT := fun ds Q => match ds with
  | [x, c] => (match x.type, c.asCls with
    | some t, some u => (∀ C, t = .c C → C ∈ cls) ∧ askOk cls u ∧ Q (.bl (isTy t u))
    | _, _ => False)
  | _ => False
theorem oIsi1_shape {cls : List Addr} {ds : List D} {Q : D → Prop} (h : oIsi1 cls ds Q) : ∃ x c t u, ds = [x, c] ∧ x.type = some t ∧ c.asCls = some u ∧ (∀ C, t = .c C → C ∈ cls) ∧ askOk cls u ∧ Q (.bl (isTy t u)) := by
  unfold oIsi1 at h
  split at h
  · split at h
    · exact ⟨_, _, _, _, rfl, by assumption, by assumption, h⟩
    · exact h.elim
  · exact h.elim
theorem asCls_rep {K : PySem.W.Frag} {n : Nat} {H : Hp} {c : D} {u : Ty} {v : V} (e : c.asCls = some u) (r : rep K n H c v) : ClsV v u.val := by
  cases c with
  | fn C => cases e; rw [show v = .ref C from r]; exact .own C
  | ty t => cases e; rw [show v = .ty t from r]; exact .ty t
  | _ => cases e
theorem cd_isi1 {X : Cx} {cls : List Addr} (F : IsiF X.K cls) : CallD X (.builtin "isinstance") (oIsi1 cls) where
  ok := ⟨_, call_isi, fun B n H ds vs Q hB r h => by
    obtain ⟨x, c, t, u, rfl, e1, e2, hc, ho, q⟩ := oIsi1_shape h
    obtain ⟨v, w, rfl, rv, rw'⟩ := reps2 r
    obtain ⟨ty, hh⟩ := type_ok F rv e1 hc
    exact ⟨v, w, t.val, u.val, _, rfl, asCls_rep e2 rw', ty, kit_isTy F hh ho, q _ H Step.refl rfl⟩⟩
  mono := fun ds Q Q' hq h => by
    obtain ⟨x, c, t, u, rfl, e1, e2, hc, ho, q⟩ := oIsi1_shape h
    unfold oIsi1
    simp only [e1, e2]
    exact ⟨hc, ho, hq _ q⟩
/-- x, a written tuple of classes -/
def clss : List D → Option (List Ty)
  | [] => some []
  | c :: cs => (match c.asCls, clss cs with
    | some u, some us => some (u :: us)
    | _, _ => none)
def oIsiT (cls : List Addr) : CallT := fun ds Q => match ds with
  | [x, .tup cs] => (match x.type, clss cs with
    | some t, some us => (∀ C, t = .c C → C ∈ cls) ∧ (∀ u ∈ us, askOk cls u) ∧ Q (.bl (us.any (isTy t)))
    | _, _ => False)
  | _ => False
theorem oIsiT_shape {cls : List Addr} {ds : List D} {Q : D → Prop} (h : oIsiT cls ds Q) : ∃ x cs t us, ds = [x, .tup cs] ∧ x.type = some t ∧ clss cs = some us ∧ (∀ C, t = .c C → C ∈ cls) ∧ (∀ u ∈ us, askOk cls u) ∧ Q (.bl (us.any (isTy t))) := by
  unfold oIsiT at h
  split at h
  · split at h
    · exact ⟨_, _, _, _, rfl, by assumption, by assumption, h⟩
    · exact h.elim
  · exact h.elim
theorem clss_rep {K : PySem.W.Frag} {n : Nat} {H : Hp} : ∀ {cs : List D} {us : List Ty} {vs : List V}, clss cs = some us → reps K n H cs vs → Paired ClsV vs (us.map Ty.val)
  | [], us, vs, e, r => by cases e; rw [show vs = [] from r]; exact .nil
  | c :: cs, us, vs, e, ⟨v, w, ev, r, rr⟩ => by
    unfold clss at e
    split at e
    · cases e
      rw [ev]
      exact .cons (asCls_rep (by assumption) r) (clss_rep (by assumption) rr)
    · cases e
theorem kitAny_isTy {K : PySem.W.Frag} {cls : List Addr} (F : IsiF K cls) {t : Ty} (h : hasOk cls t) : ∀ (us : List Ty), (∀ u ∈ us, askOk cls u) → PySem.W.kitAny K t.val (us.map Ty.val) = some (us.any (isTy t))
  | [], _ => rfl
  | u :: us, ha => by
    rw [List.map_cons, List.any_cons]
    refine kitAny_cons (kit_isTy F h (ha u List.mem_cons_self)) (fun e => ?_) (fun e => ?_)
    · rw [e, Bool.false_or]; exact kitAny_isTy F h us fun z hz => ha z (List.mem_cons_of_mem _ hz)
    · rw [e, Bool.true_or]
/-- the tuple of classes is laid anew: it is tracked -/
def rIsiU (K : PySem.W.Frag) : List V → Hp → VK → Prop := fun xs H Q => rIsiT K xs H Q
theorem cd_isiT {X : Cx} {cls : List Addr} (F : IsiF X.K cls) : CallD X (.builtin "isinstance") (oIsiT cls) where
  ok := ⟨_, call_isiT.or call_isiK, fun B n H ds vs Q hB r h => by
    obtain ⟨x, cs, t, us, rfl, e1, e2, hc, ho, q⟩ := oIsiT_shape h
    obtain ⟨v, w, rfl, rv, rw'⟩ := reps2 r
    obtain ⟨ty, hh⟩ := type_ok F rv e1 hc
    obtain ⟨a, ws, rfl, u, rr⟩ := rw'
    rcases u with u | ⟨o, its, m, hk, hcl, hd, hz, hv⟩
    · exact .inl ⟨v, a, ws, t.val, _, _, rfl, hide_grow _ _ u, clss_rep e2 rr, ty, kitAny_isTy F hh us ho, q _ H Step.refl rfl⟩
    · have e3 := ClsV.all (clss_rep e2 rr) hv
      obtain ⟨oc, od, dt, sl⟩ := o
      simp only at hcl hd
      subst hcl hd
      have e4 : its = (us.map Ty.val).toArray := by rw [← e3]
      rw [e4] at hk
      exact .inr ⟨v, a, od, us.map Ty.val, m, sl, t.val, _, rfl, hk, ty, kitAny_isTy F hh us ho, q _ H Step.refl rfl⟩⟩
  mono := fun ds Q Q' hq h => by
    obtain ⟨x, c, t, u, rfl, e1, e2, hc, ho, q⟩ := oIsiT_shape h
    unfold oIsiT
    simp only [e1, e2]
    exact ⟨hc, ho, hq _ q⟩

/-! ### attributes -/
theorem lookup_hd (f g : Str) (y : V) (fs : List (Str × V)) : ((f, y) :: fs).lookup g = if g = f then some y else fs.lookup g := by
  by_cases h : g = f
  · subst h
    simp [List.lookup]
  · have e : (g == f) = false := by simpa using h
    rw [if_neg h]
    simp [List.lookup, e]
/-- the field's data -/
def fieldD (f : Str) : List Str → List D → Option D
  | k :: ks, d :: ds => if f = k then some d else fieldD f ks ds
  | _, _ => none
theorem field_rep {K : PySem.W.Frag} {n : Nat} {H : Hp} {f : Str} : ∀ {ks : List Str} {ds : List D} {ws : List (Str × V)} {d : D}, ws.map (·.1) = ks → reps K n H ds (ws.map (·.2)) → fieldD f ks ds = some d → ∃ v, ws.lookup f = some v ∧ rep K n H d v
  | [], ds, ws, d, _, _, e => by cases ds <;> cases e
  | k :: ks, [], ws, d, _, _, e => by cases e
  | k :: ks, d' :: ds, [], d, e1, _, _ => by cases e1
  | k :: ks, d' :: ds, (k', v) :: ws, d, e1, ⟨v', r', ev, r, rr⟩, e => by
    injection e1 with e1 e2
    have e1 : k' = k := e1
    subst e1
    injection ev with ev1 ev2
    have ev1 : v = v' := ev1
    subst ev1
    unfold fieldD at e
    rw [lookup_hd]
    by_cases h : f = k'
    · rw [if_pos h] at e ⊢; cases e; exact ⟨v, rfl, r⟩
    · rw [if_neg h] at e ⊢
      exact field_rep e2 (by rw [ev2]; exact rr) e
def dFld (C : Addr) (f : Str) (m : WE) : WE := fun ρ n Q E => m ρ n (fun d k => match d with
  | .obj C' ks ds => C' = C ∧ (match fieldD f ks ds with | some d => Q d k | none => False)
  | _ => False) E
theorem de_fld {X : Cx} {E : XK} {pos : Pos} {e : Expr} {f : Str} {C : Addr} {m : WE} (h : DE X E e m) (cl : Cls X.K C) (nf : NoAttr X.K C f) (hb : attributeBase e f X.env (eval e X.env) = eval e X.env := by rfl) : DE X E (.Attribute e f pos) (dFld C f m) := by
  refine ⟨fun ρ n Q Q' E E' hq he z => h.mono ρ n _ _ _ _ (fun d k z => ?_) he z, (pe_fld h.pe hb).imp fun σ H Q z => ?_⟩
  · cases d with
    | obj C' ks ds =>
      obtain ⟨e1, z⟩ := z
      refine ⟨e1, ?_⟩
      cases e2 : fieldD f ks ds with
      | none => rw [e2] at z; exact z.elim
      | some d => rw [e2] at z; exact hq _ _ z
    | _ => exact z.elim
  · obtain ⟨A, ρ, n, R, z⟩ := z
    refine tD.run' h.mono R z (fun _ _ z => z) fun d k v H1 s r q => ?_
    cases d with
    | obj C' ks ds =>
      obtain ⟨e1, q⟩ := q
      subst e1
      cases e2 : fieldD f ks ds with
      | none => rw [e2] at q; exact q.elim
      | some d =>
        rw [e2] at q
        obtain ⟨a, dx, ws, rfl, u, ek, rr⟩ := r
        obtain ⟨w, l, rw'⟩ := field_rep ek rr e2
        exact ⟨a, C', dx, ws, w, rfl, hide_grow _ _ u, cl, nf, l, q w H1 s rw'⟩
    | _ => exact q.elim
end DL

set_option Elab.async false
set_option linter.all false
set_option maxRecDepth 100000
set_option maxHeartbeats 4000000
namespace DL
open PySem PySem.Spec PyProof.Rows L2

/-! ### statements -/
structure DEn where
  nx : List Ent → Nat → Prop
  rt : D → Nat → Prop
  bk : List Ent → Nat → Prop
  ct : List Ent → Nat → Prop
  ex : EK
structure DEn.Le (D D' : DEn) : Prop where
  nx : ∀ ρ n, D.nx ρ n → D'.nx ρ n
  rt : ∀ d n, D.rt d n → D'.rt d n
  bk : ∀ ρ n, D.bk ρ n → D'.bk ρ n
  ct : ∀ ρ n, D.ct ρ n → D'.ct ρ n
  ex : ∀ x n, D.ex x n → D'.ex x n
abbrev WS := List Ent → Nat → DEn → Prop
def MonoS (m : WS) : Prop := ∀ ρ n (D D' : DEn), D.Le D' → m ρ n D → m ρ n D'
/-- from one state to another; A: hidden from without -/
structure Mv (K : PySem.W.Frag) (A B : List Addr) (n : Nat) (H : Hp) (B' : List Addr) (k : Nat) (H' : Hp) : Prop where
  le : n ≤ k
  rep : ∀ d v, rep K n (hide B H) d v → rep K k (hide B' H') d v
  same : ∀ a ∈ A, H' a = H a
section
variable {K : PySem.W.Frag} {A B B1 B2 : List Addr} {n k j : Nat} {H H1 H2 : Hp}
theorem Mv.refl : Mv K A B n H B n H := ⟨Nat.le_refl _, fun _ _ h => h, fun _ _ => rfl⟩
theorem Mv.trans (s : Mv K A B n H B1 k H1) (t : Mv K A B1 k H1 B2 j H2) : Mv K A B n H B2 j H2 := ⟨Nat.le_trans s.le t.le, fun d v h => t.rep d v (s.rep d v h), fun a h => (t.same a h).trans (s.same a h)⟩
theorem Step.mv (s : Step K B n H k H1) (h : ∀ a ∈ A, a ∈ B) : Mv K A B n H B k H1 := ⟨s.le, s.rep, fun a ha => s.same a (h a ha)⟩
theorem rep_grow (g : Grow H H1) {d : D} {v : V} (h : rep K n H d v) : rep K n H1 d v := rep_tr (g.tr (Nat.le_refl _)) d v h
theorem Mv.less (h : ∀ a ∈ B1, a ∈ B) : Mv K A B n H B1 n H := ⟨Nat.le_refl _, fun d v r => rep_grow (hide_sub h) r, fun _ _ => rfl⟩
theorem memA {ρ : List Ent} : ∀ a ∈ A, a ∈ A ++ own ρ := fun a h => List.mem_append_left _ h
theorem xrep_grow (g : Grow H H1) {x : Ex} {dx : Addr} (h : xrep K n H x dx) : xrep K n H1 x dx := by
  obtain ⟨ws, e, q, r⟩ := h
  exact ⟨ws, g _ _ e, q, reps_tr (g.tr (Nat.le_refl _)) _ _ r⟩
end
/-- the ends over data, as the readings over the heap want them -/
def dEnds (K : PySem.W.Frag) (E : XK) (A B : List Addr) (n : Nat) (H : Hp) (D : Ends) : DEn where
  nx := fun ρ k => ∀ σ' H', RE K A ρ k σ' H' → Mv K A B n H (A ++ own ρ) k H' → D.nx σ' H'
  rt := fun d k => ∀ v H', Mv K A B n H A k H' → rep K k (hide A H') d v → D.rt v H'
  bk := fun ρ k => ∀ σ' H', RE K A ρ k σ' H' → Mv K A B n H (A ++ own ρ) k H' → D.bk σ' H'
  ct := fun ρ k => ∀ σ' H', RE K A ρ k σ' H' → Mv K A B n H (A ++ own ρ) k H' → D.ct σ' H'
  ex := fun x k => ∀ dx H', Mv K A B n H A k H' → xrep K k (hide A H') x dx → E (.ref x.C) (some dx) H'
def tS (K : PySem.W.Frag) (E : XK) (m : WS) : TS := fun D σ H => ∃ A ρ n, RE K A ρ n σ H ∧ m ρ n (dEnds K E A (A ++ own ρ) n H D)
structure DS (X : Cx) (E : XK) (st : Stmt) (m : WS) : Prop where
  mono : MonoS m
  ps : PS X st (tS X.K E m)
structure DSs (X : Cx) (E : XK) (sts : List Stmt) (m : WS) : Prop where
  mono : MonoS m
  ps : PSs X sts (tS X.K E m)
theorem _root_.L2.PS.imp {X : Cx} {e : Stmt} {t t' : TS} (h : PS X e t) (i : ∀ D σ H, t' D σ H → t D σ H) : PS X e t' := ⟨fun pins s σ H Q I q => h.run pins s σ H Q I (i Q σ H q)⟩
theorem _root_.L2.PSs.imp {X : Cx} {e : List Stmt} {t t' : TS} (h : PSs X e t) (i : ∀ D σ H, t' D σ H → t D σ H) : PSs X e t' := ⟨fun pins s σ H Q I q => h.run pins s σ H Q I (i Q σ H q)⟩
section
variable {K : PySem.W.Frag} {E : XK} {A B B1 : List Addr} {n k : Nat} {H H1 : Hp} {D : Ends}
theorem dEnds.mv (m : Mv K A B n H B1 k H1) : (dEnds K E A B n H D).Le (dEnds K E A B1 k H1 D) where
  nx := fun ρ j h σ' H' R m' => h σ' H' R (m.trans m')
  rt := fun d j h v H' m' r => h v H' (m.trans m') r
  bk := fun ρ j h σ' H' R m' => h σ' H' R (m.trans m')
  ct := fun ρ j h σ' H' R m' => h σ' H' R (m.trans m')
  ex := fun x j h dx H' m' r => h dx H' (m.trans m') r
theorem DEn.Le.refl {D : DEn} : D.Le D := ⟨fun _ _ h => h, fun _ _ h => h, fun _ _ h => h, fun _ _ h => h, fun _ _ h => h⟩
theorem DEn.Le.trans {D D' D'' : DEn} (a : D.Le D') (b : D'.Le D'') : D.Le D'' := ⟨fun _ _ h => b.nx _ _ (a.nx _ _ h), fun _ _ h => b.rt _ _ (a.rt _ _ h), fun _ _ h => b.bk _ _ (a.bk _ _ h), fun _ _ h => b.ct _ _ (a.ct _ _ h), fun _ _ h => b.ex _ _ (a.ex _ _ h)⟩
/-- an exception within an expression -/
theorem ex_eP {ρ : List Ent} (x : Ex) (j : Nat) (h : (dEnds K E A (A ++ own ρ) n H D).ex x j) : eP K E (A ++ own ρ) n H x j := fun dx H' s r =>
  h dx H' ((s.mv memA).trans (Mv.less memA)) (xrep_grow (hide_sub memA) r)
end
/-- run an expression from a statement -/
theorem tD.st {X : Cx} {E : XK} {m : WE} {A : List Addr} {ρ : List Ent} {n : Nat} {σ : L2.St} {H : Hp} {D : Ends} {Q : VK} {Qd : DK} (M : Mono m) (R : RE X.K A ρ n σ H) (h : m ρ n Qd (dEnds X.K E A (A ++ own ρ) n H D).ex)
    (q : ∀ d k v H', Step X.K (A ++ own ρ) n H k H' → RE X.K A ρ k σ H' → rep X.K k (hide (A ++ own ρ) H') d v → Qd d k → Q v H') : tD X.K E m σ H Q :=
  tD.run' M R h (fun x j z => ex_eP x j z) fun d k v H' s r z => q d k v H' s (R.step s) r z

section
variable {X : Cx} {E : XK} {st : Stmt} {sts rest : List Stmt} {t u : WS} {e : Expr} {m : WE} {pos : Pos}
def sNext : WS := fun ρ n D => D.nx ρ n
def sSeq (t u : WS) : WS := fun ρ n D => t ρ n { D with nx := fun ρ' k => u ρ' k D }
theorem mono_seq (h1 : MonoS t) (h2 : MonoS u) : MonoS (sSeq t u) := fun ρ n D D' le h => h1 ρ n { D with nx := fun ρ' k => u ρ' k D } { D' with nx := fun ρ' k => u ρ' k D' } ⟨fun ρ' k z => h2 ρ' k _ _ le z, le.rt, le.bk, le.ct, le.ex⟩ h
theorem dss_nil : DSs X E [] sNext := ⟨fun ρ n D D' le h => le.nx _ _ h, pss_nil.imp fun D σ H z => by
  obtain ⟨A, ρ, n, R, z⟩ := z
  exact z σ H R Mv.refl⟩
theorem tS_seq {K : PySem.W.Frag} {D : Ends} {σ : L2.St} {H : Hp} (h1 : MonoS t) (h2 : MonoS u) (z : tS K E (sSeq t u) D σ H) : tSeq (tS K E t) (tS K E u) D σ H := by
  obtain ⟨A, ρ, n, R, z⟩ := z
  refine ⟨A, ρ, n, R, h1 ρ n { dEnds K E A (A ++ own ρ) n H D with nx := fun ρ' k => u ρ' k (dEnds K E A (A ++ own ρ) n H D) } _ ⟨fun ρ' k z σ' H' R' m => ?_, fun _ _ z => z, fun _ _ z => z, fun _ _ z => z, fun _ _ z => z⟩ z⟩
  exact ⟨A, ρ', k, R', h2 ρ' k _ _ (dEnds.mv m) z⟩
theorem dss_cons (h1 : DS X E st t) (h2 : DSs X E rest u) : DSs X E (st :: rest) (sSeq t u) :=
  ⟨mono_seq h1.mono h2.mono, (pss_cons h1.ps h2.ps).imp fun D σ H z => tS_seq h1.mono h2.mono z⟩
theorem dss_one (h : DS X E st t) : DSs X E [st] t := ⟨h.mono, pss_one h.ps⟩
theorem ds_pass : DS X E (.Pass pos) sNext := ⟨fun ρ n D D' le h => le.nx _ _ h, ps_pass.imp fun D σ H z => by
  obtain ⟨A, ρ, n, R, z⟩ := z
  exact z σ H R Mv.refl⟩
def sBreak : WS := fun ρ n D => D.bk ρ n
def sCont : WS := fun ρ n D => D.ct ρ n
theorem ds_break : DS X E (.Break pos) sBreak := ⟨fun ρ n D D' le h => le.bk _ _ h, ps_break.imp fun D σ H z => by
  obtain ⟨A, ρ, n, R, z⟩ := z
  exact z σ H R Mv.refl⟩
theorem ds_cont : DS X E (.Continue pos) sCont := ⟨fun ρ n D D' le h => le.ct _ _ h, ps_continue.imp fun D σ H z => by
  obtain ⟨A, ρ, n, R, z⟩ := z
  exact z σ H R Mv.refl⟩
/-- never reached -/
def sNever : WS := fun _ _ _ => False
theorem ds_never : DS X E st sNever := ⟨fun _ _ _ _ _ h => h, ps_never.imp fun D σ H z => by obtain ⟨_, _, _, _, z⟩ := z; exact z⟩
def sRet (m : WE) : WS := fun ρ n D => m ρ n D.rt D.ex
theorem ds_ret (h : DE X E e m) : DS X E (.Return (some e) pos) (sRet m) := by
  refine ⟨fun ρ n D D' le z => h.mono ρ n _ _ _ _ le.rt le.ex z, (ps_ret h.pe).imp fun D σ H z => ?_⟩
  obtain ⟨A, ρ, n, R, z⟩ := z
  refine tD.st (D := D) h.mono R z fun d k v H' s R' r q => ?_
  exact q v H' ((s.mv memA).trans (Mv.less memA)) (rep_grow (hide_sub memA) r)
def sRetN : WS := fun ρ n D => D.rt .non n
theorem ds_retN : DS X E (.Return none pos) sRetN := ⟨fun ρ n D D' le h => le.rt _ _ h, ps_retN.imp fun D σ H z => by
  obtain ⟨A, ρ, n, R, z⟩ := z
  exact z .non H (Mv.less memA) rfl⟩
def sDrop (m : WE) : WS := fun ρ n D => m ρ n (fun _ k => D.nx ρ k) D.ex
theorem ds_expr (h : DE X E e m) (hs : swapsWith e none pos.line X.env = pure false := by rfl) : DS X E (.Expr e pos) (sDrop m) := by
  refine ⟨fun ρ n D D' le z => h.mono ρ n _ _ _ _ (fun _ k z => le.nx _ _ z) le.ex z, (ps_expr h.pe hs).imp fun D σ H z => ?_⟩
  obtain ⟨A, ρ, n, R, z⟩ := z
  exact tD.st (D := D) h.mono R z fun d k v H' s R' r q => q σ H' R' (s.mv memA)
def sIf (c : WT) (t u : WS) : WS := fun ρ n D => c ρ n (fun b k => if b = true then t ρ k D else u ρ k D) D.ex
theorem ds_if {c : Expr} {a b : List Stmt} {tc : WT} (hc : DT X E c tc) (ha : DSs X E a t) (hb : DSs X E b u) : DS X E (.If c a b pos) (sIf tc t u) := by
  refine ⟨fun ρ n D D' le z => hc.mono ρ n _ _ _ _ (fun b k z => ite_mono (fun z => ha.mono ρ k _ _ le z) (fun z => hb.mono ρ k _ _ le z) z) le.ex z, (ps_if hc.pt ha.ps hb.ps).imp fun D σ H z => ?_⟩
  obtain ⟨A, ρ, n, R, z⟩ := z
  refine tDT.run' hc.mono R z (fun x j z => ex_eP x j z) fun c k H' s q => ?_
  have R' := R.step s
  cases c with
  | true => exact ⟨A, ρ, k, R', ha.mono ρ k _ _ (dEnds.mv (s.mv memA)) q⟩
  | false => exact ⟨A, ρ, k, R', hb.mono ρ k _ _ (dEnds.mv (s.mv memA)) q⟩
end

/-! ### names that are stored -/
theorem own_set_sub : ∀ {ρ : List Ent} {i : Nat} {e : Ent}, e.adr = [] → (own (ρ.set i e)).Sublist (own ρ)
  | [], i, e, h => by rw [show ([] : List Ent).set i e = [] from rfl]; exact List.Sublist.refl _
  | x :: ρ, 0, e, h => by
    show (own (e :: ρ)).Sublist (own (x :: ρ))
    unfold own
    rw [List.flatMap_cons, List.flatMap_cons, h, List.nil_append]
    exact List.sublist_append_right _ _
  | x :: ρ, i + 1, e, h => by
    show (own (x :: ρ.set i e)).Sublist (own (x :: ρ))
    unfold own
    rw [List.flatMap_cons, List.flatMap_cons]
    exact List.Sublist.append (List.Sublist.refl _) (own_set_sub h)
theorem EntOk.less {K : PySem.W.Frag} {B B' : List Addr} {n : Nat} {H : Hp} {e : Ent} {o : Option (Option V)} (h : ∀ a ∈ B', a ∈ B) (q : EntOk K B n H e o) : EntOk K B' n H e o := by
  have go : ∀ (t : OT) (v : V), repO K B n H t v → repO K B' n H t v := by
    have both : (∀ (t : OT) (v : V), repO K B n H t v → repO K B' n H t v) ∧ ∀ (ts : List OT) (vs : List V), repOs K B n H ts vs → repOs K B' n H ts vs := by
      have key : ∀ m, (∀ (t : OT), sizeOf t < m → ∀ (v : V), repO K B n H t v → repO K B' n H t v) ∧ ∀ (ts : List OT), sizeOf ts < m → ∀ (vs : List V), repOs K B n H ts vs → repOs K B' n H ts vs := by
        intro m
        induction m with
        | zero => exact ⟨fun t h => absurd h (Nat.not_lt_zero _), fun t h => absurd h (Nat.not_lt_zero _)⟩
        | succ m ih =>
          refine ⟨fun t hm v r => ?_, fun ts hm vs r => ?_⟩
          · cases t with
            | leaf d => exact rep_grow (hide_sub h) r
            | node a ts =>
              obtain ⟨e, vs, hh, rr⟩ := r
              refine ⟨e, vs, hh, ih.2 ts ?_ vs rr⟩
              simp only [OT.node.sizeOf_spec] at hm
              omega
          · cases ts with
            | nil => exact r
            | cons t ts =>
              obtain ⟨v, w, e, r1, r2⟩ := r
              simp only [List.cons.sizeOf_spec] at hm
              exact ⟨v, w, e, ih.1 t (by omega) v r1, ih.2 ts (by omega) w r2⟩
      exact ⟨fun t => (key (sizeOf t + 1)).1 t (Nat.lt_succ_self _), fun ts => (key (sizeOf ts + 1)).2 ts (Nat.lt_succ_self _)⟩
    exact both.1
  cases e with
  | no => trivial
  | sh d => obtain ⟨v, e, r⟩ := q; exact ⟨v, e, rep_grow (hide_sub h) r⟩
  | ow t => obtain ⟨v, e, r⟩ := q; exact ⟨v, e, go t v r⟩
  | slf a C ks ds => obtain ⟨dx, ws, e1, e2, e3, r⟩ := q; exact ⟨dx, ws, e1, e2, e3, reps_tr ((hide_sub h).tr (Nat.le_refl _)) _ _ r⟩
section
variable {K : PySem.W.Frag} {A : List Addr} {ρ : List Ent} {n : Nat} {σ : L2.St} {H : Hp}
theorem RE.set (R : RE K A ρ n σ H) {d : D} {v : V} (i : Nat) (r : rep K n (hide (A ++ own ρ) H) d v) : RE K A (ρ.set i (.sh d)) n (σ.set i (some v)) H ∧ Mv K A (A ++ own ρ) n H (A ++ own (ρ.set i (.sh d))) n H := by
  have sub : (own (ρ.set i (.sh d))).Sublist (own ρ) := own_set_sub rfl
  have hs : ∀ a ∈ A ++ own (ρ.set i (.sh d)), a ∈ A ++ own ρ := fun a h => (List.mem_append.mp h).elim (fun h => List.mem_append_left _ h) fun h => List.mem_append_right _ (sub.mem h)
  refine ⟨⟨fun j e h => ?_, R.nd.sublist sub, fun a ha => R.ap a (sub.mem ha), R.al, by rw [List.length_set, List.length_set]; exact R.ln⟩, Mv.less hs⟩
  by_cases hj : i = j
  · subst hj
    by_cases hi : i < ρ.length
    · rw [List.getElem?_set_self hi] at h
      cases h
      exact ⟨v, List.getElem?_set_self (Nat.lt_of_lt_of_le hi R.ln), rep_grow (hide_sub hs) r⟩
    · rw [List.getElem?_eq_none (by simpa using hi)] at h
      cases h
  · rw [List.getElem?_set_ne hj] at h ⊢
    exact (R.sl j e h).less hs
theorem RE.forget (R : RE K A ρ n σ H) (i : Nat) (v : Option V) : RE K A (ρ.set i .no) n (σ.set i v) H ∧ Mv K A (A ++ own ρ) n H (A ++ own (ρ.set i .no)) n H := by
  have sub : (own (ρ.set i .no)).Sublist (own ρ) := own_set_sub rfl
  have hs : ∀ a ∈ A ++ own (ρ.set i .no), a ∈ A ++ own ρ := fun a h => (List.mem_append.mp h).elim (fun h => List.mem_append_left _ h) fun h => List.mem_append_right _ (sub.mem h)
  refine ⟨⟨fun j e h => ?_, R.nd.sublist sub, fun a ha => R.ap a (sub.mem ha), R.al, by rw [List.length_set, List.length_set]; exact R.ln⟩, Mv.less hs⟩
  by_cases hj : i = j
  · subst hj
    by_cases hi : i < ρ.length
    · rw [List.getElem?_set_self hi] at h
      cases h
      exact True.intro
    · rw [List.getElem?_eq_none (by simpa using hi)] at h
      cases h
  · rw [List.getElem?_set_ne hj] at h ⊢
    exact (R.sl j e h).less hs
end
/-- targets: a name, a tuple of names -/
inductive Tgt where
  | nm (i : Nat)
  | tp (is : List Nat)
def setAll {α : Type} (f : α → Ent) : List Nat → List α → List Ent → Option (List Ent)
  | [], [], ρ => some ρ
  | i :: is, d :: ds, ρ => setAll f is ds (ρ.set i (f d))
  | _, _, _ => none
def asg (t : Tgt) (d : D) (ρ : List Ent) : Option (List Ent) := match t with
  | .nm i => some (ρ.set i (.sh d))
  | .tp is => (match d with
    | .tup ds => setAll Ent.sh is ds ρ
    | _ => none)
def setV : List Nat → List V → L2.St → L2.St
  | i :: is, v :: vs, σ => setV is vs (σ.set i (some v))
  | _, _, σ => σ
def Tgt.slots : Tgt → List Nat
  | .nm i => [i]
  | .tp is => is
/-- what the target does to the slots -/
def gT (K : PySem.W.Frag) (t : Tgt) : TG := fun v σ H Q => match t with
  | .nm i => Q (σ.set i (some v)) H
  | .tp is => ∃ a xs, v = .ref a ∧ SqT K H a xs ∧ xs.length = is.length ∧ Q (setV is xs σ) H
structure DG (X : Cx) (tg : Expr) (t : Tgt) : Prop where
  pg : PG X tg (gT X.K t)
  lt : ∀ i ∈ t.slots, i < X.N.length
theorem setV_len : ∀ (is : List Nat) (vs : List V) (σ : L2.St), (setV is vs σ).length = σ.length
  | [], _, σ => rfl
  | i :: is, [], σ => rfl
  | i :: is, v :: vs, σ => by rw [setV, setV_len is vs, List.length_set]
theorem RE.setAll {K : PySem.W.Frag} {A : List Addr} {n : Nat} {H : Hp} : ∀ {is : List Nat} {ds : List D} {vs : List V} {ρ ρ' : List Ent} {σ : L2.St}, RE K A ρ n σ H → reps K n (hide (A ++ own ρ) H) ds vs → setAll Ent.sh is ds ρ = some ρ' →
    RE K A ρ' n (setV is vs σ) H ∧ Mv K A (A ++ own ρ) n H (A ++ own ρ') n H
  | [], [], vs, ρ, ρ', σ, R, r, e => by cases e; exact ⟨R, Mv.refl⟩
  | [], d :: ds, vs, ρ, ρ', σ, R, r, e => by cases e
  | i :: is, [], vs, ρ, ρ', σ, R, r, e => by cases e
  | i :: is, d :: ds, vs, ρ, ρ', σ, R, ⟨v, w, ev, r, rr⟩, e => by
    subst ev
    obtain ⟨R1, m1⟩ := R.set i r
    have rr' : reps K n (hide (A ++ own (ρ.set i (.sh d))) H) ds w := by
      have gg : ∀ {es : List D} {us : List V}, reps K n (hide (A ++ own ρ) H) es us → reps K n (hide (A ++ own (ρ.set i (.sh d))) H) es us := by
        intro es
        induction es with
        | nil => intro us h; exact h
        | cons e es ih => intro us h; obtain ⟨a, b, c, d1, d2⟩ := h; exact ⟨a, b, c, m1.rep _ _ d1, ih d2⟩
      exact gg rr
    obtain ⟨R2, m2⟩ := RE.setAll R1 rr' e
    exact ⟨R2, m1.trans m2⟩
/-- the target's reading, from data -/
theorem gT_of {K : PySem.W.Frag} {A : List Addr} {ρ ρ' : List Ent} {n : Nat} {σ : L2.St} {H : Hp} {t : Tgt} {d : D} {v : V} {Q : L2.St → Hp → Prop} (R : RE K A ρ n σ H) (r : rep K n (hide (A ++ own ρ) H) d v) (e : asg t d ρ = some ρ')
    (q : ∀ σ', RE K A ρ' n σ' H → Mv K A (A ++ own ρ) n H (A ++ own ρ') n H → σ'.length = σ.length → Q σ' H) : gT K t v σ H Q := by
  cases t with
  | nm i =>
    cases e
    obtain ⟨R1, m1⟩ := R.set i r
    exact q _ R1 m1 (List.length_set ..)
  | tp is =>
    unfold asg at e
    cases d with
    | tup ds =>
      obtain ⟨a, vs, rfl, u, rr⟩ := r
      obtain ⟨R1, m1⟩ := RE.setAll R rr e
      refine ⟨a, vs, rfl, (hide_grow.sqU u).t, ?_, q _ R1 m1 (setV_len ..)⟩
      have key : ∀ (is : List Nat) (ds : List D) (ρ ρ' : List Ent), DL.setAll Ent.sh is ds ρ = some ρ' → ds.length = is.length := by
        intro is
        induction is with
        | nil => intro ds ρ ρ' e; cases ds with | nil => rfl | cons _ _ => cases e
        | cons i is ih => intro ds ρ ρ' e; cases ds with | nil => cases e | cons d ds => rw [List.length_cons, List.length_cons, ih ds _ _ e]
      rw [reps_len rr]
      exact key _ _ _ _ e
    | _ => cases e
section
variable {X : Cx} {pos : Pos} {E : XK}
theorem dg_name (i : Nat) {x : Str} (hN : X.N.Nodup) (hi : X.N[i]? = some x := by rfl) (hx : Loc X.env.scope x := by first | exact Or.inl rfl | exact Or.inr rfl) (hf : X.fn x = true ∨ X.env.scope.names.lookup x = some .local := by first | exact .inl rfl | exact .inr rfl) : DG X (.Name x pos) (.nm i) :=
  ⟨pg_name hN hi hx hf, fun j hj => by
    have : j = i := by simpa [Tgt.slots] using hj
    subst this
    exact (List.getElem?_eq_some_iff.mp hi).1⟩
theorem _root_.L2.PG.imp {X : Cx} {e : Expr} {t t' : TG} (h : PG X e t) (i : ∀ v σ H Q, t' v σ H Q → t v σ H Q) : PG X e t' := ⟨fun pins s σ H v u Q I r q => h.run pins s σ H v u Q I r (i v σ H Q q)⟩
/-- the slots of a tuple of names -/
inductive PGn (X : Cx) : List Expr → List Nat → TGs → Prop where
  | nil : PGn X [] [] gNil
  | cons {e : Expr} {es : List Expr} {i : Nat} {is : List Nat} {g : TGs} (h1 : PG X e (gName i)) (hi : i < X.N.length) (h2 : PGn X es is g) (hs : (assignEach (e :: es) X.env).map (·.2) = assign e X.env :: (assignEach es X.env).map (·.2)) : PGn X (e :: es) (i :: is) (gCons (gName i) g)
theorem PGn.pgs {es : List Expr} {is : List Nat} {g : TGs} (h : PGn X es is g) : PGs X es g ∧ (∀ i ∈ is, i < X.N.length) ∧ ∀ vs σ H Q, vs.length = is.length → Q (setV is vs σ) H → g vs σ H Q := by
  induction h with
  | nil => exact ⟨pgs_nil, fun i h => (nomatch h), fun vs σ H Q hl q => ⟨List.eq_nil_of_length_eq_zero hl, by rw [List.eq_nil_of_length_eq_zero hl] at q; exact q⟩⟩
  | cons h1 hi h2 hs ih =>
    refine ⟨pgs_cons h1 ih.1 hs, fun i h => (List.mem_cons.mp h).elim (fun e => e ▸ hi) (ih.2.1 i), fun vs σ H Q hl q => ?_⟩
    cases vs with
    | nil => cases hl
    | cons v vs => exact ⟨v, vs, rfl, ih.2.2 vs _ H Q (Nat.succ.inj hl) q⟩
theorem pgn_cons (i : Nat) {x : Str} {es : List Expr} {is : List Nat} {g : TGs} (hN : X.N.Nodup) (h2 : PGn X es is g) (hi : X.N[i]? = some x := by rfl) (hx : Loc X.env.scope x := by first | exact Or.inl rfl | exact Or.inr rfl) (hf : X.fn x = true ∨ X.env.scope.names.lookup x = some .local := by first | exact .inl rfl | exact .inr rfl)
    (hs : (assignEach (.Name x pos :: es) X.env).map (·.2) = assign (.Name x pos) X.env :: (assignEach es X.env).map (·.2) := by rfl) : PGn X (.Name x pos :: es) (i :: is) (gCons (gName i) g) :=
  .cons (pg_name hN hi hx hf) (List.getElem?_eq_some_iff.mp hi).1 h2 hs
theorem dg_tup {es : List Expr} {k : Nat} {is : List Nat} {g : TGs} (hc : X.calm = true) (h : PGn X es is g) (hn : (assignEach es X.env).length = is.length := by rfl) (hst : (assignEach es X.env).findIdx? (·.1) = none := by rfl) : DG X (.Tuple es k pos) (.tp is) := by
  obtain ⟨h1, h2, h3⟩ := h.pgs
  refine ⟨(pg_tup hc h1 hn hst).imp fun v σ H Q z => ?_, h2⟩
  obtain ⟨a, xs, e, s, l, q⟩ := z
  exact ⟨a, xs, e, s, l, h3 xs σ H Q l q⟩
/-- target = e -/
def sAsg (t : Tgt) (m : WE) : WS := fun ρ n D => m ρ n (fun d k => match asg t d ρ with | some ρ' => D.nx ρ' k | none => False) D.ex
theorem mono_asg {t : Tgt} {m : WE} (h : Mono m) : MonoS (sAsg t m) := fun ρ n D D' le z => h ρ n _ _ _ _ (fun d k z => by
  cases e : asg t d ρ with
  | none => rw [e] at z; exact z.elim
  | some ρ' => rw [e] at z; exact le.nx _ _ z) le.ex z
end
/-- the slots are as many as the names -/
theorem inv_len {X : Cx} {st : Stmt} {t : TS} (h : PS X st t) {t' : TS} (i : ∀ D σ H, σ.length = X.N.length → t' D σ H → t D σ H) : PS X st t' := ⟨fun pins s σ H Q I q => h.run pins s σ H Q I (i Q σ H I.len q)⟩
section
variable {X : Cx} {pos : Pos} {E : XK}
theorem ds_asg {tg e : Expr} {t : Tgt} {m : WE} (hg : DG X tg t) (h : DE X E e m) (hs : swapsWithSole [tg] e pos.line X.env = pure false := by rfl) (hw : swappedStores [tg] e X.env = pure none := by rfl)
    (h1 : (assignEach [tg] X.env).map (·.2) = [assign tg X.env] := by rfl) : DS X E (.Assign [tg] e pos) (sAsg t m) := by
  refine ⟨mono_asg h.mono, (ps_asg h.pe hg.pg hs hw h1).imp fun D σ H z => ?_⟩
  obtain ⟨A, ρ, n, R, z⟩ := z
  refine tD.st (D := D) h.mono R z fun d k v H' s R' r q => ?_
  cases e2 : asg t d ρ with
  | none => rw [e2] at q; exact q.elim
  | some ρ' =>
    rw [e2] at q
    exact gT_of R' r e2 fun σ' R2 m2 _ => q σ' H' R2 ((s.mv memA).trans m2)
/-- name = e -/
theorem ds_set (i : Nat) {x : Str} {e : Expr} {m : WE} {pos' : Pos} (hN : X.N.Nodup) (h : DE X E e m) (hi : X.N[i]? = some x := by rfl) (hx : Loc X.env.scope x := by first | exact Or.inl rfl | exact Or.inr rfl) (hs : swapsWith e (some (.Name x pos')) pos.line X.env = pure false := by rfl) (hf : X.fn x = true ∨ X.env.scope.names.lookup x = some .local := by first | exact .inl rfl | exact .inr rfl) :
    DS X E (.Assign [.Name x pos'] e pos) (sAsg (.nm i) m) := by
  refine ⟨mono_asg h.mono, (ps_set (i := i) hN hi hx h.pe hs hf).imp fun D σ H z => ?_⟩
  obtain ⟨A, ρ, n, R, z⟩ := z
  refine tD.st (D := D) h.mono R z fun d k v H' s R' r q => ?_
  obtain ⟨R2, m2⟩ := R'.set i r
  exact q _ H' R2 ((s.mv memA).trans m2)
/-- a, b = x, y: two names -/
def sPar (i j : Nat) (m : WA) : WS := fun ρ n D => m ρ n (fun ds k => match ds with | [a, b] => D.nx ((ρ.set i (.sh a)).set j (.sh b)) k | _ => False) D.ex
theorem ds_par (i j : Nat) {x y : Str} {a b : Expr} {m : WA} {px py pt : Pos} {kt k2 pt2} (hc : X.calm = true) (hN : X.N.Nodup) (ha : DA X E [a, b] m) (hi : X.N[i]? = some x := by rfl) (hj : X.N[j]? = some y := by rfl) (hij : i ≠ j := by decide)
    (hx : X.env.scope.names.lookup x = some .local := by rfl) (hy : X.env.scope.names.lookup y = some .local := by rfl)
    (hw : swappedStores [.Tuple [.Name x px, .Name y py] kt pt] (.Tuple [a, b] k2 pt2) X.env = pure (some [x, y]) := by rfl)
    (hs : swapsWithSole [.Tuple [.Name x px, .Name y py] kt pt] (.Tuple [a, b] k2 pt2) pos.line X.env = pure false := by rfl) :
    DS X E (.Assign [.Tuple [.Name x px, .Name y py] kt pt] (.Tuple [a, b] k2 pt2) pos) (sPar i j m) := by
  refine ⟨fun ρ n D D' le z => ha.mono ρ n _ _ _ _ (fun ds k z => ?_) le.ex z, (ps_par hc hN hi hj hij hx hy ha.pa hw hs).imp fun D σ H z => ?_⟩
  · split at z
    · exact le.nx _ _ z
    · exact z.elim
  · obtain ⟨A, ρ, n, R, z⟩ := z
    refine tDA.run' ha.mono R z (fun x j z => ex_eP x j z) fun ds k vs H' s r q => ?_
    split at q
    · obtain ⟨v, w, rfl, r1, r2⟩ := reps2 r
      obtain ⟨R2, m2⟩ := (R.step s).set i r1
      obtain ⟨R3, m3⟩ := R2.set j (m2.rep _ _ r2)
      exact ⟨v, w, rfl, q _ H' R3 ((s.mv memA).trans (m2.trans m3))⟩
    · exact q.elim
/-- x op= e, by an operator of values -/
structure IpD (X : Cx) (o : Operator) (op : OpT) : Prop where
  ok : ∃ t, PIp X o t ∧ ∀ (B : List Addr) (n : Nat) (H : Hp) (a b : D) (x y : V) (Q : VK), (∀ c ∈ B, H c ≠ none) → rep X.K n (hide B H) a x → rep X.K n (hide B H) b y → op a b (After X.K B n H Q) → t x y H Q
  mono : ∀ a b (Q Q' : D → Prop), (∀ d, Q d → Q' d) → op a b Q → op a b Q'
def sAug (i : Nat) (op : OpT) (m : WE) : WS := fun ρ n D => entD ρ[i]? fun a => m ρ n (fun b k => op a b fun d => D.nx (ρ.set i (.sh d)) k) D.ex
theorem ds_aug (i : Nat) {x : Str} {e : Expr} {o : Operator} {op : OpT} {m : WE} {pos' : Pos} (hN : X.N.Nodup) (ho : IpD X o op) (h : DE X E e m) (hi : X.N[i]? = some x := by rfl) (hx : Loc X.env.scope x := by first | exact Or.inl rfl | exact Or.inr rfl) (hf : X.fn x = true ∨ X.env.scope.names.lookup x = some .local := by first | exact .inl rfl | exact .inr rfl) :
    DS X E (.AugAssign (.Name x pos') o e pos) (sAug i op m) := by
  obtain ⟨t, tp, ht⟩ := ho.ok
  refine ⟨fun ρ n D D' le z => entD_mono (fun a z => h.mono ρ n _ _ _ _ (fun b k z => ho.mono _ _ _ _ (fun d z => le.nx _ _ z) z) le.ex z) z, (ps_aug hN hi hx h.pe tp hf).imp fun D σ H z => ?_⟩
  obtain ⟨A, ρ, n, R, z⟩ := z
  obtain ⟨a, ea, z⟩ := entD_some z
  obtain ⟨v, ev, rv⟩ := R.sl i _ ea
  refine ⟨v, ev, tD.st (D := D) h.mono R z fun b k w H' s R' r q => ?_⟩
  refine ht _ k H' a b v w _ R'.all (s.rep _ _ rv) r (ho.mono _ _ _ _ (fun d q u H2 s2 r2 => ?_) q)
  obtain ⟨R2, m2⟩ := (R'.step s2).set i r2
  exact q _ H2 R2 (((s.trans s2).mv memA).trans m2)
theorem ip_of_ints {o : Operator} {g : Int → Int → Int} (h : PIp X o (ipI g)) : IpD X o (oI0 fun i j => .int (g i j)) where
  ok := ⟨_, h, fun B n H a b x y Q hB ra rb z => by
    obtain ⟨i, j, rfl, rfl, q⟩ := oI0_shape z
    exact ⟨i, j, ra, rb, q _ H Step.refl rfl⟩⟩
  mono := fun a b Q Q' hq h => by
    obtain ⟨i, j, rfl, rfl, q⟩ := oI0_shape h
    exact hq _ q
theorem id_add : IpD X .Add oAdd := ip_of_ints ip_add
theorem id_sub : IpD X .Sub oSub := ip_of_ints ip_sub
end

/-! ### while -/
def sWhile (c : WT) (tb : WS) : WS := fun ρ n D => ∃ W : Nat → List Ent → Nat → Prop, (∃ m, W m ρ n) ∧ ∀ m ρ n, W m ρ n →
  c ρ n (fun b k => if b = true then tb ρ k { D with nx := fun ρ' j => ∃ m', m' < m ∧ W m' ρ' j, ct := fun ρ' j => ∃ m', m' < m ∧ W m' ρ' j, bk := D.nx } else D.nx ρ k) D.ex
theorem ds_while {X : Cx} {pos : Pos} {E : XK} {c : Expr} {body : List Stmt} {tc : WT} {tb : WS} (hp : PassesOwn (model X.prog X.w) X.A X.env X.xe) (hc : DT X E c tc) (hb : DSs X E body tb) : DS X E (.While c body [] pos) (sWhile tc tb) := by
  refine ⟨fun ρ n D D' le z => ?_, (ps_while hp hc.pt hb.ps).imp fun D σ H z => ?_⟩
  · obtain ⟨W, h0, h1⟩ := z
    exact ⟨W, h0, fun m ρ n w => hc.mono ρ n _ _ _ _ (fun b k z => ite_mono (fun z => hb.mono ρ k { D with nx := fun ρ' j => ∃ m', m' < m ∧ W m' ρ' j, ct := fun ρ' j => ∃ m', m' < m ∧ W m' ρ' j, bk := D.nx } { D' with nx := fun ρ' j => ∃ m', m' < m ∧ W m' ρ' j, ct := fun ρ' j => ∃ m', m' < m ∧ W m' ρ' j, bk := D'.nx } ⟨fun _ _ z => z, le.rt, le.nx, fun _ _ z => z, le.ex⟩ z) (fun z => le.nx _ _ z) z) le.ex (h1 m ρ n w)⟩
  · obtain ⟨A, ρ₀, n₀, R₀, W, ⟨m₀, w₀⟩, h1⟩ := z
    refine ⟨fun m σ' H' => ∃ ρ k, RE X.K A ρ k σ' H' ∧ Mv X.K A (A ++ own ρ₀) n₀ H (A ++ own ρ) k H' ∧ W m ρ k, ⟨m₀, ρ₀, n₀, R₀, Mv.refl, w₀⟩, ?_⟩
    rintro m σ' H' ⟨ρ, k, R, mv, w⟩
    refine tDT.run' hc.mono R (h1 m ρ k w) (fun x j z => ex_eP (D := D) x j ((dEnds.mv mv).ex x j z)) fun c j H2 s q => ?_
    have R2 := R.step s
    have mv2 := mv.trans (s.mv memA)
    cases c with
    | true =>
      refine ⟨fun σ3 H3 => ∃ m', m' < m ∧ ∃ ρ k, RE X.K A ρ k σ3 H3 ∧ Mv X.K A (A ++ own ρ₀) n₀ H (A ++ own ρ) k H3 ∧ W m' ρ k, fun _ _ z => z, ?_⟩
      refine ⟨A, ρ, j, R2, hb.mono ρ j _ _ ⟨?_, ?_, ?_, ?_, ?_⟩ q⟩
      · rintro ρ' i ⟨m', hm, w'⟩ σ3 H3 R3 m3
        exact ⟨m', hm, ρ', i, R3, mv2.trans m3, w'⟩
      · exact (dEnds.mv (E := E) (D := D) mv2).rt
      · intro ρ' i z σ3 H3 R3 m3
        exact z σ3 H3 R3 (mv2.trans m3)
      · rintro ρ' i ⟨m', hm, w'⟩ σ3 H3 R3 m3
        exact ⟨m', hm, ρ', i, R3, mv2.trans m3, w'⟩
      · exact (dEnds.mv (E := E) (D := D) mv2).ex
    | false => exact q σ' H2 R2 mv2
end DL

set_option Elab.async false
set_option linter.all false
set_option maxRecDepth 100000
set_option maxHeartbeats 4000000
namespace DL
open PySem PySem.Spec PyProof.Rows L2

/-! ### what is walked -/
/-- the walk J gives these items, while the data src stands -/
structure WD (K : PySem.W.Frag) (J : It) (ds : List D) (src : List (D × V)) : Prop where
  go : ∀ i B n H, i < ds.length → (∀ p ∈ src, rep K n (hide B H) p.1 p.2) → J.go i H
  stop : ∀ B n H, (∀ p ∈ src, rep K n (hide B H) p.1 p.2) → J.stop ds.length H
  yld : ∀ i B n H x H', (∀ b ∈ B, H b ≠ none) → i < ds.length → (∀ p ∈ src, rep K n (hide B H) p.1 p.2) → J.yld i H x H' → Step K B n H n H' ∧ ∃ d, ds[i]? = some d ∧ rep K n (hide B H') d x
  len : ds.length ≤ sizeLine
abbrev WI := List Ent → Nat → (List D → Nat → Prop) → EK → Prop
def iD (K : PySem.W.Frag) (E : XK) (m : WI) : TI := fun σ H R => ∃ A ρ n, RE K A ρ n σ H ∧
  m ρ n (fun ds k => ∀ J H' src, Step K (A ++ own ρ) n H k H' → WD K J ds src → (∀ p ∈ src, rep K k (hide (A ++ own ρ) H') p.1 p.2) → R J H') (eP K E (A ++ own ρ) n H)
structure DI (X : Cx) (E : XK) (tg iter : Expr) (m : WI) : Prop where
  mono : Mono m
  pi : PI X tg iter (iD X.K E m)
section
variable {K : PySem.W.Frag}
theorem rep_lst {n : Nat} {H : Hp} {B : List Addr} {ds : List D} {a : Addr} (h : rep K n (hide B H) (.lst ds) (.ref a)) : ∃ vs, SqL K H a vs ∧ reps K n (hide B H) ds vs := by
  obtain ⟨b, vs, e, u, r⟩ := h
  injection e with e
  subst e
  exact ⟨vs, .inl (.inl (hide_grow _ _ u)), r⟩
theorem rep_tup {n : Nat} {H : Hp} {B : List Addr} {ds : List D} {a : Addr} (h : rep K n (hide B H) (.tup ds) (.ref a)) : ∃ vs, SqT K H a vs ∧ reps K n (hide B H) ds vs := by
  obtain ⟨b, vs, e, u, r⟩ := h
  injection e with e
  subst e
  exact ⟨vs, (hide_grow.sqU u).t, r⟩
theorem wd_list {ds : List D} {a : Addr} (hz : ds.length ≤ sizeLine) : WD K (Itl K a) ds [(.lst ds, .ref a)] where
  len := hz
  go := fun i B n H hi h => by
    obtain ⟨vs, s, r⟩ := rep_lst (h _ List.mem_cons_self)
    exact ⟨vs, vs[i]'(by rw [reps_len r]; exact hi), s, List.getElem?_eq_getElem _⟩
  stop := fun B n H h => by
    obtain ⟨vs, s, r⟩ := rep_lst (h _ List.mem_cons_self)
    exact ⟨vs, s, Nat.le_of_eq (reps_len r)⟩
  yld := fun i B n H x H' hB hi h y => by
    obtain ⟨vs, s, r⟩ := rep_lst (h _ List.mem_cons_self)
    obtain ⟨rfl, q⟩ := y
    exact ⟨Step.refl, reps_get' r (q vs s)⟩
theorem wd_tup {ds : List D} {a : Addr} (hz : ds.length ≤ sizeLine) : WD K (Itt K a) ds [(.tup ds, .ref a)] where
  len := hz
  go := fun i B n H hi h => by
    obtain ⟨vs, s, r⟩ := rep_tup (h _ List.mem_cons_self)
    exact ⟨vs, vs[i]'(by rw [reps_len r]; exact hi), s, List.getElem?_eq_getElem _⟩
  stop := fun B n H h => by
    obtain ⟨vs, s, r⟩ := rep_tup (h _ List.mem_cons_self)
    exact ⟨vs, s, Nat.le_of_eq (reps_len r)⟩
  yld := fun i B n H x H' hB hi h y => by
    obtain ⟨vs, s, r⟩ := rep_tup (h _ List.mem_cons_self)
    obtain ⟨rfl, q⟩ := y
    exact ⟨Step.refl, reps_get' r (q vs s)⟩
/-- the ints of a range -/
def rangeD (lo : Int) (n : Nat) : List D := (List.range n).map fun i => D.int (lo + (i : Nat))
theorem rangeD_len {lo : Int} {n : Nat} : (rangeD lo n).length = n := by unfold rangeD; rw [List.length_map, List.length_range]
theorem wd_range {lo : Int} {n : Nat} (hz : n ≤ sizeLine) : WD K (Itr lo n) (rangeD lo n) [] where
  len := by rw [rangeD_len]; exact hz
  go := fun i B m H hi h => by rw [rangeD_len] at hi; exact hi
  stop := fun B m H h => by rw [rangeD_len]; exact Nat.le_refl _
  yld := fun i B m H x H' hB hi h y => by
    obtain ⟨rfl, rfl⟩ := y
    rw [rangeD_len] at hi
    refine ⟨Step.refl, .int (lo + i), ?_, rfl⟩
    unfold rangeD
    rw [List.getElem?_map, List.getElem?_range hi]; rfl
end
def wSeq (m : WE) : WI := fun ρ n Q E => m ρ n (fun d k => match d.seq with | some ds => Q ds k | none => False) E
theorem mono_seqI {m : WE} (h : Mono m) : Mono (wSeq m) := fun ρ n Q Q' E E' hq he z => h ρ n _ _ _ _ (fun d k z => by
  cases e : d.seq with
  | none => rw [e] at z; exact z.elim
  | some ds => rw [e] at z; exact hq _ _ z) he z
/-- a tuple or a list that is walked -/
theorem di_seq {X : Cx} {E : XK} {tg l : Expr} {m : WE} (h : DE X E l m) : DI X E tg l (wSeq m) := by
  refine ⟨mono_seqI h.mono, ⟨fun pins s σ H R I z => ?_⟩⟩
  obtain ⟨A, ρ, n, RR, z⟩ := z
  have go : tD X.K E m σ H (fun x H1 => ∃ d ds k, d.seq = some ds ∧ Step X.K (A ++ own ρ) n H k H1 ∧ rep X.K k (hide (A ++ own ρ) H1) d x ∧
      ∀ J H' src, Step X.K (A ++ own ρ) n H k H' → WD X.K J ds src → (∀ p ∈ src, rep X.K k (hide (A ++ own ρ) H') p.1 p.2) → R J H') := by
    refine tD.run' h.mono RR z (fun _ _ z => z) fun d k v H' s r q => ?_
    cases e : d.seq with
    | none => rw [e] at q; exact q.elim
    | some ds => rw [e] at q; exact ⟨d, ds, k, e, s, r, q⟩
  refine thn (h.pe.run pins s σ H _ I go) fun v s1 ⟨x, H1, I1, r1, d, ds, k, ed, st, rd, q⟩ => ?_
  cases d with
  | lst es =>
    cases ed
    obtain ⟨a, vs, rfl, u, rr⟩ := id rd
    cases r1
    have hq : SqL X.K H1 a vs := .inl (.inl (hide_grow _ _ u))
    obtain ⟨its, rv, p, hz⟩ := I1.list hq
    refine wpAny_pyIter_list p.isList ?_
    refine ⟨s1.heap.objs.size, [s1.heap.objs.size], _, _, H1, rfl, I1.kept (t' := s1.toks) fun b o e => Heap.get?_push_of_some _ e, turn_list a _, ⟨_, Heap.get?_push_size _ rfl, rfl, rfl⟩, fun b hb => ?_,
      q _ H1 _ st (wd_list (by rw [← reps_len rr]; exact hz)) (fun p hp => by rw [List.mem_singleton.mp hp]; exact rd)⟩
    have e : b = s1.heap.objs.size := by simpa using hb
    subst e
    exact I1.fpOk (Nat.le_refl _) (I1.hok.fresh (Nat.le_refl _))
  | tup es =>
    cases ed
    obtain ⟨a, vs, rfl, u, rr⟩ := id rd
    cases r1
    have hq : SqT X.K H1 a vs := (hide_grow.sqU u).t
    obtain ⟨its, rv, p, hz⟩ := I1.tuple hq
    refine wpAny_pyIter_tuple (show s1.heap.IsTuple a its.toArray from p) ?_
    refine ⟨s1.heap.objs.size, [s1.heap.objs.size], _, _, H1, rfl, I1.kept (t' := s1.toks) fun b o e => Heap.get?_push_of_some _ e, turn_tuple a _, ⟨_, Heap.get?_push_size _ rfl, rfl, rfl⟩, fun b hb => ?_,
      q _ H1 _ st (wd_tup (by rw [← reps_len rr]; exact hz)) (fun p hp => by rw [List.mem_singleton.mp hp]; exact rd)⟩
    have e : b = s1.heap.objs.size := by simpa using hb
    subst e
    exact I1.fpOk (Nat.le_refl _) (I1.hok.fresh (Nat.le_refl _))
  | _ => cases ed
theorem _root_.L2.PI.imp {X : Cx} {tg e : Expr} {t t' : TI} (h : PI X tg e t) (i : ∀ σ H Q, t' σ H Q → t σ H Q) : PI X tg e t' := ⟨fun pins s σ H R I q => h.run pins s σ H R I (i σ H R q)⟩
def wRng1 (m : WA) : WI := fun ρ n Q E => m ρ n (fun ds k => match ds with | [.int j] => (-1000000 ≤ j ∧ j ≤ 1000000) ∧ Q (rangeD 0 j.toNat) k | _ => False) E
def wRng2 (m : WA) : WI := fun ρ n Q E => m ρ n (fun ds k => match ds with | [.int i, .int j] => (-1000000 ≤ i ∧ i ≤ 1000000 ∧ -1000000 ≤ j ∧ j ≤ 1000000) ∧ Q (rangeD i (j - i).toNat) k | _ => False) E
theorem small_rng {n : Nat} (h : n ≤ 2000000) : n ≤ sizeLine := Nat.le_trans h (by decide)
section
variable {X : Cx} {E : XK} {tg a b : Expr} {m : WA} {p pos : Pos}
theorem di_range1 (hg : Gl X "range") (hm : X.mg "range" = none) (ha : DA X E [a] m) (hs : starEach [a] X.env = [(false, eval a X.env)] := by rfl) : DI X E tg (.Call (.Name "range" p) [a] [] pos) (wRng1 m) := by
  refine ⟨fun ρ n Q Q' E E' hq he z => ha.mono ρ n _ _ _ _ (fun ds k z => ?_) he z, (pi_range1 hg hm ha.pa hs).imp fun σ H R z => ?_⟩
  · split at z
    · exact ⟨z.1, hq _ _ z.2⟩
    · exact z.elim
  · obtain ⟨A, ρ, n, RR, z⟩ := z
    refine tDA.run' ha.mono RR z (fun _ _ z => z) fun ds k vs H' s r q => ?_
    split at q
    · rename_i j
      obtain ⟨v, rfl, rv⟩ := reps1 r
      cases (show v = .int j from rv)
      obtain ⟨q1, q⟩ := q
      exact ⟨j, rfl, by omega, by omega, q _ H' [] s (wd_range (small_rng (by omega))) (fun p hp => nomatch hp)⟩
    · exact q.elim
theorem di_range2 (hg : Gl X "range") (hm : X.mg "range" = none) (ha : DA X E [a, b] m) (hs : starEach [a, b] X.env = [(false, eval a X.env), (false, eval b X.env)] := by rfl) (hs2 : starEach [b] X.env = [(false, eval b X.env)] := by rfl) : DI X E tg (.Call (.Name "range" p) [a, b] [] pos) (wRng2 m) := by
  refine ⟨fun ρ n Q Q' E E' hq he z => ha.mono ρ n _ _ _ _ (fun ds k z => ?_) he z, (pi_range2 hg hm ha.pa hs hs2).imp fun σ H R z => ?_⟩
  · split at z
    · exact ⟨z.1, hq _ _ z.2⟩
    · exact z.elim
  · obtain ⟨A, ρ, n, RR, z⟩ := z
    refine tDA.run' ha.mono RR z (fun _ _ z => z) fun ds k vs H' s r q => ?_
    split at q
    · rename_i i j
      obtain ⟨v, w, rfl, rv, rw'⟩ := reps2 r
      cases (show v = .int i from rv)
      cases (show w = .int j from rw')
      obtain ⟨q1, q⟩ := q
      exact ⟨i, j, rfl, ⟨by omega, by omega, by omega, by omega⟩, q _ H' [] s (wd_range (small_rng (by omega))) (fun p hp => nomatch hp)⟩
    · exact q.elim
end

/-! ### zip of two, each a tuple or a list -/
def SqX (K : PySem.W.Frag) (t : Bool) (H : Hp) (a : Addr) (xs : List V) : Prop := if t = true then SqT K H a xs else SqL K H a xs
def IterX (t : Bool) (h : Heap) (i a : Addr) (j : Nat) : Prop := if t = true then h.IsTupleIter i a j else h.IsListIter i a j
def IsX (t : Bool) (h : Heap) (a : Addr) (its : Array Value) : Prop := if t = true then h.IsTuple a its else h.IsList a its
theorem Inv.sqx {X : Cx} {pins : List (Addr × Obj)} {σ : L2.St} {H : Hp} {s : Shared} {t : Bool} {a : Addr} {xs : List V} (I : Inv X pins σ H s) (h : SqX X.K t H a xs) : ∃ its : List Value, Vals xs its ∧ IsX t s.heap a its.toArray ∧ xs.length ≤ sizeLine := by
  cases t with
  | true => obtain ⟨its, r, p, z⟩ := I.tuple (show SqT X.K H a xs from h); exact ⟨its, r, p, z⟩
  | false => obtain ⟨its, r, p, z⟩ := I.list (show SqL X.K H a xs from h); exact ⟨its, r, p.isList, z⟩
theorem Inv.sqx_inj {X : Cx} {pins : List (Addr × Obj)} {σ : L2.St} {H : Hp} {s : Shared} {t : Bool} {a : Addr} {xs ys : List V} (I : Inv X pins σ H s) (h : SqX X.K t H a xs) (h' : SqX X.K t H a ys) : xs = ys := by
  cases t with
  | true => exact I.tuple_inj h h'
  | false => exact I.list_inj h h'
theorem IterX.at {t : Bool} {h h' : Heap} {i a : Addr} {j : Nat} (x : IterX t h i a j) (k : ∀ o, h.get? i = some o → h'.get? i = some o) : IterX t h' i a j := by
  cases t with
  | true => exact Heap.IsTupleIter.at (show h.IsTupleIter i a j from x) k
  | false => exact Heap.IsListIter.at (show h.IsListIter i a j from x) k
theorem IterX.obj {t : Bool} {h : Heap} {i a : Addr} {j : Nat} (x : IterX t h i a j) : ∃ o, h.get? i = some o ∧ ∀ v, o.data ≠ .cell v := by
  cases t with
  | true => obtain ⟨o, e, _, d⟩ := (show h.IsTupleIter i a j from x); exact ⟨o, e, fun v z => by rw [d] at z; cases z⟩
  | false => obtain ⟨o, e, _, d⟩ := (show h.IsListIter i a j from x); exact ⟨o, e, fun v z => by rw [d] at z; cases z⟩
theorem drawsX {prog : Program} {w : World} {A : Around} (t : Bool) (hh : A.handled = none) (it l : Addr) (hne : l ≠ it) (items : Array Value) :
    Draws prog w A it [it, l] items.size (fun i v => items[i]? = some v) (fun i h => IterX t h it l i ∧ IsX t h l items) := by
  cases t with
  | true => exact Draws.tuple hh it l hne items
  | false => exact Draws.list hh it l hne items
/-- the items in new pairs -/
def ItzM (K : PySem.W.Frag) (t u : Bool) (a b : Addr) : It :=
  ⟨fun i H => ∃ (xs ys : List V) (x y : V), SqX K t H a xs ∧ SqX K u H b ys ∧ xs[i]? = some x ∧ ys[i]? = some y,
    fun i H v H' => ∃ T x y, v = .ref T ∧ H T = none ∧ H' = upd H T (.tup [x, y]) ∧ (∀ xs, SqX K t H a xs → xs[i]? = some x) ∧ ∀ ys, SqX K u H b ys → ys[i]? = some y,
    fun i H => ∃ xs ys : List V, SqX K t H a xs ∧ SqX K u H b ys ∧ i ≤ xs.length ∧ i ≤ ys.length ∧ (i = xs.length ∨ i = ys.length)⟩
theorem turn_zipM {P : Program} {w : World} {K : PySem.W.Frag} {elts : List Expr} {kk : Nat} {tpos : Pos} {t u : Bool} {a b z TI TO i1 i2 : Addr} (S : ZipSep2 z TI TO i1 i2 [i1, a] [i2, b]) (na : a ≠ i1) (nb : b ≠ i2) :
    Turn P w K (.Tuple elts kk tpos) (ItzM K t u a b) [z, TI, TO, i1, i2] z (fun i h => IsZip h z TI TO .none ∧ IsTupOf2 h TI (.ref i1) (.ref i2) ∧ (∃ x y, IsTupOf2 h TO x y) ∧ IterX t h i1 a i ∧ IterX u h i2 b i) where
  mem := by simp
  obj := fun i h st c hc => by
    obtain ⟨hz, hTI, ⟨x, y, hTO⟩, h1, h2⟩ := st
    have e' : c = z ∨ c = TI ∨ c = TO ∨ c = i1 ∨ c = i2 := by simpa using hc
    rcases e' with q | q | q | q | q
    · rw [q]; exact ⟨_, hz, fun v q => nomatch q⟩
    · rw [q]; exact ⟨_, hTI, fun v q => nomatch q⟩
    · rw [q]; exact ⟨_, hTO, fun v q => nomatch q⟩
    · rw [q]; exact h1.obj
    · rw [q]; exact h2.obj
  keep := fun i h h' st k => by
    obtain ⟨hz, hTI, ⟨x, y, hTO⟩, h1, h2⟩ := st
    exact ⟨k z (by simp) _ hz, k TI (by simp) _ hTI, ⟨x, y, k TO (by simp) _ hTO⟩, h1.at fun o q => k i1 (by simp) o q, h2.at fun o q => k i2 (by simp) o q⟩
  item := by
    intro X hP hw hK hc i pins s σ H E I hf st hg
    subst hP hw hK
    obtain ⟨hz, hTI, ⟨x0, y0, hTO⟩, h1, h2⟩ := st
    obtain ⟨xs, ys, x, y, hqx, hqy, hx, hy⟩ := hg
    obtain ⟨its, rv, p, _⟩ := Inv.sqx I hqx
    obtain ⟨its2, rv2, p2, _⟩ := Inv.sqx I hqy
    obtain ⟨v1, hu, ru⟩ := rv.get hx
    obtain ⟨v2, hu2, ru2⟩ := rv2.get hy
    have hzl : z < s.heap.objs.size := Heap.lt_size hz
    have hh : X.A.in1.handled = none := I.ok.hd hc
    have hl1 : i < its.toArray.size := by simpa using (List.getElem?_eq_some_iff.mp hu).1
    have hl2 : i < its2.toArray.size := by simpa using (List.getElem?_eq_some_iff.mp hu2).1
    refine wpAny_pyNext_zipD2_item S (drawsX t hh i1 a na its.toArray) (drawsX u hh i2 b nb its2.toArray) hz hTI hTO ⟨h1, p⟩ ⟨h2, p2⟩ hl1 hl2 fun w1 w2 h' tk e1 e2 z' TO' s1' s2' hT hsz hk => ?_
    have e1' : its[i]? = some w1 := by simpa using e1
    have e2' : its2[i]? = some w2 := by simpa using e2
    rw [hu] at e1'; cases e1'
    rw [hu2] at e2'; cases e2'
    refine ⟨_, rfl, wpAny_letOwnedTupleGo_zip (s := { s with heap := h', toks := tk }) z' fun h'' z'' sb => ?_⟩
    have hT2 : h''.get? s.heap.objs.size = some { cls := .type "tuple", data := .seq #[v1, v2] } := (sb.2 _ (Nat.ne_of_gt hzl)).trans hT
    have new : ObjOk X.prog X.w (upd H s.heap.objs.size (.tup [x, y])) h'' s.heap.objs.size (.tup [x, y]) :=
      ⟨by show 2 ≤ sizeLine; decide, [v1, v2], .cons ru (.cons ru2 .nil), ⟨_, hT2, rfl, _, rfl⟩⟩
    have I1 : Inv X pins σ (upd H s.heap.objs.size (.tup [x, y])) { s with heap := h'', toks := tk } :=
      I.turnedNew (t' := tk) (ch := [z, TI, TO, i1, i2]) (fun c o hb q => (sb.2 c (fun q' => hb (by simp [q']))).trans (hk c o (fun q' => hb (by simp [q'])) (fun q' => hb (by simp [q'])) (fun q' => hb (by simp [q'])) (fun q' => hb (by simp [q'])) q)) hf (Nat.le_refl _) new
    refine ⟨.ref s.heap.objs.size, _, I1, rfl, ⟨_, x, y, rfl, I.hok.fresh (Nat.le_refl _), rfl, fun l hl => by rw [Inv.sqx_inj I hl hqx]; exact hx, fun l hl => by rw [Inv.sqx_inj I hl hqy]; exact hy⟩, ⟨z'', ?_, ⟨v1, v2, ?_⟩, ?_, ?_⟩, fun c hcm => ?_⟩
    · exact (sb.2 _ S.TIz).trans (hk _ _ S.TIz S.TITO S.TIi1 S.TIi2 hTI)
    · exact (sb.2 _ S.TOz).trans TO'
    · exact s1'.1.at fun o q => (sb.2 _ S.zi1.symm).trans q
    · exact s2'.1.at fun o q => (sb.2 _ S.zi2.symm).trans q
    · have hlt : c < s.heap.objs.size := by
        have e' : c = z ∨ c = TI ∨ c = TO ∨ c = i1 ∨ c = i2 := by simpa using hcm
        rcases e' with q | q | q | q | q
        · rw [q]; exact hzl
        · rw [q]; exact Heap.lt_size hTI
        · rw [q]; exact Heap.lt_size hTO
        · rw [q]; obtain ⟨_, e1, _⟩ := h1.obj; exact Heap.lt_size e1
        · rw [q]; obtain ⟨_, e2, _⟩ := h2.obj; exact Heap.lt_size e2
      rw [upd_ne (Nat.ne_of_lt hlt)]
      exact (hf c hcm).1
  done := by
    intro X hP hw hK hc i pins s σ H E I hf st hg
    subst hP hw hK
    obtain ⟨hz, hTI, ⟨x0, y0, hTO⟩, h1, h2⟩ := st
    obtain ⟨xs, ys, hqx, hqy, l1, l2, hend⟩ := hg
    obtain ⟨its, rv, p, _⟩ := Inv.sqx I hqx
    obtain ⟨its2, rv2, p2, _⟩ := Inv.sqx I hqy
    have m1 := rv.length
    have m2 := rv2.length
    have hh : X.A.in1.handled = none := I.ok.hd hc
    refine wpAny_pyNext_zipD2_end S (drawsX t hh i1 a na its.toArray) (drawsX u hh i2 b nb its2.toArray) hz hTI hTO ⟨h1, p⟩ ⟨h2, p2⟩ (by simp; omega) (by simp; omega) (by simp; omega) fun h' tk hk => ⟨rfl, I.turnedL (t' := tk) (ch := [z, TI, TO, i1, i2]) (fun c o hb q =>
      hk c o (fun q' => hb (by simp [q'])) (fun q' => hb (by simp [q'])) (fun q' => hb (by simp [q'])) (fun q' => hb (by simp [q'])) q) hf⟩
  self := fun A i s Q E st h => wpAny_pyIter_zip st.1 h

def itObj (t : Bool) (a : Addr) : Obj := { cls := .type (if t = true then "tuple_iterator" else "list_iterator"), data := .fields #[.ref a, .int 0 0] }
theorem beginsX (t : Bool) (a : Addr) (its : Array Value) : Begins (.ref a) (itObj t a) fun h => IsX t h a its := by
  cases t with
  | true => exact begins_tuple a its
  | false => exact begins_list a its
theorem iterX_new {t : Bool} {h : Heap} {i a : Addr} (e : h.get? i = some (itObj t a)) : IterX t h i a 0 := by
  cases t with
  | true => exact ⟨_, e, rfl, rfl⟩
  | false => exact ⟨_, e, rfl, rfl⟩
theorem zip_sepN {N a b : Nat} (ha : a < N) (hb : b < N) : ZipSep2 (N + 4) (N + 2) (N + 3) N (N + 1) [N, a] [N + 1, b] :=
  zip_sep2 (N := N) (fp1 := [a]) (fp2 := [b]) (fun c hc => by rw [List.mem_singleton.mp hc]; exact ha) (fun c hc => by rw [List.mem_singleton.mp hc]; exact hb)
theorem IsX.lt {t : Bool} {h : Heap} {a : Addr} {its : Array Value} (x : IsX t h a its) : a < h.objs.size := by
  cases t with
  | true => obtain ⟨o, e, _⟩ := (show h.IsTuple a its from x); exact Heap.lt_size e
  | false => obtain ⟨o, e, _⟩ := (show h.IsList a its from x); exact Heap.lt_size e
def iZipM (K : PySem.W.Frag) (ta : TA) : TI := fun σ H R => ta σ H fun vs H1 => ∃ t u a b xs ys, vs = [.ref a, .ref b] ∧ SqX K t H1 a xs ∧ SqX K u H1 b ys ∧ (xs.length ≤ sizeLine → R (ItzM K t u a b) H1)
theorem pi_zipM {X : Cx} {e e2 : Expr} {ta : TA} {p pos tpos : Pos} {elts : List Expr} {kk : Nat} (hg : Gl X "zip") (hm : X.mg "zip" = none) (ha : PA X [e, e2] ta)
    (hs : starEach [e, e2] X.env = (false, eval e X.env) :: starEach [e2] X.env := by rfl) (hpl : (backTo pos (starEach [e2] X.env)).any (·.1) = false := by rfl) :
    PI X (.Tuple elts kk tpos) (.Call (.Name "zip" p) [e, e2] [] pos) (iZipM X.K ta) := by
  refine ⟨fun pins s σ H R I h => ?_⟩
  refine Call_ (ld_blt I hg hm PyProof.Rows.boot_zip (PyProof.Rows.callWith_type1 (thn (ha.run pos pins s σ H _ I h) fun us s1 ⟨vs, H1, I1, r1, q1⟩ => ?_) hs hpl))
  obtain ⟨t, u, a, b, xs, ys, ex, hqx, hqy, q⟩ := q1
  subst ex
  cases r1 with
  | cons r rr =>
    cases rr with
    | cons r' rr =>
      cases rr
      cases r
      cases r'
      obtain ⟨its, rv, p1, zz⟩ := Inv.sqx I1 hqx
      obtain ⟨its2, rv2, p2, _⟩ := Inv.sqx I1 hqy
      have la : a < s1.heap.objs.size := p1.lt
      have lb : b < s1.heap.objs.size := p2.lt
      refine zip_begins2 (beginsX t a its.toArray) (beginsX u b its2.toArray) p1 p2 fun h' hz hTI hTO h1 h2 hsz hk => wpAny_pyIter_zip hz ?_
      have I2 : Inv X pins σ H1 { s1 with heap := h' } := I1.kept (t' := s1.toks) hk
      refine ⟨s1.heap.objs.size + 4, [s1.heap.objs.size + 4, s1.heap.objs.size + 2, s1.heap.objs.size + 3, s1.heap.objs.size, s1.heap.objs.size + 1], _, _, H1, rfl, I2, turn_zipM (t := t) (u := u) (zip_sepN la lb) (Nat.ne_of_lt la) (Nat.ne_of_lt (Nat.lt_succ_of_lt lb)), ⟨hz, hTI, ⟨_, _, hTO⟩, iterX_new h1, iterX_new h2⟩, fun c hcm => ?_, q zz⟩
      have e' : c = s1.heap.objs.size + 4 ∨ c = s1.heap.objs.size + 2 ∨ c = s1.heap.objs.size + 3 ∨ c = s1.heap.objs.size ∨ c = s1.heap.objs.size + 1 := by simpa using hcm
      have hle : s1.heap.objs.size ≤ c := by
        rcases e' with z | z | z | z | z
        · rw [z]; exact Nat.le_add_right _ _
        · rw [z]; exact Nat.le_add_right _ _
        · rw [z]; exact Nat.le_add_right _ _
        · rw [z]; exact Nat.le_refl _
        · rw [z]; exact Nat.le_add_right _ _
      exact I1.fpOk hle (I1.hok.fresh hle)
/-- over data -/
def zipD : List D → List D → List D
  | a :: as, b :: bs => .tup [a, b] :: zipD as bs
  | _, _ => []
theorem zipD_len : ∀ (as bs : List D), (zipD as bs).length = min as.length bs.length
  | [], bs => by cases bs <;> rfl
  | a :: as, [] => rfl
  | a :: as, b :: bs => by rw [zipD, List.length_cons, List.length_cons, List.length_cons, zipD_len as bs]; omega
theorem zipD_get : ∀ {as bs : List D} {i : Nat} {a b : D}, as[i]? = some a → bs[i]? = some b → (zipD as bs)[i]? = some (.tup [a, b])
  | [], bs, i, a, b, h, _ => by simp at h
  | a :: as, [], i, _, _, _, h => by simp at h
  | a :: as, b :: bs, 0, _, _, h, h' => by simp at h h'; subst h; subst h'; rfl
  | a :: as, b :: bs, i + 1, _, _, h, h' => by
    rw [zipD, List.getElem?_cons_succ]
    exact zipD_get (by simpa using h) (by simpa using h')
def seqK (t : Bool) (ds : List D) : D := if t = true then .tup ds else .lst ds
theorem rep_seqK {K : PySem.W.Frag} {n : Nat} {H : Hp} {B : List Addr} {t : Bool} {ds : List D} {a : Addr} (h : rep K n (hide B H) (seqK t ds) (.ref a)) : ∃ vs, SqX K t H a vs ∧ reps K n (hide B H) ds vs := by
  cases t with
  | true => exact rep_tup h
  | false => exact rep_lst h
theorem seq_kind {d : D} {ds : List D} (e : d.seq = some ds) : ∃ t, d = seqK t ds := by
  cases d with
  | tup es => cases e; exact ⟨true, rfl⟩
  | lst es => cases e; exact ⟨false, rfl⟩
  | _ => cases e
theorem wd_zip {K : PySem.W.Frag} {t u : Bool} {ds es : List D} {a b : Addr} (hz : ds.length ≤ sizeLine) : WD K (ItzM K t u a b) (zipD ds es) [(seqK t ds, .ref a), (seqK u es, .ref b)] where
  len := by rw [zipD_len]; omega
  go := fun i B n H hi h => by
    rw [zipD_len] at hi
    obtain ⟨vs, s, r⟩ := rep_seqK (h _ List.mem_cons_self)
    obtain ⟨ws, s', r'⟩ := rep_seqK (h _ (List.mem_cons_of_mem _ List.mem_cons_self))
    exact ⟨vs, ws, vs[i]'(by rw [reps_len r]; omega), ws[i]'(by rw [reps_len r']; omega), s, s', List.getElem?_eq_getElem _, List.getElem?_eq_getElem _⟩
  stop := fun B n H h => by
    obtain ⟨vs, s, r⟩ := rep_seqK (h _ List.mem_cons_self)
    obtain ⟨ws, s', r'⟩ := rep_seqK (h _ (List.mem_cons_of_mem _ List.mem_cons_self))
    have e1 := reps_len r
    have e2 := reps_len r'
    have e3 := zipD_len ds es
    exact ⟨vs, ws, s, s', by omega, by omega, by omega⟩
  yld := fun i B n H x H' hB hi h y => by
    rw [zipD_len] at hi
    obtain ⟨vs, s, r⟩ := rep_seqK (h _ List.mem_cons_self)
    obtain ⟨ws, s', r'⟩ := rep_seqK (h _ (List.mem_cons_of_mem _ List.mem_cons_self))
    obtain ⟨T, x1, x2, rfl, hT, rfl, q1, q2⟩ := y
    obtain ⟨d1, e1, r1⟩ := reps_get' r (q1 vs s)
    obtain ⟨d2, e2, r2⟩ := reps_get' r' (q2 ws s')
    obtain ⟨st, rr⟩ := newRep (ds := [d1, d2]) hB hT ⟨x1, [x2], rfl, r1, x2, [], rfl, r2, rfl⟩
    exact ⟨st, _, zipD_get e1 e2, rr⟩
def wZip (m : WA) : WI := fun ρ n Q E => m ρ n (fun ds k => match ds with
  | [a, b] => (match a.seq, b.seq with | some as, some bs => Q (zipD as bs) k | _, _ => False)
  | _ => False) E
theorem di_zip {X : Cx} {E : XK} {e e2 : Expr} {m : WA} {p pos tpos : Pos} {elts : List Expr} {kk : Nat} (hg : Gl X "zip") (hm : X.mg "zip" = none) (ha : DA X E [e, e2] m)
    (hs : starEach [e, e2] X.env = (false, eval e X.env) :: starEach [e2] X.env := by rfl) (hpl : (backTo pos (starEach [e2] X.env)).any (·.1) = false := by rfl) :
    DI X E (.Tuple elts kk tpos) (.Call (.Name "zip" p) [e, e2] [] pos) (wZip m) := by
  refine ⟨fun ρ n Q Q' E E' hq he z => ha.mono ρ n _ _ _ _ (fun ds k z => ?_) he z, (pi_zipM hg hm ha.pa hs hpl).imp fun σ H R z => ?_⟩
  · split at z
    · split at z
      · exact hq _ _ z
      · exact z.elim
    · exact z.elim
  · obtain ⟨A, ρ, n, RR, z⟩ := z
    refine tDA.run' ha.mono RR z (fun _ _ z => z) fun ds k vs H' s r q => ?_
    split at q
    · split at q
      · rename_i a b _ _ as bs ea eb
        obtain ⟨v, w, rfl, rv, rw'⟩ := reps2 r
        obtain ⟨t, rfl⟩ := seq_kind ea
        obtain ⟨u, rfl⟩ := seq_kind eb
        have hv : ∃ x, v = .ref x := by cases t <;> exact let ⟨x, _, e, _⟩ := rv; ⟨x, e⟩
        have hw : ∃ x, w = .ref x := by cases u <;> exact let ⟨x, _, e, _⟩ := rw'; ⟨x, e⟩
        obtain ⟨x, rfl⟩ := hv
        obtain ⟨y, rfl⟩ := hw
        obtain ⟨xs, s1, r1⟩ := rep_seqK rv
        obtain ⟨ys, s2, r2⟩ := rep_seqK rw'
        refine ⟨t, u, x, y, xs, ys, rfl, s1, s2, fun hz => q _ H' _ s (wd_zip (by rw [← reps_len r1]; exact hz)) fun p hp => ?_⟩
        rcases List.mem_cons.mp hp with e | hp
        · rw [e]; exact rv
        · rw [List.mem_singleton.mp hp]; exact rw'
      · exact q.elim
    · exact q.elim
end DL

set_option Elab.async false
set_option linter.all false
set_option maxRecDepth 100000
set_option maxHeartbeats 4000000
namespace DL
open PySem PySem.Spec PyProof.Rows L2

/-! ### for -/
def forD (t : Tgt) (mb : WS) (D : DEn) : List DL.D → List Ent → Nat → Prop
  | [], ρ, n => D.nx ρ n
  | d :: ds, ρ, n => (match asg t d ρ with
    | some ρ' => mb ρ' n { D with nx := fun ρ'' k => forD t mb D ds ρ'' k, ct := fun ρ'' k => forD t mb D ds ρ'' k, bk := D.nx }
    | none => False)
def sFor (t : Tgt) (mi : WI) (mb : WS) : WS := fun ρ n D => mi ρ n (fun ds k => forD t mb D ds ρ k) D.ex
theorem forD_mono {t : Tgt} {mb : WS} (hb : MonoS mb) {D D' : DEn} (le : D.Le D') : ∀ (ds : List DL.D) ρ n, forD t mb D ds ρ n → forD t mb D' ds ρ n
  | [], ρ, n, h => le.nx _ _ h
  | d :: ds, ρ, n, h => by
    unfold forD at h ⊢
    cases e : asg t d ρ with
    | none => rw [e] at h; exact h
    | some ρ' =>
      rw [e] at h
      exact hb ρ' n { D with nx := fun ρ'' k => forD t mb D ds ρ'' k, ct := fun ρ'' k => forD t mb D ds ρ'' k, bk := D.nx } { D' with nx := fun ρ'' k => forD t mb D' ds ρ'' k, ct := fun ρ'' k => forD t mb D' ds ρ'' k, bk := D'.nx }
        ⟨fun ρ k z => forD_mono hb le ds ρ k z, le.rt, le.nx, fun ρ k z => forD_mono hb le ds ρ k z, le.ex⟩ h
theorem srcs_mv {K : PySem.W.Frag} {A B B' : List Addr} {n k : Nat} {H H' : Hp} {src : List (DL.D × V)} (m : Mv K A B n H B' k H') (h : ∀ p ∈ src, rep K n (hide B H) p.1 p.2) : ∀ p ∈ src, rep K k (hide B' H') p.1 p.2 := fun p hp => m.rep _ _ (h p hp)
theorem ds_for {X : Cx} {E : XK} {tg iter : Expr} {body : List Stmt} {t : Tgt} {mi : WI} {mb : WS} {pos : Pos} (hp : PassesOwn (model X.prog X.w) X.A X.env X.xe) (hc : X.calm = true) (hi : DI X E tg iter mi) (hg : DG X tg t) (hb : DSs X E body mb)
    (hs : ∀ x, foldedSetIterable iter X.env x = pure x := by intro _; rfl) : DS X E (.For tg iter body [] pos) (sFor t mi mb) := by
  refine ⟨fun ρ n D D' le z => hi.mono ρ n _ _ _ _ (fun ds k z => forD_mono hb.mono le ds ρ k z) le.ex z, (ps_for hp hc hi.pi hg.pg hb.ps hs).imp fun D σ H z => ?_⟩
  obtain ⟨A, ρ, n, R, z⟩ := z
  refine ⟨A, ρ, n, R, hi.mono ρ n _ _ _ _ (fun ds k z J H1 src s w hsrc => ?_) (fun x j z => ex_eP x j z) z⟩
  have R1 := R.step s
  have mv1 := s.mv (A := A) memA
  refine ⟨fun i m σ' H' => m = ds.length - i ∧ i ≤ ds.length ∧ ∃ ρ' k', RE X.K A ρ' k' σ' H' ∧ Mv X.K A (A ++ own ρ) k H1 (A ++ own ρ') k' H' ∧ forD t mb (dEnds X.K E A (A ++ own ρ) n H D) (ds.drop i) ρ' k', ⟨ds.length, by simp, Nat.zero_le _, ρ, k, R1, Mv.refl, z⟩, ?_⟩
  rintro i m σ' H' ⟨rfl, hi', ρ', k', R', mv, z⟩
  have src' := srcs_mv mv hsrc
  by_cases hlt : i < ds.length
  · refine .inr ⟨w.go i _ k' H' hlt src', fun σ3 H3 => ∃ ρ3 k3, RE X.K A ρ3 k3 σ3 H3 ∧ Mv X.K A (A ++ own ρ) k H1 (A ++ own ρ3) k3 H3 ∧ forD t mb (dEnds X.K E A (A ++ own ρ) n H D) (ds.drop (i + 1)) ρ3 k3, fun σ3 H3 h3 => ⟨ds.length - (i + 1), by omega, rfl, hlt, h3⟩, fun x H2 y => ?_⟩
    obtain ⟨s2, d, ed, rd⟩ := w.yld i _ k' H' x H2 R'.all hlt src' y
    have R2 := R'.step s2
    rw [List.drop_eq_getElem_cons hlt] at z
    have ed' : ds[i] = d := by rw [List.getElem?_eq_getElem hlt] at ed; exact Option.some.inj ed
    rw [ed'] at z
    unfold forD at z
    cases ea : asg t d ρ' with
    | none => rw [ea] at z; exact z.elim
    | some ρ2 =>
      rw [ea] at z
      refine gT_of R2 rd ea fun σ2 R3 m3 _ => ⟨A, ρ2, k', R3, hb.mono ρ2 k' _ _ ⟨?_, ?_, ?_, ?_, ?_⟩ z⟩
      · intro ρ4 k4 z4 σ4 H4 R4 m4
        exact ⟨ρ4, k4, R4, mv.trans ((s2.mv memA).trans (m3.trans m4)), z4⟩
      · exact (dEnds.mv (E := E) (D := D) (mv1.trans (mv.trans ((s2.mv memA).trans m3)))).rt
      · intro ρ4 k4 z4 σ4 H4 R4 m4
        exact z4 σ4 H4 R4 (mv1.trans (mv.trans ((s2.mv memA).trans (m3.trans m4))))
      · intro ρ4 k4 z4 σ4 H4 R4 m4
        exact ⟨ρ4, k4, R4, mv.trans ((s2.mv memA).trans (m3.trans m4)), z4⟩
      · exact (dEnds.mv (E := E) (D := D) (mv1.trans (mv.trans ((s2.mv memA).trans m3)))).ex
  · have e : i = ds.length := by omega
    subst e
    rw [List.drop_length] at z
    exact .inl ⟨w.stop _ k' H' src', z σ' H' R' (mv1.trans mv)⟩

/-! ### list comprehensions -/
def wipeD (ρ : List Ent) : List Nat → List Ent
  | [] => ρ
  | v :: vs => (wipeD ρ vs).set v .no
/-- the block's loop: what it gives -/
def lcD (t : Tgt) (tt : WT) (me : WE) (ρw : List Ent) : List D → Nat → (List D → Nat → Prop) → Prop
  | [], n, Q => Q [] n
  | d :: ds, n, Q => (match asg t d ρw with
    | some ρ' => tt ρ' n (fun b k => if b = true then me ρ' k (fun r j => lcD t tt me ρw ds j fun rs i => Q (r :: rs) i) (fun _ _ => False) else lcD t tt me ρw ds k Q) (fun _ _ => False)
    | none => False)
/-- no owned list stands in these slots -/
def noOw (ρ : List Ent) (vs : List Nat) : Bool := vs.all fun v => match ρ[v]? with | some (.ow _) => false | some (.slf _ _ _ _) => false | _ => true
def dLc (t : Tgt) (mi : WI) (tt : WT) (me : WE) (vs : List Nat) : WE := fun ρ n Q E => noOw ρ vs = true ∧ mi ρ n (fun ds k => lcD t tt me (wipeD ρ vs) ds k fun rs j => Q (.lst rs) j) E
theorem lcD_mono {t : Tgt} {tt : WT} {me : WE} {ρw : List Ent} (ht : Mono tt) (hm : Mono me) : ∀ (ds : List D) n (Q Q' : List D → Nat → Prop), (∀ rs k, Q rs k → Q' rs k) → lcD t tt me ρw ds n Q → lcD t tt me ρw ds n Q'
  | [], n, Q, Q', hq, h => hq _ _ h
  | d :: ds, n, Q, Q', hq, h => by
    unfold lcD at h ⊢
    cases e : asg t d ρw with
    | none => rw [e] at h; exact h
    | some ρ' =>
      rw [e] at h
      refine ht ρ' n _ _ _ _ (fun b k z => ?_) (fun _ _ z => z) h
      exact ite_mono (fun z => hm ρ' k _ _ _ _ (fun r j z => lcD_mono ht hm ds j _ _ (fun rs i z => hq _ _ z) z) (fun _ _ z => z) z) (fun z => lcD_mono ht hm ds k _ _ hq z) z
theorem RE.wipe {K : PySem.W.Frag} {A : List Addr} {n : Nat} {H : Hp} {ρ : List Ent} {σ : L2.St} (R : RE K A ρ n σ H) : ∀ vs : List Nat, RE K A (wipeD ρ vs) n (L2.wipe σ vs) H ∧ Mv K A (A ++ own ρ) n H (A ++ own (wipeD ρ vs)) n H ∧ (own (wipeD ρ vs)).Sublist (own ρ)
  | [] => ⟨R, Mv.refl, List.Sublist.refl _⟩
  | v :: vs => by
    obtain ⟨R1, m1, s1⟩ := RE.wipe R vs
    obtain ⟨R2, m2⟩ := R1.forget v none
    exact ⟨R2, m1.trans m2, List.Sublist.trans (own_set_sub rfl) s1⟩
/-- what a comprehension's test is -/
structure DTs (X : Cx) (E : XK) (ifs : List Expr) (m : WT) : Prop where
  mono : Mono m
  pts : PTs X ifs (tDT X.K E m)
def dYes : WT := fun _ n Q _ => Q true n
theorem dts_nil {X : Cx} {E : XK} : DTs X E [] dYes := ⟨fun ρ n Q Q' E E' hq he h => hq _ _ h, ⟨fun pins s σ H Q I z => pts_nil.run pins s σ H Q I (by
  obtain ⟨A, ρ, n, R, z⟩ := z
  exact z H Step.refl)⟩⟩
theorem dts_one {X : Cx} {E : XK} {c : Expr} {m : WT} (h : DT X E c m) : DTs X E [c] m := ⟨h.mono, pts_one h.pt⟩
theorem wipe_set_in {σ : L2.St} {i : Nat} {x : Option V} : ∀ {vs : List Nat}, i ∈ vs → L2.wipe (σ.set i x) vs = L2.wipe σ vs
  | [], h => (nomatch h)
  | v :: vs, h => by
    unfold L2.wipe
    by_cases hi : i ∈ vs
    · rw [wipe_set_in hi]
    · have e : i = v := by rcases List.mem_cons.mp h with e | h; exact e; exact absurd h hi
      subst e
      have key : ∀ {vs : List Nat} {σ : L2.St}, i ∉ vs → L2.wipe (σ.set i x) vs = (L2.wipe σ vs).set i x := by
        intro vs
        induction vs with
        | nil => intro σ _; rfl
        | cons w ws ih =>
          intro σ hn
          have h1 : i ≠ w := fun e => hn (by rw [e]; exact List.mem_cons_self)
          unfold L2.wipe
          rw [ih fun z => hn (List.mem_cons_of_mem _ z), List.set_comm _ _ h1]
      rw [key hi, List.set_set]
theorem wipe_setV {vs : List Nat} : ∀ {is : List Nat} {xs : List V} {σ : L2.St}, (∀ i ∈ is, i ∈ vs) → L2.wipe (setV is xs σ) vs = L2.wipe σ vs
  | [], xs, σ, h => rfl
  | i :: is, [], σ, h => rfl
  | i :: is, x :: xs, σ, h => by
    rw [setV, wipe_setV fun j hj => h j (List.mem_cons_of_mem _ hj), wipe_set_in (h i List.mem_cons_self)]
theorem wipe_idem {σ : L2.St} {vs : List Nat} : L2.wipe (L2.wipe σ vs) vs = L2.wipe σ vs := by
  have key : ∀ (us : List Nat) (σ : L2.St), (∀ i ∈ us, i ∈ vs) → L2.wipe (L2.wipe σ us) vs = L2.wipe σ vs := by
    intro us
    induction us with
    | nil => intro σ _; rfl
    | cons u us ih =>
      intro σ h
      show L2.wipe ((L2.wipe σ us).set u none) vs = _
      rw [wipe_set_in (h u List.mem_cons_self), ih σ fun i hi => h i (List.mem_cons_of_mem _ hi)]
  exact key vs σ fun _ h => h
theorem own_set_eq : ∀ {ρ : List Ent} {i : Nat} {e : Ent}, e.adr = [] → (∀ e, ρ[i]? = some e → e.adr = []) → own (ρ.set i e) = own ρ
  | [], i, e, h, _ => rfl
  | x :: ρ, 0, e, h, h' => by
    show own (e :: ρ) = own (x :: ρ)
    unfold own
    rw [List.flatMap_cons, List.flatMap_cons, h, h' x rfl]
  | x :: ρ, i + 1, e, h, h' => by
    show own (x :: ρ.set i e) = own (x :: ρ)
    unfold own
    rw [List.flatMap_cons, List.flatMap_cons]
    have := own_set_eq (ρ := ρ) (i := i) h fun e he => h' e (by simpa using he)
    unfold own at this
    rw [this]
def NoOw (ρ : List Ent) (vs : List Nat) : Prop := ∀ v ∈ vs, ∀ e, ρ[v]? = some e → e.adr = []
theorem noOw_iff {ρ : List Ent} {vs : List Nat} (h : noOw ρ vs = true) : NoOw ρ vs := fun v hv t e => by
  have := List.all_eq_true.mp h v hv
  rw [e] at this
  cases t with
  | ow _ => cases this
  | slf _ _ _ _ => cases this
  | no => rfl
  | sh _ => rfl
theorem NoOw.set {ρ : List Ent} {vs : List Nat} (h : NoOw ρ vs) (i : Nat) {e : Ent} (he : e.adr = []) : NoOw (ρ.set i e) vs := fun v hv t q => by
  by_cases hi : i = v
  · subst hi
    by_cases hl : i < ρ.length
    · rw [List.getElem?_set_self hl] at q; cases q; exact he
    · rw [List.getElem?_eq_none (by simpa using hl)] at q; cases q
  · rw [List.getElem?_set_ne hi] at q; exact h v hv t q
theorem wipeD_own {ρ : List Ent} {us : List Nat} (h : NoOw ρ us) : ∀ {vs : List Nat}, (∀ i ∈ vs, i ∈ us) → own (wipeD ρ vs) = own ρ ∧ NoOw (wipeD ρ vs) us
  | [], _ => ⟨rfl, h⟩
  | v :: vs, hv => by
    obtain ⟨e, n⟩ := wipeD_own (vs := vs) h fun i hi => hv i (List.mem_cons_of_mem _ hi)
    refine ⟨?_, NoOw.set n v rfl⟩
    rw [wipeD, own_set_eq rfl fun e he => n v (hv v List.mem_cons_self) e he, e]
theorem setAll_own {us : List Nat} : ∀ {is : List Nat} {ds : List D} {ρ ρ' : List Ent}, NoOw ρ us → (∀ i ∈ is, i ∈ us) → setAll Ent.sh is ds ρ = some ρ' → own ρ' = own ρ
  | [], [], ρ, ρ', _, _, e => by cases e; rfl
  | [], d :: ds, ρ, ρ', _, _, e => by cases e
  | i :: is, [], ρ, ρ', _, _, e => by cases e
  | i :: is, d :: ds, ρ, ρ', n, hi, e => by
    rw [setAll_own (NoOw.set (e := .sh d) n i rfl) (fun j hj => hi j (List.mem_cons_of_mem _ hj)) e, own_set_eq rfl fun t => n i (hi i List.mem_cons_self) t]
theorem asg_own {us : List Nat} {t : Tgt} {d : D} {ρ ρ' : List Ent} (n : NoOw ρ us) (hi : ∀ i ∈ t.slots, i ∈ us) (e : asg t d ρ = some ρ') : own ρ' = own ρ := by
  cases t with
  | nm i => cases e; exact own_set_eq rfl fun t => n i (hi i List.mem_cons_self) t
  | tp is =>
    unfold asg at e
    cases d with
    | tup ds => exact setAll_own n hi e
    | _ => cases e
/-- the target's reading, with what it leaves of the slots -/
theorem gT_of' {K : PySem.W.Frag} {A : List Addr} {ρ ρ' : List Ent} {n : Nat} {σ : L2.St} {H : Hp} {t : Tgt} {d : D} {v : V} {Q : L2.St → Hp → Prop} (R : RE K A ρ n σ H) (r : rep K n (hide (A ++ own ρ) H) d v) (e : asg t d ρ = some ρ')
    (q : ∀ σ', RE K A ρ' n σ' H → (∀ vs : List Nat, (∀ i ∈ t.slots, i ∈ vs) → L2.wipe σ' vs = L2.wipe σ vs) → Q σ' H) : gT K t v σ H Q := by
  cases t with
  | nm i =>
    cases e
    obtain ⟨R1, m1⟩ := R.set i r
    exact q _ R1 fun vs hv => wipe_set_in (hv i List.mem_cons_self)
  | tp is =>
    unfold asg at e
    cases d with
    | tup ds =>
      obtain ⟨a, vs, rfl, u, rr⟩ := r
      obtain ⟨R1, m1⟩ := RE.setAll R rr e
      refine ⟨a, vs, rfl, (hide_grow.sqU u).t, ?_, q _ R1 fun us hu => wipe_setV hu⟩
      have key : ∀ (is : List Nat) (ds : List D) (ρ ρ' : List Ent), DL.setAll Ent.sh is ds ρ = some ρ' → ds.length = is.length := by
        intro is
        induction is with
        | nil => intro ds ρ ρ' e; cases ds with | nil => rfl | cons _ _ => cases e
        | cons i is ih => intro ds ρ ρ' e; cases ds with | nil => cases e | cons d ds => rw [List.length_cons, List.length_cons, ih ds _ _ e]
      rw [reps_len rr]
      exact key _ _ _ _ e
    | _ => cases e
section
variable {K : PySem.W.Frag} {B B' S : List Addr} {n k : Nat} {H H' : Hp}
mutual
theorem repO_mv (f : ∀ d v, rep K n (hide B H) d v → rep K k (hide B' H') d v) (g : ∀ a ∈ S, H' a = H a) : ∀ (t : OT) (v : V), (∀ a ∈ t.adr, a ∈ S) → repO K B n H t v → repO K B' k H' t v
  | .leaf d, v, _, h => f d v h
  | .node a ts, v, hb, ⟨e, vs, h, r⟩ => ⟨e, vs, (g a (hb a (by rw [OT.adr]; exact List.mem_cons_self))).trans h, repOs_mv f g ts vs (fun b hm => hb b (by rw [OT.adr]; exact List.mem_cons_of_mem _ hm)) r⟩
theorem repOs_mv (f : ∀ d v, rep K n (hide B H) d v → rep K k (hide B' H') d v) (g : ∀ a ∈ S, H' a = H a) : ∀ (ts : List OT) (vs : List V), (∀ a ∈ OT.adrs ts, a ∈ S) → repOs K B n H ts vs → repOs K B' k H' ts vs
  | [], vs, _, h => h
  | t :: ts, vs, hb, ⟨v, r, e, h, hr⟩ => ⟨v, r, e, repO_mv f g t v (fun a hm => hb a (by rw [OT.adrs]; exact List.mem_append_left _ hm)) h, repOs_mv f g ts r (fun a hm => hb a (by rw [OT.adrs]; exact List.mem_append_right _ hm)) hr⟩
end
end
/-- the comprehension's heap: the new list stands hidden beside -/
theorem lc_run {K : PySem.W.Frag} {t : Tgt} {tt : WT} {me : WE} {vs : List Nat} {A : List Addr} {ρ : List Ent} {k : Nat} {σ : L2.St} {H1 : Hp} {J : It} {ds : List D} {src : List (D × V)} {Q : VK} {Qd : DK}
    (ht : Mono tt) (hm : Mono me) (hv : ∀ i ∈ t.slots, i ∈ vs) (no : NoOw ρ vs) (R1 : RE K A ρ k σ H1) (w : WD K J ds src) (hsrc : ∀ p ∈ src, rep K k (hide (A ++ own ρ) H1) p.1 p.2) (z : lcD t tt me (wipeD ρ vs) ds k fun rs j => Qd (.lst rs) j)
    (q : ∀ d j v H', Step K (A ++ own ρ) k H1 j H' → rep K j (hide (A ++ own ρ) H') d v → Qd d j → Q v H') (D0 : Addr) (hD : H1 D0 = none) :
    ∃ W : Nat → Nat → Hp → Prop, (∃ m, W 0 m (upd H1 D0 (.lst []))) ∧ ∀ i m H, W i m H →
      (J.stop i H ∧ Q (.ref D0) H) ∨ (J.go i H ∧ ∃ Nx : Hp → Prop, (∀ H', Nx H' → ∃ m', m' < m ∧ W (i + 1) m' H') ∧ ∀ x H', J.yld i H x H' → gT K t x (L2.wipe σ vs) H' fun σ2 H2 => L2.wipe σ2 vs = L2.wipe σ vs ∧ tDT K E0 tt σ2 H2 fun b H3 =>
        if b = true then tD K E0 me σ2 H3 fun y H4 => ∃ acc, H4 D0 = some (.lst acc) ∧ acc.length < sizeLine ∧ Nx (upd H4 D0 (.lst (acc ++ [y]))) else Nx H3) := by
  have nD : D0 ∉ A ++ own ρ := fun h => R1.all D0 h hD
  obtain ⟨eo, nw⟩ := wipeD_own no (vs := vs) fun _ h => h
  have Rw := (R1.wipe vs).1
  generalize hB : A ++ own ρ = B at nD q hsrc
  have hBw : A ++ own (wipeD ρ vs) = B := by rw [eo]; exact hB
  generalize wipeD ρ vs = ρw at z eo nw Rw hBw
  -- from the state behind the source on: B hidden, and the new list
  have hE : hide (D0 :: B) (upd H1 D0 (.lst [])) = hide B H1 := by
    rw [hide_upd_in List.mem_cons_self]
    funext b
    by_cases hb : b = D0
    · subst hb; rw [hide_in List.mem_cons_self, hide_out nD, hD]
    · unfold hide
      by_cases hb2 : b ∈ B
      · rw [if_pos (List.mem_cons_of_mem _ hb2), if_pos hb2]
      · rw [if_neg (by rw [List.mem_cons]; exact fun z => z.elim hb hb2), if_neg hb2]
  have hcons : (D0 :: A) ++ own ρw = D0 :: B := by rw [List.cons_append, hBw]
  let Rel := fun (j : Nat) (H' : Hp) => k ≤ j ∧ (∀ d v, rep K k (hide B H1) d v → rep K j (hide (D0 :: B) H') d v) ∧ (∀ a ∈ B, H' a = H1 a)
  -- a state within the block
  have mkRE : ∀ {j : Nat} {H' : Hp} {acc : List V}, Rel j H' → H' D0 = some (.lst acc) → RE K (D0 :: A) ρw j (L2.wipe σ vs) H' := by
    intro j H' acc rel hA
    obtain ⟨_, rel2, rel3⟩ := rel
    refine ⟨fun i e he => ?_, Rw.nd, fun a ha hm => ?_, fun a ha => ?_, Rw.ln⟩
    · have x := Rw.sl i e he
      rw [hcons]
      rw [hBw] at x
      cases e with
      | no => trivial
      | sh d => obtain ⟨v, e1, r⟩ := x; exact ⟨v, e1, rel2 d v r⟩
      | slf a C ks ds => obtain ⟨dx, ws, e1, e2, e3, r⟩ := x; exact ⟨dx, ws, e1, (rel3 a (by rw [← hBw]; exact List.mem_append_right _ (mem_own he List.mem_cons_self))).trans e2, e3, reps_of rel2 r⟩
      | ow t =>
        obtain ⟨v, e1, r⟩ := x
        exact ⟨v, e1, repO_mv rel2 rel3 t v (fun a ha => by rw [← hBw]; exact List.mem_append_right _ (mem_own he ha)) r⟩
    · rcases List.mem_cons.mp hm with e | hm
      · exact nD (by rw [← hBw, ← e]; exact List.mem_append_right _ ha)
      · exact Rw.ap a ha hm
    · rcases List.mem_cons.mp ha with e | ha
      · rw [e, hA]; exact fun z => nomatch z
      · rw [rel3 a (by rw [← hBw]; exact List.mem_append_left _ ha)]
        exact R1.al a ha
  refine ⟨fun i m H' => m = ds.length - i ∧ i ≤ ds.length ∧ ∃ j acc rs, Rel j H' ∧ H' D0 = some (.lst acc) ∧ reps K j (hide (D0 :: B) H') rs acc ∧ acc.length ≤ i ∧ lcD t tt me ρw (ds.drop i) j (fun rs' j => Qd (.lst (rs ++ rs')) j),
    ⟨ds.length, by simp, Nat.zero_le _, k, [], [], ⟨Nat.le_refl _, fun d v r => by rw [hE]; exact r, fun a ha => upd_ne fun e => nD (by rw [← e]; exact ha)⟩, upd_same, rfl, Nat.le_refl _, z⟩, ?_⟩
  rintro i m H' ⟨rfl, hi, j, acc, rs, rel, hA, rr, hl, z⟩
  have R' := mkRE rel hA
  have src' : ∀ p ∈ src, rep K j (hide (D0 :: B) H') p.1 p.2 := fun p hp => rel.2.1 _ _ (hsrc p hp)
  by_cases hlt : i < ds.length
  · refine .inr ⟨w.go i _ j H' hlt src', fun H'' => ∃ j acc rs, Rel j H'' ∧ H'' D0 = some (.lst acc) ∧ reps K j (hide (D0 :: B) H'') rs acc ∧ acc.length ≤ i + 1 ∧ lcD t tt me ρw (ds.drop (i + 1)) j (fun rs' j => Qd (.lst (rs ++ rs')) j),
      fun H'' h => ⟨ds.length - (i + 1), by omega, rfl, hlt, h⟩, fun x H2 y => ?_⟩
    obtain ⟨s2, d, ed, rd⟩ := w.yld i (D0 :: B) j H' x H2 (fun b hb => by rw [← hcons] at hb; exact R'.all b hb) hlt src' y
    have R2 := R'.step (by rw [hcons]; exact s2)
    rw [List.drop_eq_getElem_cons hlt] at z
    have ed' : ds[i] = d := by rw [List.getElem?_eq_getElem hlt] at ed; exact Option.some.inj ed
    rw [ed'] at z
    unfold lcD at z
    cases ea : asg t d ρw with
    | none => rw [ea] at z; exact z.elim
    | some ρ2 =>
      rw [ea] at z
      have eo2 : (D0 :: A) ++ own ρ2 = D0 :: B := by rw [asg_own nw hv ea]; exact hcons
      have step : ∀ {j2 : Nat} {H3 : Hp}, Step K (D0 :: B) j H' j2 H3 → Rel j2 H3 := fun {j2 H3} s => ⟨Nat.le_trans rel.1 s.le, fun d v r => s.rep _ _ (rel.2.1 d v r), fun a ha => (s.same a (List.mem_cons_of_mem _ ha)).trans (rel.2.2 a ha)⟩
      refine gT_of' R2 (by rw [hcons]; exact rd) ea fun σ2 R3 hw => ⟨(hw vs hv).trans wipe_idem, ?_⟩
      refine tDT.run' ht R3 z (fun x j z => z.elim) fun b j2 H3 s3 z => ?_
      rw [eo2] at s3
      have s23 := s2.trans s3
      cases b with
      | false => exact ⟨j2, acc, rs, step s23, (s23.same D0 List.mem_cons_self).trans hA, s23.reps rr, by omega, z⟩
      | true =>
        refine tD.run' hm (R3.step (by rw [eo2]; exact s3)) z (fun x j z => z.elim) fun r j3 v H4 s4 rv z => ?_
        rw [eo2] at s4 rv
        have s24 := s23.trans s4
        have hA4 := (s24.same D0 List.mem_cons_self).trans hA
        have el := w.len
        have rel4 := step s24
        have hh : hide (D0 :: B) (upd H4 D0 (.lst (acc ++ [v]))) = hide (D0 :: B) H4 := hide_upd_in List.mem_cons_self
        refine ⟨acc, hA4, by omega, j3, acc ++ [v], rs ++ [r], ⟨rel4.1, fun d v r => by rw [hh]; exact rel4.2.1 d v r, fun a ha => by rw [upd_ne fun e => nD (by rw [← e]; exact ha)]; exact rel4.2.2 a ha⟩, upd_same, by rw [hh]; exact reps_app (s24.reps rr) (reps_one rv), by rw [List.length_append]; exact Nat.succ_le_succ hl, ?_⟩
        have e : (fun (rs' : List D) (j : Nat) => Qd (.lst (rs ++ [r] ++ rs')) j) = fun rs' j => Qd (.lst (rs ++ (r :: rs'))) j := by
          funext rs' j
          rw [List.append_assoc]; rfl
        rw [e]
        exact z
  · have e : i = ds.length := by omega
    subst e
    rw [List.drop_length] at z
    have z : Qd (.lst (rs ++ [])) j := z
    rw [List.append_nil] at z
    refine .inl ⟨w.stop _ j H' src', q (.lst rs) j _ H' ⟨rel.1, fun d v r => rep_grow (hide_sub fun a h => List.mem_cons_of_mem _ h) (rel.2.1 d v r), rel.2.2⟩ ⟨D0, acc, rfl, by rw [hide_out nD]; exact hA, ?_⟩ z⟩
    exact reps_tr ((hide_sub fun a h => List.mem_cons_of_mem _ h).tr (Nat.le_refl _)) _ _ rr
section
variable {X : Cx} {E : XK} {elt tg iter : Expr} {ifs : List Expr} {scope : Scope} {own' : List (Str × Nat)} {pos : Pos} {t : Tgt} {mi : WI} {tt : WT} {me : WE}
theorem mono_lc {vs : List Nat} (hi : Mono mi) (ht : Mono tt) (hm : Mono me) : Mono (dLc t mi tt me vs) := fun ρ n Q Q' E E' hq he z => ⟨z.1, hi ρ n _ _ _ _ (fun ds k z => lcD_mono ht hm ds k _ _ (fun rs j z => hq _ _ z) z) he z.2⟩
theorem lc_imp (hi : DI X E tg iter mi) (ht : Mono tt) (hm : Mono me) (hv : ∀ i ∈ t.slots, i ∈ own'.map (·.2)) (σ : L2.St) (H : Hp) (Q : VK) (z : tD X.K E (dLc t mi tt me (own'.map (·.2))) σ H Q) :
    tLc (iD X.K E mi) (gT X.K t) (tDT X.K E0 tt) (tD X.K E0 me) (own'.map (·.2)) σ H Q := by
  obtain ⟨A, ρ, n, R, no, z⟩ := z
  refine ⟨A, ρ, n, R, hi.mono ρ n _ _ _ _ (fun ds k z J H1 src s w hsrc D0 hD => ?_) (fun _ _ z => z) z⟩
  exact lc_run (Qd := fun d j => ∀ v H', Step X.K (A ++ own ρ) n H j H' → rep X.K j (hide (A ++ own ρ) H') d v → Q v H') ht hm hv (noOw_iff no) (R.step s) w hsrc z (fun d j v H' s2 r q => q v H' (s.trans s2) r) D0 hD
/-- [elt for tg in iter if ..] as a value -/
theorem de_lc (hc : X.calm = true) (hN : X.N.Nodup) (hi : DI X E tg iter mi) (ok : BlkOk X.N X.env.scope scope own')
    (hg : ∀ (s : Shared) (H : Hp) (C : Addr) (cl : List (Str × Addr)) (fp : List Addr), DG (X.blk s H scope (compEnvC scope cl C X.env) fp) tg t)
    (ht : ∀ (s : Shared) (H : Hp) (C : Addr) (cl : List (Str × Addr)) (fp : List Addr), DTs (X.blk s H scope (compEnvC scope cl C X.env) fp) E0 ifs tt)
    (he : ∀ (s : Shared) (H : Hp) (C : Addr) (cl : List (Str × Addr)) (fp : List Addr), DE (X.blk s H scope (compEnvC scope cl C X.env) fp) E0 elt me) (hv : ∀ i ∈ t.slots, i ∈ own'.map (·.2) := by decide) (hs : ∀ x, foldedSetIterable iter X.env x = pure x := by intro _; rfl) :
    DE X E (.ListComp elt [⟨tg, iter, ifs, 0⟩] scope pos) (dLc t mi tt me (own'.map (·.2))) :=
  have mt : Mono tt := (ht X.s_0 (fun _ => none) 0 [] []).mono
  have mm : Mono me := (he X.s_0 (fun _ => none) 0 [] []).mono
  ⟨mono_lc hi.mono mt mm, (pe_lc (g := gT X.K t) (tt := tDT X.K E0 tt) (te := tD X.K E0 me) hc hN hi.pi ok (fun s H C cl fp => (hg s H C cl fp).pg) (fun s H C cl fp => (ht s H C cl fp).pts) (fun s H C cl fp => (he s H C cl fp).pe) hs).imp (lc_imp hi mt mm hv)⟩
/-- name = [..] on one line -/
theorem ds_setLc {y : Str} {py spos : Pos} (i : Nat) (hc : X.calm = true) (hN : X.N.Nodup) (hi : DI X E tg iter mi) (ok : BlkOk X.N X.env.scope scope own')
    (hg : ∀ (s : Shared) (H : Hp) (C : Addr) (cl : List (Str × Addr)) (fp : List Addr), DG (X.blk s H scope (compEnvC scope cl C X.env) fp) tg t)
    (ht : ∀ (s : Shared) (H : Hp) (C : Addr) (cl : List (Str × Addr)) (fp : List Addr), DTs (X.blk s H scope (compEnvC scope cl C X.env) fp) E0 ifs tt)
    (he : ∀ (s : Shared) (H : Hp) (C : Addr) (cl : List (Str × Addr)) (fp : List Addr), DE (X.blk s H scope (compEnvC scope cl C X.env) fp) E0 elt me) (hv : ∀ i ∈ t.slots, i ∈ own'.map (·.2) := by decide)
    (hy : X.N[i]? = some y := by rfl) (hyl : X.env.scope.names.lookup y = some .local := by rfl) (hsw : swapsWith (.ListComp elt [⟨tg, iter, ifs, 0⟩] scope pos) (some (.Name y py)) spos.line X.env = pure true := by exact sw_true rfl rfl rfl (by decide +kernel)) (hs : ∀ x, foldedSetIterable iter X.env x = pure x := by intro _; rfl) :
    DS X E (.Assign [.Name y py] (.ListComp elt [⟨tg, iter, ifs, 0⟩] scope pos) spos) (sAsg (.nm i) (dLc t mi tt me (own'.map (·.2)))) := by
  have mt : Mono tt := (ht X.s_0 (fun _ => none) 0 [] []).mono
  have mm : Mono me := (he X.s_0 (fun _ => none) 0 [] []).mono
  refine ⟨mono_asg (mono_lc hi.mono mt mm), (ps_setLc (i := i) (g := gT X.K t) (tt := tDT X.K E0 tt) (te := tD X.K E0 me) hc hN hy hyl hsw hi.pi ok (fun s H C cl fp => (hg s H C cl fp).pg) (fun s H C cl fp => (ht s H C cl fp).pts) (fun s H C cl fp => (he s H C cl fp).pe) hs).imp fun D σ H z => ?_⟩
  obtain ⟨A, ρ, n, R, z⟩ := z
  refine lc_imp hi mt mm hv σ H _ (tD.st (D := D) (mono_lc hi.mono mt mm) R z fun d k v H' s R' r q => ?_)
  obtain ⟨R2, m2⟩ := R'.set i r
  exact q _ H' R2 ((s.mv memA).trans m2)
end
end DL

set_option Elab.async false
set_option linter.all false
set_option maxRecDepth 100000
set_option maxHeartbeats 4000000
namespace DL
open PySem PySem.Spec PyProof.Rows L2

/-! ### defs -/
def startD (N : List Str) (ds : List D) : List Ent := ds.map Ent.sh ++ List.replicate (N.length - ds.length) .no
theorem own_startD (N : List Str) (ds : List D) : own (startD N ds) = [] := by
  unfold own startD
  rw [List.flatMap_append]
  have h1 : (ds.map Ent.sh).flatMap Ent.adr = [] := by
    induction ds with
    | nil => rfl
    | cons d ds ih => rw [List.map_cons, List.flatMap_cons, ih]; rfl
  have h2 : ∀ m, (List.replicate m Ent.no).flatMap Ent.adr = [] := by
    intro m
    induction m with
    | zero => rfl
    | succ m ih => rw [List.replicate_succ, List.flatMap_cons, ih]; rfl
  rw [h1, h2]; rfl
theorem re_start {K : PySem.W.Frag} {A : List Addr} {N : List Str} {ds : List D} {vs : List V} {n : Nat} {H : Hp} (hA : ∀ a ∈ A, H a ≠ none) (r : reps K n (hide A H) ds vs) : RE K A (startD N ds) n (L2.start N vs) H := by
  have eo := own_startD N ds
  have el := reps_len r
  refine ⟨fun i e he => ?_, by rw [eo]; exact List.nodup_nil, fun a ha => by rw [eo] at ha; exact (nomatch ha), hA, ?_⟩
  · rw [eo, List.append_nil]
    unfold startD at he
    by_cases hi : i < ds.length
    · rw [List.getElem?_append_left (by rw [List.length_map]; exact hi), List.getElem?_map] at he
      cases e1 : ds[i]? with
      | none => rw [e1] at he; cases he
      | some d =>
        rw [e1] at he
        cases he
        obtain ⟨v, e2, rv⟩ := reps_get r e1
        refine ⟨v, ?_, rv⟩
        unfold L2.start
        rw [List.getElem?_append_left (by rw [List.length_map, el]; exact hi), List.getElem?_map, e2]; rfl
    · rw [List.getElem?_append_right (by rw [List.length_map]; omega), List.getElem?_replicate] at he
      split at he
      · cases he; trivial
      · cases he
  · unfold startD L2.start
    rw [List.length_append, List.length_append, List.length_map, List.length_map, List.length_replicate, List.length_replicate, el]
    exact Nat.le_refl _
/-- the ends of a def's body -/
abbrev fnEnds (Q : DK) (E : EK) : DEn := ⟨fun _ k => Q .non k, Q, fun _ _ => False, fun _ _ => False, E⟩
section
variable {P : Program} {w : World} {K : PySem.W.Frag} {mg : Str → Option Value} {base : Heap}
/-- A DEF by its body's reading; nothing that is raised leaves it -/
theorem fnD {x qual : Str} {st : Stmt} {f : Addr} {fd : FuncData} {N ps : List Str} {k : Nat} {W : W} (F : Fun K x qual st f fd) (S : FnScope N ps (defScope st)) 
    (hbody : ∀ (cdv : Value) (A : Around) (outer : List Env) (s : Shared) (H : Hp) (E : XK), Room k (A.deeper (envOfC qual (defScope st) s.heap.objs.size f cdv)) →
      ∃ m, DSs (cxOf (L2.CX P w) P w K mg base N qual (defScope st) f cdv A outer s H E).nox E0 (defBody st) m ∧ ∀ ds n Q Ex, ds.length = ps.length → W ds n Q Ex → m (startD N ds) n (fnEnds Q fun _ _ => False)) :
    FnOk P w K mg base (L2.CX P w) (k + 1) f fd ps (spD K ps.length W) := by
  refine F.okX S (fun vs H Q E h => h.1) (fun cdv A outer s H vs Q E hr h => ?_)
  obtain ⟨m, hm, hq⟩ := hbody cdv A outer s H E hr
  refine ⟨_, hm.ps.nox, ?_⟩
  obtain ⟨hl, A', ds, n, hA, r, z⟩ := h
  have eo := own_startD N ds
  refine ⟨A', startD N ds, n, re_start hA r, hm.mono _ n (fnEnds _ _) _ ⟨fun ρ k z σ' H' R m => ?_, fun d k z v H' m r => ?_, fun _ _ z => False.elim z, fun _ _ z => False.elim z, fun _ _ z => False.elim z⟩ (hq ds n _ _ (by rw [← reps_len r]; exact hl) z)⟩
  · rw [eo, List.append_nil] at m
    exact z .non H' ⟨m.le, fun d v r => rep_grow (hide_sub memA) (m.rep d v r), m.same⟩ rfl
  · rw [eo, List.append_nil] at m
    exact z v H' ⟨m.le, m.rep, m.same⟩ r
/-- A DEF that may raise -/
theorem fnX {x qual : Str} {st : Stmt} {f : Addr} {fd : FuncData} {N ps : List Str} {k : Nat} {W : W} (F : Fun K x qual st f fd) (S : FnScope N ps (defScope st)) 
    (hbody : ∀ (cdv : Value) (A : Around) (outer : List Env) (s : Shared) (H : Hp) (E : XK), Room k (A.deeper (envOfC qual (defScope st) s.heap.objs.size f cdv)) →
      ∃ m, DSs (cxOf (L2.CX P w) P w K mg base N qual (defScope st) f cdv A outer s H E) E (defBody st) m ∧ ∀ ds n Q Ex, ds.length = ps.length → W ds n Q Ex → m (startD N ds) n (fnEnds Q Ex)) :
    FnOk P w K mg base (L2.CX P w) (k + 1) f fd ps (spD K ps.length W) := by
  refine F.okX S (fun vs H Q E h => h.1) (fun cdv A outer s H vs Q E hr h => ?_)
  obtain ⟨m, hm, hq⟩ := hbody cdv A outer s H E hr
  refine ⟨_, hm.ps, ?_⟩
  obtain ⟨hl, A', ds, n, hA, r, z⟩ := h
  have eo := own_startD N ds
  refine ⟨A', startD N ds, n, re_start hA r, hm.mono _ n (fnEnds _ _) _ ⟨fun ρ k z σ' H' R m => ?_, fun d k z v H' m r => ?_, fun _ _ z => False.elim z, fun _ _ z => False.elim z, fun x k z dx H' m r => ?_⟩ (hq ds n _ _ (by rw [← reps_len r]; exact hl) z)⟩
  · rw [eo, List.append_nil] at m
    exact z .non H' ⟨m.le, fun d v r => rep_grow (hide_sub memA) (m.rep d v r), m.same⟩ rfl
  · rw [eo, List.append_nil] at m
    exact z v H' ⟨m.le, m.rep, m.same⟩ r
  · rw [eo, List.append_nil] at m
    exact z dx H' ⟨m.le, m.rep, m.same⟩ r
end
end DL

set_option Elab.async false
set_option linter.all false
set_option maxRecDepth 100000
set_option maxHeartbeats 4000000
namespace DL
open PySem PySem.Spec PyProof.Rows L2

/-! ### owned lists: parts, stores -/
def OT.at : List Nat → OT → Option OT
  | [], t => some t
  | j :: π, .node _ ts => (match ts[j]? with | some t => OT.at π t | none => none)
  | _ :: _, .leaf _ => none
def OT.put : List Nat → OT → List OT → OT
  | [], .node a _, ts' => .node a ts'
  | j :: π, .node a ts, ts' => .node a (match ts[j]? with | some t => ts.set j (OT.put π t ts') | none => ts)
  | _, t, _ => t
def leafs (ds : List D) : List OT := ds.map OT.leaf
theorem adrs_leafs : ∀ ds : List D, OT.adrs (leafs ds) = []
  | [] => rfl
  | d :: ds => by show OT.adr (.leaf d) ++ OT.adrs (leafs ds) = []; rw [adrs_leafs ds]; rfl
theorem toDs_leafs : ∀ ds : List D, OT.toDs (leafs ds) = ds
  | [] => rfl
  | d :: ds => by show OT.toD (.leaf d) :: OT.toDs (leafs ds) = _; rw [toDs_leafs ds]; rfl
theorem adrs_eq : ∀ ts : List OT, OT.adrs ts = ts.flatMap OT.adr
  | [] => rfl
  | t :: ts => by rw [OT.adrs, List.flatMap_cons, adrs_eq ts]
theorem adrs_get {ts : List OT} {j : Nat} {t : OT} (h : ts[j]? = some t) : t.adr.Sublist (OT.adrs ts) := by
  induction ts generalizing j with
  | nil => cases h
  | cons u ts ih =>
    rw [OT.adrs]
    cases j with
    | zero => cases h; exact List.sublist_append_left _ _
    | succ j => exact List.Sublist.trans (ih (by simpa using h)) (List.sublist_append_right _ _)
theorem adr_at : ∀ {π : List Nat} {t u : OT}, t.at π = some u → u.adr.Sublist t.adr
  | [], t, u, h => by
    have : t = u := by cases t <;> exact Option.some.inj h
    subst this; exact List.Sublist.refl _
  | j :: π, .node a ts, u, h => by
    unfold OT.at at h
    cases e : ts[j]? with
    | none => rw [e] at h; cases h
    | some t => rw [e] at h; exact List.Sublist.trans (adr_at h) (List.Sublist.trans (adrs_get e) (by rw [OT.adr]; exact List.sublist_cons_self _ _))
  | j :: π, .leaf d, u, h => by cases h
theorem adrs_set {ts : List OT} {j : Nat} {t t' : OT} (h : ts[j]? = some t) (s : t'.adr.Sublist t.adr) : (OT.adrs (ts.set j t')).Sublist (OT.adrs ts) := by
  induction ts generalizing j with
  | nil => cases h
  | cons u ts ih =>
    cases j with
    | zero => cases h; rw [List.set_cons_zero, OT.adrs, OT.adrs]; exact List.Sublist.append s (List.Sublist.refl _)
    | succ j => rw [List.set_cons_succ, OT.adrs, OT.adrs]; exact List.Sublist.append (List.Sublist.refl _) (ih (by simpa using h))
theorem adr_put : ∀ {π : List Nat} {t : OT} {a : Addr} {ts ts' : List OT}, t.at π = some (.node a ts) → (OT.adrs ts').Sublist (OT.adrs ts) → (t.put π ts').adr.Sublist t.adr
  | [], .node b us, a, ts, ts', h, s => by cases h; unfold OT.put; rw [OT.adr, OT.adr]; exact s.cons_cons _
  | [], .leaf d, a, ts, ts', h, s => by cases h
  | j :: π, .node b us, a, ts, ts', h, s => by
    unfold OT.at at h
    unfold OT.put
    cases e : us[j]? with
    | none => rw [e] at h; cases h
    | some t => rw [e] at h; rw [OT.adr, OT.adr]; exact (adrs_set e (adr_put h s)).cons_cons _
  | j :: π, .leaf d, a, ts, ts', h, s => by cases h
section
variable {K : PySem.W.Frag} {A B : List Addr} {n k : Nat} {H H' : Hp}
theorem repOs_len : ∀ {ts : List OT} {vs : List V}, repOs K B n H ts vs → vs.length = ts.length
  | [], vs, h => by rw [show vs = [] from h]; rfl
  | t :: ts, vs, ⟨v, r, e, h, hr⟩ => by rw [e, List.length_cons, List.length_cons, repOs_len hr]
theorem repOs_get : ∀ {ts : List OT} {vs : List V} {i : Nat} {t : OT}, repOs K B n H ts vs → ts[i]? = some t → ∃ v, vs[i]? = some v ∧ repO K B n H t v
  | [], vs, i, d, h, e => by simp at e
  | t :: ts, vs, 0, d', ⟨v, r, e, h, hr⟩, e' => by
    simp at e'; subst e'; subst e; exact ⟨v, rfl, h⟩
  | t :: ts, vs, i + 1, d', ⟨v, r, e, h, hr⟩, e' => by
    subst e
    obtain ⟨w, h1, h2⟩ := repOs_get (i := i) hr (by simpa using e')
    exact ⟨w, by simpa using h1, h2⟩
theorem repOs_set : ∀ (m : Nat) {ts : List OT} {vs : List V} {t : OT} {v : V}, repOs K B n H ts vs → repO K B n H t v → repOs K B n H (ts.set m t) (vs.set m v)
  | _, [], vs, d, v, h, _ => by rw [show vs = [] from h]; exact rfl
  | 0, d :: ds, vs, d', v', ⟨v, r, e, h, hr⟩, h' => by subst e; exact ⟨v', r, rfl, h', hr⟩
  | m + 1, d :: ds, vs, d', v', ⟨v, r, e, h, hr⟩, h' => by subst e; exact ⟨v, r.set m v', rfl, h, repOs_set m hr h'⟩
theorem repOs_app : ∀ {ds es : List OT} {vs ws : List V}, repOs K B n H ds vs → repOs K B n H es ws → repOs K B n H (ds ++ es) (vs ++ ws)
  | [], es, vs, ws, h, h' => by rw [show vs = [] from h]; exact h'
  | d :: ds, es, vs, ws, ⟨v, r, e, h, hr⟩, h' => ⟨v, r ++ ws, by rw [e]; rfl, h, repOs_app hr h'⟩
theorem repOs_leafs : ∀ {ds : List D} {vs : List V}, reps K n (hide B H) ds vs → repOs K B n H (leafs ds) vs
  | [], vs, h => h
  | d :: ds, vs, ⟨v, r, e, h, hr⟩ => ⟨v, r, e, h, repOs_leafs hr⟩
theorem repO_at : ∀ {π : List Nat} {t u : OT} {v : V}, repO K B n H t v → t.at π = some u → ∃ w, repO K B n H u w
  | [], t, u, v, r, h => by
    have : t = u := by cases t <;> exact Option.some.inj h
    subst this; exact ⟨v, r⟩
  | j :: π, .node a ts, u, v, r, h => by
    unfold OT.at at h
    obtain ⟨e, vs, eh, rr⟩ := r
    cases ej : ts[j]? with
    | none => rw [ej] at h; cases h
    | some t =>
      rw [ej] at h
      obtain ⟨w, _, rw'⟩ := repOs_get rr ej
      exact repO_at rw' h
  | j :: π, .leaf d, u, v, r, h => by cases h
mutual
/-- data stays where a hidden list that is not in the tree is written -/
theorem repO_off {a : Addr} {o : HO} (ha : a ∈ B) : ∀ (t : OT) (v : V), a ∉ t.adr → repO K B n H t v → repO K B n (upd H a o) t v
  | .leaf d, v, _, h => by show rep K n (hide B (upd H a o)) d v; rw [hide_upd_in ha]; exact h
  | .node b ts, v, hb, ⟨e, vs, h, r⟩ => by
    rw [OT.adr] at hb
    exact ⟨e, vs, by rw [upd_ne fun e => hb (by rw [e]; exact List.mem_cons_self)]; exact h, repOs_off ha ts vs (fun z => hb (List.mem_cons_of_mem _ z)) r⟩
theorem repOs_off {a : Addr} {o : HO} (ha : a ∈ B) : ∀ (ts : List OT) (vs : List V), a ∉ OT.adrs ts → repOs K B n H ts vs → repOs K B n (upd H a o) ts vs
  | [], vs, _, h => h
  | t :: ts, vs, hb, ⟨v, r, e, h, hr⟩ => by
    rw [OT.adrs] at hb
    exact ⟨v, r, e, repO_off ha t v (fun z => hb (List.mem_append_left _ z)) h, repOs_off ha ts r (fun z => hb (List.mem_append_right _ z)) hr⟩
end
theorem repOs_offset {a : Addr} {o : HO} (ha : a ∈ B) {t' : OT} {w : V} : ∀ {ts : List OT} {vs : List V} {j : Nat} {t : OT}, repOs K B n H ts vs → ts[j]? = some t → vs[j]? = some w → (OT.adrs ts).Nodup → a ∈ t.adr → repO K B n (upd H a o) t' w → repOs K B n (upd H a o) (ts.set j t') vs
  | [], vs, j, t, h, e, _, _, _, _ => by cases e
  | u :: ts, vs, 0, t, ⟨v, r, ev, h, hr⟩, e, e', nd, hat, h' => by
    subst ev
    cases e; cases e'
    rw [OT.adrs] at nd
    exact ⟨w, r, rfl, h', repOs_off ha ts r (fun z => (List.nodup_append.mp nd).2.2 a hat a z rfl) hr⟩
  | u :: ts, vs, j + 1, t, ⟨v, r, ev, h, hr⟩, e, e', nd, hat, h' => by
    subst ev
    rw [OT.adrs] at nd
    obtain ⟨n1, n2, n3⟩ := List.nodup_append.mp nd
    have e : ts[j]? = some t := by simpa using e
    exact ⟨v, r, rfl, repO_off ha u v (fun z => n3 a z a ((adrs_get e).mem hat) rfl) h, repOs_offset ha hr e (by simpa using e') n2 hat h'⟩
/-- the tree behind a store at a part -/
theorem repO_put {a : Addr} (ha : a ∈ B) {ts ts' : List OT} {vs' : List V} : ∀ {π : List Nat} {t : OT} {v : V}, repO K B n H t v → t.at π = some (.node a ts) → t.adr.Nodup → repOs K B n (upd H a (.lst vs')) ts' vs' → repO K B n (upd H a (.lst vs')) (t.put π ts') v
  | [], .node b us, v, ⟨e, vs, h, r⟩, hat, nd, r' => by cases hat; exact ⟨e, vs', upd_same, r'⟩
  | [], .leaf d, v, _, hat, _, _ => by cases hat
  | j :: π, .leaf d, v, _, hat, _, _ => by cases hat
  | j :: π, .node b us, v, ⟨e, vs, h, r⟩, hat, nd, r' => by
    unfold OT.at at hat
    unfold OT.put
    rw [OT.adr] at nd
    cases ej : us[j]? with
    | none => rw [ej] at hat; cases hat
    | some t =>
      rw [ej] at hat
      simp only
      have ha2 : a ∈ t.adr := (adr_at hat).mem (by rw [OT.adr]; exact List.mem_cons_self)
      have nd' := (List.nodup_cons.mp nd)
      have hne : a ≠ b := fun e => nd'.1 (by rw [← e]; exact (adrs_get ej).mem ha2)
      obtain ⟨w, ew, rw'⟩ := repOs_get r ej
      refine ⟨e, vs, by rw [upd_ne (Ne.symm hne)]; exact h, ?_⟩
      exact repOs_offset ha r ej ew nd'.2 ha2 (repO_put ha rw' hat (nd'.2.sublist (adrs_get ej)) r')
mutual
theorem repO_less {B' : List Addr} (hs : ∀ a ∈ B', a ∈ B) : ∀ (t : OT) (v : V), repO K B n H t v → repO K B' n H t v
  | .leaf d, v, h => rep_grow (hide_sub hs) h
  | .node b ts, v, ⟨e, vs, h, r⟩ => ⟨e, vs, h, repOs_less hs ts vs r⟩
theorem repOs_less {B' : List Addr} (hs : ∀ a ∈ B', a ∈ B) : ∀ (ts : List OT) (vs : List V), repOs K B n H ts vs → repOs K B' n H ts vs
  | [], vs, h => h
  | t :: ts, vs, ⟨v, r, e, h, hr⟩ => ⟨v, r, e, repO_less hs t v h, repOs_less hs ts r hr⟩
end
end
/-- the RE behind a store -/
theorem RE.put {K : PySem.W.Frag} {A : List Addr} {ρ : List Ent} {n : Nat} {σ : L2.St} {H : Hp} (R : RE K A ρ n σ H) {i : Nat} {t0 : OT} (hi : ρ[i]? = some (.ow t0)) {π : List Nat} {a : Addr} {ts ts' : List OT} {vs' : List V}
    (hat : t0.at π = some (.node a ts)) (hs : (OT.adrs ts').Sublist (OT.adrs ts)) (ha' : a ∉ OT.adrs ts') (r' : repOs K (A ++ own ρ) n H ts' vs') :
    RE K A (ρ.set i (.ow (t0.put π ts'))) n σ (upd H a (.lst vs')) ∧ Mv K A (A ++ own ρ) n H (A ++ own (ρ.set i (.ow (t0.put π ts')))) n (upd H a (.lst vs')) := by
  have ha0 : a ∈ t0.adr := (adr_at hat).mem (by rw [OT.adr]; exact List.mem_cons_self)
  have hao : a ∈ own ρ := mem_own hi ha0
  have haB : a ∈ A ++ own ρ := List.mem_append_right _ hao
  have haA : a ∉ A := R.ap a hao
  have sub0 := adr_put hat hs
  have key : ∀ {ρ : List Ent} {i : Nat} {t t' : OT}, ρ[i]? = some (.ow t) → t'.adr.Sublist t.adr → (own (ρ.set i (.ow t'))).Sublist (own ρ) := by
    intro ρ
    induction ρ with
    | nil => intro i t t' h _; cases h
    | cons e ρ ih =>
      intro i t t' h s
      unfold own
      cases i with
      | zero => cases h; rw [List.set_cons_zero, List.flatMap_cons, List.flatMap_cons]; exact List.Sublist.append s (List.Sublist.refl _)
      | succ i => rw [List.set_cons_succ, List.flatMap_cons, List.flatMap_cons]; exact List.Sublist.append (List.Sublist.refl _) (ih (by simpa using h) s)
  have sub := key hi sub0
  have hsub : ∀ b ∈ A ++ own (ρ.set i (.ow (t0.put π ts'))), b ∈ A ++ own ρ := fun b h => (List.mem_append.mp h).elim (fun h => List.mem_append_left _ h) fun h => List.mem_append_right _ (sub.mem h)
  have off : ∀ {ρ : List Ent} {i j : Nat} {t : OT} {e : Ent}, (own ρ).Nodup → ρ[i]? = some (.ow t) → ρ[j]? = some e → i ≠ j → a ∈ t.adr → a ∉ e.adr := by
    intro ρ
    induction ρ with
    | nil => intro i j t e _ h; cases h
    | cons x ρ ih =>
      intro i j t e nd h h' hne hat
      unfold own at nd
      rw [List.flatMap_cons] at nd
      obtain ⟨n1, n2, n3⟩ := List.nodup_append.mp nd
      cases i with
      | zero =>
        cases h
        cases j with
        | zero => exact absurd rfl hne
        | succ j => exact fun z => n3 a hat a (mem_own (ρ := ρ) (by simpa using h') z) rfl
      | succ i =>
        cases j with
        | zero => cases h'; exact fun z => n3 a z a (mem_own (ρ := ρ) (e := .ow t) (by simpa using h) hat) rfl
        | succ j => exact ih n2 (by simpa using h) (by simpa using h') (fun e => hne (by rw [e])) hat
  refine ⟨⟨fun j e h => ?_, R.nd.sublist sub, fun b hb => R.ap b (sub.mem hb), fun b hb => by rw [upd_ne fun e => haA (by rw [← e]; exact hb)]; exact R.al b hb, by rw [List.length_set]; exact R.ln⟩,
    Nat.le_refl _, fun d v r => rep_grow (hide_sub hsub) (by rw [hide_upd_in haB]; exact r), fun b hb => upd_ne fun e => haA (by rw [← e]; exact hb)⟩
  by_cases hj : i = j
  · subst hj
    have hl := (List.getElem?_eq_some_iff.mp hi).1
    rw [List.getElem?_set_self hl] at h
    cases h
    obtain ⟨v, ev, r⟩ := R.sl i _ hi
    have nd0 : t0.adr.Nodup := R.nd.sublist (by
      have : ∀ {ρ : List Ent} {i : Nat} {e : Ent}, ρ[i]? = some e → e.adr.Sublist (own ρ) := by
        intro ρ
        induction ρ with
        | nil => intro i e h; cases h
        | cons x ρ ih =>
          intro i e h
          unfold own
          rw [List.flatMap_cons]
          cases i with
          | zero => cases h; exact List.sublist_append_left _ _
          | succ i => exact List.Sublist.trans (ih (by simpa using h)) (List.sublist_append_right _ _)
      exact this hi)
    refine ⟨v, ev, repO_less hsub _ _ (repO_put haB r hat nd0 ?_)⟩
    exact repOs_off haB _ _ ha' r'
  · rw [List.getElem?_set_ne hj] at h
    have q := R.sl j e h
    have hae := off R.nd hi h hj ha0
    cases e with
    | no => trivial
    | sh d => obtain ⟨v, ev, r⟩ := q; exact ⟨v, ev, rep_grow (hide_sub hsub) (by rw [hide_upd_in haB]; exact r)⟩
    | ow t => obtain ⟨v, ev, r⟩ := q; exact ⟨v, ev, repO_less hsub _ _ (repO_off haB t v hae r)⟩
    | slf b C ks ds => obtain ⟨dx, ws, e1, e2, e3, r⟩ := q; exact ⟨dx, ws, e1, by rw [upd_ne fun z => hae (by rw [z]; exact List.mem_cons_self)]; exact e2, e3, reps_of (fun d v r => rep_grow (hide_sub hsub) (by rw [hide_upd_in haB]; exact r)) r⟩
end DL

set_option Elab.async false
set_option linter.all false
set_option maxRecDepth 100000
set_option maxHeartbeats 4000000
namespace DL
open PySem PySem.Spec PyProof.Rows L2

/-! ### parts of an owned list, read -/
abbrev WP := List Ent → Nat → (List Nat → OT → Nat → Prop) → EK → Prop
def MonoP (m : WP) : Prop := ∀ ρ n (Q Q' : List Nat → OT → Nat → Prop) (E E' : EK), (∀ π t k, Q π t k → Q' π t k) → (∀ x k, E x k → E' x k) → m ρ n Q E → m ρ n Q' E'
def tDP (K : PySem.W.Frag) (E : XK) (i : Nat) (m : WP) : TE := fun σ H Q => ∃ A ρ n, RE K A ρ n σ H ∧
  m ρ n (fun π t k => ∀ v H' t0, Step K (A ++ own ρ) n H k H' → ρ[i]? = some (.ow t0) → t0.at π = some t → repO K (A ++ own ρ) k H' t v → Q v H') (eP K E (A ++ own ρ) n H)
structure DP (X : Cx) (E : XK) (i : Nat) (e : Expr) (m : WP) : Prop where
  mono : MonoP m
  pe : PE X e (tDP X.K E i m)
theorem tDP.run' {K : PySem.W.Frag} {E : XK} {A : List Addr} {ρ : List Ent} {n i : Nat} {σ : L2.St} {H : Hp} {m : WP} {Q : VK} {Qd : List Nat → OT → Nat → Prop} {Ed : EK} (M : MonoP m) (R : RE K A ρ n σ H) (h : m ρ n Qd Ed) (he : ∀ x j, Ed x j → eP K E (A ++ own ρ) n H x j)
    (q : ∀ π t k v H' t0, Step K (A ++ own ρ) n H k H' → ρ[i]? = some (.ow t0) → t0.at π = some t → repO K (A ++ own ρ) k H' t v → Qd π t k → Q v H') : tDP K E i m σ H Q :=
  ⟨A, ρ, n, R, M ρ n _ _ _ _ (fun π t k hd v H' t0 s e1 e2 r => q π t k v H' t0 s e1 e2 r hd) he h⟩
def owE (o : Option Ent) (k : OT → Prop) : Prop := match o with
  | some (.ow t) => k t
  | _ => False
theorem owE_some {o : Option Ent} {k : OT → Prop} (h : owE o k) : ∃ t, o = some (.ow t) ∧ k t := by
  unfold owE at h
  split at h
  · exact ⟨_, rfl, h⟩
  · exact h.elim
theorem owE_mono {o : Option Ent} {k k' : OT → Prop} (i : ∀ d, k d → k' d) (h : owE o k) : owE o k' := by
  obtain ⟨t, rfl, h⟩ := owE_some h
  exact i t h
def pVar (i : Nat) : WP := fun ρ n Q _ => owE ρ[i]? fun t => Q [] t n
def ndE (t : OT) (k : Addr → List OT → Prop) : Prop := match t with
  | .node a ts => k a ts
  | .leaf _ => False
theorem ndE_some {t : OT} {k : Addr → List OT → Prop} (h : ndE t k) : ∃ a ts, t = .node a ts ∧ k a ts := by
  cases t with
  | node a ts => exact ⟨a, ts, rfl, h⟩
  | leaf d => exact h.elim
theorem ndE_mono {t : OT} {k k' : Addr → List OT → Prop} (i : ∀ a ts, k a ts → k' a ts) (h : ndE t k) : ndE t k' := by
  obtain ⟨a, ts, rfl, h⟩ := ndE_some h
  exact i a ts h
/-- the place of an index -/
def ixE (n : Nat) (x : D) (k : Nat → Prop) : Prop := match x with
  | .int z => ∃ r, ixN n z = some r ∧ k r
  | _ => False
theorem ixE_some {n : Nat} {x : D} {k : Nat → Prop} (h : ixE n x k) : ∃ z r, x = .int z ∧ ixN n z = some r ∧ k r := by
  unfold ixE at h
  split at h
  · obtain ⟨r, h1, h2⟩ := h
    exact ⟨_, r, rfl, h1, h2⟩
  · exact h.elim
theorem ixE_mono {n : Nat} {x : D} {k k' : Nat → Prop} (i : ∀ r, k r → k' r) (h : ixE n x k) : ixE n x k' := by
  obtain ⟨z, r, rfl, h1, h2⟩ := ixE_some h
  exact ⟨r, h1, i r h2⟩
def pIx (ma : WP) (mb : WE) : WP := fun ρ n Q E => ma ρ n (fun π t k => mb ρ k (fun x j => ndE t fun _ ts => ixE ts.length x fun r => ∃ u, ts[r]? = some u ∧ Q (π ++ [r]) u j) E) E
def dLeaf (ma : WP) : WE := fun ρ n Q E => ma ρ n (fun _ t k => match t with | .leaf d => Q d k | .node _ _ => False) E
def dLenO (ma : WP) : WE := fun ρ n Q E => ma ρ n (fun _ t k => ndE t fun _ ts => Q (.int (ts.length : Int)) k) E
theorem at_snoc : ∀ {π : List Nat} {t : OT} {a : Addr} {ts : List OT} {r : Nat} {u : OT}, t.at π = some (.node a ts) → ts[r]? = some u → t.at (π ++ [r]) = some u
  | [], t, a, ts, r, u, h, h' => by
    have : t = .node a ts := by cases t <;> exact Option.some.inj h
    subst this
    show OT.at [r] (.node a ts) = some u
    unfold OT.at
    rw [h']
    cases u <;> rfl
  | j :: π, .node b us, a, ts, r, u, h, h' => by
    unfold OT.at at h
    show OT.at (j :: (π ++ [r])) (.node b us) = some u
    unfold OT.at
    cases e : us[j]? with
    | none => rw [e] at h; cases h
    | some t => rw [e] at h; exact at_snoc h h'
  | j :: π, .leaf d, a, ts, r, u, h, h' => by cases h
section
variable {X : Cx} {E : XK} {pos p : Pos} {a b : Expr} {ma : WP} {mb me : WE} {i : Nat}
theorem dp_var (i : Nat) {x : Str} (hN : X.N[i]? = some x := by rfl) (hv : Vis X.env.scope x := by first | exact Or.inl rfl | exact Or.inr (Or.inl rfl) | exact Or.inr (Or.inr rfl)) (hd : (x == ("__debug__" : Str)) = false := by decide)
    (hcd : (x == ("__classdict__" : Str)) = false := by decide) : DP X E i (.Name x pos) (pVar i) := by
  refine ⟨fun ρ n Q Q' E E' hq he h => owE_mono (fun t q => hq _ t n q) h, (pe_var (i := i) hN hv hd hcd).imp fun σ H Q h => ?_⟩
  obtain ⟨A, ρ, n, R, h⟩ := h
  obtain ⟨t, e, q⟩ := owE_some h
  obtain ⟨v, e1, r⟩ := R.sl i _ e
  exact ⟨v, e1, q v H t Step.refl e (by cases t <;> rfl) r⟩
theorem own_of {ρ : List Ent} {t0 t : OT} {π : List Nat} {A : List Addr} (h : ρ[i]? = some (.ow t0)) (h' : t0.at π = some t) : ∀ c ∈ t.adr, c ∈ A ++ own ρ := fun c hc => List.mem_append_right _ (mem_own h ((adr_at h').mem hc))
theorem dp_ix (h1 : DP X E i a ma) (h2 : DE X E b mb) (hs : PlainIx b := by intro _ _; rfl) : DP X E i (.Subscript a b pos) (pIx ma mb) := by
  refine ⟨fun ρ n Q Q' E E' hq he h => h1.mono ρ n _ _ _ _ (fun π t k h => h2.mono ρ k _ _ _ _ (fun x j h => ndE_mono (fun _ ts h => ixE_mono (fun r ⟨u, e, h⟩ => ⟨u, e, hq _ _ _ h⟩) h) h) he h) he h, (pe_ix ix_list h1.pe h2.pe hs).imp fun σ H Q h => ?_⟩
  obtain ⟨A, ρ, n, R, h⟩ := h
  refine tDP.run' h1.mono R h (fun _ _ z => z) fun π t k v H1 t0 s e1 e2 rv h => ?_
  refine tD.run' h2.mono (R.step s) h (fun x j z => z.step s) fun d2 k2 v2 H2 s2 r2 h => ?_
  obtain ⟨q, ts, rfl, h⟩ := ndE_some h
  obtain ⟨z, r, rfl, hz, u, hu, h⟩ := ixE_some h
  have rv2 := repO_step s2 _ _ (own_of e1 e2) rv
  obtain ⟨rfl, vs, hq, rr⟩ := rv2
  obtain ⟨w, hw, rw'⟩ := repOs_get rr hu
  refine ⟨q, vs, z, w, rfl, r2, .inl (.inl hq), ?_, h w H2 t0 (s.trans s2) e1 (at_snoc e2 hu) rw'⟩
  unfold atI
  rw [repOs_len rr, hz]
  exact hw
/-- a part that is data -/
theorem de_leaf (i : Nat) (h1 : DP X E i a ma) : DE X E a (dLeaf ma) := by
  refine ⟨fun ρ n Q Q' E E' hq he h => h1.mono ρ n _ _ _ _ (fun π t k h => by cases t with | leaf d => exact hq _ _ h | node _ _ => exact h) he h, h1.pe.imp fun σ H Q h => ?_⟩
  obtain ⟨A, ρ, n, R, h⟩ := h
  refine tDP.run' h1.mono R h (fun _ _ z => z) fun π t k v H1 t0 s e1 e2 rv h => ?_
  cases t with
  | leaf d => exact h v H1 s rv
  | node _ _ => exact h.elim
theorem de_lenO (i : Nat) {x : Str} (h1 : DP X E i a ma) (hg : Gl X x) (hm : X.mg x = none) (hv : bootBuiltins x = some (.builtin "len")) (hn : x ≠ "__name__" := by decide) (hdb : (x == ("__debug__" : Str)) = false := by decide)
    (he : starEach [a] X.env = (false, eval a X.env) :: starEach [] X.env := by rfl) (hpl : (backTo pos (starEach [] X.env)).any (·.1) = false := by rfl) : DE X E (.Call (.Name x p) [a] [] pos) (dLenO ma) := by
  refine ⟨fun ρ n Q Q' E E' hq he h => h1.mono ρ n _ _ _ _ (fun π t k h => ndE_mono (fun _ ts h => hq _ _ h) h) he h, (pe_callB call_len_seq hg hm hv (pa_cons h1.pe pa_nil he) hn hdb he hpl).imp fun σ H Q h => ?_⟩
  obtain ⟨A, ρ, n, R, h⟩ := h
  refine tDP.run' h1.mono R h (fun _ _ z => z) fun π t k v H1 t0 s e1 e2 rv h => ?_
  obtain ⟨q, ts, rfl, h⟩ := ndE_some h
  obtain ⟨rfl, vs, hq, rr⟩ := rv
  exact ⟨q, vs, rfl, .inl (.inl (.inl hq)), h _ H1 s (by rw [repOs_len rr]; rfl)⟩
end

/-! ### targets -/
abbrev WG := D → List Ent → Nat → (List Ent → Nat → Prop) → EK → Prop
abbrev WGs := List D → List Ent → Nat → (List Ent → Nat → Prop) → EK → Prop
def MonoG {α : Type} (m : α → List Ent → Nat → (List Ent → Nat → Prop) → EK → Prop) : Prop := ∀ d ρ n (Q Q' : List Ent → Nat → Prop) (E E' : EK), (∀ ρ k, Q ρ k → Q' ρ k) → (∀ x k, E x k → E' x k) → m d ρ n Q E → m d ρ n Q' E'
/-- what is wanted of an exception -/
def eM (K : PySem.W.Frag) (E : XK) (A B : List Addr) (n : Nat) (H : Hp) : EK := fun x k => ∀ dx H', Mv K A B n H A k H' → xrep K k (hide A H') x dx → E (.ref x.C) (some dx) H'
theorem eM.mv {K : PySem.W.Frag} {E : XK} {A B B1 : List Addr} {n k : Nat} {H H1 : Hp} (m : Mv K A B n H B1 k H1) (x : Ex) (j : Nat) (h : eM K E A B n H x j) : eM K E A B1 k H1 x j := fun dx H' m' r => h dx H' (m.trans m') r
theorem eM_eP {K : PySem.W.Frag} {E : XK} {A : List Addr} {n : Nat} {H : Hp} {ρ : List Ent} (x : Ex) (j : Nat) (h : eM K E A (A ++ own ρ) n H x j) : eP K E (A ++ own ρ) n H x j := fun dx H' s r =>
  h dx H' ((s.mv memA).trans (Mv.less memA)) (xrep_grow (hide_sub memA) r)
def tG (K : PySem.W.Frag) (E : XK) (m : WG) : TG := fun v σ H Q => ∃ A ρ n d, RE K A ρ n σ H ∧ rep K n (hide (A ++ own ρ) H) d v ∧
  m d ρ n (fun ρ' k => ∀ σ' H', RE K A ρ' k σ' H' → Mv K A (A ++ own ρ) n H (A ++ own ρ') k H' → Q σ' H') (eM K E A (A ++ own ρ) n H)
def tGs (K : PySem.W.Frag) (E : XK) (m : WGs) : TGs := fun vs σ H Q => ∃ A ρ n ds, RE K A ρ n σ H ∧ reps K n (hide (A ++ own ρ) H) ds vs ∧
  m ds ρ n (fun ρ' k => ∀ σ' H', RE K A ρ' k σ' H' → Mv K A (A ++ own ρ) n H (A ++ own ρ') k H' → Q σ' H') (eM K E A (A ++ own ρ) n H)
structure DGt (X : Cx) (E : XK) (tg : Expr) (m : WG) : Prop where
  mono : MonoG m
  pg : PG X tg (tG X.K E m)
structure DGs (X : Cx) (E : XK) (tgs : List Expr) (m : WGs) : Prop where
  mono : MonoG m
  pgs : PGs X tgs (tGs X.K E m)
theorem _root_.L2.PGs.imp {X : Cx} {e : List Expr} {t t' : TGs} (h : PGs X e t) (i : ∀ v σ H Q, t' v σ H Q → t v σ H Q) : PGs X e t' := ⟨fun pins s σ H v u Q I r q => h.run pins s σ H v u Q I r (i v σ H Q q)⟩
theorem Mv.reps {K : PySem.W.Frag} {A B B1 : List Addr} {n k : Nat} {H H1 : Hp} (m : Mv K A B n H B1 k H1) : ∀ {ds : List D} {vs : List V}, reps K n (hide B H) ds vs → reps K k (hide B1 H1) ds vs
  | [], vs, h => h
  | d :: ds, vs, ⟨v, r, e, h, hr⟩ => ⟨v, r, e, m.rep d v h, m.reps hr⟩
def gtNm (i : Nat) : WG := fun d ρ n Q _ => Q (ρ.set i (.sh d)) n
/-- a store into an owned list -/
def gtSub (i : Nat) (ma : WP) (mb : WE) : WG := fun d ρ n Q E => ma ρ n (fun π t k => mb ρ k (fun x j => owE ρ[i]? fun t0 => ndE t fun _ ts => ixE ts.length x fun r => Q (ρ.set i (.ow (t0.put π (ts.set r (.leaf d))))) j) E) E
def gtNil : WGs := fun ds ρ n Q _ => ds = [] ∧ Q ρ n
def gtCons (m : WG) (ms : WGs) : WGs := fun ds ρ n Q E => match ds with
  | d :: ds => m d ρ n (fun ρ' k => ms ds ρ' k Q E) E
  | [] => False
def gtTup (k : Nat) (ms : WGs) : WG := fun d ρ n Q E => match d with
  | .tup ds => ds.length = k ∧ ms ds ρ n Q E
  | _ => False
section
variable {X : Cx} {E : XK} {pos : Pos} {a b e : Expr} {ma : WP} {mb me : WE} {i : Nat}
theorem dgt_name (i : Nat) {x : Str} (hN : X.N.Nodup) (hi : X.N[i]? = some x := by rfl) (hx : Loc X.env.scope x := by first | exact Or.inl rfl | exact Or.inr rfl) (hf : X.fn x = true ∨ X.env.scope.names.lookup x = some .local := by first | exact .inl rfl | exact .inr rfl) : DGt X E (.Name x pos) (gtNm i) := by
  refine ⟨fun d ρ n Q Q' E E' hq he h => hq _ _ h, (pg_name hN hi hx hf).imp fun v σ H Q z => ?_⟩
  obtain ⟨A, ρ, n, d, R, r, z⟩ := z
  obtain ⟨R2, m2⟩ := R.set i r
  exact z _ H R2 m2
theorem adrs_set_leaf {ts : List OT} {r : Nat} {d : D} : (OT.adrs (ts.set r (.leaf d))).Sublist (OT.adrs ts) := by
  cases e : ts[r]? with
  | none => rw [List.set_eq_of_length_le (List.getElem?_eq_none_iff.mp e)]; exact List.Sublist.refl _
  | some t => exact adrs_set e (List.nil_sublist _)
theorem node_out {ρ : List Ent} {t0 : OT} {π : List Nat} {a : Addr} {ts : List OT} {K : PySem.W.Frag} {A : List Addr} {n : Nat} {σ : L2.St} {H : Hp} (R : RE K A ρ n σ H) (h : ρ[i]? = some (.ow t0)) (h' : t0.at π = some (.node a ts)) : a ∉ OT.adrs ts := by
  have : ∀ {ρ : List Ent} {i : Nat} {e : Ent}, ρ[i]? = some e → e.adr.Sublist (own ρ) := by
    intro ρ
    induction ρ with
    | nil => intro i e h; cases h
    | cons x ρ ih =>
      intro i e h
      unfold own
      rw [List.flatMap_cons]
      cases i with
      | zero => cases h; exact List.sublist_append_left _ _
      | succ i => exact List.Sublist.trans (ih (by simpa using h)) (List.sublist_append_right _ _)
  have nd := R.nd.sublist (List.Sublist.trans (adr_at h') (this h))
  rw [OT.adr] at nd
  exact (List.nodup_cons.mp nd).1
theorem dgt_sub (i : Nat) (h1 : DP X E i a ma) (h2 : DE X E b mb)
    (ha : ∀ v, assign (.Subscript a b pos) X.env v = (do
      let ov ← holding [v] (eval a X.env)
      let iv ← holding [v, ov] (eval b X.env)
      standAt pos
      holding [v, ov, iv] (setItem ov iv v)
      release [v, ov, iv] []) := by intro _; rfl) : DGt X E (.Subscript a b pos) (gtSub i ma mb) := by
  refine ⟨fun d ρ n Q Q' E E' hq he h => h1.mono ρ n _ _ _ _ (fun π t k h => h2.mono ρ k _ _ _ _ (fun x j h => owE_mono (fun t0 h => ndE_mono (fun _ ts h => ixE_mono (fun r h => hq _ _ h) h) h) h) he h) he h, (pg_sub h1.pe h2.pe set_list ha).imp fun v σ H Q z => ?_⟩
  obtain ⟨A, ρ, n, d, R, rv, z⟩ := z
  refine tDP.run' h1.mono R z (fun x j z => eM_eP x j z) fun π t k v1 H1 t0 s e1 e2 r1 z => ?_
  refine tD.run' h2.mono (R.step s) z (fun x j z => (eM_eP x j z).step s) fun d2 k2 v2 H2 s2 r2 z => ?_
  obtain ⟨t0', e1', z⟩ := owE_some z
  have : t0 = t0' := by rw [e1] at e1'; cases e1'; rfl
  subst this
  obtain ⟨q, ts, rfl, z⟩ := ndE_some z
  obtain ⟨x, r, rfl, hz, z⟩ := ixE_some z
  obtain ⟨rfl, vs, hq, rr⟩ := repO_step s2 _ _ (own_of e1 e2) r1
  have rv2 : rep X.K k2 (hide (A ++ own ρ) H2) d v := (s.trans s2).rep _ _ rv
  refine ⟨q, vs, x, r, rfl, r2, hq, by rw [repOs_len rr]; exact hz, ?_⟩
  obtain ⟨R2, m2⟩ := RE.put ((R.step s).step s2) e1 e2 (ts' := ts.set r (.leaf d)) (vs' := vs.set r v) adrs_set_leaf (fun z => node_out R e1 e2 (adrs_set_leaf.mem z)) (repOs_set r rr rv2)
  exact z _ _ R2 (((s.trans s2).mv memA).trans m2)
theorem dgs_nil : DGs X E [] gtNil := ⟨fun d ρ n Q Q' E E' hq he h => ⟨h.1, hq _ _ h.2⟩, pgs_nil.imp fun vs σ H Q z => by
  obtain ⟨A, ρ, n, ds, R, r, rfl, z⟩ := z
  exact ⟨r, z σ H R Mv.refl⟩⟩
theorem dgs_cons {es : List Expr} {m : WG} {ms : WGs} (h1 : DGt X E e m) (h2 : DGs X E es ms) (hs : (assignEach (e :: es) X.env).map (·.2) = assign e X.env :: (assignEach es X.env).map (·.2) := by rfl) : DGs X E (e :: es) (gtCons m ms) := by
  refine ⟨fun d ρ n Q Q' E E' hq he h => ?_, (pgs_cons h1.pg h2.pgs hs).imp fun vs σ H Q z => ?_⟩
  · cases d with
    | nil => exact h
    | cons d ds => exact h1.mono d ρ n _ _ _ _ (fun ρ' k h => h2.mono ds ρ' k _ _ _ _ hq he h) he h
  · obtain ⟨A, ρ, n, ds, R, r, z⟩ := z
    cases ds with
    | nil => exact z.elim
    | cons d ds =>
      obtain ⟨v, vr, rfl, rv, rr⟩ := r
      refine ⟨v, vr, rfl, A, ρ, n, d, R, rv, h1.mono d ρ n _ _ _ _ (fun ρ' k z σ' H' R' m' => ?_) (fun _ _ z => z) z⟩
      exact ⟨A, ρ', k, ds, R', m'.reps rr, h2.mono ds ρ' k _ _ _ _ (fun ρ2 j z σ2 H2 R2 m2 => z σ2 H2 R2 (m'.trans m2)) (fun x j z => eM.mv m' x j z) z⟩
theorem dgt_tup {es : List Expr} {k : Nat} {ms : WGs} (hc : X.calm = true) (h : DGs X E es ms) (hn : (assignEach es X.env).length = es.length := by rfl) (hst : (assignEach es X.env).findIdx? (·.1) = none := by rfl) : DGt X E (.Tuple es k pos) (gtTup es.length ms) := by
  refine ⟨fun d ρ n Q Q' E E' hq he z => ?_, (pg_tup hc h.pgs hn hst).imp fun v σ H Q z => ?_⟩
  · cases d with
    | tup ds => exact ⟨z.1, h.mono ds ρ n _ _ _ _ hq he z.2⟩
    | _ => exact z
  · obtain ⟨A, ρ, n, d, R, r, z⟩ := z
    cases d with
    | tup ds =>
      obtain ⟨p, vs, rfl, u, rr⟩ := r
      exact ⟨p, vs, rfl, (hide_grow.sqU u).t, by rw [reps_len rr]; exact z.1, A, ρ, n, ds, R, rr, z.2⟩
    | _ => exact z.elim
/-- target = e, any target -/
def sAsgT (g : WG) (m : WE) : WS := fun ρ n D => m ρ n (fun d k => g d ρ k D.nx D.ex) D.ex
theorem ds_asgT {tg : Expr} {g : WG} (hg : DGt X E tg g) (h : DE X E e me) (hs : swapsWithSole [tg] e pos.line X.env = pure false := by rfl) (hw : swappedStores [tg] e X.env = pure none := by rfl)
    (h1 : (assignEach [tg] X.env).map (·.2) = [assign tg X.env] := by rfl) : DS X E (.Assign [tg] e pos) (sAsgT g me) := by
  refine ⟨fun ρ n D D' le z => h.mono ρ n _ _ _ _ (fun d k z => hg.mono d ρ k _ _ _ _ le.nx le.ex z) le.ex z, (ps_asg h.pe hg.pg hs hw h1).imp fun D σ H z => ?_⟩
  obtain ⟨A, ρ, n, R, z⟩ := z
  refine tD.st (D := D) h.mono R z fun d k v H' s R' r q => ?_
  exact ⟨A, ρ, k, d, R', r, hg.mono d ρ k _ _ _ _ (fun ρ' j z σ' H2 R2 m2 => z σ' H2 R2 ((s.mv memA).trans m2)) (fun x j z dx H2 m2 r2 => z dx H2 ((s.mv memA).trans m2) r2) q⟩
/-- xs.append(e), xs owned -/
def sApp (i : Nat) (ma : WP) (me : WE) : WS := fun ρ n D => ma ρ n (fun π t k => ndE t fun _ ts => me ρ k (fun d j => owE ρ[i]? fun t0 => ts.length < sizeLine ∧ D.nx (ρ.set i (.ow (t0.put π (ts ++ [.leaf d])))) j) D.ex) D.ex
theorem adrs_app : ∀ (ts us : List OT), OT.adrs (ts ++ us) = OT.adrs ts ++ OT.adrs us
  | [], us => rfl
  | t :: ts, us => by rw [List.cons_append, OT.adrs, OT.adrs, adrs_app ts us, List.append_assoc]
theorem adrs_app_leaf {ts : List OT} {d : D} : OT.adrs (ts ++ [.leaf d]) = OT.adrs ts := by
  rw [adrs_app, show OT.adrs [OT.leaf d] = [] from rfl, List.append_nil]
theorem ds_append (i : Nat) {apos cpos : Pos} (h1 : DP X E i a ma) (h2 : DE X E e me)
    (hbase : attributeBase a "append" X.env (eval a X.env) = eval a X.env := by rfl)
    (hfew : ((backTo cpos (starEach [e] X.env)).all (fun x => !x.1) && (backToKw cpos (keywordEach [] X.env)).all (fun x => x.1.isSome)
      && decide ([e].length + ([] : List Keyword).length + (if ([] : List Keyword).isEmpty then 0 else 1) < 30)) = true := by rfl)
    (hline : (apos.endLine == cpos.line) = true := by rfl) (hs : starEach [e] X.env = (false, eval e X.env) :: starEach [] X.env := by rfl) (hplain : (backTo cpos (starEach [] X.env)).any (·.1) = false := by rfl)
    (hsw : swapsWith (.Call (.Attribute a "append" apos) [e] [] cpos) none pos.line X.env = pure false := by rfl) :
    DS X E (.Expr (.Call (.Attribute a "append" apos) [e] [] cpos) pos) (sApp i ma me) := by
  refine ⟨fun ρ n D D' le z => h1.mono ρ n _ _ _ _ (fun π t k z => ndE_mono (fun _ ts z => h2.mono ρ k _ _ _ _ (fun d j z => owE_mono (fun t0 z => ⟨z.1, le.nx _ _ z.2⟩) z) le.ex z) z) le.ex z,
    (ps_expr (pe_bm PySem.F.plainAttrs_list PySem.F.slot_list_append PySem.F.type_list_append mt_append h1.pe (pa_cons h2.pe pa_nil hs) hbase hfew hline hs hplain) hsw).imp fun D σ H z => ?_⟩
  obtain ⟨A, ρ, n, R, z⟩ := z
  refine tDP.run' h1.mono R z (fun x j z => ex_eP (D := D) x j z) fun π t k v1 H1 t0 s e1 e2 r1 z => ?_
  obtain ⟨q, ts, rfl, z⟩ := ndE_some z
  have r1' := r1
  obtain ⟨rfl, vs, hq, rr⟩ := r1
  refine ⟨.inl ⟨rfl, _, SqL.of hq⟩, ?_⟩
  refine tD.run' h2.mono (R.step s) z (fun x j z => (ex_eP (D := D) x j z).step s) fun d k2 v2 H2 s2 r2 z => ?_
  obtain ⟨t0', e1', hl, z⟩ := owE_some z
  have : t0 = t0' := by rw [e1] at e1'; cases e1'; rfl
  subst this
  obtain ⟨_, vs, hq, rr⟩ := repO_step s2 _ _ (own_of e1 e2) r1'
  refine ⟨q, vs, v2, rfl, rfl, hq, by rw [repOs_len rr]; exact hl, ?_⟩
  obtain ⟨R2, m2⟩ := RE.put ((R.step s).step s2) e1 e2 (ts' := ts ++ [.leaf d]) (vs' := vs ++ [v2]) (by rw [adrs_app_leaf]; exact List.Sublist.refl _) (fun z => node_out R e1 e2 (by rw [← adrs_app_leaf (d := d)]; exact z)) (repOs_app (es := [.leaf d]) (ws := [v2]) rr ⟨v2, [], rfl, r2, rfl⟩)
  exact z _ _ R2 (((s.trans s2).mv memA).trans m2)
end
end DL

set_option Elab.async false
set_option linter.all false
set_option maxRecDepth 100000
set_option maxHeartbeats 4000000
namespace DL
open PySem PySem.Spec PyProof.Rows L2

/-! ### owned lists become data -/
section
variable {K : PySem.W.Frag} {A B B' : List Addr} {n k : Nat} {H H' : Hp}
mutual
theorem repO_rep (hs : ∀ a ∈ B', a ∈ B) : ∀ (t : OT) (v : V), (∀ a ∈ t.adr, a ∉ B') → repO K B n H t v → rep K n (hide B' H) t.toD v
  | .leaf d, v, _, h => rep_grow (hide_sub hs) h
  | .node b ts, v, ho, ⟨e, vs, h, r⟩ => ⟨b, vs, e, by rw [hide_out (ho b (by rw [OT.adr]; exact List.mem_cons_self))]; exact h, repOs_reps hs ts vs (fun a ha => ho a (by rw [OT.adr]; exact List.mem_cons_of_mem _ ha)) r⟩
theorem repOs_reps (hs : ∀ a ∈ B', a ∈ B) : ∀ (ts : List OT) (vs : List V), (∀ a ∈ OT.adrs ts, a ∉ B') → repOs K B n H ts vs → reps K n (hide B' H) (OT.toDs ts) vs
  | [], vs, _, h => h
  | t :: ts, vs, ho, ⟨v, r, e, h, hr⟩ => ⟨v, r, e, repO_rep hs t v (fun a ha => ho a (by rw [OT.adrs]; exact List.mem_append_left _ ha)) h, repOs_reps hs ts r (fun a ha => ho a (by rw [OT.adrs]; exact List.mem_append_right _ ha)) hr⟩
end
end
def frz (i : Nat) (ρ : List Ent) : List Ent := match ρ[i]? with
  | some (.ow t) => ρ.set i (.sh t.toD)
  | _ => ρ
theorem own_at : ∀ {ρ : List Ent} {i : Nat} {e : Ent}, ρ[i]? = some e → e.adr.Sublist (own ρ)
  | [], i, e, h => by cases h
  | x :: ρ, 0, e, h => by cases h; unfold own; rw [List.flatMap_cons]; exact List.sublist_append_left _ _
  | x :: ρ, i + 1, e, h => by unfold own; rw [List.flatMap_cons]; exact List.Sublist.trans (own_at (by simpa using h)) (List.sublist_append_right _ _)
theorem own_out : ∀ {ρ : List Ent} {i : Nat} {t : OT} {e : Ent}, ρ[i]? = some (.ow t) → (own ρ).Nodup → e.adr = [] → ∀ a ∈ t.adr, a ∉ own (ρ.set i e)
  | [], i, t, e, h, _, _, _, _ => by cases h
  | x :: ρ, 0, t, e, h, nd, he, a, ha => by
    cases h
    unfold own at nd ⊢
    rw [List.flatMap_cons] at nd
    rw [List.set_cons_zero, List.flatMap_cons, he, List.nil_append]
    exact fun z => (List.nodup_append.mp nd).2.2 a ha a z rfl
  | x :: ρ, i + 1, t, e, h, nd, he, a, ha => by
    unfold own at nd ⊢
    rw [List.flatMap_cons] at nd
    obtain ⟨n1, n2, n3⟩ := List.nodup_append.mp nd
    rw [List.set_cons_succ, List.flatMap_cons, List.mem_append]
    have h : ρ[i]? = some (.ow t) := by simpa using h
    exact fun z => z.elim (fun z => n3 a z a ((own_at h).mem ha) rfl) (fun z => own_out h n2 he a ha z)
theorem RE.frz {K : PySem.W.Frag} {A : List Addr} {ρ : List Ent} {n : Nat} {σ : L2.St} {H : Hp} (R : RE K A ρ n σ H) (i : Nat) : RE K A (DL.frz i ρ) n σ H ∧ Mv K A (A ++ own ρ) n H (A ++ own (DL.frz i ρ)) n H := by
  unfold DL.frz
  split
  · rename_i t h
    obtain ⟨v, ev, r⟩ := R.sl i _ h
    have out := own_out (e := .sh t.toD) h R.nd rfl
    have sub : (own (ρ.set i (.sh t.toD))).Sublist (own ρ) := own_set_sub rfl
    have hs : ∀ a ∈ A ++ own (ρ.set i (.sh t.toD)), a ∈ A ++ own ρ := fun a h => (List.mem_append.mp h).elim (fun h => List.mem_append_left _ h) fun h => List.mem_append_right _ (sub.mem h)
    refine ⟨⟨fun j e hj => ?_, R.nd.sublist sub, fun a ha => R.ap a (sub.mem ha), R.al, by rw [List.length_set]; exact R.ln⟩, Mv.less hs⟩
    by_cases hij : i = j
    · subst hij
      rw [List.getElem?_set_self (List.getElem?_eq_some_iff.mp h).1] at hj
      cases hj
      refine ⟨v, ev, repO_rep hs t v (fun a ha z => ?_) r⟩
      rcases List.mem_append.mp z with z | z
      · exact R.ap a ((own_at h).mem ha) z
      · exact out a ha z
    · rw [List.getElem?_set_ne hij] at hj
      exact (R.sl j e hj).less hs
  · exact ⟨R, Mv.refl⟩
def frzs : List Nat → List Ent → List Ent
  | [], ρ => ρ
  | i :: is, ρ => frzs is (frz i ρ)
theorem RE.frzs {K : PySem.W.Frag} {A : List Addr} {n : Nat} {σ : L2.St} {H : Hp} : ∀ {is : List Nat} {ρ : List Ent}, RE K A ρ n σ H → RE K A (DL.frzs is ρ) n σ H ∧ Mv K A (A ++ own ρ) n H (A ++ own (DL.frzs is ρ)) n H
  | [], ρ, R => ⟨R, Mv.refl⟩
  | i :: is, ρ, R => by
    obtain ⟨R1, m1⟩ := R.frz i
    obtain ⟨R2, m2⟩ := RE.frzs (is := is) R1
    exact ⟨R2, m1.trans m2⟩
def sFrz (is : List Nat) (t : WS) : WS := fun ρ n D => t (frzs is ρ) n D
theorem dss_frz {X : Cx} {E : XK} {sts : List Stmt} {t : WS} (is : List Nat) (h : DSs X E sts t) : DSs X E sts (sFrz is t) := ⟨fun ρ n D D' le z => h.mono _ n _ _ le z, h.ps.imp fun D σ H z => by
  obtain ⟨A, ρ, n, R, z⟩ := z
  obtain ⟨R1, m1⟩ := R.frzs (is := is)
  exact ⟨A, _, n, R1, h.mono _ n _ _ (dEnds.mv m1) z⟩⟩
theorem ds_frz {X : Cx} {E : XK} {st : Stmt} {t : WS} (is : List Nat) (h : DS X E st t) : DS X E st (sFrz is t) := ⟨fun ρ n D D' le z => h.mono _ n _ _ le z, h.ps.imp fun D σ H z => by
  obtain ⟨A, ρ, n, R, z⟩ := z
  obtain ⟨R1, m1⟩ := R.frzs (is := is)
  exact ⟨A, _, n, R1, h.mono _ n _ _ (dEnds.mv m1) z⟩⟩

/-! ### new lists, owned -/
structure Nw (K : PySem.W.Frag) (B : List Addr) (n : Nat) (H : Hp) (k : Nat) (H' : Hp) (t : OT) (v : V) : Prop where
  le : n ≤ k
  rep : ∀ d v, rep K n (hide B H) d v → rep K k (hide (B ++ t.adr) H') d v
  same : ∀ a ∈ B, H' a = H a
  nd : t.adr.Nodup
  ap : ∀ a ∈ t.adr, a ∉ B
  is : repO K (B ++ t.adr) k H' t v
abbrev WF := List Ent → Nat → (OT → Nat → Prop) → EK → Prop
def tDF (K : PySem.W.Frag) (E : XK) (m : WF) : TE := fun σ H Q => ∃ A ρ n, RE K A ρ n σ H ∧
  m ρ n (fun t k => ∀ v H', Nw K (A ++ own ρ) n H k H' t v → Q v H') (eP K E (A ++ own ρ) n H)
structure DF (X : Cx) (E : XK) (e : Expr) (m : WF) : Prop where
  mono : Mono m
  pe : PE X e (tDF X.K E m)
theorem tDF.run' {K : PySem.W.Frag} {E : XK} {A : List Addr} {ρ : List Ent} {n : Nat} {σ : L2.St} {H : Hp} {m : WF} {Q : VK} {Qd : OT → Nat → Prop} {Ed : EK} (M : Mono m) (R : RE K A ρ n σ H) (h : m ρ n Qd Ed) (he : ∀ x j, Ed x j → eP K E (A ++ own ρ) n H x j)
    (q : ∀ t k v H', Nw K (A ++ own ρ) n H k H' t v → Qd t k → Q v H') : tDF K E m σ H Q :=
  ⟨A, ρ, n, R, M ρ n _ _ _ _ (fun d k hd v H' s => q d k v H' s hd) he h⟩
def fLeaf (m : WE) : WF := fun ρ n Q E => m ρ n (fun d k => Q (.leaf d) k) E
/-- of a new list, whose name is not known -/
def newN (ds : List D) (Q : OT → Prop) : Prop := ∀ a, Q (.node a (leafs ds))
def fLst (m : WA) : WF := fun ρ n Q E => m ρ n (fun ds k => newN ds fun t => Q t k) E
section
variable {K : PySem.W.Frag} {A B B' : List Addr} {n k : Nat} {H H' : Hp}
/-- a new list beside: what is hidden, with it -/
theorem hide_new {p : Addr} {o : HO} (h : H p = none) : hide (B ++ [p]) (upd H p o) = hide B H := by
  rw [hide_upd_in (List.mem_append_right _ List.mem_cons_self)]
  funext b
  unfold hide
  by_cases hb : b = p
  · subst hb
    rw [if_pos (List.mem_append_right _ List.mem_cons_self)]
    split
    · rfl
    · exact h.symm
  · by_cases hb2 : b ∈ B
    · rw [if_pos (List.mem_append_left _ hb2), if_pos hb2]
    · rw [if_neg (fun z => (List.mem_append.mp z).elim hb2 fun z => hb (List.mem_singleton.mp z)), if_neg hb2]
theorem Nw.new {p : Addr} {vs : List V} {ds : List D} (h : H p = none) (hB : ∀ a ∈ B, H a ≠ none) (r : reps K n (hide B H) ds vs) : Nw K B n H n (upd H p (.lst vs)) (.node p (leafs ds)) (.ref p) := by
  have hp : p ∉ B := fun z => hB p z h
  have ea : (OT.node p (leafs ds)).adr = [p] := by rw [OT.adr, adrs_leafs]
  refine ⟨Nat.le_refl _, fun d v r => by rw [ea, hide_new h]; exact r, fun a ha => upd_ne fun e => hp (by rw [← e]; exact ha), by rw [ea]; exact List.nodup_cons.mpr ⟨List.not_mem_nil, List.nodup_nil⟩, fun a ha => ?_, rfl, vs, upd_same, repOs_leafs ?_⟩
  · rw [ea] at ha; rw [List.mem_singleton.mp ha]; exact hp
  · rw [ea, hide_new h]; exact r
theorem Nw.step {k j : Nat} {H H1 H2 : Hp} {t : OT} {v : V} (s : Step K B n H k H1) (w : Nw K B k H1 j H2 t v) : Nw K B n H j H2 t v :=
  ⟨Nat.le_trans s.le w.le, fun d v r => w.rep d v (s.rep d v r), fun a h => (w.same a h).trans (s.same a h), w.nd, w.ap, w.is⟩
theorem Nw.leaf {d : D} {v : V} (s : Step K B n H k H') (r : DL.rep K k (hide B H') d v) : Nw K B n H k H' (.leaf d) v := by
  have e : B ++ (OT.leaf d).adr = B := by rw [show (OT.leaf d).adr = [] from rfl, List.append_nil]
  exact ⟨s.le, by rw [e]; exact s.rep, s.same, List.nodup_nil, fun a h => absurd h List.not_mem_nil, by rw [e]; exact r⟩
end
section
variable {X : Cx} {E : XK} {pos : Pos} {a b e : Expr} {ma mb me : WE}
theorem df_leaf (h : DE X E e me) : DF X E e (fLeaf me) := by
  refine ⟨fun ρ n Q Q' E E' hq he z => h.mono ρ n _ _ _ _ (fun d k h => hq _ _ h) he z, h.pe.imp fun σ H Q z => ?_⟩
  obtain ⟨A, ρ, n, R, z⟩ := z
  exact tD.run' h.mono R z (fun _ _ z => z) fun d k v H1 s r q => q v H1 (Nw.leaf s r)
theorem df_lst {es : List Expr} {m : WA} (h : DAn X E es m) (hl : es.length ≤ 1000 := by exact Nat.le_of_ble_eq_true rfl) : DF X E (.List es pos) (fLst m) := by
  refine ⟨fun ρ n Q Q' E E' hq he z => h.da.mono ρ n _ _ _ _ (fun d k h a => hq _ _ (h a)) he z, (pe_lst h.da.pa).imp fun σ H Q z => ?_⟩
  obtain ⟨A, ρ, n, R, z⟩ := z
  refine tDA.run' h.da.mono R (h.len _ _ _ _ z) (fun _ _ z => z) fun ds k vs H1 s r q => ?_
  refine ⟨small_le (by rw [reps_len r, q.1]; exact hl), fun p hp => ?_⟩
  exact q.2 p _ _ (Nw.step s (Nw.new hp (R.step s).all r))
/-- operators that give a new list -/
structure OpF (X : Cx) (f : Value → Value → Sem Value) (op : D → D → (List D → Prop) → Prop) : Prop where
  ok : ∃ r, OpR X f r ∧ ∀ (B : List Addr) (n : Nat) (H : Hp) (a b : D) (x y : V) (Q : VK), rep X.K n (hide B H) a x → rep X.K n (hide B H) b y → op a b (fun ds => ∀ p vs, H p = none → reps X.K n (hide B H) ds vs → Q (.ref p) (upd H p (.lst vs))) → r x y H Q
  mono : ∀ a b (Q Q' : List D → Prop), (∀ d, Q d → Q' d) → op a b Q → op a b Q'
def fOp (op : D → D → (List D → Prop) → Prop) (ma mb : WE) : WF := fun ρ n Q E => ma ρ n (fun a k => mb ρ k (fun b j => op a b fun ds => newN ds fun t => Q t j) E) E
theorem df_op {o : Operator} {op : D → D → (List D → Prop) → Prop} (ho : OpF X (binaryOp o) op) (h1 : DE X E a ma) (h2 : DE X E b mb) : DF X E (.BinOp a o b pos) (fOp op ma mb) := by
  obtain ⟨r, ro, hr⟩ := ho.ok
  refine ⟨fun ρ n Q Q' E E' hq he h => h1.mono ρ n _ _ _ _ (fun d k h => h2.mono ρ k _ _ _ _ (fun e j h => ho.mono _ _ _ _ (fun d h a => hq _ _ (h a)) h) he h) he h, (pe_op ro h1.pe h2.pe).imp fun σ H Q h => ?_⟩
  obtain ⟨A, ρ, n, R, h⟩ := h
  refine tD.run' h1.mono R h (fun _ _ z => z) fun d k v H1 s rv h => ?_
  refine tD.run' h2.mono (R.step s) h (fun x j z => z.step s) fun d2 k2 v2 H2 s2 r2 h => ?_
  refine hr _ k2 H2 d d2 v v2 Q (s2.rep d v rv) r2 (ho.mono _ _ _ _ (fun z h p vs hp rr => ?_) h)
  exact h p _ _ (Nw.step (s.trans s2) (Nw.new hp ((R.step s).step s2).all rr))
def oRepF (a b : D) (Q : List D → Prop) : Prop := match a, b with
  | .lst xs, .int k => -(2 ^ 63) ≤ k ∧ k < 2 ^ 63 ∧ xs.length * k.toNat ≤ sizeLine ∧ Q (List.replicate k.toNat xs).flatten
  | _, _ => False
def oCatF (a b : D) (Q : List D → Prop) : Prop := match a, b with
  | .lst xs, .lst ys => xs.length + ys.length ≤ sizeLine ∧ Q (xs ++ ys)
  | _, _ => False
theorem of_rep : OpF X (binaryOp .Mult) oRepF where
  ok := ⟨_, op_rep, fun B n H a b x y Q ra rb h => by
    unfold oRepF at h
    split at h
    · obtain ⟨p, vs, rfl, u, rr⟩ := id ra
      exact ⟨p, _, vs, rfl, rb, hide_grow _ _ u, h.1, h.2.1, by rw [reps_len rr]; exact h.2.2.1, fun t ht => h.2.2.2 t _ ht (reps_flat rr _)⟩
    · exact h.elim⟩
  mono := fun a b Q Q' hq h => by
    unfold oRepF at h ⊢
    split at h
    · exact ⟨h.1, h.2.1, h.2.2.1, hq _ h.2.2.2⟩
    · exact h.elim
theorem of_cat : OpF X (binaryOp .Add) oCatF where
  ok := ⟨_, op_cat, fun B n H a b x y Q ra rb h => by
    unfold oCatF at h
    split at h
    · obtain ⟨p, vs, rfl, u, rr⟩ := id ra
      obtain ⟨p', vs', rfl, u', rr'⟩ := id rb
      exact ⟨p, p', vs, vs', rfl, rfl, hide_grow _ _ u, hide_grow _ _ u', by rw [reps_len rr, reps_len rr']; exact h.1, fun t ht => h.2 t _ ht (reps_app rr rr')⟩
    · exact h.elim⟩
  mono := fun a b Q Q' hq h => by
    unfold oCatF at h ⊢
    split at h
    · exact ⟨h.1, hq _ h.2⟩
    · exact h.elim
/-- list(xs), owned -/
def fList (m : WE) : WF := fun ρ n Q E => m ρ n (fun d k => match d.seq with | some ds => newN ds fun t => Q t k | none => False) E
theorem df_list {x : Str} {p : Pos} (h : DE X E e me) (hg : Gl X x) (hm : X.mg x = none) (hv : bootBuiltins x = some (.type "list")) (hn : x ≠ "__name__" := by decide) (hdb : (x == ("__debug__" : Str)) = false := by decide)
    (he : starEach [e] X.env = (false, eval e X.env) :: starEach [] X.env := by rfl) (hpl : (backTo pos (starEach [] X.env)).any (·.1) = false := by rfl) : DF X E (.Call (.Name x p) [e] [] pos) (fList me) := by
  refine ⟨fun ρ n Q Q' E E' hq he z => h.mono ρ n _ _ _ _ (fun d k z => ?_) he z, (pe_callTy call_list_of hg hm hv (pa_cons h.pe pa_nil he) hn hdb he hpl).imp fun σ H Q z => ?_⟩
  · cases es : d.seq with
    | none => rw [es] at z; exact z.elim
    | some ds => rw [es] at z; exact fun a => hq _ _ (z a)
  · obtain ⟨A, ρ, n, R, z⟩ := z
    refine tD.run' h.mono R z (fun _ _ z => z) fun d k v H1 s r z => ?_
    cases es : d.seq with
    | none => rw [es] at z; exact z.elim
    | some ds =>
      rw [es] at z
      obtain ⟨a, ws, rfl, sq, rr⟩ := rep_seq es r
      exact ⟨a, ws, rfl, sq, fun l hl => z l _ _ (Nw.step s (Nw.new hl (R.step s).all rr))⟩
/-- x = a new list, owned -/
def sSetF (i : Nat) (m : WF) : WS := fun ρ n D => m ρ n (fun t k => D.nx (ρ.set i (.ow t)) k) D.ex
theorem own_set_mem : ∀ {ρ : List Ent} {i : Nat} {e : Ent} {a : Addr}, a ∈ own (ρ.set i e) → a ∈ e.adr ∨ a ∈ own ρ
  | [], i, e, a, h => by rw [show ([] : List Ent).set i e = [] from rfl] at h; exact .inr h
  | x :: ρ, 0, e, a, h => by
    unfold own at h ⊢
    rw [List.set_cons_zero, List.flatMap_cons, List.mem_append] at h
    rw [List.flatMap_cons, List.mem_append]
    exact h.elim .inl fun h => .inr (.inr h)
  | x :: ρ, i + 1, e, a, h => by
    unfold own at h ⊢
    rw [List.set_cons_succ, List.flatMap_cons, List.mem_append] at h
    rw [List.flatMap_cons, List.mem_append]
    exact h.elim (fun h => .inr (.inl h)) fun h => (own_set_mem (ρ := ρ) h).elim .inl fun h => .inr (.inr h)
theorem own_set_nd : ∀ {ρ : List Ent} {i : Nat} {e : Ent}, (own ρ).Nodup → e.adr.Nodup → (∀ a ∈ e.adr, a ∉ own ρ) → (own (ρ.set i e)).Nodup
  | [], i, e, h, _, _ => h
  | x :: ρ, 0, e, h, h', ho => by
    unfold own at h ho ⊢
    rw [List.flatMap_cons] at h ho
    rw [List.set_cons_zero, List.flatMap_cons]
    obtain ⟨n1, n2, n3⟩ := List.nodup_append.mp h
    exact List.nodup_append.mpr ⟨h', n2, fun a ha b hb e => ho a ha (List.mem_append_right _ (e ▸ hb))⟩
  | x :: ρ, i + 1, e, h, h', ho => by
    unfold own at h ho ⊢
    rw [List.flatMap_cons] at h ho
    rw [List.set_cons_succ, List.flatMap_cons]
    obtain ⟨n1, n2, n3⟩ := List.nodup_append.mp h
    refine List.nodup_append.mpr ⟨n1, own_set_nd (ρ := ρ) n2 h' (fun a ha z => ho a ha (List.mem_append_right _ z)), fun a ha b hb e2 => ?_⟩
    rcases own_set_mem (ρ := ρ) hb with z | z
    · exact ho b z (List.mem_append_left _ (e2 ▸ ha))
    · exact n3 a ha b z e2
theorem RE.setF {K : PySem.W.Frag} {A : List Addr} {ρ : List Ent} {n k : Nat} {σ : L2.St} {H H' : Hp} {t : OT} {v : V} (R : RE K A ρ n σ H) (i : Nat) (w : Nw K (A ++ own ρ) n H k H' t v) : RE K A (ρ.set i (.ow t)) k (σ.set i (some v)) H' ∧ Mv K A (A ++ own ρ) n H (A ++ own (ρ.set i (.ow t))) k H' := by
  have hs : ∀ a ∈ A ++ own (ρ.set i (.ow t)), a ∈ (A ++ own ρ) ++ t.adr := fun a h => by
    rcases List.mem_append.mp h with h | h
    · exact List.mem_append_left _ (List.mem_append_left _ h)
    · rcases own_set_mem h with h | h
      · exact List.mem_append_right _ h
      · exact List.mem_append_left _ (List.mem_append_right _ h)
  have nd : (own (ρ.set i (.ow t))).Nodup := own_set_nd R.nd w.nd fun a ha z => w.ap a ha (List.mem_append_right _ z)
  refine ⟨⟨fun j e hj => ?_, nd, fun a ha => ?_, fun a ha => by rw [w.same a (List.mem_append_left _ ha)]; exact R.al a ha, by rw [List.length_set, List.length_set]; exact R.ln⟩, w.le, fun d v r => rep_grow (hide_sub hs) (w.rep d v r), fun a ha => w.same a (List.mem_append_left _ ha)⟩
  · by_cases hij : i = j
    · subst hij
      by_cases hl : i < ρ.length
      · rw [List.getElem?_set_self hl] at hj
        cases hj
        refine ⟨v, ?_, repO_less hs t v w.is⟩
        rw [List.getElem?_set_self (Nat.lt_of_lt_of_le hl R.ln)]
      · rw [List.getElem?_eq_none (by simpa using hl)] at hj; cases hj
    · rw [List.getElem?_set_ne hij] at hj ⊢
      have q := R.sl j e hj
      cases e with
      | no => trivial
      | sh d => obtain ⟨u, eu, r⟩ := q; exact ⟨u, eu, rep_grow (hide_sub hs) (w.rep d u r)⟩
      | ow t2 => obtain ⟨u, eu, r⟩ := q; exact ⟨u, eu, repO_less hs _ _ (repO_mv w.rep w.same t2 u (fun a ha => List.mem_append_right _ (mem_own hj ha)) r)⟩
      | slf b C ks ds => obtain ⟨dx, ws, e1, e2, e3, r⟩ := q; exact ⟨dx, ws, e1, (w.same b (List.mem_append_right _ (mem_own hj List.mem_cons_self))).trans e2, e3, reps_of (fun d v r => rep_grow (hide_sub hs) (w.rep d v r)) r⟩
  · rcases own_set_mem ha with z | z
    · exact fun q => w.ap a z (List.mem_append_left _ q)
    · exact R.ap a z
theorem ds_setF (i : Nat) {x : Str} {m : WF} {pos' : Pos} (hN : X.N.Nodup) (h : DF X E e m) (hi : X.N[i]? = some x := by rfl) (hx : Loc X.env.scope x := by first | exact Or.inl rfl | exact Or.inr rfl) (hs : swapsWith e (some (.Name x pos')) pos.line X.env = pure false := by rfl) (hf : X.fn x = true ∨ X.env.scope.names.lookup x = some .local := by first | exact .inl rfl | exact .inr rfl) :
    DS X E (.Assign [.Name x pos'] e pos) (sSetF i m) := by
  refine ⟨fun ρ n D D' le z => h.mono ρ n _ _ _ _ (fun t k z => le.nx _ _ z) le.ex z, (ps_set (i := i) hN hi hx h.pe hs hf).imp fun D σ H z => ?_⟩
  obtain ⟨A, ρ, n, R, z⟩ := z
  refine tDF.run' h.mono R z (fun x j z => ex_eP (D := D) x j z) fun t k v H' w q => ?_
  obtain ⟨R2, m2⟩ := R.setF i w
  exact q _ H' R2 m2
end
end DL

set_option Elab.async false
set_option linter.all false
set_option maxRecDepth 100000
set_option maxHeartbeats 4000000
namespace DL
open PySem PySem.Spec PyProof.Rows L2

/-! ### [elt for ..] as an owned list, its elements owned -/
def lcF (t : Tgt) (tt : WT) (me : WF) (ρw : List Ent) : List D → Nat → (List OT → Nat → Prop) → Prop
  | [], n, Q => Q [] n
  | d :: ds, n, Q => (match asg t d ρw with
    | some ρ' => tt ρ' n (fun b k => if b = true then me ρ' k (fun r j => lcF t tt me ρw ds j fun rs i => Q (r :: rs) i) (fun _ _ => False) else lcF t tt me ρw ds k Q) (fun _ _ => False)
    | none => False)
def fLc (t : Tgt) (mi : WI) (tt : WT) (me : WF) (vs : List Nat) : WF := fun ρ n Q E => noOw ρ vs = true ∧ mi ρ n (fun ds k => lcF t tt me (wipeD ρ vs) ds k fun rs j => ∀ a, Q (.node a rs) j) E
theorem lcF_mono {t : Tgt} {tt : WT} {me : WF} {ρw : List Ent} (ht : Mono tt) (hm : Mono me) : ∀ (ds : List D) n (Q Q' : List OT → Nat → Prop), (∀ rs k, Q rs k → Q' rs k) → lcF t tt me ρw ds n Q → lcF t tt me ρw ds n Q'
  | [], n, Q, Q', hq, h => hq _ _ h
  | d :: ds, n, Q, Q', hq, h => by
    unfold lcF at h ⊢
    cases e : asg t d ρw with
    | none => rw [e] at h; exact h
    | some ρ' =>
      rw [e] at h
      refine ht ρ' n _ _ _ _ (fun b k z => ?_) (fun _ _ z => z) h
      exact ite_mono (fun z => hm ρ' k _ _ _ _ (fun r j z => lcF_mono ht hm ds j _ _ (fun rs i z => hq _ _ z) z) (fun _ _ z => z) z) (fun z => lcF_mono ht hm ds k _ _ hq z) z
theorem lcF_run {K : PySem.W.Frag} {t : Tgt} {tt : WT} {me : WF} {vs : List Nat} {A : List Addr} {ρ : List Ent} {k : Nat} {σ : L2.St} {H1 : Hp} {J : It} {ds : List D} {src : List (D × V)} {Q : VK} {Qd : Addr → List OT → Nat → Prop}
    (ht : Mono tt) (hm : Mono me) (hv : ∀ i ∈ t.slots, i ∈ vs) (no : NoOw ρ vs) (R1 : RE K A ρ k σ H1) (w : WD K J ds src) (hsrc : ∀ p ∈ src, rep K k (hide (A ++ own ρ) H1) p.1 p.2) (z : lcF t tt me (wipeD ρ vs) ds k fun rs j => ∀ a, Qd a rs j)
    (q : ∀ a ts j H', Nw K (A ++ own ρ) k H1 j H' (.node a ts) (.ref a) → Qd a ts j → Q (.ref a) H') (D0 : Addr) (hD : H1 D0 = none) :
    ∃ W : Nat → Nat → Hp → Prop, (∃ m, W 0 m (upd H1 D0 (.lst []))) ∧ ∀ i m H, W i m H →
      (J.stop i H ∧ Q (.ref D0) H) ∨ (J.go i H ∧ ∃ Nx : Hp → Prop, (∀ H', Nx H' → ∃ m', m' < m ∧ W (i + 1) m' H') ∧ ∀ x H', J.yld i H x H' → gT K t x (L2.wipe σ vs) H' fun σ2 H2 => L2.wipe σ2 vs = L2.wipe σ vs ∧ tDT K E0 tt σ2 H2 fun b H3 =>
        if b = true then tDF K E0 me σ2 H3 fun y H4 => ∃ acc, H4 D0 = some (.lst acc) ∧ acc.length < sizeLine ∧ Nx (upd H4 D0 (.lst (acc ++ [y]))) else Nx H3) := by
  have nD : D0 ∉ A ++ own ρ := fun h => R1.all D0 h hD
  obtain ⟨eo, nw⟩ := wipeD_own no (vs := vs) fun _ h => h
  have Rw := (R1.wipe vs).1
  generalize hB : A ++ own ρ = B at nD q hsrc
  have hBw : A ++ own (wipeD ρ vs) = B := by rw [eo]; exact hB
  generalize wipeD ρ vs = ρw at z eo nw Rw hBw
  -- what is hidden when the trees ts are made
  let Ab := fun (ts : List OT) => (D0 :: OT.adrs ts) ++ A
  have hmem : ∀ ts a, a ∈ Ab ts ++ own ρw ↔ a = D0 ∨ a ∈ OT.adrs ts ∨ a ∈ B := by
    intro ts a
    show a ∈ ((D0 :: OT.adrs ts) ++ A) ++ own ρw ↔ _
    rw [List.append_assoc, hBw, List.mem_append, List.mem_cons, or_assoc]
  have hE : hide (Ab [] ++ own ρw) (upd H1 D0 (.lst [])) = hide B H1 := by
    rw [hide_upd_in ((hmem [] D0).mpr (.inl rfl))]
    funext b
    by_cases hb : b = D0
    · subst hb; rw [hide_in ((hmem [] _).mpr (.inl rfl)), hide_out nD, hD]
    · unfold hide
      by_cases hb2 : b ∈ B
      · rw [if_pos ((hmem [] _).mpr (.inr (.inr hb2))), if_pos hb2]
      · rw [if_neg (fun z => ((hmem [] _).mp z).elim hb fun z => z.elim List.not_mem_nil hb2), if_neg hb2]
  let Rel := fun (ts : List OT) (j : Nat) (H' : Hp) => k ≤ j ∧ (∀ d v, rep K k (hide B H1) d v → rep K j (hide (Ab ts ++ own ρw) H') d v) ∧ (∀ a ∈ B, H' a = H1 a) ∧ (OT.adrs ts).Nodup ∧ (∀ a ∈ OT.adrs ts, a ≠ D0 ∧ a ∉ B)
  have mkRE : ∀ {ts : List OT} {j : Nat} {H' : Hp} {acc : List V}, Rel ts j H' → H' D0 = some (.lst acc) → repOs K (Ab ts ++ own ρw) j H' ts acc → RE K (Ab ts) ρw j (L2.wipe σ vs) H' := by
    intro ts j H' acc rel hA rr
    obtain ⟨_, rel2, rel3, rel4, rel5⟩ := rel
    refine ⟨fun i e he => ?_, Rw.nd, fun a ha hm => ?_, fun a ha => ?_, Rw.ln⟩
    · have x := Rw.sl i e he
      rw [hBw] at x
      cases e with
      | no => trivial
      | sh d => obtain ⟨v, e1, r⟩ := x; exact ⟨v, e1, rel2 d v r⟩
      | slf a C ks ds => obtain ⟨dx, ws, e1, e2, e3, r⟩ := x; exact ⟨dx, ws, e1, (rel3 a (by rw [← hBw]; exact List.mem_append_right _ (mem_own he List.mem_cons_self))).trans e2, e3, reps_of rel2 r⟩
      | ow t =>
        obtain ⟨v, e1, r⟩ := x
        exact ⟨v, e1, repO_mv rel2 rel3 t v (fun a ha => by rw [← hBw]; exact List.mem_append_right _ (mem_own he ha)) r⟩
    · have hb : a ∈ B := by rw [← hBw]; exact List.mem_append_right _ ha
      rcases List.mem_append.mp hm with z | z
      · rcases List.mem_cons.mp z with z | z
        · exact nD (by rw [← z]; exact hb)
        · exact (rel5 a z).2 hb
      · exact Rw.ap a ha z
    · rcases List.mem_append.mp ha with z | z
      · rcases List.mem_cons.mp z with z | z
        · rw [z, hA]; exact fun z => nomatch z
        · obtain ⟨us, e⟩ := repOs_there ts acc rr a z
          rw [e]; exact fun z => nomatch z
      · rw [rel3 a (by rw [← hBw]; exact List.mem_append_left _ z)]
        exact R1.al a z
  refine ⟨fun i m H' => m = ds.length - i ∧ i ≤ ds.length ∧ ∃ j acc ts, Rel ts j H' ∧ H' D0 = some (.lst acc) ∧ repOs K (Ab ts ++ own ρw) j H' ts acc ∧ acc.length ≤ i ∧ lcF t tt me ρw (ds.drop i) j (fun ts' j => ∀ a, Qd a (ts ++ ts') j),
    ⟨ds.length, by simp, Nat.zero_le _, k, [], [], ⟨Nat.le_refl _, fun d v r => by rw [hE]; exact r, fun a ha => upd_ne fun e => nD (by rw [← e]; exact ha), List.nodup_nil, fun a h => absurd h List.not_mem_nil⟩, upd_same, rfl, Nat.le_refl _, z⟩, ?_⟩
  rintro i m H' ⟨rfl, hi, j, acc, ts, rel, hA, rr, hl, z⟩
  have R' := mkRE rel hA rr
  have src' : ∀ p ∈ src, rep K j (hide (Ab ts ++ own ρw) H') p.1 p.2 := fun p hp => rel.2.1 _ _ (hsrc p hp)
  by_cases hlt : i < ds.length
  · refine .inr ⟨w.go i _ j H' hlt src', fun H'' => ∃ j acc ts, Rel ts j H'' ∧ H'' D0 = some (.lst acc) ∧ repOs K (Ab ts ++ own ρw) j H'' ts acc ∧ acc.length ≤ i + 1 ∧ lcF t tt me ρw (ds.drop (i + 1)) j (fun ts' j => ∀ a, Qd a (ts ++ ts') j),
      fun H'' h => ⟨ds.length - (i + 1), by omega, rfl, hlt, h⟩, fun x H2 y => ?_⟩
    obtain ⟨s2, d, ed, rd⟩ := w.yld i _ j H' x H2 R'.all hlt src' y
    have R2 := R'.step s2
    rw [List.drop_eq_getElem_cons hlt] at z
    have ed' : ds[i] = d := by rw [List.getElem?_eq_getElem hlt] at ed; exact Option.some.inj ed
    rw [ed'] at z
    unfold lcF at z
    cases ea : asg t d ρw with
    | none => rw [ea] at z; exact z.elim
    | some ρ2 =>
      rw [ea] at z
      have eo2 : Ab ts ++ own ρ2 = Ab ts ++ own ρw := by rw [asg_own nw hv ea]
      have step : ∀ {j2 : Nat} {H3 : Hp}, Step K (Ab ts ++ own ρw) j H' j2 H3 → Rel ts j2 H3 := fun {j2 H3} s => ⟨Nat.le_trans rel.1 s.le, fun d v r => s.rep _ _ (rel.2.1 d v r), fun a ha => (s.same a ((hmem ts a).mpr (.inr (.inr ha)))).trans (rel.2.2.1 a ha), rel.2.2.2⟩
      have inD : D0 ∈ Ab ts ++ own ρw := (hmem ts D0).mpr (.inl rfl)
      have inT : ∀ a ∈ OT.adrs ts, a ∈ Ab ts ++ own ρw := fun a h => (hmem ts a).mpr (.inr (.inl h))
      refine gT_of' R2 rd ea fun σ2 R3 hw => ⟨(hw vs hv).trans wipe_idem, ?_⟩
      refine tDT.run' ht R3 z (fun x j z => z.elim) fun b j2 H3 s3 z => ?_
      rw [eo2] at s3
      have s23 := s2.trans s3
      cases b with
      | false => exact ⟨j2, acc, ts, step s23, (s23.same D0 inD).trans hA, repOs_step s23 ts acc inT rr, by omega, z⟩
      | true =>
        refine tDF.run' hm (R3.step (by rw [eo2]; exact s3)) z (fun x j z => z.elim) fun u j3 v H4 nwt z => ?_
        rw [eo2] at nwt
        have nw4 := Nw.step s23 nwt
        have hA4 := (nw4.same D0 inD).trans hA
        have el := w.len
        have hm4 : ∀ a, a ∈ Ab (ts ++ [u]) ++ own ρw ↔ a ∈ (Ab ts ++ own ρw) ++ u.adr := by
          intro a
          rw [hmem, List.mem_append, hmem, adrs_app, List.mem_append, show OT.adrs [u] = u.adr from by rw [OT.adrs, OT.adrs, List.append_nil]]
          constructor
          · rintro (h | (h | h) | h)
            · exact .inl (.inl h)
            · exact .inl (.inr (.inl h))
            · exact .inr h
            · exact .inl (.inr (.inr h))
          · rintro ((h | h | h) | h)
            · exact .inl h
            · exact .inr (.inl (.inl h))
            · exact .inr (.inr h)
            · exact .inr (.inl (.inr h))
        have hh : hide (Ab (ts ++ [u]) ++ own ρw) (upd H4 D0 (.lst (acc ++ [v]))) = hide (Ab (ts ++ [u]) ++ own ρw) H4 := hide_upd_in ((hmem _ D0).mpr (.inl rfl))
        have hs4 : ∀ a ∈ Ab (ts ++ [u]) ++ own ρw, a ∈ (Ab ts ++ own ρw) ++ u.adr := fun a h => (hm4 a).mp h
        have uD : ∀ a ∈ u.adr, a ≠ D0 ∧ a ∉ B := fun a ha => ⟨fun e => nwt.ap a ha (by rw [e]; exact inD), fun z => nwt.ap a ha ((hmem ts a).mpr (.inr (.inr z)))⟩
        have off : ∀ {ws : List OT} {xs : List V}, (∀ a ∈ OT.adrs ws, a ≠ D0) → repOs K ((Ab ts ++ own ρw) ++ u.adr) j3 H4 ws xs → repOs K (Ab (ts ++ [u]) ++ own ρw) j3 (upd H4 D0 (.lst (acc ++ [v]))) ws xs := fun {ws xs} h r =>
          repOs_off ((hmem _ D0).mpr (.inl rfl)) _ _ (fun z => h D0 z rfl) (repOs_less hs4 _ _ r)
        refine ⟨acc, hA4, by omega, j3, acc ++ [v], ts ++ [u], ⟨Nat.le_trans rel.1 nw4.le, fun d v r => by rw [hh]; exact rep_grow (hide_sub hs4) (nw4.rep _ _ (rel.2.1 d v r)), fun a ha => by rw [upd_ne fun e => nD (by rw [← e]; exact ha)]; exact (nw4.same a ((hmem ts a).mpr (.inr (.inr ha)))).trans (rel.2.2.1 a ha), ?_, fun a ha => ?_⟩, upd_same, ?_, by rw [List.length_append]; exact Nat.succ_le_succ hl, ?_⟩
        · rw [adrs_app]
          refine List.nodup_append.mpr ⟨rel.2.2.2.1, by rw [OT.adrs, OT.adrs, List.append_nil]; exact nwt.nd, fun a ha b hb e => ?_⟩
          rw [OT.adrs, OT.adrs, List.append_nil] at hb
          exact nwt.ap b hb (inT b (e ▸ ha))
        · rw [adrs_app, OT.adrs, OT.adrs, List.append_nil] at ha
          exact (List.mem_append.mp ha).elim (fun h => rel.2.2.2.2 a h) fun h => uD a h
        · refine off (fun a ha => ?_) (repOs_app (repOs_mv nw4.rep nw4.same ts acc inT rr) ⟨v, [], rfl, nwt.is, rfl⟩)
          rw [adrs_app, OT.adrs, OT.adrs, List.append_nil] at ha
          exact (List.mem_append.mp ha).elim (fun h => (rel.2.2.2.2 a h).1) fun h => (uD a h).1
        · have e : (fun (ts' : List OT) (j : Nat) => ∀ a, Qd a (ts ++ [u] ++ ts') j) = fun ts' j => ∀ a, Qd a (ts ++ (u :: ts')) j := by
            funext ts' j
            rw [List.append_assoc]; rfl
          rw [e]
          exact z
  · have e : i = ds.length := by omega
    subst e
    rw [List.drop_length] at z
    have z : ∀ a, Qd a (ts ++ []) j := z
    rw [List.append_nil] at z
    have hs : ∀ a, a ∈ B ++ (OT.node D0 ts).adr ↔ a ∈ Ab ts ++ own ρw := by
      intro a
      rw [hmem, List.mem_append, OT.adr, List.mem_cons]
      constructor
      · rintro (h | h | h)
        · exact .inr (.inr h)
        · exact .inl h
        · exact .inr (.inl h)
      · rintro (h | h | h)
        · exact .inr (.inl h)
        · exact .inr (.inr h)
        · exact .inl h
    refine .inl ⟨w.stop _ j H' src', q D0 ts j H' ⟨rel.1, fun d v r => rep_grow (hide_sub fun a h => (hs a).mp h) (rel.2.1 d v r), rel.2.2.1, ?_, fun a ha => ?_, rfl, acc, hA, repOs_less (fun a h => (hs a).mp h) _ _ rr⟩ (z D0)⟩
    · rw [OT.adr]
      exact List.nodup_cons.mpr ⟨fun z => (rel.2.2.2.2 _ z).1 rfl, rel.2.2.2.1⟩
    · rw [OT.adr] at ha
      rcases List.mem_cons.mp ha with z | z
      · rw [z]; exact nD
      · exact (rel.2.2.2.2 a z).2
section
variable {X : Cx} {E : XK} {elt tg iter : Expr} {ifs : List Expr} {scope : Scope} {own' : List (Str × Nat)} {pos : Pos} {t : Tgt} {mi : WI} {tt : WT} {me : WF}
theorem mono_lcF {vs : List Nat} (hi : Mono mi) (ht : Mono tt) (hm : Mono me) : Mono (fLc t mi tt me vs) := fun ρ n Q Q' E E' hq he z => ⟨z.1, hi ρ n _ _ _ _ (fun ds k z => lcF_mono ht hm ds k _ _ (fun rs j z a => hq _ _ (z a)) z) he z.2⟩
theorem lcF_imp (hi : DI X E tg iter mi) (ht : Mono tt) (hm : Mono me) (hv : ∀ i ∈ t.slots, i ∈ own'.map (·.2)) (σ : L2.St) (H : Hp) (Q : VK) (z : tDF X.K E (fLc t mi tt me (own'.map (·.2))) σ H Q) :
    tLc (iD X.K E mi) (gT X.K t) (tDT X.K E0 tt) (tDF X.K E0 me) (own'.map (·.2)) σ H Q := by
  obtain ⟨A, ρ, n, R, no, z⟩ := z
  refine ⟨A, ρ, n, R, hi.mono ρ n _ _ _ _ (fun ds k z J H1 src s w hsrc D0 hD => ?_) (fun _ _ z => z) z⟩
  exact lcF_run (Qd := fun a ts j => ∀ v H', Nw X.K (A ++ own ρ) n H j H' (.node a ts) v → Q v H') ht hm hv (noOw_iff no) (R.step s) w hsrc z (fun a ts j H' nw q => q (.ref a) H' (Nw.step s nw)) D0 hD
theorem df_lc (hc : X.calm = true) (hN : X.N.Nodup) (hi : DI X E tg iter mi) (ok : BlkOk X.N X.env.scope scope own')
    (hg : ∀ (s : Shared) (H : Hp) (C : Addr) (cl : List (Str × Addr)) (fp : List Addr), DG (X.blk s H scope (compEnvC scope cl C X.env) fp) tg t)
    (ht : ∀ (s : Shared) (H : Hp) (C : Addr) (cl : List (Str × Addr)) (fp : List Addr), DTs (X.blk s H scope (compEnvC scope cl C X.env) fp) E0 ifs tt)
    (he : ∀ (s : Shared) (H : Hp) (C : Addr) (cl : List (Str × Addr)) (fp : List Addr), DF (X.blk s H scope (compEnvC scope cl C X.env) fp) E0 elt me) (hv : ∀ i ∈ t.slots, i ∈ own'.map (·.2) := by decide) (hs : ∀ x, foldedSetIterable iter X.env x = pure x := by intro _; rfl) :
    DF X E (.ListComp elt [⟨tg, iter, ifs, 0⟩] scope pos) (fLc t mi tt me (own'.map (·.2))) :=
  have mt : Mono tt := (ht X.s_0 (fun _ => none) 0 [] []).mono
  have mm : Mono me := (he X.s_0 (fun _ => none) 0 [] []).mono
  ⟨mono_lcF hi.mono mt mm, (pe_lc (g := gT X.K t) (tt := tDT X.K E0 tt) (te := tDF X.K E0 me) hc hN hi.pi ok (fun s H C cl fp => (hg s H C cl fp).pg) (fun s H C cl fp => (ht s H C cl fp).pts) (fun s H C cl fp => (he s H C cl fp).pe) hs).imp (lcF_imp hi mt mm hv)⟩
theorem ds_setLcF {y : Str} {py spos : Pos} (i : Nat) (hc : X.calm = true) (hN : X.N.Nodup) (hi : DI X E tg iter mi) (ok : BlkOk X.N X.env.scope scope own')
    (hg : ∀ (s : Shared) (H : Hp) (C : Addr) (cl : List (Str × Addr)) (fp : List Addr), DG (X.blk s H scope (compEnvC scope cl C X.env) fp) tg t)
    (ht : ∀ (s : Shared) (H : Hp) (C : Addr) (cl : List (Str × Addr)) (fp : List Addr), DTs (X.blk s H scope (compEnvC scope cl C X.env) fp) E0 ifs tt)
    (he : ∀ (s : Shared) (H : Hp) (C : Addr) (cl : List (Str × Addr)) (fp : List Addr), DF (X.blk s H scope (compEnvC scope cl C X.env) fp) E0 elt me) (hv : ∀ i ∈ t.slots, i ∈ own'.map (·.2) := by decide)
    (hy : X.N[i]? = some y := by rfl) (hyl : X.env.scope.names.lookup y = some .local := by rfl) (hsw : swapsWith (.ListComp elt [⟨tg, iter, ifs, 0⟩] scope pos) (some (.Name y py)) spos.line X.env = pure true := by exact sw_true rfl rfl rfl (by decide +kernel)) (hs : ∀ x, foldedSetIterable iter X.env x = pure x := by intro _; rfl) :
    DS X E (.Assign [.Name y py] (.ListComp elt [⟨tg, iter, ifs, 0⟩] scope pos) spos) (sSetF i (fLc t mi tt me (own'.map (·.2)))) := by
  have mt : Mono tt := (ht X.s_0 (fun _ => none) 0 [] []).mono
  have mm : Mono me := (he X.s_0 (fun _ => none) 0 [] []).mono
  have mono := mono_lcF (t := t) (vs := own'.map (·.2)) hi.mono mt mm
  refine ⟨fun ρ n D D' le z => mono ρ n _ _ _ _ (fun t k z => le.nx _ _ z) le.ex z, (ps_setLc (i := i) (g := gT X.K t) (tt := tDT X.K E0 tt) (te := tDF X.K E0 me) hc hN hy hyl hsw hi.pi ok (fun s H C cl fp => (hg s H C cl fp).pg) (fun s H C cl fp => (ht s H C cl fp).pts) (fun s H C cl fp => (he s H C cl fp).pe) hs).imp fun D σ H z => ?_⟩
  obtain ⟨A, ρ, n, R, z⟩ := z
  refine lcF_imp hi mt mm hv σ H _ (tDF.run' mono R z (fun x j z => ex_eP (D := D) x j z) fun t k v H' w q => ?_)
  obtain ⟨R2, m2⟩ := R.setF i w
  exact q _ H' R2 m2
end
end DL

set_option Elab.async false
set_option linter.all false
set_option maxRecDepth 100000
set_option maxHeartbeats 4000000
namespace DL
open PySem PySem.Spec PyProof.Rows L2

/-! ### instances are made -/
def slE (o : Option Ent) (C : Addr) (k : Addr → List Str → List D → Prop) : Prop := match o with
  | some (.slf a C' ks ds) => C' = C ∧ k a ks ds
  | _ => False
theorem slE_some {o : Option Ent} {C : Addr} {k : Addr → List Str → List D → Prop} (h : slE o C k) : ∃ a ks ds, o = some (.slf a C ks ds) ∧ k a ks ds := by
  unfold slE at h
  split at h
  · obtain ⟨rfl, h⟩ := h; exact ⟨_, _, _, rfl, h⟩
  · exact h.elim
theorem slE_mono {o : Option Ent} {C : Addr} {k k' : Addr → List Str → List D → Prop} (i : ∀ a ks ds, k a ks ds → k' a ks ds) (h : slE o C k) : slE o C k' := by
  obtain ⟨a, ks, ds, rfl, h⟩ := slE_some h
  exact ⟨rfl, i _ _ _ h.2⟩
/-- self.f in the making -/
def dSelf (i : Nat) (C : Addr) (f : Str) : WE := fun ρ n Q _ => slE ρ[i]? C fun _ ks ds => match fieldD f ks ds with | some d => Q d n | none => False
theorem de_self (i : Nat) {X : Cx} {E : XK} {pos p : Pos} {f : Str} {C : Addr} {x : Str} (cl : Cls X.K C) (nf : NoAttr X.K C f) (hN : X.N[i]? = some x := by rfl) (hv : Vis X.env.scope x := by first | exact Or.inl rfl | exact Or.inr (Or.inl rfl) | exact Or.inr (Or.inr rfl)) (hd : (x == ("__debug__" : Str)) = false := by decide)
    (hcd : (x == ("__classdict__" : Str)) = false := by decide) (hb : attributeBase (.Name x p) f X.env (eval (.Name x p) X.env) = eval (.Name x p) X.env := by rfl) : DE X E (.Attribute (.Name x p) f pos) (dSelf i C f) := by
  refine ⟨fun ρ n Q Q' E E' hq he h => slE_mono (fun a ks ds z => ?_) h, (pe_fld (pe_var (i := i) hN hv hd hcd) hb).imp fun σ H Q h => ?_⟩
  · cases e : fieldD f ks ds with
    | none => rw [e] at z; exact z
    | some d => rw [e] at z; exact hq _ _ z
  · obtain ⟨A, ρ, n, R, h⟩ := h
    obtain ⟨a, ks, ds, e, q⟩ := slE_some h
    obtain ⟨dx, ws, e1, e2, e3, r⟩ := R.sl i _ e
    cases e4 : fieldD f ks ds with
    | none => rw [e4] at q; exact q.elim
    | some d =>
      rw [e4] at q
      obtain ⟨w, l, rw'⟩ := field_rep e3 r e4
      exact ⟨.ref a, e1, a, C, dx, ws, w, rfl, e2, cl, nf, l, q w H Step.refl rw'⟩
theorem putF_new {f : Str} {v : V} : ∀ {ws : List (Str × V)}, f ∉ ws.map (·.1) → putF f v ws = ws ++ [(f, v)]
  | [], _ => rfl
  | (g, x) :: r, h => by
    rw [List.map_cons, List.mem_cons, not_or] at h
    unfold putF
    rw [if_neg (Ne.symm h.1), putF_new h.2]; rfl
/-- the slots behind a store into the instance in the making -/
theorem RE.slf {K : PySem.W.Frag} {A : List Addr} {ρ : List Ent} {n : Nat} {σ : L2.St} {H : Hp} (R : RE K A ρ n σ H) {i : Nat} {a C dx : Addr} {ks ks' : List Str} {ds ds' : List D} {ws' : List (Str × V)} (hi : ρ[i]? = some (.slf a C ks ds))
    (e1 : ws'.map (·.1) = ks') (r' : reps K n (hide (A ++ own ρ) H) ds' (ws'.map (·.2))) :
    RE K A (ρ.set i (.slf a C ks' ds')) n σ (upd H a (.ins C dx ws')) ∧ Mv K A (A ++ own ρ) n H (A ++ own (ρ.set i (.slf a C ks' ds'))) n (upd H a (.ins C dx ws')) := by
  have hao : a ∈ own ρ := mem_own hi List.mem_cons_self
  have haA : a ∉ A := R.ap a hao
  have haB : a ∈ A ++ own ρ := List.mem_append_right _ hao
  have eo : own (ρ.set i (.slf a C ks' ds')) = own ρ := by
    have key : ∀ {ρ : List Ent} {i : Nat}, ρ[i]? = some (.slf a C ks ds) → own (ρ.set i (.slf a C ks' ds')) = own ρ := by
      intro ρ
      induction ρ with
      | nil => intro i h; cases h
      | cons x ρ ih =>
        intro i h
        unfold own
        cases i with
        | zero => cases h; rfl
        | succ i =>
          rw [List.set_cons_succ, List.flatMap_cons, List.flatMap_cons]
          have := ih (i := i) (by simpa using h)
          unfold own at this
          rw [this]
    exact key hi
  have off : ∀ {ρ : List Ent} {i j : Nat} {e : Ent}, (own ρ).Nodup → ρ[i]? = some (.slf a C ks ds) → ρ[j]? = some e → i ≠ j → a ∉ e.adr := by
    intro ρ
    induction ρ with
    | nil => intro i j e _ h; cases h
    | cons x ρ ih =>
      intro i j e nd h h' hne
      unfold own at nd
      rw [List.flatMap_cons] at nd
      obtain ⟨n1, n2, n3⟩ := List.nodup_append.mp nd
      cases i with
      | zero =>
        cases h
        cases j with
        | zero => exact absurd rfl hne
        | succ j => exact fun z => n3 a List.mem_cons_self a (mem_own (ρ := ρ) (by simpa using h') z) rfl
      | succ i =>
        cases j with
        | zero => cases h'; exact fun z => n3 a z a (mem_own (ρ := ρ) (e := .slf a C ks ds) (by simpa using h) List.mem_cons_self) rfl
        | succ j => exact ih n2 (by simpa using h) (by simpa using h') (fun e => hne (by rw [e]))
  have hrep : ∀ d v, rep K n (hide (A ++ own ρ) H) d v → rep K n (hide (A ++ own ρ) (upd H a (.ins C dx ws'))) d v := fun d v r => by rw [hide_upd_in haB]; exact r
  refine ⟨⟨fun j e h => ?_, by rw [eo]; exact R.nd, fun b hb => R.ap b (by rw [← eo]; exact hb), fun b hb => by rw [upd_ne fun e => haA (by rw [← e]; exact hb)]; exact R.al b hb, by rw [List.length_set]; exact R.ln⟩,
    Nat.le_refl _, fun d v r => by rw [eo]; exact hrep d v r, fun b hb => upd_ne fun e => haA (by rw [← e]; exact hb)⟩
  rw [eo]
  by_cases hj : i = j
  · subst hj
    rw [List.getElem?_set_self (List.getElem?_eq_some_iff.mp hi).1] at h
    cases h
    obtain ⟨dx0, ws0, ev, _⟩ := R.sl i _ hi
    exact ⟨dx, ws', ev, upd_same, e1, reps_of hrep r'⟩
  · rw [List.getElem?_set_ne hj] at h
    have q := R.sl j e h
    have hae := off R.nd hi h hj
    cases e with
    | no => trivial
    | sh d => obtain ⟨v, ev, r⟩ := q; exact ⟨v, ev, hrep _ _ r⟩
    | ow t => obtain ⟨v, ev, r⟩ := q; exact ⟨v, ev, repO_off haB t v hae r⟩
    | slf b C2 ks2 ds2 => obtain ⟨dx2, ws2, e1, e2, e3, r⟩ := q; exact ⟨dx2, ws2, e1, by rw [upd_ne fun z => hae (by rw [z]; exact List.mem_cons_self)]; exact e2, e3, reps_of hrep r⟩
/-- self.f = e in the making -/
def sSelf (i : Nat) (C : Addr) (f : Str) (m : WE) : WS := fun ρ n D => m ρ n (fun d k => slE ρ[i]? C fun a ks ds => (f ∉ ks ∧ ks.length < 1000) ∧ D.nx (ρ.set i (.slf a C (ks ++ [f]) (ds ++ [d]))) k) D.ex
theorem ds_self (i : Nat) {X : Cx} {E : XK} {pos p pos' : Pos} {f : Str} {C : Addr} {x : Str} {e : Expr} {m : WE} (h : DE X E e m) (cl : Cls X.K C) (nf : NoAttr X.K C f) (hs : swapsWith e (some (.Attribute (.Name x p) f pos')) pos.line X.env = pure false := by rfl)
    (hN : X.N[i]? = some x := by rfl) (hv : Vis X.env.scope x := by first | exact Or.inl rfl | exact Or.inr (Or.inl rfl) | exact Or.inr (Or.inr rfl)) (hd : (x == ("__debug__" : Str)) = false := by decide)
    (hcd : (x == ("__classdict__" : Str)) = false := by decide) : DS X E (.Assign [.Attribute (.Name x p) f pos'] e pos) (sSelf i C f m) := by
  refine ⟨fun ρ n D D' le z => h.mono ρ n _ _ _ _ (fun d k z => slE_mono (fun a ks ds z => ⟨z.1, le.nx _ _ z.2⟩) z) le.ex z, (ps_fld (pe_var (i := i) hN hv hd hcd) h.pe hs).imp fun D σ H z => ?_⟩
  obtain ⟨A, ρ, n, R, z⟩ := z
  refine tD.st (D := D) h.mono R z fun d k v H' s R' r q => ?_
  obtain ⟨a, ks, ds, e1, ⟨nk, sk⟩, q⟩ := slE_some q
  obtain ⟨dx, ws, e2, e3, e4, rr⟩ := R'.sl i _ e1
  have hl : ws.length = ks.length := by rw [← e4, List.length_map]
  refine ⟨.ref a, e2, a, C, dx, ws, rfl, e3, cl, nf, by rw [hl]; exact sk, ?_⟩
  rw [putF_new (by rw [e4]; exact nk)]
  obtain ⟨R2, m2⟩ := RE.slf (dx := dx) (ws' := ws ++ [(f, v)]) (ks' := ks ++ [f]) (ds' := ds ++ [d]) R' e1 (by rw [List.map_append, e4]; rfl) (by rw [List.map_append]; exact reps_app rr (reps_one r))
  exact q _ _ R2 ((s.mv memA).trans m2)
/-- the promise of an __init__ -/
def spI (K : PySem.W.Frag) (C : Addr) (ar : Nat) (w : W) : Sp := fun vs H Q E => vs.length = ar + 1 ∧ ∃ A ds n x dx ws, (∀ a ∈ A, H a ≠ none) ∧ vs = .ref x :: ws ∧ x ∉ A ∧ H x = some (.ins C dx []) ∧ reps K n (hide (A ++ [x]) H) ds ws ∧
  w ds n (fun d k => ∀ H', Mv K A (A ++ [x]) n H A k H' → rep K k (hide A H') d (.ref x) → Q .non H') (eM K E A (A ++ [x]) n H)
def slI (o : Option Ent) (a C : Addr) (k : List Str → List D → Prop) : Prop := match o with
  | some (.slf b C' ks ds) => b = a ∧ C' = C ∧ k ks ds
  | _ => False
theorem slI_some {o : Option Ent} {a C : Addr} {k : List Str → List D → Prop} (h : slI o a C k) : ∃ ks ds, o = some (.slf a C ks ds) ∧ k ks ds := by
  unfold slI at h
  split at h
  · obtain ⟨rfl, rfl, h⟩ := h; exact ⟨_, _, rfl, h⟩
  · exact h.elim
def initEnds (a C : Addr) (Q : DK) (E : EK) : DEn := ⟨fun ρ k => slI ρ[0]? a C fun ks ds => Q (.obj C ks ds) k, fun _ _ => False, fun _ _ => False, fun _ _ => False, E⟩
def startI (N : List Str) (a C : Addr) (ds : List D) : List Ent := .slf a C [] [] :: (ds.map Ent.sh ++ List.replicate (N.length - (ds.length + 1)) .no)
theorem own_startI (N : List Str) (a C : Addr) (ds : List D) : own (startI N a C ds) = [a] := by
  have h1 : (ds.map Ent.sh).flatMap Ent.adr = [] := by
    induction ds with
    | nil => rfl
    | cons d ds ih => rw [List.map_cons, List.flatMap_cons, ih]; rfl
  have h2 : ∀ m, (List.replicate m Ent.no).flatMap Ent.adr = [] := by
    intro m
    induction m with
    | zero => rfl
    | succ m ih => rw [List.replicate_succ, List.flatMap_cons, ih]; rfl
  unfold own startI
  rw [List.flatMap_cons, List.flatMap_append, h1, h2]; rfl
theorem re_startI {K : PySem.W.Frag} {A : List Addr} {N : List Str} {ds : List D} {ws : List V} {n : Nat} {H : Hp} {x C dx : Addr} (hA : ∀ a ∈ A, H a ≠ none) (hx : x ∉ A) (hH : H x = some (.ins C dx [])) (r : reps K n (hide (A ++ [x]) H) ds ws) :
    RE K A (startI N x C ds) n (L2.start N (.ref x :: ws)) H := by
  have eo := own_startI N x C ds
  have el := reps_len r
  refine ⟨fun i e he => ?_, by rw [eo]; exact List.nodup_cons.mpr ⟨List.not_mem_nil, List.nodup_nil⟩, fun a ha => by rw [eo] at ha; rw [List.mem_singleton.mp ha]; exact hx, hA, ?_⟩
  · rw [eo]
    unfold startI at he
    cases i with
    | zero => cases he; exact ⟨dx, [], rfl, hH, rfl, rfl⟩
    | succ i =>
      rw [List.getElem?_cons_succ] at he
      have hs : (L2.start N (V.ref x :: ws))[i + 1]? = (ws.map some ++ List.replicate (N.length - (ws.length + 1)) none)[i]? := by
        unfold L2.start
        rw [List.map_cons, List.cons_append, List.getElem?_cons_succ, List.length_cons]
      rw [hs]
      by_cases hi : i < ds.length
      · rw [List.getElem?_append_left (by rw [List.length_map]; exact hi), List.getElem?_map] at he
        cases e1 : ds[i]? with
        | none => rw [e1] at he; cases he
        | some d =>
          rw [e1] at he
          cases he
          obtain ⟨v, e2, rv⟩ := reps_get r e1
          refine ⟨v, ?_, rv⟩
          rw [List.getElem?_append_left (by rw [List.length_map, el]; exact hi), List.getElem?_map, e2]; rfl
      · rw [List.getElem?_append_right (by rw [List.length_map]; omega), List.getElem?_replicate] at he
        split at he
        · cases he; trivial
        · cases he
  · unfold startI L2.start
    rw [List.length_cons, List.length_append, List.length_append, List.length_map, List.length_map, List.length_replicate, List.length_replicate, List.length_cons, el]
    omega
section
variable {P : Program} {w : World} {K : PySem.W.Frag} {mg : Str → Option Value} {base : Heap}
theorem initRun {X : Cx} {E : XK} {sts : List Stmt} {m : WS} {C : Addr} {N : List Str} (hm : DSs X E sts m) {A : List Addr} {ds : List D} {n : Nat} {x dx : Addr} {ws : List V} {H : Hp} {Q : VK} {D : Ends} (hA : ∀ a ∈ A, H a ≠ none) (hx : x ∉ A) (hH : H x = some (.ins C dx [])) (r : reps X.K n (hide (A ++ [x]) H) ds ws)
    (z : m (startI N x C ds) n (initEnds x C (fun d k => ∀ H', Mv X.K A (A ++ [x]) n H A k H' → rep X.K k (hide A H') d (.ref x) → Q .non H') (eM X.K E A (A ++ [x]) n H))) (hD : ∀ σ' H', Q .non H' → D.nx σ' H') :
    tS X.K E m D (L2.start N (.ref x :: ws)) H := by
  have eo := own_startI N x C ds
  refine ⟨A, startI N x C ds, n, re_startI hA hx hH r, hm.mono _ n (initEnds x C _ _) _ ⟨fun ρ k z σ' H' R m => ?_, fun d k z => False.elim z, fun _ _ z => False.elim z, fun _ _ z => False.elim z, fun x k z dx H' m r => ?_⟩ z⟩
  · rw [eo] at m
    refine hD σ' H' ?_
    obtain ⟨ks, fs, e, z⟩ := slI_some z
    obtain ⟨dx', ws', e1, e2, e3, rr⟩ := R.sl 0 _ e
    exact z H' (m.trans (Mv.less memA)) ⟨x, dx', ws', rfl, by rw [hide_out hx]; exact e2, e3, reps_tr ((hide_sub memA).tr (Nat.le_refl _)) _ _ rr⟩
  · rw [eo] at m
    exact z dx H' m r
/-- an __init__ that never raises -/
theorem fnI {x qual p : Str} {st : Stmt} {f : Addr} {fd : FuncData} {N ps : List Str} {k : Nat} {W : W} {C : Addr} (F : Fun K x qual st f fd) (S : FnScope N (p :: ps) (defScope st))
    (hbody : ∀ (cdv : Value) (A : Around) (outer : List Env) (s : Shared) (H : Hp) (E : XK), Room k (A.deeper (envOfC qual (defScope st) s.heap.objs.size f cdv)) →
      ∃ m, DSs (cxOf (L2.CX P w) P w K mg base N qual (defScope st) f cdv A outer s H E).nox E0 (defBody st) m ∧ ∀ a ds n Q Ex, ds.length = ps.length → W ds n Q Ex → m (startI N a C ds) n (initEnds a C Q fun _ _ => False)) :
    FnOk P w K mg base (L2.CX P w) (k + 1) f fd (p :: ps) (spI K C ps.length W) := by
  refine F.okX S (fun vs H Q E h => h.1) (fun cdv A outer s H vs Q E hr h => ?_)
  obtain ⟨m, hm, hq⟩ := hbody cdv A outer s H E hr
  refine ⟨_, hm.ps.nox, ?_⟩
  obtain ⟨hl, A', ds, n, x, dx, ws, hA, rfl, hx, hH, r, z⟩ := h
  have hq := hq x ds n _ _ (by rw [← reps_len r]; exact Nat.succ.inj hl) z
  have hq2 : m (startI N x C ds) n (initEnds x C (fun d k => ∀ H', Mv K A' (A' ++ [x]) n H A' k H' → rep K k (hide A' H') d (.ref x) → Q .non H') (eM K E0 A' (A' ++ [x]) n H)) :=
    hm.mono _ n _ _ (by exact ⟨fun _ _ z => z, fun _ _ z => z, fun _ _ z => z, fun _ _ z => z, fun _ _ z => False.elim z⟩) hq
  exact initRun hm hA hx hH r hq2 fun σ' H' q => q
/-- an __init__ that may raise -/
theorem fnIX {x qual p : Str} {st : Stmt} {f : Addr} {fd : FuncData} {N ps : List Str} {k : Nat} {W : W} {C : Addr} (F : Fun K x qual st f fd) (S : FnScope N (p :: ps) (defScope st))
    (hbody : ∀ (cdv : Value) (A : Around) (outer : List Env) (s : Shared) (H : Hp) (E : XK), Room k (A.deeper (envOfC qual (defScope st) s.heap.objs.size f cdv)) →
      ∃ m, DSs (cxOf (L2.CX P w) P w K mg base N qual (defScope st) f cdv A outer s H E) E (defBody st) m ∧ ∀ a ds n Q Ex, ds.length = ps.length → W ds n Q Ex → m (startI N a C ds) n (initEnds a C Q Ex)) :
    FnOk P w K mg base (L2.CX P w) (k + 1) f fd (p :: ps) (spI K C ps.length W) := by
  refine F.okX S (fun vs H Q E h => h.1) (fun cdv A outer s H vs Q E hr h => ?_)
  obtain ⟨m, hm, hq⟩ := hbody cdv A outer s H E hr
  refine ⟨_, hm.ps, ?_⟩
  obtain ⟨hl, A', ds, n, x, dx, ws, hA, rfl, hx, hH, r, z⟩ := h
  exact initRun hm hA hx hH r (hq x ds n _ _ (by rw [← reps_len r]; exact Nat.succ.inj hl) z) fun σ' H' q => q
end
/-- C(..) -/
theorem de_make {X : Cx} {E : XK} {pos p : Pos} {e : Expr} {es : List Expr} {m : WA} {w : W} {x : Str} {CX : CXT} {k : Nat} {C f : Addr} {fd : FuncData} {ps : List Str} {ar : Nat} (hw : Wm w) (M : Mk X.K C f) (F : FnOk X.prog X.w X.K X.mg X.base CX k f fd ps (spI X.K C ar w)) (hr : Room (k + 1) X.A) (hg : Gl X x) (hm : X.mg x = some (.ref C))
    (hb : Binds X.K fd ps []) (hx : Passes CX X E) (ha : DAn X E (e :: es) m) (hl : (e :: es).length = ar := by rfl) (hdb : (x == ("__debug__" : Str)) = false := by decide) (he : starEach (e :: es) X.env = (false, eval e X.env) :: starEach es X.env := by rfl) (hpl : (backTo pos (starEach es X.env)).any (·.1) = false := by rfl) :
    DE X E (.Call (.Name x p) (e :: es) [] pos) (dCall w m) := by
  refine ⟨mono_call hw ha.da.mono, (pe_make M F hr hg hm hb .nil hx ha.da.pa hdb he hpl).imp fun σ H Q z => ?_⟩
  obtain ⟨A, ρ, n, R, z⟩ := z
  refine tDA.run' ha.da.mono R (ha.len _ _ _ _ z) (fun _ _ z => z) fun ds k vs H1 s r q x dx hx hdx hne => ?_
  obtain ⟨q1, q⟩ := q
  have hB := (R.step s).all
  generalize A ++ own ρ = B at s r q hB
  have xB : x ∉ B := fun z => hB x z hx
  have dB : dx ∉ B := fun z => hB dx z hdx
  have g : Grow (hide B H1) (hide (B ++ [x]) (upd (upd H1 dx (.own x)) x (.ins C dx []))) := fun a o e => by
    obtain ⟨e1, e2⟩ := hide_some e
    have ax : a ≠ x := fun e => by rw [e, hx] at e2; cases e2
    have ad : a ≠ dx := fun e => by rw [e, hdx] at e2; cases e2
    rw [hide_out (fun z => (List.mem_append.mp z).elim e1 fun z => ax (List.mem_singleton.mp z)), upd_ne ax, upd_ne ad]
    exact e2
  have sm : ∀ a ∈ B, upd (upd H1 dx (.own x)) x (.ins C dx []) a = H1 a := fun a ha => by rw [upd_ne fun e => xB (by rw [← e]; exact ha), upd_ne fun e => dB (by rw [← e]; exact ha)]
  refine ⟨by rw [List.append_nil, List.length_cons, reps_len r, q1, hl], B, ds, k, x, dx, vs, fun a ha => by rw [sm a ha]; exact hB a ha, by rw [List.append_nil], xB, upd_same, reps_tr (g.tr (Nat.le_refl _)) _ _ r, ?_⟩
  have comp : ∀ {j : Nat} {H' : Hp}, Mv X.K B (B ++ [x]) k (upd (upd H1 dx (.own x)) x (.ins C dx [])) B j H' → Step X.K B n H j H' := fun {j H'} m =>
    s.trans ⟨m.le, fun d v r => m.rep d v (rep_grow g r), fun a ha => (m.same a ha).trans (sm a ha)⟩
  exact hw.mono ds k _ _ _ _ (fun d j q H' m r => ⟨rfl, q (.ref x) H' (comp m) r⟩) (fun x j z dx H' m r => z dx H' (comp m) r) q
end DL

set_option Elab.async false
set_option linter.all false
set_option maxRecDepth 100000
set_option maxHeartbeats 4000000
namespace DL
open PySem PySem.Spec PyProof.Rows L2

/-! ### == and != by an own __eq__ -/
/-- what a class with an own __eq__ must have -/
structure EqC (K : PySem.W.Frag) (C f : Addr) (cls : List Addr) : Prop where
  eq : PySem.W.findIn K (.ref C) "__eq__" = some (some (.ref f))
  ne : PySem.W.findIn K (.ref C) "__ne__" = some (some (.builtin "object.__ne__"))
  mro : PySem.W.mroIn K C (.type "object") = some true
  fn : PySem.W.isFn K (.ref f) = true
  nf : ∀ C' ∈ cls, PySem.W.notFirst K C (.ref C') = true
section
variable {X : Cx} {n : Nat} {CX : CXT} {C f : Addr} {fd : FuncData} {ps : List Str} {sp : Sp} {E : XK} {cls : List Addr}
theorem run_at (F : FnOk X.prog X.w X.K X.mg X.base CX n f fd ps sp) (hb : Binds X.K fd ps []) (hx : Passes CX X E) {A : Around} (sb : L2.Sub X n A) {pins : List (Addr × Obj)} {σ : L2.St} {H : Hp} {s : Shared} (I : Inv X pins σ H s) {vs : List V} {us : List Value} {Q : VK} (r : Vals vs us) (q : sp vs H Q E) :
    wpAny (model X.prog X.w) A (call (.ref f) us) (EP X pins σ Q) X.xe s := by
  have e0 : Env0 X.prog X.w X.K X.mg X.base A X.stack s H := by
    have e := I.env0
    exact ⟨by rw [sb.fr]; exact e.frames, e.mod, e.bs, e.bsz, e.funs, e.frf, e.hok, e.bare⟩
  have hl := F.len _ _ _ _ q
  refine wpAny_call (codeAny_mono (F.run A X.stack s H ⟨us, []⟩ us vs _ E sb.room e0 (by
    have := hb s us I.kIn (by rw [List.append_nil, ← hl, r.length])
    simpa using this) r q) fun r s' hq => ?_)
  cases r with
  | error e => exact hx pins σ H s e s' I hq
  | ok fl =>
    cases fl with
    | ret w => exact I.after hq
    | next => exact False.elim hq
    | brk => exact False.elim hq
    | cont => exact False.elim hq
def rOwn (C : Addr) (cls : List Addr) (sp : Sp) (E : XK) (neg : Bool) : R2 := fun x y H Q => (∃ a dx fs, x = .ref a ∧ H a = some (.ins C dx fs)) ∧ (∃ b C' dy gs, y = .ref b ∧ H b = some (.ins C' dy gs) ∧ C' ∈ cls) ∧
  sp [x, y] H (fun v H' => ∃ c, v = .bl c ∧ Q (.bl (if neg then !c else c)) H') E
theorem op_ownEq (F : FnOk X.prog X.w X.K X.mg X.base CX n f fd ps sp) (T : EqC X.K C f cls) (hb : Binds X.K fd ps []) (hx : Passes CX X E) (hr : Room n X.A) : OpR X (compareOp .Eq) (rOwn C cls sp E false) := by
  intro pins s σ H x y v u Q I rx ry h
  obtain ⟨⟨a, dx, fs, rfl, ha⟩, ⟨b, C', dy, gs, rfl, hb', hc⟩, q⟩ := h
  cases rx
  cases ry
  show wpAny (model X.prog X.w) X.A (richCompare .Eq (.ref a) (.ref b)) (EP X pins σ Q) X.xe s
  obtain ⟨mA, J, _⟩ := ins_get I.hok ha
  obtain ⟨mB, J', _⟩ := ins_get I.hok hb'
  obtain ⟨od, J, _⟩ := J.look
  obtain ⟨od', J', _⟩ := J'.look
  obtain ⟨m, hF⟩ := I.fr
  refine PySem.W.cmp_K (op := .Eq) (tb := .ref C') hr.units0 hF I.ok.mod.kin J J'.type (T.nf C' hc) T.eq T.fn ?_
  refine wpAny_mono (run_at F hb hx ⟨hr, rfl⟩ I (vs := [.ref a, .ref b]) (us := [.ref a, .ref b]) (.cons rfl (.cons rfl .nil)) q) (fun w s' z => ?_) fun _ _ e => e
  obtain ⟨z, H', I', rz, c, rfl, q⟩ := z
  cases rz
  exact ⟨.bl c, H', I', rfl, q⟩
theorem ifBound_ne {M : Model} {A : Around} {E : Value → Shared → Prop} {s : Shared} {K : PySem.W.Frag} {x C : Addr} {ox : Obj} {od : Option Obj} {args : List Value} {Q : Option Value → Shared → Prop} (X : K.In s.heap) (I : PySem.W.InstAt s.heap x ox C od) (hs : PySem.W.findIn K (.ref C) "__ne__" = some (some (.builtin "object.__ne__")))
    (h : wpAny M A (call (.builtin "object.__ne__") (.ref x :: args)) (fun v => Q (some v)) E s) : wpAny M A (callSpecialIfBound? (.ref x) "__ne__" args) Q E s := by
  simp only [callSpecialIfBound?, bindSpecialIfBound?]
  refine wpAny_holding (wpAny_bind (wpAny_bind (wpAny_bind (I.type.here ((PySem.W.looks_findIn X hs).here ?_)))))
  refine wpAny_bind (wpAny_askSetting (wpAny_ite ?_))
  have fin : wpAny M A (call (.builtin "object.__ne__") ([.ref x] ++ args) >>= fun v => pure (some v)) Q E s := wpAny_bind (wpAny_mono h (fun v s' h' => wpAny_pure h') fun _ _ h' => h')
  split
  · exact wpAny_bind (wpAny_of_eq (F.cmp_object.ne.bind _) (wpAny_pure (by exact fin)))
  · exact wpAny_tryCatch (wpAny_bind (wpAny_of_eq (F.cmp_object.ne.bind _) (wpAny_pure (by exact fin))))
theorem entry_ne {prog : Program} {w : World} {A : Around} {E : Value → Shared → Prop} {K : PySem.W.Frag} {x C f : Addr} {b : Value} {ox : Obj} {od : Option Obj} {s : Shared} {Q : Fin → Shared → Prop} (hu : A.units < cLine) (X : K.In s.heap) (I : PySem.W.InstAt s.heap x ox C od)
    (hs : PySem.W.findIn K (.ref C) "__eq__" = some (some (.ref f))) (hf : PySem.W.isFn K (.ref f) = true)
    (hcall : wpAny (model prog w) A (call (.ref f) [.ref x, b]) (fun v s' => ∃ c, v = .bool c ∧ Q (.done (.ret (.bool (!c)))) s') E s) :
    wpAny (model prog w) A (Builtin.«object.__ne__» ⟨[.ref x, b], []⟩) Q E s := by
  obtain ⟨h, g, d, t, os⟩ := s
  unfold Builtin.«object.__ne__»
  repeat (first
    | with_reducible refine wpAny_cRoomFor hu ?_
    | (refine wpAny_bind (m := callSpecialIfBound? (.ref x) (Str.ofString "__eq__") [b])
        (PySem.W.ifBound_K X I hs hf (wpAny_mono hcall (fun r s' hr => by
          obtain ⟨c, rfl, hq⟩ := hr
          repeat (first | exact hq | exact wpAny_pure hq | exact wpAny_truthy_bool hq | (refine wpAny_bind (m := truthy (.bool _)) (wpAny_truthy_bool ?_)) | wp_step)) fun _ _ e => e)))
    | wp_step)
theorem op_ownNe (F : FnOk X.prog X.w X.K X.mg X.base CX n f fd ps sp) (T : EqC X.K C f cls) (hb : Binds X.K fd ps []) (hx : Passes CX X E) (hr : Room (n + 1) X.A) : OpR X (compareOp .NotEq) (rOwn C cls sp E true) := by
  intro pins s σ H x y v u Q I rx ry h
  obtain ⟨⟨a, dx, fs, rfl, ha⟩, ⟨b, C', dy, gs, rfl, hb', hc⟩, q⟩ := h
  cases rx
  cases ry
  show wpAny (model X.prog X.w) X.A (richCompare .NotEq (.ref a) (.ref b)) (EP X pins σ Q) X.xe s
  obtain ⟨mA, J, _⟩ := ins_get I.hok ha
  obtain ⟨mB, J', _⟩ := ins_get I.hok hb'
  obtain ⟨od, J, _⟩ := J.look
  obtain ⟨od', J', _⟩ := J'.look
  obtain ⟨m, hF⟩ := I.fr
  have XK := I.kIn
  have hcall : wpAny (model X.prog X.w) X.A.in1 (call (.ref f) [.ref a, .ref b]) (fun v s' => ∃ c, v = .bool c ∧ EP X pins σ Q (.bool (!c)) s') X.xe s := by
    refine wpAny_mono (run_at F hb hx ⟨hr.in1, rfl⟩ I (vs := [.ref a, .ref b]) (us := [.ref a, .ref b]) (.cons rfl (.cons rfl .nil)) q) (fun w s' z => ?_) fun _ _ e => e
    obtain ⟨z, H', I', rz, c, rfl, q⟩ := z
    cases rz
    exact ⟨c, rfl, .bl (!c), H', I', rfl, q⟩
  have one : wpAny (model X.prog X.w) X.A (tryCompare (.ref a) (cmpInfo .NotEq).2.1 (.ref b)) (fun r s' => ∃ v, r = some v ∧ EP X pins σ Q v s') X.xe s := by
    unfold tryCompare
    refine wpAny_bind (ifBound_ne XK J T.ne (wpAny_call (codeAny_call_builtin PySem.F.cmp_object.ne.plain PySem.F.cmpEntry_ne (PySem.W.check_slot PySem.F.cmpKind_ne PySem.F.cmpSplit_ne (J.type.andThen (PySem.W.looks_mroIn XK T.mro)) (PySem.F.cmpArgs_ne _ _)
      (entry_ne (by have := hr.in1.units0; exact this) XK J T.eq T.fn (wpAny_mono hcall (fun v s' z => ?_) fun _ _ e => e))))))
    obtain ⟨c, rfl, q⟩ := z
    exact ⟨c, rfl, wpAny_pure ⟨_, rfl, q⟩⟩
  unfold richCompare
  simp only [oneThing_ref]
  refine wpAny_holding (wpAny_bind (wpAny_cRoomFor hr.units0 ?_))
  refine wpAny_bind (J.type.here (wpAny_bind (J'.type.here ?_)))
  have hn := T.nf C' hc
  split
  · rename_i q
    have e : PySem.W.subIn X.K (.ref C') (.ref C) = some false := by
      rcases Bool.or_eq_true_iff.mp hn with e | e
      · rw [beq_iff_eq.mp e] at q; simp at q
      · exact beq_iff_eq.mp e
    refine wpAny_bind ((PySem.W.looks_subIn XK e).here ?_)
    simp only [Bool.false_eq_true, if_false]
    refine wpAny_bind (wpAny_mono one (fun r s' z => ?_) fun _ _ e => e)
    obtain ⟨v, rfl, hq⟩ := z
    exact wpAny_pure hq
  · refine wpAny_bind (wpAny_pure ?_)
    simp only [Bool.false_eq_true, if_false]
    refine wpAny_bind (wpAny_mono one (fun r s' z => ?_) fun _ _ e => e)
    obtain ⟨v, rfl, hq⟩ := z
    exact wpAny_pure hq
end
def okOwn (C : Addr) (cls : List Addr) (a b : D) : Prop := (match a with | .obj C' _ _ => C' = C | _ => False) ∧ (match b with | .obj C' _ _ => C' ∈ cls | _ => False)
/-- x == y, x != y by an own __eq__ -/
def dOwn (C : Addr) (cls : List Addr) (w : W) (neg : Bool) (ma mb : WE) : WE := fun ρ n Q E => ma ρ n (fun a k => mb ρ k (fun b j => okOwn C cls a b ∧ w [a, b] j (fun d i => match d with | .bl c => Q (.bl (if neg then !c else c)) i | _ => False) E) E) E
section
variable {X : Cx} {E : XK} {pos : Pos} {a b : Expr} {ma mb : WE} {w : W} {C f : Addr} {cls : List Addr} {CX : CXT} {k : Nat} {fd : FuncData} {ps : List Str}
theorem mono_own (hw : Wm w) (h1 : Mono ma) (h2 : Mono mb) {neg : Bool} : Mono (dOwn C cls w neg ma mb) := fun ρ n Q Q' E E' hq he h =>
  h1 ρ n _ _ _ _ (fun d k h => h2 ρ k _ _ _ _ (fun e j h => ⟨h.1, hw.mono _ _ _ _ _ _ (fun d i h => by cases d with | bl c => exact hq _ _ h | _ => exact h) he h.2⟩) he h) he h
theorem own_imp (hw : Wm w) {neg : Bool} (h1 : DE X E a ma) (h2 : DE X E b mb) (σ : L2.St) (H : Hp) (Q : VK) (h : tD X.K E (dOwn C cls w neg ma mb) σ H Q) : tOp (rOwn C cls (spD X.K 2 w) E neg) (tD X.K E ma) (tD X.K E mb) σ H Q := by
  obtain ⟨A, ρ, n, R, h⟩ := h
  refine tD.run' h1.mono R h (fun _ _ z => z) fun d k v H1 s rv h => ?_
  refine tD.run' h2.mono (R.step s) h (fun x j z => z.step s) fun d2 k2 v2 H2 s2 r2 h2' => ?_
  obtain ⟨⟨o1, o2⟩, h'⟩ := h2'
  have rv2 := s2.rep d v rv
  cases d with
  | obj C1 ks ds =>
    cases d2 with
    | obj C2 ks2 ds2 =>
      have o1 : C1 = C := o1
      subst o1
      refine ⟨?_, ?_, rfl, A ++ own ρ, [.obj C1 ks ds, .obj C2 ks2 ds2], k2, ((R.step s).step s2).all, ⟨v, [v2], rfl, rv2, reps_one r2⟩, hw.mono _ _ _ _ _ _ (fun d j q u H3 s3 r3 => ?_) (fun x j (z : eP X.K E (A ++ own ρ) n H x j) => (z.step s).step s2) h'⟩
      · obtain ⟨a, dx, ws, rfl, e, _⟩ := rv2; exact ⟨a, dx, ws, rfl, hide_grow _ _ e⟩
      · obtain ⟨a, dx, ws, rfl, e, _⟩ := r2; exact ⟨a, C2, dx, ws, rfl, hide_grow _ _ e, o2⟩
      · cases d with
        | bl c => exact ⟨c, r3, q _ H3 ((s.trans s2).trans s3) rfl⟩
        | _ => exact q.elim
    | _ => exact o2.elim
  | _ => exact o1.elim
theorem de_ownEq (hw : Wm w) (F : FnOk X.prog X.w X.K X.mg X.base CX k f fd ps (spD X.K 2 w)) (T : EqC X.K C f cls) (hb : Binds X.K fd ps []) (hx : Passes CX X E) (hr : Room k X.A) (h1 : DE X E a ma) (h2 : DE X E b mb) (hm : behindInMarks .Eq b = false := by first | exact nomark _ | rfl) :
    DE X E (.Compare a [.Eq] [b] pos) (dOwn C cls w false ma mb) := ⟨mono_own hw h1.mono h2.mono, (pe_cmpR (op_ownEq F T hb hx hr) h1.pe h2.pe hm).imp (own_imp hw h1 h2)⟩
theorem de_ownNe (hw : Wm w) (F : FnOk X.prog X.w X.K X.mg X.base CX k f fd ps (spD X.K 2 w)) (T : EqC X.K C f cls) (hb : Binds X.K fd ps []) (hx : Passes CX X E) (hr : Room (k + 1) X.A) (h1 : DE X E a ma) (h2 : DE X E b mb) (hm : behindInMarks .NotEq b = false := by first | exact nomark _ | rfl) :
    DE X E (.Compare a [.NotEq] [b] pos) (dOwn C cls w true ma mb) := ⟨mono_own hw h1.mono h2.mono, (pe_cmpR (op_ownNe F T hb hx hr) h1.pe h2.pe hm).imp (own_imp hw h1 h2)⟩
theorem own_test (hw : Wm w) {neg : Bool} (h1 : DE X E a ma) (h2 : DE X E b mb) (σ : L2.St) (H : Hp) (Q : Bool → Hp → Prop) (z : tDT X.K E (dTest (dOwn C cls w neg ma mb)) σ H Q) : tTest (tOp (rOwn C cls (spD X.K 2 w) E neg) (tD X.K E ma) (tD X.K E mb)) σ H Q := by
  obtain ⟨A, ρ, n, R, z⟩ := z
  refine own_imp hw h1 h2 σ H _ ⟨A, ρ, n, R, mono_own hw h1.mono h2.mono ρ n _ _ _ _ (fun d k q v H' s r => ?_) (fun _ _ z => z) z⟩
  cases d with
  | bl c => exact ⟨c, r, q H' s⟩
  | _ => exact q.elim
theorem dt_ownEq (hw : Wm w) (F : FnOk X.prog X.w X.K X.mg X.base CX k f fd ps (spD X.K 2 w)) (T : EqC X.K C f cls) (hb : Binds X.K fd ps []) (hx : Passes CX X E) (hr : Room k X.A) (h1 : DE X E a ma) (h2 : DE X E b mb) (hm : behindInMarks .Eq b = false := by first | exact nomark _ | rfl) :
    DT X E (.Compare a [.Eq] [b] pos) (dTest (dOwn C cls w false ma mb)) := ⟨mono_test (mono_own hw h1.mono h2.mono), (pt_cmpR (op_ownEq F T hb hx hr) h1.pe h2.pe hm).imp (own_test hw h1 h2)⟩
theorem dt_ownNe (hw : Wm w) (F : FnOk X.prog X.w X.K X.mg X.base CX k f fd ps (spD X.K 2 w)) (T : EqC X.K C f cls) (hb : Binds X.K fd ps []) (hx : Passes CX X E) (hr : Room (k + 1) X.A) (h1 : DE X E a ma) (h2 : DE X E b mb) (hm : behindInMarks .NotEq b = false := by first | exact nomark _ | rfl) :
    DT X E (.Compare a [.NotEq] [b] pos) (dTest (dOwn C cls w true ma mb)) := ⟨mono_test (mono_own hw h1.mono h2.mono), (pt_cmpR (op_ownNe F T hb hx hr) h1.pe h2.pe hm).imp (own_test hw h1 h2)⟩
end
/-- no exception is wanted: every call passes -/
theorem passE0 {X : Cx} {P : Program} {w : World} : Passes (L2.CX P w) X E0 := fun pins σ H s e s' I h => by
  obtain ⟨a, B, H', cls, d, _, _, _, _, _, _, _, z⟩ := h
  exact z.elim
end DL

set_option Elab.async false
set_option linter.all false
set_option maxRecDepth 100000
set_option maxHeartbeats 4000000
namespace HT
open PySem PySem.Spec PyProof.Rows
section
variable {prog : Program} {w : World} {A : Around} {E : Value → Shared → Prop} {s : Shared}
theorem adjust_rev (n : Nat) : Builtin.Slice.sliceAdjust none none (-1) (n : Int) = ((n : Int) - 1, -1) := by
  unfold Builtin.Slice.sliceAdjust
  simp
theorem places_rev (n : Nat) : Builtin.Slice.slicePlaces ((n : Int) - 1) (-1) (-1) = n := by
  unfold Builtin.Slice.slicePlaces
  have h1 : ¬ ((-1 : Int) > 0) := by omega
  simp only [h1, if_false]
  split
  · have e : (-(-1 : Int)) = 1 := by omega
    simp only [e, Int.ediv_one]
    omega
  · omega
theorem sliceApplied_rev {sl : Addr} {vs : Value} {n : Nat} {Q : Int × Int × Nat → Shared → Prop} (hs : s.heap.IsSliceOf sl .none .none vs) (ps : IsPart vs (some (-1)))
    (h : Q ((n : Int) - 1, -1, n) s) : wpAny (model prog w) A (Builtin.Slice.sliceApplied (.ref sl) (pure (n : Int))) Q E s := by
  obtain ⟨os, hos, hcs, hds⟩ := id hs
  unfold Builtin.Slice.sliceApplied Builtin.Slice.sliceFields
  refine wpAny_bind (wpAny_bind (wpAny_field hos hds (x := .none) rfl (wpAny_bind (wpAny_field hos hds (x := .none) rfl (wpAny_bind (wpAny_field hos hds (x := vs) rfl (wpAny_pure ?_)))))))
  refine wpAny_bind (slicePart_ ps ?_)
  show wpAny _ _ (if ((-1 : Int) == 0) = true then _ else _) _ _ s
  rw [if_neg (by decide)]
  refine wpAny_bind (slicePart_none (wpAny_bind (slicePart_none (wpAny_bind (wpAny_pure ?_)))))
  show wpAny _ _ (match Builtin.Slice.sliceAdjust none none (-1) (n : Int) with | (lo, hi) => pure (lo, (-1 : Int), Builtin.Slice.slicePlaces lo hi (-1))) _ _ s
  rw [adjust_rev n]
  show wpAny _ _ (pure ((n : Int) - 1, (-1 : Int), Builtin.Slice.slicePlaces ((n : Int) - 1) (-1) (-1))) _ _ s
  rw [places_rev]
  exact wpAny_pure h
theorem pick_rev (xs : Array Value) : ((List.range xs.size).filterMap fun (m : Nat) => xs[(((xs.size : Nat) : Int) - 1 + (m : Int) * (-1)).toNat]?).toArray = xs.toList.reverse.toArray := by
  congr 1
  have e : (List.range xs.size).filterMap (fun (m : Nat) => xs[(((xs.size : Nat) : Int) - 1 + (m : Int) * (-1)).toNat]?) = ((List.range xs.size).map fun k => xs.size - 1 - k).filterMap fun k => xs[k]? := by
    rw [List.filterMap_map]
    congr 1
    funext m
    show _ = xs[xs.size - 1 - m]?
    by_cases hm : m < xs.size
    · have : (((xs.size : Nat) : Int) - 1 + (m : Int) * (-1)).toNat = xs.size - 1 - m := by omega
      rw [this]
    · have : (((xs.size : Nat) : Int) - 1 + (m : Int) * (-1)).toNat = xs.size - 1 - m := by omega
      rw [this]
  rw [e, PySem.W.krv_range, List.filterMap_reverse, PySem.W.krv_all]
theorem getItem_tuple_rev {t sl : Addr} {items : Array Value} {vs : Value} {Q : Value → Shared → Prop} (ht : IsTup s.heap t items) (hs : s.heap.IsSliceOf sl .none .none vs) (ps : IsPart vs (some (-1)))
    (h : Q (.ref s.heap.objs.size) { s with heap := s.heap.push { cls := .type "tuple", data := .seq items.toList.reverse.toArray } })
    (hsz : items.size ≤ sizeLine) : wpAny (model prog w) A (getItem (.ref t) (.ref sl)) Q E s := by
  have htake : sizeOk (.seq items.toList.reverse.toArray) := by
    show items.toList.reverse.toArray.size ≤ sizeLine
    rw [List.size_toArray, List.length_reverse, Array.length_toList]
    exact hsz
  obtain ⟨os, hos, hcs, hds⟩ := id hs
  have hTs : s.TypeIs (.ref sl) "slice" := ⟨os, hos, hcs⟩
  unfold getItem
  try with_reducible refine wpAny_holding ?_
  first | refine wpAny_bind (wpAny_pure ?_) | skip
  refine wpAny_bind (wpAny_sequenceKey ht.typeIs (by decide) ?_)
  refine wpAny_bind (wpAny_callSpecial?_slot (name := Str.ofString "__getitem__") ht.typeIs PyProof.Rows.slot_tuple_getitem
    (wpAny_call_entry PyProof.Rows.slot_tuple_getitem ht.typeIs entry_tuple_getitem ?_ (args_tuple_getitem _ _)))
  show wpAny _ _ (Builtin.Tuple.tupleItemsOf (.ref t) >>= _) _ _ s
  refine wpAny_bind (tupleItemsOf_ ht ?_)
  refine wpAny_bind (wpAny_typeOf hTs ?_)
  rw [if_pos (by decide)]
  refine wpAny_bind (sliceApplied_rev hs ps ?_)
  have hno : ¬ ((((items.size : Nat) : Int) - 1 == 0 && (-1 : Int) == 1 && items.size == items.size) = true) := by
    intro q
    rw [Bool.and_eq_true, Bool.and_eq_true] at q
    exact absurd q.1.2 (by decide)
  show wpAny _ _ (if (((items.size : Nat) : Int) - 1 == 0 && (-1 : Int) == 1 && items.size == items.size) = true then _ else _) _ _ s
  rw [if_neg hno, pick_rev]
  first
    | exact wpAny_bind (m := Builtin.Tuple.tupleExact _) (wpAny_newObj_type (wpAny_pure ⟨_, rfl, wpAny_pure h⟩) htake)
    | exact wpAny_bind (m := Builtin.Tuple.tupleExact _) (wpAny_newObj_type (wpAny_bind (wpAny_pure (wpAny_pure ⟨_, rfl, wpAny_pure h⟩))) htake)
end
end HT
namespace DL
open PySem PySem.Spec PyProof.Rows L2

/-! ### t[::-1] -/
def tRevT (K : PySem.W.Frag) (te : TE) : TE := fun σ H Q => te σ H fun x H1 => ∃ a xs, x = .ref a ∧ SqT K H1 a xs ∧ ∀ p, H1 p = none → Q (.ref p) (upd H1 p (.tup xs.reverse))
theorem pe_revT {X : Cx} {e : Expr} {te : TE} {k : Nat} {p1 p2 p3 pos : Pos} (he : PE X e te) : PE X (.Subscript e (.Slice none none (some (.UnaryOp .USub (.Constant (.int 1) k p1) p2)) p3) pos) (tRevT X.K te) := by
  refine ⟨fun pins s σ H Q I h => ?_⟩
  refine Subscript_ (thn (he.run pins s σ H _ I h) fun v s1 ⟨x, H1, I1, r1, q1⟩ => ?_)
  obtain ⟨a, xs, ex, hx, q⟩ := q1
  subst ex
  cases r1
  have hst : PO X (some (.UnaryOp .USub (.Constant (.int 1) k p1) p2)) (tPart (tUn (rU fun i => .int (-i)) (tC (.int 1)))) := po_some (pe_un un_neg pe_int)
  refine wpAny_Slice (thn (po_none.run pins s1 σ H1 (fun o H2 => o = none ∧ H2 = H1) I1 ⟨rfl, rfl⟩) fun vl s2 ⟨l, H2, I2, pl, el, e2⟩ => ?_)
  subst el e2
  refine thn (po_none.run pins s2 σ H2 (fun o H3 => o = none ∧ H3 = H2) I2 ⟨rfl, rfl⟩) fun vu s3 ⟨u, H3, I3, pu, eu, e3⟩ => ?_
  subst eu e3
  refine thn (hst.run pins s3 σ H3 (fun o H4 => o = some (-1) ∧ H4 = H3) I3 ⟨1, rfl, -1, rfl, rfl, rfl⟩) fun vs s4 ⟨o, H4, I4, ps, eo, e4⟩ => ?_
  subst eo e4
  cases pl
  cases pu
  have I5 : Inv X pins σ H4 { s4 with heap := s4.heap.push { cls := .type "slice", data := .fields #[.none, .none, vs] } } := I4.kept (t' := s4.toks) fun b ob q => Heap.get?_push_of_some _ q
  obtain ⟨its, r, ht, hz⟩ := I5.tuple hx
  have hlen := r.length
  show wpAny (model X.prog X.w) X.A (subscriptTail e (.Slice none none (some (.UnaryOp .USub (.Constant (.int 1) k p1) p2)) p3) (.ref a) (.ref s4.heap.objs.size)) (EP X pins σ Q) X.xe { s4 with heap := s4.heap.push { cls := .type "slice", data := .fields #[.none, .none, vs] } }
  refine tail_any (ops := [.ref a, .ref s4.heap.objs.size]) ht.typeIs (PyProof.Rows.slot_tuple_getitem.lookup) ?_ (by with_unfolding_all rfl)
  refine HT.getItem_tuple_rev ht (Heap.IsSliceOf.new _ .none .none vs) ps ?_ (by rw [List.size_toArray]; omega)
  refine ⟨.ref _, _, I5.laid (t' := s4.toks) (o := .tup xs.reverse) (fun b ob q => Heap.get?_push_of_some _ q) (Nat.le_refl _) ?_, rfl, q _ (I5.hok.fresh (Nat.le_refl _))⟩
  exact ⟨by rw [List.length_reverse]; exact hz, _, r.reverse, IsTup.new _ _⟩
def revE (d : D) (Q : D → Prop) : Prop := match d with
  | .tup ds => Q (.tup ds.reverse)
  | _ => False
theorem revE_mono {d : D} {Q Q' : D → Prop} (i : ∀ d, Q d → Q' d) (h : revE d Q) : revE d Q' := by
  unfold revE at h ⊢
  cases d <;> first | exact i _ h | exact h
def dRevT (m : WE) : WE := fun ρ n Q E => m ρ n (fun d k => revE d fun d => Q d k) E
theorem de_revT {X : Cx} {E : XK} {e : Expr} {m : WE} {k : Nat} {p1 p2 p3 pos : Pos} (h : DE X E e m) : DE X E (.Subscript e (.Slice none none (some (.UnaryOp .USub (.Constant (.int 1) k p1) p2)) p3) pos) (dRevT m) := by
  refine ⟨fun ρ n Q Q' E E' hq he z => h.mono ρ n _ _ _ _ (fun d k z => revE_mono (fun d z => hq _ _ z) z) he z, (pe_revT h.pe).imp fun σ H Q z => ?_⟩
  obtain ⟨A, ρ, n, R, z⟩ := z
  refine tD.run' h.mono R z (fun _ _ z => z) fun d k v H1 s r z => ?_
  unfold revE at z
  split at z
  · obtain ⟨a, vs, rfl, u, rr⟩ := r
    refine ⟨a, vs, rfl, (hide_grow.sqU u).t, fun p hp => ?_⟩
    obtain ⟨s2, r2⟩ := newRep (R.step s).all hp (reps_rev rr)
    exact z _ _ (s.trans s2) r2
  · exact z.elim

/-! ### {i: e} -/
def dDic1 (i : Int) (m : WE) : WE := fun ρ n Q E => m ρ n (fun d k => Q (.dic [i] [d]) k) E
/-- a dict of one pair, its key a written int -/
theorem de_dic1 {X : Cx} {E : XK} {e : Expr} {m : WE} {i : Int} {j : Nat} {pos p1 : Pos} (h : DE X E e m) : DE X E (.Dict [some (.Constant (.int i) j p1)] [e] pos) (dDic1 i m) := by
  refine ⟨fun ρ n Q Q' E E' hq he z => h.mono ρ n _ _ _ _ (fun d k z => hq _ _ z) he z, (pe_disp (pps_cons (pe_int (i := i) (j := j)) h.pe pps_nil) rfl rfl (by simp) (by simp)).imp fun σ H Q z => ?_⟩
  obtain ⟨A, ρ, n, R, z⟩ := z
  intro p hp
  have s0 := Step.new (K := X.K) (n := n) (o := .dK []) hp R.all
  have R0 := R.step s0
  -- the new dict is hidden while its pairs are made
  have pB : p ∉ A ++ own ρ := fun z => R.all p z hp
  have Rp : RE X.K (p :: A) ρ n σ (upd H p (.dK [])) := by
    have g : ∀ d v, rep X.K n (hide (A ++ own ρ) H) d v → rep X.K n (hide ((p :: A) ++ own ρ) (upd H p (.dK []))) d v := fun d v r => by
      have e : hide ((p :: A) ++ own ρ) (upd H p (.dK [])) = hide (A ++ own ρ) H := by
        rw [List.cons_append, hide_upd_in List.mem_cons_self]
        funext b
        by_cases hb : b = p
        · subst hb; rw [hide_in List.mem_cons_self, hide_out pB, hp]
        · unfold hide
          by_cases hb2 : b ∈ A ++ own ρ
          · rw [if_pos (List.mem_cons_of_mem _ hb2), if_pos hb2]
          · rw [if_neg (by rw [List.mem_cons]; exact fun z => z.elim hb hb2), if_neg hb2]
      rw [e]; exact r
    have sm : ∀ a ∈ A ++ own ρ, upd H p (.dK []) a = H a := fun a ha => upd_ne fun e => pB (by rw [← e]; exact ha)
    refine ⟨fun i e he => ?_, R.nd, fun a ha hm => ?_, fun a ha => ?_, R.ln⟩
    · have x := R.sl i e he
      cases e with
      | no => trivial
      | sh d => obtain ⟨v, e1, r⟩ := x; exact ⟨v, e1, g d v r⟩
      | ow t => obtain ⟨v, e1, r⟩ := x; exact ⟨v, e1, repO_mv g sm t v (fun a ha => List.mem_append_right _ (mem_own he ha)) r⟩
      | slf a C ks ds => obtain ⟨dx, ws, e1, e2, e3, r⟩ := x; exact ⟨dx, ws, e1, (sm a (List.mem_append_right _ (mem_own he List.mem_cons_self))).trans e2, e3, reps_of g r⟩
    · rcases List.mem_cons.mp hm with e | hm
      · exact pB (by rw [← e]; exact List.mem_append_right _ ha)
      · exact R.ap a ha hm
    · rcases List.mem_cons.mp ha with e | ha
      · rw [e, upd_same]; exact fun z => nomatch z
      · rw [sm a (List.mem_append_left _ ha)]; exact R.al a ha
  show tD X.K E m σ (upd H p (.dK [])) _
  have eh : hide ((p :: A) ++ own ρ) (upd H p (.dK [])) = hide (A ++ own ρ) H := by
    rw [List.cons_append, hide_upd_in List.mem_cons_self]
    funext b
    by_cases hb : b = p
    · subst hb; rw [hide_in List.mem_cons_self, hide_out pB, hp]
    · unfold hide
      by_cases hb2 : b ∈ A ++ own ρ
      · rw [if_pos (List.mem_cons_of_mem _ hb2), if_pos hb2]
      · rw [if_neg (by rw [List.mem_cons]; exact fun z => z.elim hb hb2), if_neg hb2]
  have conv : ∀ {k : Nat} {H' : Hp}, Step X.K ((p :: A) ++ own ρ) n (upd H p (.dK [])) k H' → ∀ {o : HO}, (∀ a ∈ A ++ own ρ, upd H' p o a = H a) ∧ H' p = some (.dK []) := fun {k H'} s {o} =>
    ⟨fun a ha => by
      have ne : a ≠ p := fun e => pB (by rw [← e]; exact ha)
      rw [upd_ne ne, s.same a (by rw [List.cons_append]; exact List.mem_cons_of_mem _ ha), upd_ne ne], by rw [s.same p List.mem_cons_self, upd_same]⟩
  have stp : ∀ {k : Nat} {H' : Hp}, Step X.K ((p :: A) ++ own ρ) n (upd H p (.dK [])) k H' → ∀ {o : HO}, Grow (hide ((p :: A) ++ own ρ) H') (hide (A ++ own ρ) (upd H' p o)) := fun {k H'} s {o} a u e => by
    obtain ⟨e1, e2⟩ := hide_some e
    rw [List.cons_append, List.mem_cons, not_or] at e1
    rw [hide_out e1.2, upd_ne e1.1]; exact e2
  have key : ∀ {k : Nat} {H' : Hp} (s : Step X.K ((p :: A) ++ own ρ) n (upd H p (.dK [])) k H') (o : HO), Step X.K (A ++ own ρ) n H k (upd H' p o) := fun {k H'} s o =>
    ⟨s.le, fun d v r => rep_grow (stp s) (s.rep d v (by rw [eh]; exact r)), (conv s (o := o)).1⟩
  refine tD.run' h.mono Rp z (fun x j z => ?_) fun d k v H1 s r q => ⟨(conv s (o := .lst [])).2, [(Sum.inl i, v)], rfl, by simp, ?_⟩
  · intro dx H' s r
    have g : Grow (hide ((p :: A) ++ own ρ) H') (hide (A ++ own ρ) H') := hide_sub fun a h => by rw [List.cons_append]; exact List.mem_cons_of_mem _ h
    refine z dx H' ⟨s.le, fun d v r => rep_grow g (s.rep d v (by rw [eh]; exact r)), fun a ha => ?_⟩ (xrep_grow g r)
    have ne : a ≠ p := fun e => pB (by rw [← e]; exact ha)
    rw [s.same a (by rw [List.cons_append]; exact List.mem_cons_of_mem _ ha), upd_ne ne]
  · refine q (.ref p) _ (key s _) ⟨p, [(Sum.inl i, v)], rfl, ?_, rfl, ?_⟩
    · rw [hide_out pB, upd_same]; rfl
    · exact reps_one (rep_grow (stp s) r)
end DL

set_option Elab.async false
set_option linter.all false
set_option maxRecDepth 100000
set_option maxHeartbeats 4000000
namespace DL
open PySem PySem.Spec PyProof.Rows L2

/-! ### the pen -/
abbrev kC : Key := Sum.inr ("cells" : Str)
abbrev kA : Key := Sum.inr ("at" : Str)
abbrev kD : Key := Sum.inr ("digits" : Str)
abbrev kN : Key := Sum.inr ("count" : Str)
abbrev kF : Key := Sum.inr ("fold" : Str)
def penL (cl : Addr) (aa dg ct fo : Int) : List (Key × V) := [(Sum.inr "cells", V.ref cl), (Sum.inr "at", V.int aa), (Sum.inr "digits", V.int dg), (Sum.inr "count", V.int ct), (Sum.inr "fold", V.int fo)]
section
variable {cl : Addr} {aa dg ct fo z : Int}
theorem pen_len : (penL cl aa dg ct fo).length < 1000 := by show 5 < 1000; decide
theorem pen_C : valV (penL cl aa dg ct fo) kC = some (.ref cl) := rfl
theorem pen_A : valV (penL cl aa dg ct fo) kA = some (.int aa) := rfl
theorem pen_D : valV (penL cl aa dg ct fo) kD = some (.int dg) := rfl
theorem pen_N : valV (penL cl aa dg ct fo) kN = some (.int ct) := rfl
theorem pen_F : valV (penL cl aa dg ct fo) kF = some (.int fo) := rfl
theorem put_A : putK (penL cl aa dg ct fo) kA (.int z) = penL cl z dg ct fo := rfl
theorem put_D : putK (penL cl aa dg ct fo) kD (.int z) = penL cl aa z ct fo := rfl
theorem put_N : putK (penL cl aa dg ct fo) kN (.int z) = penL cl aa dg z fo := rfl
theorem put_F : putK (penL cl aa dg ct fo) kF (.int z) = penL cl aa dg ct z := rfl
end
open Evl (Ev EvT EvA EvL RV RC)
section
variable {K : PySem.W.Frag} {σ : L2.St} {H H' : Hp} {ta tb te td ty tv : TE} {v : V} {a : Addr} {D : Ends}
theorem ev_dget {kvs : List (Key × V)} {k : Key} (hd : Ev td σ H (.ref a)) (hk : Ev ty σ H (kV k)) (hH : H a = some (.dK kvs)) (hv : valV kvs k = some v) : Ev (tDGet td ty) σ H v := fun H1 e Q q =>
  hd H1 e _ fun H2 e2 => hk H2 (e.trans e2) _ fun H3 e3 => ⟨a, v, rfl, by rw [← hv]; exact DGet.k (((e.trans e2).trans e3) a _ hH), q H3 (e2.trans e3)⟩
theorem s_dput {kvs : List (Key × V)} {k : Key} (hv : Ev tv σ H v) (hd : Ev td σ H (.ref a)) (hk : Ev ty σ H (kV k)) (hH : H a = some (.dK kvs)) (hl : kvs.length < 1000) (q : ∀ H1, Evl.Ex H H1 → D.nx σ (upd H1 a (.dK (putK kvs k v)))) : sDPut td ty tv D σ H :=
  hv H (Evl.Ex.refl H) _ fun H1 e1 => hd H1 e1 _ fun H2 e2 => hk H2 (e1.trans e2) _ fun H3 e3 => ⟨a, _, rfl, DPut.k (((e1.trans e2).trans e3) a _ hH) (small1000 (Nat.le_of_lt hl)), q H3 ((e1.trans e2).trans e3)⟩
theorem ev_int1 {i : Int} (h : Ev te σ H (.int i)) : Ev (tCB (fun xs H Q => (∃ i, xs = [V.int i] ∧ Q (.int i) H) ∨ ∃ b, xs = [V.bl b] ∧ Q (.int (if b = true then 1 else 0)) H) (tCons te tNil)) σ H (.int i) := fun H1 e Q q => h H1 e _ fun H2 e2 => .inl ⟨i, rfl, q H2 e2⟩
end
/-- the pen's reading: `_law_draw` -/
abbrev gP (k : Str) : TE := tDGet (tVar 0) (tC (.str k))
abbrev tAdd : TE → TE → TE := tOp (rI0 fun i j => .int (i + j))
abbrev tSub : TE → TE → TE := tOp (rI0 fun i j => .int (i - j))
abbrev tMul : TE → TE → TE := tOp (rI CMulW fun i j => .int (i * j))
abbrev tMod : TE → TE → TE := tOp (rI (fun _ j => 0 < j) fun i j => .int (i % j))
abbrev tDiv : TE → TE → TE := tOp (rI CDivW fun i j => .int (i / j))
abbrev tPow : TE → TE → TE := tOp (rI CPow fun i j => .int (i ^ j.toNat))

abbrev tInt (te : TE) : TE := tCB (fun xs H Q => (∃ i, xs = [V.int i] ∧ Q (.int i) H) ∨ ∃ k, xs = [V.bl k] ∧ Q (.int (if k = true then 1 else 0)) H) (tCons te tNil)
abbrev tI (i : Int) : TE := tC (.int i)
abbrev tLenP (K : PySem.W.Frag) (te : TE) : TE := tCB (fun xs H Q => ∃ p ys, xs = [V.ref p] ∧ (SqL K H p ys ∨ SqT K H p ys) ∧ Q (V.int ys.length) H) (tCons te tNil)
def drawT (K : PySem.W.Frag) : TS :=
  tSeq (sDPut (tVar 0) (tC (.str "count")) (tAdd (gP "count") (tI 1)))
  (tSeq (tIfS (tAnd (tTest (tOp rEq (gP "digits") (tI 0))) (tTest (tOp (rI0 fun i j => V.bl (decide (i < j))) (gP "at") (tLenP K (gP "cells")))))
      (tSeq (tAsg (tOp (rIxL K) (gP "cells") (gP "at")) (gName 2))
      (tSeq (sDPut (tVar 0) (tC (.str "at")) (tAdd (gP "at") (tI 1)))
      (tIfS (tTest (tOp (rI0 fun i j => V.bl (decide (j ≤ i))) (tVar 2) (tPow (tI 10) (tI 18))))
        (sDPut (tVar 0) (tC (.str "digits")) (tSub (tVar 2) (tPow (tI 10) (tI 18))))
        (sDPut (tVar 0) (tC (.str "fold")) (tMod (tInt (tAdd (tMul (gP "fold") (tI 48271)) (tVar 2))) (tI 2147483563)))))) tNext)
  (tSeq (tIfS (tTest (tOp (rI0 fun i j => V.bl (decide (j < i))) (gP "digits") (tI 0)))
      (tSeq (tAsg (tMod (tInt (gP "digits")) (tVar 1)) (gName 3))
      (tSeq (sDPut (tVar 0) (tC (.str "digits")) (tDiv (gP "digits") (tVar 1))) (tRet (tVar 3)))) tNext)
  (tSeq (tAsg (tAdd (tAdd (gP "fold") (tMul (gP "count") (tI 8513))) (tI 61)) (gName 4))
  (tRet (tMod (tDiv (tInt (tMod (tPow (tVar 4) (tI 19)) (tI 2305843009213693951))) (tI 256)) (tVar 1))))))
/-- the pen at a beside all that stood -/
def PI (H0 : Hp) (a cl : Addr) (aa dg ct fo : Int) (H : Hp) : Prop := (∀ b o, b ≠ a → H0 b = some o → H b = some o) ∧ H a = some (.dK (penL cl aa dg ct fo))
section
variable {K : PySem.W.Frag} {σ : L2.St} {H0 H H1 H' : Hp} {ta tb te td ty tv : TE} {v : V} {a cl : Addr} {aa dg ct fo z i j : Int} {D : Ends}
theorem PI.ex (p : PI H0 a cl aa dg ct fo H) (e : Evl.Ex H H1) : PI H0 a cl aa dg ct fo H1 := ⟨fun b o hb h => e b o (p.1 b o hb h), e a _ p.2⟩
theorem PI.up {kvs : List (Key × V)} (p : PI H0 a cl aa dg ct fo H) (e : Evl.Ex H H1) {cl' : Addr} {aa' dg' ct' fo' : Int} (h : kvs = penL cl' aa' dg' ct' fo') : PI H0 a cl' aa' dg' ct' fo' (upd H1 a (.dK kvs)) :=
  ⟨fun b o hb h => by rw [upd_ne hb]; exact e b o (p.1 b o hb h), by rw [upd_same, h]⟩
theorem PI.upA (p : PI H0 a cl aa dg ct fo H) (e : Evl.Ex H H1) (z : Int) : PI H0 a cl z dg ct fo (upd H1 a (.dK (putK (penL cl aa dg ct fo) kA (.int z)))) := p.up e put_A
theorem PI.upD (p : PI H0 a cl aa dg ct fo H) (e : Evl.Ex H H1) (z : Int) : PI H0 a cl aa z ct fo (upd H1 a (.dK (putK (penL cl aa dg ct fo) kD (.int z)))) := p.up e put_D
theorem PI.upN (p : PI H0 a cl aa dg ct fo H) (e : Evl.Ex H H1) (z : Int) : PI H0 a cl aa dg z fo (upd H1 a (.dK (putK (penL cl aa dg ct fo) kN (.int z)))) := p.up e put_N
theorem PI.upF (p : PI H0 a cl aa dg ct fo H) (e : Evl.Ex H H1) (z : Int) : PI H0 a cl aa dg ct z (upd H1 a (.dK (putK (penL cl aa dg ct fo) kF (.int z)))) := p.up e put_F
theorem ev_k {k : Str} : Ev (tC (.str k)) σ H (kV (Sum.inr k)) := Evl.ev_c
theorem ev_gP {k : Str} (p : PI H0 a cl aa dg ct fo H) (hs : σ[0]? = some (some (.ref a))) (hv : valV (penL cl aa dg ct fo) (Sum.inr k) = some v) : Ev (gP k) σ H v := ev_dget (Evl.ev_var hs) ev_k p.2 hv
theorem ev_add (h1 : Ev ta σ H (.int i)) (h2 : Ev tb σ H (.int j)) : Ev (tAdd ta tb) σ H (.int (i + j)) := Evl.ev_op h1 h2 Evl.rv_I0
theorem ev_sub (h1 : Ev ta σ H (.int i)) (h2 : Ev tb σ H (.int j)) : Ev (tSub ta tb) σ H (.int (i - j)) := Evl.ev_op h1 h2 Evl.rv_I0
theorem ev_mul (h1 : Ev ta σ H (.int i)) (h2 : Ev tb σ H (.int j)) (hc : CMulW i j) : Ev (tMul ta tb) σ H (.int (i * j)) := Evl.ev_op h1 h2 (Evl.rv_I hc)
theorem ev_mod (h1 : Ev ta σ H (.int i)) (h2 : Ev tb σ H (.int j)) (hc : 0 < j) : Ev (tMod ta tb) σ H (.int (i % j)) := Evl.ev_op h1 h2 (Evl.rv_I hc)
theorem ev_div (h1 : Ev ta σ H (.int i)) (h2 : Ev tb σ H (.int j)) (hc : CDivW i j) : Ev (tDiv ta tb) σ H (.int (i / j)) := Evl.ev_op h1 h2 (Evl.rv_I hc)
theorem ev_pow (h1 : Ev ta σ H (.int i)) (h2 : Ev tb σ H (.int j)) (hc : CPow i j) : Ev (tPow ta tb) σ H (.int (i ^ j.toNat)) := Evl.ev_op h1 h2 (Evl.rv_I hc)
theorem log2_lt {i : Int} {m : Nat} (h : i.natAbs < 2 ^ m) (hm : 0 < m) : i.natAbs.log2 < m := by
  by_cases h0 : i.natAbs = 0
  · rw [h0, Nat.log2_zero]; exact hm
  · exact (Nat.log2_lt h0).mpr h
theorem pen_step {A : List Addr} {n : Nat} {cells : List Int} {aa0 dg0 ct0 fo0 : Int} (hA : ∀ b ∈ A, H b ≠ none) (hH : hide A H a = some (.dK (penL cl aa0 dg0 ct0 fo0))) (hc : hide A H cl = some (.lst (cells.map V.int))) (p : PI H a cl aa dg ct fo H')
    (h3 : cells.length ≤ 63) (h4 : ∀ c ∈ cells, c.natAbs < 2 ^ scriptBits) (h5 : 0 ≤ aa) (h6 : 0 ≤ dg) (h7 : dg.natAbs < 2 ^ scriptBits) (h8 : 0 ≤ ct) (h9 : ct ≤ (n + 1 : Nat)) (h10 : 0 ≤ fo) (h11 : fo < 2147483563) : Step K A n H (n + 1) H' := by
  obtain ⟨na, ea⟩ := hide_some hH
  obtain ⟨nc, ec⟩ := hide_some hc
  have ne : cl ≠ a := fun e => by rw [e, ea] at ec; cases ec
  have keep : ∀ b o, b ≠ a → hide A H b = some o → hide A H' b = some o := fun b o hb h => by
    obtain ⟨h1, h2⟩ := hide_some h
    rw [hide_out h1]; exact p.1 b o hb h2
  have other : ∀ b o, hide A H b = some o → (∀ kvs, o ≠ .dK kvs) → hide A H' b = some o := fun b o h hn => keep b o (fun e => by rw [e, hH] at h; exact hn _ (Option.some.inj h).symm) h
  have pa : hide A H' a = some (.dK (penL cl aa dg ct fo)) := by rw [hide_out na]; exact p.2
  refine ⟨Nat.le_succ n, fun d v r => rep_tr ⟨fun b vs h => ?_, fun b vs h => other b _ h (fun _ z => nomatch z), fun b ws ks h hk => ?_, fun b C dx ws h => other b _ h (fun _ z => nomatch z), fun b h => ?_⟩ d v r, fun b hb => ?_⟩
  · exact h.elim (fun h => .inl (other b _ h (fun _ z => nomatch z))) .inr
  · refine keep b _ (fun e => ?_) h
    rw [e, hH] at h
    injection h with h
    injection h with h
    rw [← h] at hk
    cases ks with
    | nil => cases hk
    | cons k ks => injection hk with hk _; cases hk
  · by_cases e : b = a
    · subst e
      exact ⟨cl, cells, aa, dg, ct, fo, pa, keep cl _ ne hc, h3, h4, h5, h6, h7, h8, h9, h10, h11⟩
    · obtain ⟨cl', cells', aa', dg', ct', fo', g1, g2, g3, g4, g5, g6, g7, g8, g9, g10, g11⟩ := h
      exact ⟨cl', cells', aa', dg', ct', fo', keep b _ e g1, other cl' _ g2 (fun _ z => nomatch z), g3, g4, g5, g6, g7, g8, by omega, g10, g11⟩
  · have hba : b ≠ a := fun e => na (by rw [← e]; exact hb)
    cases e : H b with
    | none => exact absurd e (hA b hb)
    | some o => exact p.1 b o hba e
theorem et_cmp {g : Int → Int → V} {b : Bool} (h1 : Ev ta σ H (.int i)) (h2 : Ev tb σ H (.int j)) (e : g i j = .bl b) : EvT (tTest (tOp (rI0 g) ta tb)) σ H b := Evl.et_test (Evl.ev_is (Evl.ev_op h1 h2 Evl.rv_I0) e)
theorem et_eqI {b : Bool} (h1 : Ev ta σ H (.int i)) (h2 : Ev tb σ H (.int j)) (e : decide (i = j) = b) : EvT (tTest (tOp rEq ta tb)) σ H b := Evl.et_test (Evl.ev_is (Evl.ev_op h1 h2 (Evl.rv_eq rfl)) (by rw [← e]; congr 1; simp))
theorem pow18 : (10 : Int) ^ (18 : Int).toNat = 1000000000000000000 := by decide
/-- what a draw asks and gives -/
theorem draw_read {A : List Addr} {n : Nat} {many : Int} {Q : VK} (hA : ∀ b ∈ A, H b ≠ none) (hp : PenAt K n (hide A H) a) (m1 : 1 ≤ many) (m2 : many < 2 ^ 62) (hn : n < 2 ^ 40) (q : ∀ r H', 0 ≤ r → r < many → Step K A n H (n + 1) H' → Q (.int r) H') :
    drawT K { nx := fun _ H' => Q .non H', rt := Q } [some (.ref a), some (.int many), none, none, none] H := by
  obtain ⟨cl, cells, aa, dg, ct, fo, h1, h2, h3, h4, h5, h6, h7, h8, h9, h10, h11⟩ := hp
  have h1 : hide A H a = some (.dK (penL cl aa dg ct fo)) := h1
  obtain ⟨na, ea⟩ := hide_some h1
  obtain ⟨nc, ec⟩ := hide_some h2
  have ne : cl ≠ a := fun e => by rw [e, ea] at ec; cases ec
  have mlog : many.natAbs.log2 < 9000 := by
    have := log2_lt (i := many) (m := 62) (by omega) (by decide)
    omega
  have hp0 : PI H a cl aa dg ct fo H := ⟨fun _ _ _ h => h, ea⟩
  -- the end of it: from a state behind the second statement on
  have fin : ∀ (H2 : Hp) (s2 : Option V) (aa dg fo : Int), PI H a cl aa dg (ct + 1) fo H2 → 0 ≤ aa → 0 ≤ dg → dg.natAbs < 2 ^ scriptBits → 0 ≤ fo → fo < 2147483563 →
      (tSeq (tIfS (tTest (tOp (rI0 fun i j => V.bl (decide (j < i))) (gP "digits") (tI 0)))
        (tSeq (tAsg (tMod (tInt (gP "digits")) (tVar 1)) (gName 3))
        (tSeq (sDPut (tVar 0) (tC (.str "digits")) (tDiv (gP "digits") (tVar 1))) (tRet (tVar 3)))) tNext)
      (tSeq (tAsg (tAdd (tAdd (gP "fold") (tMul (gP "count") (tI 8513))) (tI 61)) (gName 4))
      (tRet (tMod (tDiv (tInt (tMod (tPow (tVar 4) (tI 19)) (tI 2305843009213693951))) (tI 256)) (tVar 1))))) { nx := fun _ H' => Q .non H', rt := Q } [some (.ref a), some (.int many), s2, none, none] H2 := by
    intro H2 s2 aa dg fo p a0 d0 d1 f0 f1
    refine Evl.q_if (b := decide (0 < dg)) (et_cmp (ev_gP p rfl pen_D) Evl.ev_c rfl) (fun hb H3 e3 => ?_) (fun hb H3 e3 => ?_)
    · have p := p.ex e3
      refine Evl.q_asg (ev_mod (ev_int1 (ev_gP p rfl pen_D)) (Evl.ev_var rfl) (by omega)) fun H4 e4 => ?_
      have p := p.ex e4
      refine s_dput (D := { nx := _, rt := _ }) (ev_div (ev_gP p rfl pen_D) (Evl.ev_var rfl) ⟨by omega, mlog⟩) (Evl.ev_var rfl) ev_k p.2 pen_len fun H5 e5 => ?_
      have p := p.upD e5 (dg / many)
      refine Evl.s_ret (v := .int (dg % many)) (Evl.ev_var rfl) fun H6 e6 => ?_
      have p := p.ex e6
      have hd : 0 ≤ dg / many := Int.ediv_nonneg d0 (by omega)
      have hd2 : dg / many ≤ dg := Int.ediv_le_self _ d0
      exact q _ _ (Int.emod_nonneg _ (by omega)) (Int.emod_lt_of_pos _ (by omega)) (pen_step hA h1 h2 p h3 h4 a0 hd (by omega) (by omega) (by omega) f0 f1)
    · show (tSeq _ _) _ _ _
      have p := p.ex e3
      have hc : ct + 1 < 2 ^ 41 := by omega
      refine Evl.q_asg (ev_add (ev_add (ev_gP p rfl pen_F) (ev_mul (ev_gP p rfl pen_N) Evl.ev_c (by
        have := log2_lt (i := ct + 1) (m := 41) (by omega) (by decide)
        have h2 : (8513 : Int).natAbs.log2 < 20 := by decide
        show _ + _ < _
        omega))) Evl.ev_c) fun H4 e4 => ?_
      have p := p.ex e4
      refine Evl.s_ret (ev_mod (ev_div (ev_int1 (ev_mod (ev_pow (Evl.ev_var rfl) Evl.ev_c ⟨by decide, by decide, by omega⟩) Evl.ev_c (by decide))) Evl.ev_c ⟨by decide, by decide⟩) (Evl.ev_var rfl) (by omega)) fun H5 e5 => ?_
      have p := p.ex e5
      exact q _ _ (Int.emod_nonneg _ (by omega)) (Int.emod_lt_of_pos _ (by omega)) (pen_step hA h1 h2 p h3 h4 a0 d0 d1 (by omega) (by omega) f0 f1)
  unfold drawT
  refine s_dput (D := { nx := _, rt := _ }) (ev_add (ev_gP hp0 rfl pen_N) Evl.ev_c) (Evl.ev_var rfl) ev_k hp0.2 pen_len fun H1 e1 => ?_
  have p := hp0.upN e1 (ct + 1)
  have ec1 : upd H1 a (.dK (putK (penL cl aa dg ct fo) kN (.int (ct + 1)))) cl = some (.lst (cells.map V.int)) := p.1 cl _ ne ec
  refine Evl.q_if (b := decide (dg = 0) && decide (aa < (cells.length : Int))) (Evl.et_and (et_eqI (ev_gP p rfl pen_D) Evl.ev_c rfl) fun _ => et_cmp (ev_gP p rfl pen_A)
    (Evl.ev_is (Evl.ev_cb (vs := [.ref cl]) (Evl.ea_cons (ev_gP p rfl pen_C) Evl.ea_nil) fun H2 e2 Q q => ⟨cl, _, rfl, .inl (Evl.sq_of (e2 cl _ ec1)), q H2 (Evl.Ex.refl _)⟩) (by rw [List.length_map])) rfl) (fun hb H2 e2 => ?_) (fun hb H2 e2 => ?_)
  · obtain ⟨hb1, hb2⟩ := Bool.and_eq_true_iff.mp hb
    have hb2 := of_decide_eq_true hb2
    have p := p.ex e2
    have ec2 := e2 cl _ ec1
    obtain ⟨i, rfl⟩ := Int.eq_ofNat_of_zero_le h5
    have hi : i < cells.length := by omega
    have hcell : (cells.map V.int)[i]? = some (.int cells[i]) := by rw [List.getElem?_map, List.getElem?_eq_getElem hi]; rfl
    have hcb := h4 cells[i] (List.getElem_mem hi)
    refine Evl.q_asg (Evl.ev_op (ev_gP p rfl pen_C) (ev_gP p rfl pen_A) (Evl.rv_ixL (Evl.sq_of ec2) (atI_nat hcell))) fun H3 e3 => ?_
    have p := p.ex e3
    refine s_dput (D := { nx := _, rt := _ }) (ev_add (ev_gP p rfl pen_A) Evl.ev_c) (Evl.ev_var rfl) ev_k p.2 pen_len fun H4 e4 => ?_
    have p := p.upA e4 ((i : Int) + 1)
    refine Evl.s_if (b := decide ((10 : Int) ^ (18 : Int).toNat ≤ cells[i])) (et_cmp (Evl.ev_var rfl) (ev_pow Evl.ev_c Evl.ev_c ⟨by decide, by decide, by decide⟩) rfl) (fun hc H5 e5 => ?_) (fun hc H5 e5 => ?_)
    · have p := p.ex e5
      have hc := of_decide_eq_true hc
      refine s_dput (ev_sub (Evl.ev_var rfl) (ev_pow Evl.ev_c Evl.ev_c ⟨by decide, by decide, by decide⟩)) (Evl.ev_var rfl) ev_k p.2 pen_len fun H6 e6 => ?_
      have p := p.upD e6 (cells[i] - (10 : Int) ^ (18 : Int).toNat)
      rw [pow18] at hc
      rw [pow18] at p ⊢
      exact fin _ _ _ _ _ p (by omega) (by omega) (by omega) h10 h11
    · have p := p.ex e5
      refine s_dput (ev_mod (ev_int1 (ev_add (ev_mul (ev_gP p rfl pen_F) Evl.ev_c (by
        have := log2_lt (i := fo) (m := 40) (by omega) (by decide)
        have h2 : (48271 : Int).natAbs.log2 < 20 := by decide
        show _ + _ < _
        omega)) (Evl.ev_var rfl))) Evl.ev_c (by decide)) (Evl.ev_var rfl) ev_k p.2 pen_len fun H6 e6 => ?_
      have p := p.upF e6 ((fo * 48271 + cells[i]) % 2147483563)
      exact fin _ _ _ _ _ p (by omega) h6 h7 (Int.emod_nonneg _ (by decide)) (Int.emod_lt_of_pos _ (by decide))
  · have p := p.ex e2
    exact fin _ _ _ _ _ p h5 h6 h7 h10 h11
abbrev tListOf (K : PySem.W.Frag) (te : TE) : TE := tCB (fun xs H Q => ∃ p ys, xs = [V.ref p] ∧ (SqL K H p ys ∨ SqT K H p ys) ∧ ∀ l, H l = none → Q (.ref l) (upd H l (.lst ys))) (tCons te tNil)
def penT (K : PySem.W.Frag) : TS :=
  tSeq (tAsg (tI 0) (gName 1))
  (tSeq (tFor (iList K (tVar 0)) (gName 2) (tAsg (tMod (tInt (tAdd (tMul (tVar 1) (tI 59)) (tVar 2))) (tI 1000000009)) (gName 1)))
  (tRet (tDisp [(tC (.str "cells"), tListOf K (tVar 0)), (tC (.str "at"), tI 0), (tC (.str "digits"), tI 0), (tC (.str "count"), tI 0), (tC (.str "fold"), tVar 1)])))
theorem bits_of {z : Int} (h : Builtin.Int.intBits z ≤ 1048576) : z.natAbs < 2 ^ scriptBits := by
  unfold Builtin.Int.intBits at h
  by_cases h0 : z = 0
  · rw [h0]; exact Nat.pow_pos (by decide)
  · have hn : z.natAbs ≠ 0 := by omega
    have h0' : ¬ ((z == 0) = true) := by simpa using h0
    rw [if_neg h0'] at h
    exact (Nat.log2_lt hn).mp (Nat.lt_of_lt_of_le (Nat.lt_of_succ_le h) (by decide))
theorem pen_read {Q : VK} {cells : List Int} (hs : SqL K H a (cells.map V.int)) (h3 : cells.length ≤ 63) (h4 : ∀ c ∈ cells, c.natAbs < 2 ^ scriptBits) (q : ∀ p H', H p = none → Evl.Ex H H' → PenAt K 0 H' p → Q (.ref p) H') :
    penT K { nx := fun _ H' => Q .non H', rt := Q } [some (.ref a), none, none] H := by
  unfold penT
  refine Evl.q_asg Evl.ev_c fun H1 e1 => ?_
  refine Evl.q_forLn (a := a) (xs := cells.map V.int) (Evl.ev_var rfl) (Evl.ex_l e1 hs) (fun i σ' H' => ∃ f c, σ' = [some (.ref a), some (.int f), c] ∧ 0 ≤ f ∧ f < 1000000009 ∧ Evl.Ex H H') (fun H2 e2 => ⟨0, none, rfl, by decide, by decide, e1.trans e2⟩) (fun i σ' H' hi ⟨f, c, es, f0, f1, e⟩ => Evl.ex_l e hs) ?_ ?_
  · rintro i x σ' H' hx ⟨f, c, rfl, f0, f1, e⟩
    obtain ⟨z, ez, rfl⟩ : ∃ z, cells[i]? = some z ∧ x = .int z := by
      rw [List.getElem?_map] at hx
      cases e : cells[i]? with
      | none => rw [e] at hx; cases hx
      | some z => rw [e] at hx; exact ⟨z, rfl, (Option.some.inj hx).symm⟩
    refine Evl.s_asg (ev_mod (ev_int1 (ev_add (ev_mul (Evl.ev_var rfl) Evl.ev_c (by
        have := log2_lt (i := f) (m := 40) (by omega) (by decide)
        have h2 : (59 : Int).natAbs.log2 < 20 := by decide
        show _ + _ < _
        omega)) (Evl.ev_var rfl))) Evl.ev_c (by decide)) fun H2 e2 => ?_
    exact ⟨(f * 59 + z) % 1000000009, some (.int z), rfl, Int.emod_nonneg _ (by decide), Int.emod_lt_of_pos _ (by decide), e.trans e2⟩
  · rintro σ' H' ⟨f, c, rfl, f0, f1, e⟩
    intro p hp
    have hs' := Evl.ex_l (e.trans (Evl.Ex.new (o := .dK []) hp)) hs
    refine ⟨.ref a, rfl, a, _, rfl, .inl hs', fun l hl => ?_⟩
    have lp : l ≠ p := fun e => by rw [e, upd_same] at hl; cases hl
    refine ⟨_, rfl, by rw [upd_ne (Ne.symm lp), upd_same], [(kC, .ref l), (kA, .int 0), (kD, .int 0), (kN, .int 0), (kF, .int f)], rfl, by show 5 ≤ 15; decide, ?_⟩
    have em : mergeK [] [(kC, V.ref l), (kA, .int 0), (kD, .int 0), (kN, .int 0), (kF, .int f)] = penL l 0 0 0 f := rfl
    rw [em]
    have hpH : H p = none := Evl.fresh_back e hp
    refine q p _ hpH ?_ ⟨l, cells, 0, 0, 0, f, upd_same, by rw [upd_ne lp, upd_same], h3, h4, by decide, by decide, by exact Nat.pow_pos (by decide), by decide, by decide, f0, by omega⟩
    refine Evl.Ex.mut ?_ hpH
    exact (e.trans (Evl.Ex.new hp)).trans (Evl.Ex.new hl)
end
/-- the promise of `_law_pen` -/
def spPen (K : PySem.W.Frag) : Sp := fun vs H Q _ => ∃ (a : Addr) (ns : List Int), vs = [.ref a] ∧ SqL K H a (ns.map V.int) ∧ ns.length ≤ 63 ∧ (∀ z ∈ ns, z.natAbs < 2 ^ scriptBits) ∧ ∀ p H', H p = none → Evl.Ex H H' → PenAt K 0 H' p → Q (.ref p) H'
/-- the promise of `law` -/
def spLaw (K : PySem.W.Frag) : Sp := fun vs H Q _ => ∃ (a : Addr) (ns : List Int), vs = [.ref a] ∧ SqL K H a (ns.map V.int) ∧ ns.length ≤ 63 ∧ (∀ z ∈ ns, z.natAbs < 2 ^ scriptBits) ∧ ∀ H', Q (.bl true) H'
/-- a draw: any number below many -/
def wDraw : W := fun ds n Q _ => match ds with
  | [.pen _, .int many] => 1 ≤ many ∧ many < 2 ^ 62 ∧ n < 2 ^ 40 ∧ ∀ r, 0 ≤ r → r < many → Q (.int r) (n + 1)
  | _ => False
theorem wm_draw : Wm wDraw := ⟨fun ds n Q Q' E E' hq he h => by
  unfold wDraw at h ⊢
  split at h
  · exact ⟨h.1, h.2.1, h.2.2.1, fun r h0 h1 => hq _ _ (h.2.2.2 r h0 h1)⟩
  · exact h.elim⟩
section
variable {P : Program} {w : World} {K : PySem.W.Frag} {mg : Str → Option Value} {base : Heap}
theorem fnPen {x qual : Str} {st : Stmt} {f : Addr} {fd : FuncData} {N : List Str} (F : Fun K x qual st f fd) (S : FnScope N ["script"] (defScope st)) (hN : N.length = 3)
    (hbody : ∀ (cdv : Value) (A : Around) (outer : List Env) (s : Shared) (H : Hp) (E : XK), Room 0 (A.deeper (envOfC qual (defScope st) s.heap.objs.size f cdv)) →
      PSs (cxOf (L2.CX P w) P w K mg base N qual (defScope st) f cdv A outer s H E).nox (defBody st) (penT K)) : FnOk P w K mg base (L2.CX P w) 1 f fd ["script"] (spPen K) := by
  refine F.okX S (fun vs H Q E h => ?_) (fun cdv A outer s H vs Q E hr h => ?_)
  · obtain ⟨a, ns, rfl, _⟩ := h; rfl
  · obtain ⟨a, ns, rfl, hs, hl, hb, q⟩ := h
    refine ⟨_, (hbody cdv A outer s H E hr).nox, ?_⟩
    have e : L2.start N [V.ref a] = [some (.ref a), none, none] := by unfold L2.start; rw [hN]; rfl
    rw [e]
    exact pen_read hs hl hb q
theorem fnDraw {x qual : Str} {st : Stmt} {f : Addr} {fd : FuncData} {N : List Str} (F : Fun K x qual st f fd) (S : FnScope N ["pen", "many"] (defScope st)) (hN : N.length = 5)
    (hbody : ∀ (cdv : Value) (A : Around) (outer : List Env) (s : Shared) (H : Hp) (E : XK), Room 0 (A.deeper (envOfC qual (defScope st) s.heap.objs.size f cdv)) →
      PSs (cxOf (L2.CX P w) P w K mg base N qual (defScope st) f cdv A outer s H E).nox (defBody st) (drawT K)) : FnOk P w K mg base (L2.CX P w) 1 f fd ["pen", "many"] (spD K 2 wDraw) := by
  refine F.okX S (fun vs H Q E h => h.1) (fun cdv A outer s H vs Q E hr h => ?_)
  obtain ⟨hl, A', ds, n, hA, r, z⟩ := h
  refine ⟨_, (hbody cdv A outer s H E hr).nox, ?_⟩
  unfold wDraw at z
  split at z
  · obtain ⟨m1, m2, hn, z⟩ := z
    obtain ⟨v, u, rfl, rv, ru⟩ := reps2 r
    obtain ⟨rfl, hp⟩ := rv
    have ru : u = _ := ru
    subst ru
    rename_i p many
    have e : L2.start N [V.ref p, V.int many] = [some (.ref p), some (.int many), none, none, none] := by unfold L2.start; rw [hN]; rfl
    rw [e]
    exact draw_read hA hp m1 m2 hn fun r H' h0 h1 s => z r h0 h1 _ H' s rfl
  · exact z.elim
def lawEnds : DEn := ⟨fun _ _ => False, fun d _ => d = .bl true, fun _ _ => False, fun _ _ => False, fun _ _ => False⟩
theorem fnLaw {x qual : Str} {st : Stmt} {f : Addr} {fd : FuncData} {N : List Str} {k : Nat} (F : Fun K x qual st f fd) (S : FnScope N ["script"] (defScope st)) (hN : 2 ≤ N.length)
    (hbody : ∀ (cdv : Value) (A : Around) (outer : List Env) (s : Shared) (H : Hp) (E : XK), Room k (A.deeper (envOfC qual (defScope st) s.heap.objs.size f cdv)) →
      ∃ s1 rest m, defBody st = s1 :: rest ∧ PS (cxOf (L2.CX P w) P w K mg base N qual (defScope st) f cdv A outer s H E).nox s1 (tAsg (tCall (spPen K) [] E0 (tCons (tVar 0) tNil)) (gName 1)) ∧
        DSs (cxOf (L2.CX P w) P w K mg base N qual (defScope st) f cdv A outer s H E).nox E0 rest m ∧ ∀ p, m (.no :: .sh (.pen p) :: List.replicate (N.length - 2) .no) 0 lawEnds) : FnOk P w K mg base (L2.CX P w) (k + 1) f fd ["script"] (spLaw K) := by
  refine F.okX S (fun vs H Q E h => ?_) (fun cdv A outer s H vs Q E hr h => ?_)
  · obtain ⟨a, ns, rfl, _⟩ := h; rfl
  · obtain ⟨a, ns, rfl, hs, hl, hb, q⟩ := h
    obtain ⟨s1, rest, m, eb, h1, h2, hm⟩ := hbody cdv A outer s H E hr
    refine ⟨_, by rw [eb]; exact (pss_cons h1 h2.ps).nox, ?_⟩
    refine ⟨.ref a, rfl, a, ns, rfl, hs, hl, hb, fun p H' hp e hpen => ?_⟩
    have own0 : ∀ m, own (.no :: .sh (.pen p) :: List.replicate m Ent.no) = [] := by
      intro m
      show (List.replicate m Ent.no).flatMap Ent.adr = []
      induction m with
      | zero => rfl
      | succ m ih => rw [List.replicate_succ, List.flatMap_cons, ih]; rfl
    have hid : hide [] H' = H' := by funext b; exact hide_out List.not_mem_nil
    have es : (L2.start N [V.ref a]).set 1 (some (.ref p)) = some (.ref a) :: some (.ref p) :: List.replicate (N.length - 2) none := by
      obtain ⟨m, hm⟩ : ∃ m, N.length = m + 2 := ⟨N.length - 2, by omega⟩
      unfold L2.start
      rw [hm]; rfl
    refine ⟨[], _, 0, ⟨fun i e he => ?_, by rw [own0]; exact List.nodup_nil, fun a ha => by rw [own0] at ha; exact absurd ha List.not_mem_nil, fun a ha => absurd ha List.not_mem_nil, ?_⟩, h2.mono _ 0 lawEnds _ ⟨fun _ _ z => False.elim z, fun d k z v H2 m r => ?_, fun _ _ z => False.elim z, fun _ _ z => False.elim z, fun _ _ z => False.elim z⟩ (hm p)⟩
    · rw [own0, List.append_nil, es]
      match i, he with
      | 0, he => cases he; trivial
      | 1, he => cases he; exact ⟨_, rfl, rfl, by rw [hid]; exact hpen⟩
      | i + 2, he =>
        rw [List.getElem?_cons_succ, List.getElem?_cons_succ, List.getElem?_replicate] at he
        split at he
        · cases he; trivial
        · cases he
    · rw [es, List.length_cons, List.length_cons, List.length_cons, List.length_cons, List.length_replicate, List.length_replicate]
      exact Nat.le_refl _
    · have z : d = .bl true := z
      subst z
      have r : v = .bl true := r
      subst r
      exact q H2
end
end DL

set_option Elab.async false
set_option linter.all false
set_option maxRecDepth 100000
set_option maxHeartbeats 4000000
namespace DL
open PySem PySem.Spec PyProof.Rows L2

/-! ### operators of several kinds -/
/-- + -/
def oPlus : OpT := fun a b Q => match a, b with
  | .int i, .int j => Q (.int (i + j))
  | .tup xs, .tup ys => xs.length + ys.length ≤ sizeLine ∧ Q (.tup (xs ++ ys))
  | .lst xs, .lst ys => xs.length + ys.length ≤ sizeLine ∧ Q (.lst (xs ++ ys))
  | .str x, .str y => x.length + y.length ≤ sizeLine ∧ Q (.str (x ++ y))
  | _, _ => False
/-- * -/
def oTimes : OpT := fun a b Q => match a, b with
  | .int i, .int j => MulOk i j ∧ Q (.int (i * j))
  | .lst xs, .int k => -(2 ^ 63) ≤ k ∧ k < 2 ^ 63 ∧ xs.length * k.toNat ≤ sizeLine ∧ Q (.lst (List.replicate k.toNat xs).flatten)
  | .tup xs, .int k => xs ≠ [] ∧ 2 ≤ k ∧ k ≤ 1000 ∧ xs.length ≤ 1000 ∧ Q (.tup (List.replicate k.toNat xs).flatten)
  | _, _ => False
def PowOk (i j : Int) : Prop := 0 ≤ j ∧ j ≤ 1000000 ∧ i.natAbs < 2 ^ 64
abbrev oPow : OpT := oI PowOk fun i j => .int (i ^ j.toNat)
section
variable {X : Cx}
theorem opd_or {f : Value → Value → Sem Value} {o p q : OpT} (h : OpD X f o) (h' : OpD X f p) (s : ∀ a b Q, q a b Q → o a b Q ∨ p a b Q) (m : ∀ a b (Q Q' : D → Prop), (∀ d, Q d → Q' d) → q a b Q → q a b Q') : OpD X f q where
  ok := by
    obtain ⟨r, ro, hr⟩ := h.ok
    obtain ⟨r', ro', hr'⟩ := h'.ok
    exact ⟨_, ro.or ro', fun B n H a b x y Q hB ra rb z => (s a b _ z).elim (fun z => .inl (hr B n H a b x y Q hB ra rb z)) fun z => .inr (hr' B n H a b x y Q hB ra rb z)⟩
  mono := m
def oCatS : OpT := fun a b Q => match a, b with
  | .str x, .str y => x.length + y.length ≤ sizeLine ∧ Q (.str (x ++ y))
  | _, _ => False
theorem od_catS : OpD X (binaryOp .Add) oCatS where
  ok := ⟨_, op_add_str, fun B n H a b x y Q hB ra rb z => by
    unfold oCatS at z
    split at z
    · exact ⟨_, _, ra, rb, z.1, z.2 _ H Step.refl rfl⟩
    · exact z.elim⟩
  mono := fun a b Q Q' hq z => by
    unfold oCatS at z ⊢
    split at z
    · exact ⟨z.1, hq _ z.2⟩
    · exact z.elim
def oPlus1 : OpT := fun a b Q => match a, b with
  | .int i, .int j => Q (.int (i + j))
  | .tup xs, .tup ys => xs.length + ys.length ≤ sizeLine ∧ Q (.tup (xs ++ ys))
  | .lst xs, .lst ys => xs.length + ys.length ≤ sizeLine ∧ Q (.lst (xs ++ ys))
  | _, _ => False
theorem od_plus1 : OpD X (binaryOp .Add) oPlus1 := opd_or od_add od_cat (fun a b Q z => by
    unfold oPlus1 at z
    split at z
    · exact .inl z
    · exact .inr z
    · exact .inr z
    · exact z.elim) fun a b Q Q' hq z => by
    unfold oPlus1 at z ⊢
    split at z
    · exact hq _ z
    · exact ⟨z.1, hq _ z.2⟩
    · exact ⟨z.1, hq _ z.2⟩
    · exact z.elim
theorem od_plus : OpD X (binaryOp .Add) oPlus := opd_or od_plus1 od_catS (fun a b Q z => by
    unfold oPlus at z
    split at z
    · exact .inl z
    · exact .inl z
    · exact .inl z
    · exact .inr z
    · exact z.elim) fun a b Q Q' hq z => by
    unfold oPlus at z ⊢
    split at z
    · exact hq _ z
    · exact ⟨z.1, hq _ z.2⟩
    · exact ⟨z.1, hq _ z.2⟩
    · exact ⟨z.1, hq _ z.2⟩
    · exact z.elim
theorem od_times : OpD X (binaryOp .Mult) oTimes := opd_or od_mul od_rep (fun a b Q z => by
    unfold oTimes at z
    split at z
    · exact .inl z
    · exact .inr z
    · exact .inr z
    · exact z.elim) fun a b Q Q' hq z => by
    unfold oTimes at z ⊢
    split at z
    · exact ⟨z.1, hq _ z.2⟩
    · exact ⟨z.1, z.2.1, z.2.2.1, hq _ z.2.2.2⟩
    · exact ⟨z.1, z.2.1, z.2.2.1, z.2.2.2.1, hq _ z.2.2.2.2⟩
    · exact z.elim
theorem od_pow : OpD X (binaryOp .Pow) oPow := opd_I (C := CPow) op_pow fun _ _ _ _ => rfl
def negE (d : D) (Q : D → Prop) : Prop := match d with
  | .int i => Q (.int (-i))
  | _ => False
def dNeg (m : WE) : WE := fun ρ n Q E => m ρ n (fun d k => negE d fun d => Q d k) E
theorem negE_mono {d : D} {Q Q' : D → Prop} (i : ∀ d, Q d → Q' d) (h : negE d Q) : negE d Q' := by
  unfold negE at h ⊢
  cases d <;> first | exact i _ h | exact h
theorem de_neg {E : XK} {e : Expr} {m : WE} {pos : Pos} (h : DE X E e m) : DE X E (.UnaryOp .USub e pos) (dNeg m) := by
  refine ⟨fun ρ n Q Q' E E' hq he z => h.mono ρ n _ _ _ _ (fun d k z => negE_mono (fun d z => hq _ _ z) z) he z, (pe_un un_neg h.pe).imp fun σ H Q z => ?_⟩
  obtain ⟨A, ρ, n, R, z⟩ := z
  refine tD.run' h.mono R z (fun _ _ z => z) fun d k v H1 s r z => ?_
  unfold negE at z
  split at z
  · exact ⟨_, r, z _ H1 s rfl⟩
  · exact z.elim
end
abbrev oAbs : CallT := o1I fun i => .int (i.natAbs : Int)
abbrev oGcd : CallT := o2I fun i j => .int (Nat.gcd i.natAbs j.natAbs : Nat)
abbrev oMax2 : CallT := o2I fun i j => .int (if j > i then j else i)
abbrev oMin2 : CallT := o2I fun i j => .int (if j < i then j else i)
abbrev oSum : CallT := oNs (fun _ => True) fun bs d => d = .int bs.sum
abbrev oMaxL : CallT := oNs (fun bs => 0 < bs.length) fun bs d => ∃ m, d = .int m ∧ m ∈ bs ∧ ∀ y ∈ bs, y ≤ m
abbrev oMinL : CallT := oNs (fun bs => 0 < bs.length) fun bs d => ∃ m, d = .int m ∧ m ∈ bs ∧ ∀ y ∈ bs, m ≤ y
theorem bt_len : bootBuiltins ("len" : Str) = some (.builtin "len") := by first | kernel_rfl | decide +kernel
theorem bt_all : bootBuiltins ("all" : Str) = some (.builtin "all") := by first | kernel_rfl | decide +kernel
theorem bt_any : bootBuiltins ("any" : Str) = some (.builtin "any") := by first | kernel_rfl | decide +kernel
theorem bt_abs : bootBuiltins ("abs" : Str) = some (.builtin "abs") := by first | kernel_rfl | decide +kernel
theorem bt_max : bootBuiltins ("max" : Str) = some (.builtin "max") := by first | kernel_rfl | decide +kernel
theorem bt_min : bootBuiltins ("min" : Str) = some (.builtin "min") := by first | kernel_rfl | decide +kernel
theorem bt_sum : bootBuiltins ("sum" : Str) = some (.builtin "sum") := by first | kernel_rfl | decide +kernel
theorem bt_isinstance : bootBuiltins ("isinstance" : Str) = some (.builtin "isinstance") := by first | kernel_rfl | decide +kernel
theorem bt_sorted : bootBuiltins ("sorted" : Str) = some (.builtin "sorted") := by first | kernel_rfl | decide +kernel
theorem bt_repr : bootBuiltins ("repr" : Str) = some (.builtin "repr") := by first | kernel_rfl | decide +kernel
theorem bt_int : bootBuiltins ("int" : Str) = some (.type "int") := by first | kernel_rfl | decide +kernel
theorem bt_bool : bootBuiltins ("bool" : Str) = some (.type "bool") := by first | kernel_rfl | decide +kernel
theorem bt_str : bootBuiltins ("str" : Str) = some (.type "str") := by first | kernel_rfl | decide +kernel
theorem bt_tuple : bootBuiltins ("tuple" : Str) = some (.type "tuple") := by first | kernel_rfl | decide +kernel
theorem bt_list : bootBuiltins ("list" : Str) = some (.type "list") := by first | kernel_rfl | decide +kernel
theorem bt_dict : bootBuiltins ("dict" : Str) = some (.type "dict") := by first | kernel_rfl | decide +kernel
theorem bt_range : bootBuiltins ("range" : Str) = some (.type "range") := by first | kernel_rfl | decide +kernel
theorem bt_zip : bootBuiltins ("zip" : Str) = some (.type "zip") := by first | kernel_rfl | decide +kernel
theorem bt_set : bootBuiltins ("set" : Str) = some (.type "set") := by first | kernel_rfl | decide +kernel
theorem bt_enumerate : bootBuiltins ("enumerate" : Str) = some (.type "enumerate") := by first | kernel_rfl | decide +kernel
theorem all_nil {α : Type} {P : α → Prop} : ∀ a ∈ ([] : List α), P a := fun a h => absurd h List.not_mem_nil
theorem all_cons {α : Type} {P : α → Prop} {a : α} {l : List α} (h : P a) (t : ∀ b ∈ l, P b) : ∀ b ∈ a :: l, P b := fun b hb => (List.mem_cons.mp hb).elim (fun e => e ▸ h) (t b)
/-- a def that is never called -/
theorem fnFalse {P : Program} {w : World} {K : PySem.W.Frag} {mg : Str → Option Value} {base : Heap} {CX : CXT} {f : Addr} {fd : FuncData} {ps : List Str} {ar k : Nat} : FnOk P w K mg base CX k f fd ps (spD K ar fun _ _ _ _ => False) where
  len := fun vs H Q E h => by obtain ⟨_, _, _, _, _, _, z⟩ := h; exact z.elim
  run := fun A outer s H a us vs Q E hr he hb r h => by obtain ⟨_, _, _, _, _, _, z⟩ := h; exact z.elim
end DL

set_option Elab.async false
set_option linter.all false
set_option maxRecDepth 100000
set_option maxHeartbeats 4000000
namespace DL
open PySem PySem.Spec PyProof.Rows L2

/-! ### plain: promises -/
/-- of a def that computes -/
def wF (P : List D → Prop) (f : List D → D) : W := fun ds n Q _ => P ds ∧ Q (f ds) n
theorem wm_F {P : List D → Prop} {f : List D → D} : Wm (wF P f) := ⟨fun ds n Q Q' E E' hq he h => ⟨h.1, hq _ _ h.2⟩⟩
/-- of a def that draws, at most c times -/
def wR (P : List D → Prop) (c : Nat) (R : List D → D → Prop) : W := fun ds n Q _ => P ds ∧ n + c ≤ 2 ^ 40 ∧ ∀ r k, n ≤ k → k ≤ n + c → R ds r → Q r k
theorem wm_R {P : List D → Prop} {c : Nat} {R : List D → D → Prop} : Wm (wR P c R) := ⟨fun ds n Q Q' E E' hq he h => ⟨h.1, h.2.1, fun r k h1 h2 h3 => hq _ _ (h.2.2 r k h1 h2 h3)⟩⟩
theorem oI_int {C : Int → Int → Prop} {g : Int → Int → D} {i j : Int} {Q : D → Prop} : oI C g (.int i) (.int j) Q = (C i j ∧ Q (g i j)) := rfl
theorem oI0_int {g : Int → Int → D} {i j : Int} {Q : D → Prop} : oI0 g (.int i) (.int j) Q = Q (g i j) := rfl
theorem oPlus_int {i j : Int} {Q : D → Prop} : oPlus (.int i) (.int j) Q = Q (.int (i + j)) := rfl
theorem oTimes_int {i j : Int} {Q : D → Prop} : oTimes (.int i) (.int j) Q = (MulOk i j ∧ Q (.int (i * j))) := rfl
theorem pl_int {i : Int} : Pl (.int i) := by unfold Pl D.py; rfl
theorem pl_bl {i : Bool} : Pl (.bl i) := by unfold Pl D.py; rfl
theorem oEq_int {neg : Bool} {i j : Int} {Q : D → Prop} : oEq neg (.int i) (.int j) Q = Q (.bl (if neg then !decide (i = j) else decide (i = j))) := by
  have e : eqD (.int i) (.int j) = decide (i = j) := by
    unfold eqD D.py PyData.eqv
    by_cases h : i = j
    · subst h; simp
    · simp [h]
  unfold oEq
  rw [e]
  exact propext ⟨fun h => h.2.2, fun h => ⟨pl_int, pl_int, h⟩⟩
theorem oEq_bl {neg : Bool} {i j : Bool} {Q : D → Prop} : oEq neg (.bl i) (.bl j) Q = Q (.bl (if neg then !(i == j) else i == j)) := by
  have e : eqD (.bl i) (.bl j) = (i == j) := by
    unfold eqD D.py PyData.eqv; rfl
  unfold oEq
  rw [e]
  exact propext ⟨fun h => h.2.2, fun h => ⟨pl_bl, pl_bl, h⟩⟩
theorem atI_0 {a : D} {ds : List D} : atI (a :: ds) 0 = some a := by
  have h : (a :: ds)[0]? = some a := rfl
  exact atI_nat h
theorem atI_1 {a b : D} {ds : List D} : atI (a :: b :: ds) 1 = some b := by
  have h : (a :: b :: ds)[1]? = some b := rfl
  exact atI_nat h
/-! ### data of known types, all the way down -/
mutual
def Gd (cls : List Addr) : D → Prop
  | .non => True
  | .bl _ => True
  | .int _ => True
  | .str _ => True
  | .tup ds => Gds cls ds
  | .lst ds => Gds cls ds
  | .dic _ ds => Gds cls ds
  | .obj C _ ds => C ∈ cls ∧ Gds cls ds
  | _ => False
def Gds (cls : List Addr) : List D → Prop
  | [] => True
  | d :: ds => Gd cls d ∧ Gds cls ds
end
theorem gds_iff {cls : List Addr} : ∀ {ds : List D}, Gds cls ds ↔ ∀ d ∈ ds, Gd cls d
  | [] => ⟨fun _ d h => absurd h List.not_mem_nil, fun _ => trivial⟩
  | d :: ds => by
    unfold Gds
    rw [gds_iff (ds := ds)]
    constructor
    · rintro ⟨h1, h2⟩ e he
      rcases List.mem_cons.mp he with rfl | he
      · exact h1
      · exact h2 e he
    · exact fun h => ⟨h d List.mem_cons_self, fun e he => h e (List.mem_cons_of_mem _ he)⟩
/-- the type's answer -/
def isD (d : D) (u : Ty) : Bool := match d.type with
  | some t => isTy t u
  | none => false
theorem gd_type {cls : List Addr} {d : D} (h : Gd cls d) : ∃ t, d.type = some t ∧ ∀ C, t = .c C → C ∈ cls := by
  cases d with
  | obj C ks ds => exact ⟨_, rfl, fun C' e => by cases e; exact h.1⟩
  | fn _ => exact h.elim
  | ty _ => exact h.elim
  | pen _ => exact h.elim
  | _ => exact ⟨_, rfl, fun C e => nomatch e⟩
theorem isi1 {cls : List Addr} {d c : D} {u : Ty} {Q : D → Prop} (h : Gd cls d) (hc : c.asCls = some u) (hu : askOk cls u) : oIsi1 cls [d, c] Q = Q (.bl (isD d u)) := by
  obtain ⟨t, e, hC⟩ := gd_type h
  unfold oIsi1 isD
  simp only [e, hc]
  exact propext ⟨fun h => h.2.2, fun h => ⟨hC, hu, h⟩⟩
theorem isiT {cls : List Addr} {d : D} {cs : List D} {us : List Ty} {Q : D → Prop} (h : Gd cls d) (hc : clss cs = some us) (hu : ∀ u ∈ us, askOk cls u) : oIsiT cls [d, .tup cs] Q = Q (.bl (us.any (isD d))) := by
  obtain ⟨t, e, hC⟩ := gd_type h
  have e2 : isD d = isTy t := by funext u; unfold isD; rw [e]
  unfold oIsiT
  simp only [e, hc, e2]
  exact propext ⟨fun h => h.2.2, fun h => ⟨hC, hu, h⟩⟩
def tyB (T : String) (d : D) : Bool := isD d (.b T)
theorem isi_ty {cls : List Addr} {d : D} {Q : D → Prop} (h : Gd cls d) (T : String) (hT : T ∈ tyAsked) : oIsi1 cls [d, .ty T] Q = Q (.bl (isD d (.b T))) := isi1 h rfl hT
def isIntB : D → Bool
  | .int _ => true
  | .bl _ => true
  | _ => false
def isBoolB : D → Bool
  | .bl _ => true
  | _ => false
def isTupB : D → Bool
  | .tup _ => true
  | _ => false
def isSeqB : D → Bool
  | .tup _ => true
  | .lst _ => true
  | _ => false
def isStrB : D → Bool
  | .str _ => true
  | _ => false
def isObjB (C : Addr) : D → Bool
  | .obj C' _ _ => decide (C' = C)
  | _ => false
section
variable {cls : List Addr} {d : D} {Q : D → Prop}
theorem isi_int (h : Gd cls d) : oIsi1 cls [d, .ty "int"] Q = Q (.bl (isIntB d)) := by
  rw [isi_ty h "int" (by decide)]; cases d <;> rfl
theorem isi_bool (h : Gd cls d) : oIsi1 cls [d, .ty "bool"] Q = Q (.bl (isBoolB d)) := by
  rw [isi_ty h "bool" (by decide)]; cases d <;> rfl
theorem isi_tuple (h : Gd cls d) : oIsi1 cls [d, .ty "tuple"] Q = Q (.bl (isTupB d)) := by
  rw [isi_ty h "tuple" (by decide)]; cases d <;> rfl
theorem isi_str (h : Gd cls d) : oIsi1 cls [d, .ty "str"] Q = Q (.bl (isStrB d)) := by
  rw [isi_ty h "str" (by decide)]; cases d <;> rfl
theorem asks_seq : ∀ u ∈ [Ty.b "tuple", Ty.b "list"], askOk cls u := fun u hu => by
  rcases List.mem_cons.mp hu with rfl | hu
  · exact (by decide : ("tuple" : String) ∈ tyAsked)
  · rw [List.mem_singleton.mp hu]; exact (by decide : ("list" : String) ∈ tyAsked)
theorem isi_seq (h : Gd cls d) : oIsiT cls [d, .tup [.ty "tuple", .ty "list"]] Q = Q (.bl (isSeqB d)) := by
  rw [isiT h (us := [.b "tuple", .b "list"]) rfl asks_seq]
  cases d <;> rfl
theorem isi_obj {C : Addr} (h : Gd cls d) (hC : C ∈ cls) : oIsi1 cls [d, .fn C] Q = Q (.bl (isObjB C d)) := by
  rw [isi1 (u := .c C) h rfl hC]; cases d <;> rfl
end
theorem seq_tup {ds : List D} : D.seq (.tup ds) = some ds := rfl
theorem seq_lst {ds : List D} : D.seq (.lst ds) = some ds := rfl
end DL

set_option Elab.async false
set_option linter.all false
set_option maxRecDepth 100000
set_option maxHeartbeats 4000000
namespace DL
open PySem PySem.Spec PyProof.Rows L2

/-! ### plain: ratios -/
def rat (q : Rat) : D := .tup [.int q.num, .int (q.den : Nat)]
/-- less than 2 ^ h, above and below the line -/
def sz (h : Nat) (q : Rat) : Prop := q.num.natAbs < 2 ^ h ∧ q.den < 2 ^ h
theorem sz_mono {h k : Nat} {q : Rat} (s : sz h q) (hk : h ≤ k) : sz k q := ⟨Nat.lt_of_lt_of_le s.1 (Nat.pow_le_pow_right (by decide) hk), Nat.lt_of_lt_of_le s.2 (Nat.pow_le_pow_right (by decide) hk)⟩
theorem den_pos (q : Rat) : 0 < (q.den : Int) := by have := q.den_pos; omega
theorem log2_le {i : Int} {m : Nat} (h : i.natAbs < 2 ^ m) : i.natAbs.log2 ≤ m := by
  by_cases h0 : i.natAbs = 0
  · rw [h0, Nat.log2_zero]; exact Nat.zero_le _
  · exact Nat.le_of_lt ((Nat.log2_lt h0).mpr h)
theorem mulOk {i j : Int} (a b : Nat) (hi : i.natAbs < 2 ^ a) (hj : j.natAbs < 2 ^ b) (h : a + b < 1000000) : MulOk i j := by
  have := log2_le hi
  have := log2_le hj
  show _ + _ < _
  omega
theorem divOk {i j : Int} (b : Nat) (h0 : 0 < j) (hj : j.natAbs < 2 ^ b) (h : b < 9000) : DivOk i j := ⟨h0, by have := log2_le hj; omega⟩
theorem natAbs_mul_lt {i j : Int} {a b : Nat} (hi : i.natAbs < 2 ^ a) (hj : j.natAbs < 2 ^ b) : (i * j).natAbs < 2 ^ (a + b) := by
  rw [Int.natAbs_mul, Nat.pow_add]
  exact Nat.mul_lt_mul'' hi hj
theorem natAbs_add_lt {i j : Int} {a : Nat} (hi : i.natAbs < 2 ^ a) (hj : j.natAbs < 2 ^ a) : (i + j).natAbs < 2 ^ (a + 1) := by
  rw [Nat.pow_succ]; omega
theorem natAbs_sub_lt {i j : Int} {a : Nat} (hi : i.natAbs < 2 ^ a) (hj : j.natAbs < 2 ^ a) : (i - j).natAbs < 2 ^ (a + 1) := by
  rw [Nat.pow_succ]; omega
theorem lt_pow_mono {n a b : Nat} (h : n < 2 ^ a) (hab : a ≤ b) : n < 2 ^ b := Nat.lt_of_lt_of_le h (Nat.pow_le_pow_right (by decide) hab)
/-- lowest terms -/
theorem low_rat {t b : Int} (hb : 0 < b) : D.tup [.int (t / (Nat.gcd t.natAbs b.natAbs : Nat)), .int (b / (Nat.gcd t.natAbs b.natAbs : Nat))] = rat (Rat.divInt t b) := by
  unfold rat
  rw [Rat.num_divInt, Rat.den_divInt, if_neg (by omega : b ≠ 0), Int.sign_eq_one_of_pos hb, Int.one_mul]
  have e : b.gcd t = Nat.gcd t.natAbs b.natAbs := by unfold Int.gcd; exact Nat.gcd_comm _ _
  rw [e]
  congr 3
  congr 1
  rw [Int.natCast_ediv]
  congr 1
  omega
theorem sz_divInt {t b : Int} {h : Nat} (hb : 0 < b) (h1 : t.natAbs < 2 ^ h) (h2 : b.natAbs < 2 ^ h) : sz h (Rat.divInt t b) := by
  refine ⟨?_, ?_⟩
  · rw [Rat.num_divInt, Int.sign_eq_one_of_pos hb, Int.one_mul]
    exact Nat.lt_of_le_of_lt (Int.natAbs_ediv_le_natAbs _ _) h1
  · rw [Rat.den_divInt, if_neg (by omega : b ≠ 0)]
    exact Nat.lt_of_le_of_lt (Nat.div_le_self _ _) h2
theorem add_divInt (p q : Rat) : Rat.divInt (p.num * q.den + q.num * p.den) (p.den * q.den) = p + q := by
  have hp := Rat.num_divInt_den p
  have hq := Rat.num_divInt_den q
  have h := Rat.divInt_add_divInt p.num q.num (d₁ := (p.den : Int)) (d₂ := (q.den : Int)) (by have := den_pos p; omega) (by have := den_pos q; omega)
  rw [hp, hq] at h
  exact h.symm
theorem sub_divInt (p q : Rat) : Rat.divInt (p.num * q.den - q.num * p.den) (p.den * q.den) = p - q := by
  have hp := Rat.num_divInt_den p
  have hq := Rat.num_divInt_den q
  have h := Rat.divInt_sub_divInt p.num q.num (d₁ := (p.den : Int)) (d₂ := (q.den : Int)) (by have := den_pos p; omega) (by have := den_pos q; omega)
  rw [hp, hq] at h
  exact h.symm
theorem mul_divInt (p q : Rat) : Rat.divInt (p.num * q.num) (p.den * q.den) = p * q := by
  have hp := Rat.num_divInt_den p
  have hq := Rat.num_divInt_den q
  have h := Rat.divInt_mul_divInt p.num q.num (d₁ := (p.den : Int)) (d₂ := (q.den : Int))
  rw [hp, hq] at h
  exact h.symm
theorem divInt_1 (b : Int) : Rat.divInt b 1 = (b : Rat) := by
  have h := Rat.num_divInt_den (b : Rat)
  simpa using h
/-- of a fraction: the value -/
theorem divInt_val {t b : Int} (hb : b ≠ 0) : Rat.divInt t b * (b : Rat) = (t : Rat) := by
  have h := Rat.divInt_mul_divInt t b (d₁ := b) (d₂ := 1)
  rw [show Rat.divInt b 1 = (b : Rat) from divInt_1 b] at h
  rw [h, show (t : Rat) = Rat.divInt t 1 from (divInt_1 t).symm]
  rw [Rat.divInt_eq_divInt_iff (by omega) (by omega)]
  rw [Int.mul_one, Int.mul_one]
theorem eq_divInt {t b : Int} {q : Rat} (hb : b ≠ 0) (h : q * (b : Rat) = (t : Rat)) : Rat.divInt t b = q := by
  have h2 := divInt_val (t := t) hb
  have hb' : (b : Rat) ≠ 0 := by
    intro e
    exact hb (by exact_mod_cast e)
  grind
theorem num_val (q : Rat) : q * (q.den : Int) = (q.num : Rat) := by
  have h := divInt_val (t := q.num) (b := (q.den : Int)) (by have := den_pos q; omega)
  rw [Rat.num_divInt_den] at h
  exact h
theorem pq_den {p q : Rat} {h k : Nat} (hp : sz h p) (hq : sz k q) : ((p.den : Int) * q.den).natAbs < 2 ^ (h + k) := natAbs_mul_lt (by rw [Int.natAbs_natCast]; exact hp.2) (by rw [Int.natAbs_natCast]; exact hq.2)
theorem dn {q : Rat} {h : Nat} (s : sz h q) : (q.den : Int).natAbs < 2 ^ h := by rw [Int.natAbs_natCast]; exact s.2
end DL

set_option Elab.async false
set_option linter.all false
set_option maxRecDepth 100000
set_option maxHeartbeats 4000000
namespace DL
open PySem PySem.Spec PyProof.Rows L2

/-! ### plain: loops -/
def asgK (t : Tgt) (d : D) (ρ : List Ent) (k : List Ent → Prop) : Prop := match asg t d ρ with
  | some ρ' => k ρ'
  | none => False
/-- [f d for d in ds] -/
theorem lcD_map {t : Tgt} {me : WE} {ρw : List Ent} {n : Nat} (f : D → D) : ∀ {ds : List D} {Q : List D → Nat → Prop}, (∀ d ∈ ds, ∀ Q' : D → Nat → Prop, Q' (f d) n → asgK t d ρw fun ρ' => me ρ' n Q' fun _ _ => False) → Q (ds.map f) n → lcD t dYes me ρw ds n Q
  | [], Q, _, q => q
  | d :: ds, Q, h, q => by
    have h1 := h d List.mem_cons_self (fun r j => lcD t dYes me ρw ds j fun rs i => Q (r :: rs) i) (lcD_map f (fun e he => h e (List.mem_cons_of_mem _ he)) q)
    unfold asgK at h1
    unfold lcD
    cases e : asg t d ρw with
    | none => rw [e] at h1; exact h1
    | some ρ' => rw [e] at h1; exact h1
theorem lcD_mapA {α : Type} {t : Tgt} {me : WE} {ρw : List Ent} {n : Nat} (g f : α → D) : ∀ {xs : List α} {Q : List D → Nat → Prop}, (∀ x ∈ xs, ∀ Q' : D → Nat → Prop, Q' (f x) n → asgK t (g x) ρw fun ρ' => me ρ' n Q' fun _ _ => False) → Q (xs.map f) n → lcD t dYes me ρw (xs.map g) n Q
  | [], Q, _, q => q
  | x :: xs, Q, h, q => by
    have h1 := h x List.mem_cons_self (fun r j => lcD t dYes me ρw (xs.map g) j fun rs i => Q (r :: rs) i) (lcD_mapA g f (fun e he => h e (List.mem_cons_of_mem _ he)) q)
    rw [List.map_cons]
    unfold asgK at h1
    unfold lcD
    cases e : asg t (g x) ρw with
    | none => rw [e] at h1; exact h1
    | some ρ' => rw [e] at h1; exact h1
/-- [f d for d in ds if p d] -/
theorem lcD_filter {t : Tgt} {tt : WT} {me : WE} {ρw : List Ent} {n : Nat} (p : D → Bool) (f : D → D) : ∀ {ds : List D} {Q : List D → Nat → Prop},
    (∀ d ∈ ds, asgK t d ρw fun ρ' => (∀ Q' : Bool → Nat → Prop, Q' (p d) n → tt ρ' n Q' fun _ _ => False) ∧ (p d = true → ∀ Q' : D → Nat → Prop, Q' (f d) n → me ρ' n Q' fun _ _ => False)) → Q ((ds.filter p).map f) n → lcD t tt me ρw ds n Q
  | [], Q, _, q => q
  | d :: ds, Q, h, q => by
    have h1 := h d List.mem_cons_self
    unfold asgK at h1
    unfold lcD
    cases e : asg t d ρw with
    | none => rw [e] at h1; exact h1
    | some ρ' =>
      rw [e] at h1
      refine h1.1 _ ?_
      have rest := fun (Q : List D → Nat → Prop) (q : Q ((ds.filter p).map f) n) => lcD_filter (t := t) (tt := tt) (me := me) (ρw := ρw) (n := n) p f (ds := ds) (Q := Q) (fun e he => h e (List.mem_cons_of_mem _ he)) q
      rw [List.filter_cons] at q
      by_cases hp : p d = true
      · rw [if_pos hp] at q ⊢
        exact h1.2 hp _ (rest _ q)
      · rw [if_neg hp] at q ⊢
        exact rest _ q
/-- [.. for d in ds], its elements drawn: c draws an element at most -/
theorem lcD_rel {t : Tgt} {me : WE} {ρw : List Ent} (R : D → D → Prop) (c : Nat) : ∀ {ds : List D} {n : Nat} {Q : List D → Nat → Prop},
    (∀ d ∈ ds, ∀ k, k + c ≤ n + c * ds.length → n ≤ k → ∀ Q' : D → Nat → Prop, (∀ r j, k ≤ j → j ≤ k + c → R d r → Q' r j) → asgK t d ρw fun ρ' => me ρ' k Q' fun _ _ => False) →
    (∀ rs k, n ≤ k → k ≤ n + c * ds.length → Paired R ds rs → Q rs k) → lcD t dYes me ρw ds n Q
  | [], n, Q, _, q => q [] n (Nat.le_refl _) (Nat.le_add_right _ _) .nil
  | d :: ds, n, Q, h, q => by
    rw [List.length_cons, Nat.mul_succ] at h q
    have h1 := h d List.mem_cons_self n (by omega) (Nat.le_refl _) (fun r j => lcD t dYes me ρw ds j fun rs i => Q (r :: rs) i) (fun r j h1 h2 hr =>
      lcD_rel R c (fun e he k hk1 hk2 Q' hq' => h e (List.mem_cons_of_mem _ he) k (by omega) (by omega) Q' hq') (fun rs k hk1 hk2 hp => q (r :: rs) k (by omega) (by omega) (.cons hr hp)))
    unfold asgK at h1
    unfold lcD
    cases e : asg t d ρw with
    | none => rw [e] at h1; exact h1
    | some ρ' => rw [e] at h1; exact h1
theorem forD_inv {t : Tgt} {mb : WS} {D : DEn} (I : Nat → List Ent → Nat → Prop) : ∀ {ds : List DL.D} (i0 : Nat) {ρ : List Ent} {n : Nat}, I i0 ρ n →
    (∀ i d ρ n, ds[i]? = some d → I (i0 + i) ρ n → ∀ N : List Ent → Nat → Prop, (∀ ρ k, I (i0 + i + 1) ρ k → N ρ k) → asgK t d ρ fun ρ' => mb ρ' n { D with nx := N, ct := N, bk := D.nx }) → (∀ ρ k, I (i0 + ds.length) ρ k → D.nx ρ k) → forD t mb D ds ρ n
  | [], i0, ρ, n, h0, _, hE => hE _ _ h0
  | d :: ds, i0, ρ, n, h0, hs, hE => by
    have h1 := hs 0 d ρ n rfl h0 (fun ρ'' k => forD t mb D ds ρ'' k) (fun ρ k hI => forD_inv I (i0 + 1) hI (fun i d ρ n hd hi N hN => by
      have e : i0 + 1 + i = i0 + (i + 1) := by omega
      rw [e] at hi hN
      exact hs (i + 1) d ρ n (by simpa using hd) hi N hN) (fun ρ k hI => hE ρ k (by rw [List.length_cons]; have e : i0 + 1 + ds.length = i0 + (ds.length + 1) := by omega
                                                                                    rw [e] at hI; exact hI)))
    unfold asgK at h1
    unfold forD
    cases e : asg t d ρ with
    | none => rw [e] at h1; exact h1
    | some ρ' => rw [e] at h1; exact h1
theorem asgK_nm {i : Nat} {d : D} {ρ : List Ent} {k : List Ent → Prop} : asgK (.nm i) d ρ k = k (ρ.set i (.sh d)) := rfl
theorem asgK_tp2 {i j : Nat} {a b : D} {ρ : List Ent} {k : List Ent → Prop} : asgK (.tp [i, j]) (.tup [a, b]) ρ k = k ((ρ.set i (.sh a)).set j (.sh b)) := rfl
theorem zipD_eq : ∀ (as bs : List D), zipD as bs = (as.zip bs).map fun p => D.tup [p.1, p.2]
  | [], bs => by cases bs <;> rfl
  | a :: as, [] => rfl
  | a :: as, b :: bs => by rw [zipD, zipD_eq as bs]; rfl
theorem mem_rangeD {lo : Int} {n : Nat} {d : D} (h : d ∈ rangeD lo n) : ∃ i : Nat, i < n ∧ d = .int (lo + i) := by
  unfold rangeD at h
  obtain ⟨i, hi, rfl⟩ := List.mem_map.mp h
  exact ⟨i, List.mem_range.mp hi, rfl⟩
theorem rangeD_map {lo : Int} {n : Nat} (f : D → D) : (rangeD lo n).map f = (List.range n).map fun (i : Nat) => f (.int (lo + (i : Int))) := by unfold rangeD; rw [List.map_map]; rfl
/-- tables of ratios -/
def ratsD (r : List Rat) : List D := r.map rat
def rowD (r : List Rat) : D := .tup (ratsD r)
def matD (S : List (List Rat)) : D := .tup (S.map rowD)
theorem getElem_ratsD {r : List Rat} {i : Nat} (h : i < r.length) : (ratsD r)[i]? = some (rat r[i]) := by unfold ratsD; rw [List.getElem?_map, List.getElem?_eq_getElem h]; rfl
theorem ratsD_len {r : List Rat} : (ratsD r).length = r.length := List.length_map _
theorem gd_rat {cls : List Addr} (q : Rat) : Gd cls (rat q) := ⟨trivial, trivial, trivial⟩
theorem gds_rats {cls : List Addr} (r : List Rat) : Gds cls (ratsD r) := gds_iff.mpr fun d h => by
  obtain ⟨q, _, rfl⟩ := List.mem_map.mp h
  exact gd_rat q
theorem gd_row {cls : List Addr} (r : List Rat) : Gd cls (rowD r) := gds_rats r
theorem gd_mat {cls : List Addr} (S : List (List Rat)) : Gd cls (matD S) := gds_iff.mpr fun d h => by
  obtain ⟨q, _, rfl⟩ := List.mem_map.mp h
  exact gd_row q
theorem oAll_map {p : D → Bool} {ds : List D} {Q : D → Prop} : oAll [.lst (ds.map fun d => .bl (p d))] Q = Q (.bl (ds.all p)) := by
  have e : ds.map (fun d => D.bl (p d)) = (ds.map p).map D.bl := by rw [List.map_map]; rfl
  rw [e]
  show (match bools ((ds.map p).map D.bl) with | some bs => Q (.bl (bs.all id)) | none => False) = _
  rw [bools_map]
  show Q (.bl ((ds.map p).all id)) = _
  rw [List.all_map]; rfl
theorem oAny_map {p : D → Bool} {ds : List D} {Q : D → Prop} : oAny [.lst (ds.map fun d => .bl (p d))] Q = Q (.bl (ds.any p)) := by
  have e : ds.map (fun d => D.bl (p d)) = (ds.map p).map D.bl := by rw [List.map_map]; rfl
  rw [e]
  show (match bools ((ds.map p).map D.bl) with | some bs => Q (.bl (bs.any id)) | none => False) = _
  rw [bools_map]
  show Q (.bl ((ds.map p).any id)) = _
  rw [List.any_map]; rfl
theorem ite_and {b b' : Bool} {P : D → Prop} {X : Prop} (q : P (.bl (b && b'))) (h : b = true → P (.bl b') → X) : if b = true then X else P (.bl false) := by
  cases b with
  | true => rw [if_pos rfl]; exact h rfl (by simpa using q)
  | false => rw [if_neg (by decide)]; simpa using q
theorem ite_or {b b' : Bool} {P : D → Prop} {X : Prop} (q : P (.bl (b || b'))) (h : b = false → P (.bl b') → X) : if b = true then P (.bl true) else X := by
  cases b with
  | true => rw [if_pos rfl]; simpa using q
  | false => rw [if_neg (by decide)]; exact h rfl (by simpa using q)
theorem oAll_mapA {α : Type} {p : α → Bool} {xs : List α} {Q : D → Prop} : oAll [.lst (xs.map fun x => .bl (p x))] Q = Q (.bl (xs.all p)) := by
  have e : xs.map (fun d => D.bl (p d)) = (xs.map p).map D.bl := by rw [List.map_map]; rfl
  rw [e]
  show (match bools ((xs.map p).map D.bl) with | some bs => Q (.bl (bs.all id)) | none => False) = _
  rw [bools_map]
  show Q (.bl ((xs.map p).all id)) = _
  rw [List.all_map]; rfl
theorem oAny_mapA {α : Type} {p : α → Bool} {xs : List α} {Q : D → Prop} : oAny [.lst (xs.map fun x => .bl (p x))] Q = Q (.bl (xs.any p)) := by
  have e : xs.map (fun d => D.bl (p d)) = (xs.map p).map D.bl := by rw [List.map_map]; rfl
  rw [e]
  show (match bools ((xs.map p).map D.bl) with | some bs => Q (.bl (bs.any id)) | none => False) = _
  rw [bools_map]
  show Q (.bl ((xs.map p).any id)) = _
  rw [List.any_map]; rfl
end DL

set_option Elab.async false
set_option linter.all false
set_option maxRecDepth 100000
set_option maxHeartbeats 4000000
namespace DL
open PySem PySem.Spec PyProof.Rows L2

/-! ### plain: rows with a common lower number -/
def CdRow (m : Nat) (row : List Rat) : Prop := ∃ D : Int, 0 < D ∧ D.natAbs < 2 ^ m ∧ ∀ q ∈ row, ∃ N : Int, q * (D : Rat) = (N : Rat) ∧ N.natAbs < 2 ^ m
theorem CdRow.mono {m k : Nat} {row : List Rat} (h : CdRow m row) (hk : m ≤ k) : CdRow k row := by
  obtain ⟨D, h0, h1, h2⟩ := h
  exact ⟨D, h0, lt_pow_mono h1 hk, fun q hq => by obtain ⟨N, e, b⟩ := h2 q hq; exact ⟨N, e, lt_pow_mono b hk⟩⟩
theorem CdRow.sz {m : Nat} {row : List Rat} (h : CdRow m row) {q : Rat} (hq : q ∈ row) : DL.sz m q := by
  obtain ⟨D, h0, h1, h2⟩ := h
  obtain ⟨N, e, b⟩ := h2 q hq
  have := eq_divInt (t := N) (b := D) (q := q) (by omega) e
  rw [← this]
  exact sz_divInt h0 b h1
theorem cd_nil : CdRow 1 [] := ⟨1, by decide, by decide, fun q h => absurd h List.not_mem_nil⟩
theorem cd_cons {m h : Nat} {row : List Rat} {q : Rat} (c : CdRow m row) (s : DL.sz h q) : CdRow (h + m) (q :: row) := by
  obtain ⟨D, h0, h1, h2⟩ := c
  have hd := den_pos q
  refine ⟨(q.den : Int) * D, Int.mul_pos hd h0, natAbs_mul_lt (dn s) h1, fun x hx => ?_⟩
  rcases List.mem_cons.mp hx with rfl | hx
  · refine ⟨x.num * D, ?_, natAbs_mul_lt s.1 h1⟩
    have := num_val x
    push_cast at this ⊢
    grind
  · obtain ⟨N, e, b⟩ := h2 x hx
    refine ⟨(q.den : Int) * N, ?_, natAbs_mul_lt (dn s) b⟩
    push_cast at e ⊢
    grind
theorem cd_row {h : Nat} : ∀ {row : List Rat}, (∀ q ∈ row, DL.sz h q) → CdRow (h * row.length + 1) row
  | [], _ => cd_nil
  | q :: row, hs => by
    have := cd_cons (cd_row fun x hx => hs x (List.mem_cons_of_mem _ hx)) (hs q List.mem_cons_self)
    rw [List.length_cons, Nat.mul_succ]
    exact this.mono (by omega)
theorem cd_snoc {m h : Nat} {row : List Rat} {q : Rat} (c : CdRow m row) (s : DL.sz h q) : CdRow (h + m) (row ++ [q]) := by
  obtain ⟨D, h0, h1, h2⟩ := cd_cons c s
  exact ⟨D, h0, h1, fun x hx => h2 x (by rcases List.mem_append.mp hx with h | h; exact List.mem_cons_of_mem _ h; rw [List.mem_singleton.mp h]; exact List.mem_cons_self)⟩
/-- a row divided by one of its items -/
theorem cd_div {m : Nat} {row : List Rat} {h : Rat} (c : CdRow m row) (hh : h ∈ row) (h0 : h ≠ 0) : CdRow m (row.map fun q => q / h) := by
  obtain ⟨D, d0, d1, d2⟩ := c
  obtain ⟨Nh, eh, bh⟩ := d2 h hh
  have hD : (D : Rat) ≠ 0 := by
    intro e
    have : D = 0 := by exact_mod_cast e
    omega
  have hN : Nh ≠ 0 := by
    intro e
    rw [e] at eh
    have : h * (D : Rat) = 0 := by rw [eh]; rfl
    grind
  rcases Int.lt_or_gt_of_ne hN with hn | hp
  · refine ⟨-Nh, by omega, by rw [Int.natAbs_neg]; exact bh, fun x hx => ?_⟩
    obtain ⟨q, hq, rfl⟩ := List.mem_map.mp hx
    obtain ⟨N, e, b⟩ := d2 q hq
    refine ⟨-N, ?_, by rw [Int.natAbs_neg]; exact b⟩
    push_cast
    grind
  · refine ⟨Nh, hp, bh, fun x hx => ?_⟩
    obtain ⟨q, hq, rfl⟩ := List.mem_map.mp hx
    obtain ⟨N, e, b⟩ := d2 q hq
    refine ⟨N, ?_, b⟩
    grind
/-- one row less a multiple of another -/
theorem cd_sub {m : Nat} {row piv : List Rat} {by' : Rat} (c1 : CdRow m row) (c2 : CdRow m piv) (hb : by' ∈ row) : CdRow (2 * m + 1) ((row.zip piv).map fun p => p.1 - by' * p.2) := by
  obtain ⟨D, d0, d1, d2⟩ := c1
  obtain ⟨E, e0, e1, e2⟩ := c2
  obtain ⟨Nb, eb, bb⟩ := d2 by' hb
  refine ⟨D * E, Int.mul_pos d0 e0, lt_pow_mono (natAbs_mul_lt d1 e1) (by omega), fun x hx => ?_⟩
  obtain ⟨p, hp, rfl⟩ := List.mem_map.mp hx
  obtain ⟨N1, h1, b1⟩ := d2 p.1 (List.of_mem_zip hp).1
  obtain ⟨N2, h2, b2⟩ := e2 p.2 (List.of_mem_zip hp).2
  refine ⟨N1 * E - Nb * N2, ?_, ?_⟩
  · push_cast
    grind
  · have := natAbs_sub_lt (natAbs_mul_lt b1 e1) (natAbs_mul_lt bb b2)
    exact lt_pow_mono this (by omega)

/-! ### plain: owned lists -/
theorem owE_ow {t : OT} {k : OT → Prop} : owE (some (.ow t)) k = k t := rfl
theorem ndE_nd {a : Addr} {ts : List OT} {k : Addr → List OT → Prop} : ndE (.node a ts) k = k a ts := rfl
theorem put_nil {a : Addr} {ts ts' : List OT} : OT.put [] (.node a ts) ts' = .node a ts' := by unfold OT.put; rfl
theorem put_one {a b : Addr} {ts us us' : List OT} {j : Nat} (h : ts[j]? = some (.node b us)) : OT.put [j] (.node a ts) us' = .node a (ts.set j (.node b us')) := by
  unfold OT.put
  rw [h]
  show OT.node a (ts.set j (OT.put [] (.node b us) us')) = _
  rw [put_nil]
theorem ixE_nat {n j : Nat} {k : Nat → Prop} (h : j < n) (q : k j) : ixE n (.int (j : Int)) k := ⟨j, Evl.ixN_nat h, q⟩
theorem lcF_mapA {α : Type} {t : Tgt} {me : WF} {ρw : List Ent} {n : Nat} (g : α → D) (f : α → OT) : ∀ {xs : List α} {Q : List OT → Nat → Prop}, (∀ x ∈ xs, ∀ Q' : OT → Nat → Prop, Q' (f x) n → asgK t (g x) ρw fun ρ' => me ρ' n Q' fun _ _ => False) → Q (xs.map f) n → lcF t dYes me ρw (xs.map g) n Q
  | [], Q, _, q => q
  | x :: xs, Q, h, q => by
    have h1 := h x List.mem_cons_self (fun r j => lcF t dYes me ρw (xs.map g) j fun rs i => Q (r :: rs) i) (lcF_mapA g f (fun e he => h e (List.mem_cons_of_mem _ he)) q)
    rw [List.map_cons]
    unfold asgK at h1
    unfold lcF
    cases e : asg t (g x) ρw with
    | none => rw [e] at h1; exact h1
    | some ρ' => rw [e] at h1; exact h1
def lf (r : List Rat) : OT := .leaf (.lst (ratsD r))
theorem lf_get {W : List (List Rat)} {k : Nat} {r : List Rat} (h : W[k]? = some r) : (W.map lf)[k]? = some (lf r) := by rw [List.getElem?_map, h]; rfl
theorem toDs_map {α : Type} {f : α → OT} : ∀ xs : List α, OT.toDs (xs.map f) = xs.map fun x => (f x).toD
  | [] => rfl
  | x :: xs => by rw [List.map_cons, OT.toDs, toDs_map xs]; rfl
theorem lcD_filterA {α : Type} {t : Tgt} {tt : WT} {me : WE} {ρw : List Ent} {n : Nat} (g f : α → D) (p : α → Bool) : ∀ {xs : List α} {Q : List D → Nat → Prop},
    (∀ x ∈ xs, asgK t (g x) ρw fun ρ' => (∀ Q' : Bool → Nat → Prop, Q' (p x) n → tt ρ' n Q' fun _ _ => False) ∧ (p x = true → ∀ Q' : D → Nat → Prop, Q' (f x) n → me ρ' n Q' fun _ _ => False)) → Q ((xs.filter p).map f) n → lcD t tt me ρw (xs.map g) n Q
  | [], Q, _, q => q
  | x :: xs, Q, h, q => by
    have h1 := h x List.mem_cons_self
    unfold asgK at h1
    rw [List.map_cons]
    unfold lcD
    cases e : asg t (g x) ρw with
    | none => rw [e] at h1; exact h1
    | some ρ' =>
      rw [e] at h1
      refine h1.1 _ ?_
      have rest := fun (Q : List D → Nat → Prop) (q : Q ((xs.filter p).map f) n) => lcD_filterA (t := t) (tt := tt) (me := me) (ρw := ρw) (n := n) g f p (xs := xs) (Q := Q) (fun e he => h e (List.mem_cons_of_mem _ he)) q
      rw [List.filter_cons] at q
      by_cases hp : p x = true
      · rw [if_pos hp] at q ⊢
        exact h1.2 hp _ (rest _ q)
      · rw [if_neg hp] at q ⊢
        exact rest _ q
theorem range_get {N k : Nat} {d : D} (h : ((List.range N).map fun (i : Nat) => D.int (0 + (i : Int)))[k]? = some d) : k < N ∧ d = .int (k : Nat) := by
  rw [List.getElem?_map] at h
  by_cases hk : k < N
  · rw [List.getElem?_range hk] at h
    cases h
    exact ⟨hk, by simp⟩
  · rw [List.getElem?_eq_none (by rw [List.length_range]; omega)] at h
    cases h
end DL

set_option Elab.async false
set_option linter.all false
set_option maxRecDepth 100000
set_option maxHeartbeats 4000000
namespace DL
open PySem PySem.Spec PyProof.Rows L2
structure Cl where
  (BadRatio BadRow Unlike CalmError Lid Floor : Addr)
  cls : List Addr
abbrev w_law_draw (c : Cl) : W := wDraw
theorem wm_law_draw {c : Cl} : Wm (w_law_draw c) := wm_draw
def isWholeD : D → Bool
  | .int _ => true
  | _ => false
def isRatioD : D → Bool
  | .int _ => true
  | .tup [.int _, .int b] => decide (1 ≤ b)
  | .lst [.int _, .int b] => decide (1 ≤ b)
  | _ => false
abbrev w_is_whole (c : Cl) : W := wF (fun ds => ∃ d, ds = [d] ∧ Gd c.cls d) (fun | [d] => .bl (isWholeD d) | _ => .non)
theorem wm_is_whole {c : Cl} : Wm (w_is_whole c) := wm_F
def m_is_whole (c : Cl) : WS := sRet (dAndV (dCB (oIsi1 c.cls) (dCons (dVar 0) (dCons (dC (.ty "int")) (dNil)))) (dNotV (dCB (oIsi1 c.cls) (dCons (dVar 0) (dCons (dC (.ty "bool")) (dNil))))))
theorem rd_is_whole (c : Cl) : ∀ ds n Q Ex, ds.length = (["value"] : List Str).length → w_is_whole c ds n Q Ex → m_is_whole c (startD ["value"] ds) n (fnEnds Q fun _ _ => False) := by
  rintro ds n Q Ex - ⟨⟨d, rfl, hd⟩, q⟩
  replace q : Q (.bl (isWholeD d)) n := q
  simp only [m_is_whole, pVar, pIx, dLeaf, dLenO, gtSub, gtNm, gtTup, gtCons, gtNil, sAsgT, sSetF, sApp, fLc, fLeaf, fOp, fList, fLst, owE_ow, ndE_nd, put_nil, w_law_draw, wDraw, wSeq, wRng1, wRng2, wZip, dLc, asgK_nm, asgK_tp2, sFor, oAll_map, oAny_map, wipeD, oSl, List.length_cons, List.length_nil, sSeq, sAsg, sRet, sRetN, sIf, sNext, sPar, sDrop, sFrz, sAug, dOp, dVar, dC, dTup, dLst, dCons, dNil, dCall, dCB, dIx, dTest, dAnd, dOr, dNot, dAndV, dOrV, dNotV, dB, dIf, dNeg, dFld, dSelf, sSelf, dSl, dNoPart, dPart, dRevT, dDic1, dIsN, entD, asg, setAll, fnEnds, startD, startI, initEnds, slE, slI, fieldD, frzs, frz, List.map, List.length, List.replicate, List.getElem?_cons_zero, List.getElem?_cons_succ, List.set_cons_zero, List.set_cons_succ, List.cons_append, List.nil_append, wF, wR, oI_int, oI0_int, oPlus_int, oTimes_int, o1I, o2I, oInt, negE, revE, seq_tup, seq_lst, oIx, atI_0, atI_1, o1S, oEq_int, oEq_bl, if_true, if_false, Bool.not_true, Bool.not_false, isi_int hd, isi_bool hd]
  cases d <;> exact q
abbrev w_is_ratio (c : Cl) : W := wF (fun ds => ∃ d, ds = [d] ∧ Gd c.cls d) (fun | [d] => .bl (isRatioD d) | _ => .non)
theorem wm_is_ratio {c : Cl} : Wm (w_is_ratio c) := wm_F
def m_is_ratio (c : Cl) : WS := sSeq (sIf (dTest (dCall (w_is_whole c) (dCons (dVar 0) (dNil)))) (sRet (dC (.bl true))) (sNext))
  (sSeq (sIf (dOr (dNot (dTest (dCB (oIsiT c.cls) (dCons (dVar 0) (dCons (dTup (dCons (dC (.ty "tuple")) (dCons (dC (.ty "list")) (dNil)))) (dNil)))))) (dTest (dOp (oEq true) (dCB oLen (dCons (dVar 0) (dNil))) (dC (.int 2))))) (sRet (dC (.bl false))) (sNext))
  (sRet (dAndV (dCall (w_is_whole c) (dCons (dIx (dVar 0) (dC (.int 0))) (dNil))) (dAndV (dCall (w_is_whole c) (dCons (dIx (dVar 0) (dC (.int 1))) (dNil))) (dOp oGe (dIx (dVar 0) (dC (.int 1))) (dC (.int 1)))))))
theorem rd_is_ratio (c : Cl) : ∀ ds n Q Ex, ds.length = (["value"] : List Str).length → w_is_ratio c ds n Q Ex → m_is_ratio c (startD ["value"] ds) n (fnEnds Q fun _ _ => False) := by
  rintro ds n Q Ex - ⟨⟨d, rfl, hd⟩, q⟩
  replace q : Q (.bl (isRatioD d)) n := q
  simp only [m_is_ratio, pVar, pIx, dLeaf, dLenO, gtSub, gtNm, gtTup, gtCons, gtNil, sAsgT, sSetF, sApp, fLc, fLeaf, fOp, fList, fLst, owE_ow, ndE_nd, put_nil, w_law_draw, wDraw, wSeq, wRng1, wRng2, wZip, dLc, asgK_nm, asgK_tp2, sFor, oAll_map, oAny_map, wipeD, oSl, List.length_cons, List.length_nil, sSeq, sAsg, sRet, sRetN, sIf, sNext, sPar, sDrop, sFrz, sAug, dOp, dVar, dC, dTup, dLst, dCons, dNil, dCall, dCB, dIx, dTest, dAnd, dOr, dNot, dAndV, dOrV, dNotV, dB, dIf, dNeg, dFld, dSelf, sSelf, dSl, dNoPart, dPart, dRevT, dDic1, dIsN, entD, asg, setAll, fnEnds, startD, startI, initEnds, slE, slI, fieldD, frzs, frz, List.map, List.length, List.replicate, List.getElem?_cons_zero, List.getElem?_cons_succ, List.set_cons_zero, List.set_cons_succ, List.cons_append, List.nil_append, wF, wR, oI_int, oI0_int, oPlus_int, oTimes_int, o1I, o2I, oInt, negE, revE, seq_tup, seq_lst, oIx, atI_0, atI_1, o1S, oEq_int, oEq_bl, if_true, if_false, Bool.not_true, Bool.not_false]
  refine ⟨⟨d, rfl, hd⟩, ?_⟩
  simp only [isi_seq hd]
  cases d with
  | tup ds =>
    have g := gds_iff.mp (show Gds c.cls ds from hd)
    rcases ds with _ | ⟨a, _ | ⟨b, _ | ⟨e, ds⟩⟩⟩
    · exact q
    · simpa [isWholeD, isSeqB, seq_tup, isRatioD] using q
    · have ga := g a (by simp)
      have gb := g b (by simp)
      simp [isWholeD, isSeqB, seq_tup, atI_0, atI_1, isRatioD, ga, gb] at q ⊢
      cases a <;> cases b <;> simp_all [oI0_int]
    · have h : ((ds.length : Int) + 1 + 1 + 1 = 2) = False := by simp; omega
      simpa [isWholeD, isSeqB, seq_tup, isRatioD, h] using q
  | lst ds =>
    have g := gds_iff.mp (show Gds c.cls ds from hd)
    rcases ds with _ | ⟨a, _ | ⟨b, _ | ⟨e, ds⟩⟩⟩
    · exact q
    · simpa [isWholeD, isSeqB, seq_lst, isRatioD] using q
    · have ga := g a (by simp)
      have gb := g b (by simp)
      simp [isWholeD, isSeqB, seq_lst, atI_0, atI_1, isRatioD, ga, gb] at q ⊢
      cases a <;> cases b <;> simp_all [oI0_int]
    · have h : ((ds.length : Int) + 1 + 1 + 1 = 2) = False := by simp; omega
      simpa [isWholeD, isSeqB, seq_lst, isRatioD, h] using q
  | _ => exact q
end DL

set_option Elab.async false
set_option linter.all false
set_option maxRecDepth 100000
set_option maxHeartbeats 4000000
namespace DL
open PySem PySem.Spec PyProof.Rows L2

/-! ### the law's own sums -/
abbrev w_law_gcd (c : Cl) : W := wF (fun ds => ∃ i j, ds = [.int i, .int j]) (fun | [.int i, .int j] => .int (Nat.gcd i.natAbs j.natAbs : Nat) | _ => .non)
theorem wm_law_gcd {c : Cl} : Wm (w_law_gcd c) := wm_F
def m_law_gcd (c : Cl) : WS := sSeq (sPar 0 1 (dCons (dCB oAbs (dCons (dVar 0) (dNil))) (dCons (dCB oAbs (dCons (dVar 1) (dNil))) (dNil))))
  (sSeq (sWhile (dTest (dOp oGt (dVar 1) (dC (.int 0)))) (sPar 0 1 (dCons (dVar 1) (dCons (dOp oMod (dCB oInt (dCons (dVar 0) (dNil))) (dVar 1)) (dNil)))))
  (sRet (dVar 0)))
theorem rd_law_gcd (c : Cl) : ∀ ds n Q Ex, ds.length = (["one", "other"] : List Str).length → w_law_gcd c ds n Q Ex → m_law_gcd c (startD ["one", "other"] ds) n (fnEnds Q fun _ _ => False) := by
  rintro ds n Q Ex - ⟨⟨i, j, rfl⟩, q⟩
  replace q : Q (.int (Nat.gcd i.natAbs j.natAbs : Nat)) n := q
  simp only [m_law_gcd, pVar, pIx, dLeaf, dLenO, gtSub, gtNm, gtTup, gtCons, gtNil, sAsgT, sSetF, sApp, fLc, fLeaf, fOp, fList, fLst, owE_ow, ndE_nd, put_nil, w_law_draw, wDraw, wSeq, wRng1, wRng2, wZip, dLc, asgK_nm, asgK_tp2, sFor, oAll_map, oAny_map, wipeD, oSl, List.length_cons, List.length_nil, sSeq, sAsg, sRet, sRetN, sIf, sNext, sPar, sDrop, sFrz, sAug, dOp, dVar, dC, dTup, dLst, dCons, dNil, dCall, dCB, dIx, dTest, dAnd, dOr, dNot, dAndV, dOrV, dNotV, dB, dIf, dNeg, dFld, dSelf, sSelf, dSl, dNoPart, dPart, dRevT, dDic1, dIsN, entD, asg, setAll, fnEnds, startD, startI, initEnds, slE, slI, fieldD, frzs, frz, List.map, List.length, List.replicate, List.getElem?_cons_zero, List.getElem?_cons_succ, List.set_cons_zero, List.set_cons_succ, List.cons_append, List.nil_append, wF, wR, oI_int, oI0_int, oPlus_int, oTimes_int, o1I, o2I, oInt, negE, revE, seq_tup, seq_lst, oIx, atI_0, atI_1, o1S, oEq_int, oEq_bl, if_true, if_false, Bool.not_true, Bool.not_false]
  refine ⟨fun m ρ k => ∃ x y : Nat, ρ = [.sh (.int x), .sh (.int y)] ∧ Nat.gcd x y = Nat.gcd i.natAbs j.natAbs ∧ m = y ∧ k = n, ⟨_, _, _, rfl, rfl, rfl, rfl⟩, ?_⟩
  rintro m ρ k ⟨x, y, rfl, hg, rfl, rfl⟩
  simp only [pVar, pIx, dLeaf, dLenO, gtSub, gtNm, gtTup, gtCons, gtNil, sAsgT, sSetF, sApp, fLc, fLeaf, fOp, fList, fLst, owE_ow, ndE_nd, put_nil, w_law_draw, wDraw, wSeq, wRng1, wRng2, wZip, dLc, asgK_nm, asgK_tp2, sFor, oAll_map, oAny_map, wipeD, oSl, List.length_cons, List.length_nil, sSeq, sAsg, sRet, sRetN, sIf, sNext, sPar, sDrop, sFrz, sAug, dOp, dVar, dC, dTup, dLst, dCons, dNil, dCall, dCB, dIx, dTest, dAnd, dOr, dNot, dAndV, dOrV, dNotV, dB, dIf, dNeg, dFld, dSelf, sSelf, dSl, dNoPart, dPart, dRevT, dDic1, dIsN, entD, asg, setAll, fnEnds, startD, startI, initEnds, slE, slI, fieldD, frzs, frz, List.map, List.length, List.replicate, List.getElem?_cons_zero, List.getElem?_cons_succ, List.set_cons_zero, List.set_cons_succ, List.cons_append, List.nil_append, wF, wR, oI_int, oI0_int, oPlus_int, oTimes_int, o1I, o2I, oInt, negE, revE, seq_tup, seq_lst, oIx, atI_0, atI_1, o1S, oEq_int, oEq_bl, if_true, if_false, Bool.not_true, Bool.not_false]
  by_cases h : 0 < m
  · have h' : (0 : Int) < m := by omega
    rw [if_pos (by simpa using h)]
    exact ⟨h', x % m, Nat.mod_lt _ h, m, x % m, by simp, by rw [← hg, Nat.gcd_comm x m, Nat.gcd_rec m x, Nat.gcd_comm], rfl, trivial⟩
  · have : m = 0 := by omega
    subst this
    rw [if_neg (by simp)]
    rw [Nat.gcd_zero_right] at hg
    rw [hg]; exact q
abbrev w_law_low (c : Cl) : W := wF (fun ds => ∃ t b, ds = [.int t, .int b] ∧ 0 < b ∧ b.natAbs < 2 ^ 8999) (fun | [.int t, .int b] => rat (Rat.divInt t b) | _ => .non)
theorem wm_law_low {c : Cl} : Wm (w_law_low c) := wm_F
def m_law_low (c : Cl) : WS := sSeq (sAsg (.nm 2) (dCall (w_law_gcd c) (dCons (dVar 0) (dCons (dVar 1) (dNil)))))
  (sRet (dTup (dCons (dOp oDiv (dVar 0) (dVar 2)) (dCons (dOp oDiv (dVar 1) (dVar 2)) (dNil)))))
theorem rd_law_low (c : Cl) : ∀ ds n Q Ex, ds.length = (["top", "bottom"] : List Str).length → w_law_low c ds n Q Ex → m_law_low c (startD ["top", "bottom", "part"] ds) n (fnEnds Q fun _ _ => False) := by
  rintro ds n Q Ex - ⟨⟨t, b, rfl, hb, hs⟩, q⟩
  replace q : Q (rat (Rat.divInt t b)) n := q
  rw [← low_rat hb] at q
  simp only [m_law_low, pVar, pIx, dLeaf, dLenO, gtSub, gtNm, gtTup, gtCons, gtNil, sAsgT, sSetF, sApp, fLc, fLeaf, fOp, fList, fLst, owE_ow, ndE_nd, put_nil, w_law_draw, wDraw, wSeq, wRng1, wRng2, wZip, dLc, asgK_nm, asgK_tp2, sFor, oAll_map, oAny_map, wipeD, oSl, List.length_cons, List.length_nil, sSeq, sAsg, sRet, sRetN, sIf, sNext, sPar, sDrop, sFrz, sAug, dOp, dVar, dC, dTup, dLst, dCons, dNil, dCall, dCB, dIx, dTest, dAnd, dOr, dNot, dAndV, dOrV, dNotV, dB, dIf, dNeg, dFld, dSelf, sSelf, dSl, dNoPart, dPart, dRevT, dDic1, dIsN, entD, asg, setAll, fnEnds, startD, startI, initEnds, slE, slI, fieldD, frzs, frz, List.map, List.length, List.replicate, List.getElem?_cons_zero, List.getElem?_cons_succ, List.set_cons_zero, List.set_cons_succ, List.cons_append, List.nil_append, wF, wR, oI_int, oI0_int, oPlus_int, oTimes_int, o1I, o2I, oInt, negE, revE, seq_tup, seq_lst, oIx, atI_0, atI_1, o1S, oEq_int, oEq_bl, if_true, if_false, Bool.not_true, Bool.not_false]
  have hg : 0 < (Nat.gcd t.natAbs b.natAbs : Int) := by
    have : 0 < Nat.gcd t.natAbs b.natAbs := Nat.gcd_pos_of_pos_right _ (by omega)
    omega
  have hl : (Nat.gcd t.natAbs b.natAbs : Int).natAbs < 2 ^ 8999 := by
    have : Nat.gcd t.natAbs b.natAbs ≤ b.natAbs := Nat.gcd_le_right _ (by omega)
    rw [Int.natAbs_natCast]; omega
  exact ⟨⟨t, b, rfl⟩, divOk 8999 hg hl (by decide), divOk 8999 hg hl (by decide), q⟩
/-- two ratios of at most h and k bits -/
abbrev PQ (a : Nat) (ds : List D) : Prop := ∃ p q h k, ds = [rat p, rat q] ∧ sz h p ∧ sz k q ∧ h + k ≤ a
abbrev w_law_add (c : Cl) : W := fun ds n Q _ => ∃ p q, ds = [rat p, rat q] ∧ (∃ h k, sz h p ∧ sz k q ∧ h + k ≤ 8990) ∧ Q (rat (p + q)) n
theorem wm_law_add {c : Cl} : Wm (w_law_add c) := ⟨fun ds n Q Q' E E' hq he ⟨p, q, e, s, z⟩ => ⟨p, q, e, s, hq _ _ z⟩⟩
def m_law_add (c : Cl) : WS := sRet (dCall (w_law_low c) (dCons (dOp oPlus (dOp oTimes (dIx (dVar 0) (dC (.int 0))) (dIx (dVar 1) (dC (.int 1)))) (dOp oTimes (dIx (dVar 1) (dC (.int 0))) (dIx (dVar 0) (dC (.int 1))))) (dCons (dOp oTimes (dIx (dVar 0) (dC (.int 1))) (dIx (dVar 1) (dC (.int 1)))) (dNil))))
theorem rd_law_add (c : Cl) : ∀ ds n Q Ex, ds.length = (["one", "other"] : List Str).length → w_law_add c ds n Q Ex → m_law_add c (startD ["one", "other"] ds) n (fnEnds Q fun _ _ => False) := by
  rintro ds n Q Ex - ⟨p, q, rfl, ⟨h, k, hp, hq, hs⟩, z⟩
  rw [← add_divInt] at z
  simp only [m_law_add, rat, pVar, pIx, dLeaf, dLenO, gtSub, gtNm, gtTup, gtCons, gtNil, sAsgT, sSetF, sApp, fLc, fLeaf, fOp, fList, fLst, owE_ow, ndE_nd, put_nil, w_law_draw, wDraw, wSeq, wRng1, wRng2, wZip, dLc, asgK_nm, asgK_tp2, sFor, oAll_map, oAny_map, wipeD, oSl, List.length_cons, List.length_nil, sSeq, sAsg, sRet, sRetN, sIf, sNext, sPar, sDrop, sFrz, sAug, dOp, dVar, dC, dTup, dLst, dCons, dNil, dCall, dCB, dIx, dTest, dAnd, dOr, dNot, dAndV, dOrV, dNotV, dB, dIf, dNeg, dFld, dSelf, sSelf, dSl, dNoPart, dPart, dRevT, dDic1, dIsN, entD, asg, setAll, fnEnds, startD, startI, initEnds, slE, slI, fieldD, frzs, frz, List.map, List.length, List.replicate, List.getElem?_cons_zero, List.getElem?_cons_succ, List.set_cons_zero, List.set_cons_succ, List.cons_append, List.nil_append, wF, wR, oI_int, oI0_int, oPlus_int, oTimes_int, o1I, o2I, oInt, negE, revE, seq_tup, seq_lst, oIx, atI_0, atI_1, o1S, oEq_int, oEq_bl, if_true, if_false, Bool.not_true, Bool.not_false]
  have e := pq_den hp hq
  have hb : 0 < (p.den : Int) * q.den := Int.mul_pos (den_pos p) (den_pos q)
  exact ⟨mulOk h k hp.1 (dn hq) (by omega), mulOk k h hq.1 (dn hp) (by omega), mulOk h k (dn hp) (dn hq) (by omega), ⟨_, _, rfl, hb, lt_pow_mono e (by omega)⟩, z⟩
abbrev w_law_sub (c : Cl) : W := fun ds n Q _ => ∃ p q, ds = [rat p, rat q] ∧ (∃ h k, sz h p ∧ sz k q ∧ h + k ≤ 8990) ∧ Q (rat (p - q)) n
theorem wm_law_sub {c : Cl} : Wm (w_law_sub c) := ⟨fun ds n Q Q' E E' hq he ⟨p, q, e, s, z⟩ => ⟨p, q, e, s, hq _ _ z⟩⟩
def m_law_sub (c : Cl) : WS := sRet (dCall (w_law_low c) (dCons (dOp oSub (dOp oTimes (dIx (dVar 0) (dC (.int 0))) (dIx (dVar 1) (dC (.int 1)))) (dOp oTimes (dIx (dVar 1) (dC (.int 0))) (dIx (dVar 0) (dC (.int 1))))) (dCons (dOp oTimes (dIx (dVar 0) (dC (.int 1))) (dIx (dVar 1) (dC (.int 1)))) (dNil))))
theorem rd_law_sub (c : Cl) : ∀ ds n Q Ex, ds.length = (["one", "other"] : List Str).length → w_law_sub c ds n Q Ex → m_law_sub c (startD ["one", "other"] ds) n (fnEnds Q fun _ _ => False) := by
  rintro ds n Q Ex - ⟨p, q, rfl, ⟨h, k, hp, hq, hs⟩, z⟩
  rw [← sub_divInt] at z
  simp only [m_law_sub, rat, pVar, pIx, dLeaf, dLenO, gtSub, gtNm, gtTup, gtCons, gtNil, sAsgT, sSetF, sApp, fLc, fLeaf, fOp, fList, fLst, owE_ow, ndE_nd, put_nil, w_law_draw, wDraw, wSeq, wRng1, wRng2, wZip, dLc, asgK_nm, asgK_tp2, sFor, oAll_map, oAny_map, wipeD, oSl, List.length_cons, List.length_nil, sSeq, sAsg, sRet, sRetN, sIf, sNext, sPar, sDrop, sFrz, sAug, dOp, dVar, dC, dTup, dLst, dCons, dNil, dCall, dCB, dIx, dTest, dAnd, dOr, dNot, dAndV, dOrV, dNotV, dB, dIf, dNeg, dFld, dSelf, sSelf, dSl, dNoPart, dPart, dRevT, dDic1, dIsN, entD, asg, setAll, fnEnds, startD, startI, initEnds, slE, slI, fieldD, frzs, frz, List.map, List.length, List.replicate, List.getElem?_cons_zero, List.getElem?_cons_succ, List.set_cons_zero, List.set_cons_succ, List.cons_append, List.nil_append, wF, wR, oI_int, oI0_int, oPlus_int, oTimes_int, o1I, o2I, oInt, negE, revE, seq_tup, seq_lst, oIx, atI_0, atI_1, o1S, oEq_int, oEq_bl, if_true, if_false, Bool.not_true, Bool.not_false]
  have e := pq_den hp hq
  have hb : 0 < (p.den : Int) * q.den := Int.mul_pos (den_pos p) (den_pos q)
  exact ⟨mulOk h k hp.1 (dn hq) (by omega), mulOk k h hq.1 (dn hp) (by omega), mulOk h k (dn hp) (dn hq) (by omega), ⟨_, _, rfl, hb, lt_pow_mono e (by omega)⟩, z⟩
abbrev w_law_mul (c : Cl) : W := fun ds n Q _ => ∃ p q, ds = [rat p, rat q] ∧ (∃ h k, sz h p ∧ sz k q ∧ h + k ≤ 8990) ∧ Q (rat (p * q)) n
theorem wm_law_mul {c : Cl} : Wm (w_law_mul c) := ⟨fun ds n Q Q' E E' hq he ⟨p, q, e, s, z⟩ => ⟨p, q, e, s, hq _ _ z⟩⟩
def m_law_mul (c : Cl) : WS := sRet (dCall (w_law_low c) (dCons (dOp oTimes (dIx (dVar 0) (dC (.int 0))) (dIx (dVar 1) (dC (.int 0)))) (dCons (dOp oTimes (dIx (dVar 0) (dC (.int 1))) (dIx (dVar 1) (dC (.int 1)))) (dNil))))
theorem rd_law_mul (c : Cl) : ∀ ds n Q Ex, ds.length = (["one", "other"] : List Str).length → w_law_mul c ds n Q Ex → m_law_mul c (startD ["one", "other"] ds) n (fnEnds Q fun _ _ => False) := by
  rintro ds n Q Ex - ⟨p, q, rfl, ⟨h, k, hp, hq, hs⟩, z⟩
  rw [← mul_divInt] at z
  simp only [m_law_mul, rat, pVar, pIx, dLeaf, dLenO, gtSub, gtNm, gtTup, gtCons, gtNil, sAsgT, sSetF, sApp, fLc, fLeaf, fOp, fList, fLst, owE_ow, ndE_nd, put_nil, w_law_draw, wDraw, wSeq, wRng1, wRng2, wZip, dLc, asgK_nm, asgK_tp2, sFor, oAll_map, oAny_map, wipeD, oSl, List.length_cons, List.length_nil, sSeq, sAsg, sRet, sRetN, sIf, sNext, sPar, sDrop, sFrz, sAug, dOp, dVar, dC, dTup, dLst, dCons, dNil, dCall, dCB, dIx, dTest, dAnd, dOr, dNot, dAndV, dOrV, dNotV, dB, dIf, dNeg, dFld, dSelf, sSelf, dSl, dNoPart, dPart, dRevT, dDic1, dIsN, entD, asg, setAll, fnEnds, startD, startI, initEnds, slE, slI, fieldD, frzs, frz, List.map, List.length, List.replicate, List.getElem?_cons_zero, List.getElem?_cons_succ, List.set_cons_zero, List.set_cons_succ, List.cons_append, List.nil_append, wF, wR, oI_int, oI0_int, oPlus_int, oTimes_int, o1I, o2I, oInt, negE, revE, seq_tup, seq_lst, oIx, atI_0, atI_1, o1S, oEq_int, oEq_bl, if_true, if_false, Bool.not_true, Bool.not_false]
  have e := pq_den hp hq
  have hb : 0 < (p.den : Int) * q.den := Int.mul_pos (den_pos p) (den_pos q)
  exact ⟨mulOk h k hp.1 hq.1 (by omega), mulOk h k (dn hp) (dn hq) (by omega), ⟨_, _, rfl, hb, lt_pow_mono e (by omega)⟩, z⟩
abbrev w_law_div (c : Cl) : W := fun ds n Q _ => ∃ p q, ds = [rat p, rat q] ∧ (∃ h k, sz h p ∧ sz k q ∧ h + k ≤ 8990) ∧ q ≠ 0 ∧ Q (rat (p / q)) n
theorem wm_law_div {c : Cl} : Wm (w_law_div c) := ⟨fun ds n Q Q' E E' hq he ⟨p, q, e, s, h0, z⟩ => ⟨p, q, e, s, h0, hq _ _ z⟩⟩
def m_law_div (c : Cl) : WS := sSeq (sAsg (.nm 2) (dIf (dTest (dOp oGt (dIx (dVar 1) (dC (.int 0))) (dC (.int 0)))) (dC (.int 1)) (dNeg (dC (.int 1)))))
  (sRet (dCall (w_law_low c) (dCons (dOp oTimes (dOp oTimes (dVar 2) (dIx (dVar 0) (dC (.int 0)))) (dIx (dVar 1) (dC (.int 1)))) (dCons (dOp oTimes (dOp oTimes (dVar 2) (dIx (dVar 0) (dC (.int 1)))) (dIx (dVar 1) (dC (.int 0)))) (dNil)))))
theorem rd_law_div (c : Cl) : ∀ ds n Q Ex, ds.length = (["one", "other"] : List Str).length → w_law_div c ds n Q Ex → m_law_div c (startD ["one", "other", "sign"] ds) n (fnEnds Q fun _ _ => False) := by
  rintro ds n Q Ex - ⟨p, q, rfl, ⟨h, k, hp, hq, hs⟩, h0, z⟩
  have hn : q.num ≠ 0 := fun e => h0 (Rat.num_eq_zero.mp e)
  simp only [m_law_div, rat, pVar, pIx, dLeaf, dLenO, gtSub, gtNm, gtTup, gtCons, gtNil, sAsgT, sSetF, sApp, fLc, fLeaf, fOp, fList, fLst, owE_ow, ndE_nd, put_nil, w_law_draw, wDraw, wSeq, wRng1, wRng2, wZip, dLc, asgK_nm, asgK_tp2, sFor, oAll_map, oAny_map, wipeD, oSl, List.length_cons, List.length_nil, sSeq, sAsg, sRet, sRetN, sIf, sNext, sPar, sDrop, sFrz, sAug, dOp, dVar, dC, dTup, dLst, dCons, dNil, dCall, dCB, dIx, dTest, dAnd, dOr, dNot, dAndV, dOrV, dNotV, dB, dIf, dNeg, dFld, dSelf, sSelf, dSl, dNoPart, dPart, dRevT, dDic1, dIsN, entD, asg, setAll, fnEnds, startD, startI, initEnds, slE, slI, fieldD, frzs, frz, List.map, List.length, List.replicate, List.getElem?_cons_zero, List.getElem?_cons_succ, List.set_cons_zero, List.set_cons_succ, List.cons_append, List.nil_append, wF, wR, oI_int, oI0_int, oPlus_int, oTimes_int, o1I, o2I, oInt, negE, revE, seq_tup, seq_lst, oIx, atI_0, atI_1, o1S, oEq_int, oEq_bl, if_true, if_false, Bool.not_true, Bool.not_false]
  have key : ∀ sign : Int, sign.natAbs = 1 → 0 < sign * q.num → (MulOk sign p.num ∧ MulOk (sign * p.num) ↑q.den ∧ MulOk sign ↑p.den ∧ MulOk (sign * ↑p.den) q.num ∧ (∃ t b, [D.int (sign * p.num * ↑q.den), D.int (sign * ↑p.den * q.num)] = [.int t, .int b] ∧ 0 < b ∧ b.natAbs < 2 ^ 8999) ∧ Q (rat (Rat.divInt (sign * p.num * ↑q.den) (sign * ↑p.den * q.num))) n) := by
    intro sign hs1 hs2
    have s1 : sign.natAbs < 2 ^ 1 := by omega
    have e1 : (sign * p.num).natAbs < 2 ^ h := by rw [Int.natAbs_mul, hs1, Nat.one_mul]; exact hp.1
    have e2 : (sign * (p.den : Int)).natAbs < 2 ^ h := by rw [Int.natAbs_mul, hs1, Nat.one_mul]; exact dn hp
    have hb : 0 < sign * (p.den : Int) * q.num := by
      have : sign * (p.den : Int) * q.num = (p.den : Int) * (sign * q.num) := by grind
      rw [this]; exact Int.mul_pos (den_pos p) hs2
    refine ⟨mulOk 1 h s1 hp.1 (by omega), mulOk h k e1 (dn hq) (by omega), mulOk 1 h s1 (dn hp) (by omega), mulOk h k e2 hq.1 (by omega), ⟨_, _, rfl, hb, lt_pow_mono (natAbs_mul_lt e2 hq.1) (by omega)⟩, ?_⟩
    have e : Rat.divInt (sign * p.num * ↑q.den) (sign * ↑p.den * q.num) = p / q := by
      refine eq_divInt (by omega) ?_
      have hp' := num_val p
      have hq' := num_val q
      have : ((sign * (p.den : Int) * q.num : Int) : Rat) = (sign : Rat) * ((p.den : Int) : Rat) * (q.num : Rat) := by push_cast; rfl
      rw [this]
      have : ((sign * p.num * (q.den : Int) : Int) : Rat) = (sign : Rat) * (p.num : Rat) * ((q.den : Int) : Rat) := by push_cast; rfl
      rw [this]
      grind
    rw [e]; exact z
  by_cases hq0 : 0 < q.num
  · rw [if_pos (by simpa using hq0)]
    exact key 1 rfl (by omega)
  · rw [if_neg (by simpa using hq0)]
    exact key (-1) rfl (by omega)
abbrev w_law_less (c : Cl) : W := fun ds n Q _ => ∃ p q, ds = [rat p, rat q] ∧ (∃ h k, sz h p ∧ sz k q ∧ h + k ≤ 99990) ∧ Q (.bl (decide (p < q))) n
theorem wm_law_less {c : Cl} : Wm (w_law_less c) := ⟨fun ds n Q Q' E E' hq he ⟨p, q, e, s, z⟩ => ⟨p, q, e, s, hq _ _ z⟩⟩
def m_law_less (c : Cl) : WS := sRet (dOp oLt (dOp oTimes (dIx (dVar 0) (dC (.int 0))) (dIx (dVar 1) (dC (.int 1)))) (dOp oTimes (dIx (dVar 1) (dC (.int 0))) (dIx (dVar 0) (dC (.int 1)))))
theorem rd_law_less (c : Cl) : ∀ ds n Q Ex, ds.length = (["one", "other"] : List Str).length → w_law_less c ds n Q Ex → m_law_less c (startD ["one", "other"] ds) n (fnEnds Q fun _ _ => False) := by
  rintro ds n Q Ex - ⟨p, q, rfl, ⟨h, k, hp, hq, hs⟩, z⟩
  simp only [m_law_less, rat, pVar, pIx, dLeaf, dLenO, gtSub, gtNm, gtTup, gtCons, gtNil, sAsgT, sSetF, sApp, fLc, fLeaf, fOp, fList, fLst, owE_ow, ndE_nd, put_nil, w_law_draw, wDraw, wSeq, wRng1, wRng2, wZip, dLc, asgK_nm, asgK_tp2, sFor, oAll_map, oAny_map, wipeD, oSl, List.length_cons, List.length_nil, sSeq, sAsg, sRet, sRetN, sIf, sNext, sPar, sDrop, sFrz, sAug, dOp, dVar, dC, dTup, dLst, dCons, dNil, dCall, dCB, dIx, dTest, dAnd, dOr, dNot, dAndV, dOrV, dNotV, dB, dIf, dNeg, dFld, dSelf, sSelf, dSl, dNoPart, dPart, dRevT, dDic1, dIsN, entD, asg, setAll, fnEnds, startD, startI, initEnds, slE, slI, fieldD, frzs, frz, List.map, List.length, List.replicate, List.getElem?_cons_zero, List.getElem?_cons_succ, List.set_cons_zero, List.set_cons_succ, List.cons_append, List.nil_append, wF, wR, oI_int, oI0_int, oPlus_int, oTimes_int, o1I, o2I, oInt, negE, revE, seq_tup, seq_lst, oIx, atI_0, atI_1, o1S, oEq_int, oEq_bl, if_true, if_false, Bool.not_true, Bool.not_false]
  have e : decide (p < q) = decide (p.num * (q.den : Int) < q.num * (p.den : Int)) := decide_eq_decide.mpr (Rat.lt_iff p q)
  rw [e] at z
  exact ⟨mulOk h k hp.1 (dn hq) (by omega), mulOk k h hq.1 (dn hp) (by omega), z⟩
abbrev w_lowest (c : Cl) : W := w_law_low c
theorem wm_lowest {c : Cl} : Wm (w_lowest c) := wm_F
def m_lowest (c : Cl) : WS := sSeq (sAsg (.nm 2) (dCB oGcd (dCons (dVar 0) (dCons (dVar 1) (dNil)))))
  (sRet (dTup (dCons (dOp oDiv (dVar 0) (dVar 2)) (dCons (dOp oDiv (dVar 1) (dVar 2)) (dNil)))))
theorem rd_lowest (c : Cl) : ∀ ds n Q Ex, ds.length = (["top", "bottom"] : List Str).length → w_lowest c ds n Q Ex → m_lowest c (startD ["top", "bottom", "part"] ds) n (fnEnds Q fun _ _ => False) := by
  rintro ds n Q Ex - ⟨⟨t, b, rfl, hb, hs⟩, q⟩
  replace q : Q (rat (Rat.divInt t b)) n := q
  rw [← low_rat hb] at q
  simp only [m_lowest, pVar, pIx, dLeaf, dLenO, gtSub, gtNm, gtTup, gtCons, gtNil, sAsgT, sSetF, sApp, fLc, fLeaf, fOp, fList, fLst, owE_ow, ndE_nd, put_nil, w_law_draw, wDraw, wSeq, wRng1, wRng2, wZip, dLc, asgK_nm, asgK_tp2, sFor, oAll_map, oAny_map, wipeD, oSl, List.length_cons, List.length_nil, sSeq, sAsg, sRet, sRetN, sIf, sNext, sPar, sDrop, sFrz, sAug, dOp, dVar, dC, dTup, dLst, dCons, dNil, dCall, dCB, dIx, dTest, dAnd, dOr, dNot, dAndV, dOrV, dNotV, dB, dIf, dNeg, dFld, dSelf, sSelf, dSl, dNoPart, dPart, dRevT, dDic1, dIsN, entD, asg, setAll, fnEnds, startD, startI, initEnds, slE, slI, fieldD, frzs, frz, List.map, List.length, List.replicate, List.getElem?_cons_zero, List.getElem?_cons_succ, List.set_cons_zero, List.set_cons_succ, List.cons_append, List.nil_append, wF, wR, oI_int, oI0_int, oPlus_int, oTimes_int, o1I, o2I, oInt, negE, revE, seq_tup, seq_lst, oIx, atI_0, atI_1, o1S, oEq_int, oEq_bl, if_true, if_false, Bool.not_true, Bool.not_false]
  have hg : 0 < (Nat.gcd t.natAbs b.natAbs : Int) := by
    have : 0 < Nat.gcd t.natAbs b.natAbs := Nat.gcd_pos_of_pos_right _ (by omega)
    omega
  have hl : (Nat.gcd t.natAbs b.natAbs : Int).natAbs < 2 ^ 8999 := by
    have : Nat.gcd t.natAbs b.natAbs ≤ b.natAbs := Nat.gcd_le_right _ (by omega)
    rw [Int.natAbs_natCast]; omega
  exact ⟨divOk 8999 hg hl (by decide), divOk 8999 hg hl (by decide), q⟩
abbrev w_rless (c : Cl) : W := w_law_less c
theorem wm_rless {c : Cl} : Wm (w_rless c) := wm_law_less (c := c)
def m_rless (c : Cl) : WS := sRet (dOp oLt (dOp oTimes (dIx (dVar 0) (dC (.int 0))) (dIx (dVar 1) (dC (.int 1)))) (dOp oTimes (dIx (dVar 1) (dC (.int 0))) (dIx (dVar 0) (dC (.int 1)))))
theorem rd_rless (c : Cl) : ∀ ds n Q Ex, ds.length = (["one", "other"] : List Str).length → w_rless c ds n Q Ex → m_rless c (startD ["one", "other"] ds) n (fnEnds Q fun _ _ => False) := by
  intro ds n Q Ex h w
  exact rd_law_less c ds n Q Ex h w
end DL

set_option Elab.async false
set_option linter.all false
set_option maxRecDepth 100000
set_option maxHeartbeats 4000000
namespace DL
open PySem PySem.Spec PyProof.Rows L2

/-! ### the program's forms of ratios -/
def toldD : D → Option Rat
  | .tup [.int a, .int b] => if 1 ≤ b ∧ Nat.gcd a.natAbs b.natAbs = 1 then some (Rat.divInt a b) else none
  | _ => none
theorem toldD_rat {d : D} {q : Rat} (h : toldD d = some q) : d = rat q := by
  unfold toldD at h
  split at h
  · rename_i a b
    split at h
    · rename_i hc
      cases h
      have e := low_rat (t := a) (b := b) (by omega)
      rw [hc.2] at e
      simpa using e
    · cases h
  · cases h
theorem toldD_of (q : Rat) : toldD (rat q) = some q := by
  unfold toldD rat
  have h := q.reduced
  have hd := den_pos q
  simp only
  rw [if_pos ⟨by omega, by simpa [Nat.Coprime] using h⟩, Rat.num_divInt_den]
abbrev w_is_told (c : Cl) : W := wF (fun ds => ∃ d, ds = [d] ∧ Gd c.cls d) (fun | [d] => .bl (toldD d).isSome | _ => .non)
theorem wm_is_told {c : Cl} : Wm (w_is_told c) := wm_F
def m_is_told (c : Cl) : WS := sRet (dAndV (dCB (oIsi1 c.cls) (dCons (dVar 0) (dCons (dC (.ty "tuple")) (dNil)))) (dAndV (dCall (w_is_ratio c) (dCons (dVar 0) (dNil))) (dOp (oEq false) (dCB oGcd (dCons (dIx (dVar 0) (dC (.int 0))) (dCons (dIx (dVar 0) (dC (.int 1))) (dNil)))) (dC (.int 1)))))
theorem rd_is_told (c : Cl) : ∀ ds n Q Ex, ds.length = (["value"] : List Str).length → w_is_told c ds n Q Ex → m_is_told c (startD ["value"] ds) n (fnEnds Q fun _ _ => False) := by
  rintro ds n Q Ex - ⟨⟨d, rfl, hd⟩, q⟩
  replace q : Q (.bl (toldD d).isSome) n := q
  simp only [m_is_told, pVar, pIx, dLeaf, dLenO, gtSub, gtNm, gtTup, gtCons, gtNil, sAsgT, sSetF, sApp, fLc, fLeaf, fOp, fList, fLst, owE_ow, ndE_nd, put_nil, w_law_draw, wDraw, wSeq, wRng1, wRng2, wZip, dLc, asgK_nm, asgK_tp2, sFor, oAll_map, oAny_map, wipeD, oSl, List.length_cons, List.length_nil, sSeq, sAsg, sRet, sRetN, sIf, sNext, sPar, sDrop, sFrz, sAug, dOp, dVar, dC, dTup, dLst, dCons, dNil, dCall, dCB, dIx, dTest, dAnd, dOr, dNot, dAndV, dOrV, dNotV, dB, dIf, dNeg, dFld, dSelf, sSelf, dSl, dNoPart, dPart, dRevT, dDic1, dIsN, entD, asg, setAll, fnEnds, startD, startI, initEnds, slE, slI, fieldD, frzs, frz, List.map, List.length, List.replicate, List.getElem?_cons_zero, List.getElem?_cons_succ, List.set_cons_zero, List.set_cons_succ, List.cons_append, List.nil_append, wF, wR, oI_int, oI0_int, oPlus_int, oTimes_int, o1I, o2I, oInt, negE, revE, seq_tup, seq_lst, oIx, atI_0, atI_1, o1S, oEq_int, oEq_bl, if_true, if_false, Bool.not_true, Bool.not_false, isi_tuple hd]
  cases d with
  | tup ds =>
    refine ⟨⟨_, rfl, hd⟩, ?_⟩
    rcases ds with _ | ⟨a, _ | ⟨b, _ | ⟨e, ds⟩⟩⟩
    · simpa [toldD, isRatioD] using q
    · simpa [toldD, isRatioD] using q
    · simp only [seq_tup, atI_0, atI_1]
      cases a <;> cases b <;> try (simpa [toldD, isRatioD] using q)
      rename_i i j
      simp only [isRatioD, o2I, oEq_int]
      by_cases h : 1 ≤ j
      · by_cases h2 : Nat.gcd i.natAbs j.natAbs = 1
        · simpa [toldD, h, h2] using q
        · have h3 : ¬ ((Nat.gcd i.natAbs j.natAbs : Int) = 1) := by omega
          simpa [toldD, h, h2, h3] using q
      · simpa [toldD, h] using q
    · simpa [toldD, isRatioD] using q
  | _ => exact q
/-- the value of a ratio in any form -/
def valD : D → Rat
  | .int i => i
  | .tup [.int a, .int b] => Rat.divInt a b
  | .lst [.int a, .int b] => Rat.divInt a b
  | _ => 0
/-- its lower number is not too great -/
def lowOk : D → Prop
  | .tup [.int _, .int b] => b.natAbs < 2 ^ 8999
  | .lst [.int _, .int b] => b.natAbs < 2 ^ 8999
  | _ => True
theorem rat_int (i : Int) : D.tup [.int i, .int 1] = rat (i : Rat) := by
  unfold rat
  rw [Rat.num_intCast, Rat.den_intCast]; rfl
abbrev w_told (c : Cl) : W := wF (fun ds => ∃ d, ds = [d] ∧ Gd c.cls d ∧ isRatioD d = true ∧ lowOk d) (fun | [d] => rat (valD d) | _ => .non)
theorem wm_told {c : Cl} : Wm (w_told c) := wm_F
def m_told (c : Cl) : WS := sSeq (sIf (dNot (dTest (dCall (w_is_ratio c) (dCons (dVar 0) (dNil))))) (sNever) (sNext))
  (sSeq (sIf (dTest (dCall (w_is_whole c) (dCons (dVar 0) (dNil)))) (sRet (dTup (dCons (dVar 0) (dCons (dC (.int 1)) (dNil))))) (sNext))
  (sRet (dCall (w_lowest c) (dCons (dIx (dVar 0) (dC (.int 0))) (dCons (dIx (dVar 0) (dC (.int 1))) (dNil))))))
theorem rd_told (c : Cl) : ∀ ds n Q Ex, ds.length = (["ratio"] : List Str).length → w_told c ds n Q Ex → m_told c (startD ["ratio"] ds) n (fnEnds Q fun _ _ => False) := by
  rintro ds n Q Ex - ⟨⟨d, rfl, hd, hr, hl⟩, q⟩
  replace q : Q (rat (valD d)) n := q
  simp only [m_told, pVar, pIx, dLeaf, dLenO, gtSub, gtNm, gtTup, gtCons, gtNil, sAsgT, sSetF, sApp, fLc, fLeaf, fOp, fList, fLst, owE_ow, ndE_nd, put_nil, w_law_draw, wDraw, wSeq, wRng1, wRng2, wZip, dLc, asgK_nm, asgK_tp2, sFor, oAll_map, oAny_map, wipeD, oSl, List.length_cons, List.length_nil, sSeq, sAsg, sRet, sRetN, sIf, sNext, sPar, sDrop, sFrz, sAug, dOp, dVar, dC, dTup, dLst, dCons, dNil, dCall, dCB, dIx, dTest, dAnd, dOr, dNot, dAndV, dOrV, dNotV, dB, dIf, dNeg, dFld, dSelf, sSelf, dSl, dNoPart, dPart, dRevT, dDic1, dIsN, entD, asg, setAll, fnEnds, startD, startI, initEnds, slE, slI, fieldD, frzs, frz, List.map, List.length, List.replicate, List.getElem?_cons_zero, List.getElem?_cons_succ, List.set_cons_zero, List.set_cons_succ, List.cons_append, List.nil_append, wF, wR, oI_int, oI0_int, oPlus_int, oTimes_int, o1I, o2I, oInt, negE, revE, seq_tup, seq_lst, oIx, atI_0, atI_1, o1S, oEq_int, oEq_bl, if_true, if_false, Bool.not_true, Bool.not_false, sNever]
  refine ⟨⟨d, rfl, hd⟩, ?_⟩
  rw [hr]
  refine ⟨⟨d, rfl, hd⟩, ?_⟩
  unfold isRatioD at hr
  split at hr
  · simp only [isWholeD, if_true]
    rw [rat_int]; exact q
  · rename_i _ a b
    have hb : 1 ≤ b := of_decide_eq_true hr
    simp only [isWholeD, seq_tup, atI_0, atI_1]
    exact ⟨⟨a, b, rfl, by omega, hl⟩, q⟩
  · rename_i _ a b
    have hb : 1 ≤ b := of_decide_eq_true hr
    simp only [isWholeD, seq_lst, atI_0, atI_1]
    exact ⟨⟨a, b, rfl, by omega, hl⟩, q⟩
  · cases hr
def isRowD (d : D) : Bool := match d.seq with
  | some ds => !ds.isEmpty && ds.all isRatioD
  | none => false
theorem gd_seq {cls : List Addr} {d : D} {ds : List D} (h : Gd cls d) (e : d.seq = some ds) : ∀ x ∈ ds, Gd cls x := by
  cases d <;> cases e <;> exact gds_iff.mp h
theorem isSeqB_seq {d : D} : isSeqB d = d.seq.isSome := by cases d <;> rfl
theorem len0 {ds : List D} : decide ((ds.length : Int) = 0) = ds.isEmpty := by cases ds <;> simp; omega
abbrev w_is_row (c : Cl) : W := wF (fun ds => ∃ d, ds = [d] ∧ Gd c.cls d) (fun | [d] => .bl (isRowD d) | _ => .non)
theorem wm_is_row {c : Cl} : Wm (w_is_row c) := wm_F
def m_is_row (c : Cl) : WS := sSeq (sIf (dOr (dNot (dTest (dCB (oIsiT c.cls) (dCons (dVar 0) (dCons (dTup (dCons (dC (.ty "tuple")) (dCons (dC (.ty "list")) (dNil)))) (dNil)))))) (dTest (dOp (oEq false) (dCB oLen (dCons (dVar 0) (dNil))) (dC (.int 0))))) (sRet (dC (.bl false))) (sNext))
  (sRet (dCB oAll (dCons (dLc (.nm 1) (wSeq (dVar 0)) (dYes) (dCall (w_is_ratio c) (dCons (dVar 1) (dNil))) [1]) (dNil))))
theorem rd_is_row (c : Cl) : ∀ ds n Q Ex, ds.length = (["value"] : List Str).length → w_is_row c ds n Q Ex → m_is_row c (startD ["value", "item"] ds) n (fnEnds Q fun _ _ => False) := by
  rintro ds n Q Ex - ⟨⟨d, rfl, hd⟩, q⟩
  replace q : Q (.bl (isRowD d)) n := q
  simp only [m_is_row, pVar, pIx, dLeaf, dLenO, gtSub, gtNm, gtTup, gtCons, gtNil, sAsgT, sSetF, sApp, fLc, fLeaf, fOp, fList, fLst, owE_ow, ndE_nd, put_nil, w_law_draw, wDraw, wSeq, wRng1, wRng2, wZip, dLc, asgK_nm, asgK_tp2, sFor, oAll_map, oAny_map, wipeD, oSl, List.length_cons, List.length_nil, sSeq, sAsg, sRet, sRetN, sIf, sNext, sPar, sDrop, sFrz, sAug, dOp, dVar, dC, dTup, dLst, dCons, dNil, dCall, dCB, dIx, dTest, dAnd, dOr, dNot, dAndV, dOrV, dNotV, dB, dIf, dNeg, dFld, dSelf, sSelf, dSl, dNoPart, dPart, dRevT, dDic1, dIsN, entD, asg, setAll, fnEnds, startD, startI, initEnds, slE, slI, fieldD, frzs, frz, List.map, List.length, List.replicate, List.getElem?_cons_zero, List.getElem?_cons_succ, List.set_cons_zero, List.set_cons_succ, List.cons_append, List.nil_append, wF, wR, oI_int, oI0_int, oPlus_int, oTimes_int, o1I, o2I, oInt, negE, revE, seq_tup, seq_lst, oIx, atI_0, atI_1, o1S, oEq_int, oEq_bl, if_true, if_false, Bool.not_true, Bool.not_false, isi_seq hd]
  unfold isRowD at q
  rw [isSeqB_seq]
  cases e : d.seq with
  | none => rw [e] at q; exact q
  | some ds =>
    rw [e] at q
    have q : Q (.bl (!ds.isEmpty && ds.all isRatioD)) n := q
    have g := gd_seq hd e
    simp only [Option.isSome_some, Bool.not_true, if_false, len0]
    cases h0 : ds.isEmpty with
    | true => rw [h0] at q; exact q
    | false =>
      rw [h0] at q
      refine ⟨rfl, lcD_map (fun d => .bl (isRatioD d)) (fun x hx Q' q' => ?_) ?_⟩
      · rw [asgK_nm]
        exact ⟨⟨x, rfl, g x hx⟩, q'⟩
      · rw [oAll_map]; exact q
end DL

set_option Elab.async false
set_option linter.all false
set_option maxRecDepth 100000
set_option maxHeartbeats 4000000
namespace DL
open PySem PySem.Spec PyProof.Rows L2

/-! ### sums of products -/
def dotL (l : List (Rat × Rat)) : Rat := l.foldl (fun s p => s + p.1 * p.2) 0
def dotQ (xs ys : List Rat) : Rat := dotL (xs.zip ys)
theorem dotL_take {l : List (Rat × Rat)} {i : Nat} {p : Rat × Rat} (h : l[i]? = some p) : dotL (l.take (i + 1)) = dotL (l.take i) + p.1 * p.2 := by
  unfold dotL
  rw [List.take_succ, h, Option.toList_some, List.foldl_append]; rfl
theorem zip_rats (xs ys : List Rat) : zipD (ratsD xs) (ratsD ys) = (xs.zip ys).map fun p => D.tup [rat p.1, rat p.2] := by
  rw [zipD_eq]; unfold ratsD
  rw [List.zip_map, List.map_map]; rfl
theorem zip_get {l : List (Rat × Rat)} {i : Nat} {d : D} (h : (l.map fun p => D.tup [rat p.1, rat p.2])[i]? = some d) : ∃ p, l[i]? = some p ∧ d = .tup [rat p.1, rat p.2] := by
  rw [List.getElem?_map] at h
  cases e : l[i]? with
  | none => rw [e] at h; cases h
  | some p => rw [e] at h; exact ⟨p, rfl, (Option.some.inj h).symm⟩
/-- the state of such a sum -/
structure DotI (B i : Nat) (l : List (Rat × Rat)) (t b : Int) : Prop where
  pos : 0 < b
  bb : b.natAbs < 2 ^ (1 + B * i)
  tb : t.natAbs < 2 ^ (1 + (B + 1) * i)
  val : (t : Rat) = dotL (l.take i) * (b : Rat)
theorem DotI.start {B : Nat} {l : List (Rat × Rat)} : DotI B 0 l 0 1 := ⟨by decide, by simp, by simp, by simp [dotL]⟩
theorem DotI.skip {B i : Nat} {l : List (Rat × Rat)} {t b : Int} {p : Rat × Rat} (I : DotI B i l t b) (h : l[i]? = some p) (hz : p.1 = 0 ∨ p.2 = 0) : DotI B (i + 1) l t b := by
  refine ⟨I.pos, lt_pow_mono I.bb (by rw [Nat.mul_succ]; omega), lt_pow_mono I.tb (by rw [Nat.mul_succ]; omega), ?_⟩
  rw [dotL_take h, I.val]
  rcases hz with hz | hz <;> rw [hz] <;> grind
theorem DotI.step {B i : Nat} {l : List (Rat × Rat)} {t b : Int} {p : Rat × Rat} {h k : Nat} (I : DotI B i l t b) (hl : l[i]? = some p) (h1 : sz h p.1) (h2 : sz k p.2) (hB : h + k = B) :
    DotI B (i + 1) l (t * ((p.1.den : Int) * p.2.den) + p.1.num * p.2.num * b) (b * ((p.1.den : Int) * p.2.den)) := by
  have ld : ((p.1.den : Int) * p.2.den).natAbs < 2 ^ B := by rw [← hB]; exact natAbs_mul_lt (dn h1) (dn h2)
  have lp : 0 < (p.1.den : Int) * p.2.den := Int.mul_pos (den_pos _) (den_pos _)
  have ln : (p.1.num * p.2.num).natAbs < 2 ^ B := by rw [← hB]; exact natAbs_mul_lt h1.1 h2.1
  refine ⟨Int.mul_pos I.pos lp, ?_, ?_, ?_⟩
  · exact lt_pow_mono (natAbs_mul_lt I.bb ld) (by rw [Nat.mul_succ]; omega)
  · have e1 : (t * ((p.1.den : Int) * p.2.den)).natAbs < 2 ^ (1 + (B + 1) * i + B) := natAbs_mul_lt I.tb ld
    have e2 : (p.1.num * p.2.num * b).natAbs < 2 ^ (1 + (B + 1) * i + B) := lt_pow_mono (natAbs_mul_lt ln I.bb) (by rw [Nat.add_mul]; omega)
    exact lt_pow_mono (natAbs_add_lt e1 e2) (by rw [Nat.mul_succ]; omega)
  · rw [dotL_take hl]
    have v := I.val
    have hp := num_val p.1
    have hq := num_val p.2
    push_cast
    push_cast at v hp hq
    grind
theorem DotI.ok {B i : Nat} {l : List (Rat × Rat)} {t b : Int} {p : Rat × Rat} {h k : Nat} (I : DotI B i l t b) (h1 : sz h p.1) (h2 : sz k p.2) (hB : h + k = B) (hL : (B + 1) * i + B < 90000) :
    MulOk ↑p.1.den ↑p.2.den ∧ MulOk t (↑p.1.den * ↑p.2.den) ∧ MulOk p.1.num p.2.num ∧ MulOk (p.1.num * p.2.num) b ∧ MulOk b (↑p.1.den * ↑p.2.den) := by
  have ld : ((p.1.den : Int) * p.2.den).natAbs < 2 ^ B := by rw [← hB]; exact natAbs_mul_lt (dn h1) (dn h2)
  have ln : (p.1.num * p.2.num).natAbs < 2 ^ B := by rw [← hB]; exact natAbs_mul_lt h1.1 h2.1
  have e : B * i ≤ (B + 1) * i := Nat.mul_le_mul_right _ (by omega)
  exact ⟨mulOk h k (dn h1) (dn h2) (by omega), mulOk _ _ I.tb ld (by omega), mulOk h k h1.1 h2.1 (by omega), mulOk _ _ ln I.bb (by omega), mulOk _ _ I.bb ld (by omega)⟩
theorem num_zero {q : Rat} : (!decide (q.num = 0)) = !decide (q = 0) := by
  congr 1
  exact decide_eq_decide.mpr Rat.num_eq_zero
/-- two rows of ratios, of h and k bits -/
structure DotP (d e : D) (xs ys : List Rat) (h k : Nat) : Prop where
  d1 : d.seq = some (ratsD xs)
  d2 : e.seq = some (ratsD ys)
  s1 : ∀ x ∈ xs, sz h x
  s2 : ∀ y ∈ ys, sz k y
  sm : (h + k + 1) * (xs.length + 1) ≤ 8990
theorem DotP.small {d e : D} {xs ys : List Rat} {h k i : Nat} (P : DotP d e xs ys h k) (hi : i ≤ (xs.zip ys).length) : (h + k + 1) * i + (h + k) < 8990 := by
  have hl : (xs.zip ys).length ≤ xs.length := by rw [List.length_zip]; exact Nat.min_le_left _ _
  have := P.sm
  have e : (h + k + 1) * i ≤ (h + k + 1) * xs.length := Nat.mul_le_mul_left _ (by omega)
  rw [Nat.mul_add] at this
  omega
abbrev w_dot_raw (c : Cl) : W := fun ds n Q _ => ∃ d e xs ys, ds = [d, e] ∧ (∃ h k, DotP d e xs ys h k) ∧ Q (rat (dotQ xs ys)) n
theorem wm_dot_raw {c : Cl} : Wm (w_dot_raw c) := ⟨fun ds n Q Q' E E' hq he ⟨d, e, xs, ys, e1, P, z⟩ => ⟨d, e, xs, ys, e1, P, hq _ _ z⟩⟩
def m_dot_raw (c : Cl) : WS := sSeq (sAsg (.nm 2) (dC (.int 0)))
  (sSeq (sAsg (.nm 3) (dC (.int 1)))
  (sSeq (sFor (.tp [4, 5]) (wZip (dCons (dVar 0) (dCons (dVar 1) (dNil)))) (sIf (dAnd (dTest (dOp (oEq true) (dIx (dVar 4) (dC (.int 0))) (dC (.int 0)))) (dTest (dOp (oEq true) (dIx (dVar 5) (dC (.int 0))) (dC (.int 0))))) (sSeq (sAsg (.nm 6) (dOp oTimes (dIx (dVar 4) (dC (.int 1))) (dIx (dVar 5) (dC (.int 1)))))
  (sSeq (sAsg (.nm 2) (dOp oPlus (dOp oTimes (dVar 2) (dVar 6)) (dOp oTimes (dOp oTimes (dIx (dVar 4) (dC (.int 0))) (dIx (dVar 5) (dC (.int 0)))) (dVar 3))))
  (sAsg (.nm 3) (dOp oTimes (dVar 3) (dVar 6))))) (sNext)))
  (sRet (dCall (w_lowest c) (dCons (dVar 2) (dCons (dVar 3) (dNil)))))))
theorem rd_dot_raw (c : Cl) : ∀ ds n Q Ex, ds.length = (["row", "other"] : List Str).length → w_dot_raw c ds n Q Ex → m_dot_raw c (startD ["row", "other", "top", "bottom", "one", "two", "low"] ds) n (fnEnds Q fun _ _ => False) := by
  rintro ds n Q Ex - ⟨d, e, xs, ys, rfl, ⟨h, k, P⟩, z⟩
  simp only [m_dot_raw, pVar, pIx, dLeaf, dLenO, gtSub, gtNm, gtTup, gtCons, gtNil, sAsgT, sSetF, sApp, fLc, fLeaf, fOp, fList, fLst, owE_ow, ndE_nd, put_nil, w_law_draw, wDraw, wSeq, wRng1, wRng2, wZip, dLc, asgK_nm, asgK_tp2, sFor, oAll_map, oAny_map, wipeD, oSl, List.length_cons, List.length_nil, sSeq, sAsg, sRet, sRetN, sIf, sNext, sPar, sDrop, sFrz, sAug, dOp, dVar, dC, dTup, dLst, dCons, dNil, dCall, dCB, dIx, dTest, dAnd, dOr, dNot, dAndV, dOrV, dNotV, dB, dIf, dNeg, dFld, dSelf, sSelf, dSl, dNoPart, dPart, dRevT, dDic1, dIsN, entD, asg, setAll, fnEnds, startD, startI, initEnds, slE, slI, fieldD, frzs, frz, List.map, List.length, List.replicate, List.getElem?_cons_zero, List.getElem?_cons_succ, List.set_cons_zero, List.set_cons_succ, List.cons_append, List.nil_append, wF, wR, oI_int, oI0_int, oPlus_int, oTimes_int, o1I, o2I, oInt, negE, revE, seq_tup, seq_lst, oIx, atI_0, atI_1, o1S, oEq_int, oEq_bl, if_true, if_false, Bool.not_true, Bool.not_false, P.d1, P.d2]
  rw [zip_rats]
  refine forD_inv (fun i ρ m => ∃ t b x4 x5 x6, ρ = [.sh d, .sh e, .sh (.int t), .sh (.int b), x4, x5, x6] ∧ m = n ∧ i ≤ (xs.zip ys).length ∧ DotI (h + k) i (xs.zip ys) t b) 0 ⟨0, 1, .no, .no, .no, rfl, rfl, Nat.zero_le _, DotI.start⟩ ?_ ?_
  · rintro i x ρ m hx ⟨t, b, x4, x5, x6, rfl, rfl, hi, I⟩ N hN
    rw [Nat.zero_add] at hi I hN
    obtain ⟨p, hp, rfl⟩ := zip_get hx
    have hlt := (List.getElem?_eq_some_iff.mp hp).1
    have hm := List.mem_of_getElem? hp
    have hp1 := P.s1 p.1 (List.of_mem_zip hm).1
    have hp2 := P.s2 p.2 (List.of_mem_zip hm).2
    rw [asgK_tp2]
    simp only [rat, pVar, pIx, dLeaf, dLenO, gtSub, gtNm, gtTup, gtCons, gtNil, sAsgT, sSetF, sApp, fLc, fLeaf, fOp, fList, fLst, owE_ow, ndE_nd, put_nil, w_law_draw, wDraw, wSeq, wRng1, wRng2, wZip, dLc, asgK_nm, asgK_tp2, sFor, oAll_map, oAny_map, wipeD, oSl, List.length_cons, List.length_nil, sSeq, sAsg, sRet, sRetN, sIf, sNext, sPar, sDrop, sFrz, sAug, dOp, dVar, dC, dTup, dLst, dCons, dNil, dCall, dCB, dIx, dTest, dAnd, dOr, dNot, dAndV, dOrV, dNotV, dB, dIf, dNeg, dFld, dSelf, sSelf, dSl, dNoPart, dPart, dRevT, dDic1, dIsN, entD, asg, setAll, fnEnds, startD, startI, initEnds, slE, slI, fieldD, frzs, frz, List.map, List.length, List.replicate, List.getElem?_cons_zero, List.getElem?_cons_succ, List.set_cons_zero, List.set_cons_succ, List.cons_append, List.nil_append, wF, wR, oI_int, oI0_int, oPlus_int, oTimes_int, o1I, o2I, oInt, negE, revE, seq_tup, seq_lst, oIx, atI_0, atI_1, o1S, oEq_int, oEq_bl, if_true, if_false, Bool.not_true, Bool.not_false, num_zero, Bool.not_eq_true', decide_eq_false_iff_not]
    by_cases h1 : p.1 = 0
    · rw [if_neg (by simpa using h1), if_neg (by decide)]
      exact hN _ _ ⟨t, b, _, _, _, rfl, rfl, hlt, I.skip hp (.inl h1)⟩
    · rw [if_pos h1]
      by_cases h2 : p.2 = 0
      · rw [if_neg (by simpa using h2)]
        exact hN _ _ ⟨t, b, _, _, _, rfl, rfl, hlt, I.skip hp (.inr h2)⟩
      · rw [if_pos (by simpa using h2)]
        obtain ⟨m1, m2, m3, m4, m5⟩ := I.ok hp1 hp2 rfl (by have := P.small (i := i) hi; omega)
        exact ⟨m1, m2, m3, m4, m5, hN _ _ ⟨_, _, _, _, _, rfl, rfl, hlt, I.step hp hp1 hp2 rfl⟩⟩
  · rintro ρ m ⟨t, b, x4, x5, x6, rfl, rfl, hi, I⟩
    rw [Nat.zero_add, List.length_map] at I
    refine ⟨⟨t, b, rfl, I.pos, lt_pow_mono I.bb ?_⟩, ?_⟩
    · have := P.small (i := (xs.zip ys).length) (Nat.le_refl _)
      rw [Nat.add_mul] at this
      omega
    · have e : Rat.divInt t b = dotQ xs ys := by
        have v := I.val
        rw [List.take_length] at v
        exact eq_divInt (by have := I.pos; omega) v.symm
      show Q (rat (Rat.divInt t b)) m
      rw [e]; exact z
abbrev w_law_dot (c : Cl) : W := w_dot_raw c
theorem wm_law_dot {c : Cl} : Wm (w_law_dot c) := wm_dot_raw (c := c)
def m_law_dot (c : Cl) : WS := sSeq (sAsg (.tp [2, 3]) (dTup (dCons (dC (.int 0)) (dCons (dC (.int 1)) (dNil)))))
  (sSeq (sFor (.tp [4, 5]) (wZip (dCons (dVar 0) (dCons (dVar 1) (dNil)))) (sIf (dAnd (dTest (dOp (oEq true) (dIx (dVar 4) (dC (.int 0))) (dC (.int 0)))) (dTest (dOp (oEq true) (dIx (dVar 5) (dC (.int 0))) (dC (.int 0))))) (sSeq (sAsg (.nm 6) (dOp oTimes (dIx (dVar 4) (dC (.int 1))) (dIx (dVar 5) (dC (.int 1)))))
  (sPar 2 3 (dCons (dOp oPlus (dOp oTimes (dVar 2) (dVar 6)) (dOp oTimes (dOp oTimes (dIx (dVar 4) (dC (.int 0))) (dIx (dVar 5) (dC (.int 0)))) (dVar 3))) (dCons (dOp oTimes (dVar 3) (dVar 6)) (dNil))))) (sNext)))
  (sRet (dCall (w_law_low c) (dCons (dVar 2) (dCons (dVar 3) (dNil))))))
theorem rd_law_dot (c : Cl) : ∀ ds n Q Ex, ds.length = (["row", "other"] : List Str).length → w_law_dot c ds n Q Ex → m_law_dot c (startD ["row", "other", "top", "bottom", "one", "two", "low"] ds) n (fnEnds Q fun _ _ => False) := by
  rintro ds n Q Ex - ⟨d, e, xs, ys, rfl, ⟨h, k, P⟩, z⟩
  simp only [m_law_dot, pVar, pIx, dLeaf, dLenO, gtSub, gtNm, gtTup, gtCons, gtNil, sAsgT, sSetF, sApp, fLc, fLeaf, fOp, fList, fLst, owE_ow, ndE_nd, put_nil, w_law_draw, wDraw, wSeq, wRng1, wRng2, wZip, dLc, asgK_nm, asgK_tp2, sFor, oAll_map, oAny_map, wipeD, oSl, List.length_cons, List.length_nil, sSeq, sAsg, sRet, sRetN, sIf, sNext, sPar, sDrop, sFrz, sAug, dOp, dVar, dC, dTup, dLst, dCons, dNil, dCall, dCB, dIx, dTest, dAnd, dOr, dNot, dAndV, dOrV, dNotV, dB, dIf, dNeg, dFld, dSelf, sSelf, dSl, dNoPart, dPart, dRevT, dDic1, dIsN, entD, asg, setAll, fnEnds, startD, startI, initEnds, slE, slI, fieldD, frzs, frz, List.map, List.length, List.replicate, List.getElem?_cons_zero, List.getElem?_cons_succ, List.set_cons_zero, List.set_cons_succ, List.cons_append, List.nil_append, wF, wR, oI_int, oI0_int, oPlus_int, oTimes_int, o1I, o2I, oInt, negE, revE, seq_tup, seq_lst, oIx, atI_0, atI_1, o1S, oEq_int, oEq_bl, if_true, if_false, Bool.not_true, Bool.not_false, P.d1, P.d2]
  rw [zip_rats]
  refine forD_inv (fun i ρ m => ∃ t b x4 x5 x6, ρ = [.sh d, .sh e, .sh (.int t), .sh (.int b), x4, x5, x6] ∧ m = n ∧ i ≤ (xs.zip ys).length ∧ DotI (h + k) i (xs.zip ys) t b) 0 ⟨0, 1, .no, .no, .no, rfl, rfl, Nat.zero_le _, DotI.start⟩ ?_ ?_
  · rintro i x ρ m hx ⟨t, b, x4, x5, x6, rfl, rfl, hi, I⟩ N hN
    rw [Nat.zero_add] at hi I hN
    obtain ⟨p, hp, rfl⟩ := zip_get hx
    have hlt := (List.getElem?_eq_some_iff.mp hp).1
    have hm := List.mem_of_getElem? hp
    have hp1 := P.s1 p.1 (List.of_mem_zip hm).1
    have hp2 := P.s2 p.2 (List.of_mem_zip hm).2
    rw [asgK_tp2]
    simp only [rat, pVar, pIx, dLeaf, dLenO, gtSub, gtNm, gtTup, gtCons, gtNil, sAsgT, sSetF, sApp, fLc, fLeaf, fOp, fList, fLst, owE_ow, ndE_nd, put_nil, w_law_draw, wDraw, wSeq, wRng1, wRng2, wZip, dLc, asgK_nm, asgK_tp2, sFor, oAll_map, oAny_map, wipeD, oSl, List.length_cons, List.length_nil, sSeq, sAsg, sRet, sRetN, sIf, sNext, sPar, sDrop, sFrz, sAug, dOp, dVar, dC, dTup, dLst, dCons, dNil, dCall, dCB, dIx, dTest, dAnd, dOr, dNot, dAndV, dOrV, dNotV, dB, dIf, dNeg, dFld, dSelf, sSelf, dSl, dNoPart, dPart, dRevT, dDic1, dIsN, entD, asg, setAll, fnEnds, startD, startI, initEnds, slE, slI, fieldD, frzs, frz, List.map, List.length, List.replicate, List.getElem?_cons_zero, List.getElem?_cons_succ, List.set_cons_zero, List.set_cons_succ, List.cons_append, List.nil_append, wF, wR, oI_int, oI0_int, oPlus_int, oTimes_int, o1I, o2I, oInt, negE, revE, seq_tup, seq_lst, oIx, atI_0, atI_1, o1S, oEq_int, oEq_bl, if_true, if_false, Bool.not_true, Bool.not_false, num_zero, Bool.not_eq_true', decide_eq_false_iff_not]
    by_cases h1 : p.1 = 0
    · rw [if_neg (by simpa using h1), if_neg (by decide)]
      exact hN _ _ ⟨t, b, _, _, _, rfl, rfl, hlt, I.skip hp (.inl h1)⟩
    · rw [if_pos h1]
      by_cases h2 : p.2 = 0
      · rw [if_neg (by simpa using h2)]
        exact hN _ _ ⟨t, b, _, _, _, rfl, rfl, hlt, I.skip hp (.inr h2)⟩
      · rw [if_pos (by simpa using h2)]
        obtain ⟨m1, m2, m3, m4, m5⟩ := I.ok hp1 hp2 rfl (by have := P.small (i := i) hi; omega)
        exact ⟨m1, m2, m3, m4, m5, hN _ _ ⟨_, _, _, _, _, rfl, rfl, hlt, I.step hp hp1 hp2 rfl⟩⟩
  · rintro ρ m ⟨t, b, x4, x5, x6, rfl, rfl, hi, I⟩
    rw [Nat.zero_add, List.length_map] at I
    refine ⟨⟨t, b, rfl, I.pos, lt_pow_mono I.bb ?_⟩, ?_⟩
    · have := P.small (i := (xs.zip ys).length) (Nat.le_refl _)
      rw [Nat.add_mul] at this
      omega
    · have e : Rat.divInt t b = dotQ xs ys := by
        have v := I.val
        rw [List.take_length] at v
        exact eq_divInt (by have := I.pos; omega) v.symm
      show Q (rat (Rat.divInt t b)) m
      rw [e]; exact z
end DL

set_option Elab.async false
set_option linter.all false
set_option maxRecDepth 100000
set_option maxHeartbeats 4000000
namespace DL
open PySem PySem.Spec PyProof.Rows L2

/-! ### sheets -/
def lenD (d : D) : Nat := match d.seq with
  | some ds => ds.length
  | none => 0
def isSheetD (d : D) : Bool := match d.seq with
  | some ds => !ds.isEmpty && ds.all isRowD && ds.all fun r => lenD r == lenD (ds.headD .non)
  | none => false
theorem isRowD_seq {d : D} (h : isRowD d = true) : ∃ ds, d.seq = some ds ∧ ds ≠ [] ∧ ∀ x ∈ ds, isRatioD x = true := by
  unfold isRowD at h
  cases e : d.seq with
  | none => rw [e] at h; cases h
  | some ds =>
    rw [e] at h
    have h : (!ds.isEmpty && ds.all isRatioD) = true := h
    rw [Bool.and_eq_true, List.all_eq_true] at h
    exact ⟨ds, rfl, by intro e; rw [e] at h; exact absurd h.1 (by decide), h.2⟩
abbrev w_is_sheet (c : Cl) : W := wF (fun ds => ∃ d, ds = [d] ∧ Gd c.cls d) (fun | [d] => .bl (isSheetD d) | _ => .non)
theorem wm_is_sheet {c : Cl} : Wm (w_is_sheet c) := wm_F
def m_is_sheet (c : Cl) : WS := sSeq (sIf (dOr (dNot (dTest (dCB (oIsiT c.cls) (dCons (dVar 0) (dCons (dTup (dCons (dC (.ty "tuple")) (dCons (dC (.ty "list")) (dNil)))) (dNil)))))) (dTest (dOp (oEq false) (dCB oLen (dCons (dVar 0) (dNil))) (dC (.int 0))))) (sRet (dC (.bl false))) (sNext))
  (sSeq (sIf (dNot (dTest (dCB oAll (dCons (dLc (.nm 1) (wSeq (dVar 0)) (dYes) (dCall (w_is_row c) (dCons (dVar 1) (dNil))) [1]) (dNil))))) (sRet (dC (.bl false))) (sNext))
  (sRet (dCB oAll (dCons (dLc (.nm 1) (wSeq (dVar 0)) (dYes) (dOp (oEq false) (dCB oLen (dCons (dVar 1) (dNil))) (dCB oLen (dCons (dIx (dVar 0) (dC (.int 0))) (dNil)))) [1]) (dNil)))))
theorem rd_is_sheet (c : Cl) : ∀ ds n Q Ex, ds.length = (["value"] : List Str).length → w_is_sheet c ds n Q Ex → m_is_sheet c (startD ["value", "item"] ds) n (fnEnds Q fun _ _ => False) := by
  rintro ds n Q Ex - ⟨⟨d, rfl, hd⟩, q⟩
  replace q : Q (.bl (isSheetD d)) n := q
  simp only [m_is_sheet, pVar, pIx, dLeaf, dLenO, gtSub, gtNm, gtTup, gtCons, gtNil, sAsgT, sSetF, sApp, fLc, fLeaf, fOp, fList, fLst, owE_ow, ndE_nd, put_nil, w_law_draw, wDraw, wSeq, wRng1, wRng2, wZip, dLc, asgK_nm, asgK_tp2, sFor, oAll_map, oAny_map, wipeD, oSl, List.length_cons, List.length_nil, sSeq, sAsg, sRet, sRetN, sIf, sNext, sPar, sDrop, sFrz, sAug, dOp, dVar, dC, dTup, dLst, dCons, dNil, dCall, dCB, dIx, dTest, dAnd, dOr, dNot, dAndV, dOrV, dNotV, dB, dIf, dNeg, dFld, dSelf, sSelf, dSl, dNoPart, dPart, dRevT, dDic1, dIsN, entD, asg, setAll, fnEnds, startD, startI, initEnds, slE, slI, fieldD, frzs, frz, List.map, List.length, List.replicate, List.getElem?_cons_zero, List.getElem?_cons_succ, List.set_cons_zero, List.set_cons_succ, List.cons_append, List.nil_append, wF, wR, oI_int, oI0_int, oPlus_int, oTimes_int, o1I, o2I, oInt, negE, revE, seq_tup, seq_lst, oIx, atI_0, atI_1, o1S, oEq_int, oEq_bl, if_true, if_false, Bool.not_true, Bool.not_false, isi_seq hd]
  unfold isSheetD at q
  rw [isSeqB_seq]
  cases e : d.seq with
  | none => rw [e] at q; exact q
  | some ds =>
    rw [e] at q
    replace q : Q (.bl (!ds.isEmpty && ds.all isRowD && ds.all fun r => lenD r == lenD (ds.headD .non))) n := q
    have g := gd_seq hd e
    simp only [Option.isSome_some, Bool.not_true, if_false, len0]
    cases h0 : ds.isEmpty with
    | true => rw [h0] at q; exact q
    | false =>
      rw [h0] at q
      refine ⟨rfl, lcD_map (fun d => .bl (isRowD d)) (fun x hx Q' q' => ?_) ?_⟩
      · rw [asgK_nm]
        exact ⟨⟨x, rfl, g x hx⟩, q'⟩
      · rw [oAll_map]
        cases hr : ds.all isRowD with
        | false => rw [hr] at q; exact q
        | true =>
          rw [hr] at q
          have hr' := List.all_eq_true.mp hr
          cases ds with
          | nil => cases h0
          | cons d0 ds =>
            obtain ⟨es0, e0, _⟩ := isRowD_seq (hr' d0 List.mem_cons_self)
            refine ⟨rfl, lcD_map (fun r => .bl (lenD r == lenD d0)) (fun x hx Q' q' => ?_) ?_⟩
            · rw [asgK_nm]
              obtain ⟨es, ex, _⟩ := isRowD_seq (hr' x hx)
              simp only [pVar, pIx, dLeaf, dLenO, gtSub, gtNm, gtTup, gtCons, gtNil, sAsgT, sSetF, sApp, fLc, fLeaf, fOp, fList, fLst, owE_ow, ndE_nd, put_nil, w_law_draw, wDraw, wSeq, wRng1, wRng2, wZip, dLc, asgK_nm, asgK_tp2, sFor, oAll_map, oAny_map, wipeD, oSl, List.length_cons, List.length_nil, sSeq, sAsg, sRet, sRetN, sIf, sNext, sPar, sDrop, sFrz, sAug, dOp, dVar, dC, dTup, dLst, dCons, dNil, dCall, dCB, dIx, dTest, dAnd, dOr, dNot, dAndV, dOrV, dNotV, dB, dIf, dNeg, dFld, dSelf, sSelf, dSl, dNoPart, dPart, dRevT, dDic1, dIsN, entD, asg, setAll, fnEnds, startD, startI, initEnds, slE, slI, fieldD, frzs, frz, List.map, List.length, List.replicate, List.getElem?_cons_zero, List.getElem?_cons_succ, List.set_cons_zero, List.set_cons_succ, List.cons_append, List.nil_append, wF, wR, oI_int, oI0_int, oPlus_int, oTimes_int, o1I, o2I, oInt, negE, revE, seq_tup, seq_lst, oIx, atI_0, atI_1, o1S, oEq_int, oEq_bl, if_true, if_false, Bool.not_true, Bool.not_false, ex, e, e0]
              have el : (lenD x == lenD d0) = decide ((es.length : Int) = (es0.length : Int)) := by
                unfold lenD
                rw [ex, e0]
                simp only
                rw [show (es.length == es0.length) = decide (es.length = es0.length) from rfl]
                exact decide_eq_decide.mpr (by omega)
              rw [el] at q'
              exact q'
            · rw [oAll_map]; exact q
/-- the values of a row, of a sheet in any form -/
def rowVals (d : D) : List Rat := match d.seq with
  | some ds => ds.map valD
  | none => []
def sheetVals (d : D) : List (List Rat) := match d.seq with
  | some ds => ds.map rowVals
  | none => []
def rowLow (d : D) : Prop := ∀ ds, d.seq = some ds → ∀ x ∈ ds, lowOk x
def sheetLow (d : D) : Prop := ∀ ds, d.seq = some ds → ∀ x ∈ ds, rowLow x
abbrev SheetP (c : Cl) (d : D) : Prop := Gd c.cls d ∧ isSheetD d = true ∧ sheetLow d
theorem sheet_rows {d : D} (h : isSheetD d = true) : ∃ ds, d.seq = some ds ∧ ds ≠ [] ∧ ∀ x ∈ ds, isRowD x = true ∧ lenD x = lenD (ds.headD .non) := by
  unfold isSheetD at h
  cases e : d.seq with
  | none => rw [e] at h; cases h
  | some ds =>
    rw [e] at h
    have h : (!ds.isEmpty && ds.all isRowD && ds.all fun r => lenD r == lenD (ds.headD .non)) = true := h
    rw [Bool.and_eq_true, Bool.and_eq_true, List.all_eq_true, List.all_eq_true] at h
    exact ⟨ds, rfl, by intro e; rw [e] at h; exact absurd h.1.1 (by decide), fun x hx => ⟨h.1.2 x hx, by simpa using h.2 x hx⟩⟩
abbrev w_sheet_told (c : Cl) : W := wF (fun ds => ∃ d, ds = [d] ∧ SheetP c d) (fun | [d] => matD (sheetVals d) | _ => .non)
theorem wm_sheet_told {c : Cl} : Wm (w_sheet_told c) := wm_F
def m_sheet_told (c : Cl) : WS := sSeq (sIf (dNot (dTest (dCall (w_is_sheet c) (dCons (dVar 0) (dNil))))) (sNever) (sNext))
  (sRet (dCB oTuple (dCons (dLc (.nm 1) (wSeq (dVar 0)) (dYes) (dCB oTuple (dCons (dLc (.nm 2) (wSeq (dVar 1)) (dYes) (dCall (w_told c) (dCons (dVar 2) (dNil))) [2]) (dNil))) [1]) (dNil))))
theorem rd_sheet_told (c : Cl) : ∀ ds n Q Ex, ds.length = (["sheet"] : List Str).length → w_sheet_told c ds n Q Ex → m_sheet_told c (startD ["sheet", "row", "item"] ds) n (fnEnds Q fun _ _ => False) := by
  rintro ds n Q Ex - ⟨⟨d, rfl, hd, hs, hl⟩, q⟩
  replace q : Q (matD (sheetVals d)) n := q
  simp only [m_sheet_told, pVar, pIx, dLeaf, dLenO, gtSub, gtNm, gtTup, gtCons, gtNil, sAsgT, sSetF, sApp, fLc, fLeaf, fOp, fList, fLst, owE_ow, ndE_nd, put_nil, w_law_draw, wDraw, wSeq, wRng1, wRng2, wZip, dLc, asgK_nm, asgK_tp2, sFor, oAll_map, oAny_map, wipeD, oSl, List.length_cons, List.length_nil, sSeq, sAsg, sRet, sRetN, sIf, sNext, sPar, sDrop, sFrz, sAug, dOp, dVar, dC, dTup, dLst, dCons, dNil, dCall, dCB, dIx, dTest, dAnd, dOr, dNot, dAndV, dOrV, dNotV, dB, dIf, dNeg, dFld, dSelf, sSelf, dSl, dNoPart, dPart, dRevT, dDic1, dIsN, entD, asg, setAll, fnEnds, startD, startI, initEnds, slE, slI, fieldD, frzs, frz, List.map, List.length, List.replicate, List.getElem?_cons_zero, List.getElem?_cons_succ, List.set_cons_zero, List.set_cons_succ, List.cons_append, List.nil_append, wF, wR, oI_int, oI0_int, oPlus_int, oTimes_int, o1I, o2I, oInt, negE, revE, seq_tup, seq_lst, oIx, atI_0, atI_1, o1S, oEq_int, oEq_bl, if_true, if_false, Bool.not_true, Bool.not_false, sNever]
  refine ⟨⟨d, rfl, hd⟩, ?_⟩
  rw [hs]
  obtain ⟨ds, e, _, hr⟩ := sheet_rows hs
  have g := gd_seq hd e
  simp only [Bool.not_true, if_false, e]
  refine ⟨rfl, lcD_map (fun x => rowD (rowVals x)) (fun x hx Q' q' => ?_) ?_⟩
  · rw [asgK_nm]
    obtain ⟨es, ex, _, hes⟩ := isRowD_seq (hr x hx).1
    have gx := gd_seq (g x hx) ex
    simp only [pVar, pIx, dLeaf, dLenO, gtSub, gtNm, gtTup, gtCons, gtNil, sAsgT, sSetF, sApp, fLc, fLeaf, fOp, fList, fLst, owE_ow, ndE_nd, put_nil, w_law_draw, wDraw, wSeq, wRng1, wRng2, wZip, dLc, asgK_nm, asgK_tp2, sFor, oAll_map, oAny_map, wipeD, oSl, List.length_cons, List.length_nil, sSeq, sAsg, sRet, sRetN, sIf, sNext, sPar, sDrop, sFrz, sAug, dOp, dVar, dC, dTup, dLst, dCons, dNil, dCall, dCB, dIx, dTest, dAnd, dOr, dNot, dAndV, dOrV, dNotV, dB, dIf, dNeg, dFld, dSelf, sSelf, dSl, dNoPart, dPart, dRevT, dDic1, dIsN, entD, asg, setAll, fnEnds, startD, startI, initEnds, slE, slI, fieldD, frzs, frz, List.map, List.length, List.replicate, List.getElem?_cons_zero, List.getElem?_cons_succ, List.set_cons_zero, List.set_cons_succ, List.cons_append, List.nil_append, wF, wR, oI_int, oI0_int, oPlus_int, oTimes_int, o1I, o2I, oInt, negE, revE, seq_tup, seq_lst, oIx, atI_0, atI_1, o1S, oEq_int, oEq_bl, if_true, if_false, Bool.not_true, Bool.not_false, ex]
    refine ⟨rfl, lcD_map (fun y => rat (valD y)) (fun y hy Q2 q2 => ?_) ?_⟩
    · rw [asgK_nm]
      exact ⟨⟨y, rfl, gx y hy, hes y hy, hl ds e x hx es ex y hy⟩, q2⟩
    · have er : rowD (rowVals x) = .tup (es.map fun y => rat (valD y)) := by
        unfold rowD rowVals ratsD
        rw [ex]
        simp only
        rw [List.map_map]; rfl
      rw [er] at q'
      exact q'
  · have em : matD (sheetVals d) = .tup (ds.map fun x => rowD (rowVals x)) := by
      unfold matD sheetVals
      rw [e]
      simp only
      rw [List.map_map]; rfl
    rw [em] at q
    exact q
/-- as many rows as each has items -/
def sqD (d : D) : Prop := ∀ ds, d.seq = some ds → ds.length = lenD (ds.headD .non)
theorem rowVals_len {d : D} : (rowVals d).length = lenD d := by
  unfold rowVals lenD
  cases d.seq with
  | none => rfl
  | some ds => exact List.length_map _
abbrev w_square_told (c : Cl) : W := wF (fun ds => ∃ d, ds = [d] ∧ SheetP c d ∧ sqD d) (fun | [d] => matD (sheetVals d) | _ => .non)
theorem wm_square_told {c : Cl} : Wm (w_square_told c) := wm_F
def m_square_told (c : Cl) : WS := sSeq (sAsg (.nm 1) (dCall (w_sheet_told c) (dCons (dVar 0) (dNil))))
  (sSeq (sIf (dTest (dOp (oEq true) (dCB oLen (dCons (dVar 1) (dNil))) (dCB oLen (dCons (dIx (dVar 1) (dC (.int 0))) (dNil))))) (sNever) (sNext))
  (sRet (dVar 1)))
theorem rd_square_told (c : Cl) : ∀ ds n Q Ex, ds.length = (["sheet"] : List Str).length → w_square_told c ds n Q Ex → m_square_told c (startD ["sheet", "rows"] ds) n (fnEnds Q fun _ _ => False) := by
  rintro ds n Q Ex - ⟨⟨d, rfl, hp, hq⟩, q⟩
  replace q : Q (matD (sheetVals d)) n := q
  simp only [m_square_told, pVar, pIx, dLeaf, dLenO, gtSub, gtNm, gtTup, gtCons, gtNil, sAsgT, sSetF, sApp, fLc, fLeaf, fOp, fList, fLst, owE_ow, ndE_nd, put_nil, w_law_draw, wDraw, wSeq, wRng1, wRng2, wZip, dLc, asgK_nm, asgK_tp2, sFor, oAll_map, oAny_map, wipeD, oSl, List.length_cons, List.length_nil, sSeq, sAsg, sRet, sRetN, sIf, sNext, sPar, sDrop, sFrz, sAug, dOp, dVar, dC, dTup, dLst, dCons, dNil, dCall, dCB, dIx, dTest, dAnd, dOr, dNot, dAndV, dOrV, dNotV, dB, dIf, dNeg, dFld, dSelf, sSelf, dSl, dNoPart, dPart, dRevT, dDic1, dIsN, entD, asg, setAll, fnEnds, startD, startI, initEnds, slE, slI, fieldD, frzs, frz, List.map, List.length, List.replicate, List.getElem?_cons_zero, List.getElem?_cons_succ, List.set_cons_zero, List.set_cons_succ, List.cons_append, List.nil_append, wF, wR, oI_int, oI0_int, oPlus_int, oTimes_int, o1I, o2I, oInt, negE, revE, seq_tup, seq_lst, oIx, atI_0, atI_1, o1S, oEq_int, oEq_bl, if_true, if_false, Bool.not_true, Bool.not_false, sNever]
  refine ⟨⟨d, rfl, hp⟩, ?_⟩
  obtain ⟨ds, e, hne, hr⟩ := sheet_rows hp.2.1
  have em : matD (sheetVals d) = .tup (ds.map fun x => rowD (rowVals x)) := by
    unfold matD sheetVals
    rw [e]
    simp only
    rw [List.map_map]; rfl
  have hsq := hq ds e
  rw [em] at q ⊢
  cases ds with
  | nil => exact absurd rfl hne
  | cons d0 ds =>
    simp only [seq_tup, List.map_cons, atI_0, rowD, List.length_cons, List.length_map, ratsD_len, rowVals_len]
    have hl : ds.length + 1 = lenD d0 := hsq
    have hd : decide (((ds.length + 1 : Nat) : Int) = (lenD d0 : Int)) = true := decide_eq_true (by omega)
    rw [hd]
    exact q
theorem rat_abs (q : Rat) : D.tup [.int (q.num.natAbs : Int), .int (q.den : Int)] = rat q.abs := by
  unfold rat
  by_cases h : 0 ≤ q
  · have hn := Rat.num_nonneg.mpr h
    rw [Rat.abs_of_nonneg h]
    congr 3
    omega
  · have hn : q.num ≤ 0 := by
      have := mt Rat.num_nonneg.mp h
      omega
    rw [Rat.abs_of_nonpos (by grind), Rat.neg_num, Rat.neg_den]
    congr 3
    omega
abbrev w_size_of (c : Cl) : W := fun ds n Q _ => ∃ q, ds = [rat q] ∧ Q (rat q.abs) n
theorem wm_size_of {c : Cl} : Wm (w_size_of c) := ⟨fun ds n Q Q' E E' hq he ⟨q, e, z⟩ => ⟨q, e, hq _ _ z⟩⟩
def m_size_of (c : Cl) : WS := sRet (dTup (dCons (dCB oAbs (dCons (dIx (dVar 0) (dC (.int 0))) (dNil))) (dCons (dIx (dVar 0) (dC (.int 1))) (dNil))))
theorem rd_size_of (c : Cl) : ∀ ds n Q Ex, ds.length = (["ratio"] : List Str).length → w_size_of c ds n Q Ex → m_size_of c (startD ["ratio"] ds) n (fnEnds Q fun _ _ => False) := by
  rintro ds n Q Ex - ⟨q, rfl, z⟩
  rw [← rat_abs] at z
  simp only [m_size_of, rat, pVar, pIx, dLeaf, dLenO, gtSub, gtNm, gtTup, gtCons, gtNil, sAsgT, sSetF, sApp, fLc, fLeaf, fOp, fList, fLst, owE_ow, ndE_nd, put_nil, w_law_draw, wDraw, wSeq, wRng1, wRng2, wZip, dLc, asgK_nm, asgK_tp2, sFor, oAll_map, oAny_map, wipeD, oSl, List.length_cons, List.length_nil, sSeq, sAsg, sRet, sRetN, sIf, sNext, sPar, sDrop, sFrz, sAug, dOp, dVar, dC, dTup, dLst, dCons, dNil, dCall, dCB, dIx, dTest, dAnd, dOr, dNot, dAndV, dOrV, dNotV, dB, dIf, dNeg, dFld, dSelf, sSelf, dSl, dNoPart, dPart, dRevT, dDic1, dIsN, entD, asg, setAll, fnEnds, startD, startI, initEnds, slE, slI, fieldD, frzs, frz, List.map, List.length, List.replicate, List.getElem?_cons_zero, List.getElem?_cons_succ, List.set_cons_zero, List.set_cons_succ, List.cons_append, List.nil_append, wF, wR, oI_int, oI0_int, oPlus_int, oTimes_int, o1I, o2I, oInt, negE, revE, seq_tup, seq_lst, oIx, atI_0, atI_1, o1S, oEq_int, oEq_bl, if_true, if_false, Bool.not_true, Bool.not_false]
  exact z
def absS (S : List (List Rat)) : List (List Rat) := S.map fun r => r.map Rat.abs
theorem mat_abs (S : List (List Rat)) : matD (absS S) = .tup (S.map fun r => .tup (r.map fun q => rat q.abs)) := by
  unfold matD absS rowD ratsD
  rw [List.map_map]
  congr 1
  apply List.map_congr_left
  intro r _
  show D.tup ((r.map Rat.abs).map rat) = _
  rw [List.map_map]; rfl
abbrev w_sizes_raw (c : Cl) : W := fun ds n Q _ => ∃ S, ds = [matD S] ∧ Q (matD (absS S)) n
theorem wm_sizes_raw {c : Cl} : Wm (w_sizes_raw c) := ⟨fun ds n Q Q' E E' hq he ⟨q, e, z⟩ => ⟨q, e, hq _ _ z⟩⟩
def m_sizes_raw (c : Cl) : WS := sRet (dCB oTuple (dCons (dLc (.nm 1) (wSeq (dVar 0)) (dYes) (dCB oTuple (dCons (dLc (.nm 2) (wSeq (dVar 1)) (dYes) (dCall (w_size_of c) (dCons (dVar 2) (dNil))) [2]) (dNil))) [1]) (dNil)))
theorem rd_sizes_raw (c : Cl) : ∀ ds n Q Ex, ds.length = (["rows"] : List Str).length → w_sizes_raw c ds n Q Ex → m_sizes_raw c (startD ["rows", "row", "item"] ds) n (fnEnds Q fun _ _ => False) := by
  rintro ds n Q Ex - ⟨S, rfl, z⟩
  rw [mat_abs] at z
  simp only [m_sizes_raw, matD, pVar, pIx, dLeaf, dLenO, gtSub, gtNm, gtTup, gtCons, gtNil, sAsgT, sSetF, sApp, fLc, fLeaf, fOp, fList, fLst, owE_ow, ndE_nd, put_nil, w_law_draw, wDraw, wSeq, wRng1, wRng2, wZip, dLc, asgK_nm, asgK_tp2, sFor, oAll_map, oAny_map, wipeD, oSl, List.length_cons, List.length_nil, sSeq, sAsg, sRet, sRetN, sIf, sNext, sPar, sDrop, sFrz, sAug, dOp, dVar, dC, dTup, dLst, dCons, dNil, dCall, dCB, dIx, dTest, dAnd, dOr, dNot, dAndV, dOrV, dNotV, dB, dIf, dNeg, dFld, dSelf, sSelf, dSl, dNoPart, dPart, dRevT, dDic1, dIsN, entD, asg, setAll, fnEnds, startD, startI, initEnds, slE, slI, fieldD, frzs, frz, List.map, List.length, List.replicate, List.getElem?_cons_zero, List.getElem?_cons_succ, List.set_cons_zero, List.set_cons_succ, List.cons_append, List.nil_append, wF, wR, oI_int, oI0_int, oPlus_int, oTimes_int, o1I, o2I, oInt, negE, revE, seq_tup, seq_lst, oIx, atI_0, atI_1, o1S, oEq_int, oEq_bl, if_true, if_false, Bool.not_true, Bool.not_false]
  refine ⟨rfl, lcD_mapA rowD (fun r => .tup (r.map fun q => rat q.abs)) (fun r hr Q' q' => ?_) z⟩
  rw [asgK_nm]
  simp only [rowD, ratsD, pVar, pIx, dLeaf, dLenO, gtSub, gtNm, gtTup, gtCons, gtNil, sAsgT, sSetF, sApp, fLc, fLeaf, fOp, fList, fLst, owE_ow, ndE_nd, put_nil, w_law_draw, wDraw, wSeq, wRng1, wRng2, wZip, dLc, asgK_nm, asgK_tp2, sFor, oAll_map, oAny_map, wipeD, oSl, List.length_cons, List.length_nil, sSeq, sAsg, sRet, sRetN, sIf, sNext, sPar, sDrop, sFrz, sAug, dOp, dVar, dC, dTup, dLst, dCons, dNil, dCall, dCB, dIx, dTest, dAnd, dOr, dNot, dAndV, dOrV, dNotV, dB, dIf, dNeg, dFld, dSelf, sSelf, dSl, dNoPart, dPart, dRevT, dDic1, dIsN, entD, asg, setAll, fnEnds, startD, startI, initEnds, slE, slI, fieldD, frzs, frz, List.map, List.length, List.replicate, List.getElem?_cons_zero, List.getElem?_cons_succ, List.set_cons_zero, List.set_cons_succ, List.cons_append, List.nil_append, wF, wR, oI_int, oI0_int, oPlus_int, oTimes_int, o1I, o2I, oInt, negE, revE, seq_tup, seq_lst, oIx, atI_0, atI_1, o1S, oEq_int, oEq_bl, if_true, if_false, Bool.not_true, Bool.not_false]
  refine ⟨rfl, lcD_mapA rat (fun q => rat q.abs) (fun q hq Q2 q2 => ?_) q'⟩
  rw [asgK_nm]
  exact ⟨q, rfl, q2⟩
abbrev w_law_sizes (c : Cl) : W := w_sizes_raw c
theorem wm_law_sizes {c : Cl} : Wm (w_law_sizes c) := wm_sizes_raw (c := c)
def m_law_sizes (c : Cl) : WS := sRet (dCB oTuple (dCons (dLc (.nm 1) (wSeq (dVar 0)) (dYes) (dCB oTuple (dCons (dLc (.nm 2) (wSeq (dVar 1)) (dYes) (dTup (dCons (dCB oAbs (dCons (dIx (dVar 2) (dC (.int 0))) (dNil))) (dCons (dIx (dVar 2) (dC (.int 1))) (dNil)))) [2]) (dNil))) [1]) (dNil)))
theorem rd_law_sizes (c : Cl) : ∀ ds n Q Ex, ds.length = (["sheet"] : List Str).length → w_law_sizes c ds n Q Ex → m_law_sizes c (startD ["sheet", "row", "item"] ds) n (fnEnds Q fun _ _ => False) := by
  rintro ds n Q Ex - ⟨S, rfl, z⟩
  rw [mat_abs] at z
  simp only [m_law_sizes, matD, pVar, pIx, dLeaf, dLenO, gtSub, gtNm, gtTup, gtCons, gtNil, sAsgT, sSetF, sApp, fLc, fLeaf, fOp, fList, fLst, owE_ow, ndE_nd, put_nil, w_law_draw, wDraw, wSeq, wRng1, wRng2, wZip, dLc, asgK_nm, asgK_tp2, sFor, oAll_map, oAny_map, wipeD, oSl, List.length_cons, List.length_nil, sSeq, sAsg, sRet, sRetN, sIf, sNext, sPar, sDrop, sFrz, sAug, dOp, dVar, dC, dTup, dLst, dCons, dNil, dCall, dCB, dIx, dTest, dAnd, dOr, dNot, dAndV, dOrV, dNotV, dB, dIf, dNeg, dFld, dSelf, sSelf, dSl, dNoPart, dPart, dRevT, dDic1, dIsN, entD, asg, setAll, fnEnds, startD, startI, initEnds, slE, slI, fieldD, frzs, frz, List.map, List.length, List.replicate, List.getElem?_cons_zero, List.getElem?_cons_succ, List.set_cons_zero, List.set_cons_succ, List.cons_append, List.nil_append, wF, wR, oI_int, oI0_int, oPlus_int, oTimes_int, o1I, o2I, oInt, negE, revE, seq_tup, seq_lst, oIx, atI_0, atI_1, o1S, oEq_int, oEq_bl, if_true, if_false, Bool.not_true, Bool.not_false]
  refine ⟨rfl, lcD_mapA rowD (fun r => .tup (r.map fun q => rat q.abs)) (fun r hr Q' q' => ?_) z⟩
  rw [asgK_nm]
  simp only [rowD, ratsD, pVar, pIx, dLeaf, dLenO, gtSub, gtNm, gtTup, gtCons, gtNil, sAsgT, sSetF, sApp, fLc, fLeaf, fOp, fList, fLst, owE_ow, ndE_nd, put_nil, w_law_draw, wDraw, wSeq, wRng1, wRng2, wZip, dLc, asgK_nm, asgK_tp2, sFor, oAll_map, oAny_map, wipeD, oSl, List.length_cons, List.length_nil, sSeq, sAsg, sRet, sRetN, sIf, sNext, sPar, sDrop, sFrz, sAug, dOp, dVar, dC, dTup, dLst, dCons, dNil, dCall, dCB, dIx, dTest, dAnd, dOr, dNot, dAndV, dOrV, dNotV, dB, dIf, dNeg, dFld, dSelf, sSelf, dSl, dNoPart, dPart, dRevT, dDic1, dIsN, entD, asg, setAll, fnEnds, startD, startI, initEnds, slE, slI, fieldD, frzs, frz, List.map, List.length, List.replicate, List.getElem?_cons_zero, List.getElem?_cons_succ, List.set_cons_zero, List.set_cons_succ, List.cons_append, List.nil_append, wF, wR, oI_int, oI0_int, oPlus_int, oTimes_int, o1I, o2I, oInt, negE, revE, seq_tup, seq_lst, oIx, atI_0, atI_1, o1S, oEq_int, oEq_bl, if_true, if_false, Bool.not_true, Bool.not_false]
  refine ⟨rfl, lcD_mapA rat (fun q => rat q.abs) (fun q hq Q2 q2 => ?_) q'⟩
  rw [asgK_nm]
  simp only [← rat_abs] at q2
  exact q2
/-- two rows against each sheet row -/
def szS (h : Nat) (S : List (List Rat)) : Prop := ∀ r ∈ S, ∀ q ∈ r, sz h q
abbrev w_column_raw (c : Cl) : W := fun ds n Q _ => ∃ S xs, ds = [matD S, rowD xs] ∧ (∃ h k, szS h S ∧ (∀ x ∈ xs, sz k x) ∧ ∀ r ∈ S, (h + k + 1) * (r.length + 1) ≤ 8990) ∧ Q (rowD (S.map fun r => dotQ r xs)) n
theorem wm_column_raw {c : Cl} : Wm (w_column_raw c) := ⟨fun ds n Q Q' E E' hq he ⟨S, xs, e, h, z⟩ => ⟨S, xs, e, h, hq _ _ z⟩⟩
def m_column_raw (c : Cl) : WS := sRet (dCB oTuple (dCons (dLc (.nm 2) (wSeq (dVar 0)) (dYes) (dCall (w_dot_raw c) (dCons (dVar 2) (dCons (dVar 1) (dNil)))) [2]) (dNil)))
theorem rd_column_raw (c : Cl) : ∀ ds n Q Ex, ds.length = (["sheet", "column"] : List Str).length → w_column_raw c ds n Q Ex → m_column_raw c (startD ["sheet", "column", "row"] ds) n (fnEnds Q fun _ _ => False) := by
  rintro ds n Q Ex - ⟨S, xs, rfl, ⟨h, k, h1, h2, h3⟩, z⟩
  simp only [m_column_raw, matD, pVar, pIx, dLeaf, dLenO, gtSub, gtNm, gtTup, gtCons, gtNil, sAsgT, sSetF, sApp, fLc, fLeaf, fOp, fList, fLst, owE_ow, ndE_nd, put_nil, w_law_draw, wDraw, wSeq, wRng1, wRng2, wZip, dLc, asgK_nm, asgK_tp2, sFor, oAll_map, oAny_map, wipeD, oSl, List.length_cons, List.length_nil, sSeq, sAsg, sRet, sRetN, sIf, sNext, sPar, sDrop, sFrz, sAug, dOp, dVar, dC, dTup, dLst, dCons, dNil, dCall, dCB, dIx, dTest, dAnd, dOr, dNot, dAndV, dOrV, dNotV, dB, dIf, dNeg, dFld, dSelf, sSelf, dSl, dNoPart, dPart, dRevT, dDic1, dIsN, entD, asg, setAll, fnEnds, startD, startI, initEnds, slE, slI, fieldD, frzs, frz, List.map, List.length, List.replicate, List.getElem?_cons_zero, List.getElem?_cons_succ, List.set_cons_zero, List.set_cons_succ, List.cons_append, List.nil_append, wF, wR, oI_int, oI0_int, oPlus_int, oTimes_int, o1I, o2I, oInt, negE, revE, seq_tup, seq_lst, oIx, atI_0, atI_1, o1S, oEq_int, oEq_bl, if_true, if_false, Bool.not_true, Bool.not_false]
  refine ⟨rfl, lcD_mapA rowD (fun r => rat (dotQ r xs)) (fun r hr Q' q' => ?_) ?_⟩
  · rw [asgK_nm]
    exact ⟨_, _, r, xs, rfl, ⟨h, k, rfl, rfl, h1 r hr, h2, h3 r hr⟩, q'⟩
  · have e : rowD (S.map fun r => dotQ r xs) = .tup (S.map fun r => rat (dotQ r xs)) := by unfold rowD ratsD; rw [List.map_map]; rfl
    rw [e] at z
    exact z
/-- the k-th column -/
def colQ (S : List (List Rat)) (k : Nat) : List Rat := S.map fun r => r.getD k 0
theorem atI_nat' {ds : List D} {k : Nat} {d : D} (h : ds[k]? = some d) : atI ds (0 + (k : Int)) = some d := by rw [Int.zero_add]; exact atI_nat h
abbrev w_row_raw (c : Cl) : W := fun ds n Q _ => ∃ S xs m, ds = [rowD xs, matD S] ∧ S ≠ [] ∧ (∀ r ∈ S, r.length = m) ∧ m ≤ 1000 ∧ (∃ h k, szS h S ∧ (∀ x ∈ xs, sz k x) ∧ (k + h + 1) * (xs.length + 1) ≤ 8990) ∧ Q (rowD ((List.range m).map fun k => dotQ xs (colQ S k))) n
theorem wm_row_raw {c : Cl} : Wm (w_row_raw c) := ⟨fun ds n Q Q' E E' hq he ⟨S, xs, m, e, h1, h2, h3, h4, z⟩ => ⟨S, xs, m, e, h1, h2, h3, h4, hq _ _ z⟩⟩
def m_row_raw (c : Cl) : WS := sRet (dCB oTuple (dCons (dLc (.nm 2) (wRng1 (dCons (dCB oLen (dCons (dIx (dVar 1) (dC (.int 0))) (dNil))) (dNil))) (dYes) (dCall (w_dot_raw c) (dCons (dVar 0) (dCons (dLc (.nm 3) (wSeq (dVar 1)) (dYes) (dIx (dVar 3) (dVar 2)) [3]) (dNil)))) [2]) (dNil)))
theorem sz_col {h : Nat} {S : List (List Rat)} {k m : Nat} (hs : szS h S) (hm : ∀ r ∈ S, r.length = m) (hk : k < m) : ∀ y ∈ colQ S k, sz h y := by
  intro y hy
  unfold colQ at hy
  obtain ⟨r, hr, rfl⟩ := List.mem_map.mp hy
  have hl := hm r hr
  have e : r[k]? = some r[k] := List.getElem?_eq_getElem (by omega)
  rw [List.getD_eq_getElem?_getD, e]
  exact hs r hr _ (List.getElem_mem _)
theorem rd_row_raw (c : Cl) : ∀ ds n Q Ex, ds.length = (["row", "sheet"] : List Str).length → w_row_raw c ds n Q Ex → m_row_raw c (startD ["row", "sheet", "k", "line"] ds) n (fnEnds Q fun _ _ => False) := by
  rintro ds n Q Ex - ⟨S, xs, m, rfl, hne, hm, hm2, ⟨h, k, h1, h2, h3⟩, z⟩
  simp only [m_row_raw, matD, pVar, pIx, dLeaf, dLenO, gtSub, gtNm, gtTup, gtCons, gtNil, sAsgT, sSetF, sApp, fLc, fLeaf, fOp, fList, fLst, owE_ow, ndE_nd, put_nil, w_law_draw, wDraw, wSeq, wRng1, wRng2, wZip, dLc, asgK_nm, asgK_tp2, sFor, oAll_map, oAny_map, wipeD, oSl, List.length_cons, List.length_nil, sSeq, sAsg, sRet, sRetN, sIf, sNext, sPar, sDrop, sFrz, sAug, dOp, dVar, dC, dTup, dLst, dCons, dNil, dCall, dCB, dIx, dTest, dAnd, dOr, dNot, dAndV, dOrV, dNotV, dB, dIf, dNeg, dFld, dSelf, sSelf, dSl, dNoPart, dPart, dRevT, dDic1, dIsN, entD, asg, setAll, fnEnds, startD, startI, initEnds, slE, slI, fieldD, frzs, frz, List.map, List.length, List.replicate, List.getElem?_cons_zero, List.getElem?_cons_succ, List.set_cons_zero, List.set_cons_succ, List.cons_append, List.nil_append, wF, wR, oI_int, oI0_int, oPlus_int, oTimes_int, o1I, o2I, oInt, negE, revE, seq_tup, seq_lst, oIx, atI_0, atI_1, o1S, oEq_int, oEq_bl, if_true, if_false, Bool.not_true, Bool.not_false]
  cases S with
  | nil => exact absurd rfl hne
  | cons r0 S =>
    have e0 := hm r0 List.mem_cons_self
    simp only [List.map_cons, atI_0, rowD, seq_tup, ratsD_len, e0]
    refine ⟨rfl, ⟨by omega, by omega⟩, ?_⟩
    rw [Int.toNat_natCast]
    unfold rangeD
    refine lcD_mapA (fun (i : Nat) => D.int (0 + (i : Int))) (fun i => rat (dotQ xs (colQ (r0 :: S) i))) (fun i hi Q' q' => ?_) ?_
    · have hi := List.mem_range.mp hi
      rw [asgK_nm]
      simp only [pVar, pIx, dLeaf, dLenO, gtSub, gtNm, gtTup, gtCons, gtNil, sAsgT, sSetF, sApp, fLc, fLeaf, fOp, fList, fLst, owE_ow, ndE_nd, put_nil, w_law_draw, wDraw, wSeq, wRng1, wRng2, wZip, dLc, asgK_nm, asgK_tp2, sFor, oAll_map, oAny_map, wipeD, oSl, List.length_cons, List.length_nil, sSeq, sAsg, sRet, sRetN, sIf, sNext, sPar, sDrop, sFrz, sAug, dOp, dVar, dC, dTup, dLst, dCons, dNil, dCall, dCB, dIx, dTest, dAnd, dOr, dNot, dAndV, dOrV, dNotV, dB, dIf, dNeg, dFld, dSelf, sSelf, dSl, dNoPart, dPart, dRevT, dDic1, dIsN, entD, asg, setAll, fnEnds, startD, startI, initEnds, slE, slI, fieldD, frzs, frz, List.map, List.length, List.replicate, List.getElem?_cons_zero, List.getElem?_cons_succ, List.set_cons_zero, List.set_cons_succ, List.cons_append, List.nil_append, wF, wR, oI_int, oI0_int, oPlus_int, oTimes_int, o1I, o2I, oInt, negE, revE, seq_tup, seq_lst, oIx, atI_0, atI_1, o1S, oEq_int, oEq_bl, if_true, if_false, Bool.not_true, Bool.not_false]
      refine ⟨rfl, ?_⟩
      rw [show (D.tup (ratsD r0) :: S.map rowD) = (r0 :: S).map rowD from rfl]
      refine lcD_mapA rowD (fun r => rat (r.getD i 0)) (fun r hr Q2 q2 => ?_) ?_
      · rw [asgK_nm]
        have hl := hm r hr
        have e : (ratsD r)[i]? = some (rat (r.getD i 0)) := by
          rw [getElem_ratsD (by omega : i < r.length), List.getD_eq_getElem?_getD, List.getElem?_eq_getElem (by omega : i < r.length)]; rfl
        simp only [rowD, seq_tup, pVar, pIx, dLeaf, dLenO, gtSub, gtNm, gtTup, gtCons, gtNil, sAsgT, sSetF, sApp, fLc, fLeaf, fOp, fList, fLst, owE_ow, ndE_nd, put_nil, w_law_draw, wDraw, wSeq, wRng1, wRng2, wZip, dLc, asgK_nm, asgK_tp2, sFor, oAll_map, oAny_map, wipeD, oSl, List.length_cons, List.length_nil, sSeq, sAsg, sRet, sRetN, sIf, sNext, sPar, sDrop, sFrz, sAug, dOp, dVar, dC, dTup, dLst, dCons, dNil, dCall, dCB, dIx, dTest, dAnd, dOr, dNot, dAndV, dOrV, dNotV, dB, dIf, dNeg, dFld, dSelf, sSelf, dSl, dNoPart, dPart, dRevT, dDic1, dIsN, entD, asg, setAll, fnEnds, startD, startI, initEnds, slE, slI, fieldD, frzs, frz, List.map, List.length, List.replicate, List.getElem?_cons_zero, List.getElem?_cons_succ, List.set_cons_zero, List.set_cons_succ, List.cons_append, List.nil_append, wF, wR, oI_int, oI0_int, oPlus_int, oTimes_int, o1I, o2I, oInt, negE, revE, seq_tup, seq_lst, oIx, atI_0, atI_1, o1S, oEq_int, oEq_bl, if_true, if_false, Bool.not_true, Bool.not_false, atI_nat' e]
        exact q2
      · refine ⟨_, _, xs, colQ (r0 :: S) i, rfl, ⟨k, h, rfl, ?_, h2, sz_col h1 hm hi, h3⟩, q'⟩
        show some _ = some _
        unfold colQ ratsD
        rw [List.map_map]; rfl
    · have e : rowD ((List.range m).map fun k => dotQ xs (colQ (r0 :: S) k)) = .tup ((List.range m).map fun i => rat (dotQ xs (colQ (r0 :: S) i))) := by unfold rowD ratsD; rw [List.map_map]; rfl
      rw [e] at z
      exact z
end DL

set_option Elab.async false
set_option linter.all false
set_option maxRecDepth 100000
set_option maxHeartbeats 4000000
namespace DL
open PySem PySem.Spec PyProof.Rows L2

/-! ### frozen -/
mutual
def frozenD : D → D
  | .tup ds => .tup (frozenDs ds)
  | .lst ds => .tup (frozenDs ds)
  | d => d
def frozenDs : List D → List D
  | [] => []
  | d :: ds => frozenD d :: frozenDs ds
end
mutual
def dp : D → Nat
  | .tup ds => dps ds + 1
  | .lst ds => dps ds + 1
  | _ => 0
def dps : List D → Nat
  | [] => 0
  | d :: ds => max (dp d) (dps ds)
end
theorem dps_le {k : Nat} : ∀ {ds : List D}, dps ds ≤ k ↔ ∀ d ∈ ds, dp d ≤ k
  | [] => ⟨fun _ d h => absurd h List.not_mem_nil, fun _ => Nat.zero_le _⟩
  | d :: ds => by
    unfold dps
    rw [Nat.max_le, dps_le (ds := ds)]
    constructor
    · rintro ⟨h1, h2⟩ e he
      rcases List.mem_cons.mp he with rfl | he
      · exact h1
      · exact h2 e he
    · exact fun h => ⟨h d List.mem_cons_self, fun e he => h e (List.mem_cons_of_mem _ he)⟩
theorem frozenDs_eq : ∀ ds : List D, frozenDs ds = ds.map frozenD
  | [] => rfl
  | d :: ds => by rw [frozenDs, frozenDs_eq ds]; rfl
abbrev w_frozen (c : Cl) (k : Nat) : W := wF (fun ds => ∃ d, ds = [d] ∧ Gd c.cls d ∧ dp d ≤ k) (fun | [d] => frozenD d | _ => .non)
theorem wm_frozen {c : Cl} {k : Nat} : Wm (w_frozen c k) := wm_F
def wr_frozen (c : Cl) : Nat → W
  | 0 => fun _ _ _ _ => False
  | k + 1 => w_frozen c k
def m_frozen (c : Cl) (wr : W) : WS := sSeq (sIf (dTest (dCB (oIsiT c.cls) (dCons (dVar 0) (dCons (dTup (dCons (dC (.ty "tuple")) (dCons (dC (.ty "list")) (dNil)))) (dNil))))) (sRet (dCB oTuple (dCons (dLc (.nm 1) (wSeq (dVar 0)) (dYes) (dCall (wr) (dCons (dVar 1) (dNil))) [1]) (dNil)))) (sNext))
  (sRet (dVar 0))
theorem rd_frozen (c : Cl) (k : Nat) : ∀ ds n Q Ex, ds.length = (["value"] : List Str).length → w_frozen c k ds n Q Ex → m_frozen c (wr_frozen c k) (startD ["value", "item"] ds) n (fnEnds Q fun _ _ => False) := by
  rintro ds n Q Ex - ⟨⟨d, rfl, hd, hk⟩, q⟩
  replace q : Q (frozenD d) n := q
  simp only [m_frozen, pVar, pIx, dLeaf, dLenO, gtSub, gtNm, gtTup, gtCons, gtNil, sAsgT, sSetF, sApp, fLc, fLeaf, fOp, fList, fLst, owE_ow, ndE_nd, put_nil, w_law_draw, wDraw, wSeq, wRng1, wRng2, wZip, dLc, asgK_nm, asgK_tp2, sFor, oAll_map, oAny_map, wipeD, oSl, List.length_cons, List.length_nil, sSeq, sAsg, sRet, sRetN, sIf, sNext, sPar, sDrop, sFrz, sAug, dOp, dVar, dC, dTup, dLst, dCons, dNil, dCall, dCB, dIx, dTest, dAnd, dOr, dNot, dAndV, dOrV, dNotV, dB, dIf, dNeg, dFld, dSelf, sSelf, dSl, dNoPart, dPart, dRevT, dDic1, dIsN, entD, asg, setAll, fnEnds, startD, startI, initEnds, slE, slI, fieldD, frzs, frz, List.map, List.length, List.replicate, List.getElem?_cons_zero, List.getElem?_cons_succ, List.set_cons_zero, List.set_cons_succ, List.cons_append, List.nil_append, wF, wR, oI_int, oI0_int, oPlus_int, oTimes_int, o1I, o2I, oInt, negE, revE, seq_tup, seq_lst, oIx, atI_0, atI_1, o1S, oEq_int, oEq_bl, if_true, if_false, Bool.not_true, Bool.not_false, isi_seq hd]
  have go : ∀ ds, d.seq = some ds → dps ds + 1 ≤ k → frozenD d = .tup (ds.map frozenD) → (match d.seq with | some ds => noOw [Ent.sh d, Ent.no] [1] = true ∧ lcD (Tgt.nm 1) dYes (dCall (wr_frozen c k) (dCons (dVar 1) dNil)) [Ent.sh d, Ent.no] ds n fun rs j => Q (.tup rs) j | none => False) := by
    intro ds e hk hf
    cases k with
    | zero => omega
    | succ k =>
      have hdp := dps_le.mp (Nat.le_of_succ_le_succ hk)
      have g := gd_seq hd e
      rw [e]
      refine ⟨rfl, lcD_map frozenD (fun x hx Q' q' => ?_) (by rw [← hf]; exact q)⟩
      rw [asgK_nm]
      exact ⟨⟨x, rfl, g x hx, hdp x hx⟩, q'⟩
  cases d with
  | tup ds => exact go ds rfl hk (by rw [frozenD, frozenDs_eq])
  | lst ds => exact go ds rfl hk (by rw [frozenD, frozenDs_eq])
  | _ => exact q
abbrev w_Lid_init (c : Cl) : W := wF (fun ds => ∃ d, ds = [d] ∧ Gd c.cls d ∧ dp d ≤ 6) (fun | [d] => .obj c.Lid ["row"] [frozenD d] | _ => .non)
theorem wm_Lid_init {c : Cl} : Wm (w_Lid_init c) := wm_F
def m_Lid_init (c : Cl) : WS := sSelf 0 c.Lid (Str.ofString "row") (dCall (w_frozen c 6) (dCons (dVar 1) (dNil)))
theorem rd_Lid_init (c : Cl) : ∀ a ds n Q Ex, ds.length = (["row"] : List Str).length → w_Lid_init c ds n Q Ex → m_Lid_init c (startI ["self", "row"] a c.Lid ds) n (initEnds a c.Lid Q fun _ _ => False) := by
  rintro a ds n Q Ex - ⟨⟨d, rfl, hd, hk⟩, q⟩
  simp only [m_Lid_init, pVar, pIx, dLeaf, dLenO, gtSub, gtNm, gtTup, gtCons, gtNil, sAsgT, sSetF, sApp, fLc, fLeaf, fOp, fList, fLst, owE_ow, ndE_nd, put_nil, w_law_draw, wDraw, wSeq, wRng1, wRng2, wZip, dLc, asgK_nm, asgK_tp2, sFor, oAll_map, oAny_map, wipeD, oSl, List.length_cons, List.length_nil, sSeq, sAsg, sRet, sRetN, sIf, sNext, sPar, sDrop, sFrz, sAug, dOp, dVar, dC, dTup, dLst, dCons, dNil, dCall, dCB, dIx, dTest, dAnd, dOr, dNot, dAndV, dOrV, dNotV, dB, dIf, dNeg, dFld, dSelf, sSelf, dSl, dNoPart, dPart, dRevT, dDic1, dIsN, entD, asg, setAll, fnEnds, startD, startI, initEnds, slE, slI, fieldD, frzs, frz, List.map, List.length, List.replicate, List.getElem?_cons_zero, List.getElem?_cons_succ, List.set_cons_zero, List.set_cons_succ, List.cons_append, List.nil_append, wF, wR, oI_int, oI0_int, oPlus_int, oTimes_int, o1I, o2I, oInt, negE, revE, seq_tup, seq_lst, oIx, atI_0, atI_1, o1S, oEq_int, oEq_bl, if_true, if_false, Bool.not_true, Bool.not_false]
  exact ⟨⟨d, rfl, hd, hk⟩, trivial, ⟨List.not_mem_nil, by decide⟩, trivial, trivial, q⟩
abbrev w_Floor_init (c : Cl) : W := wF (fun ds => ∃ d, ds = [d] ∧ Gd c.cls d ∧ dp d ≤ 6) (fun | [d] => .obj c.Floor ["row"] [frozenD d] | _ => .non)
theorem wm_Floor_init {c : Cl} : Wm (w_Floor_init c) := wm_F
def m_Floor_init (c : Cl) : WS := sSelf 0 c.Floor (Str.ofString "row") (dCall (w_frozen c 6) (dCons (dVar 1) (dNil)))
theorem rd_Floor_init (c : Cl) : ∀ a ds n Q Ex, ds.length = (["row"] : List Str).length → w_Floor_init c ds n Q Ex → m_Floor_init c (startI ["self", "row"] a c.Floor ds) n (initEnds a c.Floor Q fun _ _ => False) := by
  rintro a ds n Q Ex - ⟨⟨d, rfl, hd, hk⟩, q⟩
  simp only [m_Floor_init, pVar, pIx, dLeaf, dLenO, gtSub, gtNm, gtTup, gtCons, gtNil, sAsgT, sSetF, sApp, fLc, fLeaf, fOp, fList, fLst, owE_ow, ndE_nd, put_nil, w_law_draw, wDraw, wSeq, wRng1, wRng2, wZip, dLc, asgK_nm, asgK_tp2, sFor, oAll_map, oAny_map, wipeD, oSl, List.length_cons, List.length_nil, sSeq, sAsg, sRet, sRetN, sIf, sNext, sPar, sDrop, sFrz, sAug, dOp, dVar, dC, dTup, dLst, dCons, dNil, dCall, dCB, dIx, dTest, dAnd, dOr, dNot, dAndV, dOrV, dNotV, dB, dIf, dNeg, dFld, dSelf, sSelf, dSl, dNoPart, dPart, dRevT, dDic1, dIsN, entD, asg, setAll, fnEnds, startD, startI, initEnds, slE, slI, fieldD, frzs, frz, List.map, List.length, List.replicate, List.getElem?_cons_zero, List.getElem?_cons_succ, List.set_cons_zero, List.set_cons_succ, List.cons_append, List.nil_append, wF, wR, oI_int, oI0_int, oPlus_int, oTimes_int, o1I, o2I, oInt, negE, revE, seq_tup, seq_lst, oIx, atI_0, atI_1, o1S, oEq_int, oEq_bl, if_true, if_false, Bool.not_true, Bool.not_false]
  exact ⟨⟨d, rfl, hd, hk⟩, trivial, ⟨List.not_mem_nil, by decide⟩, trivial, trivial, q⟩
/-- two instances of one field that is plain -/
abbrev EqP (c : Cl) (C : Addr) (ds : List D) : Prop := ∃ x C' y, ds = [.obj C ["row"] [x], .obj C' ["row"] [y]] ∧ C ∈ c.cls ∧ C' ∈ c.cls ∧ Gd c.cls y ∧ Pl x ∧ Pl y
abbrev eqF (C : Addr) : List D → D := fun | [.obj _ _ [x], .obj C' _ [y]] => .bl (decide (C' = C) && eqD x y) | _ => .non
abbrev w_Lid_eq (c : Cl) : W := wF (EqP c c.Lid) (eqF c.Lid)
theorem wm_Lid_eq {c : Cl} : Wm (w_Lid_eq c) := wm_F
def m_Lid_eq (c : Cl) : WS := sRet (dAndV (dCB (oIsi1 c.cls) (dCons (dVar 1) (dCons (dC (.fn c.Lid)) (dNil)))) (dOp (oEq false) (dFld c.Lid (Str.ofString "row") (dVar 0)) (dFld c.Lid (Str.ofString "row") (dVar 1))))
theorem rd_Lid_eq (c : Cl) : ∀ ds n Q Ex, ds.length = (["self", "other"] : List Str).length → w_Lid_eq c ds n Q Ex → m_Lid_eq c (startD ["self", "other"] ds) n (fnEnds Q fun _ _ => False) := by
  rintro ds n Q Ex - ⟨⟨x, C', y, rfl, hC, hC', hy, px, py⟩, q⟩
  replace q : Q (.bl (decide (C' = c.Lid) && eqD x y)) n := q
  have ho : Gd c.cls (.obj C' ["row"] [y]) := ⟨hC', hy, trivial⟩
  simp only [m_Lid_eq, pVar, pIx, dLeaf, dLenO, gtSub, gtNm, gtTup, gtCons, gtNil, sAsgT, sSetF, sApp, fLc, fLeaf, fOp, fList, fLst, owE_ow, ndE_nd, put_nil, w_law_draw, wDraw, wSeq, wRng1, wRng2, wZip, dLc, asgK_nm, asgK_tp2, sFor, oAll_map, oAny_map, wipeD, oSl, List.length_cons, List.length_nil, sSeq, sAsg, sRet, sRetN, sIf, sNext, sPar, sDrop, sFrz, sAug, dOp, dVar, dC, dTup, dLst, dCons, dNil, dCall, dCB, dIx, dTest, dAnd, dOr, dNot, dAndV, dOrV, dNotV, dB, dIf, dNeg, dFld, dSelf, sSelf, dSl, dNoPart, dPart, dRevT, dDic1, dIsN, entD, asg, setAll, fnEnds, startD, startI, initEnds, slE, slI, fieldD, frzs, frz, List.map, List.length, List.replicate, List.getElem?_cons_zero, List.getElem?_cons_succ, List.set_cons_zero, List.set_cons_succ, List.cons_append, List.nil_append, wF, wR, oI_int, oI0_int, oPlus_int, oTimes_int, o1I, o2I, oInt, negE, revE, seq_tup, seq_lst, oIx, atI_0, atI_1, o1S, oEq_int, oEq_bl, if_true, if_false, Bool.not_true, Bool.not_false, isi_obj ho hC]
  refine ite_and (P := fun d => Q d n) q fun h q => ?_
  have h : C' = c.Lid := of_decide_eq_true h
  exact ⟨trivial, h, px, py, q⟩
abbrev w_Floor_eq (c : Cl) : W := wF (EqP c c.Floor) (eqF c.Floor)
theorem wm_Floor_eq {c : Cl} : Wm (w_Floor_eq c) := wm_F
def m_Floor_eq (c : Cl) : WS := sRet (dAndV (dCB (oIsi1 c.cls) (dCons (dVar 1) (dCons (dC (.fn c.Floor)) (dNil)))) (dOp (oEq false) (dFld c.Floor (Str.ofString "row") (dVar 0)) (dFld c.Floor (Str.ofString "row") (dVar 1))))
theorem rd_Floor_eq (c : Cl) : ∀ ds n Q Ex, ds.length = (["self", "other"] : List Str).length → w_Floor_eq c ds n Q Ex → m_Floor_eq c (startD ["self", "other"] ds) n (fnEnds Q fun _ _ => False) := by
  rintro ds n Q Ex - ⟨⟨x, C', y, rfl, hC, hC', hy, px, py⟩, q⟩
  replace q : Q (.bl (decide (C' = c.Floor) && eqD x y)) n := q
  have ho : Gd c.cls (.obj C' ["row"] [y]) := ⟨hC', hy, trivial⟩
  simp only [m_Floor_eq, pVar, pIx, dLeaf, dLenO, gtSub, gtNm, gtTup, gtCons, gtNil, sAsgT, sSetF, sApp, fLc, fLeaf, fOp, fList, fLst, owE_ow, ndE_nd, put_nil, w_law_draw, wDraw, wSeq, wRng1, wRng2, wZip, dLc, asgK_nm, asgK_tp2, sFor, oAll_map, oAny_map, wipeD, oSl, List.length_cons, List.length_nil, sSeq, sAsg, sRet, sRetN, sIf, sNext, sPar, sDrop, sFrz, sAug, dOp, dVar, dC, dTup, dLst, dCons, dNil, dCall, dCB, dIx, dTest, dAnd, dOr, dNot, dAndV, dOrV, dNotV, dB, dIf, dNeg, dFld, dSelf, sSelf, dSl, dNoPart, dPart, dRevT, dDic1, dIsN, entD, asg, setAll, fnEnds, startD, startI, initEnds, slE, slI, fieldD, frzs, frz, List.map, List.length, List.replicate, List.getElem?_cons_zero, List.getElem?_cons_succ, List.set_cons_zero, List.set_cons_succ, List.cons_append, List.nil_append, wF, wR, oI_int, oI0_int, oPlus_int, oTimes_int, o1I, o2I, oInt, negE, revE, seq_tup, seq_lst, oIx, atI_0, atI_1, o1S, oEq_int, oEq_bl, if_true, if_false, Bool.not_true, Bool.not_false, isi_obj ho hC]
  refine ite_and (P := fun d => Q d n) q fun h q => ?_
  have h : C' = c.Floor := of_decide_eq_true h
  exact ⟨trivial, h, px, py, q⟩
end DL

set_option Elab.async false
set_option linter.all false
set_option maxRecDepth 100000
set_option maxHeartbeats 4000000
namespace DL
open PySem PySem.Spec PyProof.Rows L2

/-! ### lids and floors -/
theorem dotI_all {B h k : Nat} {l : List (Rat × Rat)} (hB : h + k = B) (h1 : ∀ p ∈ l, sz h p.1 ∧ sz k p.2) : ∀ i, i ≤ l.length → ∃ t b, DotI B i l t b
  | 0, _ => ⟨0, 1, DotI.start⟩
  | i + 1, hi => by
    obtain ⟨t, b, I⟩ := dotI_all hB h1 i (by omega)
    have e : l[i]? = some l[i] := List.getElem?_eq_getElem (by omega)
    have hs := h1 _ (List.getElem_mem (by omega : i < l.length))
    exact ⟨_, _, I.step e hs.1 hs.2 hB⟩
theorem sz_dot {h k : Nat} {xs ys : List Rat} (h1 : ∀ x ∈ xs, sz h x) (h2 : ∀ y ∈ ys, sz k y) : sz (1 + (h + k + 1) * xs.length) (dotQ xs ys) := by
  obtain ⟨t, b, I⟩ := dotI_all (l := xs.zip ys) (h := h) (k := k) rfl (fun p hp => ⟨h1 _ (List.of_mem_zip hp).1, h2 _ (List.of_mem_zip hp).2⟩) _ (Nat.le_refl _)
  have hl : (xs.zip ys).length ≤ xs.length := by rw [List.length_zip]; exact Nat.min_le_left _ _
  have m1 : (h + k + 1) * (xs.zip ys).length ≤ (h + k + 1) * xs.length := Nat.mul_le_mul_left _ hl
  have m2 : (h + k) * (xs.zip ys).length ≤ (h + k + 1) * (xs.zip ys).length := Nat.mul_le_mul_right _ (by omega)
  have v := I.val
  rw [List.take_length] at v
  have e : Rat.divInt t b = dotQ xs ys := eq_divInt (by have := I.pos; omega) v.symm
  rw [← e]
  exact sz_divInt I.pos (lt_pow_mono I.tb (by omega)) (lt_pow_mono I.bb (by omega))
def toldsD : List D → Option (List Rat)
  | [] => some []
  | d :: ds => (match toldD d, toldsD ds with
    | some q, some r => some (q :: r)
    | _, _ => none)
theorem toldsD_cons (d : D) (ds : List D) : toldsD (d :: ds) = match toldD d, toldsD ds with
    | some q, some r => some (q :: r)
    | _, _ => none := by rw [toldsD]
theorem toldsD_eq : ∀ {ds : List D} {r : List Rat}, toldsD ds = some r → ds = ratsD r
  | [], r, h => by cases h; rfl
  | d :: ds, r, h => by
    unfold toldsD at h
    split at h
    · rename_i q s hq hs
      cases h
      show d :: ds = rat q :: ratsD s
      rw [toldD_rat hq, toldsD_eq hs]
    · cases h
theorem toldsD_rats : ∀ r : List Rat, toldsD (ratsD r) = some r
  | [] => rfl
  | q :: r => by
    show toldsD (rat q :: ratsD r) = _
    unfold toldsD
    rw [toldD_of, toldsD_rats r]
theorem toldsD_some {ds : List D} : (∀ d ∈ ds, (toldD d).isSome = true) ↔ (toldsD ds).isSome = true := by
  induction ds with
  | nil => exact ⟨fun _ => rfl, fun _ d h => absurd h List.not_mem_nil⟩
  | cons d ds ih =>
    unfold toldsD
    constructor
    · intro h
      have h1 := h d List.mem_cons_self
      have h2 := ih.mp fun e he => h e (List.mem_cons_of_mem _ he)
      obtain ⟨q, e1⟩ := Option.isSome_iff_exists.mp h1
      obtain ⟨r, e2⟩ := Option.isSome_iff_exists.mp h2
      rw [e1, e2]; rfl
    · intro h
      split at h
      · rename_i q s hq hs
        intro e he
        rcases List.mem_cons.mp he with rfl | he
        · rw [hq]; rfl
        · exact ih.mpr (by rw [hs]; rfl) e he
      · cases h
/-- an item that is told, and the upper number is so -/
def toldB (p : Int → Bool) (d : D) : Bool := match toldD d with
  | some q => p q.num
  | none => false
def posB : D → Bool := toldB fun i => decide (0 < i)
def nonB : D → Bool := toldB fun i => decide (0 ≤ i)
theorem all_toldB {p : Int → Bool} {ds : List D} : ds.all (toldB p) = match toldsD ds with | some r => r.all fun q => p q.num | none => false := by
  induction ds with
  | nil => rfl
  | cons d ds ih =>
    rw [List.all_cons, ih, toldsD_cons]
    unfold toldB
    cases e1 : toldD d with
    | none => rfl
    | some q =>
      cases e2 : toldsD ds with
      | none => simp
      | some r => rfl
def lidQ (S : List (List Rat)) (r : List Rat) : Bool := ((absS S).zip r).all fun p => decide (dotQ p.1 r < p.2)
def lidD (S : List (List Rat)) (d : D) : Bool := match d with
  | .tup ds => decide (ds.length = S.length) && ds.all posB && (match toldsD ds with | some r => lidQ S r | none => false)
  | _ => false
theorem sz_abs {h : Nat} {q : Rat} (s : sz h q) : sz h q.abs := by
  by_cases h0 : 0 ≤ q
  · rw [Rat.abs_of_nonneg h0]; exact s
  · rw [Rat.abs_of_nonpos (by grind)]
    exact ⟨by rw [Rat.neg_num, Int.natAbs_neg]; exact s.1, by rw [Rat.neg_den]; exact s.2⟩
theorem szS_abs {h : Nat} {S : List (List Rat)} (s : szS h S) : szS h (absS S) := fun r hr q hq => by
  obtain ⟨r', hr', rfl⟩ := List.mem_map.mp hr
  obtain ⟨q', hq', rfl⟩ := List.mem_map.mp hq
  exact sz_abs (s r' hr' q' hq')
/-- the sizes a sheet and a row may have -/
structure RowOk (S : List (List Rat)) (d : D) (h k : Nat) : Prop where
  s : szS h S
  sq : ∀ r ∈ S, r.length = S.length
  ne : S ≠ []
  few : S.length ≤ 1000
  row : ∀ r, d = rowD r → ∀ q ∈ r, sz k q
  sm : (h + k + 1) * (S.length + 1) ≤ 8990
theorem tup_row {ds : List D} {r : List Rat} (h : toldsD ds = some r) : D.tup ds = rowD r := by rw [toldsD_eq h]; rfl
abbrev w_is_lid (c : Cl) : W := fun ds n Q _ => ∃ S d, ds = [matD S, d] ∧ Gd c.cls d ∧ (∃ h k, RowOk S d h k) ∧ Q (.bl (lidD S d)) n
theorem wm_is_lid {c : Cl} : Wm (w_is_lid c) := ⟨fun ds n Q Q' E E' hq he ⟨S, d, e, h1, h2, z⟩ => ⟨S, d, e, h1, h2, hq _ _ z⟩⟩
def m_is_lid (c : Cl) : WS := sSeq (sIf (dOr (dNot (dTest (dCB (oIsi1 c.cls) (dCons (dVar 1) (dCons (dC (.ty "tuple")) (dNil)))))) (dOr (dTest (dOp (oEq true) (dCB oLen (dCons (dVar 1) (dNil))) (dCB oLen (dCons (dVar 0) (dNil))))) (dNot (dTest (dCB oAll (dCons (dLc (.nm 4) (wSeq (dVar 1)) (dYes) (dAndV (dCall (w_is_told c) (dCons (dVar 4) (dNil))) (dOp oGt (dIx (dVar 4) (dC (.int 0))) (dC (.int 0)))) [4]) (dNil))))))) (sRet (dC (.bl false))) (sNext))
  (sRet (dCB oAll (dCons (dLc (.tp [2, 3]) (wZip (dCons (dCall (w_column_raw c) (dCons (dCall (w_sizes_raw c) (dCons (dVar 0) (dNil))) (dCons (dVar 1) (dNil)))) (dCons (dVar 1) (dNil)))) (dYes) (dCall (w_rless c) (dCons (dVar 2) (dCons (dVar 3) (dNil)))) [2, 3]) (dNil))))
theorem lenS {S : List (List Rat)} {ds : List D} : decide ((ds.length : Int) = ((S.map rowD).length : Int)) = decide (ds.length = S.length) := decide_eq_decide.mpr (by rw [List.length_map]; omega)
theorem decide_pos {q : Rat} : decide (0 < (rat q |> fun d => match d with | .tup [.int i, _] => i | _ => 0)) = decide (0 < q.num) := rfl
theorem rd_is_lid (c : Cl) : ∀ ds n Q Ex, ds.length = (["rows", "row"] : List Str).length → w_is_lid c ds n Q Ex → m_is_lid c (startD ["rows", "row", "sum_there", "own", "item"] ds) n (fnEnds Q fun _ _ => False) := by
  rintro ds n Q Ex - ⟨S, d, rfl, hd, ⟨h, k, P⟩, q⟩
  simp only [m_is_lid, matD, pVar, pIx, dLeaf, dLenO, gtSub, gtNm, gtTup, gtCons, gtNil, sAsgT, sSetF, sApp, fLc, fLeaf, fOp, fList, fLst, owE_ow, ndE_nd, put_nil, w_law_draw, wDraw, wSeq, wRng1, wRng2, wZip, dLc, asgK_nm, asgK_tp2, sFor, oAll_map, oAny_map, wipeD, oSl, List.length_cons, List.length_nil, sSeq, sAsg, sRet, sRetN, sIf, sNext, sPar, sDrop, sFrz, sAug, dOp, dVar, dC, dTup, dLst, dCons, dNil, dCall, dCB, dIx, dTest, dAnd, dOr, dNot, dAndV, dOrV, dNotV, dB, dIf, dNeg, dFld, dSelf, sSelf, dSl, dNoPart, dPart, dRevT, dDic1, dIsN, entD, asg, setAll, fnEnds, startD, startI, initEnds, slE, slI, fieldD, frzs, frz, List.map, List.length, List.replicate, List.getElem?_cons_zero, List.getElem?_cons_succ, List.set_cons_zero, List.set_cons_succ, List.cons_append, List.nil_append, wF, wR, oI_int, oI0_int, oPlus_int, oTimes_int, o1I, o2I, oInt, negE, revE, seq_tup, seq_lst, oIx, atI_0, atI_1, o1S, oEq_int, oEq_bl, if_true, if_false, Bool.not_true, Bool.not_false, isi_tuple hd]
  cases d with
  | tup ds =>
    have g := gds_iff.mp (show Gds c.cls ds from hd)
    replace q : Q (.bl (decide (ds.length = S.length) && ds.all posB && (match toldsD ds with | some r => lidQ S r | none => false))) n := q
    simp only [isTupB, seq_tup, Bool.not_true, if_false, lenS]
    cases hl : decide (ds.length = S.length) with
    | false => rw [hl] at q; simpa using q
    | true =>
      rw [hl] at q
      have hl := of_decide_eq_true hl
      refine ⟨rfl, lcD_map (fun x => .bl (posB x)) (fun x hx Q' q' => ?_) ?_⟩
      · rw [asgK_nm]
        refine ⟨⟨x, rfl, g x hx⟩, ?_⟩
        unfold posB toldB at q'
        cases e : toldD x with
        | none =>
          rw [e] at q'
          simp only [e, Option.isSome_none, Bool.false_eq_true, if_false]
          exact q'
        | some y =>
          rw [e] at q'
          have e2 := toldD_rat e
          subst e2
          have e' := e
          simp only [rat] at e'
          simp only [rat, e', pVar, pIx, dLeaf, dLenO, gtSub, gtNm, gtTup, gtCons, gtNil, sAsgT, sSetF, sApp, fLc, fLeaf, fOp, fList, fLst, owE_ow, ndE_nd, put_nil, w_law_draw, wDraw, wSeq, wRng1, wRng2, wZip, dLc, asgK_nm, asgK_tp2, sFor, oAll_map, oAny_map, wipeD, oSl, List.length_cons, List.length_nil, sSeq, sAsg, sRet, sRetN, sIf, sNext, sPar, sDrop, sFrz, sAug, dOp, dVar, dC, dTup, dLst, dCons, dNil, dCall, dCB, dIx, dTest, dAnd, dOr, dNot, dAndV, dOrV, dNotV, dB, dIf, dNeg, dFld, dSelf, sSelf, dSl, dNoPart, dPart, dRevT, dDic1, dIsN, entD, asg, setAll, fnEnds, startD, startI, initEnds, slE, slI, fieldD, frzs, frz, List.map, List.length, List.replicate, List.getElem?_cons_zero, List.getElem?_cons_succ, List.set_cons_zero, List.set_cons_succ, List.cons_append, List.nil_append, wF, wR, oI_int, oI0_int, oPlus_int, oTimes_int, o1I, o2I, oInt, negE, revE, seq_tup, seq_lst, oIx, atI_0, atI_1, o1S, oEq_int, oEq_bl, if_true, if_false, Bool.not_true, Bool.not_false, Option.isSome_some]
          exact q'
      · rw [oAll_map]
        cases hp : ds.all posB with
        | false => rw [hp] at q; exact q
        | true =>
          rw [hp] at q
          have hp' := hp
          unfold posB at hp'
          rw [all_toldB] at hp'
          cases hr : toldsD ds with
          | none => rw [hr] at hp'; cases hp'
          | some r =>
            rw [hr] at q
            replace q : Q (.bl (lidQ S r)) n := by simpa using q
            have er := toldsD_eq hr
            have hrow := P.row r (tup_row hr)
            have hlr : r.length = S.length := by rw [← hl, er, ratsD_len]
            have sm : ∀ s ∈ absS S, (h + k + 1) * (s.length + 1) ≤ 8990 := fun s hs => by
              obtain ⟨s', hs', rfl⟩ := List.mem_map.mp hs
              rw [List.length_map, P.sq s' hs']; exact P.sm
            refine ⟨rfl, S, rfl, absS S, r, by rw [er]; rfl, ⟨h, k, szS_abs P.s, hrow, sm⟩, ?_⟩
            simp only [rowD, seq_tup, er]
            rw [zip_rats]
            refine lcD_mapA (fun p : Rat × Rat => D.tup [rat p.1, rat p.2]) (fun p => .bl (decide (p.1 < p.2))) (fun p hp Q' q' => ?_) ?_
            · rw [asgK_tp2]
              have m1 := (List.of_mem_zip hp).1
              have m2 := (List.of_mem_zip hp).2
              obtain ⟨s, hs, e⟩ := List.mem_map.mp m1
              have e : dotQ s r = p.1 := e
              have z1 := sz_dot (szS_abs P.s s hs) hrow
              rw [e] at z1
              have := sm s hs
              refine ⟨p.1, p.2, rfl, ⟨_, k, z1, hrow _ m2, ?_⟩, q'⟩
              have hh : (h + k + 1) * s.length ≤ (h + k + 1) * (s.length + 1) := Nat.mul_le_mul_left _ (by omega)
              have hk : k ≤ (h + k + 1) * (s.length + 1) := by rw [Nat.mul_add]; omega
              omega
            · rw [oAll_mapA]
              have e : lidQ S r = (((absS S).map fun s => dotQ s r).zip r).all fun p => decide (p.1 < p.2) := by
                unfold lidQ
                rw [List.zip_map_left, List.all_map]; rfl
              rw [e] at q
              exact q
  | _ => exact q
/-- the value of an object of the class at C, one field -/
def fieldOf (C : Addr) (v : D) : Option D := match v with
  | .obj C' _ [x] => if C' = C then some x else none
  | _ => none
abbrev HoldP (c : Cl) (C : Addr) (sh v : D) : Prop := SheetP c sh ∧ sqD sh ∧ Gd c.cls v ∧ (∀ ks fs, v = .obj C ks fs → ∃ x, ks = ([("row" : Str)] : List Str) ∧ fs = [x] ∧ ∃ h k, RowOk (sheetVals sh) x h k)
abbrev w_lid_holds (c : Cl) : W := wF (fun ds => ∃ sh v, ds = [sh, v] ∧ c.Lid ∈ c.cls ∧ HoldP c c.Lid sh v) (fun | [sh, v] => .bl (match fieldOf c.Lid v with | some x => lidD (sheetVals sh) x | none => false) | _ => .non)
theorem wm_lid_holds {c : Cl} : Wm (w_lid_holds c) := wm_F
def m_lid_holds (c : Cl) : WS := sSeq (sAsg (.nm 2) (dCall (w_square_told c) (dCons (dVar 0) (dNil))))
  (sRet (dAndV (dCB (oIsi1 c.cls) (dCons (dVar 1) (dCons (dC (.fn c.Lid)) (dNil)))) (dCall (w_is_lid c) (dCons (dVar 2) (dCons (dFld c.Lid (Str.ofString "row") (dVar 1)) (dNil))))))
theorem rd_lid_holds (c : Cl) : ∀ ds n Q Ex, ds.length = (["sheet", "value"] : List Str).length → w_lid_holds c ds n Q Ex → m_lid_holds c (startD ["sheet", "value", "rows"] ds) n (fnEnds Q fun _ _ => False) := by
  rintro ds n Q Ex - ⟨⟨sh, v, rfl, hC, hs, hq, hv, hx⟩, q⟩
  replace q : Q (.bl (match fieldOf c.Lid v with | some x => lidD (sheetVals sh) x | none => false)) n := q
  simp only [m_lid_holds, pVar, pIx, dLeaf, dLenO, gtSub, gtNm, gtTup, gtCons, gtNil, sAsgT, sSetF, sApp, fLc, fLeaf, fOp, fList, fLst, owE_ow, ndE_nd, put_nil, w_law_draw, wDraw, wSeq, wRng1, wRng2, wZip, dLc, asgK_nm, asgK_tp2, sFor, oAll_map, oAny_map, wipeD, oSl, List.length_cons, List.length_nil, sSeq, sAsg, sRet, sRetN, sIf, sNext, sPar, sDrop, sFrz, sAug, dOp, dVar, dC, dTup, dLst, dCons, dNil, dCall, dCB, dIx, dTest, dAnd, dOr, dNot, dAndV, dOrV, dNotV, dB, dIf, dNeg, dFld, dSelf, sSelf, dSl, dNoPart, dPart, dRevT, dDic1, dIsN, entD, asg, setAll, fnEnds, startD, startI, initEnds, slE, slI, fieldD, frzs, frz, List.map, List.length, List.replicate, List.getElem?_cons_zero, List.getElem?_cons_succ, List.set_cons_zero, List.set_cons_succ, List.cons_append, List.nil_append, wF, wR, oI_int, oI0_int, oPlus_int, oTimes_int, o1I, o2I, oInt, negE, revE, seq_tup, seq_lst, oIx, atI_0, atI_1, o1S, oEq_int, oEq_bl, if_true, if_false, Bool.not_true, Bool.not_false, isi_obj hv hC]
  refine ⟨⟨sh, rfl, hs, hq⟩, ?_⟩
  cases v with
  | obj C' ks fs =>
    by_cases hc : C' = c.Lid
    · subst hc
      obtain ⟨x, rfl, rfl, hr⟩ := hx ks fs rfl
      have hb : isObjB c.Lid (.obj c.Lid [("row" : Str)] [x]) = true := decide_eq_true rfl
      simp only [hb, pVar, pIx, dLeaf, dLenO, gtSub, gtNm, gtTup, gtCons, gtNil, sAsgT, sSetF, sApp, fLc, fLeaf, fOp, fList, fLst, owE_ow, ndE_nd, put_nil, w_law_draw, wDraw, wSeq, wRng1, wRng2, wZip, dLc, asgK_nm, asgK_tp2, sFor, oAll_map, oAny_map, wipeD, oSl, List.length_cons, List.length_nil, sSeq, sAsg, sRet, sRetN, sIf, sNext, sPar, sDrop, sFrz, sAug, dOp, dVar, dC, dTup, dLst, dCons, dNil, dCall, dCB, dIx, dTest, dAnd, dOr, dNot, dAndV, dOrV, dNotV, dB, dIf, dNeg, dFld, dSelf, sSelf, dSl, dNoPart, dPart, dRevT, dDic1, dIsN, entD, asg, setAll, fnEnds, startD, startI, initEnds, slE, slI, fieldD, frzs, frz, List.map, List.length, List.replicate, List.getElem?_cons_zero, List.getElem?_cons_succ, List.set_cons_zero, List.set_cons_succ, List.cons_append, List.nil_append, wF, wR, oI_int, oI0_int, oPlus_int, oTimes_int, o1I, o2I, oInt, negE, revE, seq_tup, seq_lst, oIx, atI_0, atI_1, o1S, oEq_int, oEq_bl, if_true, if_false, Bool.not_true, Bool.not_false]
      exact ⟨trivial, _, x, rfl, hv.2.1, hr, by simpa [fieldOf] using q⟩
    · have hb : isObjB c.Lid (.obj C' ks fs) = false := decide_eq_false hc
      simp only [hb, Bool.false_eq_true, if_false]
      have e : fieldOf c.Lid (.obj C' ks fs) = none := by
        unfold fieldOf
        split
        · rename_i h; cases h; rw [if_neg hc]
        · rfl
      rw [e] at q
      exact q
  | _ => exact q
end DL

set_option Elab.async false
set_option linter.all false
set_option maxRecDepth 100000
set_option maxHeartbeats 4000000
namespace DL
open PySem PySem.Spec PyProof.Rows L2

/-! ### floors, and the law's own judges -/
def zeroB : D → Bool := toldB fun i => decide (i = 0)
def floorQ (S : List (List Rat)) (r : List Rat) : Bool := !(((List.range S.length).map fun j => dotQ r (colQ (absS S) j)).zip r).any fun p => decide (p.1 < p.2)
def floorD (S : List (List Rat)) (d : D) : Bool := match d with
  | .tup ds => decide (ds.length = S.length) && ds.all nonB && !ds.all zeroB && (match toldsD ds with | some r => floorQ S r | none => false)
  | _ => false
abbrev w_floor_holds (c : Cl) : W := wF (fun ds => ∃ sh v, ds = [sh, v] ∧ c.Floor ∈ c.cls ∧ HoldP c c.Floor sh v) (fun | [sh, v] => .bl (match fieldOf c.Floor v with | some x => floorD (sheetVals sh) x | none => false) | _ => .non)
theorem wm_floor_holds {c : Cl} : Wm (w_floor_holds c) := wm_F
def m_floor_holds (c : Cl) : WS := sSeq (sAsg (.nm 2) (dCall (w_square_told c) (dCons (dVar 0) (dNil))))
  (sSeq (sAsg (.nm 3) (dIf (dTest (dCB (oIsi1 c.cls) (dCons (dVar 1) (dCons (dC (.fn c.Floor)) (dNil))))) (dFld c.Floor (Str.ofString "row") (dVar 1)) (dC .non)))
  (sSeq (sIf (dOr (dNot (dTest (dCB (oIsi1 c.cls) (dCons (dVar 3) (dCons (dC (.ty "tuple")) (dNil)))))) (dOr (dTest (dOp (oEq true) (dCB oLen (dCons (dVar 3) (dNil))) (dCB oLen (dCons (dVar 2) (dNil))))) (dNot (dTest (dCB oAll (dCons (dLc (.nm 4) (wSeq (dVar 3)) (dYes) (dAndV (dCall (w_is_told c) (dCons (dVar 4) (dNil))) (dOp oGe (dIx (dVar 4) (dC (.int 0))) (dC (.int 0)))) [4]) (dNil))))))) (sRet (dC (.bl false))) (sNext))
  (sSeq (sIf (dTest (dCB oAll (dCons (dLc (.nm 4) (wSeq (dVar 3)) (dYes) (dOp (oEq false) (dIx (dVar 4) (dC (.int 0))) (dC (.int 0))) [4]) (dNil)))) (sRet (dC (.bl false))) (sNext))
  (sRet (dNotV (dCB oAny (dCons (dLc (.tp [5, 6]) (wZip (dCons (dCall (w_row_raw c) (dCons (dVar 3) (dCons (dCall (w_sizes_raw c) (dCons (dVar 2) (dNil))) (dNil)))) (dCons (dVar 3) (dNil)))) (dYes) (dCall (w_rless c) (dCons (dVar 5) (dCons (dVar 6) (dNil)))) [5, 6]) (dNil))))))))
theorem rd_floor_holds (c : Cl) : ∀ ds n Q Ex, ds.length = (["sheet", "value"] : List Str).length → w_floor_holds c ds n Q Ex → m_floor_holds c (startD ["sheet", "value", "rows", "row", "item", "sum_there", "own"] ds) n (fnEnds Q fun _ _ => False) := by
  rintro ds n Q Ex - ⟨⟨sh, v, rfl, hC, hs, hq, hv, hx⟩, q⟩
  replace q : Q (.bl (match fieldOf c.Floor v with | some x => floorD (sheetVals sh) x | none => false)) n := q
  simp only [m_floor_holds, pVar, pIx, dLeaf, dLenO, gtSub, gtNm, gtTup, gtCons, gtNil, sAsgT, sSetF, sApp, fLc, fLeaf, fOp, fList, fLst, owE_ow, ndE_nd, put_nil, w_law_draw, wDraw, wSeq, wRng1, wRng2, wZip, dLc, asgK_nm, asgK_tp2, sFor, oAll_map, oAny_map, wipeD, oSl, List.length_cons, List.length_nil, sSeq, sAsg, sRet, sRetN, sIf, sNext, sPar, sDrop, sFrz, sAug, dOp, dVar, dC, dTup, dLst, dCons, dNil, dCall, dCB, dIx, dTest, dAnd, dOr, dNot, dAndV, dOrV, dNotV, dB, dIf, dNeg, dFld, dSelf, sSelf, dSl, dNoPart, dPart, dRevT, dDic1, dIsN, entD, asg, setAll, fnEnds, startD, startI, initEnds, slE, slI, fieldD, frzs, frz, List.map, List.length, List.replicate, List.getElem?_cons_zero, List.getElem?_cons_succ, List.set_cons_zero, List.set_cons_succ, List.cons_append, List.nil_append, wF, wR, oI_int, oI0_int, oPlus_int, oTimes_int, o1I, o2I, oInt, negE, revE, seq_tup, seq_lst, oIx, atI_0, atI_1, o1S, oEq_int, oEq_bl, if_true, if_false, Bool.not_true, Bool.not_false, isi_obj hv hC]
  refine ⟨⟨sh, rfl, hs, hq⟩, ?_⟩
  have gn : Gd c.cls .non := trivial
  have no : fieldOf c.Floor v = none → isObjB c.Floor v = false → Q (.bl false) n := fun e _ => by rw [e] at q; exact q
  cases hb : isObjB c.Floor v with
  | false =>
    have e : fieldOf c.Floor v = none := by
      unfold fieldOf
      split
      · rename_i h; rw [if_neg (of_decide_eq_false hb)]
      · rfl
    simp only [Bool.false_eq_true, if_false, isi_tuple gn, isTupB, pVar, pIx, dLeaf, dLenO, gtSub, gtNm, gtTup, gtCons, gtNil, sAsgT, sSetF, sApp, fLc, fLeaf, fOp, fList, fLst, owE_ow, ndE_nd, put_nil, w_law_draw, wDraw, wSeq, wRng1, wRng2, wZip, dLc, asgK_nm, asgK_tp2, sFor, oAll_map, oAny_map, wipeD, oSl, List.length_cons, List.length_nil, sSeq, sAsg, sRet, sRetN, sIf, sNext, sPar, sDrop, sFrz, sAug, dOp, dVar, dC, dTup, dLst, dCons, dNil, dCall, dCB, dIx, dTest, dAnd, dOr, dNot, dAndV, dOrV, dNotV, dB, dIf, dNeg, dFld, dSelf, sSelf, dSl, dNoPart, dPart, dRevT, dDic1, dIsN, entD, asg, setAll, fnEnds, startD, startI, initEnds, slE, slI, fieldD, frzs, frz, List.map, List.length, List.replicate, List.getElem?_cons_zero, List.getElem?_cons_succ, List.set_cons_zero, List.set_cons_succ, List.cons_append, List.nil_append, wF, wR, oI_int, oI0_int, oPlus_int, oTimes_int, o1I, o2I, oInt, negE, revE, seq_tup, seq_lst, oIx, atI_0, atI_1, o1S, oEq_int, oEq_bl, if_true, if_false, Bool.not_true, Bool.not_false]
    exact no e hb
  | true =>
    cases v with
    | obj C' ks fs =>
      have hc : C' = c.Floor := of_decide_eq_true hb
      subst hc
      obtain ⟨d, rfl, rfl, h, k, P⟩ := hx ks fs rfl
      have hd : Gd c.cls d := hv.2.1
      replace q : Q (.bl (floorD (sheetVals sh) d)) n := by simpa [fieldOf] using q
      generalize sheetVals sh = S at q P
      simp only [pVar, pIx, dLeaf, dLenO, gtSub, gtNm, gtTup, gtCons, gtNil, sAsgT, sSetF, sApp, fLc, fLeaf, fOp, fList, fLst, owE_ow, ndE_nd, put_nil, w_law_draw, wDraw, wSeq, wRng1, wRng2, wZip, dLc, asgK_nm, asgK_tp2, sFor, oAll_map, oAny_map, wipeD, oSl, List.length_cons, List.length_nil, sSeq, sAsg, sRet, sRetN, sIf, sNext, sPar, sDrop, sFrz, sAug, dOp, dVar, dC, dTup, dLst, dCons, dNil, dCall, dCB, dIx, dTest, dAnd, dOr, dNot, dAndV, dOrV, dNotV, dB, dIf, dNeg, dFld, dSelf, sSelf, dSl, dNoPart, dPart, dRevT, dDic1, dIsN, entD, asg, setAll, fnEnds, startD, startI, initEnds, slE, slI, fieldD, frzs, frz, List.map, List.length, List.replicate, List.getElem?_cons_zero, List.getElem?_cons_succ, List.set_cons_zero, List.set_cons_succ, List.cons_append, List.nil_append, wF, wR, oI_int, oI0_int, oPlus_int, oTimes_int, o1I, o2I, oInt, negE, revE, seq_tup, seq_lst, oIx, atI_0, atI_1, o1S, oEq_int, oEq_bl, if_true, if_false, Bool.not_true, Bool.not_false, isi_tuple hd]
      refine ⟨trivial, ?_⟩
      cases d with
      | tup ds =>
        have g := gds_iff.mp (show Gds c.cls ds from hd)
        replace q : Q (.bl (decide (ds.length = S.length) && ds.all nonB && !ds.all zeroB && (match toldsD ds with | some r => floorQ S r | none => false))) n := q
        simp only [matD, isTupB, seq_tup, Bool.not_true, Bool.false_eq_true, if_false, lenS]
        cases hl : decide (ds.length = S.length) with
        | false => rw [hl] at q; simpa using q
        | true =>
          rw [hl] at q
          have hl := of_decide_eq_true hl
          refine ⟨rfl, lcD_map (fun x => .bl (nonB x)) (fun x hx Q' q' => ?_) ?_⟩
          · rw [asgK_nm]
            refine ⟨⟨x, rfl, g x hx⟩, ?_⟩
            unfold nonB toldB at q'
            cases e : toldD x with
            | none =>
              rw [e] at q'
              simp only [e, Option.isSome_none, Bool.false_eq_true, if_false]
              exact q'
            | some y =>
              rw [e] at q'
              have e2 := toldD_rat e
              subst e2
              have e' := e
              simp only [rat] at e'
              simp only [rat, e', pVar, pIx, dLeaf, dLenO, gtSub, gtNm, gtTup, gtCons, gtNil, sAsgT, sSetF, sApp, fLc, fLeaf, fOp, fList, fLst, owE_ow, ndE_nd, put_nil, w_law_draw, wDraw, wSeq, wRng1, wRng2, wZip, dLc, asgK_nm, asgK_tp2, sFor, oAll_map, oAny_map, wipeD, oSl, List.length_cons, List.length_nil, sSeq, sAsg, sRet, sRetN, sIf, sNext, sPar, sDrop, sFrz, sAug, dOp, dVar, dC, dTup, dLst, dCons, dNil, dCall, dCB, dIx, dTest, dAnd, dOr, dNot, dAndV, dOrV, dNotV, dB, dIf, dNeg, dFld, dSelf, sSelf, dSl, dNoPart, dPart, dRevT, dDic1, dIsN, entD, asg, setAll, fnEnds, startD, startI, initEnds, slE, slI, fieldD, frzs, frz, List.map, List.length, List.replicate, List.getElem?_cons_zero, List.getElem?_cons_succ, List.set_cons_zero, List.set_cons_succ, List.cons_append, List.nil_append, wF, wR, oI_int, oI0_int, oPlus_int, oTimes_int, o1I, o2I, oInt, negE, revE, seq_tup, seq_lst, oIx, atI_0, atI_1, o1S, oEq_int, oEq_bl, if_true, if_false, Bool.not_true, Bool.not_false, Option.isSome_some]
              exact q'
          · rw [oAll_map]
            cases hp : ds.all nonB with
            | false => rw [hp] at q; exact q
            | true =>
              rw [hp] at q
              have hp' := hp
              unfold nonB at hp'
              rw [all_toldB] at hp'
              cases hr : toldsD ds with
              | none => rw [hr] at hp'; cases hp'
              | some r =>
                rw [hr] at q
                have er := toldsD_eq hr
                have hrow := P.row r (tup_row hr)
                have hlr : r.length = S.length := by rw [← hl, er, ratsD_len]
                refine ⟨rfl, ?_⟩
                refine lcD_map (fun x => .bl (zeroB x)) (fun x hx Q' q' => ?_) ?_
                · rw [asgK_nm]
                  rw [er] at hx
                  obtain ⟨y, hy, rfl⟩ := List.mem_map.mp hx
                  unfold zeroB toldB at q'
                  rw [toldD_of] at q'
                  simp only [rat, pVar, pIx, dLeaf, dLenO, gtSub, gtNm, gtTup, gtCons, gtNil, sAsgT, sSetF, sApp, fLc, fLeaf, fOp, fList, fLst, owE_ow, ndE_nd, put_nil, w_law_draw, wDraw, wSeq, wRng1, wRng2, wZip, dLc, asgK_nm, asgK_tp2, sFor, oAll_map, oAny_map, wipeD, oSl, List.length_cons, List.length_nil, sSeq, sAsg, sRet, sRetN, sIf, sNext, sPar, sDrop, sFrz, sAug, dOp, dVar, dC, dTup, dLst, dCons, dNil, dCall, dCB, dIx, dTest, dAnd, dOr, dNot, dAndV, dOrV, dNotV, dB, dIf, dNeg, dFld, dSelf, sSelf, dSl, dNoPart, dPart, dRevT, dDic1, dIsN, entD, asg, setAll, fnEnds, startD, startI, initEnds, slE, slI, fieldD, frzs, frz, List.map, List.length, List.replicate, List.getElem?_cons_zero, List.getElem?_cons_succ, List.set_cons_zero, List.set_cons_succ, List.cons_append, List.nil_append, wF, wR, oI_int, oI0_int, oPlus_int, oTimes_int, o1I, o2I, oInt, negE, revE, seq_tup, seq_lst, oIx, atI_0, atI_1, o1S, oEq_int, oEq_bl, if_true, if_false, Bool.not_true, Bool.not_false]
                  exact q'
                · rw [oAll_map]
                  cases hz : ds.all zeroB with
                  | true => rw [hz] at q; exact q
                  | false =>
                    rw [hz] at q
                    replace q : Q (.bl (floorQ S r)) n := by simpa using q
                    have hne : absS S ≠ [] := by
                      intro e
                      exact P.ne (List.map_eq_nil_iff.mp e)
                    have hm : ∀ s ∈ absS S, s.length = S.length := fun s hs => by
                      obtain ⟨s', hs', rfl⟩ := List.mem_map.mp hs
                      rw [List.length_map, P.sq s' hs']
                    have sm : (k + h + 1) * (r.length + 1) ≤ 8990 := by rw [hlr]; have := P.sm; rw [Nat.add_comm k h]; exact this
                    refine ⟨rfl, S, rfl, absS S, r, S.length, by rw [er]; rfl, hne, hm, P.few, ⟨h, k, szS_abs P.s, hrow, sm⟩, ?_⟩
                    simp only [rowD, seq_tup, er]
                    rw [zip_rats]
                    refine lcD_mapA (fun p : Rat × Rat => D.tup [rat p.1, rat p.2]) (fun p => .bl (decide (p.1 < p.2))) (fun p hp Q' q' => ?_) ?_
                    · rw [asgK_tp2]
                      have m1 := (List.of_mem_zip hp).1
                      have m2 := (List.of_mem_zip hp).2
                      obtain ⟨j, hj, e⟩ := List.mem_map.mp m1
                      have e : dotQ r (colQ (absS S) j) = p.1 := e
                      have z1 := sz_dot hrow (sz_col (szS_abs P.s) hm (List.mem_range.mp hj))
                      rw [e] at z1
                      refine ⟨p.1, p.2, rfl, ⟨_, k, z1, hrow _ m2, ?_⟩, q'⟩
                      have hh : (k + h + 1) * r.length ≤ (k + h + 1) * (r.length + 1) := Nat.mul_le_mul_left _ (by omega)
                      have hk : k ≤ (k + h + 1) * (r.length + 1) := by rw [Nat.mul_add]; omega
                      omega
                    · rw [oAny_mapA]
                      exact q
      | _ => exact q
    | _ => cases hb
abbrev w_law_is_int (c : Cl) : W := w_is_whole c
theorem wm_law_is_int {c : Cl} : Wm (w_law_is_int c) := wm_F
def m_law_is_int (c : Cl) : WS := sRet (dAndV (dCB (oIsi1 c.cls) (dCons (dVar 0) (dCons (dC (.ty "int")) (dNil)))) (dNotV (dCB (oIsi1 c.cls) (dCons (dVar 0) (dCons (dC (.ty "bool")) (dNil))))))
theorem rd_law_is_int (c : Cl) : ∀ ds n Q Ex, ds.length = (["thing"] : List Str).length → w_law_is_int c ds n Q Ex → m_law_is_int c (startD ["thing"] ds) n (fnEnds Q fun _ _ => False) := by
  intro ds n Q Ex h w
  exact rd_is_whole c ds n Q Ex h w
abbrev w_law_is_pair (c : Cl) : W := w_is_told c
theorem wm_law_is_pair {c : Cl} : Wm (w_law_is_pair c) := wm_F
def m_law_is_pair (c : Cl) : WS := sSeq (sIf (dOr (dNot (dTest (dCB (oIsi1 c.cls) (dCons (dVar 0) (dCons (dC (.ty "tuple")) (dNil)))))) (dTest (dOp (oEq true) (dCB oLen (dCons (dVar 0) (dNil))) (dC (.int 2))))) (sRet (dC (.bl false))) (sNext))
  (sSeq (sIf (dOr (dNot (dTest (dCall (w_law_is_int c) (dCons (dIx (dVar 0) (dC (.int 0))) (dNil))))) (dNot (dTest (dCall (w_law_is_int c) (dCons (dIx (dVar 0) (dC (.int 1))) (dNil)))))) (sRet (dC (.bl false))) (sNext))
  (sRet (dAndV (dOp oGe (dIx (dVar 0) (dC (.int 1))) (dC (.int 1))) (dOp (oEq false) (dCall (w_law_gcd c) (dCons (dIx (dVar 0) (dC (.int 0))) (dCons (dIx (dVar 0) (dC (.int 1))) (dNil)))) (dC (.int 1))))))
theorem rd_law_is_pair (c : Cl) : ∀ ds n Q Ex, ds.length = (["thing"] : List Str).length → w_law_is_pair c ds n Q Ex → m_law_is_pair c (startD ["thing"] ds) n (fnEnds Q fun _ _ => False) := by
  rintro ds n Q Ex - ⟨⟨d, rfl, hd⟩, q⟩
  replace q : Q (.bl (toldD d).isSome) n := q
  simp only [m_law_is_pair, pVar, pIx, dLeaf, dLenO, gtSub, gtNm, gtTup, gtCons, gtNil, sAsgT, sSetF, sApp, fLc, fLeaf, fOp, fList, fLst, owE_ow, ndE_nd, put_nil, w_law_draw, wDraw, wSeq, wRng1, wRng2, wZip, dLc, asgK_nm, asgK_tp2, sFor, oAll_map, oAny_map, wipeD, oSl, List.length_cons, List.length_nil, sSeq, sAsg, sRet, sRetN, sIf, sNext, sPar, sDrop, sFrz, sAug, dOp, dVar, dC, dTup, dLst, dCons, dNil, dCall, dCB, dIx, dTest, dAnd, dOr, dNot, dAndV, dOrV, dNotV, dB, dIf, dNeg, dFld, dSelf, sSelf, dSl, dNoPart, dPart, dRevT, dDic1, dIsN, entD, asg, setAll, fnEnds, startD, startI, initEnds, slE, slI, fieldD, frzs, frz, List.map, List.length, List.replicate, List.getElem?_cons_zero, List.getElem?_cons_succ, List.set_cons_zero, List.set_cons_succ, List.cons_append, List.nil_append, wF, wR, oI_int, oI0_int, oPlus_int, oTimes_int, o1I, o2I, oInt, negE, revE, seq_tup, seq_lst, oIx, atI_0, atI_1, o1S, oEq_int, oEq_bl, if_true, if_false, Bool.not_true, Bool.not_false, isi_tuple hd]
  cases d with
  | tup ds =>
    have g := gds_iff.mp (show Gds c.cls ds from hd)
    rcases ds with _ | ⟨a, _ | ⟨b, _ | ⟨e, ds⟩⟩⟩
    · simpa [toldD, isTupB, seq_tup] using q
    · simpa [toldD, isTupB, seq_tup] using q
    · have ga := g a (by simp)
      have gb := g b (by simp)
      simp [isTupB, seq_tup, atI_0, atI_1, ga, gb] at q ⊢
      cases a <;> cases b <;> try (simpa [toldD, isWholeD] using q)
      rename_i i j
      simp only [isWholeD, pVar, pIx, dLeaf, dLenO, gtSub, gtNm, gtTup, gtCons, gtNil, sAsgT, sSetF, sApp, fLc, fLeaf, fOp, fList, fLst, owE_ow, ndE_nd, put_nil, w_law_draw, wDraw, wSeq, wRng1, wRng2, wZip, dLc, asgK_nm, asgK_tp2, sFor, oAll_map, oAny_map, wipeD, oSl, List.length_cons, List.length_nil, sSeq, sAsg, sRet, sRetN, sIf, sNext, sPar, sDrop, sFrz, sAug, dOp, dVar, dC, dTup, dLst, dCons, dNil, dCall, dCB, dIx, dTest, dAnd, dOr, dNot, dAndV, dOrV, dNotV, dB, dIf, dNeg, dFld, dSelf, sSelf, dSl, dNoPart, dPart, dRevT, dDic1, dIsN, entD, asg, setAll, fnEnds, startD, startI, initEnds, slE, slI, fieldD, frzs, frz, List.map, List.length, List.replicate, List.getElem?_cons_zero, List.getElem?_cons_succ, List.set_cons_zero, List.set_cons_succ, List.cons_append, List.nil_append, wF, wR, oI_int, oI0_int, oPlus_int, oTimes_int, o1I, o2I, oInt, negE, revE, seq_tup, seq_lst, oIx, atI_0, atI_1, o1S, oEq_int, oEq_bl, if_true, if_false, Bool.not_true, Bool.not_false]
      by_cases h : 1 ≤ j
      · by_cases h2 : Nat.gcd i.natAbs j.natAbs = 1
        · simpa [toldD, h, h2] using q
        · have h3 : ¬ ((Nat.gcd i.natAbs j.natAbs : Int) = 1) := by omega
          simpa [toldD, h, h2, h3] using q
      · simpa [toldD, h] using q
    · have h : ((ds.length : Int) + 1 + 1 + 1 = 2) = False := by simp; omega
      simpa [toldD, isTupB, seq_tup, h] using q
  | _ => exact q
def toldRowB (d : D) (m : Int) : Bool := match d with
  | .tup ds => decide ((ds.length : Int) = m) && ds.all fun x => (toldD x).isSome
  | _ => false
abbrev w_law_is_told_row (c : Cl) : W := wF (fun ds => ∃ d m, ds = [d, .int m] ∧ Gd c.cls d) (fun | [d, .int m] => .bl (toldRowB d m) | _ => .non)
theorem wm_law_is_told_row {c : Cl} : Wm (w_law_is_told_row c) := wm_F
def m_law_is_told_row (c : Cl) : WS := sRet (dAndV (dCB (oIsi1 c.cls) (dCons (dVar 0) (dCons (dC (.ty "tuple")) (dNil)))) (dAndV (dOp (oEq false) (dCB oLen (dCons (dVar 0) (dNil))) (dVar 1)) (dCB oAll (dCons (dLc (.nm 2) (wSeq (dVar 0)) (dYes) (dCall (w_law_is_pair c) (dCons (dVar 2) (dNil))) [2]) (dNil)))))
theorem rd_law_is_told_row (c : Cl) : ∀ ds n Q Ex, ds.length = (["thing", "many"] : List Str).length → w_law_is_told_row c ds n Q Ex → m_law_is_told_row c (startD ["thing", "many", "item"] ds) n (fnEnds Q fun _ _ => False) := by
  rintro ds n Q Ex - ⟨⟨d, m, rfl, hd⟩, q⟩
  replace q : Q (.bl (toldRowB d m)) n := q
  simp only [m_law_is_told_row, pVar, pIx, dLeaf, dLenO, gtSub, gtNm, gtTup, gtCons, gtNil, sAsgT, sSetF, sApp, fLc, fLeaf, fOp, fList, fLst, owE_ow, ndE_nd, put_nil, w_law_draw, wDraw, wSeq, wRng1, wRng2, wZip, dLc, asgK_nm, asgK_tp2, sFor, oAll_map, oAny_map, wipeD, oSl, List.length_cons, List.length_nil, sSeq, sAsg, sRet, sRetN, sIf, sNext, sPar, sDrop, sFrz, sAug, dOp, dVar, dC, dTup, dLst, dCons, dNil, dCall, dCB, dIx, dTest, dAnd, dOr, dNot, dAndV, dOrV, dNotV, dB, dIf, dNeg, dFld, dSelf, sSelf, dSl, dNoPart, dPart, dRevT, dDic1, dIsN, entD, asg, setAll, fnEnds, startD, startI, initEnds, slE, slI, fieldD, frzs, frz, List.map, List.length, List.replicate, List.getElem?_cons_zero, List.getElem?_cons_succ, List.set_cons_zero, List.set_cons_succ, List.cons_append, List.nil_append, wF, wR, oI_int, oI0_int, oPlus_int, oTimes_int, o1I, o2I, oInt, negE, revE, seq_tup, seq_lst, oIx, atI_0, atI_1, o1S, oEq_int, oEq_bl, if_true, if_false, Bool.not_true, Bool.not_false, isi_tuple hd]
  cases d with
  | tup ds =>
    have g := gds_iff.mp (show Gds c.cls ds from hd)
    simp only [isTupB, seq_tup, if_true]
    refine ite_and (P := fun d => Q d n) q fun h q => ?_
    refine ⟨rfl, lcD_map (fun x => .bl (toldD x).isSome) (fun x hx Q' q' => ?_) ?_⟩
    · rw [asgK_nm]
      exact ⟨⟨x, rfl, g x hx⟩, q'⟩
    · rw [oAll_map]; exact q
  | _ => exact q
theorem told_row_some {ds : List D} : (ds.all fun x => (toldD x).isSome) = (toldsD ds).isSome := by
  rw [Bool.eq_iff_iff, List.all_eq_true]
  exact toldsD_some
end DL

set_option Elab.async false
set_option linter.all false
set_option maxRecDepth 100000
set_option maxHeartbeats 4000000
namespace DL
open PySem PySem.Spec PyProof.Rows L2

theorem all_rats {p : Int → Bool} {r : List Rat} : (ratsD r).all (toldB p) = r.all fun q => p q.num := by
  rw [all_toldB, toldsD_rats]
abbrev w_law_lid_right (c : Cl) : W := w_is_lid c
theorem wm_law_lid_right {c : Cl} : Wm (w_law_lid_right c) := wm_is_lid (c := c)
def m_law_lid_right (c : Cl) : WS := sSeq (sIf (dOr (dNot (dTest (dCall (w_law_is_told_row c) (dCons (dVar 1) (dCons (dCB oLen (dCons (dVar 0) (dNil))) (dNil)))))) (dTest (dCB oAny (dCons (dLc (.nm 2) (wSeq (dVar 1)) (dYes) (dOp oLe (dIx (dVar 2) (dC (.int 0))) (dC (.int 0))) [2]) (dNil))))) (sRet (dC (.bl false))) (sNext))
  (sRet (dCB oAll (dCons (dLc (.tp [3, 4]) (wZip (dCons (dCall (w_law_sizes c) (dCons (dVar 0) (dNil))) (dCons (dVar 1) (dNil)))) (dYes) (dCall (w_law_less c) (dCons (dCall (w_law_dot c) (dCons (dVar 3) (dCons (dVar 1) (dNil)))) (dCons (dVar 4) (dNil)))) [3, 4]) (dNil))))
theorem rd_law_lid_right (c : Cl) : ∀ ds n Q Ex, ds.length = (["sheet", "row"] : List Str).length → w_law_lid_right c ds n Q Ex → m_law_lid_right c (startD ["sheet", "row", "item", "line", "own"] ds) n (fnEnds Q fun _ _ => False) := by
  rintro ds n Q Ex - ⟨S, d, rfl, hd, ⟨h, k, P⟩, q⟩
  simp only [m_law_lid_right, matD, pVar, pIx, dLeaf, dLenO, gtSub, gtNm, gtTup, gtCons, gtNil, sAsgT, sSetF, sApp, fLc, fLeaf, fOp, fList, fLst, owE_ow, ndE_nd, put_nil, w_law_draw, wDraw, wSeq, wRng1, wRng2, wZip, dLc, asgK_nm, asgK_tp2, sFor, oAll_map, oAny_map, wipeD, oSl, List.length_cons, List.length_nil, sSeq, sAsg, sRet, sRetN, sIf, sNext, sPar, sDrop, sFrz, sAug, dOp, dVar, dC, dTup, dLst, dCons, dNil, dCall, dCB, dIx, dTest, dAnd, dOr, dNot, dAndV, dOrV, dNotV, dB, dIf, dNeg, dFld, dSelf, sSelf, dSl, dNoPart, dPart, dRevT, dDic1, dIsN, entD, asg, setAll, fnEnds, startD, startI, initEnds, slE, slI, fieldD, frzs, frz, List.map, List.length, List.replicate, List.getElem?_cons_zero, List.getElem?_cons_succ, List.set_cons_zero, List.set_cons_succ, List.cons_append, List.nil_append, wF, wR, oI_int, oI0_int, oPlus_int, oTimes_int, o1I, o2I, oInt, negE, revE, seq_tup, seq_lst, oIx, atI_0, atI_1, o1S, oEq_int, oEq_bl, if_true, if_false, Bool.not_true, Bool.not_false, List.length_map]
  refine ⟨⟨d, _, rfl, hd⟩, ?_⟩
  cases hT : toldRowB d (S.length : Int) with
  | false =>
    have e : lidD S d = false := by
      cases d with
      | tup ds =>
        unfold toldRowB at hT
        show (decide (ds.length = S.length) && ds.all posB && (match toldsD ds with | some r => lidQ S r | none => false)) = false
        have e1 : decide (ds.length = S.length) = decide ((ds.length : Int) = (S.length : Int)) := decide_eq_decide.mpr (by omega)
        rw [e1]
        cases h1 : decide ((ds.length : Int) = (S.length : Int)) with
        | false => rfl
        | true =>
          simp only [h1, told_row_some, Bool.true_and] at hT
          cases h2 : toldsD ds with
          | none => simp
          | some r => rw [h2] at hT; cases hT
      | _ => rfl
    rw [e] at q
    exact q
  | true =>
    cases d with
    | tup ds =>
      unfold toldRowB at hT
      simp only [Bool.and_eq_true, told_row_some] at hT
      obtain ⟨r, hr⟩ := Option.isSome_iff_exists.mp hT.2
      have er := toldsD_eq hr
      subst er
      have hrow := P.row r rfl
      have hlr : r.length = S.length := by have := of_decide_eq_true hT.1; rw [ratsD_len] at this; omega
      replace q : Q (.bl ((ratsD r).all posB && lidQ S r)) n := by
        have e : lidD S (.tup (ratsD r)) = ((ratsD r).all posB && lidQ S r) := by
          show (decide ((ratsD r).length = S.length) && (ratsD r).all posB && (match toldsD (ratsD r) with | some r => lidQ S r | none => false)) = _
          rw [toldsD_rats, ratsD_len, decide_eq_true hlr, Bool.true_and]
        rw [e] at q; exact q
      simp only [Bool.not_true, Bool.false_eq_true, if_false, seq_tup, ratsD]
      refine ⟨rfl, lcD_mapA rat (fun x => .bl (decide (x.num ≤ 0))) (fun x hx Q' q' => ?_) ?_⟩
      · rw [asgK_nm]
        simp only [rat, pVar, pIx, dLeaf, dLenO, gtSub, gtNm, gtTup, gtCons, gtNil, sAsgT, sSetF, sApp, fLc, fLeaf, fOp, fList, fLst, owE_ow, ndE_nd, put_nil, w_law_draw, wDraw, wSeq, wRng1, wRng2, wZip, dLc, asgK_nm, asgK_tp2, sFor, oAll_map, oAny_map, wipeD, oSl, List.length_cons, List.length_nil, sSeq, sAsg, sRet, sRetN, sIf, sNext, sPar, sDrop, sFrz, sAug, dOp, dVar, dC, dTup, dLst, dCons, dNil, dCall, dCB, dIx, dTest, dAnd, dOr, dNot, dAndV, dOrV, dNotV, dB, dIf, dNeg, dFld, dSelf, sSelf, dSl, dNoPart, dPart, dRevT, dDic1, dIsN, entD, asg, setAll, fnEnds, startD, startI, initEnds, slE, slI, fieldD, frzs, frz, List.map, List.length, List.replicate, List.getElem?_cons_zero, List.getElem?_cons_succ, List.set_cons_zero, List.set_cons_succ, List.cons_append, List.nil_append, wF, wR, oI_int, oI0_int, oPlus_int, oTimes_int, o1I, o2I, oInt, negE, revE, seq_tup, seq_lst, oIx, atI_0, atI_1, o1S, oEq_int, oEq_bl, if_true, if_false, Bool.not_true, Bool.not_false]
        exact q'
      · rw [oAny_mapA]
        have ep : (ratsD r).all posB = !(r.any fun x => decide (x.num ≤ 0)) := by
          unfold posB
          rw [all_rats, List.not_any_eq_all_not]
          congr 1
          funext x
          by_cases hx : 0 < x.num
          · rw [decide_eq_true hx, decide_eq_false (by omega)]; rfl
          · rw [decide_eq_false hx, decide_eq_true (by omega)]; rfl
        rw [ep] at q
        cases ha : r.any fun x => decide (x.num ≤ 0) with
        | true => rw [ha] at q; exact q
        | false =>
          rw [ha] at q
          replace q : Q (.bl (lidQ S r)) n := by simpa using q
          have sm : ∀ s ∈ absS S, (h + k + 1) * (s.length + 1) ≤ 8990 := fun s hs => by
            obtain ⟨s', hs', rfl⟩ := List.mem_map.mp hs
            rw [List.length_map, P.sq s' hs']; exact P.sm
          refine ⟨rfl, S, rfl, ?_⟩
          simp only [matD, seq_tup]
          rw [show r.map rat = ratsD r from rfl, zipD_eq]
          unfold ratsD
          rw [List.zip_map, List.map_map]
          refine lcD_mapA ((fun p : D × D => D.tup [p.1, p.2]) ∘ Prod.map rowD rat) (fun p : List Rat × Rat => .bl (decide (dotQ p.1 r < p.2))) (fun p hp Q' q' => ?_) ?_
          · have m1 := (List.of_mem_zip hp).1
            have m2 := (List.of_mem_zip hp).2
            show asgK (.tp [3, 4]) (.tup [rowD p.1, rat p.2]) _ _
            rw [asgK_tp2]
            have z1 := sz_dot (szS_abs P.s p.1 m1) hrow
            have := sm p.1 m1
            refine ⟨rowD p.1, .tup (ratsD r), p.1, r, rfl, ⟨h, k, rfl, rfl, szS_abs P.s p.1 m1, hrow, this⟩, dotQ p.1 r, p.2, rfl, ⟨_, k, z1, hrow _ m2, ?_⟩, q'⟩
            have hh : (h + k + 1) * p.1.length ≤ (h + k + 1) * (p.1.length + 1) := Nat.mul_le_mul_left _ (by omega)
            have hk : k ≤ (h + k + 1) * (p.1.length + 1) := by rw [Nat.mul_add]; omega
            omega
          · rw [oAll_mapA]
            exact q
    | _ => cases hT
abbrev w_law_floor_right (c : Cl) : W := fun ds n Q _ => ∃ S d, ds = [matD S, d] ∧ Gd c.cls d ∧ (∃ h k, RowOk S d h k) ∧ Q (.bl (floorD S d)) n
theorem wm_law_floor_right {c : Cl} : Wm (w_law_floor_right c) := ⟨fun ds n Q Q' E E' hq he ⟨S, d, e, h1, h2, z⟩ => ⟨S, d, e, h1, h2, hq _ _ z⟩⟩
def m_law_floor_right (c : Cl) : WS := sSeq (sIf (dOr (dNot (dTest (dCall (w_law_is_told_row c) (dCons (dVar 1) (dCons (dCB oLen (dCons (dVar 0) (dNil))) (dNil)))))) (dOr (dTest (dCB oAny (dCons (dLc (.nm 3) (wSeq (dVar 1)) (dYes) (dOp oLt (dIx (dVar 3) (dC (.int 0))) (dC (.int 0))) [3]) (dNil)))) (dTest (dCB oAll (dCons (dLc (.nm 3) (wSeq (dVar 1)) (dYes) (dOp (oEq false) (dIx (dVar 3) (dC (.int 0))) (dC (.int 0))) [3]) (dNil)))))) (sRet (dC (.bl false))) (sNext))
  (sSeq (sAsg (.nm 2) (dCall (w_law_sizes c) (dCons (dVar 0) (dNil))))
  (sRet (dNotV (dCB oAny (dCons (dLc (.nm 4) (wRng1 (dCons (dCB oLen (dCons (dVar 1) (dNil))) (dNil))) (dYes) (dCall (w_law_less c) (dCons (dCall (w_law_dot c) (dCons (dVar 1) (dCons (dLc (.nm 5) (wSeq (dVar 2)) (dYes) (dIx (dVar 5) (dVar 4)) [5]) (dNil)))) (dCons (dIx (dVar 1) (dVar 4)) (dNil)))) [4]) (dNil))))))
theorem rd_law_floor_right (c : Cl) : ∀ ds n Q Ex, ds.length = (["sheet", "row"] : List Str).length → w_law_floor_right c ds n Q Ex → m_law_floor_right c (startD ["sheet", "row", "wide", "item", "j", "line"] ds) n (fnEnds Q fun _ _ => False) := by
  rintro ds n Q Ex - ⟨S, d, rfl, hd, ⟨h, k, P⟩, q⟩
  simp only [m_law_floor_right, matD, pVar, pIx, dLeaf, dLenO, gtSub, gtNm, gtTup, gtCons, gtNil, sAsgT, sSetF, sApp, fLc, fLeaf, fOp, fList, fLst, owE_ow, ndE_nd, put_nil, w_law_draw, wDraw, wSeq, wRng1, wRng2, wZip, dLc, asgK_nm, asgK_tp2, sFor, oAll_map, oAny_map, wipeD, oSl, List.length_cons, List.length_nil, sSeq, sAsg, sRet, sRetN, sIf, sNext, sPar, sDrop, sFrz, sAug, dOp, dVar, dC, dTup, dLst, dCons, dNil, dCall, dCB, dIx, dTest, dAnd, dOr, dNot, dAndV, dOrV, dNotV, dB, dIf, dNeg, dFld, dSelf, sSelf, dSl, dNoPart, dPart, dRevT, dDic1, dIsN, entD, asg, setAll, fnEnds, startD, startI, initEnds, slE, slI, fieldD, frzs, frz, List.map, List.length, List.replicate, List.getElem?_cons_zero, List.getElem?_cons_succ, List.set_cons_zero, List.set_cons_succ, List.cons_append, List.nil_append, wF, wR, oI_int, oI0_int, oPlus_int, oTimes_int, o1I, o2I, oInt, negE, revE, seq_tup, seq_lst, oIx, atI_0, atI_1, o1S, oEq_int, oEq_bl, if_true, if_false, Bool.not_true, Bool.not_false, List.length_map]
  refine ⟨⟨d, _, rfl, hd⟩, ?_⟩
  cases hT : toldRowB d (S.length : Int) with
  | false =>
    have e : floorD S d = false := by
      cases d with
      | tup ds =>
        unfold toldRowB at hT
        show (decide (ds.length = S.length) && ds.all nonB && !ds.all zeroB && (match toldsD ds with | some r => floorQ S r | none => false)) = false
        have e1 : decide (ds.length = S.length) = decide ((ds.length : Int) = (S.length : Int)) := decide_eq_decide.mpr (by omega)
        rw [e1]
        cases h1 : decide ((ds.length : Int) = (S.length : Int)) with
        | false => rfl
        | true =>
          simp only [h1, told_row_some, Bool.true_and] at hT
          cases h2 : toldsD ds with
          | none => simp
          | some r => rw [h2] at hT; cases hT
      | _ => rfl
    rw [e] at q
    exact q
  | true =>
    cases d with
    | tup ds =>
      unfold toldRowB at hT
      simp only [Bool.and_eq_true, told_row_some] at hT
      obtain ⟨r, hr⟩ := Option.isSome_iff_exists.mp hT.2
      have er := toldsD_eq hr
      subst er
      have hrow := P.row r rfl
      have hlr : r.length = S.length := by have := of_decide_eq_true hT.1; rw [ratsD_len] at this; omega
      replace q : Q (.bl ((ratsD r).all nonB && !(ratsD r).all zeroB && floorQ S r)) n := by
        have e : floorD S (.tup (ratsD r)) = ((ratsD r).all nonB && !(ratsD r).all zeroB && floorQ S r) := by
          show (decide ((ratsD r).length = S.length) && (ratsD r).all nonB && !(ratsD r).all zeroB && (match toldsD (ratsD r) with | some r => floorQ S r | none => false)) = _
          rw [toldsD_rats, ratsD_len, decide_eq_true hlr, Bool.true_and]
        rw [e] at q; exact q
      simp only [Bool.not_true, Bool.false_eq_true, if_false, seq_tup, ratsD]
      refine ⟨rfl, lcD_mapA rat (fun x => .bl (decide (x.num < 0))) (fun x hx Q' q' => ?_) ?_⟩
      · rw [asgK_nm]
        simp only [rat, pVar, pIx, dLeaf, dLenO, gtSub, gtNm, gtTup, gtCons, gtNil, sAsgT, sSetF, sApp, fLc, fLeaf, fOp, fList, fLst, owE_ow, ndE_nd, put_nil, w_law_draw, wDraw, wSeq, wRng1, wRng2, wZip, dLc, asgK_nm, asgK_tp2, sFor, oAll_map, oAny_map, wipeD, oSl, List.length_cons, List.length_nil, sSeq, sAsg, sRet, sRetN, sIf, sNext, sPar, sDrop, sFrz, sAug, dOp, dVar, dC, dTup, dLst, dCons, dNil, dCall, dCB, dIx, dTest, dAnd, dOr, dNot, dAndV, dOrV, dNotV, dB, dIf, dNeg, dFld, dSelf, sSelf, dSl, dNoPart, dPart, dRevT, dDic1, dIsN, entD, asg, setAll, fnEnds, startD, startI, initEnds, slE, slI, fieldD, frzs, frz, List.map, List.length, List.replicate, List.getElem?_cons_zero, List.getElem?_cons_succ, List.set_cons_zero, List.set_cons_succ, List.cons_append, List.nil_append, wF, wR, oI_int, oI0_int, oPlus_int, oTimes_int, o1I, o2I, oInt, negE, revE, seq_tup, seq_lst, oIx, atI_0, atI_1, o1S, oEq_int, oEq_bl, if_true, if_false, Bool.not_true, Bool.not_false]
        exact q'
      · rw [oAny_mapA]
        have ep : (ratsD r).all nonB = !(r.any fun x => decide (x.num < 0)) := by
          unfold nonB
          rw [all_rats, List.not_any_eq_all_not]
          congr 1
          funext x
          by_cases hx : 0 ≤ x.num
          · rw [decide_eq_true hx, decide_eq_false (by omega)]; rfl
          · rw [decide_eq_false hx, decide_eq_true (by omega)]; rfl
        rw [ep] at q
        cases ha : r.any fun x => decide (x.num < 0) with
        | true => rw [ha] at q; exact q
        | false =>
          rw [ha] at q
          refine ⟨rfl, lcD_mapA rat (fun x => .bl (decide (x.num = 0))) (fun x hx Q' q' => ?_) ?_⟩
          · rw [asgK_nm]
            simp only [rat, pVar, pIx, dLeaf, dLenO, gtSub, gtNm, gtTup, gtCons, gtNil, sAsgT, sSetF, sApp, fLc, fLeaf, fOp, fList, fLst, owE_ow, ndE_nd, put_nil, w_law_draw, wDraw, wSeq, wRng1, wRng2, wZip, dLc, asgK_nm, asgK_tp2, sFor, oAll_map, oAny_map, wipeD, oSl, List.length_cons, List.length_nil, sSeq, sAsg, sRet, sRetN, sIf, sNext, sPar, sDrop, sFrz, sAug, dOp, dVar, dC, dTup, dLst, dCons, dNil, dCall, dCB, dIx, dTest, dAnd, dOr, dNot, dAndV, dOrV, dNotV, dB, dIf, dNeg, dFld, dSelf, sSelf, dSl, dNoPart, dPart, dRevT, dDic1, dIsN, entD, asg, setAll, fnEnds, startD, startI, initEnds, slE, slI, fieldD, frzs, frz, List.map, List.length, List.replicate, List.getElem?_cons_zero, List.getElem?_cons_succ, List.set_cons_zero, List.set_cons_succ, List.cons_append, List.nil_append, wF, wR, oI_int, oI0_int, oPlus_int, oTimes_int, o1I, o2I, oInt, negE, revE, seq_tup, seq_lst, oIx, atI_0, atI_1, o1S, oEq_int, oEq_bl, if_true, if_false, Bool.not_true, Bool.not_false]
            exact q'
          · rw [oAll_mapA]
            have ez : (ratsD r).all zeroB = r.all fun x => decide (x.num = 0) := by unfold zeroB; rw [all_rats]
            rw [ez] at q
            cases hz : r.all fun x => decide (x.num = 0) with
            | true => rw [hz] at q; exact q
            | false =>
              rw [hz] at q
              replace q : Q (.bl (floorQ S r)) n := by simpa using q
              have hm : ∀ s ∈ absS S, s.length = S.length := fun s hs => by
                obtain ⟨s', hs', rfl⟩ := List.mem_map.mp hs
                rw [List.length_map, P.sq s' hs']
              have sm : (k + h + 1) * (r.length + 1) ≤ 8990 := by rw [hlr]; have := P.sm; rw [Nat.add_comm k h]; exact this
              refine ⟨S, rfl, rfl, ⟨by omega, by have := P.few; rw [List.length_map]; omega⟩, ?_⟩
              rw [Int.toNat_natCast, List.length_map]
              unfold rangeD
              refine lcD_mapA (fun (i : Nat) => D.int (0 + (i : Int))) (fun j => .bl (decide (dotQ r (colQ (absS S) j) < r.getD j 0))) (fun j hj Q' q' => ?_) ?_
              · have hj := List.mem_range.mp hj
                rw [asgK_nm]
                simp only [matD, pVar, pIx, dLeaf, dLenO, gtSub, gtNm, gtTup, gtCons, gtNil, sAsgT, sSetF, sApp, fLc, fLeaf, fOp, fList, fLst, owE_ow, ndE_nd, put_nil, w_law_draw, wDraw, wSeq, wRng1, wRng2, wZip, dLc, asgK_nm, asgK_tp2, sFor, oAll_map, oAny_map, wipeD, oSl, List.length_cons, List.length_nil, sSeq, sAsg, sRet, sRetN, sIf, sNext, sPar, sDrop, sFrz, sAug, dOp, dVar, dC, dTup, dLst, dCons, dNil, dCall, dCB, dIx, dTest, dAnd, dOr, dNot, dAndV, dOrV, dNotV, dB, dIf, dNeg, dFld, dSelf, sSelf, dSl, dNoPart, dPart, dRevT, dDic1, dIsN, entD, asg, setAll, fnEnds, startD, startI, initEnds, slE, slI, fieldD, frzs, frz, List.map, List.length, List.replicate, List.getElem?_cons_zero, List.getElem?_cons_succ, List.set_cons_zero, List.set_cons_succ, List.cons_append, List.nil_append, wF, wR, oI_int, oI0_int, oPlus_int, oTimes_int, o1I, o2I, oInt, negE, revE, seq_tup, seq_lst, oIx, atI_0, atI_1, o1S, oEq_int, oEq_bl, if_true, if_false, Bool.not_true, Bool.not_false]
                refine ⟨rfl, lcD_mapA rowD (fun s => rat (s.getD j 0)) (fun s hs Q2 q2 => ?_) ?_⟩
                · rw [asgK_nm]
                  have hl := hm s hs
                  have e : (ratsD s)[j]? = some (rat (s.getD j 0)) := by
                    rw [getElem_ratsD (by omega : j < s.length), List.getD_eq_getElem?_getD, List.getElem?_eq_getElem (by omega : j < s.length)]; rfl
                  simp only [rowD, seq_tup, pVar, pIx, dLeaf, dLenO, gtSub, gtNm, gtTup, gtCons, gtNil, sAsgT, sSetF, sApp, fLc, fLeaf, fOp, fList, fLst, owE_ow, ndE_nd, put_nil, w_law_draw, wDraw, wSeq, wRng1, wRng2, wZip, dLc, asgK_nm, asgK_tp2, sFor, oAll_map, oAny_map, wipeD, oSl, List.length_cons, List.length_nil, sSeq, sAsg, sRet, sRetN, sIf, sNext, sPar, sDrop, sFrz, sAug, dOp, dVar, dC, dTup, dLst, dCons, dNil, dCall, dCB, dIx, dTest, dAnd, dOr, dNot, dAndV, dOrV, dNotV, dB, dIf, dNeg, dFld, dSelf, sSelf, dSl, dNoPart, dPart, dRevT, dDic1, dIsN, entD, asg, setAll, fnEnds, startD, startI, initEnds, slE, slI, fieldD, frzs, frz, List.map, List.length, List.replicate, List.getElem?_cons_zero, List.getElem?_cons_succ, List.set_cons_zero, List.set_cons_succ, List.cons_append, List.nil_append, wF, wR, oI_int, oI0_int, oPlus_int, oTimes_int, o1I, o2I, oInt, negE, revE, seq_tup, seq_lst, oIx, atI_0, atI_1, o1S, oEq_int, oEq_bl, if_true, if_false, Bool.not_true, Bool.not_false, atI_nat' e]
                  exact q2
                · have z1 := sz_dot hrow (sz_col (szS_abs P.s) hm (by omega : j < S.length))
                  have e : (ratsD r)[j]? = some (rat (r.getD j 0)) := by
                    rw [getElem_ratsD hj, List.getD_eq_getElem?_getD, List.getElem?_eq_getElem hj]; rfl
                  have hin : r.getD j 0 ∈ r := by
                    rw [List.getD_eq_getElem?_getD, List.getElem?_eq_getElem hj]; exact List.getElem_mem hj
                  refine ⟨_, _, r, colQ (absS S) j, rfl, ⟨k, h, rfl, ?_, hrow, sz_col (szS_abs P.s) hm (by omega), sm⟩, ?_⟩
                  · show some _ = some _
                    unfold colQ ratsD
                    rw [List.map_map]; rfl
                  · simp only [ratsD] at e
                    simp only [seq_tup, atI_nat' e]
                    refine ⟨_, _, rfl, ⟨_, k, z1, hrow _ hin, ?_⟩, q'⟩
                    have hh : (k + h + 1) * r.length ≤ (k + h + 1) * (r.length + 1) := Nat.mul_le_mul_left _ (by omega)
                    have hk : k ≤ (k + h + 1) * (r.length + 1) := by rw [Nat.mul_add]; omega
                    omega
              · rw [oAny_mapA]
                have e : floorQ S r = !((List.range r.length).any fun j => decide (dotQ r (colQ (absS S) j) < r.getD j 0)) := by
                  unfold floorQ
                  rw [← hlr]
                  congr 1
                  rw [List.zip_map_left, List.any_map]
                  have ez : (List.range r.length).zip r = (List.range r.length).map fun j => (j, r.getD j 0) := by
                    apply List.ext_getElem
                    · simp
                    · intro i h1 h2
                      have hi : i < r.length := by simpa using h2
                      simp [List.getD_eq_getElem?_getD, List.getElem?_eq_getElem hi]
                  rw [ez, List.any_map]; rfl
                rw [e] at q
                exact q
    | _ => cases hT
end DL

set_option Elab.async false
set_option linter.all false
set_option maxRecDepth 100000
set_option maxHeartbeats 4000000
namespace DL
open PySem PySem.Spec PyProof.Rows L2

theorem lcD_relA {α : Type} {t : Tgt} {me : WE} {ρw : List Ent} (g : α → D) (R : α → D → Prop) (c : Nat) : ∀ {xs : List α} {n : Nat} {Q : List D → Nat → Prop},
    (∀ x ∈ xs, ∀ k, k + c ≤ n + c * xs.length → n ≤ k → ∀ Q' : D → Nat → Prop, (∀ r j, k ≤ j → j ≤ k + c → R x r → Q' r j) → asgK t (g x) ρw fun ρ' => me ρ' k Q' fun _ _ => False) →
    (∀ rs k, n ≤ k → k ≤ n + c * xs.length → Paired R xs rs → Q rs k) → lcD t dYes me ρw (xs.map g) n Q
  | [], n, Q, _, q => q [] n (Nat.le_refl _) (Nat.le_add_right _ _) .nil
  | x :: xs, n, Q, h, q => by
    rw [List.length_cons, Nat.mul_succ] at h q
    have h1 := h x List.mem_cons_self n (by omega) (Nat.le_refl _) (fun r j => lcD t dYes me ρw (xs.map g) j fun rs i => Q (r :: rs) i) (fun r j h1 h2 hr =>
      lcD_relA g R c (fun e he k hk1 hk2 Q' hq' => h e (List.mem_cons_of_mem _ he) k (by omega) (by omega) Q' hq') (fun rs k hk1 hk2 hp => q (r :: rs) k (by omega) (by omega) (.cons hr hp)))
    rw [List.map_cons]
    unfold asgK at h1
    unfold lcD
    cases e : asg t (g x) ρw with
    | none => rw [e] at h1; exact h1
    | some ρ' => rw [e] at h1; exact h1
theorem paired_len {α β : Type} {R : α → β → Prop} : ∀ {xs : List α} {ys : List β}, Paired R xs ys → ys.length = xs.length
  | _, _, .nil => rfl
  | _, _, .cons _ p => by rw [List.length_cons, List.length_cons, paired_len p]
theorem paired_mem {α β : Type} {R : α → β → Prop} : ∀ {xs : List α} {ys : List β}, Paired R xs ys → ∀ y ∈ ys, ∃ x ∈ xs, R x y
  | _, _, .nil, y, h => absurd h List.not_mem_nil
  | _, _, .cons r p, y, h => by
    rcases List.mem_cons.mp h with rfl | h
    · exact ⟨_, List.mem_cons_self, r⟩
    · obtain ⟨x, hx, hr⟩ := paired_mem p y h
      exact ⟨x, List.mem_cons_of_mem _ hx, hr⟩
theorem paired_map {α β γ : Type} {R : α → β → Prop} {f : β → γ} {g : α → γ} (hf : ∀ x y, R x y → f y = g x) : ∀ {xs : List α} {ys : List β}, Paired R xs ys → ys.map f = xs.map g
  | _, _, .nil => rfl
  | _, _, .cons r p => by rw [List.map_cons, List.map_cons, hf _ _ r, paired_map hf p]
/-- a place within the items -/
theorem atI_in {ds : List D} {i : Int} (h0 : 0 ≤ i) (h : i < ds.length) : ∃ d, atI ds i = some d ∧ d ∈ ds := by
  obtain ⟨j, rfl⟩ := Int.eq_ofNat_of_zero_le h0
  have hj : j < ds.length := by omega
  exact ⟨ds[j], atI_nat (List.getElem?_eq_getElem hj), List.getElem_mem hj⟩
abbrev w_law_pick (c : Cl) : W := wR (fun ds => ∃ p d l, ds = [.pen p, d] ∧ d.seq = some l ∧ l ≠ [] ∧ l.length ≤ 1000) 1 (fun ds r => ∀ d l, ds.getD 1 .non = d → d.seq = some l → r ∈ l)
theorem wm_law_pick {c : Cl} : Wm (w_law_pick c) := wm_R
def m_law_pick (c : Cl) : WS := sRet (dIx (dVar 1) (dCall (w_law_draw c) (dCons (dVar 0) (dCons (dCB oLen (dCons (dVar 1) (dNil))) (dNil)))))
theorem rd_law_pick (c : Cl) : ∀ ds n Q Ex, ds.length = (["pen", "some"] : List Str).length → w_law_pick c ds n Q Ex → m_law_pick c (startD ["pen", "some"] ds) n (fnEnds Q fun _ _ => False) := by
  rintro ds n Q Ex - ⟨⟨p, d, l, rfl, e, hne, hl⟩, hn, q⟩
  have hpos : 0 < l.length := List.length_pos_iff.mpr hne
  simp only [m_law_pick, pVar, pIx, dLeaf, dLenO, gtSub, gtNm, gtTup, gtCons, gtNil, sAsgT, sSetF, sApp, fLc, fLeaf, fOp, fList, fLst, owE_ow, ndE_nd, put_nil, w_law_draw, wDraw, wSeq, wRng1, wRng2, wZip, dLc, asgK_nm, asgK_tp2, sFor, oAll_map, oAny_map, wipeD, oSl, List.length_cons, List.length_nil, sSeq, sAsg, sRet, sRetN, sIf, sNext, sPar, sDrop, sFrz, sAug, dOp, dVar, dC, dTup, dLst, dCons, dNil, dCall, dCB, dIx, dTest, dAnd, dOr, dNot, dAndV, dOrV, dNotV, dB, dIf, dNeg, dFld, dSelf, sSelf, dSl, dNoPart, dPart, dRevT, dDic1, dIsN, entD, asg, setAll, fnEnds, startD, startI, initEnds, slE, slI, fieldD, frzs, frz, List.map, List.length, List.replicate, List.getElem?_cons_zero, List.getElem?_cons_succ, List.set_cons_zero, List.set_cons_succ, List.cons_append, List.nil_append, wF, wR, oI_int, oI0_int, oPlus_int, oTimes_int, o1I, o2I, oInt, negE, revE, seq_tup, seq_lst, oIx, atI_0, atI_1, o1S, oEq_int, oEq_bl, if_true, if_false, Bool.not_true, Bool.not_false, e]
  refine ⟨by omega, by omega, by omega, fun r h0 h1 => ?_⟩
  obtain ⟨x, ex, hx⟩ := atI_in h0 h1
  rw [ex]
  exact q x (n + 1) (by omega) (by omega) (fun d' l' e1 e2 => by
    have e1 : d = d' := e1
    subst e1
    rw [e] at e2
    cases e2
    exact hx)
/-- the use of a pick from a written list -/
theorem pick_use {c : Cl} {p : Addr} {l : List D} {n : Nat} {Q : D → Nat → Prop} {E : EK} (hl : l ≠ []) (hl2 : l.length ≤ 1000) (hn : n + 1 ≤ 2 ^ 40) (q : ∀ x k, n ≤ k → k ≤ n + 1 → x ∈ l → Q x k) : w_law_pick c [.pen p, .lst l] n Q E :=
  ⟨⟨p, .lst l, l, rfl, rfl, hl, hl2⟩, hn, fun r k h1 h2 h3 => q r k h1 h2 (h3 (.lst l) l rfl rfl)⟩
/-- a ratio in any form -/
structure LoR (c : Cl) (q : Rat) (r : D) : Prop where
  gd : Gd c.cls r
  isr : isRatioD r = true
  low : lowOk r
  val : valD r = q
theorem lo_mul {c : Cl} {q : Rat} {k : Int} (h : sz 8000 q) (h1 : 1 ≤ k) (h2 : k ≤ 7) : LoR c q (.tup [.int (q.num * k), .int (q.den * k)]) := by
  have hd := den_pos q
  have hk : 0 < (q.den : Int) * k := Int.mul_pos hd (by omega)
  refine ⟨⟨trivial, trivial, trivial⟩, decide_eq_true (by omega), ?_, ?_⟩
  · show ((q.den : Int) * k).natAbs < 2 ^ 8999
    exact lt_pow_mono (natAbs_mul_lt (dn h) (by omega : k.natAbs < 2 ^ 3)) (by decide)
  · show Rat.divInt (q.num * k) (q.den * k) = q
    have e := (Rat.divInt_eq_divInt_iff (n₁ := q.num * k) (n₂ := q.num) (d₁ := (q.den : Int) * k) (d₂ := (q.den : Int)) (by omega) (by omega)).mpr (by grind)
    rw [e, Rat.num_divInt_den]
theorem lo_rat {c : Cl} {q : Rat} (h : sz 8000 q) : LoR c q (rat q) := by
  have := lo_mul (c := c) (k := 1) h (by omega) (by omega)
  rw [Int.mul_one, Int.mul_one] at this
  exact this
theorem lo_lst {c : Cl} {q : Rat} (h : sz 8000 q) : LoR c q (.lst [.int q.num, .int q.den]) := by
  have hd := den_pos q
  exact ⟨⟨trivial, trivial, trivial⟩, decide_eq_true (by omega), by show (q.den : Int).natAbs < 2 ^ 8999; exact lt_pow_mono (dn h) (by decide), Rat.num_divInt_den q⟩
theorem lo_int {c : Cl} {q : Rat} (h : q.den = 1) : LoR c q (.int q.num) := by
  refine ⟨trivial, rfl, trivial, ?_⟩
  show (q.num : Rat) = q
  have := Rat.num_divInt_den q
  rw [h] at this
  rw [← divInt_1]; exact this
abbrev w_law_loose (c : Cl) : W := wR (fun ds => ∃ p q, ds = [.pen p, rat q] ∧ sz 8000 q) 2 (fun ds r => ∀ p q, ds = [.pen p, rat q] → LoR c q r)
theorem wm_law_loose {c : Cl} : Wm (w_law_loose c) := wm_R
def m_law_loose (c : Cl) : WS := sSeq (sAsg (.nm 2) (dCall (w_law_draw c) (dCons (dVar 0) (dCons (dC (.int 5)) (dNil)))))
  (sSeq (sIf (dAnd (dTest (dOp (oEq false) (dVar 2) (dC (.int 0)))) (dTest (dOp (oEq false) (dIx (dVar 1) (dC (.int 1))) (dC (.int 1))))) (sRet (dIx (dVar 1) (dC (.int 0)))) (sNext))
  (sSeq (sIf (dTest (dOp (oEq false) (dVar 2) (dC (.int 1)))) (sSeq (sAsg (.nm 3) (dOp oPlus (dC (.int 2)) (dCall (w_law_draw c) (dCons (dVar 0) (dCons (dC (.int 5)) (dNil))))))
  (sRet (dTup (dCons (dOp oTimes (dIx (dVar 1) (dC (.int 0))) (dVar 3)) (dCons (dOp oTimes (dIx (dVar 1) (dC (.int 1))) (dVar 3)) (dNil)))))) (sNext))
  (sRet (dIf (dTest (dOp (oEq false) (dVar 2) (dC (.int 2)))) (dLst (dCons (dIx (dVar 1) (dC (.int 0))) (dCons (dIx (dVar 1) (dC (.int 1))) (dNil)))) (dVar 1)))))
theorem rat_inj {p q : Rat} (h : rat p = rat q) : p = q := by
  have h1 := toldD_of p
  rw [h, toldD_of q] at h1
  exact (Option.some.inj h1).symm
theorem rd_law_loose (c : Cl) : ∀ ds n Q Ex, ds.length = (["pen", "ratio"] : List Str).length → w_law_loose c ds n Q Ex → m_law_loose c (startD ["pen", "ratio", "way", "by"] ds) n (fnEnds Q fun _ _ => False) := by
  rintro ds n Q Ex - ⟨⟨p, q, rfl, hs⟩, hn, z⟩
  replace z : ∀ r k, n ≤ k → k ≤ n + 2 → LoR c q r → Q r k := fun r k h1 h2 h3 => z r k h1 h2 fun p' q' e => by
    injection e with e1 e2
    injection e2 with e2 _
    rw [← rat_inj e2]; exact h3
  simp only [m_law_loose, rat, pVar, pIx, dLeaf, dLenO, gtSub, gtNm, gtTup, gtCons, gtNil, sAsgT, sSetF, sApp, fLc, fLeaf, fOp, fList, fLst, owE_ow, ndE_nd, put_nil, w_law_draw, wDraw, wSeq, wRng1, wRng2, wZip, dLc, asgK_nm, asgK_tp2, sFor, oAll_map, oAny_map, wipeD, oSl, List.length_cons, List.length_nil, sSeq, sAsg, sRet, sRetN, sIf, sNext, sPar, sDrop, sFrz, sAug, dOp, dVar, dC, dTup, dLst, dCons, dNil, dCall, dCB, dIx, dTest, dAnd, dOr, dNot, dAndV, dOrV, dNotV, dB, dIf, dNeg, dFld, dSelf, sSelf, dSl, dNoPart, dPart, dRevT, dDic1, dIsN, entD, asg, setAll, fnEnds, startD, startI, initEnds, slE, slI, fieldD, frzs, frz, List.map, List.length, List.replicate, List.getElem?_cons_zero, List.getElem?_cons_succ, List.set_cons_zero, List.set_cons_succ, List.cons_append, List.nil_append, wF, wR, oI_int, oI0_int, oPlus_int, oTimes_int, o1I, o2I, oInt, negE, revE, seq_tup, seq_lst, oIx, atI_0, atI_1, o1S, oEq_int, oEq_bl, if_true, if_false, Bool.not_true, Bool.not_false]
  refine ⟨by decide, by decide, by omega, fun way h0 h1 => ?_⟩
  by_cases w0 : way = 0
  · subst w0
    rw [if_pos (by simp)]
    by_cases hd : (q.den : Int) = 1
    · rw [if_pos (by simpa using hd)]
      exact z _ _ (by omega) (by omega) (lo_int (by omega))
    · rw [if_neg (by simpa using hd), if_neg (by simp), if_neg (by simp)]
      exact z _ _ (by omega) (by omega) (lo_rat hs)
  · rw [if_neg (by simpa using w0), if_neg (by decide)]
    by_cases w1 : way = 1
    · rw [if_pos (by simpa using w1)]
      refine ⟨by decide, by decide, by omega, fun b hb0 hb1 => ?_⟩
      have hb : (2 + b).natAbs < 2 ^ 3 := by omega
      exact ⟨mulOk 8000 3 hs.1 hb (by omega), mulOk 8000 3 (dn hs) hb (by omega), z _ _ (by omega) (by omega) (lo_mul hs (by omega) (by omega))⟩
    · rw [if_neg (by simpa using w1)]
      by_cases w2 : way = 2
      · rw [if_pos (by simpa using w2)]
        exact z _ _ (by omega) (by omega) (lo_lst hs)
      · rw [if_neg (by simpa using w2)]
        exact z _ _ (by omega) (by omega) (lo_rat hs)
end DL

set_option Elab.async false
set_option linter.all false
set_option maxRecDepth 100000
set_option maxHeartbeats 4000000
namespace DL
open PySem PySem.Spec PyProof.Rows L2

/-- a row in any form -/
structure RowR (c : Cl) (row : List Rat) (r : D) : Prop where
  gd : Gd c.cls r
  sq : ∃ ds, r.seq = some ds ∧ Paired (LoR c) row ds
theorem RowR.isr {c : Cl} {row : List Rat} {r : D} (h : RowR c row r) (hne : row ≠ []) : isRowD r = true ∧ lenD r = row.length ∧ rowLow r ∧ rowVals r = row := by
  obtain ⟨ds, e, p⟩ := h.sq
  have hl := paired_len p
  refine ⟨?_, ?_, ?_, ?_⟩
  · unfold isRowD
    rw [e]
    show (!ds.isEmpty && ds.all isRatioD) = true
    rw [Bool.and_eq_true, List.all_eq_true]
    refine ⟨?_, fun x hx => ?_⟩
    · cases ds with
      | nil => exact absurd (List.eq_nil_of_length_eq_zero hl.symm) hne
      | cons _ _ => rfl
    · obtain ⟨q, _, l⟩ := paired_mem p x hx
      exact l.isr
  · unfold lenD; rw [e]; exact hl
  · intro ds' e' x hx
    rw [e] at e'; cases e'
    obtain ⟨q, _, l⟩ := paired_mem p x hx
    exact l.low
  · unfold rowVals; rw [e]
    show ds.map valD = row
    rw [paired_map (g := fun q => q) (fun q x l => l.val) p, List.map_id']
theorem sheet_of {c : Cl} {S : List (List Rat)} {d : D} {rows : List D} (gd : Gd c.cls d) (e : d.seq = some rows) (p : Paired (RowR c) S rows) (hm : ∀ r ∈ S, r.length = S.length) (h0 : 1 ≤ S.length) : SheetP c d ∧ sqD d ∧ sheetVals d = S := by
  have hl := paired_len p
  have hne : ∀ r ∈ S, r ≠ [] := fun r hr e => by have := hm r hr; rw [e] at this; simp at this; omega
  have all : ∀ x ∈ rows, ∃ r ∈ S, RowR c r x := paired_mem p
  have len : ∀ x ∈ rows, lenD x = S.length := fun x hx => by
    obtain ⟨r, hr, q⟩ := all x hx
    rw [(q.isr (hne r hr)).2.1, hm r hr]
  have hd : rows ≠ [] := by intro e; rw [e] at hl; simp at hl; omega
  have hh : lenD (rows.headD .non) = S.length := by
    cases rows with
    | nil => exact absurd rfl hd
    | cons x rows => exact len x List.mem_cons_self
  refine ⟨⟨gd, ?_, ?_⟩, ?_, ?_⟩
  · unfold isSheetD
    rw [e]
    show (!rows.isEmpty && rows.all isRowD && rows.all fun r => lenD r == lenD (rows.headD .non)) = true
    rw [Bool.and_eq_true, Bool.and_eq_true, List.all_eq_true, List.all_eq_true]
    refine ⟨⟨?_, fun x hx => ?_⟩, fun x hx => ?_⟩
    · cases rows with
      | nil => exact absurd rfl hd
      | cons _ _ => rfl
    · obtain ⟨r, hr, q⟩ := all x hx
      exact (q.isr (hne r hr)).1
    · rw [hh, len x hx]; exact beq_self_eq_true _
  · intro ds e' x hx
    rw [e] at e'; cases e'
    obtain ⟨r, hr, q⟩ := all x hx
    exact (q.isr (hne r hr)).2.2.1
  · intro ds e'
    rw [e] at e'; cases e'
    rw [hh, hl]
  · unfold sheetVals; rw [e]
    show rows.map rowVals = S
    have : ∀ {S : List (List Rat)} {rows : List D}, Paired (RowR c) S rows → (∀ r ∈ S, r ≠ []) → rows.map rowVals = S := by
      intro S rows p
      induction p with
      | nil => intro _; rfl
      | cons q p ih =>
        intro h
        rw [List.map_cons, (q.isr (h _ List.mem_cons_self)).2.2.2, ih fun r hr => h r (List.mem_cons_of_mem _ hr)]
    exact this p hne
abbrev SqS (S : List (List Rat)) (m : Nat) : Prop := (∀ r ∈ S, r.length = S.length) ∧ 1 ≤ S.length ∧ S.length ≤ m
abbrev w_law_loose_rows (c : Cl) : W := fun ds n Q _ => ∃ p S, ds = [.pen p, matD S] ∧ szS 8000 S ∧ SqS S 4 ∧ n + 33 ≤ 2 ^ 40 ∧ ∀ r k, n ≤ k → k ≤ n + 33 → SheetP c r → sqD r → sheetVals r = S → Q r k
theorem wm_law_loose_rows {c : Cl} : Wm (w_law_loose_rows c) := ⟨fun ds n Q Q' E E' hq he ⟨p, S, e, h1, h2, h3, z⟩ => ⟨p, S, e, h1, h2, h3, fun r k a b d e f => hq _ _ (z r k a b d e f)⟩⟩
def m_law_loose_rows (c : Cl) : WS := sSeq (sAsg (.nm 2) (dCall (w_law_draw c) (dCons (dVar 0) (dCons (dC (.int 3)) (dNil)))))
  (sSeq (sAsg (.nm 3) (dLc (.nm 4) (wSeq (dVar 1)) (dYes) (dIf (dTest (dOp (oEq false) (dVar 2) (dC (.int 1)))) (dLc (.nm 5) (wSeq (dVar 4)) (dYes) (dCall (w_law_loose c) (dCons (dVar 0) (dCons (dVar 5) (dNil)))) [5]) (dCB oTuple (dCons (dLc (.nm 5) (wSeq (dVar 4)) (dYes) (dCall (w_law_loose c) (dCons (dVar 0) (dCons (dVar 5) (dNil)))) [5]) (dNil)))) [4]))
  (sRet (dIf (dTest (dOp (oEq false) (dVar 2) (dC (.int 1)))) (dVar 3) (dCB oTuple (dCons (dVar 3) (dNil))))))
theorem gds_paired {c : Cl} {α : Type} {R : α → D → Prop} (hR : ∀ x r, R x r → Gd c.cls r) {xs : List α} {rs : List D} (p : Paired R xs rs) : Gds c.cls rs := gds_iff.mpr fun d hd => by
  obtain ⟨x, _, h⟩ := paired_mem p d hd
  exact hR x d h
theorem rd_law_loose_rows (c : Cl) : ∀ ds n Q Ex, ds.length = (["pen", "rows"] : List Str).length → w_law_loose_rows c ds n Q Ex → m_law_loose_rows c (startD ["pen", "rows", "way", "made", "row", "item"] ds) n (fnEnds Q fun _ _ => False) := by
  rintro ds n Q Ex - ⟨p, S, rfl, hs, ⟨hm, h0, h4⟩, hn, z⟩
  simp only [m_law_loose_rows, matD, pVar, pIx, dLeaf, dLenO, gtSub, gtNm, gtTup, gtCons, gtNil, sAsgT, sSetF, sApp, fLc, fLeaf, fOp, fList, fLst, owE_ow, ndE_nd, put_nil, w_law_draw, wDraw, wSeq, wRng1, wRng2, wZip, dLc, asgK_nm, asgK_tp2, sFor, oAll_map, oAny_map, wipeD, oSl, List.length_cons, List.length_nil, sSeq, sAsg, sRet, sRetN, sIf, sNext, sPar, sDrop, sFrz, sAug, dOp, dVar, dC, dTup, dLst, dCons, dNil, dCall, dCB, dIx, dTest, dAnd, dOr, dNot, dAndV, dOrV, dNotV, dB, dIf, dNeg, dFld, dSelf, sSelf, dSl, dNoPart, dPart, dRevT, dDic1, dIsN, entD, asg, setAll, fnEnds, startD, startI, initEnds, slE, slI, fieldD, frzs, frz, List.map, List.length, List.replicate, List.getElem?_cons_zero, List.getElem?_cons_succ, List.set_cons_zero, List.set_cons_succ, List.cons_append, List.nil_append, wF, wR, oI_int, oI0_int, oPlus_int, oTimes_int, o1I, o2I, oInt, negE, revE, seq_tup, seq_lst, oIx, atI_0, atI_1, o1S, oEq_int, oEq_bl, if_true, if_false, Bool.not_true, Bool.not_false]
  refine ⟨by decide, by decide, by omega, fun way w0 w1 => ⟨rfl, ?_⟩⟩
  -- each row, in one form or the other
  have row : ∀ r ∈ S, ∀ k, k + 8 ≤ n + 1 + 8 * S.length → n + 1 ≤ k → ∀ (ρ : List Ent) (wrap : List D → D) (_ : ∀ l, D.seq (wrap l) = some l) (_ : ∀ l, Gds c.cls l → Gd c.cls (wrap l)) (Q' : D → Nat → Prop),
      (∀ x j, k ≤ j → j ≤ k + 8 → RowR c r x → Q' x j) → lcD (.nm 5) dYes (dCall (w_law_loose c) (dCons (dVar 0) (dCons (dVar 5) dNil))) [.sh (.pen p), .sh (.tup (S.map rowD)), .sh (.int way), .no, .sh (rowD r), .no] (ratsD r) k fun rs j => Q' (wrap rs) j := by
    intro r hr k k1 k2 ρ wrap hw hg Q' hQ'
    have hl : r.length ≤ 4 := by rw [hm r hr]; exact h4
    refine lcD_relA rat (LoR c) 2 (fun q hq k' k1' k2' Q2 hQ2 => ?_) (fun rs j j1 j2 pr => hQ' _ j j1 (by omega) ⟨hg rs (gds_paired (fun _ _ h => h.gd) pr), rs, hw rs, pr⟩)
    rw [asgK_nm]
    exact ⟨⟨p, q, rfl, hs r hr q hq⟩, by omega, fun x j j1 j2 h => hQ2 x j j1 j2 (h p q rfl)⟩
  by_cases hway : way = 1
  · refine lcD_relA rowD (RowR c) 8 (fun r hr k k1 k2 Q' hQ' => ?_) (fun rs k k1 k2 pr => ?_)
    · rw [asgK_nm]
      simp only [pVar, pIx, dLeaf, dLenO, gtSub, gtNm, gtTup, gtCons, gtNil, sAsgT, sSetF, sApp, fLc, fLeaf, fOp, fList, fLst, owE_ow, ndE_nd, put_nil, w_law_draw, wDraw, wSeq, wRng1, wRng2, wZip, dLc, asgK_nm, asgK_tp2, sFor, oAll_map, oAny_map, wipeD, oSl, List.length_cons, List.length_nil, sSeq, sAsg, sRet, sRetN, sIf, sNext, sPar, sDrop, sFrz, sAug, dOp, dVar, dC, dTup, dLst, dCons, dNil, dCall, dCB, dIx, dTest, dAnd, dOr, dNot, dAndV, dOrV, dNotV, dB, dIf, dNeg, dFld, dSelf, sSelf, dSl, dNoPart, dPart, dRevT, dDic1, dIsN, entD, asg, setAll, fnEnds, startD, startI, initEnds, slE, slI, fieldD, frzs, frz, List.map, List.length, List.replicate, List.getElem?_cons_zero, List.getElem?_cons_succ, List.set_cons_zero, List.set_cons_succ, List.cons_append, List.nil_append, wF, wR, oI_int, oI0_int, oPlus_int, oTimes_int, o1I, o2I, oInt, negE, revE, seq_tup, seq_lst, oIx, atI_0, atI_1, o1S, oEq_int, oEq_bl, if_true, if_false, Bool.not_true, Bool.not_false]
      rw [if_pos (by simpa using hway)]
      simp only [rowD, seq_tup]
      refine ⟨rfl, row r hr k k1 k2 [] D.lst (fun _ => rfl) (fun _ h => h) Q' hQ'⟩
    · rw [if_pos (by simpa using hway)]
      have sh := sheet_of (c := c) (d := .lst rs) (gds_paired (fun _ _ h => h.gd) pr) rfl pr hm h0
      exact z _ k (by omega) (by omega) sh.1 sh.2.1 sh.2.2
  · refine lcD_relA rowD (RowR c) 8 (fun r hr k k1 k2 Q' hQ' => ?_) (fun rs k k1 k2 pr => ?_)
    · rw [asgK_nm]
      simp only [pVar, pIx, dLeaf, dLenO, gtSub, gtNm, gtTup, gtCons, gtNil, sAsgT, sSetF, sApp, fLc, fLeaf, fOp, fList, fLst, owE_ow, ndE_nd, put_nil, w_law_draw, wDraw, wSeq, wRng1, wRng2, wZip, dLc, asgK_nm, asgK_tp2, sFor, oAll_map, oAny_map, wipeD, oSl, List.length_cons, List.length_nil, sSeq, sAsg, sRet, sRetN, sIf, sNext, sPar, sDrop, sFrz, sAug, dOp, dVar, dC, dTup, dLst, dCons, dNil, dCall, dCB, dIx, dTest, dAnd, dOr, dNot, dAndV, dOrV, dNotV, dB, dIf, dNeg, dFld, dSelf, sSelf, dSl, dNoPart, dPart, dRevT, dDic1, dIsN, entD, asg, setAll, fnEnds, startD, startI, initEnds, slE, slI, fieldD, frzs, frz, List.map, List.length, List.replicate, List.getElem?_cons_zero, List.getElem?_cons_succ, List.set_cons_zero, List.set_cons_succ, List.cons_append, List.nil_append, wF, wR, oI_int, oI0_int, oPlus_int, oTimes_int, o1I, o2I, oInt, negE, revE, seq_tup, seq_lst, oIx, atI_0, atI_1, o1S, oEq_int, oEq_bl, if_true, if_false, Bool.not_true, Bool.not_false]
      rw [if_neg (by simpa using hway)]
      simp only [rowD, seq_tup]
      refine ⟨rfl, row r hr k k1 k2 [] D.tup (fun _ => rfl) (fun _ h => h) Q' hQ'⟩
    · rw [if_neg (by simpa using hway)]

      have sh := sheet_of (c := c) (d := .tup rs) (gds_paired (fun _ _ h => h.gd) pr) rfl pr hm h0
      exact z _ k (by omega) (by omega) sh.1 sh.2.1 sh.2.2
end DL

set_option Elab.async false
set_option linter.all false
set_option maxRecDepth 100000
set_option maxHeartbeats 4000000
namespace DL
open PySem PySem.Spec PyProof.Rows L2
def rowL (r : List Rat) : D := .lst (ratsD r)
abbrev w_law_solution (c : Cl) : W := fun ds n Q _ => ∃ M col, ds = [.lst (M.map rowL), .lst (ratsD col)] ∧ M ≠ [] ∧ M.length ≤ 4 ∧ col.length = M.length ∧ (∀ p ∈ M.zip col, p.1.length = M.length ∧ CdRow 89 (p.1 ++ [p.2])) ∧ Q .non n ∧ ∀ xs, xs.length = M.length → (∀ x ∈ xs, sz 1439 x) → Q (rowD xs) n
theorem wm_law_solution {c : Cl} : Wm (w_law_solution c) := ⟨fun ds n Q Q' E E' hq he ⟨M, col, e, h1, h2, h3, h4, z1, z2⟩ => ⟨M, col, e, h1, h2, h3, h4, hq _ _ z1, fun xs a b => hq _ _ (z2 xs a b)⟩⟩
def m_law_solution (c : Cl) : WS := sSeq (sSetF 2 (fLc (.tp [9, 10]) (wZip (dCons (dVar 0) (dCons (dVar 1) (dNil)))) (dYes) (fLeaf (dOp oPlus (dCB oList (dCons (dVar 9) (dNil))) (dLst (dCons (dVar 10) (dNil))))) [9, 10]))
  (sSeq (sAsg (.nm 3) (dLenO (pVar 2)))
  (sSeq (sFor (.nm 4) (wRng1 (dCons (dVar 3) (dNil))) (sSeq (sAsg (.nm 5) (dLc (.nm 7) (wRng2 (dCons (dVar 4) (dCons (dVar 3) (dNil)))) (dTest (dOp (oEq true) (dIx (dIx (dLeaf (pIx (pVar 2) (dVar 7))) (dVar 4)) (dC (.int 0))) (dC (.int 0)))) (dVar 7) [7]))
  (sSeq (sIf (dTest (dOp (oEq false) (dVar 5) (dLst (dNil)))) (sRet (dC .non)) (sNext))
  (sSeq (sAsgT (gtTup 2 (gtCons (gtSub 2 (pVar 2) (dVar 4)) (gtCons (gtSub 2 (pVar 2) (dIx (dVar 5) (dC (.int 0)))) (gtNil)))) (dTup (dCons (dLeaf (pIx (pVar 2) (dIx (dVar 5) (dC (.int 0))))) (dCons (dLeaf (pIx (pVar 2) (dVar 4))) (dNil)))))
  (sSeq (sAsg (.nm 6) (dIx (dLeaf (pIx (pVar 2) (dVar 4))) (dVar 4)))
  (sSeq (sAsgT (gtSub 2 (pVar 2) (dVar 4)) (dLc (.nm 10) (wSeq (dLeaf (pIx (pVar 2) (dVar 4)))) (dYes) (dCall (w_law_div c) (dCons (dVar 10) (dCons (dVar 6) (dNil)))) [10]))
  (sFor (.nm 7) (wRng1 (dCons (dVar 3) (dNil))) (sSeq (sAsg (.nm 8) (dIx (dLeaf (pIx (pVar 2) (dVar 7))) (dVar 4)))
  (sIf (dAnd (dTest (dOp (oEq true) (dVar 7) (dVar 4))) (dTest (dOp (oEq true) (dIx (dVar 8) (dC (.int 0))) (dC (.int 0))))) (sAsgT (gtSub 2 (pVar 2) (dVar 7)) (dLc (.tp [11, 12]) (wZip (dCons (dLeaf (pIx (pVar 2) (dVar 7))) (dCons (dLeaf (pIx (pVar 2) (dVar 4))) (dNil)))) (dYes) (dCall (w_law_sub c) (dCons (dVar 11) (dCons (dCall (w_law_mul c) (dCons (dVar 8) (dCons (dVar 12) (dNil)))) (dNil)))) [11, 12])) (sNext))))))))))
  (sFrz [2] (sRet (dCB oTuple (dCons (dLc (.nm 9) (wSeq (dVar 2)) (dYes) (dIx (dVar 9) (dNeg (dC (.int 1)))) [9]) (dNil)))))))
def sn : Option D → Ent
  | none => .no
  | some d => .sh d
theorem sn_some (d : D) : .sh d = sn (some d) := rfl
theorem sn_none : Ent.no = sn none := rfl
/-- the innermost step -/
def solIn (c : Cl) : WS := sSeq (sAsg (.nm 8) (dIx (dLeaf (pIx (pVar 2) (dVar 7))) (dVar 4)))
  (sIf (dAnd (dTest (dOp (oEq true) (dVar 7) (dVar 4))) (dTest (dOp (oEq true) (dIx (dVar 8) (dC (.int 0))) (dC (.int 0))))) (sAsgT (gtSub 2 (pVar 2) (dVar 7)) (dLc (.tp [11, 12]) (wZip (dCons (dLeaf (pIx (pVar 2) (dVar 7))) (dCons (dLeaf (pIx (pVar 2) (dVar 4))) (dNil)))) (dYes) (dCall (w_law_sub c) (dCons (dVar 11) (dCons (dCall (w_law_mul c) (dCons (dVar 8) (dCons (dVar 12) (dNil)))) (dNil)))) [11, 12])) (sNext))
theorem ixE_lf {W : List (List Rat)} {j : Nat} {r : List Rat} {k : Nat → Prop} (h : W[j]? = some r) (q : k j) : ixE (W.map lf).length (.int (j : Int)) k :=
  ixE_nat (by rw [List.length_map]; exact (List.getElem?_eq_some_iff.mp h).1) q
theorem set_lf {W : List (List Rat)} {j : Nat} {r : List Rat} : (W.map lf).set j (.leaf (.lst (ratsD r))) = (W.set j r).map lf := by
  rw [List.map_set]; rfl
theorem solIn_ok (c : Cl) {D : DEn} {n : Nat} {a : Addr} {W : List (List Rat)} {r P : List Rat} {at' k N m : Nat} {e0 e1 e5 e6 : Ent} {o8 o9 o10 o11 o12 : Option DL.D}
    (hP : W[at']? = some P) (hr : W[k]? = some r) (lr : r.length = N + 1) (lP : P.length = N + 1) (ha : at' < N) (cr : CdRow m r) (cP : CdRow m P) (hm : m ≤ 2000)
    (q : ∀ W' o8' o11' o12', (W' = W ∨ (k ≠ at' ∧ ∃ b ∈ r, W' = W.set k ((r.zip P).map fun p => p.1 - b * p.2))) →
      D.nx [e0, e1, .ow (.node a (W'.map lf)), .sh (.int N), .sh (.int (at' : Nat)), e5, e6, .sh (.int (k : Nat)), sn o8', sn o9, sn o10, sn o11', sn o12'] n) :
    solIn c [e0, e1, .ow (.node a (W.map lf)), .sh (.int N), .sh (.int (at' : Nat)), e5, e6, .sh (.int (k : Nat)), sn o8, sn o9, sn o10, sn o11, sn o12] n D := by
  have hat : at' < r.length := by omega
  have er : (ratsD r)[at']? = some (rat r[at']) := getElem_ratsD hat
  have hin : r[at'] ∈ r := List.getElem_mem hat
  unfold solIn
  simp only [pVar, pIx, dLeaf, dLenO, gtSub, gtNm, gtTup, gtCons, gtNil, sAsgT, sSetF, sApp, fLc, fLeaf, fOp, fList, fLst, owE_ow, ndE_nd, put_nil, w_law_draw, wDraw, wSeq, wRng1, wRng2, wZip, dLc, asgK_nm, asgK_tp2, sFor, oAll_map, oAny_map, wipeD, oSl, List.length_cons, List.length_nil, sSeq, sAsg, sRet, sRetN, sIf, sNext, sPar, sDrop, sFrz, sAug, dOp, dVar, dC, dTup, dLst, dCons, dNil, dCall, dCB, dIx, dTest, dAnd, dOr, dNot, dAndV, dOrV, dNotV, dB, dIf, dNeg, dFld, dSelf, sSelf, dSl, dNoPart, dPart, dRevT, dDic1, dIsN, entD, asg, setAll, fnEnds, startD, startI, initEnds, slE, slI, fieldD, frzs, frz, List.map, List.length, List.replicate, List.getElem?_cons_zero, List.getElem?_cons_succ, List.set_cons_zero, List.set_cons_succ, List.cons_append, List.nil_append, wF, wR, oI_int, oI0_int, oPlus_int, oTimes_int, o1I, o2I, oInt, negE, revE, seq_tup, seq_lst, oIx, atI_0, atI_1, o1S, oEq_int, oEq_bl, if_true, if_false, Bool.not_true, Bool.not_false]
  refine ixE_lf hr ⟨_, lf_get hr, ?_⟩
  simp only [lf, seq_lst, atI_nat er]
  by_cases hk : k = at'
  · rw [if_neg (by simp; omega)]
    exact q W (some _) o11 o12 (.inl rfl)
  · rw [if_pos (by simp; omega)]
    have e0' : ∀ x : Rat, atI [DL.D.int x.num, DL.D.int (x.den : Int)] 0 = some (.int x.num) := fun x => atI_0
    simp only [rat, pVar, pIx, dLeaf, dLenO, gtSub, gtNm, gtTup, gtCons, gtNil, sAsgT, sSetF, sApp, fLc, fLeaf, fOp, fList, fLst, owE_ow, ndE_nd, put_nil, w_law_draw, wDraw, wSeq, wRng1, wRng2, wZip, dLc, asgK_nm, asgK_tp2, sFor, oAll_map, oAny_map, wipeD, oSl, List.length_cons, List.length_nil, sSeq, sAsg, sRet, sRetN, sIf, sNext, sPar, sDrop, sFrz, sAug, dOp, dVar, dC, dTup, dLst, dCons, dNil, dCall, dCB, dIx, dTest, dAnd, dOr, dNot, dAndV, dOrV, dNotV, dB, dIf, dNeg, dFld, dSelf, sSelf, dSl, dNoPart, dPart, dRevT, dDic1, dIsN, entD, asg, setAll, fnEnds, startD, startI, initEnds, slE, slI, fieldD, frzs, frz, List.map, List.length, List.replicate, List.getElem?_cons_zero, List.getElem?_cons_succ, List.set_cons_zero, List.set_cons_succ, List.cons_append, List.nil_append, wF, wR, oI_int, oI0_int, oPlus_int, oTimes_int, o1I, o2I, oInt, negE, revE, seq_tup, seq_lst, oIx, atI_0, atI_1, o1S, oEq_int, oEq_bl, if_true, if_false, Bool.not_true, Bool.not_false, num_zero]
    by_cases hz : r[at'] = 0
    · rw [if_neg (by simpa using hz)]
      exact q W (some _) o11 o12 (.inl rfl)
    · rw [if_pos (by simpa using hz)]
      refine ⟨by cases o11 <;> cases o12 <;> rfl, ixE_lf hr ⟨_, lf_get hr, ?_⟩⟩
      simp only [lf]
      refine ixE_lf hP ⟨_, lf_get hP, ?_⟩
      simp only [lf, seq_lst]
      rw [zip_rats]
      refine lcD_mapA (fun p : Rat × Rat => DL.D.tup [rat p.1, rat p.2]) (fun p => rat (p.1 - r[at'] * p.2)) (fun p hp Q' q' => ?_) ?_
      · rw [asgK_tp2]
        have s1 := cr.sz (List.of_mem_zip hp).1
        have s2 := cP.sz (List.of_mem_zip hp).2
        have s3 := cr.sz hin
        have s4 : sz (m + m) (r[at'] * p.2) := by
          rw [← mul_divInt]
          exact sz_divInt (Int.mul_pos (den_pos _) (den_pos _)) (natAbs_mul_lt s3.1 s2.1) (pq_den s3 s2)
        exact ⟨r[at'], p.2, rfl, ⟨m, m, s3, s2, by omega⟩, p.1, r[at'] * p.2, rfl, ⟨m, m + m, s1, s4, by omega⟩, q'⟩
      · refine ixE_lf hr ?_
        have e : DL.D.lst ((r.zip P).map fun p => rat (p.1 - r[at'] * p.2)) = .lst (ratsD ((r.zip P).map fun p => p.1 - r[at'] * p.2)) := by unfold ratsD; rw [List.map_map]; rfl
        rw [e, set_lf]
        exact q _ (some _) o11 o12 (.inr ⟨hk, r[at'], hin, rfl⟩)
/-- the step of the elimination -/
def solOut (c : Cl) : WS := sSeq (sAsg (.nm 5) (dLc (.nm 7) (wRng2 (dCons (dVar 4) (dCons (dVar 3) (dNil)))) (dTest (dOp (oEq true) (dIx (dIx (dLeaf (pIx (pVar 2) (dVar 7))) (dVar 4)) (dC (.int 0))) (dC (.int 0)))) (dVar 7) [7]))
  (sSeq (sIf (dTest (dOp (oEq false) (dVar 5) (dLst (dNil)))) (sRet (dC .non)) (sNext))
  (sSeq (sAsgT (gtTup 2 (gtCons (gtSub 2 (pVar 2) (dVar 4)) (gtCons (gtSub 2 (pVar 2) (dIx (dVar 5) (dC (.int 0)))) (gtNil)))) (dTup (dCons (dLeaf (pIx (pVar 2) (dIx (dVar 5) (dC (.int 0))))) (dCons (dLeaf (pIx (pVar 2) (dVar 4))) (dNil)))))
  (sSeq (sAsg (.nm 6) (dIx (dLeaf (pIx (pVar 2) (dVar 4))) (dVar 4)))
  (sSeq (sAsgT (gtSub 2 (pVar 2) (dVar 4)) (dLc (.nm 10) (wSeq (dLeaf (pIx (pVar 2) (dVar 4)))) (dYes) (dCall (w_law_div c) (dCons (dVar 10) (dCons (dVar 6) (dNil)))) [10]))
  (sFor (.nm 7) (wRng1 (dCons (dVar 3) (dNil))) (solIn c))))))
theorem pl_ints (xs : List Int) : Pl (.lst (xs.map D.int)) := by
  have h1 : PyData.canLayAll0 (D.pys (xs.map D.int)) = true := by
    induction xs with
    | nil => rfl
    | cons x xs ih => rw [List.map_cons, D.pys, PyData.canLayAll0, ih]; rfl
  have h2 : PyData.depthAll (D.pys (xs.map D.int)) = 0 := by
    induction xs with
    | nil => rfl
    | cons x xs ih => rw [List.map_cons, D.pys, PyData.depthAll, ih (by
        rw [List.map_cons, D.pys, PyData.canLayAll0] at h1
        exact (Bool.and_eq_true_iff.mp h1).2)]; rfl
  unfold Pl SeqAt.shaped D.py PyData.canLay0 PyData.depth
  rw [h1, h2]; rfl
theorem oEq_nil {xs : List Int} {Q : D → Prop} (q : Q (.bl xs.isEmpty)) : oEq false (.lst (xs.map D.int)) (.lst []) Q := by
  refine ⟨pl_ints xs, pl_ints [], ?_⟩
  have e : eqD (.lst (xs.map D.int)) (.lst []) = xs.isEmpty := by
    unfold eqD D.py PyData.eqv
    cases xs with
    | nil => rfl
    | cons x xs => rfl
  rw [e]
  exact q
theorem getD_of {α : Type} {l : List α} {i : Nat} {x d : α} (h : l[i]? = some x) : l.getD i d = x := by rw [List.getD_eq_getElem?_getD, h]; rfl
/-- all rows of N + 1 ratios, of m bits at most -/
def WkI (N m : Nat) (W : List (List Rat)) : Prop := W.length = N ∧ ∀ r ∈ W, r.length = N + 1 ∧ CdRow m r
theorem WkI.get {N m k : Nat} {W : List (List Rat)} (h : WkI N m W) (hk : k < N) : ∃ r, W[k]? = some r ∧ r.length = N + 1 ∧ CdRow m r := by
  have hl : k < W.length := by rw [h.1]; exact hk
  exact ⟨W[k], List.getElem?_eq_getElem hl, h.2 _ (List.getElem_mem hl)⟩
theorem WkI.set {N m k : Nat} {W : List (List Rat)} {r : List Rat} (h : WkI N m W) (hl : r.length = N + 1) (hc : CdRow m r) : WkI N m (W.set k r) := by
  refine ⟨by rw [List.length_set]; exact h.1, fun x hx => ?_⟩
  rcases List.mem_or_eq_of_mem_set hx with h1 | h1
  · exact h.2 x h1
  · rw [h1]; exact ⟨hl, hc⟩
theorem WkI.mono {N m k : Nat} {W : List (List Rat)} (h : WkI N m W) (hk : m ≤ k) : WkI N k W := ⟨h.1, fun r hr => ⟨(h.2 r hr).1, (h.2 r hr).2.mono hk⟩⟩
theorem solOut_ok (c : Cl) {D : DEn} {n : Nat} {a : Addr} {W : List (List Rat)} {at' N m : Nat} {e0 e1 : Ent} {o5 o6 o7 o8 o9 o10 o11 o12 : Option DL.D} (hW : WkI N m W) (ha : at' < N) (hN : N ≤ 1000) (hm : m ≤ 2000)
    (qr : D.rt .non n)
    (q : ∀ W' o5' o6' o7' o8' o9' o10' o11' o12', WkI N (2 * m + 1) W' → D.nx [e0, e1, .ow (.node a (W'.map lf)), .sh (.int N), .sh (.int (at' : Nat)), sn o5', sn o6', sn o7', sn o8', sn o9', sn o10', sn o11', sn o12'] n) :
    solOut c [e0, e1, .ow (.node a (W.map lf)), .sh (.int N), .sh (.int (at' : Nat)), sn o5, sn o6, sn o7, sn o8, sn o9, sn o10, sn o11, sn o12] n D := by
  unfold solOut
  simp only [pVar, pIx, dLeaf, dLenO, gtSub, gtNm, gtTup, gtCons, gtNil, sAsgT, sSetF, sApp, fLc, fLeaf, fOp, fList, fLst, owE_ow, ndE_nd, put_nil, w_law_draw, wDraw, wSeq, wRng1, wRng2, wZip, dLc, asgK_nm, asgK_tp2, sFor, oAll_map, oAny_map, wipeD, oSl, List.length_cons, List.length_nil, sSeq, sAsg, sRet, sRetN, sIf, sNext, sPar, sDrop, sFrz, sAug, dOp, dVar, dC, dTup, dLst, dCons, dNil, dCall, dCB, dIx, dTest, dAnd, dOr, dNot, dAndV, dOrV, dNotV, dB, dIf, dNeg, dFld, dSelf, sSelf, dSl, dNoPart, dPart, dRevT, dDic1, dIsN, entD, asg, setAll, fnEnds, startD, startI, initEnds, slE, slI, fieldD, frzs, frz, List.map, List.length, List.replicate, List.getElem?_cons_zero, List.getElem?_cons_succ, List.set_cons_zero, List.set_cons_succ, List.cons_append, List.nil_append, wF, wR, oI_int, oI0_int, oPlus_int, oTimes_int, o1I, o2I, oInt, negE, revE, seq_tup, seq_lst, oIx, atI_0, atI_1, o1S, oEq_int, oEq_bl, if_true, if_false, Bool.not_true, Bool.not_false]
  refine ⟨by cases o7 <;> rfl, ⟨by omega, by omega, by omega, by omega⟩, ?_⟩
  have ed : ((N : Int) - (at' : Int)).toNat = N - at' := by omega
  rw [ed]
  unfold rangeD
  refine lcD_filterA (fun (i : Nat) => DL.D.int ((at' : Int) + (i : Int))) (fun (i : Nat) => DL.D.int ((at' : Int) + (i : Int))) (fun i => !decide (((W.getD (at' + i) []).getD at' 0) = 0)) (fun i hi => ?_) ?_
  · have hi := List.mem_range.mp hi
    obtain ⟨r, er, lr, cr⟩ := hW.get (k := at' + i) (by omega)
    have hat : at' < r.length := by omega
    have er' : (ratsD r)[at']? = some (rat r[at']) := getElem_ratsD hat
    have ei : (at' : Int) + (i : Int) = ((at' + i : Nat) : Int) := by omega
    have eg : (W.getD (at' + i) []).getD at' 0 = r[at'] := by
      rw [getD_of er, getD_of (List.getElem?_eq_getElem hat)]
    rw [asgK_nm]
    refine ⟨fun Q' q' => ?_, fun _ Q' q' => ?_⟩
    · simp only [pVar, pIx, dLeaf, dLenO, gtSub, gtNm, gtTup, gtCons, gtNil, sAsgT, sSetF, sApp, fLc, fLeaf, fOp, fList, fLst, owE_ow, ndE_nd, put_nil, w_law_draw, wDraw, wSeq, wRng1, wRng2, wZip, dLc, asgK_nm, asgK_tp2, sFor, oAll_map, oAny_map, wipeD, oSl, List.length_cons, List.length_nil, sSeq, sAsg, sRet, sRetN, sIf, sNext, sPar, sDrop, sFrz, sAug, dOp, dVar, dC, dTup, dLst, dCons, dNil, dCall, dCB, dIx, dTest, dAnd, dOr, dNot, dAndV, dOrV, dNotV, dB, dIf, dNeg, dFld, dSelf, sSelf, dSl, dNoPart, dPart, dRevT, dDic1, dIsN, entD, asg, setAll, fnEnds, startD, startI, initEnds, slE, slI, fieldD, frzs, frz, List.map, List.length, List.replicate, List.getElem?_cons_zero, List.getElem?_cons_succ, List.set_cons_zero, List.set_cons_succ, List.cons_append, List.nil_append, wF, wR, oI_int, oI0_int, oPlus_int, oTimes_int, o1I, o2I, oInt, negE, revE, seq_tup, seq_lst, oIx, atI_0, atI_1, o1S, oEq_int, oEq_bl, if_true, if_false, Bool.not_true, Bool.not_false, ei]
      refine ixE_lf er ⟨_, lf_get er, ?_⟩
      simp only [lf, seq_lst, atI_nat er']
      simp only [rat, pVar, pIx, dLeaf, dLenO, gtSub, gtNm, gtTup, gtCons, gtNil, sAsgT, sSetF, sApp, fLc, fLeaf, fOp, fList, fLst, owE_ow, ndE_nd, put_nil, w_law_draw, wDraw, wSeq, wRng1, wRng2, wZip, dLc, asgK_nm, asgK_tp2, sFor, oAll_map, oAny_map, wipeD, oSl, List.length_cons, List.length_nil, sSeq, sAsg, sRet, sRetN, sIf, sNext, sPar, sDrop, sFrz, sAug, dOp, dVar, dC, dTup, dLst, dCons, dNil, dCall, dCB, dIx, dTest, dAnd, dOr, dNot, dAndV, dOrV, dNotV, dB, dIf, dNeg, dFld, dSelf, sSelf, dSl, dNoPart, dPart, dRevT, dDic1, dIsN, entD, asg, setAll, fnEnds, startD, startI, initEnds, slE, slI, fieldD, frzs, frz, List.map, List.length, List.replicate, List.getElem?_cons_zero, List.getElem?_cons_succ, List.set_cons_zero, List.set_cons_succ, List.cons_append, List.nil_append, wF, wR, oI_int, oI0_int, oPlus_int, oTimes_int, o1I, o2I, oInt, negE, revE, seq_tup, seq_lst, oIx, atI_0, atI_1, o1S, oEq_int, oEq_bl, if_true, if_false, Bool.not_true, Bool.not_false, num_zero]
      rw [eg] at q'
      exact q'
    · simp only [pVar, pIx, dLeaf, dLenO, gtSub, gtNm, gtTup, gtCons, gtNil, sAsgT, sSetF, sApp, fLc, fLeaf, fOp, fList, fLst, owE_ow, ndE_nd, put_nil, w_law_draw, wDraw, wSeq, wRng1, wRng2, wZip, dLc, asgK_nm, asgK_tp2, sFor, oAll_map, oAny_map, wipeD, oSl, List.length_cons, List.length_nil, sSeq, sAsg, sRet, sRetN, sIf, sNext, sPar, sDrop, sFrz, sAug, dOp, dVar, dC, dTup, dLst, dCons, dNil, dCall, dCB, dIx, dTest, dAnd, dOr, dNot, dAndV, dOrV, dNotV, dB, dIf, dNeg, dFld, dSelf, sSelf, dSl, dNoPart, dPart, dRevT, dDic1, dIsN, entD, asg, setAll, fnEnds, startD, startI, initEnds, slE, slI, fieldD, frzs, frz, List.map, List.length, List.replicate, List.getElem?_cons_zero, List.getElem?_cons_succ, List.set_cons_zero, List.set_cons_succ, List.cons_append, List.nil_append, wF, wR, oI_int, oI0_int, oPlus_int, oTimes_int, o1I, o2I, oInt, negE, revE, seq_tup, seq_lst, oIx, atI_0, atI_1, o1S, oEq_int, oEq_bl, if_true, if_false, Bool.not_true, Bool.not_false]
      exact q'
  · have e : ((List.range (N - at')).filter fun i => !decide (((W.getD (at' + i) []).getD at' 0) = 0)).map (fun (i : Nat) => DL.D.int ((at' : Int) + (i : Int))) = (((List.range (N - at')).filter fun i => !decide (((W.getD (at' + i) []).getD at' 0) = 0)).map fun (i : Nat) => (at' : Int) + (i : Int)).map DL.D.int := by rw [List.map_map]; rfl
    rw [e]
    refine oEq_nil ?_
    cases hF : (List.range (N - at')).filter fun i => !decide (((W.getD (at' + i) []).getD at' 0) = 0) with
    | nil => exact qr
    | cons i0 is =>
      have hi0 : i0 ∈ (List.range (N - at')).filter fun i => !decide (((W.getD (at' + i) []).getD at' 0) = 0) := by rw [hF]; exact List.mem_cons_self
      obtain ⟨hi1, hi2⟩ := List.mem_filter.mp hi0
      have hi1 := List.mem_range.mp hi1
      obtain ⟨R, eR, lR, cR⟩ := hW.get (k := at' + i0) (by omega)
      obtain ⟨S, eS, lS, cS⟩ := hW.get (k := at') ha
      have hatR : at' < R.length := by omega
      have eg : (W.getD (at' + i0) []).getD at' 0 = R[at'] := by
        rw [getD_of eR, getD_of (List.getElem?_eq_getElem hatR)]
      rw [eg] at hi2
      have h0 : R[at'] ≠ 0 := by simpa using hi2
      have ei : (at' : Int) + (i0 : Int) = ((at' + i0 : Nat) : Int) := by omega
      simp only [List.map_cons, List.isEmpty_cons, Bool.false_eq_true, if_false, pVar, pIx, dLeaf, dLenO, gtSub, gtNm, gtTup, gtCons, gtNil, sAsgT, sSetF, sApp, fLc, fLeaf, fOp, fList, fLst, owE_ow, ndE_nd, put_nil, w_law_draw, wDraw, wSeq, wRng1, wRng2, wZip, dLc, asgK_nm, asgK_tp2, sFor, oAll_map, oAny_map, wipeD, oSl, List.length_cons, List.length_nil, sSeq, sAsg, sRet, sRetN, sIf, sNext, sPar, sDrop, sFrz, sAug, dOp, dVar, dC, dTup, dLst, dCons, dNil, dCall, dCB, dIx, dTest, dAnd, dOr, dNot, dAndV, dOrV, dNotV, dB, dIf, dNeg, dFld, dSelf, sSelf, dSl, dNoPart, dPart, dRevT, dDic1, dIsN, entD, asg, setAll, fnEnds, startD, startI, initEnds, slE, slI, fieldD, frzs, frz, List.map, List.length, List.replicate, List.getElem?_cons_zero, List.getElem?_cons_succ, List.set_cons_zero, List.set_cons_succ, List.cons_append, List.nil_append, wF, wR, oI_int, oI0_int, oPlus_int, oTimes_int, o1I, o2I, oInt, negE, revE, seq_tup, seq_lst, oIx, atI_0, atI_1, o1S, oEq_int, oEq_bl, if_true, if_false, Bool.not_true, Bool.not_false, ei]
      refine ixE_lf eR ⟨_, lf_get eR, ?_⟩
      simp only [lf]
      refine ixE_lf eS ⟨_, lf_get eS, ?_⟩
      simp only [lf]
      have h1 : (W.set at' R)[at' + i0]? = some R := by
        by_cases hi : i0 = 0
        · subst hi
          rw [Nat.add_zero, List.getElem?_set_self (by rw [hW.1]; exact ha)]
        · rw [List.getElem?_set_ne (by omega)]; exact eR
      have h2 : ((W.set at' R).set (at' + i0) S)[at']? = some R := by
        by_cases hi : i0 = 0
        · subst hi
          rw [Nat.add_zero] at eR ⊢
          rw [eR] at eS
          cases eS
          rw [List.getElem?_set_self (by rw [List.length_set, hW.1]; exact ha)]
        · rw [List.getElem?_set_ne (by omega), List.getElem?_set_self (by rw [hW.1]; exact ha)]
      have hW2 : WkI N m ((W.set at' R).set (at' + i0) S) := (hW.set lR cR).set lS cS
      refine ⟨trivial, ixE_lf eS ?_⟩
      rw [set_lf]
      refine ixE_lf h1 ⟨trivial, ?_⟩
      rw [set_lf]
      generalize (W.set at' R).set (at' + i0) S = W2 at h2 hW2
      have er' : (ratsD R)[at']? = some (rat R[at']) := getElem_ratsD hatR
      have hin : R[at'] ∈ R := List.getElem_mem hatR
      refine ixE_lf h2 ⟨_, lf_get h2, ?_⟩
      simp only [lf, seq_lst, atI_nat er']
      refine ⟨by cases o10 <;> rfl, ixE_lf h2 ⟨_, lf_get h2, ?_⟩⟩
      simp only [lf, seq_lst]
      refine lcD_mapA rat (fun q => rat (q / R[at'])) (fun x hx Q' q' => ?_) ?_
      · rw [asgK_nm]
        exact ⟨x, R[at'], rfl, ⟨m, m, cR.sz hx, cR.sz hin, by omega⟩, h0, q'⟩
      · have eP : DL.D.lst (R.map fun q => rat (q / R[at'])) = .lst (ratsD (R.map fun q => q / R[at'])) := by unfold ratsD; rw [List.map_map]; rfl
        rw [eP]
        have cP := cd_div cR hin h0
        have lP : (R.map fun q => q / R[at']).length = N + 1 := by rw [List.length_map]; exact lR
        refine ixE_lf h2 ?_
        rw [set_lf]
        refine ⟨⟨by omega, by omega⟩, ?_⟩
        have hP : (W2.set at' (R.map fun q => q / R[at']))[at']? = some (R.map fun q => q / R[at']) := List.getElem?_set_self (by rw [hW2.1]; exact ha)
        have hW3 := hW2.set (k := at') lP cP
        generalize R.map (fun q => q / R[at']) = P at hP hW3 cP lP
        generalize W2.set at' P = W3 at hP hW3
        rw [Int.toNat_natCast]
        refine forD_inv (fun k ρ n' => n' = n ∧ ∃ W o5 o6 o7 o8 o9 o10 o11 o12, ρ = [e0, e1, .ow (.node a (W.map lf)), .sh (.int N), .sh (.int (at' : Nat)), sn o5, sn o6, sn o7, sn o8, sn o9, sn o10, sn o11, sn o12] ∧ W.length = N ∧ W[at']? = some P ∧
          ∀ j r, W[j]? = some r → r.length = N + 1 ∧ CdRow (2 * m + 1) r ∧ (k ≤ j → CdRow m r)) 0 ⟨rfl, W3, some _, some _, o7, o8, o9, o10, o11, o12, rfl, hW3.1, hP, fun j r hj => ?_⟩ ?_ ?_
        · have := hW3.2 r (List.mem_of_getElem? hj)
          exact ⟨this.1, this.2.mono (by omega), fun _ => this.2⟩
        · rintro k d ρ n' hd ⟨rfl, W, o5, o6, o7, o8, o9, o10, o11, o12, rfl, hl, hP, hr⟩ Nx hN
          rw [Nat.zero_add] at hr hN
          have hk := range_get hd
          obtain ⟨hk, rfl⟩ := hk
          obtain ⟨r, er⟩ : ∃ r, W[k]? = some r := ⟨W[k]'(by omega), List.getElem?_eq_getElem _⟩
          obtain ⟨lr, cr1, cr⟩ := hr k r er
          have cr := cr (Nat.le_refl _)
          rw [asgK_nm]
          refine solIn_ok c (N := N) (o8 := o8) (o9 := o9) (o10 := o10) (o11 := o11) (o12 := o12) hP er lr lP ha cr cP hm fun W' o8' o11' o12' hw => hN _ _ ⟨rfl, W', o5, o6, some _, o8', o9, o10, o11', o12', rfl, ?_⟩
          rcases hw with rfl | ⟨hne, b, hb, rfl⟩
          · exact ⟨hl, hP, fun j r' hj => ⟨(hr j r' hj).1, (hr j r' hj).2.1, fun h => (hr j r' hj).2.2 (by omega)⟩⟩
          · refine ⟨by rw [List.length_set]; exact hl, by rw [List.getElem?_set_ne (by omega)]; exact hP, fun j r' hj => ?_⟩
            by_cases hjk : k = j
            · subst hjk
              rw [List.getElem?_set_self (by omega)] at hj
              cases hj
              exact ⟨by rw [List.length_map, List.length_zip, lr, lP, Nat.min_self], cd_sub cr cP hb, fun h => by omega⟩
            · rw [List.getElem?_set_ne hjk] at hj
              exact ⟨(hr j r' hj).1, (hr j r' hj).2.1, fun h => (hr j r' hj).2.2 (by omega)⟩
        · rintro ρ n' ⟨rfl, W, o5, o6, o7, o8, o9, o10, o11, o12, rfl, hl, hP, hr⟩
          exact q W o5 o6 o7 o8 o9 o10 o11 o12 ⟨hl, fun r hr' => by
            obtain ⟨j, hj⟩ := List.getElem?_of_mem hr'
            exact ⟨(hr j r hj).1, (hr j r hj).2.1⟩⟩
theorem atI_neg1 {ds : List D} {N : Nat} {d : D} (hl : ds.length = N + 1) (h : ds[N]? = some d) : atI ds (-1) = some d := by
  unfold atI ixN
  rw [hl, if_neg (by decide), if_pos (by omega)]
  have e : ((-1 : Int) + ((N + 1 : Nat) : Int)).toNat = N := by omega
  rw [e]
  exact h
theorem toD_work {a : Addr} {W : List (List Rat)} : (OT.node a (W.map lf)).toD = .lst (W.map rowL) := by
  show D.lst (OT.toDs (W.map lf)) = _
  rw [toDs_map]; rfl
theorem mm_step (i : Nat) : 2 * (90 * 2 ^ i - 1) + 1 = 90 * 2 ^ (i + 1) - 1 := by
  have : 0 < 2 ^ i := Nat.pow_pos (by decide)
  rw [Nat.pow_succ]; omega
theorem rd_law_solution (c : Cl) : ∀ ds n Q Ex, ds.length = (["rows", "column"] : List Str).length → w_law_solution c ds n Q Ex → m_law_solution c (startD ["rows", "column", "work", "size", "at", "heads", "head", "k", "by", "row", "item", "one", "two"] ds) n (fnEnds Q fun _ _ => False) := by
  rintro ds n Q Ex - ⟨M, col, rfl, hne, h4, hc, hM, z1, z2⟩
  simp only [m_law_solution, pVar, pIx, dLeaf, dLenO, gtSub, gtNm, gtTup, gtCons, gtNil, sAsgT, sSetF, sApp, fLc, fLeaf, fOp, fList, fLst, owE_ow, ndE_nd, put_nil, w_law_draw, wDraw, wSeq, wRng1, wRng2, wZip, dLc, asgK_nm, asgK_tp2, sFor, oAll_map, oAny_map, wipeD, oSl, List.length_cons, List.length_nil, sSeq, sAsg, sRet, sRetN, sIf, sNext, sPar, sDrop, sFrz, sAug, dOp, dVar, dC, dTup, dLst, dCons, dNil, dCall, dCB, dIx, dTest, dAnd, dOr, dNot, dAndV, dOrV, dNotV, dB, dIf, dNeg, dFld, dSelf, sSelf, dSl, dNoPart, dPart, dRevT, dDic1, dIsN, entD, asg, setAll, fnEnds, startD, startI, initEnds, slE, slI, fieldD, frzs, frz, List.map, List.length, List.replicate, List.getElem?_cons_zero, List.getElem?_cons_succ, List.set_cons_zero, List.set_cons_succ, List.cons_append, List.nil_append, wF, wR, oI_int, oI0_int, oPlus_int, oTimes_int, o1I, o2I, oInt, negE, revE, seq_tup, seq_lst, oIx, atI_0, atI_1, o1S, oEq_int, oEq_bl, if_true, if_false, Bool.not_true, Bool.not_false]
  refine ⟨rfl, ?_⟩
  rw [zipD_eq]
  unfold ratsD
  rw [List.zip_map, List.map_map]
  refine lcF_mapA ((fun p : D × D => D.tup [p.1, p.2]) ∘ Prod.map rowL rat) (fun p : List Rat × Rat => lf (p.1 ++ [p.2])) (fun p hp Q' q' => ?_) ?_
  · show asgK (.tp [9, 10]) (.tup [rowL p.1, rat p.2]) _ _
    rw [asgK_tp2]
    simp only [rowL, pVar, pIx, dLeaf, dLenO, gtSub, gtNm, gtTup, gtCons, gtNil, sAsgT, sSetF, sApp, fLc, fLeaf, fOp, fList, fLst, owE_ow, ndE_nd, put_nil, w_law_draw, wDraw, wSeq, wRng1, wRng2, wZip, dLc, asgK_nm, asgK_tp2, sFor, oAll_map, oAny_map, wipeD, oSl, List.length_cons, List.length_nil, sSeq, sAsg, sRet, sRetN, sIf, sNext, sPar, sDrop, sFrz, sAug, dOp, dVar, dC, dTup, dLst, dCons, dNil, dCall, dCB, dIx, dTest, dAnd, dOr, dNot, dAndV, dOrV, dNotV, dB, dIf, dNeg, dFld, dSelf, sSelf, dSl, dNoPart, dPart, dRevT, dDic1, dIsN, entD, asg, setAll, fnEnds, startD, startI, initEnds, slE, slI, fieldD, frzs, frz, List.map, List.length, List.replicate, List.getElem?_cons_zero, List.getElem?_cons_succ, List.set_cons_zero, List.set_cons_succ, List.cons_append, List.nil_append, wF, wR, oI_int, oI0_int, oPlus_int, oTimes_int, o1I, o2I, oInt, negE, revE, seq_tup, seq_lst, oIx, atI_0, atI_1, o1S, oEq_int, oEq_bl, if_true, if_false, Bool.not_true, Bool.not_false, seq_lst]
    have hl := (hM p hp).1
    have e : ratsD p.1 ++ [rat p.2] = ratsD (p.1 ++ [p.2]) := by unfold ratsD; rw [List.map_append]; rfl
    refine ⟨small_le (by rw [ratsD_len]; simp; omega), ?_⟩
    rw [e]
    exact q'
  · intro a
    have eW : (M.zip col).map (fun p => lf (p.1 ++ [p.2])) = ((M.zip col).map fun p => p.1 ++ [p.2]).map lf := by rw [List.map_map]; rfl
    have hW : WkI M.length 89 ((M.zip col).map fun p => p.1 ++ [p.2]) := by
      refine ⟨by rw [List.length_map, List.length_zip, hc, Nat.min_self], fun r hr => ?_⟩
      obtain ⟨p, hp, rfl⟩ := List.mem_map.mp hr
      exact ⟨by rw [List.length_append, (hM p hp).1]; rfl, (hM p hp).2⟩
    have hlW : ((M.zip col).map fun p => lf (p.1 ++ [p.2])).length = M.length := by rw [List.length_map, List.length_zip, hc, Nat.min_self]
    rw [eW]
    rw [eW] at hlW
    generalize (M.zip col).map (fun p => p.1 ++ [p.2]) = W0 at hW hlW
    have hN : 0 < M.length := List.length_pos_iff.mpr hne
    generalize M.length = N at hW hlW h4 hN z2
    simp only [hlW]
    rw [Int.toNat_natCast]
    unfold rangeD
    refine ⟨⟨by omega, by omega⟩, ?_⟩
    refine forD_inv (fun i ρ n' => n' = n ∧ i ≤ N ∧ ∃ W o4 o5 o6 o7 o8 o9 o10 o11 o12, ρ = [.sh (.lst (M.map rowL)), .sh (.lst (col.map rat)), .ow (.node a (W.map lf)), .sh (.int N), sn o4, sn o5, sn o6, sn o7, sn o8, sn o9, sn o10, sn o11, sn o12] ∧ WkI N (90 * 2 ^ i - 1) W)
      0 ⟨rfl, Nat.zero_le _, W0, none, none, none, none, none, none, none, none, none, rfl, hW⟩ ?_ ?_
    · rintro i d ρ n' hd ⟨rfl, hi, W, o4, o5, o6, o7, o8, o9, o10, o11, o12, rfl, hw⟩ Nx hNx
      obtain ⟨hiN, rfl⟩ := range_get hd
      rw [Nat.zero_add] at hw hNx
      rw [asgK_nm]
      have hp : 2 ^ i ≤ 2 ^ 3 := Nat.pow_le_pow_right (by decide) (by omega)
      refine solOut_ok c (o5 := o5) (o6 := o6) (o7 := o7) (o8 := o8) (o9 := o9) (o10 := o10) (o11 := o11) (o12 := o12) hw hiN (by omega) (by omega) z1 fun W' o5' o6' o7' o8' o9' o10' o11' o12' hw' => hNx _ _ ⟨rfl, by omega, W', some _, o5', o6', o7', o8', o9', o10', o11', o12', rfl, ?_⟩
      rw [mm_step] at hw'
      exact hw'
    · rintro ρ n' ⟨rfl, hi, W, o4, o5, o6, o7, o8, o9, o10, o11, o12, rfl, hw⟩
      rw [List.length_map, List.length_range, Nat.zero_add] at hw
      have hp : 2 ^ N ≤ 2 ^ 4 := Nat.pow_le_pow_right (by decide) h4
      simp only [pVar, pIx, dLeaf, dLenO, gtSub, gtNm, gtTup, gtCons, gtNil, sAsgT, sSetF, sApp, fLc, fLeaf, fOp, fList, fLst, owE_ow, ndE_nd, put_nil, w_law_draw, wDraw, wSeq, wRng1, wRng2, wZip, dLc, asgK_nm, asgK_tp2, sFor, oAll_map, oAny_map, wipeD, oSl, List.length_cons, List.length_nil, sSeq, sAsg, sRet, sRetN, sIf, sNext, sPar, sDrop, sFrz, sAug, dOp, dVar, dC, dTup, dLst, dCons, dNil, dCall, dCB, dIx, dTest, dAnd, dOr, dNot, dAndV, dOrV, dNotV, dB, dIf, dNeg, dFld, dSelf, sSelf, dSl, dNoPart, dPart, dRevT, dDic1, dIsN, entD, asg, setAll, fnEnds, startD, startI, initEnds, slE, slI, fieldD, frzs, frz, List.map, List.length, List.replicate, List.getElem?_cons_zero, List.getElem?_cons_succ, List.set_cons_zero, List.set_cons_succ, List.cons_append, List.nil_append, wF, wR, oI_int, oI0_int, oPlus_int, oTimes_int, o1I, o2I, oInt, negE, revE, seq_tup, seq_lst, oIx, atI_0, atI_1, o1S, oEq_int, oEq_bl, if_true, if_false, Bool.not_true, Bool.not_false, toD_work]
      refine ⟨by cases o9 <;> rfl, ?_⟩
      refine lcD_mapA rowL (fun r => rat (r.getD N 0)) (fun r hr Q' q' => ?_) ?_
      · obtain ⟨lr, cr⟩ := hw.2 r hr
        have e : (ratsD r)[N]? = some (rat (r.getD N 0)) := by
          rw [getElem_ratsD (by omega : N < r.length), getD_of (List.getElem?_eq_getElem (by omega : N < r.length))]
        rw [asgK_nm]
        simp only [rowL, seq_lst, pVar, pIx, dLeaf, dLenO, gtSub, gtNm, gtTup, gtCons, gtNil, sAsgT, sSetF, sApp, fLc, fLeaf, fOp, fList, fLst, owE_ow, ndE_nd, put_nil, w_law_draw, wDraw, wSeq, wRng1, wRng2, wZip, dLc, asgK_nm, asgK_tp2, sFor, oAll_map, oAny_map, wipeD, oSl, List.length_cons, List.length_nil, sSeq, sAsg, sRet, sRetN, sIf, sNext, sPar, sDrop, sFrz, sAug, dOp, dVar, dC, dTup, dLst, dCons, dNil, dCall, dCB, dIx, dTest, dAnd, dOr, dNot, dAndV, dOrV, dNotV, dB, dIf, dNeg, dFld, dSelf, sSelf, dSl, dNoPart, dPart, dRevT, dDic1, dIsN, entD, asg, setAll, fnEnds, startD, startI, initEnds, slE, slI, fieldD, frzs, frz, List.map, List.length, List.replicate, List.getElem?_cons_zero, List.getElem?_cons_succ, List.set_cons_zero, List.set_cons_succ, List.cons_append, List.nil_append, wF, wR, oI_int, oI0_int, oPlus_int, oTimes_int, o1I, o2I, oInt, negE, revE, seq_tup, seq_lst, oIx, atI_0, atI_1, o1S, oEq_int, oEq_bl, if_true, if_false, Bool.not_true, Bool.not_false, atI_neg1 (by rw [ratsD_len]; exact lr) e]
        exact q'
      · have z := z2 (W.map fun r => r.getD N 0) (by rw [List.length_map]; exact hw.1) (fun x hx => by
          obtain ⟨r, hr, rfl⟩ := List.mem_map.mp hx
          obtain ⟨lr, cr⟩ := hw.2 r hr
          rw [getD_of (List.getElem?_eq_getElem (by omega : N < r.length))]
          exact sz_mono (cr.sz (List.getElem_mem _)) (by omega))
        have e : rowD (W.map fun r => r.getD N 0) = .tup (W.map fun r => rat (r.getD N 0)) := by unfold rowD ratsD; rw [List.map_map]; rfl
        rw [e] at z
        exact z
end DL

set_option Elab.async false
set_option linter.all false
set_option maxRecDepth 100000
set_option maxHeartbeats 4000000
namespace DL
open PySem PySem.Spec PyProof.Rows L2

/-! ### drawn rows -/
theorem sz_sub {h k : Nat} {p q : Rat} (s : sz h p) (t : sz k q) : sz (h + k + 1) (p - q) := by
  rw [← sub_divInt]
  refine sz_divInt (Int.mul_pos (den_pos _) (den_pos _)) ?_ (lt_pow_mono (pq_den s t) (by omega))
  exact natAbs_sub_lt (natAbs_mul_lt s.1 (dn t)) (lt_pow_mono (natAbs_mul_lt t.1 (dn s)) (by omega))
theorem sz_add {h k : Nat} {p q : Rat} (s : sz h p) (t : sz k q) : sz (h + k + 1) (p + q) := by
  rw [← add_divInt]
  refine sz_divInt (Int.mul_pos (den_pos _) (den_pos _)) ?_ (lt_pow_mono (pq_den s t) (by omega))
  exact natAbs_add_lt (natAbs_mul_lt s.1 (dn t)) (lt_pow_mono (natAbs_mul_lt t.1 (dn s)) (by omega))
theorem sz_mul {h k : Nat} {p q : Rat} (s : sz h p) (t : sz k q) : sz (h + k) (p * q) := by
  rw [← mul_divInt]
  exact sz_divInt (Int.mul_pos (den_pos _) (den_pos _)) (natAbs_mul_lt s.1 t.1) (pq_den s t)
/-- a written ratio -/
def wr (p : Int × Int) : D := .tup [.int p.1, .int p.2]
def wrOk (h : Nat) (p : Int × Int) : Bool := decide (0 < p.2) && decide (Nat.gcd p.1.natAbs p.2.natAbs = 1) && decide (p.1.natAbs < 2 ^ h) && decide (p.2.natAbs < 2 ^ h)
theorem wr_rat {h : Nat} {p : Int × Int} (w : wrOk h p = true) : ∃ q, wr p = rat q ∧ sz h q ∧ q = Rat.divInt p.1 p.2 := by
  unfold wrOk at w
  simp only [Bool.and_eq_true, decide_eq_true_eq] at w
  obtain ⟨⟨⟨h1, h2⟩, h3⟩, h4⟩ := w
  refine ⟨Rat.divInt p.1 p.2, ?_, sz_divInt h1 h3 h4, rfl⟩
  have e := low_rat (t := p.1) h1
  rw [h2] at e
  rw [← e]
  show D.tup [.int p.1, .int p.2] = _
  simp
theorem wr_pick {h : Nat} {ps : List (Int × Int)} {x : D} (hx : x ∈ ps.map wr) (w : ps.all (wrOk h) = true) : ∃ q, x = rat q ∧ sz h q := by
  obtain ⟨p, hp, rfl⟩ := List.mem_map.mp hx
  obtain ⟨q, e, s, _⟩ := wr_rat (List.all_eq_true.mp w p hp)
  exact ⟨q, e, s⟩
abbrev w_law_own_row (c : Cl) : W := fun ds n Q _ => ∃ p S t, ds = [.pen p, matD S, .bl t] ∧ szS 15 S ∧ SqS S 4 ∧ n + 8 ≤ 2 ^ 40 ∧ ∀ xs k, n ≤ k → k ≤ n + 8 → xs.length = S.length → (∀ x ∈ xs, sz 1439 x) → Q (rowD xs) k
theorem wm_law_own_row {c : Cl} : Wm (w_law_own_row c) := ⟨fun ds n Q Q' E E' hq he ⟨p, S, t, e, h1, h2, h3, z⟩ => ⟨p, S, t, e, h1, h2, h3, fun xs k a b d e => hq _ _ (z xs k a b d e)⟩⟩
def m_law_own_row (c : Cl) : WS := sSeq (sAsg (.nm 3) (dCall (w_law_sizes c) (dCons (dVar 1) (dNil))))
  (sSeq (sAsg (.nm 4) (dLc (.nm 7) (wRng1 (dCons (dCB oLen (dCons (dVar 3) (dNil))) (dNil))) (dYes) (dLc (.nm 9) (wRng1 (dCons (dCB oLen (dCons (dVar 3) (dNil))) (dNil))) (dYes) (dCall (w_law_sub c) (dCons (dTup (dCons (dCB oInt (dCons (dOp (oEq false) (dVar 7) (dVar 9)) (dNil))) (dCons (dC (.int 1)) (dNil)))) (dCons (dIf (dTest (dVar 2)) (dIx (dIx (dVar 3) (dVar 9)) (dVar 7)) (dIx (dIx (dVar 3) (dVar 7)) (dVar 9))) (dNil)))) [9]) [7]))
  (sSeq (sAsg (.nm 5) (dLc (.nm 8) (wSeq (dVar 4)) (dYes) (dCall (w_law_pick c) (dCons (dVar 0) (dCons (dLst (dCons (dTup (dCons (dC (.int 1)) (dCons (dC (.int 1)) (dNil)))) (dCons (dTup (dCons (dC (.int 1)) (dCons (dC (.int 2)) (dNil)))) (dCons (dTup (dCons (dC (.int 3)) (dCons (dC (.int 1)) (dNil)))) (dCons (dTup (dCons (dC (.int 1)) (dCons (dOp oPow (dC (.int 10)) (dC (.int 6))) (dNil)))) (dNil)))))) (dNil)))) [8]))
  (sSeq (sAsg (.nm 6) (dCall (w_law_solution c) (dCons (dVar 4) (dCons (dVar 5) (dNil)))))
  (sSeq (sIf (dAnd (dTest (dIsN true (dVar 6))) (dTest (dCB oAll (dCons (dLc (.nm 10) (wSeq (dVar 6)) (dYes) (dOp oGt (dIx (dVar 10) (dC (.int 0))) (dC (.int 0))) [10]) (dNil))))) (sRet (dVar 6)) (sNext))
  (sRet (dCB oTuple (dCons (dLc (.nm 8) (wSeq (dVar 4)) (dYes) (dCall (w_law_pick c) (dCons (dVar 0) (dCons (dLst (dCons (dTup (dCons (dC (.int 1)) (dCons (dC (.int 1)) (dNil)))) (dCons (dTup (dCons (dC (.int 1)) (dCons (dC (.int 1)) (dNil)))) (dCons (dTup (dCons (dC (.int 1)) (dCons (dC (.int 2)) (dNil)))) (dCons (dTup (dCons (dC (.int 2)) (dCons (dC (.int 1)) (dNil)))) (dCons (dTup (dCons (dC (.int 0)) (dCons (dC (.int 1)) (dNil)))) (dCons (dTup (dCons (dC (.int 3)) (dCons (dC (.int 1)) (dNil)))) (dNil)))))))) (dNil)))) [8]) (dNil))))))))
theorem paired_rats {h : Nat} {α : Type} : ∀ {xs : List α} {rs : List D}, Paired (fun _ r => ∃ q, r = rat q ∧ sz h q) xs rs → ∃ qs, rs = ratsD qs ∧ qs.length = xs.length ∧ ∀ q ∈ qs, sz h q
  | _, _, .nil => ⟨[], rfl, rfl, fun q h => absurd h List.not_mem_nil⟩
  | _, _, .cons r p => by
    obtain ⟨q, rfl, s⟩ := r
    obtain ⟨qs, rfl, l, hs⟩ := paired_rats p
    exact ⟨q :: qs, rfl, by rw [List.length_cons, List.length_cons, l], fun x hx => (List.mem_cons.mp hx).elim (fun e => e ▸ s) (hs x)⟩
/-- the matrix of the law -/
def ownM (S : List (List Rat)) (t : Bool) : List (List Rat) := (List.range S.length).map fun (i : Nat) => (List.range S.length).map fun (j : Nat) => ((if i = j then 1 else 0 : Int) : Rat) - (if t = true then ((absS S).getD j []).getD i 0 else ((absS S).getD i []).getD j 0)
theorem rd_law_own_row (c : Cl) : ∀ ds n Q Ex, ds.length = (["pen", "sheet", "turn"] : List Str).length → w_law_own_row c ds n Q Ex → m_law_own_row c (startD ["pen", "sheet", "turn", "wide", "rows", "goal", "found", "i", "row", "j", "item"] ds) n (fnEnds Q fun _ _ => False) := by
  rintro ds n Q Ex - ⟨p, S, t, rfl, hs, ⟨hm, h1, h4⟩, hn, z⟩
  have hma : ∀ r ∈ absS S, r.length = S.length := fun s hs => by
    obtain ⟨s', hs', rfl⟩ := List.mem_map.mp hs
    rw [List.length_map, hm s' hs']
  have la : (absS S).length = S.length := List.length_map _
  have sa := szS_abs hs
  have item : ∀ i j, i < S.length → j < S.length → ∃ r, (absS S)[i]? = some r ∧ ∃ q, r[j]? = some q ∧ sz 15 q ∧ ((absS S).getD i []).getD j 0 = q := by
    intro i j hi hj
    obtain ⟨r, e⟩ : ∃ r, (absS S)[i]? = some r := ⟨_, List.getElem?_eq_getElem (by omega)⟩
    have hr := List.mem_of_getElem? e
    have hl := hma r hr
    obtain ⟨q, e2⟩ : ∃ q, r[j]? = some q := ⟨_, List.getElem?_eq_getElem (by omega)⟩
    exact ⟨r, e, q, e2, sa r hr q (List.mem_of_getElem? e2), by rw [getD_of e, getD_of e2]⟩
  have rowat : ∀ i r, (absS S)[i]? = some r → ((absS S).map rowD)[i]? = some (rowD r) := fun i r h => by rw [List.getElem?_map, h]; rfl
  have ratat : ∀ (r : List Rat) j q, r[j]? = some q → (ratsD r)[j]? = some (rat q) := fun r j q h => by unfold ratsD; rw [List.getElem?_map, h]; rfl
  simp only [m_law_own_row, pVar, pIx, dLeaf, dLenO, gtSub, gtNm, gtTup, gtCons, gtNil, sAsgT, sSetF, sApp, fLc, fLeaf, fOp, fList, fLst, owE_ow, ndE_nd, put_nil, w_law_draw, wDraw, wSeq, wRng1, wRng2, wZip, dLc, asgK_nm, asgK_tp2, sFor, oAll_map, oAny_map, wipeD, oSl, List.length_cons, List.length_nil, sSeq, sAsg, sRet, sRetN, sIf, sNext, sPar, sDrop, sFrz, sAug, dOp, dVar, dC, dTup, dLst, dCons, dNil, dCall, dCB, dIx, dTest, dAnd, dOr, dNot, dAndV, dOrV, dNotV, dB, dIf, dNeg, dFld, dSelf, sSelf, dSl, dNoPart, dPart, dRevT, dDic1, dIsN, entD, asg, setAll, fnEnds, startD, startI, initEnds, slE, slI, fieldD, frzs, frz, List.map, List.length, List.replicate, List.getElem?_cons_zero, List.getElem?_cons_succ, List.set_cons_zero, List.set_cons_succ, List.cons_append, List.nil_append, wF, wR, oI_int, oI0_int, oPlus_int, oTimes_int, o1I, o2I, oInt, negE, revE, seq_tup, seq_lst, oIx, atI_0, atI_1, o1S, oEq_int, oEq_bl, if_true, if_false, Bool.not_true, Bool.not_false]
  refine ⟨S, rfl, ?_⟩
  simp only [matD, seq_tup, List.length_map, la]
  refine ⟨rfl, ⟨by omega, by omega⟩, ?_⟩
  rw [Int.toNat_natCast]
  unfold rangeD
  refine lcD_mapA (fun (i : Nat) => D.int (0 + (i : Int))) (fun (i : Nat) => rowL ((List.range S.length).map fun (j : Nat) => ((if i = j then 1 else 0 : Int) : Rat) - (if t = true then ((absS S).getD j []).getD i 0 else ((absS S).getD i []).getD j 0))) (fun i hi Q' q' => ?_) ?_
  · have hi := List.mem_range.mp hi
    rw [asgK_nm]
    simp only [pVar, pIx, dLeaf, dLenO, gtSub, gtNm, gtTup, gtCons, gtNil, sAsgT, sSetF, sApp, fLc, fLeaf, fOp, fList, fLst, owE_ow, ndE_nd, put_nil, w_law_draw, wDraw, wSeq, wRng1, wRng2, wZip, dLc, asgK_nm, asgK_tp2, sFor, oAll_map, oAny_map, wipeD, oSl, List.length_cons, List.length_nil, sSeq, sAsg, sRet, sRetN, sIf, sNext, sPar, sDrop, sFrz, sAug, dOp, dVar, dC, dTup, dLst, dCons, dNil, dCall, dCB, dIx, dTest, dAnd, dOr, dNot, dAndV, dOrV, dNotV, dB, dIf, dNeg, dFld, dSelf, sSelf, dSl, dNoPart, dPart, dRevT, dDic1, dIsN, entD, asg, setAll, fnEnds, startD, startI, initEnds, slE, slI, fieldD, frzs, frz, List.map, List.length, List.replicate, List.getElem?_cons_zero, List.getElem?_cons_succ, List.set_cons_zero, List.set_cons_succ, List.cons_append, List.nil_append, wF, wR, oI_int, oI0_int, oPlus_int, oTimes_int, o1I, o2I, oInt, negE, revE, seq_tup, seq_lst, oIx, atI_0, atI_1, o1S, oEq_int, oEq_bl, if_true, if_false, Bool.not_true, Bool.not_false, List.length_map, la]
    refine ⟨rfl, ⟨by omega, by omega⟩, ?_⟩
    rw [Int.toNat_natCast]
    unfold rangeD
    refine lcD_mapA (fun (j : Nat) => D.int (0 + (j : Int))) (fun (j : Nat) => rat (((if i = j then 1 else 0 : Int) : Rat) - (if t = true then ((absS S).getD j []).getD i 0 else ((absS S).getD i []).getD j 0))) (fun j hj Q2 q2 => ?_) ?_
    · have hj := List.mem_range.mp hj
      rw [asgK_nm]
      simp only [pVar, pIx, dLeaf, dLenO, gtSub, gtNm, gtTup, gtCons, gtNil, sAsgT, sSetF, sApp, fLc, fLeaf, fOp, fList, fLst, owE_ow, ndE_nd, put_nil, w_law_draw, wDraw, wSeq, wRng1, wRng2, wZip, dLc, asgK_nm, asgK_tp2, sFor, oAll_map, oAny_map, wipeD, oSl, List.length_cons, List.length_nil, sSeq, sAsg, sRet, sRetN, sIf, sNext, sPar, sDrop, sFrz, sAug, dOp, dVar, dC, dTup, dLst, dCons, dNil, dCall, dCB, dIx, dTest, dAnd, dOr, dNot, dAndV, dOrV, dNotV, dB, dIf, dNeg, dFld, dSelf, sSelf, dSl, dNoPart, dPart, dRevT, dDic1, dIsN, entD, asg, setAll, fnEnds, startD, startI, initEnds, slE, slI, fieldD, frzs, frz, List.map, List.length, List.replicate, List.getElem?_cons_zero, List.getElem?_cons_succ, List.set_cons_zero, List.set_cons_succ, List.cons_append, List.nil_append, wF, wR, oI_int, oI0_int, oPlus_int, oTimes_int, o1I, o2I, oInt, negE, revE, seq_tup, seq_lst, oIx, atI_0, atI_1, o1S, oEq_int, oEq_bl, if_true, if_false, Bool.not_true, Bool.not_false]
      have eij : decide ((0 : Int) + (i : Int) = 0 + (j : Int)) = decide (i = j) := decide_eq_decide.mpr (by omega)
      have s1 : sz 1 ((if i = j then 1 else 0 : Int) : Rat) := by
        by_cases h : i = j
        · rw [if_pos h]; exact ⟨by decide, by decide⟩
        · rw [if_neg h]; exact ⟨by decide, by decide⟩
      have e1 : D.tup [D.int (if decide ((0 : Int) + (i : Int) = 0 + (j : Int)) = true then 1 else 0), D.int 1] = rat ((if i = j then 1 else 0 : Int) : Rat) := by
        rw [eij, ← rat_int]
        by_cases h : i = j <;> simp [h]
      cases t with
      | true =>
        obtain ⟨r, er, q, eq, sq, ev⟩ := item j i hj hi
        simp only [if_true, ev] at q2
        simp only [if_true, atI_nat' (rowat j r er), rowD, seq_tup, atI_nat' (ratat r i q eq)]
        exact ⟨_, q, by first | rw [e1] | (simp only [Bool.false_eq_true, if_false]; rw [e1]), ⟨1, 15, s1, sq, by omega⟩, q2⟩
      | false =>
        obtain ⟨r, er, q, eq, sq, ev⟩ := item i j hi hj
        simp only [Bool.false_eq_true, if_false, ev] at q2
        simp only [Bool.false_eq_true, if_false, atI_nat' (rowat i r er), rowD, seq_tup, atI_nat' (ratat r j q eq)]
        exact ⟨_, q, by first | rw [e1] | (simp only [Bool.false_eq_true, if_false]; rw [e1]), ⟨1, 15, s1, sq, by omega⟩, q2⟩
    · have e : rowL ((List.range S.length).map fun (j : Nat) => ((if i = j then 1 else 0 : Int) : Rat) - (if t = true then ((absS S).getD j []).getD i 0 else ((absS S).getD i []).getD j 0)) = .lst ((List.range S.length).map fun (j : Nat) => rat (((if i = j then 1 else 0 : Int) : Rat) - (if t = true then ((absS S).getD j []).getD i 0 else ((absS S).getD i []).getD j 0))) := by
        unfold rowL ratsD; rw [List.map_map]; rfl
      rw [e] at q'
      exact q'
  · have eM : (List.range S.length).map (fun (i : Nat) => rowL ((List.range S.length).map fun (j : Nat) => ((if i = j then 1 else 0 : Int) : Rat) - (if t = true then ((absS S).getD j []).getD i 0 else ((absS S).getD i []).getD j 0))) = (ownM S t).map rowL := by unfold ownM; rw [List.map_map]; rfl
    rw [eM]
    have lM : (ownM S t).length = S.length := by unfold ownM; rw [List.length_map, List.length_range]
    have rM : ∀ r ∈ ownM S t, r.length = S.length ∧ ∀ q ∈ r, sz 17 q := by
      intro r hr
      unfold ownM at hr
      obtain ⟨i, hi, rfl⟩ := List.mem_map.mp hr
      have hi := List.mem_range.mp hi
      refine ⟨by rw [List.length_map, List.length_range], fun q hq => ?_⟩
      obtain ⟨j, hj, rfl⟩ := List.mem_map.mp hq
      have hj := List.mem_range.mp hj
      have s1 : sz 1 ((if i = j then 1 else 0 : Int) : Rat) := by
        by_cases h : i = j
        · rw [if_pos h]; exact ⟨by decide, by decide⟩
        · rw [if_neg h]; exact ⟨by decide, by decide⟩
      cases t with
      | true =>
        obtain ⟨r, er, q, eq, sq, ev⟩ := item j i hj hi
        simp only [if_true, ev]
        exact sz_sub s1 sq
      | false =>
        obtain ⟨r, er, q, eq, sq, ev⟩ := item i j hi hj
        simp only [Bool.false_eq_true, if_false, ev]
        exact sz_sub s1 sq
    refine ⟨rfl, ?_⟩
    refine lcD_relA rowL (fun _ r => ∃ q, r = rat q ∧ sz 20 q) 1 (fun r hr k k1 k2 Q' hQ' => ?_) (fun rs k k1 k2 pr => ?_)
    · rw [asgK_nm]
      simp only [pVar, pIx, dLeaf, dLenO, gtSub, gtNm, gtTup, gtCons, gtNil, sAsgT, sSetF, sApp, fLc, fLeaf, fOp, fList, fLst, owE_ow, ndE_nd, put_nil, w_law_draw, wDraw, wSeq, wRng1, wRng2, wZip, dLc, asgK_nm, asgK_tp2, sFor, oAll_map, oAny_map, wipeD, oSl, List.length_cons, List.length_nil, sSeq, sAsg, sRet, sRetN, sIf, sNext, sPar, sDrop, sFrz, sAug, dOp, dVar, dC, dTup, dLst, dCons, dNil, dCall, dCB, dIx, dTest, dAnd, dOr, dNot, dAndV, dOrV, dNotV, dB, dIf, dNeg, dFld, dSelf, sSelf, dSl, dNoPart, dPart, dRevT, dDic1, dIsN, entD, asg, setAll, fnEnds, startD, startI, initEnds, slE, slI, fieldD, frzs, frz, List.map, List.length, List.replicate, List.getElem?_cons_zero, List.getElem?_cons_succ, List.set_cons_zero, List.set_cons_succ, List.cons_append, List.nil_append, wF, wR, oI_int, oI0_int, oPlus_int, oTimes_int, o1I, o2I, oInt, negE, revE, seq_tup, seq_lst, oIx, atI_0, atI_1, o1S, oEq_int, oEq_bl, if_true, if_false, Bool.not_true, Bool.not_false]
      refine ⟨⟨by decide, by decide, by decide⟩, ?_⟩
      exact pick_use (c := c) (p := p) (l := ([(1, 1), (1, 2), (3, 1), (1, 1000000)] : List (Int × Int)).map wr) (E := fun _ _ => False) (by simp) (by simp) (by rw [lM] at k1; omega) fun x j j1 j2 hx => hQ' x j j1 j2 (wr_pick (h := 20) hx (by decide))
    · obtain ⟨col, rfl, lc, sc⟩ := paired_rats pr
      rw [lM] at k2 lc
      have rest : ∀ (d : D) j, n ≤ j → j ≤ n + 4 → lcD (.nm 8) dYes (dCall (w_law_pick c) (dCons (dVar 0) (dCons (dLst (dCons (dTup (dCons (dC (.int 1)) (dCons (dC (.int 1)) (dNil)))) (dCons (dTup (dCons (dC (.int 1)) (dCons (dC (.int 1)) (dNil)))) (dCons (dTup (dCons (dC (.int 1)) (dCons (dC (.int 2)) (dNil)))) (dCons (dTup (dCons (dC (.int 2)) (dCons (dC (.int 1)) (dNil)))) (dCons (dTup (dCons (dC (.int 0)) (dCons (dC (.int 1)) (dNil)))) (dCons (dTup (dCons (dC (.int 3)) (dCons (dC (.int 1)) (dNil)))) (dNil)))))))) (dNil)))) [.sh (.pen p), .sh (.tup (S.map rowD)), .sh (.bl t), .sh (.tup ((absS S).map rowD)), .sh (.lst ((ownM S t).map rowL)), .sh (.lst (ratsD col)), .sh d, .no, .no, .no, .no] ((ownM S t).map rowL) j fun rs j => Q (.tup rs) j := by
        intro d j hj1 hj2
        refine lcD_relA rowL (fun _ r => ∃ q, r = rat q ∧ sz 1439 q) 1 (fun r hr k k1 k2 Q' hQ' => ?_) (fun rs k k1 k2 pr => ?_)
        · rw [asgK_nm]
          simp only [pVar, pIx, dLeaf, dLenO, gtSub, gtNm, gtTup, gtCons, gtNil, sAsgT, sSetF, sApp, fLc, fLeaf, fOp, fList, fLst, owE_ow, ndE_nd, put_nil, w_law_draw, wDraw, wSeq, wRng1, wRng2, wZip, dLc, asgK_nm, asgK_tp2, sFor, oAll_map, oAny_map, wipeD, oSl, List.length_cons, List.length_nil, sSeq, sAsg, sRet, sRetN, sIf, sNext, sPar, sDrop, sFrz, sAug, dOp, dVar, dC, dTup, dLst, dCons, dNil, dCall, dCB, dIx, dTest, dAnd, dOr, dNot, dAndV, dOrV, dNotV, dB, dIf, dNeg, dFld, dSelf, sSelf, dSl, dNoPart, dPart, dRevT, dDic1, dIsN, entD, asg, setAll, fnEnds, startD, startI, initEnds, slE, slI, fieldD, frzs, frz, List.map, List.length, List.replicate, List.getElem?_cons_zero, List.getElem?_cons_succ, List.set_cons_zero, List.set_cons_succ, List.cons_append, List.nil_append, wF, wR, oI_int, oI0_int, oPlus_int, oTimes_int, o1I, o2I, oInt, negE, revE, seq_tup, seq_lst, oIx, atI_0, atI_1, o1S, oEq_int, oEq_bl, if_true, if_false, Bool.not_true, Bool.not_false]
          exact pick_use (c := c) (p := p) (l := ([(1, 1), (1, 1), (1, 2), (2, 1), (0, 1), (3, 1)] : List (Int × Int)).map wr) (E := fun _ _ => False) (by simp) (by simp) (by rw [lM] at k1; omega) fun x j j1 j2 hx => hQ' x j j1 j2 (by
            obtain ⟨q, e, s⟩ := wr_pick (h := 20) hx (by decide)
            exact ⟨q, e, sz_mono s (by decide)⟩)
        · obtain ⟨qs, rfl, lq, sq⟩ := paired_rats pr
          rw [lM] at k2 lq
          exact z qs k (by omega) (by omega) lq sq
      refine ⟨ownM S t, col, rfl, ?_, by omega, by omega, ?_, ?_, ?_⟩
      · intro e
        rw [e] at lM
        simp at lM
        omega
      · intro pr hp
        have hr := rM pr.1 (List.of_mem_zip hp).1
        refine ⟨by rw [lM]; exact hr.1, ?_⟩
        have := cd_snoc (cd_row hr.2) (sc pr.2 (List.of_mem_zip hp).2)
        exact this.mono (by rw [hr.1]; omega)
      · exact ⟨rfl, rest _ k (by omega) (by omega)⟩
      · intro xs lx sx
        refine ⟨rfl, lcD_mapA rat (fun x => .bl (decide (0 < x.num))) (fun x hx Q' q' => ?_) ?_⟩
        · rw [asgK_nm]
          simp only [rat, pVar, pIx, dLeaf, dLenO, gtSub, gtNm, gtTup, gtCons, gtNil, sAsgT, sSetF, sApp, fLc, fLeaf, fOp, fList, fLst, owE_ow, ndE_nd, put_nil, w_law_draw, wDraw, wSeq, wRng1, wRng2, wZip, dLc, asgK_nm, asgK_tp2, sFor, oAll_map, oAny_map, wipeD, oSl, List.length_cons, List.length_nil, sSeq, sAsg, sRet, sRetN, sIf, sNext, sPar, sDrop, sFrz, sAug, dOp, dVar, dC, dTup, dLst, dCons, dNil, dCall, dCB, dIx, dTest, dAnd, dOr, dNot, dAndV, dOrV, dNotV, dB, dIf, dNeg, dFld, dSelf, sSelf, dSl, dNoPart, dPart, dRevT, dDic1, dIsN, entD, asg, setAll, fnEnds, startD, startI, initEnds, slE, slI, fieldD, frzs, frz, List.map, List.length, List.replicate, List.getElem?_cons_zero, List.getElem?_cons_succ, List.set_cons_zero, List.set_cons_succ, List.cons_append, List.nil_append, wF, wR, oI_int, oI0_int, oPlus_int, oTimes_int, o1I, o2I, oInt, negE, revE, seq_tup, seq_lst, oIx, atI_0, atI_1, o1S, oEq_int, oEq_bl, if_true, if_false, Bool.not_true, Bool.not_false]
          exact q'
        · rw [oAll_mapA]
          cases ha : xs.all fun x => decide (0 < x.num) with
          | true => exact z xs k (by omega) (by omega) (by omega) sx
          | false => exact ⟨rfl, rest _ k (by omega) (by omega)⟩
end DL

set_option Elab.async false
set_option linter.all false
set_option maxRecDepth 100000
set_option maxHeartbeats 4000000
namespace DL
open PySem PySem.Spec PyProof.Rows L2

/-! ### bent rows -/
structure NewOk (c : Cl) (d : D) : Prop where
  gd : Gd c.cls d
  dp : dp d ≤ 1
  fr : frozenD d = d
  sz : ∀ q, d = rat q → sz 1475 q
structure BentOk (c : Cl) (d : D) : Prop where
  gd : Gd c.cls d
  dp : DL.dp d ≤ 6
  sz : ∀ r, frozenD d = rowD r → ∀ q ∈ r, DL.sz 1475 q
theorem new_rat {c : Cl} {q : Rat} (s : sz 1475 q) : NewOk c (rat q) := ⟨gd_rat q, Nat.le_refl 1, rfl, fun q' e => by rw [← rat_inj e]; exact s⟩
theorem rat_parts {q : Rat} {a b : Int} (h : D.tup [.int a, .int b] = rat q) : q.num = a ∧ (q.den : Int) = b := by
  unfold rat at h
  injection h with h
  injection h with h1 h2
  injection h1 with h1
  injection h2 with h2 _
  injection h2 with h2
  exact ⟨h1.symm, h2.symm⟩
theorem new_pair {c : Cl} {a b : Int} (ha : a.natAbs < 2 ^ 1475) (hb : b.natAbs < 2 ^ 1475) : NewOk c (.tup [.int a, .int b]) := ⟨⟨trivial, trivial, trivial⟩, Nat.le_refl 1, rfl, fun q' e => by
  obtain ⟨h1, h2⟩ := rat_parts e
  exact ⟨by rw [h1]; exact ha, by omega⟩⟩
theorem frozenDs_id : ∀ {ds : List D}, (∀ d ∈ ds, frozenD d = d) → frozenDs ds = ds
  | [], _ => rfl
  | d :: ds, h => by rw [frozenDs, h d List.mem_cons_self, frozenDs_id fun e he => h e (List.mem_cons_of_mem _ he)]
theorem bent_tup {c : Cl} {ds : List D} (h : ∀ d ∈ ds, NewOk c d) : BentOk c (.tup ds) := by
  refine ⟨gds_iff.mpr fun d hd => (h d hd).gd, ?_, fun r e q hq => ?_⟩
  · show dps ds + 1 ≤ 6
    have := dps_le.mpr fun d hd => (h d hd).dp
    omega
  · have e : D.tup (frozenDs ds) = rowD r := e
    rw [frozenDs_id fun d hd => (h d hd).fr] at e
    injection e with e
    have hm : rat q ∈ ds := by rw [e]; exact List.mem_map.mpr ⟨q, hq, rfl⟩
    exact (h _ hm).sz q rfl
theorem bent_lst {c : Cl} {ds : List D} (h : ∀ d ∈ ds, NewOk c d) : BentOk c (.lst ds) := by
  have b := bent_tup h
  exact ⟨b.gd, b.dp, b.sz⟩
theorem bent_row {c : Cl} {r : List Rat} (h : ∀ q ∈ r, sz 1475 q) : BentOk c (rowD r) := bent_tup fun d hd => by
  obtain ⟨q, hq, rfl⟩ := List.mem_map.mp hd
  exact new_rat (h q hq)
theorem mem_cutD {ds : List D} {lo hi : Option Int} {d : D} (h : d ∈ cutD ds lo hi) : d ∈ ds := List.mem_of_mem_drop (List.mem_of_mem_take h)
theorem len_cutD {ds : List D} {lo hi : Option Int} : (cutD ds lo hi).length ≤ ds.length := by
  unfold cutD
  rw [List.length_take, List.length_drop]
  omega
abbrev w_law_bent (c : Cl) : W := fun ds n Q _ => ∃ p r, ds = [.pen p, rowD r] ∧ r ≠ [] ∧ r.length ≤ 4 ∧ (∀ q ∈ r, sz 1440 q) ∧ n + 3 ≤ 2 ^ 40 ∧ ∀ x k, n ≤ k → k ≤ n + 3 → BentOk c x → Q x k
theorem wm_law_bent {c : Cl} : Wm (w_law_bent c) := ⟨fun ds n Q Q' E E' hq he ⟨p, r, e, h1, h2, h3, h4, z⟩ => ⟨p, r, e, h1, h2, h3, h4, fun xs k a b d => hq _ _ (z xs k a b d)⟩⟩
def m_law_bent (c : Cl) : WS := sSeq (sAsg (.nm 2) (dCall (w_law_draw c) (dCons (dVar 0) (dCons (dCB oLen (dCons (dVar 1) (dNil))) (dNil)))))
  (sSeq (sAsg (.nm 3) (dIx (dVar 1) (dVar 2)))
  (sSeq (sAsg (.nm 4) (dCall (w_law_pick c) (dCons (dVar 0) (dCons (dLst (dCons (dCall (w_law_add c) (dCons (dVar 3) (dCons (dTup (dCons (dC (.int 1)) (dCons (dOp oPow (dC (.int 10)) (dC (.int 9))) (dNil)))) (dNil)))) (dCons (dCall (w_law_sub c) (dCons (dVar 3) (dCons (dTup (dCons (dC (.int 1)) (dCons (dOp oPow (dC (.int 10)) (dC (.int 9))) (dNil)))) (dNil)))) (dCons (dCall (w_law_mul c) (dCons (dVar 3) (dCons (dTup (dCons (dC (.int 11)) (dCons (dC (.int 10)) (dNil)))) (dNil)))) (dCons (dCall (w_law_mul c) (dCons (dVar 3) (dCons (dTup (dCons (dC (.int 9)) (dCons (dC (.int 10)) (dNil)))) (dNil)))) (dCons (dTup (dCons (dC (.int 0)) (dCons (dC (.int 1)) (dNil)))) (dCons (dTup (dCons (dNeg (dC (.int 1))) (dCons (dC (.int 1)) (dNil)))) (dCons (dTup (dCons (dC (.int 2)) (dCons (dC (.int 2)) (dNil)))) (dCons (dTup (dCons (dC (.int 1)) (dNil))) (dCons (dC .non) (dCons (dC (.bl true)) (dCons (dC (.int 1)) (dCons (dOp oPlus (dVar 3) (dTup (dCons (dC (.int 1)) (dNil)))) (dNil)))))))))))))) (dNil)))))
  (sRet (dCall (w_law_pick c) (dCons (dVar 0) (dCons (dLst (dCons (dOp oPlus (dOp oPlus (dSl (dVar 1) (dNoPart) (dPart (dVar 2))) (dTup (dCons (dVar 4) (dNil)))) (dSl (dVar 1) (dPart (dOp oPlus (dVar 2) (dC (.int 1)))) (dNoPart))) (dCons (dOp oPlus (dOp oPlus (dSl (dVar 1) (dNoPart) (dPart (dVar 2))) (dTup (dCons (dVar 4) (dNil)))) (dSl (dVar 1) (dPart (dOp oPlus (dVar 2) (dC (.int 1)))) (dNoPart))) (dCons (dOp oPlus (dVar 1) (dTup (dCons (dVar 3) (dNil)))) (dCons (dSl (dVar 1) (dPart (dC (.int 1))) (dNoPart)) (dCons (dCB oList (dCons (dVar 1) (dNil))) (dCons (dC .non) (dCons (dC (.int 0)) (dCons (dRevT (dVar 1)) (dCons (dTup (dNil)) (dNil))))))))))) (dNil)))))))
theorem rd_law_bent (c : Cl) : ∀ ds n Q Ex, ds.length = (["pen", "row"] : List Str).length → w_law_bent c ds n Q Ex → m_law_bent c (startD ["pen", "row", "at", "item", "new"] ds) n (fnEnds Q fun _ _ => False) := by
  rintro ds n Q Ex - ⟨p, r, rfl, hne, h4, hs, hn, z⟩
  have hl : 0 < r.length := List.length_pos_iff.mpr hne
  simp only [m_law_bent, rowD, pVar, pIx, dLeaf, dLenO, gtSub, gtNm, gtTup, gtCons, gtNil, sAsgT, sSetF, sApp, fLc, fLeaf, fOp, fList, fLst, owE_ow, ndE_nd, put_nil, w_law_draw, wDraw, wSeq, wRng1, wRng2, wZip, dLc, asgK_nm, asgK_tp2, sFor, oAll_map, oAny_map, wipeD, oSl, List.length_cons, List.length_nil, sSeq, sAsg, sRet, sRetN, sIf, sNext, sPar, sDrop, sFrz, sAug, dOp, dVar, dC, dTup, dLst, dCons, dNil, dCall, dCB, dIx, dTest, dAnd, dOr, dNot, dAndV, dOrV, dNotV, dB, dIf, dNeg, dFld, dSelf, sSelf, dSl, dNoPart, dPart, dRevT, dDic1, dIsN, entD, asg, setAll, fnEnds, startD, startI, initEnds, slE, slI, fieldD, frzs, frz, List.map, List.length, List.replicate, List.getElem?_cons_zero, List.getElem?_cons_succ, List.set_cons_zero, List.set_cons_succ, List.cons_append, List.nil_append, wF, wR, oI_int, oI0_int, oPlus_int, oTimes_int, o1I, o2I, oInt, negE, revE, seq_tup, seq_lst, oIx, atI_0, atI_1, o1S, oEq_int, oEq_bl, if_true, if_false, Bool.not_true, Bool.not_false, ratsD_len]
  refine ⟨by omega, by omega, by omega, fun at' a0 a1 => ?_⟩
  obtain ⟨x, ex, hx⟩ := atI_in (ds := ratsD r) a0 (by rw [ratsD_len]; exact a1)
  have hx0 := hx
  obtain ⟨q, hq, rfl⟩ := List.mem_map.mp hx
  have sq := hs q hq
  have rows : ∀ d ∈ ratsD r, NewOk c d := fun d hd => by
    obtain ⟨q, hq, rfl⟩ := List.mem_map.mp hd
    exact new_rat (sz_mono (hs q hq) (by decide))
  obtain ⟨w1, e1, s1, _⟩ := wr_rat (h := 30) (p := (1, 1000000000)) (by decide)
  obtain ⟨w2, e2, s2, _⟩ := wr_rat (h := 4) (p := (11, 10)) (by decide)
  obtain ⟨w3, e3, s3, _⟩ := wr_rat (h := 4) (p := (9, 10)) (by decide)
  rw [ex]
  simp only [pVar, pIx, dLeaf, dLenO, gtSub, gtNm, gtTup, gtCons, gtNil, sAsgT, sSetF, sApp, fLc, fLeaf, fOp, fList, fLst, owE_ow, ndE_nd, put_nil, w_law_draw, wDraw, wSeq, wRng1, wRng2, wZip, dLc, asgK_nm, asgK_tp2, sFor, oAll_map, oAny_map, wipeD, oSl, List.length_cons, List.length_nil, sSeq, sAsg, sRet, sRetN, sIf, sNext, sPar, sDrop, sFrz, sAug, dOp, dVar, dC, dTup, dLst, dCons, dNil, dCall, dCB, dIx, dTest, dAnd, dOr, dNot, dAndV, dOrV, dNotV, dB, dIf, dNeg, dFld, dSelf, sSelf, dSl, dNoPart, dPart, dRevT, dDic1, dIsN, entD, asg, setAll, fnEnds, startD, startI, initEnds, slE, slI, fieldD, frzs, frz, List.map, List.length, List.replicate, List.getElem?_cons_zero, List.getElem?_cons_succ, List.set_cons_zero, List.set_cons_succ, List.cons_append, List.nil_append, wF, wR, oI_int, oI0_int, oPlus_int, oTimes_int, o1I, o2I, oInt, negE, revE, seq_tup, seq_lst, oIx, atI_0, atI_1, o1S, oEq_int, oEq_bl, if_true, if_false, Bool.not_true, Bool.not_false]
  refine ⟨⟨by decide, by decide, by decide⟩, q, w1, by rw [← e1]; rfl, ⟨1440, 30, sq, s1, by decide⟩, ?_⟩
  refine ⟨⟨by decide, by decide, by decide⟩, q, w1, by rw [← e1]; rfl, ⟨1440, 30, sq, s1, by decide⟩, ?_⟩
  refine ⟨q, w2, by rw [← e2]; rfl, ⟨1440, 4, sq, s2, by decide⟩, ?_⟩
  refine ⟨q, w3, by rw [← e3]; rfl, ⟨1440, 4, sq, s3, by decide⟩, ?_⟩
  show oPlus (.tup [.int q.num, .int (q.den : Int)]) (.tup [.int 1]) _
  refine ⟨small_le (by simp), ?_⟩
  have i3 : NewOk c (.tup ([.int q.num, .int (q.den : Int)] ++ [.int 1])) := ⟨⟨trivial, trivial, trivial, trivial⟩, Nat.le_refl 1, rfl, fun q' e => by
    unfold rat at e
    injection e with e
    simp at e⟩
  have inOk : ∀ i : Int, NewOk c (.int i) := fun i => ⟨trivial, Nat.zero_le 1, rfl, fun q' e => nomatch e⟩
  refine pick_use (c := c) (p := p) (n := n + 1) (E := fun _ _ => False) (l := [rat (q + w1), rat (q - w1), rat (q * w2), rat (q * w3), .tup [.int 0, .int 1], .tup [.int (-1), .int 1], .tup [.int 2, .int 2], .tup [.int 1], .non, .bl true, .int 1, .tup ([.int q.num, .int (q.den : Int)] ++ [.int 1])]) (by simp) (by simp) (by omega) fun new k k1 k2 hnew => ?_
  have hN : NewOk c new := by
    simp only [List.mem_cons, List.not_mem_nil, or_false] at hnew
    rcases hnew with rfl | rfl | rfl | rfl | rfl | rfl | rfl | rfl | rfl | rfl | rfl | rfl
    · exact new_rat (sz_mono (sz_add sq s1) (by decide))
    · exact new_rat (sz_mono (sz_sub sq s1) (by decide))
    · exact new_rat (sz_mono (sz_mul sq s2) (by decide))
    · exact new_rat (sz_mono (sz_mul sq s3) (by decide))
    · exact new_pair (by decide) (by decide)
    · exact new_pair (by decide) (by decide)
    · exact new_pair (by decide) (by decide)
    · exact ⟨⟨trivial, trivial⟩, by decide, rfl, fun q' e => by unfold rat at e; injection e with e; simp at e⟩
    · exact ⟨trivial, by decide, rfl, fun q' e => nomatch e⟩
    · exact ⟨trivial, by decide, rfl, fun q' e => nomatch e⟩
    · exact inOk 1
    · exact i3
  have la : (cutD (ratsD r) none (some at')).length ≤ 4 := Nat.le_trans len_cutD (by rw [ratsD_len]; exact h4)
  have lb : (cutD (ratsD r) (some (at' + 1)) none).length ≤ 4 := Nat.le_trans len_cutD (by rw [ratsD_len]; exact h4)
  have lr : (ratsD r).length ≤ 4 := by rw [ratsD_len]; exact h4
  have mid : ∀ d ∈ cutD (ratsD r) none (some at') ++ [new] ++ cutD (ratsD r) (some (at' + 1)) none, NewOk c d := fun d hd => by
    rcases List.mem_append.mp hd with hd | hd
    · rcases List.mem_append.mp hd with hd | hd
      · exact rows d (mem_cutD hd)
      · rw [List.mem_singleton.mp hd]; exact hN
    · exact rows d (mem_cutD hd)
  refine ⟨small_le (by simp; omega), small_le (by simp; omega), small_le (by simp; omega), small_le (by simp; omega), small_le (by simp; omega), ?_⟩
  refine pick_use (c := c) (p := p) (n := k) (E := fun _ _ => False) (l := [.tup (cutD (ratsD r) none (some at') ++ [new] ++ cutD (ratsD r) (some (at' + 1)) none), .tup (cutD (ratsD r) none (some at') ++ [new] ++ cutD (ratsD r) (some (at' + 1)) none), .tup (ratsD r ++ [rat q]), .tup (cutD (ratsD r) (some 1) none), .lst (ratsD r), .non, .int 0, .tup (ratsD r).reverse, .tup []]) (by simp) (by simp) (by omega) fun x j j1 j2 hx => z x j (by omega) (by omega) ?_
  simp only [List.mem_cons, List.not_mem_nil, or_false] at hx
  rcases hx with rfl | rfl | rfl | rfl | rfl | rfl | rfl | rfl | rfl
  · exact bent_tup mid
  · exact bent_tup mid
  · refine bent_tup fun d hd => ?_
    rcases List.mem_append.mp hd with hd | hd
    · exact rows d hd
    · rw [List.mem_singleton.mp hd]; exact rows _ hx0
  · exact bent_tup fun d hd => rows d (mem_cutD hd)
  · exact bent_lst rows
  · exact ⟨trivial, by decide, fun r e => nomatch e⟩
  · exact ⟨trivial, by decide, fun r e => nomatch e⟩
  · exact bent_tup fun d hd => rows d (List.mem_reverse.mp hd)
  · exact bent_tup fun d hd => absurd hd List.not_mem_nil
end DL

set_option Elab.async false
set_option linter.all false
set_option maxRecDepth 100000
set_option maxHeartbeats 4000000
namespace DL
open PySem PySem.Spec PyProof.Rows L2

/-! ### drawn sheets -/
theorem lcF_all {α : Type} {t : Tgt} {me : WF} {ρw : List Ent} {n : Nat} (g : α → D) (P : OT → Prop) : ∀ {xs : List α} {Q : List OT → Nat → Prop}, (∀ x ∈ xs, ∀ Q' : OT → Nat → Prop, (∀ u, P u → Q' u n) → asgK t (g x) ρw fun ρ' => me ρ' n Q' fun _ _ => False) →
    (∀ us : List OT, us.length = xs.length → (∀ u ∈ us, P u) → Q us n) → lcF t dYes me ρw (xs.map g) n Q
  | [], Q, _, q => q [] rfl fun u h => absurd h List.not_mem_nil
  | x :: xs, Q, h, q => by
    have h1 := h x List.mem_cons_self (fun r j => lcF t dYes me ρw (xs.map g) j fun rs i => Q (r :: rs) i) (fun u hu => lcF_all g P (fun e he => h e (List.mem_cons_of_mem _ he)) fun us l hus => q (u :: us) (by rw [List.length_cons, List.length_cons, l]) fun v hv => (List.mem_cons.mp hv).elim (fun e => e ▸ hu) (hus v))
    rw [List.map_cons]
    unfold asgK at h1
    unfold lcF
    cases e : asg t (g x) ρw with
    | none => rw [e] at h1; exact h1
    | some ρ' => rw [e] at h1; exact h1
/-- a row of N ratios, as a tree -/
def GrT (N : Nat) (t : OT) : Prop := ∃ r, t.toD = .lst (ratsD r) ∧ r.length = N ∧ ∀ q ∈ r, sz 15 q
def NdT (N : Nat) (t : OT) : Prop := ∃ b r, t = .node b (leafs (ratsD r)) ∧ r.length = N ∧ ∀ q ∈ r, sz 15 q
theorem NdT.gr {N : Nat} {t : OT} (h : NdT N t) : GrT N t := by
  obtain ⟨b, r, rfl, l, s⟩ := h
  refine ⟨r, ?_, l, s⟩
  show D.lst (OT.toDs (leafs (ratsD r))) = _
  rw [toDs_leafs]
theorem leafs_set {ds : List D} {j : Nat} {d : D} : (leafs ds).set j (.leaf d) = leafs (ds.set j d) := by unfold leafs; rw [List.map_set]
theorem leafs_len {ds : List D} : (leafs ds).length = ds.length := List.length_map _
theorem rats_set {r : List Rat} {j : Nat} {q : Rat} : (ratsD r).set j (rat q) = ratsD (r.set j q) := by unfold ratsD; rw [List.map_set]
theorem NdT.set {N b j : Nat} {r : List Rat} {q : Rat} (l : r.length = N) (s : ∀ q ∈ r, sz 15 q) (hq : sz 15 q) : NdT N (.node b ((leafs (ratsD r)).set j (.leaf (rat q)))) := by
  rw [leafs_set, rats_set]
  refine ⟨b, r.set j q, rfl, by rw [List.length_set]; exact l, fun x hx => ?_⟩
  rcases List.mem_or_eq_of_mem_set hx with h | h
  · exact s x h
  · rw [h]; exact hq
theorem rep_zero (N : Nat) : (List.replicate N [D.tup [.int 0, .int 1]]).flatten = ratsD (List.replicate N 0) := by
  have e : D.tup [.int 0, .int 1] = rat 0 := by rw [rat_int]; rfl
  rw [e]
  unfold ratsD
  rw [List.map_replicate]
  induction N with
  | zero => rfl
  | succ n ih => rw [List.replicate_succ, List.flatten_cons, ih, List.replicate_succ]; rfl
def lsBody (c : Cl) : WS := (sIf (dTest (dOp oLt (dVar 5) (dC (.int 2)))) (sSeq (sAsg (.nm 6) (dLst (dCons (dTup (dCons (dC (.int 0)) (dCons (dC (.int 1)) (dNil)))) (dCons (dTup (dCons (dC (.int 0)) (dCons (dC (.int 1)) (dNil)))) (dCons (dTup (dCons (dC (.int 1)) (dCons (dC (.int 2)) (dNil)))) (dCons (dTup (dCons (dNeg (dC (.int 1))) (dCons (dC (.int 2)) (dNil)))) (dCons (dTup (dCons (dC (.int 1)) (dCons (dC (.int 4)) (dNil)))) (dCons (dTup (dCons (dNeg (dC (.int 1))) (dCons (dC (.int 3)) (dNil)))) (dCons (dTup (dCons (dC (.int 1)) (dCons (dC (.int 1)) (dNil)))) (dCons (dTup (dCons (dNeg (dC (.int 1))) (dCons (dC (.int 1)) (dNil)))) (dCons (dTup (dCons (dC (.int 3)) (dCons (dC (.int 4)) (dNil)))) (dCons (dTup (dCons (dNeg (dC (.int 2))) (dCons (dC (.int 1)) (dNil)))) (dNil)))))))))))))
  (sAsgT (gtSub 2 (pVar 2) (dVar 3)) (dLc (.nm 9) (wRng1 (dCons (dVar 4) (dNil))) (dYes) (dCall (w_law_pick c) (dCons (dVar 0) (dCons (dVar 6) (dNil)))) [9]))) (sIf (dOr (dTest (dOp (oEq false) (dVar 5) (dC (.int 2)))) (dTest (dOp (oEq false) (dVar 4) (dC (.int 1))))) (sSeq (sAsg (.nm 7) (dLc (.nm 9) (wRng1 (dCons (dVar 4) (dNil))) (dYes) (dCall (w_law_draw c) (dCons (dVar 0) (dCons (dC (.int 5)) (dNil)))) [9]))
  (sSeq (sAsg (.tp [10, 11]) (dTup (dCons (dCB oMax2 (dCons (dC (.int 1)) (dCons (dCB oSum (dCons (dVar 7) (dNil))) (dNil)))) (dCons (dCall (w_law_pick c) (dCons (dVar 0) (dCons (dLst (dCons (dTup (dCons (dC (.int 1)) (dCons (dC (.int 1)) (dNil)))) (dCons (dTup (dCons (dC (.int 9)) (dCons (dC (.int 10)) (dNil)))) (dCons (dTup (dCons (dC (.int 11)) (dCons (dC (.int 10)) (dNil)))) (dCons (dTup (dCons (dC (.int 1)) (dCons (dC (.int 2)) (dNil)))) (dCons (dTup (dCons (dC (.int 999)) (dCons (dC (.int 1000)) (dNil)))) (dNil))))))) (dNil)))) (dNil)))))
  (sAsgT (gtSub 2 (pVar 2) (dVar 3)) (dLc (.nm 14) (wSeq (dVar 7)) (dYes) (dCall (w_law_mul c) (dCons (dVar 11) (dCons (dCall (w_law_low c) (dCons (dOp oTimes (dOp oSub (dC (.int 1)) (dOp oTimes (dC (.int 2)) (dCall (w_law_draw c) (dCons (dVar 0) (dCons (dC (.int 2)) (dNil)))))) (dVar 14)) (dCons (dVar 10) (dNil)))) (dNil)))) [14])))) (sSeq (sAsg (.tp [12, 13]) (dCall (w_law_pick c) (dCons (dVar 0) (dCons (dLst (dCons (dTup (dCons (dC (.int 1)) (dCons (dC (.int 1)) (dNil)))) (dCons (dTup (dCons (dC (.int 2)) (dCons (dC (.int 1)) (dNil)))) (dCons (dTup (dCons (dC (.int 1)) (dCons (dC (.int 2)) (dNil)))) (dCons (dTup (dCons (dC (.int 3)) (dCons (dC (.int 2)) (dNil)))) (dCons (dTup (dCons (dC (.int 2)) (dCons (dC (.int 3)) (dNil)))) (dCons (dTup (dCons (dC (.int 1)) (dCons (dC (.int 1)) (dNil)))) (dNil)))))))) (dNil)))))
  (sSeq (sAsgT (gtSub 2 (pIx (pVar 2) (dVar 3)) (dOp oMod (dCB oInt (dCons (dOp oPlus (dVar 3) (dC (.int 1))) (dNil))) (dVar 4))) (dTup (dCons (dOp oTimes (dOp oSub (dC (.int 1)) (dOp oTimes (dC (.int 2)) (dCall (w_law_draw c) (dCons (dVar 0) (dCons (dC (.int 2)) (dNil)))))) (dVar 12)) (dCons (dVar 13) (dNil)))))
  (sIf (dAnd (dTest (dOp (oEq false) (dVar 5) (dC (.int 4)))) (dTest (dOp (oEq false) (dCall (w_law_draw c) (dCons (dVar 0) (dCons (dC (.int 2)) (dNil)))) (dC (.int 0))))) (sAsgT (gtSub 2 (pIx (pVar 2) (dVar 3)) (dCall (w_law_draw c) (dCons (dVar 0) (dCons (dVar 4) (dNil))))) (dCall (w_law_pick c) (dCons (dVar 0) (dCons (dLst (dCons (dTup (dCons (dC (.int 1)) (dCons (dC (.int 10)) (dNil)))) (dCons (dTup (dCons (dNeg (dC (.int 1))) (dCons (dC (.int 10)) (dNil)))) (dCons (dTup (dCons (dC (.int 1)) (dCons (dC (.int 100)) (dNil)))) (dCons (dTup (dCons (dC (.int 0)) (dCons (dC (.int 1)) (dNil)))) (dNil)))))) (dNil))))) (sNext))))))
theorem oSum_ints {xs : List Int} {Q : D → Prop} (q : Q (.int xs.sum)) : oSum [.lst (xs.map D.int)] Q := by
  show (match oInts (xs.map D.int) with | some bs => True ∧ ∀ d, d = .int bs.sum → Q d | none => False)
  rw [oInts_map]
  exact ⟨trivial, fun d e => e ▸ q⟩
theorem paired_ints {α : Type} : ∀ {xs : List α} {rs : List D}, Paired (fun _ r => ∃ i : Int, r = .int i ∧ 0 ≤ i ∧ i < 5) xs rs → ∃ is : List Int, rs = is.map D.int ∧ is.length = xs.length ∧ ∀ i ∈ is, 0 ≤ i ∧ i < 5
  | _, _, .nil => ⟨[], rfl, rfl, fun q h => absurd h List.not_mem_nil⟩
  | _, _, .cons r p => by
    obtain ⟨q, rfl, s⟩ := r
    obtain ⟨qs, rfl, l, hs⟩ := paired_ints p
    exact ⟨q :: qs, rfl, by rw [List.length_cons, List.length_cons, l], fun x hx => (List.mem_cons.mp hx).elim (fun e => e ▸ s) (hs x)⟩
theorem sum_small : ∀ {is : List Int}, (∀ i ∈ is, 0 ≤ i ∧ i < 5) → 0 ≤ is.sum ∧ is.sum ≤ 4 * is.length
  | [], _ => ⟨by decide, by decide⟩
  | i :: is, h => by
    have h1 := h i List.mem_cons_self
    have h2 := sum_small fun j hj => h j (List.mem_cons_of_mem _ hj)
    rw [List.sum_cons, List.length_cons]
    omega
/-- the state of the loop over the rows -/
def lsR (p : Addr) (most N way : Int) (a : Addr) (ts : List OT) (e3 : Ent) (o6 o7 o8 o9 o10 o11 o12 o13 o14 : Option D) : List Ent :=
  [.sh (.pen p), .sh (.int most), .ow (.node a ts), e3, .sh (.int N), .sh (.int way), sn o6, sn o7, sn o8, sn o9, sn o10, sn o11, sn o12, sn o13, sn o14]
theorem lsBody_ok (c : Cl) {D : DEn} {n : Nat} {p a : Addr} {most way : Int} {N i : Nat} {ts : List OT} {o6 o7 o8 o9 o10 o11 o12 o13 o14 : Option DL.D} (hl : ts.length = N) (hi : i < N) (hN : N ≤ 4) (hw : 0 ≤ way) (hn : n + 9 ≤ 2 ^ 40)
    {t : OT} (ht : ts[i]? = some t) (hnd : NdT N t)
    (q : ∀ k t' o6' o7' o9' o10' o11' o12' o13' o14', n ≤ k → k ≤ n + 9 → GrT N t' → D.nx (lsR p most N way a (ts.set i t') (.sh (.int (i : Nat))) o6' o7' o8 o9' o10' o11' o12' o13' o14') k) :
    lsBody c (lsR p most N way a ts (.sh (.int (i : Nat))) o6 o7 o8 o9 o10 o11 o12 o13 o14) n D := by
  have leafG : ∀ qs : List Rat, qs.length = N → (∀ q ∈ qs, sz 15 q) → GrT N (.leaf (.lst (ratsD qs))) := fun qs l s => ⟨qs, rfl, l, s⟩
  unfold lsBody lsR
  simp only [pVar, pIx, dLeaf, dLenO, gtSub, gtNm, gtTup, gtCons, gtNil, sAsgT, sSetF, sApp, fLc, fLeaf, fOp, fList, fLst, owE_ow, ndE_nd, put_nil, w_law_draw, wDraw, wSeq, wRng1, wRng2, wZip, dLc, asgK_nm, asgK_tp2, sFor, oAll_map, oAny_map, wipeD, oSl, List.length_cons, List.length_nil, sSeq, sAsg, sRet, sRetN, sIf, sNext, sPar, sDrop, sFrz, sAug, dOp, dVar, dC, dTup, dLst, dCons, dNil, dCall, dCB, dIx, dTest, dAnd, dOr, dNot, dAndV, dOrV, dNotV, dB, dIf, dNeg, dFld, dSelf, sSelf, dSl, dNoPart, dPart, dRevT, dDic1, dIsN, entD, asg, setAll, fnEnds, startD, startI, initEnds, slE, slI, fieldD, frzs, frz, List.map, List.length, List.replicate, List.getElem?_cons_zero, List.getElem?_cons_succ, List.set_cons_zero, List.set_cons_succ, List.cons_append, List.nil_append, wF, wR, oI_int, oI0_int, oPlus_int, oTimes_int, o1I, o2I, oInt, negE, revE, seq_tup, seq_lst, oIx, atI_0, atI_1, o1S, oEq_int, oEq_bl, if_true, if_false, Bool.not_true, Bool.not_false]
  by_cases h2 : way < 2
  · rw [if_pos (by simpa using h2)]
    refine ⟨by cases o9 <;> rfl, ⟨by omega, by omega⟩, ?_⟩
    rw [Int.toNat_natCast]
    unfold rangeD
    refine lcD_relA (fun (j : Nat) => DL.D.int (0 + (j : Int))) (fun _ r => ∃ q, r = rat q ∧ sz 15 q) 1 (fun j hj k k1 k2 Q' hQ' => ?_) (fun rs k k1 k2 pr => ?_)
    · rw [List.length_range] at k1
      rw [asgK_nm]
      simp only [pVar, pIx, dLeaf, dLenO, gtSub, gtNm, gtTup, gtCons, gtNil, sAsgT, sSetF, sApp, fLc, fLeaf, fOp, fList, fLst, owE_ow, ndE_nd, put_nil, w_law_draw, wDraw, wSeq, wRng1, wRng2, wZip, dLc, asgK_nm, asgK_tp2, sFor, oAll_map, oAny_map, wipeD, oSl, List.length_cons, List.length_nil, sSeq, sAsg, sRet, sRetN, sIf, sNext, sPar, sDrop, sFrz, sAug, dOp, dVar, dC, dTup, dLst, dCons, dNil, dCall, dCB, dIx, dTest, dAnd, dOr, dNot, dAndV, dOrV, dNotV, dB, dIf, dNeg, dFld, dSelf, sSelf, dSl, dNoPart, dPart, dRevT, dDic1, dIsN, entD, asg, setAll, fnEnds, startD, startI, initEnds, slE, slI, fieldD, frzs, frz, List.map, List.length, List.replicate, List.getElem?_cons_zero, List.getElem?_cons_succ, List.set_cons_zero, List.set_cons_succ, List.cons_append, List.nil_append, wF, wR, oI_int, oI0_int, oPlus_int, oTimes_int, o1I, o2I, oInt, negE, revE, seq_tup, seq_lst, oIx, atI_0, atI_1, o1S, oEq_int, oEq_bl, if_true, if_false, Bool.not_true, Bool.not_false]
      exact pick_use (c := c) (p := p) (l := ([(0, 1), (0, 1), (1, 2), (-1, 2), (1, 4), (-1, 3), (1, 1), (-1, 1), (3, 4), (-2, 1)] : List (Int × Int)).map wr) (E := fun _ _ => False) (by simp) (by simp) (by omega) fun x j j1 j2 hx => hQ' x j j1 j2 (wr_pick (h := 15) hx (by decide))
    · obtain ⟨qs, rfl, lq, sq⟩ := paired_rats pr
      rw [List.length_range] at k2 lq
      refine ixE_nat (by omega) ?_
      exact q k (.leaf (.lst (ratsD qs))) (some _) o7 o9 o10 o11 o12 o13 o14 (by omega) (by omega) (leafG qs lq sq)
  · rw [if_neg (by simpa using h2)]
    by_cases h3 : way = 2 ∨ (N : Int) = 1
    · have h3' : (if decide (way = 2) = true then True else (N : Int) = 1) := by
        by_cases hw2 : way = 2
        · simp [hw2]
        · simp [hw2]; omega
      have br : ∀ (X Y : Prop), X → (if decide (way = 2) = true then X else if decide ((N : Int) = 1) = true then X else Y) := fun X Y hx => by
        by_cases hw2 : way = 2
        · rw [if_pos (by simpa using hw2)]; exact hx
        · rw [if_neg (by simpa using hw2), if_pos (by simp; omega)]; exact hx
      refine br _ _ ?_
      refine ⟨by cases o9 <;> rfl, ⟨by omega, by omega⟩, ?_⟩
      rw [Int.toNat_natCast]
      unfold rangeD
      refine lcD_relA (fun (j : Nat) => DL.D.int (0 + (j : Int))) (fun _ r => ∃ i : Int, r = .int i ∧ 0 ≤ i ∧ i < 5) 1 (fun j hj k k1 k2 Q' hQ' => ?_) (fun rs k k1 k2 pr => ?_)
      · rw [List.length_range] at k1
        rw [asgK_nm]
        simp only [pVar, pIx, dLeaf, dLenO, gtSub, gtNm, gtTup, gtCons, gtNil, sAsgT, sSetF, sApp, fLc, fLeaf, fOp, fList, fLst, owE_ow, ndE_nd, put_nil, w_law_draw, wDraw, wSeq, wRng1, wRng2, wZip, dLc, asgK_nm, asgK_tp2, sFor, oAll_map, oAny_map, wipeD, oSl, List.length_cons, List.length_nil, sSeq, sAsg, sRet, sRetN, sIf, sNext, sPar, sDrop, sFrz, sAug, dOp, dVar, dC, dTup, dLst, dCons, dNil, dCall, dCB, dIx, dTest, dAnd, dOr, dNot, dAndV, dOrV, dNotV, dB, dIf, dNeg, dFld, dSelf, sSelf, dSl, dNoPart, dPart, dRevT, dDic1, dIsN, entD, asg, setAll, fnEnds, startD, startI, initEnds, slE, slI, fieldD, frzs, frz, List.map, List.length, List.replicate, List.getElem?_cons_zero, List.getElem?_cons_succ, List.set_cons_zero, List.set_cons_succ, List.cons_append, List.nil_append, wF, wR, oI_int, oI0_int, oPlus_int, oTimes_int, o1I, o2I, oInt, negE, revE, seq_tup, seq_lst, oIx, atI_0, atI_1, o1S, oEq_int, oEq_bl, if_true, if_false, Bool.not_true, Bool.not_false]
        exact ⟨by decide, by decide, by omega, fun r r0 r1 => hQ' _ _ (by omega) (by omega) ⟨r, rfl, r0, r1⟩⟩
      · obtain ⟨is, rfl, li, his⟩ := paired_ints pr
        rw [List.length_range] at k2 li
        refine oSum_ints ?_
        obtain ⟨m1, m2⟩ := sum_small his
        have hlow : ∃ low : Int, (if is.sum > 1 then is.sum else 1) = low ∧ 1 ≤ low ∧ low ≤ 16 := ⟨_, rfl, by split <;> omega, by split <;> omega⟩
        obtain ⟨low, el, l1, l2⟩ := hlow
        simp only [oMax2, o2I, el]
        refine pick_use (c := c) (p := p) (n := k) (E := fun _ _ => False) (l := ([(1, 1), (9, 10), (11, 10), (1, 2), (999, 1000)] : List (Int × Int)).map wr) (by simp) (by simp) (by omega) fun x j j1 j2 hx => ?_
        obtain ⟨g, rfl, sg⟩ := wr_pick (h := 10) hx (by decide)
        refine ⟨by cases o14 <;> rfl, ?_⟩
        refine lcD_relA DL.D.int (fun _ r => ∃ q, r = rat q ∧ sz 15 q) 1 (fun x hx k' k1' k2' Q' hQ' => ?_) (fun rs k' k1' k2' pr => ?_)
        · rw [li] at k1'
          have hx := his x hx
          rw [asgK_nm]
          simp only [pVar, pIx, dLeaf, dLenO, gtSub, gtNm, gtTup, gtCons, gtNil, sAsgT, sSetF, sApp, fLc, fLeaf, fOp, fList, fLst, owE_ow, ndE_nd, put_nil, w_law_draw, wDraw, wSeq, wRng1, wRng2, wZip, dLc, asgK_nm, asgK_tp2, sFor, oAll_map, oAny_map, wipeD, oSl, List.length_cons, List.length_nil, sSeq, sAsg, sRet, sRetN, sIf, sNext, sPar, sDrop, sFrz, sAug, dOp, dVar, dC, dTup, dLst, dCons, dNil, dCall, dCB, dIx, dTest, dAnd, dOr, dNot, dAndV, dOrV, dNotV, dB, dIf, dNeg, dFld, dSelf, sSelf, dSl, dNoPart, dPart, dRevT, dDic1, dIsN, entD, asg, setAll, fnEnds, startD, startI, initEnds, slE, slI, fieldD, frzs, frz, List.map, List.length, List.replicate, List.getElem?_cons_zero, List.getElem?_cons_succ, List.set_cons_zero, List.set_cons_succ, List.cons_append, List.nil_append, wF, wR, oI_int, oI0_int, oPlus_int, oTimes_int, o1I, o2I, oInt, negE, revE, seq_tup, seq_lst, oIx, atI_0, atI_1, o1S, oEq_int, oEq_bl, if_true, if_false, Bool.not_true, Bool.not_false]
          refine ⟨by decide, by decide, by omega, fun s s0 s1 => ?_⟩
          have t1 : ((1 - 2 * s) * x).natAbs < 2 ^ 5 := by
            have : s = 0 ∨ s = 1 := by omega
            rcases this with rfl | rfl
            · have : (1 - 2 * 0) * x = x := by omega
              rw [this]; omega
            · have : (1 - 2 * 1) * x = -x := by omega
              rw [this]; omega
          have sd : sz 5 (Rat.divInt ((1 - 2 * s) * x) low) := sz_divInt (by omega) t1 (by omega)
          exact ⟨mulOk 3 3 (by decide) (by omega) (by decide), mulOk 3 3 (by omega) (by omega) (by decide), ⟨_, _, rfl, by omega, by
            have : low.natAbs < 2 ^ 5 := by omega
            exact lt_pow_mono this (by decide)⟩, g, _, rfl, ⟨10, 5, sg, sd, by decide⟩, hQ' _ _ (by omega) (by omega) ⟨_, rfl, sz_mul sg sd⟩⟩
        · obtain ⟨qs, rfl, lq, sq⟩ := paired_rats pr
          refine ixE_nat (by omega) ?_
          exact q k' (.leaf (.lst (ratsD qs))) o6 (some _) o9 (some _) (some _) o12 o13 o14 (by omega) (by rw [li] at k2'; omega) (leafG qs (by rw [lq, li]) sq)
    · have br : ∀ (X Y : Prop), Y → (if decide (way = 2) = true then X else if decide ((N : Int) = 1) = true then X else Y) := fun X Y hy => by
        rw [if_neg (by simp; omega), if_neg (by simp; omega)]; exact hy
      refine br _ _ ?_
      refine pick_use (c := c) (p := p) (n := n) (E := fun _ _ => False) (l := ([(1, 1), (2, 1), (1, 2), (3, 2), (2, 3), (1, 1)] : List (Int × Int)).map wr) (by simp) (by simp) (by omega) fun x j j1 j2 hx => ?_
      obtain ⟨pr, hpr, rfl⟩ := List.mem_map.mp hx
      have w := List.all_eq_true.mp (by decide : ([(1, 1), (2, 1), (1, 2), (3, 2), (2, 3), (1, 1)] : List (Int × Int)).all (wrOk 2) = true) pr hpr
      have w' := w
      unfold wrOk at w'
      simp only [Bool.and_eq_true, decide_eq_true_eq] at w'
      obtain ⟨⟨⟨p0, pg⟩, p1⟩, p2⟩ := w'
      obtain ⟨b, r, rfl, lr, sr⟩ := hnd
      simp only [wr, pVar, pIx, dLeaf, dLenO, gtSub, gtNm, gtTup, gtCons, gtNil, sAsgT, sSetF, sApp, fLc, fLeaf, fOp, fList, fLst, owE_ow, ndE_nd, put_nil, w_law_draw, wDraw, wSeq, wRng1, wRng2, wZip, dLc, asgK_nm, asgK_tp2, sFor, oAll_map, oAny_map, wipeD, oSl, List.length_cons, List.length_nil, sSeq, sAsg, sRet, sRetN, sIf, sNext, sPar, sDrop, sFrz, sAug, dOp, dVar, dC, dTup, dLst, dCons, dNil, dCall, dCB, dIx, dTest, dAnd, dOr, dNot, dAndV, dOrV, dNotV, dB, dIf, dNeg, dFld, dSelf, sSelf, dSl, dNoPart, dPart, dRevT, dDic1, dIsN, entD, asg, setAll, fnEnds, startD, startI, initEnds, slE, slI, fieldD, frzs, frz, List.map, List.length, List.replicate, List.getElem?_cons_zero, List.getElem?_cons_succ, List.set_cons_zero, List.set_cons_succ, List.cons_append, List.nil_append, wF, wR, oI_int, oI0_int, oPlus_int, oTimes_int, o1I, o2I, oInt, negE, revE, seq_tup, seq_lst, oIx, atI_0, atI_1, o1S, oEq_int, oEq_bl, if_true, if_false, Bool.not_true, Bool.not_false]
      refine ⟨by decide, by decide, by omega, fun s s0 s1 => ?_⟩
      have hs : s = 0 ∨ s = 1 := by omega
      have ab : ((1 - 2 * s) * pr.1).natAbs = pr.1.natAbs := by
        rcases hs with rfl | rfl
        · have : (1 - 2 * 0) * pr.1 = pr.1 := by omega
          rw [this]
        · have : (1 - 2 * 1) * pr.1 = -pr.1 := by omega
          rw [this, Int.natAbs_neg]
      have wq : wrOk 2 ((1 - 2 * s) * pr.1, pr.2) = true := by
        unfold wrOk
        simp only [Bool.and_eq_true, decide_eq_true_eq, ab]
        exact ⟨⟨⟨p0, pg⟩, p1⟩, p2⟩
      obtain ⟨v, ev, sv, _⟩ := wr_rat wq
      have ev : DL.D.tup [.int ((1 - 2 * s) * pr.1), .int pr.2] = rat v := ev
      refine ⟨mulOk 3 3 (by decide) (by omega) (by decide), mulOk 3 3 (by omega) (lt_pow_mono p1 (by decide)) (by decide), ?_⟩
      rw [ev]
      refine ixE_nat (by omega) ⟨_, ht, by omega, ?_⟩
      rw [ndE_nd]
      have em : ((i : Int) + 1) % (N : Int) = (((i + 1) % N : Nat) : Int) := by push_cast; rfl
      rw [em]
      have hmod : (i + 1) % N < N := Nat.mod_lt _ (by omega)
      refine ixE_nat (by rw [leafs_len, ratsD_len, lr]; exact hmod) ?_
      rw [put_one ht]
      have nd1 := NdT.set (b := b) (j := (i + 1) % N) lr sr (sz_mono sv (by decide))
      obtain ⟨b1, r1, e1, lr1, sr1⟩ := nd1
      rw [e1]
      have fin : ∀ t' k, GrT N t' → n ≤ k → k ≤ n + 9 → D.nx (lsR p most N way a (ts.set i t') (.sh (.int (i : Nat))) o6 o7 o8 o9 o10 o11 (some (.int pr.1)) (some (.int pr.2)) o14) k := fun t' k h k1 k2 => q k t' o6 o7 o9 o10 o11 _ _ o14 k1 k2 h
      have g1 : GrT N (.node b1 (leafs (ratsD r1))) := NdT.gr ⟨b1, r1, rfl, lr1, sr1⟩
      have ht1 : (ts.set i (.node b1 (leafs (ratsD r1))))[i]? = some (.node b1 (leafs (ratsD r1))) := List.getElem?_set_self (by omega)
      by_cases h4 : way = 4
      · rw [if_pos (by simpa using h4)]
        refine ⟨by decide, by decide, by omega, fun u u0 u1 => ?_⟩
        by_cases hu : u = 0
        · rw [if_pos (by simpa using hu)]
          refine pick_use (c := c) (p := p) (n := j + 1 + 1) (E := fun _ _ => False) (l := ([(1, 10), (-1, 10), (1, 100), (0, 1)] : List (Int × Int)).map wr) (by simp) (by simp) (by omega) fun x k k1 k2 hx => ?_
          obtain ⟨v2, rfl, sv2⟩ := wr_pick (h := 15) hx (by decide)
          rw [ndE_nd]
          refine ixE_nat (by rw [List.length_set]; omega) ⟨_, ht1, by omega, by omega, by omega, fun z z0 z1 => ?_⟩
          rw [ndE_nd]
          obtain ⟨zn, rfl⟩ := Int.eq_ofNat_of_zero_le z0
          refine ixE_nat (by rw [leafs_len, ratsD_len, lr1]; omega) ?_
          rw [put_one ht1, List.set_set]
          exact fin _ _ (NdT.set lr1 sr1 sv2).gr (by omega) (by omega)
        · rw [if_neg (by simpa using hu)]
          exact fin _ _ g1 (by omega) (by omega)
      · rw [if_neg (by simpa using h4)]
        exact fin _ _ g1 (by omega) (by omega)
end DL

set_option Elab.async false
set_option linter.all false
set_option maxRecDepth 100000
set_option maxHeartbeats 4000000
namespace DL
open PySem PySem.Spec PyProof.Rows L2

abbrev w_law_late_sheet (c : Cl) : W := fun ds n Q _ => ∃ p, ds = [.pen p, .int 4] ∧ n + 40 ≤ 2 ^ 40 ∧ ∀ S k, n ≤ k → k ≤ n + 40 → SqS S 4 → szS 15 S → Q (matD S) k
theorem wm_law_late_sheet {c : Cl} : Wm (w_law_late_sheet c) := ⟨fun ds n Q Q' E E' hq he ⟨p, e, h1, z⟩ => ⟨p, e, h1, fun S k a b d e => hq _ _ (z S k a b d e)⟩⟩
def m_law_late_sheet (c : Cl) : WS := sSeq (sAsg (.tp [4, 5]) (dTup (dCons (dOp oPlus (dC (.int 1)) (dCall (w_law_draw c) (dCons (dVar 0) (dCons (dVar 1) (dNil))))) (dCons (dCall (w_law_draw c) (dCons (dVar 0) (dCons (dC (.int 5)) (dNil)))) (dNil)))))
  (sSeq (sSetF 2 (fLc (.nm 3) (wRng1 (dCons (dVar 4) (dNil))) (dYes) (fOp oRepF (dLst (dCons (dTup (dCons (dC (.int 0)) (dCons (dC (.int 1)) (dNil)))) (dNil))) (dVar 4)) [3]))
  (sSeq (sFor (.nm 3) (wRng1 (dCons (dVar 4) (dNil))) (sIf (dTest (dOp oLt (dVar 5) (dC (.int 2)))) (sSeq (sAsg (.nm 6) (dLst (dCons (dTup (dCons (dC (.int 0)) (dCons (dC (.int 1)) (dNil)))) (dCons (dTup (dCons (dC (.int 0)) (dCons (dC (.int 1)) (dNil)))) (dCons (dTup (dCons (dC (.int 1)) (dCons (dC (.int 2)) (dNil)))) (dCons (dTup (dCons (dNeg (dC (.int 1))) (dCons (dC (.int 2)) (dNil)))) (dCons (dTup (dCons (dC (.int 1)) (dCons (dC (.int 4)) (dNil)))) (dCons (dTup (dCons (dNeg (dC (.int 1))) (dCons (dC (.int 3)) (dNil)))) (dCons (dTup (dCons (dC (.int 1)) (dCons (dC (.int 1)) (dNil)))) (dCons (dTup (dCons (dNeg (dC (.int 1))) (dCons (dC (.int 1)) (dNil)))) (dCons (dTup (dCons (dC (.int 3)) (dCons (dC (.int 4)) (dNil)))) (dCons (dTup (dCons (dNeg (dC (.int 2))) (dCons (dC (.int 1)) (dNil)))) (dNil)))))))))))))
  (sAsgT (gtSub 2 (pVar 2) (dVar 3)) (dLc (.nm 9) (wRng1 (dCons (dVar 4) (dNil))) (dYes) (dCall (w_law_pick c) (dCons (dVar 0) (dCons (dVar 6) (dNil)))) [9]))) (sIf (dOr (dTest (dOp (oEq false) (dVar 5) (dC (.int 2)))) (dTest (dOp (oEq false) (dVar 4) (dC (.int 1))))) (sSeq (sAsg (.nm 7) (dLc (.nm 9) (wRng1 (dCons (dVar 4) (dNil))) (dYes) (dCall (w_law_draw c) (dCons (dVar 0) (dCons (dC (.int 5)) (dNil)))) [9]))
  (sSeq (sAsg (.tp [10, 11]) (dTup (dCons (dCB oMax2 (dCons (dC (.int 1)) (dCons (dCB oSum (dCons (dVar 7) (dNil))) (dNil)))) (dCons (dCall (w_law_pick c) (dCons (dVar 0) (dCons (dLst (dCons (dTup (dCons (dC (.int 1)) (dCons (dC (.int 1)) (dNil)))) (dCons (dTup (dCons (dC (.int 9)) (dCons (dC (.int 10)) (dNil)))) (dCons (dTup (dCons (dC (.int 11)) (dCons (dC (.int 10)) (dNil)))) (dCons (dTup (dCons (dC (.int 1)) (dCons (dC (.int 2)) (dNil)))) (dCons (dTup (dCons (dC (.int 999)) (dCons (dC (.int 1000)) (dNil)))) (dNil))))))) (dNil)))) (dNil)))))
  (sAsgT (gtSub 2 (pVar 2) (dVar 3)) (dLc (.nm 14) (wSeq (dVar 7)) (dYes) (dCall (w_law_mul c) (dCons (dVar 11) (dCons (dCall (w_law_low c) (dCons (dOp oTimes (dOp oSub (dC (.int 1)) (dOp oTimes (dC (.int 2)) (dCall (w_law_draw c) (dCons (dVar 0) (dCons (dC (.int 2)) (dNil)))))) (dVar 14)) (dCons (dVar 10) (dNil)))) (dNil)))) [14])))) (sSeq (sAsg (.tp [12, 13]) (dCall (w_law_pick c) (dCons (dVar 0) (dCons (dLst (dCons (dTup (dCons (dC (.int 1)) (dCons (dC (.int 1)) (dNil)))) (dCons (dTup (dCons (dC (.int 2)) (dCons (dC (.int 1)) (dNil)))) (dCons (dTup (dCons (dC (.int 1)) (dCons (dC (.int 2)) (dNil)))) (dCons (dTup (dCons (dC (.int 3)) (dCons (dC (.int 2)) (dNil)))) (dCons (dTup (dCons (dC (.int 2)) (dCons (dC (.int 3)) (dNil)))) (dCons (dTup (dCons (dC (.int 1)) (dCons (dC (.int 1)) (dNil)))) (dNil)))))))) (dNil)))))
  (sSeq (sAsgT (gtSub 2 (pIx (pVar 2) (dVar 3)) (dOp oMod (dCB oInt (dCons (dOp oPlus (dVar 3) (dC (.int 1))) (dNil))) (dVar 4))) (dTup (dCons (dOp oTimes (dOp oSub (dC (.int 1)) (dOp oTimes (dC (.int 2)) (dCall (w_law_draw c) (dCons (dVar 0) (dCons (dC (.int 2)) (dNil)))))) (dVar 12)) (dCons (dVar 13) (dNil)))))
  (sIf (dAnd (dTest (dOp (oEq false) (dVar 5) (dC (.int 4)))) (dTest (dOp (oEq false) (dCall (w_law_draw c) (dCons (dVar 0) (dCons (dC (.int 2)) (dNil)))) (dC (.int 0))))) (sAsgT (gtSub 2 (pIx (pVar 2) (dVar 3)) (dCall (w_law_draw c) (dCons (dVar 0) (dCons (dVar 4) (dNil))))) (dCall (w_law_pick c) (dCons (dVar 0) (dCons (dLst (dCons (dTup (dCons (dC (.int 1)) (dCons (dC (.int 10)) (dNil)))) (dCons (dTup (dCons (dNeg (dC (.int 1))) (dCons (dC (.int 10)) (dNil)))) (dCons (dTup (dCons (dC (.int 1)) (dCons (dC (.int 100)) (dNil)))) (dCons (dTup (dCons (dC (.int 0)) (dCons (dC (.int 1)) (dNil)))) (dNil)))))) (dNil))))) (sNext)))))))
  (sFrz [2] (sRet (dCB oTuple (dCons (dLc (.nm 8) (wSeq (dVar 2)) (dYes) (dCB oTuple (dCons (dVar 8) (dNil))) [8]) (dNil)))))))
theorem trees_rows {N : Nat} : ∀ {ts : List OT}, (∀ t ∈ ts, GrT N t) → ∃ S : List (List Rat), OT.toDs ts = S.map rowL ∧ S.length = ts.length ∧ ∀ r ∈ S, r.length = N ∧ ∀ q ∈ r, sz 15 q
  | [], _ => ⟨[], rfl, rfl, fun r h => absurd h List.not_mem_nil⟩
  | t :: ts, h => by
    obtain ⟨r, e, l, s⟩ := h t List.mem_cons_self
    obtain ⟨S, eS, lS, hS⟩ := trees_rows fun u hu => h u (List.mem_cons_of_mem _ hu)
    exact ⟨r :: S, by rw [OT.toDs, e, eS]; rfl, by rw [List.length_cons, List.length_cons, lS], fun x hx => (List.mem_cons.mp hx).elim (fun e => e ▸ ⟨l, s⟩) (hS x)⟩
theorem rd_law_late_sheet (c : Cl) : ∀ ds n Q Ex, ds.length = (["pen", "most"] : List Str).length → w_law_late_sheet c ds n Q Ex → m_law_late_sheet c (startD ["pen", "most", "rows", "i", "size", "way", "some", "parts", "row", "j", "low", "goal", "top", "bottom", "part"] ds) n (fnEnds Q fun _ _ => False) := by
  rintro ds n Q Ex - ⟨p, rfl, hn, z⟩
  have em : m_law_late_sheet c = sSeq (sAsg (.tp [4, 5]) (dTup (dCons (dOp oPlus (dC (.int 1)) (dCall (w_law_draw c) (dCons (dVar 0) (dCons (dVar 1) (dNil))))) (dCons (dCall (w_law_draw c) (dCons (dVar 0) (dCons (dC (.int 5)) (dNil)))) (dNil)))))
    (sSeq (sSetF 2 (fLc (.nm 3) (wRng1 (dCons (dVar 4) (dNil))) (dYes) (fOp oRepF (dLst (dCons (dTup (dCons (dC (.int 0)) (dCons (dC (.int 1)) (dNil)))) (dNil))) (dVar 4)) [3]))
    (sSeq (sFor (.nm 3) (wRng1 (dCons (dVar 4) (dNil))) (lsBody c))
    (sFrz [2] (sRet (dCB oTuple (dCons (dLc (.nm 8) (wSeq (dVar 2)) (dYes) (dCB oTuple (dCons (dVar 8) (dNil))) [8]) (dNil))))))) := rfl
  rw [em]
  simp only [pVar, pIx, dLeaf, dLenO, gtSub, gtNm, gtTup, gtCons, gtNil, sAsgT, sSetF, sApp, fLc, fLeaf, fOp, fList, fLst, owE_ow, ndE_nd, put_nil, w_law_draw, wDraw, wSeq, wRng1, wRng2, wZip, dLc, asgK_nm, asgK_tp2, sFor, oAll_map, oAny_map, wipeD, oSl, List.length_cons, List.length_nil, sSeq, sAsg, sRet, sRetN, sIf, sNext, sPar, sDrop, sFrz, sAug, dOp, dVar, dC, dTup, dLst, dCons, dNil, dCall, dCB, dIx, dTest, dAnd, dOr, dNot, dAndV, dOrV, dNotV, dB, dIf, dNeg, dFld, dSelf, sSelf, dSl, dNoPart, dPart, dRevT, dDic1, dIsN, entD, asg, setAll, fnEnds, startD, startI, initEnds, slE, slI, fieldD, frzs, frz, List.map, List.length, List.replicate, List.getElem?_cons_zero, List.getElem?_cons_succ, List.set_cons_zero, List.set_cons_succ, List.cons_append, List.nil_append, wF, wR, oI_int, oI0_int, oPlus_int, oTimes_int, o1I, o2I, oInt, negE, revE, seq_tup, seq_lst, oIx, atI_0, atI_1, o1S, oEq_int, oEq_bl, if_true, if_false, Bool.not_true, Bool.not_false]
  refine ⟨by decide, by decide, by omega, fun sz0 a0 a1 => ⟨by decide, by decide, by omega, fun way w0 w1 => ⟨rfl, ⟨by omega, by omega⟩, ?_⟩⟩⟩
  obtain ⟨N, hN⟩ : ∃ N : Nat, 1 + sz0 = (N : Int) := Int.eq_ofNat_of_zero_le (by omega)
  rw [hN]
  rw [Int.toNat_natCast]
  unfold rangeD
  refine lcF_all (fun (i : Nat) => D.int (0 + (i : Int))) (NdT N) (fun i hi Q' hQ' => ?_) (fun ts lt hts => ?_)
  · rw [asgK_nm]
    simp only [pVar, pIx, dLeaf, dLenO, gtSub, gtNm, gtTup, gtCons, gtNil, sAsgT, sSetF, sApp, fLc, fLeaf, fOp, fList, fLst, owE_ow, ndE_nd, put_nil, w_law_draw, wDraw, wSeq, wRng1, wRng2, wZip, dLc, asgK_nm, asgK_tp2, sFor, oAll_map, oAny_map, wipeD, oSl, List.length_cons, List.length_nil, sSeq, sAsg, sRet, sRetN, sIf, sNext, sPar, sDrop, sFrz, sAug, dOp, dVar, dC, dTup, dLst, dCons, dNil, dCall, dCB, dIx, dTest, dAnd, dOr, dNot, dAndV, dOrV, dNotV, dB, dIf, dNeg, dFld, dSelf, sSelf, dSl, dNoPart, dPart, dRevT, dDic1, dIsN, entD, asg, setAll, fnEnds, startD, startI, initEnds, slE, slI, fieldD, frzs, frz, List.map, List.length, List.replicate, List.getElem?_cons_zero, List.getElem?_cons_succ, List.set_cons_zero, List.set_cons_succ, List.cons_append, List.nil_append, wF, wR, oI_int, oI0_int, oPlus_int, oTimes_int, o1I, o2I, oInt, negE, revE, seq_tup, seq_lst, oIx, atI_0, atI_1, o1S, oEq_int, oEq_bl, if_true, if_false, Bool.not_true, Bool.not_false]
    refine ⟨by omega, by omega, small_le (by simp; omega), fun b => hQ' _ ?_⟩
    rw [Int.toNat_natCast, rep_zero]
    exact ⟨b, List.replicate N 0, rfl, List.length_replicate, fun q hq => by rw [List.eq_of_mem_replicate hq]; exact ⟨by decide, by decide⟩⟩
  · intro a
    rw [List.length_range] at lt
    refine ⟨⟨by omega, by omega⟩, ?_⟩
    refine forD_inv (fun i ρ k => i ≤ N ∧ n + 2 ≤ k ∧ k ≤ n + 2 + 9 * i ∧ ∃ ts o3 o6 o7 o8 o9 o10 o11 o12 o13 o14, ρ = lsR p 4 N way a ts (sn o3) o6 o7 o8 o9 o10 o11 o12 o13 o14 ∧ ts.length = N ∧ ∀ j t, ts[j]? = some t → GrT N t ∧ (i ≤ j → NdT N t))
      0 ⟨Nat.zero_le _, by omega, by omega, ts, none, none, none, none, none, none, none, none, none, none, rfl, lt, fun j t hj => ?_⟩ ?_ ?_
    · have := hts t (List.mem_of_getElem? hj)
      exact ⟨this.gr, fun _ => this⟩
    · rintro i d ρ k hd ⟨hi, k1, k2, ts, o3, o6, o7, o8, o9, o10, o11, o12, o13, o14, rfl, lt, ht⟩ Nx hNx
      obtain ⟨hiN, rfl⟩ := range_get hd
      rw [Nat.zero_add] at ht k2 hNx
      obtain ⟨t, et⟩ : ∃ t, ts[i]? = some t := ⟨_, List.getElem?_eq_getElem (by omega)⟩
      rw [asgK_nm]
      refine lsBody_ok c (o6 := o6) (o7 := o7) (o8 := o8) (o9 := o9) (o10 := o10) (o11 := o11) (o12 := o12) (o13 := o13) (o14 := o14) lt hiN (by omega) w0 (by omega) et ((ht i t et).2 (Nat.le_refl _)) fun k' t' o6' o7' o9' o10' o11' o12' o13' o14' h1 h2 h3 => hNx _ _ ⟨by omega, by omega, by omega, ts.set i t', some _, o6', o7', o8, o9', o10', o11', o12', o13', o14', rfl, by rw [List.length_set]; exact lt, fun j u hj => ?_⟩
      by_cases hij : i = j
      · subst hij
        rw [List.getElem?_set_self (by omega)] at hj
        cases hj
        exact ⟨h3, fun h => by omega⟩
      · rw [List.getElem?_set_ne hij] at hj
        exact ⟨(ht j u hj).1, fun h => (ht j u hj).2 (by omega)⟩
    · rintro ρ k ⟨hi, k1, k2, ts, o3, o6, o7, o8, o9, o10, o11, o12, o13, o14, rfl, lt, ht⟩
      rw [List.length_map, List.length_range] at k2
      obtain ⟨S, eS, lS, hS⟩ := trees_rows (N := N) (ts := ts) fun t htm => by
        obtain ⟨j, hj⟩ := List.getElem?_of_mem htm
        exact (ht j t hj).1
      have eT : (OT.node a ts).toD = .lst (S.map rowL) := by
        show D.lst (OT.toDs ts) = _
        rw [eS]
      simp only [lsR, pVar, pIx, dLeaf, dLenO, gtSub, gtNm, gtTup, gtCons, gtNil, sAsgT, sSetF, sApp, fLc, fLeaf, fOp, fList, fLst, owE_ow, ndE_nd, put_nil, w_law_draw, wDraw, wSeq, wRng1, wRng2, wZip, dLc, asgK_nm, asgK_tp2, sFor, oAll_map, oAny_map, wipeD, oSl, List.length_cons, List.length_nil, sSeq, sAsg, sRet, sRetN, sIf, sNext, sPar, sDrop, sFrz, sAug, dOp, dVar, dC, dTup, dLst, dCons, dNil, dCall, dCB, dIx, dTest, dAnd, dOr, dNot, dAndV, dOrV, dNotV, dB, dIf, dNeg, dFld, dSelf, sSelf, dSl, dNoPart, dPart, dRevT, dDic1, dIsN, entD, asg, setAll, fnEnds, startD, startI, initEnds, slE, slI, fieldD, frzs, frz, List.map, List.length, List.replicate, List.getElem?_cons_zero, List.getElem?_cons_succ, List.set_cons_zero, List.set_cons_succ, List.cons_append, List.nil_append, wF, wR, oI_int, oI0_int, oPlus_int, oTimes_int, o1I, o2I, oInt, negE, revE, seq_tup, seq_lst, oIx, atI_0, atI_1, o1S, oEq_int, oEq_bl, if_true, if_false, Bool.not_true, Bool.not_false, eT]
      refine ⟨by cases o8 <;> rfl, ?_⟩
      refine lcD_mapA rowL rowD (fun r hr Q' q' => ?_) ?_
      · rw [asgK_nm]
        simp only [rowL, seq_lst, pVar, pIx, dLeaf, dLenO, gtSub, gtNm, gtTup, gtCons, gtNil, sAsgT, sSetF, sApp, fLc, fLeaf, fOp, fList, fLst, owE_ow, ndE_nd, put_nil, w_law_draw, wDraw, wSeq, wRng1, wRng2, wZip, dLc, asgK_nm, asgK_tp2, sFor, oAll_map, oAny_map, wipeD, oSl, List.length_cons, List.length_nil, sSeq, sAsg, sRet, sRetN, sIf, sNext, sPar, sDrop, sFrz, sAug, dOp, dVar, dC, dTup, dLst, dCons, dNil, dCall, dCB, dIx, dTest, dAnd, dOr, dNot, dAndV, dOrV, dNotV, dB, dIf, dNeg, dFld, dSelf, sSelf, dSl, dNoPart, dPart, dRevT, dDic1, dIsN, entD, asg, setAll, fnEnds, startD, startI, initEnds, slE, slI, fieldD, frzs, frz, List.map, List.length, List.replicate, List.getElem?_cons_zero, List.getElem?_cons_succ, List.set_cons_zero, List.set_cons_succ, List.cons_append, List.nil_append, wF, wR, oI_int, oI0_int, oPlus_int, oTimes_int, o1I, o2I, oInt, negE, revE, seq_tup, seq_lst, oIx, atI_0, atI_1, o1S, oEq_int, oEq_bl, if_true, if_false, Bool.not_true, Bool.not_false]
        exact q'
      · exact z S k (by omega) (by omega) ⟨fun r hr => by rw [(hS r hr).1]; omega, by omega, by omega⟩ fun r hr q hq => (hS r hr).2 q hq
end DL

set_option Elab.async false
set_option linter.all false
set_option maxRecDepth 100000
set_option maxHeartbeats 4000000
namespace DL
open PySem PySem.Spec PyProof.Rows L2

/-! ### the law -/
structure ClOk (c : Cl) : Prop where
  lid : c.Lid ∈ c.cls
  floor : c.Floor ∈ c.cls
  ne : c.Lid ≠ c.Floor
def lapBody (c : Cl) : WS := (sSeq (sAsg (.tp [10, 11]) (dTup (dCons (dCall (w_law_own_row c) (dCons (dVar 1) (dCons (dVar 2) (dCons (dC (.bl false)) (dNil))))) (dCons (dCall (w_law_own_row c) (dCons (dVar 1) (dCons (dVar 2) (dCons (dC (.bl true)) (dNil))))) (dNil)))))
  (sSeq (sAsg (.nm 6) (dCB oTuple (dCons (dOp oTimes (dLst (dCons (dTup (dCons (dC (.int 1)) (dCons (dC (.int 1)) (dNil)))) (dNil))) (dVar 3)) (dNil))))
  (sSeq (sAsg (.nm 7) (dCB oTuple (dCons (dLc (.nm 16) (wRng1 (dCons (dVar 3) (dNil))) (dYes) (dTup (dCons (dCB oInt (dCons (dOp (oEq false) (dVar 16) (dCall (w_law_draw c) (dCons (dVar 1) (dCons (dVar 3) (dNil))))) (dNil))) (dCons (dC (.int 1)) (dNil)))) [16]) (dNil))))
  (sSeq (sAsg (.nm 8) (dLst (dCons (dVar 10) (dCons (dVar 11) (dCons (dVar 6) (dCons (dVar 7) (dCons (dCB oTuple (dCons (dOp oTimes (dLst (dCons (dTup (dCons (dC (.int 0)) (dCons (dC (.int 1)) (dNil)))) (dNil))) (dVar 3)) (dNil))) (dCons (dCB oTuple (dCons (dLc (.nm 18) (wSeq (dVar 10)) (dYes) (dCall (w_law_mul c) (dCons (dTup (dCons (dC (.int 7)) (dCons (dC (.int 3)) (dNil)))) (dCons (dVar 18) (dNil)))) [18]) (dNil))) (dNil)))))))))
  (sSeq (sAsg (.nm 8) (dOp oPlus (dVar 8) (dLc (.nm 17) (wRng1 (dCons (dC (.int 8)) (dNil))) (dYes) (dCall (w_law_bent c) (dCons (dVar 1) (dCons (dCall (w_law_pick c) (dCons (dVar 1) (dCons (dLst (dCons (dVar 10) (dCons (dVar 11) (dCons (dVar 6) (dNil))))) (dNil)))) (dNil)))) [17])))
  (sFor (.nm 9) (wSeq (dVar 8)) (sSeq (sPar 12 13 (dCons (dCall (w_Lid_init c) (dCons (dVar 9) (dNil))) (dCons (dCall (w_Floor_init c) (dCons (dVar 9) (dNil))) (dNil))))
  (sSeq (sPar 14 15 (dCons (dCall (w_lid_holds c) (dCons (dVar 2) (dCons (dVar 12) (dNil)))) (dCons (dCall (w_floor_holds c) (dCons (dCall (w_law_loose_rows c) (dCons (dVar 1) (dCons (dVar 2) (dNil)))) (dCons (dVar 13) (dNil)))) (dNil))))
  (sSeq (sIf (dOr (dTest (dOp (oEq true) (dVar 14) (dCall (w_law_lid_right c) (dCons (dVar 2) (dCons (dFld c.Lid (Str.ofString "row") (dVar 12)) (dNil)))))) (dNot (dTest (dCB (oIsi1 c.cls) (dCons (dVar 14) (dCons (dC (.ty "bool")) (dNil))))))) (sRet (dC (.bl false))) (sNext))
  (sSeq (sIf (dOr (dTest (dOp (oEq true) (dVar 15) (dCall (w_law_floor_right c) (dCons (dVar 2) (dCons (dFld c.Floor (Str.ofString "row") (dVar 13)) (dNil)))))) (dNot (dTest (dCB (oIsi1 c.cls) (dCons (dVar 15) (dCons (dC (.ty "bool")) (dNil))))))) (sRet (dC (.bl false))) (sNext))
  (sIf (dOr (dTest (dCall (w_lid_holds c) (dCons (dVar 2) (dCons (dVar 13) (dNil))))) (dTest (dCall (w_floor_holds c) (dCons (dVar 2) (dCons (dVar 12) (dNil)))))) (sRet (dC (.bl false))) (sNext))))))))))))
def offBody (c : Cl) : WS := (sSeq (sPar 12 13 (dCons (dCall (w_Lid_init c) (dCons (dVar 9) (dNil))) (dCons (dCall (w_Floor_init c) (dCons (dVar 9) (dNil))) (dNil))))
  (sSeq (sPar 14 15 (dCons (dCall (w_lid_holds c) (dCons (dVar 2) (dCons (dVar 12) (dNil)))) (dCons (dCall (w_floor_holds c) (dCons (dCall (w_law_loose_rows c) (dCons (dVar 1) (dCons (dVar 2) (dNil)))) (dCons (dVar 13) (dNil)))) (dNil))))
  (sSeq (sIf (dOr (dTest (dOp (oEq true) (dVar 14) (dCall (w_law_lid_right c) (dCons (dVar 2) (dCons (dFld c.Lid (Str.ofString "row") (dVar 12)) (dNil)))))) (dNot (dTest (dCB (oIsi1 c.cls) (dCons (dVar 14) (dCons (dC (.ty "bool")) (dNil))))))) (sRet (dC (.bl false))) (sNext))
  (sSeq (sIf (dOr (dTest (dOp (oEq true) (dVar 15) (dCall (w_law_floor_right c) (dCons (dVar 2) (dCons (dFld c.Floor (Str.ofString "row") (dVar 13)) (dNil)))))) (dNot (dTest (dCB (oIsi1 c.cls) (dCons (dVar 15) (dCons (dC (.ty "bool")) (dNil))))))) (sRet (dC (.bl false))) (sNext))
  (sIf (dOr (dTest (dCall (w_lid_holds c) (dCons (dVar 2) (dCons (dVar 13) (dNil))))) (dTest (dCall (w_floor_holds c) (dCons (dVar 2) (dCons (dVar 12) (dNil)))))) (sRet (dC (.bl false))) (sNext))))))
def oddBody (c : Cl) : WS := (sIf (dOr (dTest (dCall (w_lid_holds c) (dCons (dVar 2) (dCons (dVar 5) (dNil))))) (dTest (dCall (w_floor_holds c) (dCons (dVar 2) (dCons (dVar 5) (dNil)))))) (sRet (dC (.bl false))) (sNext))
mutual
theorem gd_frozen {cls : List Addr} : ∀ (d : D), Gd cls d → Gd cls (frozenD d)
  | .tup ds, h => gds_frozen ds h
  | .lst ds, h => gds_frozen ds h
  | .non, h => h
  | .bl _, h => h
  | .int _, h => h
  | .str _, h => h
  | .dic _ _, h => h
  | .obj _ _ _, h => h
  | .fn _, h => h
  | .ty _, h => h
  | .pen _, h => h
theorem gds_frozen {cls : List Addr} : ∀ (ds : List D), Gds cls ds → Gds cls (frozenDs ds)
  | [], h => h
  | d :: ds, h => ⟨gd_frozen d h.1, gds_frozen ds h.2⟩
end
/-- a drawn sheet -/
structure ShOk (S : List (List Rat)) : Prop where
  sq : SqS S 4
  sz : szS 15 S
theorem paired_self {c : Cl} : ∀ {r : List Rat}, (∀ q ∈ r, sz 8000 q) → Paired (LoR c) r (ratsD r)
  | [], _ => .nil
  | q :: r, h => .cons (lo_rat (h q List.mem_cons_self)) (paired_self fun x hx => h x (List.mem_cons_of_mem _ hx))
theorem paired_rows {c : Cl} : ∀ {S : List (List Rat)}, szS 8000 S → Paired (RowR c) S (S.map rowD)
  | [], _ => .nil
  | r :: S, h => .cons ⟨gd_row r, ratsD r, rfl, paired_self (h r List.mem_cons_self)⟩ (paired_rows fun x hx => h x (List.mem_cons_of_mem _ hx))
theorem ShOk.big {S : List (List Rat)} (h : ShOk S) : szS 8000 S := fun r hr q hq => sz_mono (h.sz r hr q hq) (by decide)
theorem ShOk.sheet {S : List (List Rat)} (h : ShOk S) (c : Cl) : SheetP c (matD S) ∧ sqD (matD S) ∧ sheetVals (matD S) = S :=
  sheet_of (gd_mat S) rfl (paired_rows h.big) h.sq.1 h.sq.2.1
theorem ShOk.row {S : List (List Rat)} (h : ShOk S) {x : D} (hx : ∀ r, x = rowD r → ∀ q ∈ r, DL.sz 1475 q) : RowOk S x 15 1475 :=
  ⟨h.sz, h.sq.1, fun e => by have := h.sq.2.1; rw [e] at this; simp at this, by have := h.sq.2.2; omega, hx, by
    have h1 : S.length + 1 ≤ 5 := by have := h.sq.2.2; omega
    have h2 : (15 + 1475 + 1) * (S.length + 1) ≤ (15 + 1475 + 1) * 5 := Nat.mul_le_mul_left _ h1
    omega⟩
/-- an instance of the class at C whose row is x -/
abbrev ins1 (C : Addr) (x : D) : D := .obj C [Str.ofString "row"] [x]
theorem hold_same {c : Cl} {C : Addr} {S : List (List Rat)} {sh x : D} (hC : C ∈ c.cls) (h1 : SheetP c sh) (h2 : sqD sh) (hS : sheetVals sh = S) (hg : Gd c.cls x) (hr : ∃ h k, RowOk S x h k) : HoldP c C sh (ins1 C x) :=
  ⟨h1, h2, ⟨hC, hg, trivial⟩, fun ks fs e => by
    injection e with _ e1 e2
    exact ⟨x, e1.symm, e2.symm, by rw [hS]; exact hr⟩⟩
theorem hold_other {c : Cl} {C : Addr} {sh v : D} (h1 : SheetP c sh) (h2 : sqD sh) (hg : Gd c.cls v) (hn : ∀ ks fs, v ≠ .obj C ks fs) : HoldP c C sh v := ⟨h1, h2, hg, fun ks fs e => absurd e (hn ks fs)⟩
theorem field_same {C : Addr} {x : D} : fieldOf C (ins1 C x) = some x := by
  show (if C = C then some x else none) = _
  rw [if_pos rfl]
theorem field_other {C C' : Addr} {x : D} (h : C' ≠ C) : fieldOf C (ins1 C' x) = none := by
  show (if C' = C then some x else none) = _
  rw [if_neg h]
/-- the state within a lap -/
theorem offBody_ok (c : Cl) (ok : ClOk c) {D : DEn} {n : Nat} {p : Addr} {S : List (List Rat)} {d : DL.D} {e0 e3 e4 e5 e6 e7 e8 e10 e11 : Ent} {o12 o13 o14 o15 : Option DL.D} {e16 e17 e18 : Ent} (hS : ShOk S) (hd : BentOk c d) (hn : n + 33 ≤ 2 ^ 40)
    (q : ∀ k o12' o13' o14' o15', n ≤ k → k ≤ n + 33 → D.nx [e0, .sh (.pen p), .sh (matD S), e3, e4, e5, e6, e7, e8, .sh d, e10, e11, sn o12', sn o13', sn o14', sn o15', e16, e17, e18] k) :
    offBody c [e0, .sh (.pen p), .sh (matD S), e3, e4, e5, e6, e7, e8, .sh d, e10, e11, sn o12, sn o13, sn o14, sn o15, e16, e17, e18] n D := by
  obtain ⟨hs1, hs2, hs3⟩ := hS.sheet c
  have gx := gd_frozen d hd.gd
  have rx := hS.row hd.sz
  unfold offBody
  simp only [pVar, pIx, dLeaf, dLenO, gtSub, gtNm, gtTup, gtCons, gtNil, sAsgT, sSetF, sApp, fLc, fLeaf, fOp, fList, fLst, owE_ow, ndE_nd, put_nil, w_law_draw, wDraw, wSeq, wRng1, wRng2, wZip, dLc, asgK_nm, asgK_tp2, sFor, oAll_map, oAny_map, wipeD, oSl, List.length_cons, List.length_nil, sSeq, sAsg, sRet, sRetN, sIf, sNext, sPar, sDrop, sFrz, sAug, dOp, dVar, dC, dTup, dLst, dCons, dNil, dCall, dCB, dIx, dTest, dAnd, dOr, dNot, dAndV, dOrV, dNotV, dB, dIf, dNeg, dFld, dSelf, sSelf, dSl, dNoPart, dPart, dRevT, dDic1, dIsN, entD, asg, setAll, fnEnds, startD, startI, initEnds, slE, slI, fieldD, frzs, frz, List.map, List.length, List.replicate, List.getElem?_cons_zero, List.getElem?_cons_succ, List.set_cons_zero, List.set_cons_succ, List.cons_append, List.nil_append, wF, wR, oI_int, oI0_int, oPlus_int, oTimes_int, o1I, o2I, oInt, negE, revE, seq_tup, seq_lst, oIx, atI_0, atI_1, o1S, oEq_int, oEq_bl, if_true, if_false, Bool.not_true, Bool.not_false]
  refine ⟨⟨d, rfl, hd.gd, hd.dp⟩, ⟨d, rfl, hd.gd, hd.dp⟩, ?_⟩
  refine ⟨⟨_, _, rfl, ok.lid, hold_same ok.lid hs1 hs2 hs3 gx ⟨_, _, rx⟩⟩, p, S, rfl, hS.big, hS.sq, hn, fun r k k1 k2 l1 l2 l3 => ⟨⟨_, _, rfl, ok.floor, hold_same ok.floor l1 l2 l3 gx ⟨_, _, rx⟩⟩, trivial, ?_⟩⟩
  have f1 : fieldOf c.Lid (DL.D.obj c.Lid [Str.ofString "row"] [frozenD d]) = some (frozenD d) := field_same
  have f2 : fieldOf c.Floor (DL.D.obj c.Floor [Str.ofString "row"] [frozenD d]) = some (frozenD d) := field_same
  have f3 : fieldOf c.Lid (DL.D.obj c.Floor [Str.ofString "row"] [frozenD d]) = none := field_other (Ne.symm ok.ne)
  have f4 : fieldOf c.Floor (DL.D.obj c.Lid [Str.ofString "row"] [frozenD d]) = none := field_other ok.ne
  rw [f1, f2]
  simp only [hs3, l3]
  refine ⟨S, frozenD d, rfl, gx, ⟨15, 1475, rx⟩, ?_⟩
  show oEq true (.bl _) (.bl _) _
  rw [oEq_bl]
  simp only [beq_self_eq_true, if_true, if_false, Bool.not_true, Bool.false_eq_true]
  rw [isi_bool (show Gd c.cls (DL.D.bl _) from trivial)]
  simp only [isBoolB, Bool.not_true, Bool.false_eq_true, if_false]
  refine ⟨trivial, S, frozenD d, rfl, gx, ⟨15, 1475, rx⟩, ?_⟩
  show oEq true (.bl _) (.bl _) _
  rw [oEq_bl]
  simp only [beq_self_eq_true, if_true, if_false, Bool.not_true, Bool.false_eq_true]
  rw [isi_bool (show Gd c.cls (DL.D.bl _) from trivial)]
  simp only [isBoolB, Bool.not_true, Bool.false_eq_true, if_false]
  refine ⟨⟨_, _, rfl, ok.lid, hold_other hs1 hs2 ⟨ok.floor, gx, trivial⟩ fun ks fs e => by injection e with e1; exact ok.ne e1.symm⟩, ?_⟩
  rw [f3]
  simp only [Bool.false_eq_true, if_false]
  refine ⟨⟨_, _, rfl, ok.floor, hold_other hs1 hs2 ⟨ok.lid, gx, trivial⟩ fun ks fs e => by injection e with e1; exact ok.ne e1⟩, ?_⟩
  rw [f4]
  simp only [Bool.false_eq_true, if_false]
  exact q k (some _) (some _) (some _) (some _) k1 k2

theorem rep_q (N : Nat) (d : D) (q : Rat) (e : d = rat q) : (List.replicate N [d]).flatten = ratsD (List.replicate N q) := by
  rw [e]
  unfold ratsD
  rw [List.map_replicate]
  induction N with
  | zero => rfl
  | succ N ih => rw [List.replicate_succ, List.replicate_succ, List.flatten_cons, ih]; rfl
theorem one_rat : D.tup [.int 1, .int 1] = rat 1 := by rw [show (1 : Rat) = ((1 : Int) : Rat) from rfl, rat_int]
theorem zero_rat : D.tup [.int 0, .int 1] = rat 0 := by rw [show (0 : Rat) = ((0 : Int) : Rat) from rfl, rat_int]
theorem bit_rat (b : Bool) : ∃ q, D.tup [.int (if b = true then 1 else 0), .int 1] = rat q ∧ DL.sz 3 q := by
  cases b
  · exact ⟨0, zero_rat, by decide, by decide⟩
  · exact ⟨1, one_rat, by decide, by decide⟩
theorem lapBody_ok (c : Cl) (ok : ClOk c) {D : DEn} {n N : Nat} {p : Addr} {S : List (List Rat)} {e0 e4 e5 : Ent} {o6 o7 o8 o9 o10 o11 o12 o13 o14 o15 o16 o17 o18 : Option DL.D} (hS : ShOk S) (hN : S.length = N) (hn : n + 600 ≤ 2 ^ 40)
    (q : ∀ k o7' o8' o9' o10' o11' o12' o13' o14' o15' o16' o17' o18', n ≤ k → k ≤ n + 600 → D.nx [e0, .sh (.pen p), .sh (matD S), .sh (.int N), e4, e5, .sh (.tup (ratsD (List.replicate N 1))), sn o7', sn o8', sn o9', sn o10', sn o11', sn o12', sn o13', sn o14', sn o15', sn o16', sn o17', sn o18'] k) :
    lapBody c [e0, .sh (.pen p), .sh (matD S), .sh (.int N), e4, e5, sn o6, sn o7, sn o8, sn o9, sn o10, sn o11, sn o12, sn o13, sn o14, sn o15, sn o16, sn o17, sn o18] n D := by
  have h1 : 0 < N := by have := hS.sq.2.1; omega
  have h4 : N ≤ 4 := by have := hS.sq.2.2; omega
  have em : lapBody c = (sSeq (sAsg (.tp [10, 11]) (dTup (dCons (dCall (w_law_own_row c) (dCons (dVar 1) (dCons (dVar 2) (dCons (dC (.bl false)) (dNil))))) (dCons (dCall (w_law_own_row c) (dCons (dVar 1) (dCons (dVar 2) (dCons (dC (.bl true)) (dNil))))) (dNil)))))
  (sSeq (sAsg (.nm 6) (dCB oTuple (dCons (dOp oTimes (dLst (dCons (dTup (dCons (dC (.int 1)) (dCons (dC (.int 1)) (dNil)))) (dNil))) (dVar 3)) (dNil))))
  (sSeq (sAsg (.nm 7) (dCB oTuple (dCons (dLc (.nm 16) (wRng1 (dCons (dVar 3) (dNil))) (dYes) (dTup (dCons (dCB oInt (dCons (dOp (oEq false) (dVar 16) (dCall (w_law_draw c) (dCons (dVar 1) (dCons (dVar 3) (dNil))))) (dNil))) (dCons (dC (.int 1)) (dNil)))) [16]) (dNil))))
  (sSeq (sAsg (.nm 8) (dLst (dCons (dVar 10) (dCons (dVar 11) (dCons (dVar 6) (dCons (dVar 7) (dCons (dCB oTuple (dCons (dOp oTimes (dLst (dCons (dTup (dCons (dC (.int 0)) (dCons (dC (.int 1)) (dNil)))) (dNil))) (dVar 3)) (dNil))) (dCons (dCB oTuple (dCons (dLc (.nm 18) (wSeq (dVar 10)) (dYes) (dCall (w_law_mul c) (dCons (dTup (dCons (dC (.int 7)) (dCons (dC (.int 3)) (dNil)))) (dCons (dVar 18) (dNil)))) [18]) (dNil))) (dNil)))))))))
  (sSeq (sAsg (.nm 8) (dOp oPlus (dVar 8) (dLc (.nm 17) (wRng1 (dCons (dC (.int 8)) (dNil))) (dYes) (dCall (w_law_bent c) (dCons (dVar 1) (dCons (dCall (w_law_pick c) (dCons (dVar 1) (dCons (dLst (dCons (dVar 10) (dCons (dVar 11) (dCons (dVar 6) (dNil))))) (dNil)))) (dNil)))) [17])))
  (sFor (.nm 9) (wSeq (dVar 8)) (offBody c))))))) := rfl
  rw [em]
  simp only [pVar, pIx, dLeaf, dLenO, gtSub, gtNm, gtTup, gtCons, gtNil, sAsgT, sSetF, sApp, fLc, fLeaf, fOp, fList, fLst, owE_ow, ndE_nd, put_nil, w_law_draw, wDraw, wSeq, wRng1, wRng2, wZip, dLc, asgK_nm, asgK_tp2, sFor, oAll_map, oAny_map, wipeD, oSl, List.length_cons, List.length_nil, sSeq, sAsg, sRet, sRetN, sIf, sNext, sPar, sDrop, sFrz, sAug, dOp, dVar, dC, dTup, dLst, dCons, dNil, dCall, dCB, dIx, dTest, dAnd, dOr, dNot, dAndV, dOrV, dNotV, dB, dIf, dNeg, dFld, dSelf, sSelf, dSl, dNoPart, dPart, dRevT, dDic1, dIsN, entD, asg, setAll, fnEnds, startD, startI, initEnds, slE, slI, fieldD, frzs, frz, List.map, List.length, List.replicate, List.getElem?_cons_zero, List.getElem?_cons_succ, List.set_cons_zero, List.set_cons_succ, List.cons_append, List.nil_append, wF, wR, oI_int, oI0_int, oPlus_int, oTimes_int, o1I, o2I, oInt, negE, revE, seq_tup, seq_lst, oIx, atI_0, atI_1, o1S, oEq_int, oEq_bl, if_true, if_false, Bool.not_true, Bool.not_false]
  refine ⟨p, S, false, rfl, hS.sz, hS.sq, by omega, fun own k1 a1 a2 lo so => ⟨p, S, true, rfl, hS.sz, hS.sq, by omega, fun tu k2 b1 b2 lt st => ?_⟩⟩
  clear em
  refine ⟨by omega, by omega, small_le (by simp; omega), ?_⟩
  rw [Int.toNat_natCast]
  simp only [pVar, pIx, dLeaf, dLenO, gtSub, gtNm, gtTup, gtCons, gtNil, sAsgT, sSetF, sApp, fLc, fLeaf, fOp, fList, fLst, owE_ow, ndE_nd, put_nil, w_law_draw, wDraw, wSeq, wRng1, wRng2, wZip, dLc, asgK_nm, asgK_tp2, sFor, oAll_map, oAny_map, wipeD, oSl, List.length_cons, List.length_nil, sSeq, sAsg, sRet, sRetN, sIf, sNext, sPar, sDrop, sFrz, sAug, dOp, dVar, dC, dTup, dLst, dCons, dNil, dCall, dCB, dIx, dTest, dAnd, dOr, dNot, dAndV, dOrV, dNotV, dB, dIf, dNeg, dFld, dSelf, sSelf, dSl, dNoPart, dPart, dRevT, dDic1, dIsN, entD, asg, setAll, fnEnds, startD, startI, initEnds, slE, slI, fieldD, frzs, frz, List.map, List.length, List.replicate, List.getElem?_cons_zero, List.getElem?_cons_succ, List.set_cons_zero, List.set_cons_succ, List.cons_append, List.nil_append, wF, wR, oI_int, oI0_int, oPlus_int, oTimes_int, o1I, o2I, oInt, negE, revE, seq_tup, seq_lst, oIx, atI_0, atI_1, o1S, oEq_int, oEq_bl, if_true, if_false, Bool.not_true, Bool.not_false, rep_q N _ 1 one_rat]
  refine ⟨by cases o16 <;> rfl, by omega, ?_⟩
  unfold rangeD
  refine lcD_relA (fun (i : Nat) => DL.D.int (0 + (i : Int))) (fun _ r => ∃ q, r = rat q ∧ DL.sz 3 q) 1 (fun i hi k j1 j2 Q' hQ' => ?_) (fun rs k3 c1 c2 hp => ?_)
  · rw [asgK_nm]
    simp only [pVar, pIx, dLeaf, dLenO, gtSub, gtNm, gtTup, gtCons, gtNil, sAsgT, sSetF, sApp, fLc, fLeaf, fOp, fList, fLst, owE_ow, ndE_nd, put_nil, w_law_draw, wDraw, wSeq, wRng1, wRng2, wZip, dLc, asgK_nm, asgK_tp2, sFor, oAll_map, oAny_map, wipeD, oSl, List.length_cons, List.length_nil, sSeq, sAsg, sRet, sRetN, sIf, sNext, sPar, sDrop, sFrz, sAug, dOp, dVar, dC, dTup, dLst, dCons, dNil, dCall, dCB, dIx, dTest, dAnd, dOr, dNot, dAndV, dOrV, dNotV, dB, dIf, dNeg, dFld, dSelf, sSelf, dSl, dNoPart, dPart, dRevT, dDic1, dIsN, entD, asg, setAll, fnEnds, startD, startI, initEnds, slE, slI, fieldD, frzs, frz, List.map, List.length, List.replicate, List.getElem?_cons_zero, List.getElem?_cons_succ, List.set_cons_zero, List.set_cons_succ, List.cons_append, List.nil_append, wF, wR, oI_int, oI0_int, oPlus_int, oTimes_int, o1I, o2I, oInt, negE, revE, seq_tup, seq_lst, oIx, atI_0, atI_1, o1S, oEq_int, oEq_bl, if_true, if_false, Bool.not_true, Bool.not_false]
    rw [List.length_range] at j1
    refine ⟨by omega, by omega, by omega, fun r r0 r1 => ?_⟩
    exact hQ' _ _ (by omega) (by omega) (bit_rat _)
  · obtain ⟨un, rfl, lu, su⟩ := paired_rats hp
    rw [List.length_range] at c2
    refine ⟨by omega, by omega, small_le (by simp; omega), ?_⟩
    rw [Int.toNat_natCast]
    simp only [rowD, pVar, pIx, dLeaf, dLenO, gtSub, gtNm, gtTup, gtCons, gtNil, sAsgT, sSetF, sApp, fLc, fLeaf, fOp, fList, fLst, owE_ow, ndE_nd, put_nil, w_law_draw, wDraw, wSeq, wRng1, wRng2, wZip, dLc, asgK_nm, asgK_tp2, sFor, oAll_map, oAny_map, wipeD, oSl, List.length_cons, List.length_nil, sSeq, sAsg, sRet, sRetN, sIf, sNext, sPar, sDrop, sFrz, sAug, dOp, dVar, dC, dTup, dLst, dCons, dNil, dCall, dCB, dIx, dTest, dAnd, dOr, dNot, dAndV, dOrV, dNotV, dB, dIf, dNeg, dFld, dSelf, sSelf, dSl, dNoPart, dPart, dRevT, dDic1, dIsN, entD, asg, setAll, fnEnds, startD, startI, initEnds, slE, slI, fieldD, frzs, frz, List.map, List.length, List.replicate, List.getElem?_cons_zero, List.getElem?_cons_succ, List.set_cons_zero, List.set_cons_succ, List.cons_append, List.nil_append, wF, wR, oI_int, oI0_int, oPlus_int, oTimes_int, o1I, o2I, oInt, negE, revE, seq_tup, seq_lst, oIx, atI_0, atI_1, o1S, oEq_int, oEq_bl, if_true, if_false, Bool.not_true, Bool.not_false, rep_q N _ 0 zero_rat]
    refine ⟨by cases o18 <;> rfl, ?_⟩
    obtain ⟨w, ew, sw, _⟩ := wr_rat (h := 3) (p := (7, 3)) (by decide)
    refine lcD_mapA rat (fun q => rat (w * q)) (fun q hq Q' q' => ?_) ?_
    · rw [asgK_nm]
      simp only [pVar, pIx, dLeaf, dLenO, gtSub, gtNm, gtTup, gtCons, gtNil, sAsgT, sSetF, sApp, fLc, fLeaf, fOp, fList, fLst, owE_ow, ndE_nd, put_nil, w_law_draw, wDraw, wSeq, wRng1, wRng2, wZip, dLc, asgK_nm, asgK_tp2, sFor, oAll_map, oAny_map, wipeD, oSl, List.length_cons, List.length_nil, sSeq, sAsg, sRet, sRetN, sIf, sNext, sPar, sDrop, sFrz, sAug, dOp, dVar, dC, dTup, dLst, dCons, dNil, dCall, dCB, dIx, dTest, dAnd, dOr, dNot, dAndV, dOrV, dNotV, dB, dIf, dNeg, dFld, dSelf, sSelf, dSl, dNoPart, dPart, dRevT, dDic1, dIsN, entD, asg, setAll, fnEnds, startD, startI, initEnds, slE, slI, fieldD, frzs, frz, List.map, List.length, List.replicate, List.getElem?_cons_zero, List.getElem?_cons_succ, List.set_cons_zero, List.set_cons_succ, List.cons_append, List.nil_append, wF, wR, oI_int, oI0_int, oPlus_int, oTimes_int, o1I, o2I, oInt, negE, revE, seq_tup, seq_lst, oIx, atI_0, atI_1, o1S, oEq_int, oEq_bl, if_true, if_false, Bool.not_true, Bool.not_false]
      exact ⟨w, q, by rw [← ew]; rfl, ⟨3, 1439, sw, so q hq, by decide⟩, q'⟩
    · refine ⟨by cases o17 <;> rfl, by decide, ?_⟩
      have hones : ∀ q ∈ List.replicate N (1 : Rat), DL.sz 1440 q := fun q hq => by rw [List.eq_of_mem_replicate hq]; exact ⟨by decide, by decide⟩
      have ho : BentOk c (.tup (ratsD own)) := bent_row fun q hq => sz_mono (so q hq) (by decide)
      have ht : BentOk c (.tup (ratsD tu)) := bent_row fun q hq => sz_mono (st q hq) (by decide)
      have h1s : BentOk c (.tup (ratsD (List.replicate N 1))) := bent_row fun q hq => sz_mono (hones q hq) (by decide)
      have hu : BentOk c (.tup (ratsD un)) := bent_row fun q hq => sz_mono (su q hq) (by decide)
      have hz : BentOk c (.tup (ratsD (List.replicate N 0))) := bent_row fun q hq => by rw [List.eq_of_mem_replicate hq]; exact ⟨by decide, by decide⟩
      have hm : BentOk c (.tup (own.map fun q => rat (w * q))) := by
        rw [show (own.map fun q => rat (w * q)) = ratsD (own.map fun q => w * q) from by unfold ratsD; rw [List.map_map]; rfl]
        refine bent_row fun q hq => ?_
        obtain ⟨x, hx, rfl⟩ := List.mem_map.mp hq
        exact sz_mono (sz_mul sw (so x hx)) (by decide)
      refine lcD_relA (fun (i : Nat) => DL.D.int (0 + (i : Int))) (fun _ r => BentOk c r) 4 (fun i hi k j1 j2 Q' hQ' => ?_) (fun bs k4 d1 d2 hb => ?_)
      · rw [asgK_nm]
        simp only [pVar, pIx, dLeaf, dLenO, gtSub, gtNm, gtTup, gtCons, gtNil, sAsgT, sSetF, sApp, fLc, fLeaf, fOp, fList, fLst, owE_ow, ndE_nd, put_nil, w_law_draw, wDraw, wSeq, wRng1, wRng2, wZip, dLc, asgK_nm, asgK_tp2, sFor, oAll_map, oAny_map, wipeD, oSl, List.length_cons, List.length_nil, sSeq, sAsg, sRet, sRetN, sIf, sNext, sPar, sDrop, sFrz, sAug, dOp, dVar, dC, dTup, dLst, dCons, dNil, dCall, dCB, dIx, dTest, dAnd, dOr, dNot, dAndV, dOrV, dNotV, dB, dIf, dNeg, dFld, dSelf, sSelf, dSl, dNoPart, dPart, dRevT, dDic1, dIsN, entD, asg, setAll, fnEnds, startD, startI, initEnds, slE, slI, fieldD, frzs, frz, List.map, List.length, List.replicate, List.getElem?_cons_zero, List.getElem?_cons_succ, List.set_cons_zero, List.set_cons_succ, List.cons_append, List.nil_append, wF, wR, oI_int, oI0_int, oPlus_int, oTimes_int, o1I, o2I, oInt, negE, revE, seq_tup, seq_lst, oIx, atI_0, atI_1, o1S, oEq_int, oEq_bl, if_true, if_false, Bool.not_true, Bool.not_false]
        rw [List.length_range] at j1
        refine pick_use (c := c) (p := p) (E := fun _ _ => False) (by simp) (by simp) (by omega) fun x kx x1 x2 hx => ?_
        have : ∃ r : List Rat, x = rowD r ∧ r ≠ [] ∧ r.length ≤ 4 ∧ ∀ q ∈ r, DL.sz 1440 q := by
          simp only [List.mem_cons, List.not_mem_nil, or_false] at hx
          rcases hx with rfl | rfl | rfl
          · exact ⟨own, rfl, fun e => by rw [e] at lo; simp at lo; omega, by omega, fun q hq => sz_mono (so q hq) (by decide)⟩
          · exact ⟨tu, rfl, fun e => by rw [e] at lt; simp at lt; omega, by omega, fun q hq => sz_mono (st q hq) (by decide)⟩
          · exact ⟨List.replicate N 1, rfl, fun e => by have := congrArg List.length e; simp at this; omega, by simp; omega, hones⟩
        obtain ⟨r, rfl, r1, r2, r3⟩ := this
        exact ⟨p, r, rfl, r1, r2, r3, by omega, fun y ky y1 y2 hy => hQ' _ _ (by omega) (by omega) hy⟩
      · rw [List.length_range] at d2
        have lb : bs.length = 8 := by rw [paired_len hb, List.length_range]; rfl
        replace d2 : k4 ≤ k3 + 4 * 8 := d2
        refine ⟨small_le (by simp; omega), ?_⟩
        simp only [seq_lst]
        have all : ∀ x ∈ [DL.D.tup (ratsD own), .tup (ratsD tu), .tup (ratsD (List.replicate N 1)), .tup (ratsD un), .tup (ratsD (List.replicate N 0)), .tup (own.map fun q => rat (w * q))] ++ bs, BentOk c x := fun x hx => by
          rcases List.mem_append.mp hx with hx | hx
          · simp only [List.mem_cons, List.not_mem_nil, or_false] at hx
            rcases hx with rfl | rfl | rfl | rfl | rfl | rfl
            · exact ho
            · exact ht
            · exact h1s
            · exact hu
            · exact hz
            · exact hm
          · obtain ⟨_, _, h⟩ := paired_mem hb x hx
            exact h
        refine forD_inv (fun i ρ k => n ≤ k ∧ k ≤ n + 100 + 33 * i ∧ ∃ o9 o12 o13 o14 o15, ρ = [e0, .sh (.pen p), .sh (matD S), .sh (.int N), e4, e5, .sh (.tup (ratsD (List.replicate N 1))), .sh (.tup (ratsD un)), .sh (.lst ([DL.D.tup (ratsD own), .tup (ratsD tu), .tup (ratsD (List.replicate N 1)), .tup (ratsD un), .tup (ratsD (List.replicate N 0)), .tup (own.map fun q => rat (w * q))] ++ bs)), sn o9, .sh (.tup (ratsD own)), .sh (.tup (ratsD tu)), sn o12, sn o13, sn o14, sn o15, sn o16, sn o17, sn o18])
          0 ⟨by omega, by omega, o9, o12, o13, o14, o15, rfl⟩ ?_ ?_
        · rintro i d ρ k hd ⟨m1, m2, o9, o12, o13, o14, o15, rfl⟩ Nx hNx
          have hi := (List.getElem?_eq_some_iff.mp hd).1
          rw [List.length_append, lb] at hi
          simp only [List.length_cons, List.length_nil] at hi
          rw [asgK_nm]
          exact offBody_ok c ok hS (all d (List.mem_of_getElem? hd)) (by omega) fun k' o12' o13' o14' o15' h1 h2 => hNx _ _ ⟨by omega, by omega, some _, o12', o13', o14', o15', rfl⟩
        · rintro ρ k ⟨m1, m2, o9, o12, o13, o14, o15, rfl⟩
          rw [List.length_append, lb] at m2
          simp only [List.length_cons, List.length_nil] at m2
          exact q k (some _) (some _) o9 (some _) (some _) o12 o13 o14 o15 o16 o17 o18 m1 (by omega)
end DL

set_option Elab.async false
set_option linter.all false
set_option maxRecDepth 100000
set_option maxHeartbeats 4000000
namespace DL
open PySem PySem.Spec PyProof.Rows L2

def m_law (c : Cl) : WS := sSeq (sAsg (.nm 2) (dCall (w_law_late_sheet c) (dCons (dVar 1) (dCons (dC (.int 4)) (dNil)))))
  (sSeq (sAsg (.nm 3) (dCB oLen (dCons (dVar 2) (dNil))))
  (sSeq (sFor (.nm 4) (wRng1 (dCons (dC (.int 5)) (dNil))) (sSeq (sAsg (.tp [10, 11]) (dTup (dCons (dCall (w_law_own_row c) (dCons (dVar 1) (dCons (dVar 2) (dCons (dC (.bl false)) (dNil))))) (dCons (dCall (w_law_own_row c) (dCons (dVar 1) (dCons (dVar 2) (dCons (dC (.bl true)) (dNil))))) (dNil)))))
  (sSeq (sAsg (.nm 6) (dCB oTuple (dCons (dOp oTimes (dLst (dCons (dTup (dCons (dC (.int 1)) (dCons (dC (.int 1)) (dNil)))) (dNil))) (dVar 3)) (dNil))))
  (sSeq (sAsg (.nm 7) (dCB oTuple (dCons (dLc (.nm 16) (wRng1 (dCons (dVar 3) (dNil))) (dYes) (dTup (dCons (dCB oInt (dCons (dOp (oEq false) (dVar 16) (dCall (w_law_draw c) (dCons (dVar 1) (dCons (dVar 3) (dNil))))) (dNil))) (dCons (dC (.int 1)) (dNil)))) [16]) (dNil))))
  (sSeq (sAsg (.nm 8) (dLst (dCons (dVar 10) (dCons (dVar 11) (dCons (dVar 6) (dCons (dVar 7) (dCons (dCB oTuple (dCons (dOp oTimes (dLst (dCons (dTup (dCons (dC (.int 0)) (dCons (dC (.int 1)) (dNil)))) (dNil))) (dVar 3)) (dNil))) (dCons (dCB oTuple (dCons (dLc (.nm 18) (wSeq (dVar 10)) (dYes) (dCall (w_law_mul c) (dCons (dTup (dCons (dC (.int 7)) (dCons (dC (.int 3)) (dNil)))) (dCons (dVar 18) (dNil)))) [18]) (dNil))) (dNil)))))))))
  (sSeq (sAsg (.nm 8) (dOp oPlus (dVar 8) (dLc (.nm 17) (wRng1 (dCons (dC (.int 8)) (dNil))) (dYes) (dCall (w_law_bent c) (dCons (dVar 1) (dCons (dCall (w_law_pick c) (dCons (dVar 1) (dCons (dLst (dCons (dVar 10) (dCons (dVar 11) (dCons (dVar 6) (dNil))))) (dNil)))) (dNil)))) [17])))
  (sFor (.nm 9) (wSeq (dVar 8)) (sSeq (sPar 12 13 (dCons (dCall (w_Lid_init c) (dCons (dVar 9) (dNil))) (dCons (dCall (w_Floor_init c) (dCons (dVar 9) (dNil))) (dNil))))
  (sSeq (sPar 14 15 (dCons (dCall (w_lid_holds c) (dCons (dVar 2) (dCons (dVar 12) (dNil)))) (dCons (dCall (w_floor_holds c) (dCons (dCall (w_law_loose_rows c) (dCons (dVar 1) (dCons (dVar 2) (dNil)))) (dCons (dVar 13) (dNil)))) (dNil))))
  (sSeq (sIf (dOr (dTest (dOp (oEq true) (dVar 14) (dCall (w_law_lid_right c) (dCons (dVar 2) (dCons (dFld c.Lid (Str.ofString "row") (dVar 12)) (dNil)))))) (dNot (dTest (dCB (oIsi1 c.cls) (dCons (dVar 14) (dCons (dC (.ty "bool")) (dNil))))))) (sRet (dC (.bl false))) (sNext))
  (sSeq (sIf (dOr (dTest (dOp (oEq true) (dVar 15) (dCall (w_law_floor_right c) (dCons (dVar 2) (dCons (dFld c.Floor (Str.ofString "row") (dVar 13)) (dNil)))))) (dNot (dTest (dCB (oIsi1 c.cls) (dCons (dVar 15) (dCons (dC (.ty "bool")) (dNil))))))) (sRet (dC (.bl false))) (sNext))
  (sIf (dOr (dTest (dCall (w_lid_holds c) (dCons (dVar 2) (dCons (dVar 13) (dNil))))) (dTest (dCall (w_floor_holds c) (dCons (dVar 2) (dCons (dVar 12) (dNil)))))) (sRet (dC (.bl false))) (sNext)))))))))))))
  (sSeq (sFor (.nm 5) (wSeq (dLst (dCons (dC .non) (dCons (dC (.int 0)) (dCons (dTup (dNil)) (dCons (dVar 6) (dCons (dC (.str (Str.ofString "x"))) (dCons (dDic1 0 (dC (.int 1))) (dCons (dCall (w_Lid_init c) (dCons (dC .non) (dNil))) (dCons (dCall (w_Floor_init c) (dCons (dC .non) (dNil))) (dCons (dCall (w_Lid_init c) (dCons (dOp oTimes (dTup (dCons (dTup (dCons (dC (.int 1)) (dCons (dC (.int 1)) (dNil)))) (dNil))) (dOp oPlus (dVar 3) (dC (.int 1)))) (dNil))) (dNil)))))))))))) (sIf (dOr (dTest (dCall (w_lid_holds c) (dCons (dVar 2) (dCons (dVar 5) (dNil))))) (dTest (dCall (w_floor_holds c) (dCons (dVar 2) (dCons (dVar 5) (dNil)))))) (sRet (dC (.bl false))) (sNext)))
  (sSeq (sIf (dOr (dTest (dOwn c.Lid c.cls (w_Lid_eq c) true (dCall (w_Lid_init c) (dCons (dLst (dCons (dLst (dCons (dC (.int 1)) (dCons (dC (.int 2)) (dNil)))) (dNil))) (dNil))) (dCall (w_Lid_init c) (dCons (dTup (dCons (dTup (dCons (dC (.int 1)) (dCons (dC (.int 2)) (dNil)))) (dNil))) (dNil))))) (dOr (dTest (dOwn c.Lid c.cls (w_Lid_eq c) false (dCall (w_Lid_init c) (dCons (dTup (dCons (dC (.int 1)) (dNil))) (dNil))) (dCall (w_Lid_init c) (dCons (dTup (dCons (dC (.int 2)) (dNil))) (dNil))))) (dOr (dTest (dOwn c.Floor c.cls (w_Floor_eq c) true (dCall (w_Floor_init c) (dCons (dLst (dCons (dC (.int 1)) (dNil))) (dNil))) (dCall (w_Floor_init c) (dCons (dTup (dCons (dC (.int 1)) (dNil))) (dNil))))) (dTest (dOwn c.Floor c.cls (w_Floor_eq c) false (dCall (w_Floor_init c) (dCons (dTup (dCons (dC (.int 1)) (dNil))) (dNil))) (dCall (w_Floor_init c) (dCons (dTup (dCons (dC (.int 2)) (dNil))) (dNil)))))))) (sRet (dC (.bl false))) (sNext))
  (sRet (dAndV (dOwn c.Lid c.cls (w_Lid_eq c) true (dCall (w_Lid_init c) (dCons (dTup (dCons (dC (.int 1)) (dNil))) (dNil))) (dCall (w_Floor_init c) (dCons (dTup (dCons (dC (.int 1)) (dNil))) (dNil)))) (dOp (oEq false) (dFld c.Lid (Str.ofString "row") (dCall (w_Lid_init c) (dCons (dLst (dCons (dLst (dCons (dC (.int 1)) (dCons (dC (.int 2)) (dNil)))) (dNil))) (dNil)))) (dTup (dCons (dTup (dCons (dC (.int 1)) (dCons (dC (.int 2)) (dNil)))) (dNil))))))))))
theorem oddBody_ok (c : Cl) (ok : ClOk c) {D : DEn} {n : Nat} {S : List (List Rat)} {d : DL.D} {e0 e1 e3 e4 e6 e7 e8 e9 e10 e11 e12 e13 e14 e15 e16 e17 e18 : Ent}
    (h1 : HoldP c c.Lid (matD S) d) (h2 : HoldP c c.Floor (matD S) d) (hs : sheetVals (matD S) = S) (f1 : fieldOf c.Lid d = none ∨ ∃ x, fieldOf c.Lid d = some x ∧ lidD S x = false) (f2 : fieldOf c.Floor d = none ∨ ∃ x, fieldOf c.Floor d = some x ∧ floorD S x = false)
    (q : D.nx [e0, e1, .sh (matD S), e3, e4, .sh d, e6, e7, e8, e9, e10, e11, e12, e13, e14, e15, e16, e17, e18] n) :
    oddBody c [e0, e1, .sh (matD S), e3, e4, .sh d, e6, e7, e8, e9, e10, e11, e12, e13, e14, e15, e16, e17, e18] n D := by
  unfold oddBody
  simp only [pVar, pIx, dLeaf, dLenO, gtSub, gtNm, gtTup, gtCons, gtNil, sAsgT, sSetF, sApp, fLc, fLeaf, fOp, fList, fLst, owE_ow, ndE_nd, put_nil, w_law_draw, wDraw, wSeq, wRng1, wRng2, wZip, dLc, asgK_nm, asgK_tp2, sFor, oAll_map, oAny_map, wipeD, oSl, List.length_cons, List.length_nil, sSeq, sAsg, sRet, sRetN, sIf, sNext, sPar, sDrop, sFrz, sAug, dOp, dVar, dC, dTup, dLst, dCons, dNil, dCall, dCB, dIx, dTest, dAnd, dOr, dNot, dAndV, dOrV, dNotV, dB, dIf, dNeg, dFld, dSelf, sSelf, dSl, dNoPart, dPart, dRevT, dDic1, dIsN, entD, asg, setAll, fnEnds, startD, startI, initEnds, slE, slI, fieldD, frzs, frz, List.map, List.length, List.replicate, List.getElem?_cons_zero, List.getElem?_cons_succ, List.set_cons_zero, List.set_cons_succ, List.cons_append, List.nil_append, wF, wR, oI_int, oI0_int, oPlus_int, oTimes_int, o1I, o2I, oInt, negE, revE, seq_tup, seq_lst, oIx, atI_0, atI_1, o1S, oEq_int, oEq_bl, if_true, if_false, Bool.not_true, Bool.not_false]
  refine ⟨⟨_, _, rfl, ok.lid, h1⟩, ?_⟩
  rw [hs]
  have g2 : (∃ sh v, [matD S, d] = [sh, v] ∧ c.Floor ∈ c.cls ∧ HoldP c c.Floor sh v) := ⟨_, _, rfl, ok.floor, h2⟩
  rcases f1 with f1 | ⟨x, f1, l1⟩
  · rcases f2 with f2 | ⟨y, f2, l2⟩
    · rw [f1, f2]
      exact ⟨g2, q⟩
    · rw [f1, f2]
      simp only [l2, Bool.false_eq_true, if_false]
      exact ⟨g2, q⟩
  · rcases f2 with f2 | ⟨y, f2, l2⟩
    · rw [f1, f2]
      simp only [l1, Bool.false_eq_true, if_false]
      exact ⟨g2, q⟩
    · rw [f1, f2]
      simp only [l1, l2, Bool.false_eq_true, if_false]
      exact ⟨g2, q⟩
/-- what the odd ones must be -/
structure OddOk (c : Cl) (S : List (List Rat)) (d : D) : Prop where
  h1 : HoldP c c.Lid (matD S) d
  h2 : HoldP c c.Floor (matD S) d
  f1 : fieldOf c.Lid d = none ∨ ∃ x, fieldOf c.Lid d = some x ∧ lidD S x = false
  f2 : fieldOf c.Floor d = none ∨ ∃ x, fieldOf c.Floor d = some x ∧ floorD S x = false
theorem odd_plain {c : Cl} {S : List (List Rat)} {d : D} (hS : ShOk S) (hg : Gd c.cls d) (hn : ∀ C ks fs, d ≠ .obj C ks fs) : OddOk c S d := by
  obtain ⟨s1, s2, s3⟩ := hS.sheet c
  have hf : ∀ C, fieldOf C d = none := fun C => by
    unfold fieldOf
    split
    · exact absurd rfl (hn _ _ _)
    · rfl
  exact ⟨hold_other s1 s2 hg (hn _), hold_other s1 s2 hg (hn _), .inl (hf _), .inl (hf _)⟩
theorem odd_lid {c : Cl} (ok : ClOk c) {S : List (List Rat)} {x : D} (hS : ShOk S) (hg : Gd c.cls x) (hr : ∃ h k, RowOk S x h k) (hl : lidD S x = false) : OddOk c S (ins1 c.Lid x) := by
  obtain ⟨s1, s2, s3⟩ := hS.sheet c
  exact ⟨hold_same ok.lid s1 s2 s3 hg hr, hold_other s1 s2 ⟨ok.lid, hg, trivial⟩ fun ks fs e => by injection e with e1; exact ok.ne e1, .inr ⟨_, field_same, hl⟩, .inl (field_other ok.ne)⟩
theorem odd_floor {c : Cl} (ok : ClOk c) {S : List (List Rat)} {x : D} (hS : ShOk S) (hg : Gd c.cls x) (hr : ∃ h k, RowOk S x h k) (hl : floorD S x = false) : OddOk c S (ins1 c.Floor x) := by
  obtain ⟨s1, s2, s3⟩ := hS.sheet c
  exact ⟨hold_other s1 s2 ⟨ok.floor, hg, trivial⟩ fun ks fs e => by injection e with e1; exact ok.ne e1.symm, hold_same ok.floor s1 s2 s3 hg hr, .inl (field_other (Ne.symm ok.ne)), .inr ⟨_, field_same, hl⟩⟩
theorem fz1 (i : Int) : frozenD (.tup [.int i]) = .tup [.int i] := by first | rfl | simp [frozenD, frozenDs]
theorem fz2 (i : Int) : frozenD (.lst [.int i]) = .tup [.int i] := by first | rfl | simp [frozenD, frozenDs]
theorem fz3 : frozenD (.lst [.lst [.int 1, .int 2]]) = .tup [.tup [.int 1, .int 2]] := by first | rfl | simp [frozenD, frozenDs]
theorem fz4 : frozenD (.tup [.tup [.int 1, .int 2]]) = .tup [.tup [.int 1, .int 2]] := by first | rfl | simp [frozenD, frozenDs]
theorem plt1 (i : Int) : Pl (.tup [.int i]) := by first | rfl | (unfold Pl; simp [D.py, D.pys, SeqAt.shaped])
theorem plt2 : Pl (.tup [.tup [.int 1, .int 2]]) := by first | rfl | (unfold Pl; simp [D.py, D.pys, SeqAt.shaped])
theorem eq11 : eqD (.tup [.int 1]) (.tup [.int 1]) = true := by first | rfl | (unfold eqD; decide) | (unfold eqD; simp [D.py, PyData.eqv])
theorem eq12 : eqD (.tup [.int 1]) (.tup [.int 2]) = false := by first | rfl | (unfold eqD; decide) | (unfold eqD; simp [D.py, PyData.eqv])
theorem eq22 : eqD (.tup [.tup [.int 1, .int 2]]) (.tup [.tup [.int 1, .int 2]]) = true := by first | rfl | (unfold eqD; decide) | (unfold eqD; simp [D.py, PyData.eqv])
theorem rd_law (c : Cl) (ok : ClOk c) : ∀ p, m_law c (.no :: .sh (.pen p) :: List.replicate (19 - 2) .no) 0 lawEnds := by
  intro p
  have em : m_law c = (sSeq (sAsg (.nm 2) (dCall (w_law_late_sheet c) (dCons (dVar 1) (dCons (dC (.int 4)) (dNil)))))
  (sSeq (sAsg (.nm 3) (dCB oLen (dCons (dVar 2) (dNil))))
  (sSeq (sFor (.nm 4) (wRng1 (dCons (dC (.int 5)) (dNil))) (lapBody c))
  (sSeq (sFor (.nm 5) (wSeq (dLst (dCons (dC .non) (dCons (dC (.int 0)) (dCons (dTup (dNil)) (dCons (dVar 6) (dCons (dC (.str (Str.ofString "x"))) (dCons (dDic1 0 (dC (.int 1))) (dCons (dCall (w_Lid_init c) (dCons (dC .non) (dNil))) (dCons (dCall (w_Floor_init c) (dCons (dC .non) (dNil))) (dCons (dCall (w_Lid_init c) (dCons (dOp oTimes (dTup (dCons (dTup (dCons (dC (.int 1)) (dCons (dC (.int 1)) (dNil)))) (dNil))) (dOp oPlus (dVar 3) (dC (.int 1)))) (dNil))) (dNil)))))))))))) (oddBody c))
  (sSeq (sIf (dOr (dTest (dOwn c.Lid c.cls (w_Lid_eq c) true (dCall (w_Lid_init c) (dCons (dLst (dCons (dLst (dCons (dC (.int 1)) (dCons (dC (.int 2)) (dNil)))) (dNil))) (dNil))) (dCall (w_Lid_init c) (dCons (dTup (dCons (dTup (dCons (dC (.int 1)) (dCons (dC (.int 2)) (dNil)))) (dNil))) (dNil))))) (dOr (dTest (dOwn c.Lid c.cls (w_Lid_eq c) false (dCall (w_Lid_init c) (dCons (dTup (dCons (dC (.int 1)) (dNil))) (dNil))) (dCall (w_Lid_init c) (dCons (dTup (dCons (dC (.int 2)) (dNil))) (dNil))))) (dOr (dTest (dOwn c.Floor c.cls (w_Floor_eq c) true (dCall (w_Floor_init c) (dCons (dLst (dCons (dC (.int 1)) (dNil))) (dNil))) (dCall (w_Floor_init c) (dCons (dTup (dCons (dC (.int 1)) (dNil))) (dNil))))) (dTest (dOwn c.Floor c.cls (w_Floor_eq c) false (dCall (w_Floor_init c) (dCons (dTup (dCons (dC (.int 1)) (dNil))) (dNil))) (dCall (w_Floor_init c) (dCons (dTup (dCons (dC (.int 2)) (dNil))) (dNil)))))))) (sRet (dC (.bl false))) (sNext))
  (sRet (dAndV (dOwn c.Lid c.cls (w_Lid_eq c) true (dCall (w_Lid_init c) (dCons (dTup (dCons (dC (.int 1)) (dNil))) (dNil))) (dCall (w_Floor_init c) (dCons (dTup (dCons (dC (.int 1)) (dNil))) (dNil)))) (dOp (oEq false) (dFld c.Lid (Str.ofString "row") (dCall (w_Lid_init c) (dCons (dLst (dCons (dLst (dCons (dC (.int 1)) (dCons (dC (.int 2)) (dNil)))) (dNil))) (dNil)))) (dTup (dCons (dTup (dCons (dC (.int 1)) (dCons (dC (.int 2)) (dNil)))) (dNil))))))))))) := rfl
  rw [em]
  clear em
  simp only [pVar, pIx, dLeaf, dLenO, gtSub, gtNm, gtTup, gtCons, gtNil, sAsgT, sSetF, sApp, fLc, fLeaf, fOp, fList, fLst, owE_ow, ndE_nd, put_nil, w_law_draw, wDraw, wSeq, wRng1, wRng2, wZip, dLc, asgK_nm, asgK_tp2, sFor, oAll_map, oAny_map, wipeD, oSl, List.length_cons, List.length_nil, sSeq, sAsg, sRet, sRetN, sIf, sNext, sPar, sDrop, sFrz, sAug, dOp, dVar, dC, dTup, dLst, dCons, dNil, dCall, dCB, dIx, dTest, dAnd, dOr, dNot, dAndV, dOrV, dNotV, dB, dIf, dNeg, dFld, dSelf, sSelf, dSl, dNoPart, dPart, dRevT, dDic1, dIsN, entD, asg, setAll, fnEnds, startD, startI, initEnds, slE, slI, fieldD, frzs, frz, List.map, List.length, List.replicate, List.getElem?_cons_zero, List.getElem?_cons_succ, List.set_cons_zero, List.set_cons_succ, List.cons_append, List.nil_append, wF, wR, oI_int, oI0_int, oPlus_int, oTimes_int, o1I, o2I, oInt, negE, revE, seq_tup, seq_lst, oIx, atI_0, atI_1, o1S, oEq_int, oEq_bl, if_true, if_false, Bool.not_true, Bool.not_false]
  refine ⟨p, rfl, by decide, fun S k1 _ a1 hq hz => ?_⟩
  have hS : ShOk S := ⟨hq, hz⟩
  have h0 : 1 ≤ S.length := hq.2.1
  have h4 : S.length ≤ 4 := hq.2.2
  obtain ⟨s1, s2, s3⟩ := hS.sheet c
  show (-1000000 ≤ (5 : Int) ∧ (5 : Int) ≤ 1000000) ∧ _
  refine ⟨by decide, ?_⟩
  rw [show ((S.map rowD).length : Int) = ((S.length : Nat) : Int) from by rw [List.length_map]]
  refine forD_inv (fun i ρ k => k ≤ 40 + 600 * i ∧ ∃ e4 o6 o7 o8 o9 o10 o11 o12 o13 o14 o15 o16 o17 o18, ρ = [.no, .sh (.pen p), .sh (matD S), .sh (.int (S.length : Int)), e4, .no, sn o6, sn o7, sn o8, sn o9, sn o10, sn o11, sn o12, sn o13, sn o14, sn o15, sn o16, sn o17, sn o18] ∧ (0 < i → o6 = some (.tup (ratsD (List.replicate S.length 1)))))
    0 ⟨by omega, .no, none, none, none, none, none, none, none, none, none, none, none, none, none, rfl, fun h => absurd h (Nat.lt_irrefl 0)⟩ ?_ ?_
  · rintro i d ρ k hd ⟨m1, e4, o6, o7, o8, o9, o10, o11, o12, o13, o14, o15, o16, o17, o18, rfl, -⟩ Nx hNx
    have hi : i < 5 := (List.getElem?_eq_some_iff.mp hd).1
    rw [asgK_nm]
    exact lapBody_ok c ok hS rfl (by omega) fun k' o7' o8' o9' o10' o11' o12' o13' o14' o15' o16' o17' o18' h1 h2 => hNx _ _ ⟨by omega, _, some _, o7', o8', o9', o10', o11', o12', o13', o14', o15', o16', o17', o18', rfl, fun _ => rfl⟩
  · rintro ρ k ⟨m1, e4, o6, o7, o8, o9, o10, o11, o12, o13, o14, o15, o16, o17, o18, rfl, h6⟩
    cases h6 (by decide)
    simp only [sn, pVar, pIx, dLeaf, dLenO, gtSub, gtNm, gtTup, gtCons, gtNil, sAsgT, sSetF, sApp, fLc, fLeaf, fOp, fList, fLst, owE_ow, ndE_nd, put_nil, w_law_draw, wDraw, wSeq, wRng1, wRng2, wZip, dLc, asgK_nm, asgK_tp2, sFor, oAll_map, oAny_map, wipeD, oSl, List.length_cons, List.length_nil, sSeq, sAsg, sRet, sRetN, sIf, sNext, sPar, sDrop, sFrz, sAug, dOp, dVar, dC, dTup, dLst, dCons, dNil, dCall, dCB, dIx, dTest, dAnd, dOr, dNot, dAndV, dOrV, dNotV, dB, dIf, dNeg, dFld, dSelf, sSelf, dSl, dNoPart, dPart, dRevT, dDic1, dIsN, entD, asg, setAll, fnEnds, startD, startI, initEnds, slE, slI, fieldD, frzs, frz, List.map, List.length, List.replicate, List.getElem?_cons_zero, List.getElem?_cons_succ, List.set_cons_zero, List.set_cons_succ, List.cons_append, List.nil_append, wF, wR, oI_int, oI0_int, oPlus_int, oTimes_int, o1I, o2I, oInt, negE, revE, seq_tup, seq_lst, oIx, atI_0, atI_1, o1S, oEq_int, oEq_bl, if_true, if_false, Bool.not_true, Bool.not_false]
    rw [show ((S.length : Int) + 1) = ((S.length + 1 : Nat) : Int) from by simp]
    refine ⟨⟨_, rfl, trivial, by decide⟩, ⟨_, rfl, trivial, by decide⟩, by simp, by omega, by omega, by simp, ?_⟩
    rw [Int.toNat_natCast, rep_q _ _ 1 one_rat]
    have hone : ∀ (N : Nat), ∀ q ∈ List.replicate N (1 : Rat), DL.sz 1475 q := fun N q hq => by rw [List.eq_of_mem_replicate hq]; exact ⟨by decide, by decide⟩
    have hb : BentOk c (rowD (List.replicate (S.length + 1) 1)) := bent_row (hone _)
    refine ⟨⟨_, rfl, hb.gd, hb.dp⟩, ?_⟩
    have rn : ∃ h k, RowOk S .non h k := ⟨15, 1475, hS.row fun r e => nomatch e⟩
    have all : ∀ d ∈ [D.non, D.int 0, D.tup [], D.tup (ratsD (List.replicate S.length 1)), D.str (Str.ofString "x"), D.dic [0] [D.int 1],
        D.obj c.Lid [Str.ofString "row"] [frozenD D.non], D.obj c.Floor [Str.ofString "row"] [frozenD D.non], D.obj c.Lid [Str.ofString "row"] [frozenD (.tup (ratsD (List.replicate (S.length + 1) 1)))]], OddOk c S d := fun d hd => by
      simp only [List.mem_cons, List.not_mem_nil, or_false] at hd
      rcases hd with rfl | rfl | rfl | rfl | rfl | rfl | rfl | rfl | rfl
      · exact odd_plain hS trivial fun _ _ _ e => nomatch e
      · exact odd_plain hS trivial fun _ _ _ e => nomatch e
      · exact odd_plain hS trivial fun _ _ _ e => nomatch e
      · exact odd_plain hS (gd_row _) fun _ _ _ e => nomatch e
      · exact odd_plain hS trivial fun _ _ _ e => nomatch e
      · exact odd_plain hS ⟨trivial, trivial⟩ fun _ _ _ e => nomatch e
      · exact odd_lid ok hS trivial rn rfl
      · exact odd_floor ok hS trivial rn rfl
      · refine odd_lid ok hS (gd_frozen _ hb.gd) ⟨15, 1475, hS.row hb.sz⟩ ?_
        rw [frozenD, frozenDs_eq]
        have hl : ¬ ((ratsD (List.replicate (S.length + 1) 1)).map frozenD).length = S.length := by rw [List.length_map, ratsD_len]; simp
        unfold lidD
        simp only [decide_eq_false hl, Bool.false_and]
    refine forD_inv (fun _ ρ _ => ∃ e5, ρ = [.no, .sh (.pen p), .sh (matD S), .sh (.int (S.length : Int)), e4, e5, .sh (.tup (ratsD (List.replicate S.length 1))), sn o7, sn o8, sn o9, sn o10, sn o11, sn o12, sn o13, sn o14, sn o15, sn o16, sn o17, sn o18]) 0 ⟨.no, rfl⟩ ?_ ?_
    · rintro i d ρ k hd ⟨e5, rfl⟩ Nx hNx
      have od := all d (List.mem_of_getElem? hd)
      rw [asgK_nm]
      exact oddBody_ok c ok od.h1 od.h2 s3 od.f1 od.f2 (hNx _ _ ⟨_, rfl⟩)
    · rintro ρ k ⟨e5, rfl⟩
      simp only [dOwn, pVar, pIx, dLeaf, dLenO, gtSub, gtNm, gtTup, gtCons, gtNil, sAsgT, sSetF, sApp, fLc, fLeaf, fOp, fList, fLst, owE_ow, ndE_nd, put_nil, w_law_draw, wDraw, wSeq, wRng1, wRng2, wZip, dLc, asgK_nm, asgK_tp2, sFor, oAll_map, oAny_map, wipeD, oSl, List.length_cons, List.length_nil, sSeq, sAsg, sRet, sRetN, sIf, sNext, sPar, sDrop, sFrz, sAug, dOp, dVar, dC, dTup, dLst, dCons, dNil, dCall, dCB, dIx, dTest, dAnd, dOr, dNot, dAndV, dOrV, dNotV, dB, dIf, dNeg, dFld, dSelf, sSelf, dSl, dNoPart, dPart, dRevT, dDic1, dIsN, entD, asg, setAll, fnEnds, startD, startI, initEnds, slE, slI, fieldD, frzs, frz, List.map, List.length, List.replicate, List.getElem?_cons_zero, List.getElem?_cons_succ, List.set_cons_zero, List.set_cons_succ, List.cons_append, List.nil_append, wF, wR, oI_int, oI0_int, oPlus_int, oTimes_int, o1I, o2I, oInt, negE, revE, seq_tup, seq_lst, oIx, atI_0, atI_1, o1S, oEq_int, oEq_bl, if_true, if_false, Bool.not_true, Bool.not_false]
      simp only [fz1, fz2, fz3, fz4]
      have g1 : ∀ i : Int, Gd c.cls (.tup [.int i]) := fun _ => ⟨trivial, trivial⟩
      have g2 : Gd c.cls (.tup [.tup [.int 1, .int 2]]) := ⟨⟨trivial, trivial, trivial⟩, trivial⟩
      refine ⟨⟨_, rfl, g2, by decide⟩, ⟨_, rfl, g2, by decide⟩, ⟨rfl, ok.lid⟩, ⟨_, _, _, rfl, ok.lid, ok.lid, g2, plt2, plt2⟩, ?_⟩
      simp only [decide_true, Bool.true_and, eq11, eq12, eq22, Bool.not_true, Bool.not_false, Bool.false_eq_true, if_false, if_true]
      refine ⟨⟨_, rfl, g1 _, by decide⟩, ⟨_, rfl, g1 _, by decide⟩, ⟨rfl, ok.lid⟩, ⟨_, _, _, rfl, ok.lid, ok.lid, g1 _, plt1 _, plt1 _⟩, ?_⟩
      refine ⟨⟨_, rfl, g1 _, by decide⟩, ⟨_, rfl, g1 _, by decide⟩, ⟨rfl, ok.floor⟩, ⟨_, _, _, rfl, ok.floor, ok.floor, g1 _, plt1 _, plt1 _⟩, ?_⟩
      refine ⟨⟨_, rfl, g1 _, by decide⟩, ⟨_, rfl, g1 _, by decide⟩, ⟨rfl, ok.floor⟩, ⟨_, _, _, rfl, ok.floor, ok.floor, g1 _, plt1 _, plt1 _⟩, ?_⟩
      refine ⟨⟨_, rfl, g1 _, by decide⟩, ⟨_, rfl, g1 _, by decide⟩, ⟨rfl, ok.floor⟩, ⟨_, _, _, rfl, ok.lid, ok.floor, g1 _, plt1 _, plt1 _⟩, ?_⟩
      simp only [decide_eq_false (Ne.symm ok.ne), Bool.false_and, Bool.not_false, if_true]
      refine ⟨⟨_, rfl, g2, by decide⟩, trivial, plt2, plt2, ?_⟩
      rw [eq22]
      rfl
end DL

set_option Elab.async false
set_option linter.all false
set_option maxRecDepth 100000
set_option maxHeartbeats 4000000
namespace DL
open PySem PySem.Spec PyProof.Rows L2
def topS (i : Nat) : Stmt := PySem.Challenge.pw_calmwebs_k68_lids_and_floors_judged.main.body.getD i (.Pass ⟨0, 0, 0, 0⟩)
abbrev s_BadRatio_init : Stmt := inClass (topS 3) 0
abbrev s_BadRow_init : Stmt := inClass (topS 4) 0
abbrev s_Unlike_init : Stmt := inClass (topS 5) 0
abbrev s_is_whole : Stmt := topS 7
abbrev s_is_ratio : Stmt := topS 8
abbrev s_is_told : Stmt := topS 9
abbrev s_lowest : Stmt := topS 10
abbrev s_told : Stmt := topS 11
abbrev s_rless : Stmt := topS 12
abbrev s_is_row : Stmt := topS 14
abbrev s_is_sheet : Stmt := topS 15
abbrev s_sheet_told : Stmt := topS 16
abbrev s_dot_raw : Stmt := topS 17
abbrev s_column_raw : Stmt := topS 18
abbrev s_row_raw : Stmt := topS 19
abbrev s_square_told : Stmt := topS 21
abbrev s_frozen : Stmt := topS 23
abbrev s_Lid_init : Stmt := inClass (topS 25) 0
abbrev s_Lid_eq : Stmt := inClass (topS 25) 1
abbrev s_Floor_init : Stmt := inClass (topS 26) 0
abbrev s_Floor_eq : Stmt := inClass (topS 26) 1
abbrev s_size_of : Stmt := topS 27
abbrev s_sizes_raw : Stmt := topS 28
abbrev s_is_lid : Stmt := topS 29
abbrev s_lid_holds : Stmt := topS 30
abbrev s_floor_holds : Stmt := topS 31
abbrev s_law_pen : Stmt := topS 33
abbrev s_law_draw : Stmt := topS 34
abbrev s_law_pick : Stmt := topS 35
abbrev s_law_is_int : Stmt := topS 36
abbrev s_law_gcd : Stmt := topS 37
abbrev s_law_low : Stmt := topS 38
abbrev s_law_add : Stmt := topS 39
abbrev s_law_sub : Stmt := topS 40
abbrev s_law_mul : Stmt := topS 41
abbrev s_law_div : Stmt := topS 42
abbrev s_law_less : Stmt := topS 43
abbrev s_law_is_pair : Stmt := topS 44
abbrev s_law_is_told_row : Stmt := topS 45
abbrev s_law_dot : Stmt := topS 46
abbrev s_law_loose : Stmt := topS 47
abbrev s_law_loose_rows : Stmt := topS 48
abbrev s_law_late_sheet : Stmt := topS 49
abbrev s_law_sizes : Stmt := topS 50
abbrev s_law_lid_right : Stmt := topS 51
abbrev s_law_floor_right : Stmt := topS 52
abbrev s_law_solution : Stmt := topS 53
abbrev s_law_own_row : Stmt := topS 54
abbrev s_law_bent : Stmt := topS 55
abbrev s_law : Stmt := topS 56
/-- where the top puts its defs -/
structure Ad where
  c : Cl
  f_BadRatio_init : Addr
  d_BadRatio_init : FuncData
  f_BadRow_init : Addr
  d_BadRow_init : FuncData
  f_Unlike_init : Addr
  d_Unlike_init : FuncData
  f_is_whole : Addr
  d_is_whole : FuncData
  f_is_ratio : Addr
  d_is_ratio : FuncData
  f_is_told : Addr
  d_is_told : FuncData
  f_lowest : Addr
  d_lowest : FuncData
  f_told : Addr
  d_told : FuncData
  f_rless : Addr
  d_rless : FuncData
  f_is_row : Addr
  d_is_row : FuncData
  f_is_sheet : Addr
  d_is_sheet : FuncData
  f_sheet_told : Addr
  d_sheet_told : FuncData
  f_dot_raw : Addr
  d_dot_raw : FuncData
  f_column_raw : Addr
  d_column_raw : FuncData
  f_row_raw : Addr
  d_row_raw : FuncData
  f_square_told : Addr
  d_square_told : FuncData
  f_frozen : Addr
  d_frozen : FuncData
  f_Lid_init : Addr
  d_Lid_init : FuncData
  f_Lid_eq : Addr
  d_Lid_eq : FuncData
  f_Floor_init : Addr
  d_Floor_init : FuncData
  f_Floor_eq : Addr
  d_Floor_eq : FuncData
  f_size_of : Addr
  d_size_of : FuncData
  f_sizes_raw : Addr
  d_sizes_raw : FuncData
  f_is_lid : Addr
  d_is_lid : FuncData
  f_lid_holds : Addr
  d_lid_holds : FuncData
  f_floor_holds : Addr
  d_floor_holds : FuncData
  f_law_pen : Addr
  d_law_pen : FuncData
  f_law_draw : Addr
  d_law_draw : FuncData
  f_law_pick : Addr
  d_law_pick : FuncData
  f_law_is_int : Addr
  d_law_is_int : FuncData
  f_law_gcd : Addr
  d_law_gcd : FuncData
  f_law_low : Addr
  d_law_low : FuncData
  f_law_add : Addr
  d_law_add : FuncData
  f_law_sub : Addr
  d_law_sub : FuncData
  f_law_mul : Addr
  d_law_mul : FuncData
  f_law_div : Addr
  d_law_div : FuncData
  f_law_less : Addr
  d_law_less : FuncData
  f_law_is_pair : Addr
  d_law_is_pair : FuncData
  f_law_is_told_row : Addr
  d_law_is_told_row : FuncData
  f_law_dot : Addr
  d_law_dot : FuncData
  f_law_loose : Addr
  d_law_loose : FuncData
  f_law_loose_rows : Addr
  d_law_loose_rows : FuncData
  f_law_late_sheet : Addr
  d_law_late_sheet : FuncData
  f_law_sizes : Addr
  d_law_sizes : FuncData
  f_law_lid_right : Addr
  d_law_lid_right : FuncData
  f_law_floor_right : Addr
  d_law_floor_right : FuncData
  f_law_solution : Addr
  d_law_solution : FuncData
  f_law_own_row : Addr
  d_law_own_row : FuncData
  f_law_bent : Addr
  d_law_bent : FuncData
  f_law : Addr
  d_law : FuncData
/-- what is asked of the top -/
structure Tx (K : PySem.W.Frag) (mg : Str → Option Value) (a : Ad) : Prop where
  F_is_whole : Fun K "is_whole" "is_whole" s_is_whole a.f_is_whole a.d_is_whole
  b_is_whole : Binds K a.d_is_whole ["value"] []
  m_is_whole : mg "is_whole" = some (.ref a.f_is_whole)
  F_is_ratio : Fun K "is_ratio" "is_ratio" s_is_ratio a.f_is_ratio a.d_is_ratio
  b_is_ratio : Binds K a.d_is_ratio ["value"] []
  m_is_ratio : mg "is_ratio" = some (.ref a.f_is_ratio)
  F_is_told : Fun K "is_told" "is_told" s_is_told a.f_is_told a.d_is_told
  b_is_told : Binds K a.d_is_told ["value"] []
  m_is_told : mg "is_told" = some (.ref a.f_is_told)
  F_lowest : Fun K "lowest" "lowest" s_lowest a.f_lowest a.d_lowest
  b_lowest : Binds K a.d_lowest ["top", "bottom"] []
  m_lowest : mg "lowest" = some (.ref a.f_lowest)
  F_told : Fun K "told" "told" s_told a.f_told a.d_told
  b_told : Binds K a.d_told ["ratio"] []
  m_told : mg "told" = some (.ref a.f_told)
  F_rless : Fun K "rless" "rless" s_rless a.f_rless a.d_rless
  b_rless : Binds K a.d_rless ["one", "other"] []
  m_rless : mg "rless" = some (.ref a.f_rless)
  F_is_row : Fun K "is_row" "is_row" s_is_row a.f_is_row a.d_is_row
  b_is_row : Binds K a.d_is_row ["value"] []
  m_is_row : mg "is_row" = some (.ref a.f_is_row)
  F_is_sheet : Fun K "is_sheet" "is_sheet" s_is_sheet a.f_is_sheet a.d_is_sheet
  b_is_sheet : Binds K a.d_is_sheet ["value"] []
  m_is_sheet : mg "is_sheet" = some (.ref a.f_is_sheet)
  F_sheet_told : Fun K "sheet_told" "sheet_told" s_sheet_told a.f_sheet_told a.d_sheet_told
  b_sheet_told : Binds K a.d_sheet_told ["sheet"] []
  m_sheet_told : mg "sheet_told" = some (.ref a.f_sheet_told)
  F_dot_raw : Fun K "dot_raw" "dot_raw" s_dot_raw a.f_dot_raw a.d_dot_raw
  b_dot_raw : Binds K a.d_dot_raw ["row", "other"] []
  m_dot_raw : mg "dot_raw" = some (.ref a.f_dot_raw)
  F_column_raw : Fun K "column_raw" "column_raw" s_column_raw a.f_column_raw a.d_column_raw
  b_column_raw : Binds K a.d_column_raw ["sheet", "column"] []
  m_column_raw : mg "column_raw" = some (.ref a.f_column_raw)
  F_row_raw : Fun K "row_raw" "row_raw" s_row_raw a.f_row_raw a.d_row_raw
  b_row_raw : Binds K a.d_row_raw ["row", "sheet"] []
  m_row_raw : mg "row_raw" = some (.ref a.f_row_raw)
  F_square_told : Fun K "square_told" "square_told" s_square_told a.f_square_told a.d_square_told
  b_square_told : Binds K a.d_square_told ["sheet"] []
  m_square_told : mg "square_told" = some (.ref a.f_square_told)
  F_frozen : Fun K "frozen" "frozen" s_frozen a.f_frozen a.d_frozen
  b_frozen : Binds K a.d_frozen ["value"] []
  m_frozen : mg "frozen" = some (.ref a.f_frozen)
  F_Lid_init : Fun K "__init__" "Lid.__init__" s_Lid_init a.f_Lid_init a.d_Lid_init
  b_Lid_init : Binds K a.d_Lid_init ["self", "row"] []
  F_Lid_eq : Fun K "__eq__" "Lid.__eq__" s_Lid_eq a.f_Lid_eq a.d_Lid_eq
  b_Lid_eq : Binds K a.d_Lid_eq ["self", "other"] []
  F_Floor_init : Fun K "__init__" "Floor.__init__" s_Floor_init a.f_Floor_init a.d_Floor_init
  b_Floor_init : Binds K a.d_Floor_init ["self", "row"] []
  F_Floor_eq : Fun K "__eq__" "Floor.__eq__" s_Floor_eq a.f_Floor_eq a.d_Floor_eq
  b_Floor_eq : Binds K a.d_Floor_eq ["self", "other"] []
  F_size_of : Fun K "size_of" "size_of" s_size_of a.f_size_of a.d_size_of
  b_size_of : Binds K a.d_size_of ["ratio"] []
  m_size_of : mg "size_of" = some (.ref a.f_size_of)
  F_sizes_raw : Fun K "sizes_raw" "sizes_raw" s_sizes_raw a.f_sizes_raw a.d_sizes_raw
  b_sizes_raw : Binds K a.d_sizes_raw ["rows"] []
  m_sizes_raw : mg "sizes_raw" = some (.ref a.f_sizes_raw)
  F_is_lid : Fun K "is_lid" "is_lid" s_is_lid a.f_is_lid a.d_is_lid
  b_is_lid : Binds K a.d_is_lid ["rows", "row"] []
  m_is_lid : mg "is_lid" = some (.ref a.f_is_lid)
  F_lid_holds : Fun K "lid_holds" "lid_holds" s_lid_holds a.f_lid_holds a.d_lid_holds
  b_lid_holds : Binds K a.d_lid_holds ["sheet", "value"] []
  m_lid_holds : mg "lid_holds" = some (.ref a.f_lid_holds)
  F_floor_holds : Fun K "floor_holds" "floor_holds" s_floor_holds a.f_floor_holds a.d_floor_holds
  b_floor_holds : Binds K a.d_floor_holds ["sheet", "value"] []
  m_floor_holds : mg "floor_holds" = some (.ref a.f_floor_holds)
  F_law_pen : Fun K "_law_pen" "_law_pen" s_law_pen a.f_law_pen a.d_law_pen
  b_law_pen : Binds K a.d_law_pen ["script"] []
  m_law_pen : mg "_law_pen" = some (.ref a.f_law_pen)
  F_law_draw : Fun K "_law_draw" "_law_draw" s_law_draw a.f_law_draw a.d_law_draw
  b_law_draw : Binds K a.d_law_draw ["pen", "many"] []
  m_law_draw : mg "_law_draw" = some (.ref a.f_law_draw)
  F_law_pick : Fun K "_law_pick" "_law_pick" s_law_pick a.f_law_pick a.d_law_pick
  b_law_pick : Binds K a.d_law_pick ["pen", "some"] []
  m_law_pick : mg "_law_pick" = some (.ref a.f_law_pick)
  F_law_is_int : Fun K "_law_is_int" "_law_is_int" s_law_is_int a.f_law_is_int a.d_law_is_int
  b_law_is_int : Binds K a.d_law_is_int ["thing"] []
  m_law_is_int : mg "_law_is_int" = some (.ref a.f_law_is_int)
  F_law_gcd : Fun K "_law_gcd" "_law_gcd" s_law_gcd a.f_law_gcd a.d_law_gcd
  b_law_gcd : Binds K a.d_law_gcd ["one", "other"] []
  m_law_gcd : mg "_law_gcd" = some (.ref a.f_law_gcd)
  F_law_low : Fun K "_law_low" "_law_low" s_law_low a.f_law_low a.d_law_low
  b_law_low : Binds K a.d_law_low ["top", "bottom"] []
  m_law_low : mg "_law_low" = some (.ref a.f_law_low)
  F_law_add : Fun K "_law_add" "_law_add" s_law_add a.f_law_add a.d_law_add
  b_law_add : Binds K a.d_law_add ["one", "other"] []
  m_law_add : mg "_law_add" = some (.ref a.f_law_add)
  F_law_sub : Fun K "_law_sub" "_law_sub" s_law_sub a.f_law_sub a.d_law_sub
  b_law_sub : Binds K a.d_law_sub ["one", "other"] []
  m_law_sub : mg "_law_sub" = some (.ref a.f_law_sub)
  F_law_mul : Fun K "_law_mul" "_law_mul" s_law_mul a.f_law_mul a.d_law_mul
  b_law_mul : Binds K a.d_law_mul ["one", "other"] []
  m_law_mul : mg "_law_mul" = some (.ref a.f_law_mul)
  F_law_div : Fun K "_law_div" "_law_div" s_law_div a.f_law_div a.d_law_div
  b_law_div : Binds K a.d_law_div ["one", "other"] []
  m_law_div : mg "_law_div" = some (.ref a.f_law_div)
  F_law_less : Fun K "_law_less" "_law_less" s_law_less a.f_law_less a.d_law_less
  b_law_less : Binds K a.d_law_less ["one", "other"] []
  m_law_less : mg "_law_less" = some (.ref a.f_law_less)
  F_law_is_pair : Fun K "_law_is_pair" "_law_is_pair" s_law_is_pair a.f_law_is_pair a.d_law_is_pair
  b_law_is_pair : Binds K a.d_law_is_pair ["thing"] []
  m_law_is_pair : mg "_law_is_pair" = some (.ref a.f_law_is_pair)
  F_law_is_told_row : Fun K "_law_is_told_row" "_law_is_told_row" s_law_is_told_row a.f_law_is_told_row a.d_law_is_told_row
  b_law_is_told_row : Binds K a.d_law_is_told_row ["thing", "many"] []
  m_law_is_told_row : mg "_law_is_told_row" = some (.ref a.f_law_is_told_row)
  F_law_dot : Fun K "_law_dot" "_law_dot" s_law_dot a.f_law_dot a.d_law_dot
  b_law_dot : Binds K a.d_law_dot ["row", "other"] []
  m_law_dot : mg "_law_dot" = some (.ref a.f_law_dot)
  F_law_loose : Fun K "_law_loose" "_law_loose" s_law_loose a.f_law_loose a.d_law_loose
  b_law_loose : Binds K a.d_law_loose ["pen", "ratio"] []
  m_law_loose : mg "_law_loose" = some (.ref a.f_law_loose)
  F_law_loose_rows : Fun K "_law_loose_rows" "_law_loose_rows" s_law_loose_rows a.f_law_loose_rows a.d_law_loose_rows
  b_law_loose_rows : Binds K a.d_law_loose_rows ["pen", "rows"] []
  m_law_loose_rows : mg "_law_loose_rows" = some (.ref a.f_law_loose_rows)
  F_law_late_sheet : Fun K "_law_late_sheet" "_law_late_sheet" s_law_late_sheet a.f_law_late_sheet a.d_law_late_sheet
  b_law_late_sheet : Binds K a.d_law_late_sheet ["pen", "most"] []
  m_law_late_sheet : mg "_law_late_sheet" = some (.ref a.f_law_late_sheet)
  F_law_sizes : Fun K "_law_sizes" "_law_sizes" s_law_sizes a.f_law_sizes a.d_law_sizes
  b_law_sizes : Binds K a.d_law_sizes ["sheet"] []
  m_law_sizes : mg "_law_sizes" = some (.ref a.f_law_sizes)
  F_law_lid_right : Fun K "_law_lid_right" "_law_lid_right" s_law_lid_right a.f_law_lid_right a.d_law_lid_right
  b_law_lid_right : Binds K a.d_law_lid_right ["sheet", "row"] []
  m_law_lid_right : mg "_law_lid_right" = some (.ref a.f_law_lid_right)
  F_law_floor_right : Fun K "_law_floor_right" "_law_floor_right" s_law_floor_right a.f_law_floor_right a.d_law_floor_right
  b_law_floor_right : Binds K a.d_law_floor_right ["sheet", "row"] []
  m_law_floor_right : mg "_law_floor_right" = some (.ref a.f_law_floor_right)
  F_law_solution : Fun K "_law_solution" "_law_solution" s_law_solution a.f_law_solution a.d_law_solution
  b_law_solution : Binds K a.d_law_solution ["rows", "column"] []
  m_law_solution : mg "_law_solution" = some (.ref a.f_law_solution)
  F_law_own_row : Fun K "_law_own_row" "_law_own_row" s_law_own_row a.f_law_own_row a.d_law_own_row
  b_law_own_row : Binds K a.d_law_own_row ["pen", "sheet", "turn"] []
  m_law_own_row : mg "_law_own_row" = some (.ref a.f_law_own_row)
  F_law_bent : Fun K "_law_bent" "_law_bent" s_law_bent a.f_law_bent a.d_law_bent
  b_law_bent : Binds K a.d_law_bent ["pen", "row"] []
  m_law_bent : mg "_law_bent" = some (.ref a.f_law_bent)
  F_law : Fun K "law" "law" s_law a.f_law a.d_law
  m_Lid : mg "Lid" = some (.ref a.c.Lid)
  cl_Lid : Cls K a.c.Lid
  n_Lid_row : NoAttr K a.c.Lid "row"
  mk_Lid : Mk K a.c.Lid a.f_Lid_init
  eq_Lid : EqC K a.c.Lid a.f_Lid_eq a.c.cls
  m_Floor : mg "Floor" = some (.ref a.c.Floor)
  cl_Floor : Cls K a.c.Floor
  n_Floor_row : NoAttr K a.c.Floor "row"
  mk_Floor : Mk K a.c.Floor a.f_Floor_init
  eq_Floor : EqC K a.c.Floor a.f_Floor_eq a.c.cls
  g_abs : mg "abs" = none
  g_all : mg "all" = none
  g_any : mg "any" = none
  g_bool : mg "bool" = none
  g_int : mg "int" = none
  g_isinstance : mg "isinstance" = none
  g_len : mg "len" = none
  g_list : mg "list" = none
  g_max : mg "max" = none
  g_range : mg "range" = none
  g_sum : mg "sum" = none
  g_tuple : mg "tuple" = none
  g_zip : mg "zip" = none
  g_gcd : mg "gcd" = some (.builtin "math.gcd")
  isi : IsiF K a.c.cls
  ok : ClOk a.c
section
variable {P : Program} {w : World} {K : PySem.W.Frag} {mg : Str → Option Value} {base : Heap} {a : Ad}
theorem sc_law_pen : FnScope ["script", "fold", "cell"] ["script"] (defScope s_law_pen) := ⟨rfl, rfl, rfl, by decide +kernel, rfl, by decide +kernel, by decide +kernel⟩
theorem ok_law_pen (T : Tx K mg a) : FnOk P w K mg base (L2.CX P w) 1 a.f_law_pen a.d_law_pen ["script"] (spPen K) :=
  fnPen T.F_law_pen sc_law_pen rfl fun cdv A outer s H E hr => by
    have nd := sc_law_pen.nd
    exact pss_cons (ps_set (i := 1) nd rfl (Or.inl rfl) pe_int) (pss_cons (ps_for PassesOwn.never rfl (pi_list (pv 0)) (pg_name (i := 2) nd rfl (Or.inl rfl)) (pss_one (ps_set (i := 1) nd rfl (Or.inl rfl)
      (pe_op op_mod (pe_callTy call_int1 (by rfl) T.g_int bt_int (pa_cons (pe_op op_add (pe_op op_mulW (pv 1) pe_int) (pv 2)) pa_nil)) pe_int))))
      (pss_one (ps_ret (pe_disp (pps_cons pe_str (pe_callTy call_list_of (by rfl) T.g_list bt_list (pa_cons (pv 0) pa_nil)) (pps_cons pe_str pe_int (pps_cons pe_str pe_int (pps_cons pe_str pe_int (pps_cons pe_str (pv 1) pps_nil))))) rfl rfl (by simp) (by simp)))))
theorem sc_law_draw : FnScope ["pen", "many", "cell", "digit", "blend"] ["pen", "many"] (defScope s_law_draw) := ⟨rfl, rfl, rfl, by decide +kernel, rfl, by decide +kernel, by decide +kernel⟩
theorem ok_law_draw (T : Tx K mg a) : FnOk P w K mg base (L2.CX P w) 1 a.f_law_draw a.d_law_draw ["pen", "many"] (spD K 2 (w_law_draw a.c)) :=
  fnDraw T.F_law_draw sc_law_draw rfl fun cdv A outer s H E hr => by
    have nd := sc_law_draw.nd
    have hu := hu_of hr
    exact pss_cons (ps_dput hu (pv 0) pe_str (pe_op op_add (pe_dget hu (pv 0) pe_str (fun _ _ => rfl)) pe_int) rfl)
      (pss_cons (ps_if ((pw_and (pt_cmpR op_eq (pe_dget hu (pv 0) pe_str (fun _ _ => rfl)) pe_int (nomark _)) (pw_and1 (pt_cmpR op_lt (pe_dget hu (pv 0) pe_str (fun _ _ => rfl)) (pe_callB call_len_seq (by rfl) T.g_len bt_len (pa_cons (pe_dget hu (pv 0) pe_str (fun _ _ => rfl)) pa_nil)) (nomark _)))).pt)
          (pss_cons (ps_set (i := 2) nd rfl (Or.inl rfl) (pe_ix ix_list (pe_dget hu (pv 0) pe_str (fun _ _ => rfl)) (pe_dget hu (pv 0) pe_str (fun _ _ => rfl)) (fun _ _ => rfl)))
          (pss_cons (ps_dput hu (pv 0) pe_str (pe_op op_add (pe_dget hu (pv 0) pe_str (fun _ _ => rfl)) pe_int) rfl)
          (pss_one (ps_if (pt_cmpR op_ge (pv 2) (pe_op op_pow pe_int pe_int) (nomark _))
            (pss_one (ps_dput hu (pv 0) pe_str (pe_op op_sub (pv 2) (pe_op op_pow pe_int pe_int)) rfl))
            (pss_one (ps_dput hu (pv 0) pe_str (pe_op op_mod (pe_callTy call_int1 (by rfl) T.g_int bt_int (pa_cons (pe_op op_add (pe_op op_mulW (pe_dget hu (pv 0) pe_str (fun _ _ => rfl)) pe_int) (pv 2)) pa_nil)) pe_int) rfl)))))) pss_nil)
      (pss_cons (ps_if (pt_cmpR op_gt (pe_dget hu (pv 0) pe_str (fun _ _ => rfl)) pe_int (nomark _))
          (pss_cons (ps_set (i := 3) nd rfl (Or.inl rfl) (pe_op op_mod (pe_callTy call_int1 (by rfl) T.g_int bt_int (pa_cons (pe_dget hu (pv 0) pe_str (fun _ _ => rfl)) pa_nil)) (pv 1)))
          (pss_cons (ps_dput hu (pv 0) pe_str (pe_op op_fdivW (pe_dget hu (pv 0) pe_str (fun _ _ => rfl)) (pv 1)) rfl) (pss_one (ps_ret (pv 3))))) pss_nil)
      (pss_cons (ps_set (i := 4) nd rfl (Or.inl rfl) (pe_op op_add (pe_op op_add (pe_dget hu (pv 0) pe_str (fun _ _ => rfl)) (pe_op op_mulW (pe_dget hu (pv 0) pe_str (fun _ _ => rfl)) pe_int)) pe_int))
      (pss_one (ps_ret (pe_op op_mod (pe_op op_fdivW (pe_callTy call_int1 (by rfl) T.g_int bt_int (pa_cons (pe_op op_mod (pe_op op_pow (pv 4) pe_int) pe_int) pa_nil)) pe_int) (pv 1)))))))

theorem sc_is_whole : FnScope ["value"] ["value"] (defScope s_is_whole) := ⟨rfl, rfl, rfl, by decide +kernel, rfl, by decide +kernel, by decide +kernel⟩
theorem ok_is_whole (T : Tx K mg a) : FnOk P w K mg base (L2.CX P w) 1 a.f_is_whole a.d_is_whole ["value"] (spD K 1 (w_is_whole a.c)) :=
  fnD T.F_is_whole sc_is_whole fun cdv A outer s H E hr => by
    have nd := sc_is_whole.nd
    exact ⟨m_is_whole a.c, dss_one (ds_ret (de_and (de_callB (cd_isi1 T.isi) (by rfl) T.g_isinstance bt_isinstance (dn_cons (de_var 0) (dn_cons (de_ty (by rfl) T.g_int bt_int) (dn_nil))).da) (de_one (de_not (de_callB (cd_isi1 T.isi) (by rfl) T.g_isinstance bt_isinstance (dn_cons (de_var 0) (dn_cons (de_ty (by rfl) T.g_bool bt_bool) (dn_nil))).da))))),
      rd_is_whole a.c⟩
theorem sc_is_ratio : FnScope ["value"] ["value"] (defScope s_is_ratio) := ⟨rfl, rfl, rfl, by decide +kernel, rfl, by decide +kernel, by decide +kernel⟩
theorem ok_is_ratio (T : Tx K mg a) : FnOk P w K mg base (L2.CX P w) 2 a.f_is_ratio a.d_is_ratio ["value"] (spD K 1 (w_is_ratio a.c)) :=
  fnD T.F_is_ratio sc_is_ratio fun cdv A outer s H E hr => by
    have nd := sc_is_ratio.nd
    exact ⟨m_is_ratio a.c, dss_cons (ds_if (dt_val (de_call wm_is_whole (ok_is_whole T) (hr.mono (by decide)) (by rfl) T.m_is_whole T.F_is_whole.kp T.b_is_whole passE0 (dn_cons (de_var 0) (dn_nil)))) (dss_one (ds_ret (de_bl))) (dss_nil))
      (dss_cons (ds_if ((dw_or (dt_not (dt_val (de_callB (cd_isiT T.isi) (by rfl) T.g_isinstance bt_isinstance (dn_cons (de_var 0) (dn_cons (de_tup (dn_cons (de_ty (by rfl) T.g_tuple bt_tuple) (dn_cons (de_ty (by rfl) T.g_list bt_list) (dn_nil)))) (dn_nil))).da))) (dw_or1 (dt_cmp (od_ne hr.units) (de_callB cd_len (by rfl) T.g_len bt_len (dn_cons (de_var 0) (dn_nil)).da) (de_int)))).dt) (dss_one (ds_ret (de_bl))) (dss_nil))
      (dss_one (ds_ret (de_and (de_call wm_is_whole (ok_is_whole T) (hr.mono (by decide)) (by rfl) T.m_is_whole T.F_is_whole.kp T.b_is_whole passE0 (dn_cons (de_ix (de_var 0) (de_int)) (dn_nil))) (de_and (de_call wm_is_whole (ok_is_whole T) (hr.mono (by decide)) (by rfl) T.m_is_whole T.F_is_whole.kp T.b_is_whole passE0 (dn_cons (de_ix (de_var 0) (de_int)) (dn_nil))) (de_one (de_cmp od_ge (de_ix (de_var 0) (de_int)) (de_int)))))))),
      rd_is_ratio a.c⟩
theorem sc_is_told : FnScope ["value"] ["value"] (defScope s_is_told) := ⟨rfl, rfl, rfl, by decide +kernel, rfl, by decide +kernel, by decide +kernel⟩
theorem ok_is_told (T : Tx K mg a) : FnOk P w K mg base (L2.CX P w) 3 a.f_is_told a.d_is_told ["value"] (spD K 1 (w_is_told a.c)) :=
  fnD T.F_is_told sc_is_told fun cdv A outer s H E hr => by
    have nd := sc_is_told.nd
    exact ⟨m_is_told a.c, dss_one (ds_ret (de_and (de_callB (cd_isi1 T.isi) (by rfl) T.g_isinstance bt_isinstance (dn_cons (de_var 0) (dn_cons (de_ty (by rfl) T.g_tuple bt_tuple) (dn_nil))).da) (de_and (de_call wm_is_ratio (ok_is_ratio T) (hr.mono (by decide)) (by rfl) T.m_is_ratio T.F_is_ratio.kp T.b_is_ratio passE0 (dn_cons (de_var 0) (dn_nil))) (de_one (de_cmp (od_eq hr.units) (de_callG cd_gcd (by rfl) T.g_gcd (dn_cons (de_ix (de_var 0) (de_int)) (dn_cons (de_ix (de_var 0) (de_int)) (dn_nil))).da) (de_int)))))),
      rd_is_told a.c⟩
theorem sc_lowest : FnScope ["top", "bottom", "part"] ["top", "bottom"] (defScope s_lowest) := ⟨rfl, rfl, rfl, by decide +kernel, rfl, by decide +kernel, by decide +kernel⟩
theorem ok_lowest (T : Tx K mg a) : FnOk P w K mg base (L2.CX P w) 1 a.f_lowest a.d_lowest ["top", "bottom"] (spD K 2 (w_lowest a.c)) :=
  fnD T.F_lowest sc_lowest fun cdv A outer s H E hr => by
    have nd := sc_lowest.nd
    exact ⟨m_lowest a.c, dss_cons (ds_set 2 nd (de_callG cd_gcd (by rfl) T.g_gcd (dn_cons (de_var 0) (dn_cons (de_var 1) (dn_nil))).da))
      (dss_one (ds_ret (de_tup (dn_cons (de_op od_div (de_var 0) (de_var 2)) (dn_cons (de_op od_div (de_var 1) (de_var 2)) (dn_nil)))))),
      rd_lowest a.c⟩
theorem sc_told : FnScope ["ratio"] ["ratio"] (defScope s_told) := ⟨rfl, rfl, rfl, by decide +kernel, rfl, by decide +kernel, by decide +kernel⟩
theorem ok_told (T : Tx K mg a) : FnOk P w K mg base (L2.CX P w) 3 a.f_told a.d_told ["ratio"] (spD K 1 (w_told a.c)) :=
  fnD T.F_told sc_told fun cdv A outer s H E hr => by
    have nd := sc_told.nd
    exact ⟨m_told a.c, dss_cons (ds_if (dt_not (dt_val (de_call wm_is_ratio (ok_is_ratio T) (hr.mono (by decide)) (by rfl) T.m_is_ratio T.F_is_ratio.kp T.b_is_ratio passE0 (dn_cons (de_var 0) (dn_nil))))) (dss_one (ds_never)) (dss_nil))
      (dss_cons (ds_if (dt_val (de_call wm_is_whole (ok_is_whole T) (hr.mono (by decide)) (by rfl) T.m_is_whole T.F_is_whole.kp T.b_is_whole passE0 (dn_cons (de_var 0) (dn_nil)))) (dss_one (ds_ret (de_tup (dn_cons (de_var 0) (dn_cons (de_int) (dn_nil)))))) (dss_nil))
      (dss_one (ds_ret (de_call wm_lowest (ok_lowest T) (hr.mono (by decide)) (by rfl) T.m_lowest T.F_lowest.kp T.b_lowest passE0 (dn_cons (de_ix (de_var 0) (de_int)) (dn_cons (de_ix (de_var 0) (de_int)) (dn_nil))))))),
      rd_told a.c⟩
theorem sc_rless : FnScope ["one", "other"] ["one", "other"] (defScope s_rless) := ⟨rfl, rfl, rfl, by decide +kernel, rfl, by decide +kernel, by decide +kernel⟩
theorem ok_rless (T : Tx K mg a) : FnOk P w K mg base (L2.CX P w) 1 a.f_rless a.d_rless ["one", "other"] (spD K 2 (w_rless a.c)) :=
  fnD T.F_rless sc_rless fun cdv A outer s H E hr => by
    have nd := sc_rless.nd
    exact ⟨m_rless a.c, dss_one (ds_ret (de_cmp od_lt (de_op od_times (de_ix (de_var 0) (de_int)) (de_ix (de_var 1) (de_int))) (de_op od_times (de_ix (de_var 1) (de_int)) (de_ix (de_var 0) (de_int))))),
      rd_rless a.c⟩
theorem sc_is_row : FnScope ["value", "item"] ["value"] (defScope s_is_row) := ⟨rfl, rfl, rfl, by decide +kernel, rfl, by decide +kernel, by decide +kernel⟩
theorem ok_is_row (T : Tx K mg a) : FnOk P w K mg base (L2.CX P w) 3 a.f_is_row a.d_is_row ["value"] (spD K 1 (w_is_row a.c)) :=
  fnD T.F_is_row sc_is_row fun cdv A outer s H E hr => by
    have nd := sc_is_row.nd
    exact ⟨m_is_row a.c, dss_cons (ds_if ((dw_or (dt_not (dt_val (de_callB (cd_isiT T.isi) (by rfl) T.g_isinstance bt_isinstance (dn_cons (de_var 0) (dn_cons (de_tup (dn_cons (de_ty (by rfl) T.g_tuple bt_tuple) (dn_cons (de_ty (by rfl) T.g_list bt_list) (dn_nil)))) (dn_nil))).da))) (dw_or1 (dt_cmp (od_eq hr.units) (de_callB cd_len (by rfl) T.g_len bt_len (dn_cons (de_var 0) (dn_nil)).da) (de_int)))).dt) (dss_one (ds_ret (de_bl))) (dss_nil))
      (dss_one (ds_ret (de_callB (cd_all rfl) (by rfl) T.g_all bt_all (dn_cons (de_lc (own' := [("item", 1)]) rfl nd (di_seq (de_var 0)) (blkOk_by (by kernel_rfl)) (fun _ _ _ _ _ => dg_name 1 nd) (fun _ _ _ _ _ => dts_nil) (fun _ _ _ _ _ => de_call wm_is_ratio (ok_is_ratio T) (hr.mono (by decide)) (by rfl) T.m_is_ratio T.F_is_ratio.kp T.b_is_ratio passE0 (dn_cons (de_var 1) (dn_nil)))) (dn_nil)).da))),
      rd_is_row a.c⟩
theorem sc_is_sheet : FnScope ["value", "item"] ["value"] (defScope s_is_sheet) := ⟨rfl, rfl, rfl, by decide +kernel, rfl, by decide +kernel, by decide +kernel⟩
theorem ok_is_sheet (T : Tx K mg a) : FnOk P w K mg base (L2.CX P w) 4 a.f_is_sheet a.d_is_sheet ["value"] (spD K 1 (w_is_sheet a.c)) :=
  fnD T.F_is_sheet sc_is_sheet fun cdv A outer s H E hr => by
    have nd := sc_is_sheet.nd
    exact ⟨m_is_sheet a.c, dss_cons (ds_if ((dw_or (dt_not (dt_val (de_callB (cd_isiT T.isi) (by rfl) T.g_isinstance bt_isinstance (dn_cons (de_var 0) (dn_cons (de_tup (dn_cons (de_ty (by rfl) T.g_tuple bt_tuple) (dn_cons (de_ty (by rfl) T.g_list bt_list) (dn_nil)))) (dn_nil))).da))) (dw_or1 (dt_cmp (od_eq hr.units) (de_callB cd_len (by rfl) T.g_len bt_len (dn_cons (de_var 0) (dn_nil)).da) (de_int)))).dt) (dss_one (ds_ret (de_bl))) (dss_nil))
      (dss_cons (ds_if (dt_not (dt_val (de_callB (cd_all rfl) (by rfl) T.g_all bt_all (dn_cons (de_lc (own' := [("item", 1)]) rfl nd (di_seq (de_var 0)) (blkOk_by (by kernel_rfl)) (fun _ _ _ _ _ => dg_name 1 nd) (fun _ _ _ _ _ => dts_nil) (fun _ _ _ _ _ => de_call wm_is_row (ok_is_row T) (hr.mono (by decide)) (by rfl) T.m_is_row T.F_is_row.kp T.b_is_row passE0 (dn_cons (de_var 1) (dn_nil)))) (dn_nil)).da))) (dss_one (ds_ret (de_bl))) (dss_nil))
      (dss_one (ds_ret (de_callB (cd_all rfl) (by rfl) T.g_all bt_all (dn_cons (de_lc (own' := [("item", 1)]) rfl nd (di_seq (de_var 0)) (blkOk_by (by kernel_rfl)) (fun _ _ _ _ _ => dg_name 1 nd) (fun _ _ _ _ _ => dts_nil) (fun _ _ _ _ _ => de_cmp (od_eq hr.units) (de_callB cd_len (by rfl) T.g_len bt_len (dn_cons (de_var 1) (dn_nil)).da) (de_callB cd_len (by rfl) T.g_len bt_len (dn_cons (de_ix (de_var 0) (de_int)) (dn_nil)).da))) (dn_nil)).da)))),
      rd_is_sheet a.c⟩
theorem sc_sheet_told : FnScope ["sheet", "row", "item"] ["sheet"] (defScope s_sheet_told) := ⟨rfl, rfl, rfl, by decide +kernel, rfl, by decide +kernel, by decide +kernel⟩
theorem ok_sheet_told (T : Tx K mg a) : FnOk P w K mg base (L2.CX P w) 5 a.f_sheet_told a.d_sheet_told ["sheet"] (spD K 1 (w_sheet_told a.c)) :=
  fnD T.F_sheet_told sc_sheet_told fun cdv A outer s H E hr => by
    have nd := sc_sheet_told.nd
    exact ⟨m_sheet_told a.c, dss_cons (ds_if (dt_not (dt_val (de_call wm_is_sheet (ok_is_sheet T) (hr.mono (by decide)) (by rfl) T.m_is_sheet T.F_is_sheet.kp T.b_is_sheet passE0 (dn_cons (de_var 0) (dn_nil))))) (dss_one (ds_never)) (dss_nil))
      (dss_one (ds_ret (de_callTy cd_tuple (by rfl) T.g_tuple bt_tuple (dn_cons (de_lc (own' := [("row", 1)]) rfl nd (di_seq (de_var 0)) (blkOk_by (by kernel_rfl)) (fun _ _ _ _ _ => dg_name 1 nd) (fun _ _ _ _ _ => dts_nil) (fun _ _ _ _ _ => de_callTy cd_tuple (by rfl) T.g_tuple bt_tuple (dn_cons (de_lc (own' := [("item", 2)]) rfl nd (di_seq (de_var 1)) (blkOk_by (by kernel_rfl)) (fun _ _ _ _ _ => dg_name 2 nd) (fun _ _ _ _ _ => dts_nil) (fun _ _ _ _ _ => de_call wm_told (ok_told T) (hr.mono (by decide)) (by rfl) T.m_told T.F_told.kp T.b_told passE0 (dn_cons (de_var 2) (dn_nil)))) (dn_nil)).da)) (dn_nil)).da))),
      rd_sheet_told a.c⟩
theorem sc_dot_raw : FnScope ["row", "other", "top", "bottom", "one", "two", "low"] ["row", "other"] (defScope s_dot_raw) := ⟨rfl, rfl, rfl, by decide +kernel, rfl, by decide +kernel, by decide +kernel⟩
theorem ok_dot_raw (T : Tx K mg a) : FnOk P w K mg base (L2.CX P w) 2 a.f_dot_raw a.d_dot_raw ["row", "other"] (spD K 2 (w_dot_raw a.c)) :=
  fnD T.F_dot_raw sc_dot_raw fun cdv A outer s H E hr => by
    have nd := sc_dot_raw.nd
    exact ⟨m_dot_raw a.c, dss_cons (ds_set 2 nd (de_int))
      (dss_cons (ds_set 3 nd (de_int))
      (dss_cons (ds_for PassesOwn.never rfl (di_zip (by rfl) T.g_zip (dn_cons (de_var 0) (dn_cons (de_var 1) (dn_nil))).da) (dg_tup rfl (pgn_cons 4 nd (pgn_cons 5 nd (.nil)))) (dss_one (ds_if ((dw_and (dt_cmp (od_ne hr.units) (de_ix (de_var 4) (de_int)) (de_int)) (dw_and1 (dt_cmp (od_ne hr.units) (de_ix (de_var 5) (de_int)) (de_int)))).dt) (dss_cons (ds_set 6 nd (de_op od_times (de_ix (de_var 4) (de_int)) (de_ix (de_var 5) (de_int))))
      (dss_cons (ds_set 2 nd (de_op od_plus (de_op od_times (de_var 2) (de_var 6)) (de_op od_times (de_op od_times (de_ix (de_var 4) (de_int)) (de_ix (de_var 5) (de_int))) (de_var 3))))
      (dss_one (ds_set 3 nd (de_op od_times (de_var 3) (de_var 6)))))) (dss_nil))))
      (dss_one (ds_ret (de_call wm_lowest (ok_lowest T) (hr.mono (by decide)) (by rfl) T.m_lowest T.F_lowest.kp T.b_lowest passE0 (dn_cons (de_var 2) (dn_cons (de_var 3) (dn_nil)))))))),
      rd_dot_raw a.c⟩
theorem sc_column_raw : FnScope ["sheet", "column", "row"] ["sheet", "column"] (defScope s_column_raw) := ⟨rfl, rfl, rfl, by decide +kernel, rfl, by decide +kernel, by decide +kernel⟩
theorem ok_column_raw (T : Tx K mg a) : FnOk P w K mg base (L2.CX P w) 3 a.f_column_raw a.d_column_raw ["sheet", "column"] (spD K 2 (w_column_raw a.c)) :=
  fnD T.F_column_raw sc_column_raw fun cdv A outer s H E hr => by
    have nd := sc_column_raw.nd
    exact ⟨m_column_raw a.c, dss_one (ds_ret (de_callTy cd_tuple (by rfl) T.g_tuple bt_tuple (dn_cons (de_lc (own' := [("row", 2)]) rfl nd (di_seq (de_var 0)) (blkOk_by (by kernel_rfl)) (fun _ _ _ _ _ => dg_name 2 nd) (fun _ _ _ _ _ => dts_nil) (fun _ _ _ _ _ => de_call wm_dot_raw (ok_dot_raw T) (hr.mono (by decide)) (by rfl) T.m_dot_raw T.F_dot_raw.kp T.b_dot_raw passE0 (dn_cons (de_var 2) (dn_cons (de_var 1) (dn_nil))))) (dn_nil)).da)),
      rd_column_raw a.c⟩
theorem sc_row_raw : FnScope ["row", "sheet", "k", "line"] ["row", "sheet"] (defScope s_row_raw) := ⟨rfl, rfl, rfl, by decide +kernel, rfl, by decide +kernel, by decide +kernel⟩
theorem ok_row_raw (T : Tx K mg a) : FnOk P w K mg base (L2.CX P w) 3 a.f_row_raw a.d_row_raw ["row", "sheet"] (spD K 2 (w_row_raw a.c)) :=
  fnD T.F_row_raw sc_row_raw fun cdv A outer s H E hr => by
    have nd := sc_row_raw.nd
    exact ⟨m_row_raw a.c, dss_one (ds_ret (de_callTy cd_tuple (by rfl) T.g_tuple bt_tuple (dn_cons (de_lc (own' := [("k", 2)]) rfl nd (di_range1 (by rfl) T.g_range (dn_cons (de_callB cd_len (by rfl) T.g_len bt_len (dn_cons (de_ix (de_var 1) (de_int)) (dn_nil)).da) (dn_nil)).da) (blkOk_by (by kernel_rfl)) (fun _ _ _ _ _ => dg_name 2 nd) (fun _ _ _ _ _ => dts_nil) (fun _ _ _ _ _ => de_call wm_dot_raw (ok_dot_raw T) (hr.mono (by decide)) (by rfl) T.m_dot_raw T.F_dot_raw.kp T.b_dot_raw passE0 (dn_cons (de_var 0) (dn_cons (de_lc (own' := [("line", 3)]) rfl nd (di_seq (de_var 1)) (blkOk_by (by kernel_rfl)) (fun _ _ _ _ _ => dg_name 3 nd) (fun _ _ _ _ _ => dts_nil) (fun _ _ _ _ _ => de_ix (de_var 3) (de_var 2))) (dn_nil))))) (dn_nil)).da)),
      rd_row_raw a.c⟩
theorem sc_square_told : FnScope ["sheet", "rows"] ["sheet"] (defScope s_square_told) := ⟨rfl, rfl, rfl, by decide +kernel, rfl, by decide +kernel, by decide +kernel⟩
theorem ok_square_told (T : Tx K mg a) : FnOk P w K mg base (L2.CX P w) 6 a.f_square_told a.d_square_told ["sheet"] (spD K 1 (w_square_told a.c)) :=
  fnD T.F_square_told sc_square_told fun cdv A outer s H E hr => by
    have nd := sc_square_told.nd
    exact ⟨m_square_told a.c, dss_cons (ds_set 1 nd (de_call wm_sheet_told (ok_sheet_told T) (hr.mono (by decide)) (by rfl) T.m_sheet_told T.F_sheet_told.kp T.b_sheet_told passE0 (dn_cons (de_var 0) (dn_nil))))
      (dss_cons (ds_if (dt_cmp (od_ne hr.units) (de_callB cd_len (by rfl) T.g_len bt_len (dn_cons (de_var 1) (dn_nil)).da) (de_callB cd_len (by rfl) T.g_len bt_len (dn_cons (de_ix (de_var 1) (de_int)) (dn_nil)).da)) (dss_one (ds_never)) (dss_nil))
      (dss_one (ds_ret (de_var 1)))),
      rd_square_told a.c⟩
theorem sc_frozen : FnScope ["value", "item"] ["value"] (defScope s_frozen) := ⟨rfl, rfl, rfl, by decide +kernel, rfl, by decide +kernel, by decide +kernel⟩
theorem okr_frozen (T : Tx K mg a) : ∀ k, FnOk P w K mg base (L2.CX P w) (k + 1) a.f_frozen a.d_frozen ["value"] (spD K 1 (w_frozen a.c k))
  | k => by
    have R : FnOk P w K mg base (L2.CX P w) (k + 0) a.f_frozen a.d_frozen ["value"] (spD K 1 (wr_frozen a.c k)) := by
      cases k with
      | zero => exact fnFalse
      | succ k => exact okr_frozen T k
    have wm_r : Wm (wr_frozen a.c k) := by
      cases k with
      | zero => exact ⟨fun _ _ _ _ _ _ _ _ h => h⟩
      | succ k => exact wm_frozen (c := a.c) (k := k)
    refine fnD T.F_frozen sc_frozen fun cdv A outer s H E hr => ?_
    have nd := sc_frozen.nd
    exact ⟨m_frozen a.c (wr_frozen a.c k), dss_cons (ds_if (dt_val (de_callB (cd_isiT T.isi) (by rfl) T.g_isinstance bt_isinstance (dn_cons (de_var 0) (dn_cons (de_tup (dn_cons (de_ty (by rfl) T.g_tuple bt_tuple) (dn_cons (de_ty (by rfl) T.g_list bt_list) (dn_nil)))) (dn_nil))).da)) (dss_one (ds_ret (de_callTy cd_tuple (by rfl) T.g_tuple bt_tuple (dn_cons (de_lc (own' := [("item", 1)]) rfl nd (di_seq (de_var 0)) (blkOk_by (by kernel_rfl)) (fun _ _ _ _ _ => dg_name 1 nd) (fun _ _ _ _ _ => dts_nil) (fun _ _ _ _ _ => de_call wm_r (R) hr (by rfl) T.m_frozen T.F_frozen.kp T.b_frozen passE0 (dn_cons (de_var 1) (dn_nil)))) (dn_nil)).da))) (dss_nil))
      (dss_one (ds_ret (de_var 0))),
      rd_frozen a.c k⟩
theorem ok_frozen (T : Tx K mg a) : FnOk P w K mg base (L2.CX P w) 7 a.f_frozen a.d_frozen ["value"] (spD K 1 (w_frozen a.c 6)) := okr_frozen T 6
theorem sc_Lid_init : FnScope ["self", "row"] ["self", "row"] (defScope s_Lid_init) := ⟨rfl, rfl, rfl, by decide +kernel, rfl, by decide +kernel, by decide +kernel⟩
theorem ok_Lid_init (T : Tx K mg a) : FnOk P w K mg base (L2.CX P w) 8 a.f_Lid_init a.d_Lid_init ["self", "row"] (spI K a.c.Lid 1 (w_Lid_init a.c)) :=
  fnI T.F_Lid_init sc_Lid_init fun cdv A outer s H E hr => by
    have nd := sc_Lid_init.nd
    exact ⟨m_Lid_init a.c, dss_one (ds_self 0 (de_call wm_frozen (ok_frozen T) (hr.mono (by decide)) (by rfl) T.m_frozen T.F_frozen.kp T.b_frozen passE0 (dn_cons (de_var 1) (dn_nil))) T.cl_Lid T.n_Lid_row),
      rd_Lid_init a.c⟩
theorem sc_Lid_eq : FnScope ["self", "other"] ["self", "other"] (defScope s_Lid_eq) := ⟨rfl, rfl, rfl, by decide +kernel, rfl, by decide +kernel, by decide +kernel⟩
theorem ok_Lid_eq (T : Tx K mg a) : FnOk P w K mg base (L2.CX P w) 1 a.f_Lid_eq a.d_Lid_eq ["self", "other"] (spD K 2 (w_Lid_eq a.c)) :=
  fnD T.F_Lid_eq sc_Lid_eq fun cdv A outer s H E hr => by
    have nd := sc_Lid_eq.nd
    exact ⟨m_Lid_eq a.c, dss_one (ds_ret (de_and (de_callB (cd_isi1 T.isi) (by rfl) T.g_isinstance bt_isinstance (dn_cons (de_var 1) (dn_cons (de_fn (by rfl) T.m_Lid) (dn_nil))).da) (de_one (de_cmp (od_eq hr.units) (de_fld (de_var 0) T.cl_Lid T.n_Lid_row) (de_fld (de_var 1) T.cl_Lid T.n_Lid_row))))),
      rd_Lid_eq a.c⟩
theorem sc_Floor_init : FnScope ["self", "row"] ["self", "row"] (defScope s_Floor_init) := ⟨rfl, rfl, rfl, by decide +kernel, rfl, by decide +kernel, by decide +kernel⟩
theorem ok_Floor_init (T : Tx K mg a) : FnOk P w K mg base (L2.CX P w) 8 a.f_Floor_init a.d_Floor_init ["self", "row"] (spI K a.c.Floor 1 (w_Floor_init a.c)) :=
  fnI T.F_Floor_init sc_Floor_init fun cdv A outer s H E hr => by
    have nd := sc_Floor_init.nd
    exact ⟨m_Floor_init a.c, dss_one (ds_self 0 (de_call wm_frozen (ok_frozen T) (hr.mono (by decide)) (by rfl) T.m_frozen T.F_frozen.kp T.b_frozen passE0 (dn_cons (de_var 1) (dn_nil))) T.cl_Floor T.n_Floor_row),
      rd_Floor_init a.c⟩
theorem sc_Floor_eq : FnScope ["self", "other"] ["self", "other"] (defScope s_Floor_eq) := ⟨rfl, rfl, rfl, by decide +kernel, rfl, by decide +kernel, by decide +kernel⟩
theorem ok_Floor_eq (T : Tx K mg a) : FnOk P w K mg base (L2.CX P w) 1 a.f_Floor_eq a.d_Floor_eq ["self", "other"] (spD K 2 (w_Floor_eq a.c)) :=
  fnD T.F_Floor_eq sc_Floor_eq fun cdv A outer s H E hr => by
    have nd := sc_Floor_eq.nd
    exact ⟨m_Floor_eq a.c, dss_one (ds_ret (de_and (de_callB (cd_isi1 T.isi) (by rfl) T.g_isinstance bt_isinstance (dn_cons (de_var 1) (dn_cons (de_fn (by rfl) T.m_Floor) (dn_nil))).da) (de_one (de_cmp (od_eq hr.units) (de_fld (de_var 0) T.cl_Floor T.n_Floor_row) (de_fld (de_var 1) T.cl_Floor T.n_Floor_row))))),
      rd_Floor_eq a.c⟩
theorem sc_size_of : FnScope ["ratio"] ["ratio"] (defScope s_size_of) := ⟨rfl, rfl, rfl, by decide +kernel, rfl, by decide +kernel, by decide +kernel⟩
theorem ok_size_of (T : Tx K mg a) : FnOk P w K mg base (L2.CX P w) 1 a.f_size_of a.d_size_of ["ratio"] (spD K 1 (w_size_of a.c)) :=
  fnD T.F_size_of sc_size_of fun cdv A outer s H E hr => by
    have nd := sc_size_of.nd
    exact ⟨m_size_of a.c, dss_one (ds_ret (de_tup (dn_cons (de_callB cd_abs (by rfl) T.g_abs bt_abs (dn_cons (de_ix (de_var 0) (de_int)) (dn_nil)).da) (dn_cons (de_ix (de_var 0) (de_int)) (dn_nil))))),
      rd_size_of a.c⟩
theorem sc_sizes_raw : FnScope ["rows", "row", "item"] ["rows"] (defScope s_sizes_raw) := ⟨rfl, rfl, rfl, by decide +kernel, rfl, by decide +kernel, by decide +kernel⟩
theorem ok_sizes_raw (T : Tx K mg a) : FnOk P w K mg base (L2.CX P w) 2 a.f_sizes_raw a.d_sizes_raw ["rows"] (spD K 1 (w_sizes_raw a.c)) :=
  fnD T.F_sizes_raw sc_sizes_raw fun cdv A outer s H E hr => by
    have nd := sc_sizes_raw.nd
    exact ⟨m_sizes_raw a.c, dss_one (ds_ret (de_callTy cd_tuple (by rfl) T.g_tuple bt_tuple (dn_cons (de_lc (own' := [("row", 1)]) rfl nd (di_seq (de_var 0)) (blkOk_by (by kernel_rfl)) (fun _ _ _ _ _ => dg_name 1 nd) (fun _ _ _ _ _ => dts_nil) (fun _ _ _ _ _ => de_callTy cd_tuple (by rfl) T.g_tuple bt_tuple (dn_cons (de_lc (own' := [("item", 2)]) rfl nd (di_seq (de_var 1)) (blkOk_by (by kernel_rfl)) (fun _ _ _ _ _ => dg_name 2 nd) (fun _ _ _ _ _ => dts_nil) (fun _ _ _ _ _ => de_call wm_size_of (ok_size_of T) (hr.mono (by decide)) (by rfl) T.m_size_of T.F_size_of.kp T.b_size_of passE0 (dn_cons (de_var 2) (dn_nil)))) (dn_nil)).da)) (dn_nil)).da)),
      rd_sizes_raw a.c⟩
theorem sc_is_lid : FnScope ["rows", "row", "sum_there", "own", "item"] ["rows", "row"] (defScope s_is_lid) := ⟨rfl, rfl, rfl, by decide +kernel, rfl, by decide +kernel, by decide +kernel⟩
theorem ok_is_lid (T : Tx K mg a) : FnOk P w K mg base (L2.CX P w) 4 a.f_is_lid a.d_is_lid ["rows", "row"] (spD K 2 (w_is_lid a.c)) :=
  fnD T.F_is_lid sc_is_lid fun cdv A outer s H E hr => by
    have nd := sc_is_lid.nd
    exact ⟨m_is_lid a.c, dss_cons (ds_if ((dw_or (dt_not (dt_val (de_callB (cd_isi1 T.isi) (by rfl) T.g_isinstance bt_isinstance (dn_cons (de_var 1) (dn_cons (de_ty (by rfl) T.g_tuple bt_tuple) (dn_nil))).da))) (dw_or (dt_cmp (od_ne hr.units) (de_callB cd_len (by rfl) T.g_len bt_len (dn_cons (de_var 1) (dn_nil)).da) (de_callB cd_len (by rfl) T.g_len bt_len (dn_cons (de_var 0) (dn_nil)).da)) (dw_or1 (dt_not (dt_val (de_callB (cd_all rfl) (by rfl) T.g_all bt_all (dn_cons (de_lc (own' := [("item", 4)]) rfl nd (di_seq (de_var 1)) (blkOk_by (by kernel_rfl)) (fun _ _ _ _ _ => dg_name 4 nd) (fun _ _ _ _ _ => dts_nil) (fun _ _ _ _ _ => de_and (de_call wm_is_told (ok_is_told T) (hr.mono (by decide)) (by rfl) T.m_is_told T.F_is_told.kp T.b_is_told passE0 (dn_cons (de_var 4) (dn_nil))) (de_one (de_cmp od_gt (de_ix (de_var 4) (de_int)) (de_int))))) (dn_nil)).da)))))).dt) (dss_one (ds_ret (de_bl))) (dss_nil))
      (dss_one (ds_ret (de_callB (cd_all rfl) (by rfl) T.g_all bt_all (dn_cons (de_lc (own' := [("sum_there", 2), ("own", 3)]) rfl nd (di_zip (by rfl) T.g_zip (dn_cons (de_call wm_column_raw (ok_column_raw T) (hr.mono (by decide)) (by rfl) T.m_column_raw T.F_column_raw.kp T.b_column_raw passE0 (dn_cons (de_call wm_sizes_raw (ok_sizes_raw T) (hr.mono (by decide)) (by rfl) T.m_sizes_raw T.F_sizes_raw.kp T.b_sizes_raw passE0 (dn_cons (de_var 0) (dn_nil))) (dn_cons (de_var 1) (dn_nil)))) (dn_cons (de_var 1) (dn_nil))).da) (blkOk_by (by kernel_rfl)) (fun _ _ _ _ _ => dg_tup rfl (pgn_cons 2 nd (pgn_cons 3 nd (.nil)))) (fun _ _ _ _ _ => dts_nil) (fun _ _ _ _ _ => de_call wm_rless (ok_rless T) (hr.mono (by decide)) (by rfl) T.m_rless T.F_rless.kp T.b_rless passE0 (dn_cons (de_var 2) (dn_cons (de_var 3) (dn_nil))))) (dn_nil)).da))),
      rd_is_lid a.c⟩
theorem sc_lid_holds : FnScope ["sheet", "value", "rows"] ["sheet", "value"] (defScope s_lid_holds) := ⟨rfl, rfl, rfl, by decide +kernel, rfl, by decide +kernel, by decide +kernel⟩
theorem ok_lid_holds (T : Tx K mg a) : FnOk P w K mg base (L2.CX P w) 7 a.f_lid_holds a.d_lid_holds ["sheet", "value"] (spD K 2 (w_lid_holds a.c)) :=
  fnD T.F_lid_holds sc_lid_holds fun cdv A outer s H E hr => by
    have nd := sc_lid_holds.nd
    exact ⟨m_lid_holds a.c, dss_cons (ds_set 2 nd (de_call wm_square_told (ok_square_told T) (hr.mono (by decide)) (by rfl) T.m_square_told T.F_square_told.kp T.b_square_told passE0 (dn_cons (de_var 0) (dn_nil))))
      (dss_one (ds_ret (de_and (de_callB (cd_isi1 T.isi) (by rfl) T.g_isinstance bt_isinstance (dn_cons (de_var 1) (dn_cons (de_fn (by rfl) T.m_Lid) (dn_nil))).da) (de_one (de_call wm_is_lid (ok_is_lid T) (hr.mono (by decide)) (by rfl) T.m_is_lid T.F_is_lid.kp T.b_is_lid passE0 (dn_cons (de_var 2) (dn_cons (de_fld (de_var 1) T.cl_Lid T.n_Lid_row) (dn_nil)))))))),
      rd_lid_holds a.c⟩
theorem sc_floor_holds : FnScope ["sheet", "value", "rows", "row", "item", "sum_there", "own"] ["sheet", "value"] (defScope s_floor_holds) := ⟨rfl, rfl, rfl, by decide +kernel, rfl, by decide +kernel, by decide +kernel⟩
theorem ok_floor_holds (T : Tx K mg a) : FnOk P w K mg base (L2.CX P w) 7 a.f_floor_holds a.d_floor_holds ["sheet", "value"] (spD K 2 (w_floor_holds a.c)) :=
  fnD T.F_floor_holds sc_floor_holds fun cdv A outer s H E hr => by
    have nd := sc_floor_holds.nd
    exact ⟨m_floor_holds a.c, dss_cons (ds_set 2 nd (de_call wm_square_told (ok_square_told T) (hr.mono (by decide)) (by rfl) T.m_square_told T.F_square_told.kp T.b_square_told passE0 (dn_cons (de_var 0) (dn_nil))))
      (dss_cons (ds_set 3 nd (de_ifExp (dt_val (de_callB (cd_isi1 T.isi) (by rfl) T.g_isinstance bt_isinstance (dn_cons (de_var 1) (dn_cons (de_fn (by rfl) T.m_Floor) (dn_nil))).da)) (de_fld (de_var 1) T.cl_Floor T.n_Floor_row) (de_non)))
      (dss_cons (ds_if ((dw_or (dt_not (dt_val (de_callB (cd_isi1 T.isi) (by rfl) T.g_isinstance bt_isinstance (dn_cons (de_var 3) (dn_cons (de_ty (by rfl) T.g_tuple bt_tuple) (dn_nil))).da))) (dw_or (dt_cmp (od_ne hr.units) (de_callB cd_len (by rfl) T.g_len bt_len (dn_cons (de_var 3) (dn_nil)).da) (de_callB cd_len (by rfl) T.g_len bt_len (dn_cons (de_var 2) (dn_nil)).da)) (dw_or1 (dt_not (dt_val (de_callB (cd_all rfl) (by rfl) T.g_all bt_all (dn_cons (de_lc (own' := [("item", 4)]) rfl nd (di_seq (de_var 3)) (blkOk_by (by kernel_rfl)) (fun _ _ _ _ _ => dg_name 4 nd) (fun _ _ _ _ _ => dts_nil) (fun _ _ _ _ _ => de_and (de_call wm_is_told (ok_is_told T) (hr.mono (by decide)) (by rfl) T.m_is_told T.F_is_told.kp T.b_is_told passE0 (dn_cons (de_var 4) (dn_nil))) (de_one (de_cmp od_ge (de_ix (de_var 4) (de_int)) (de_int))))) (dn_nil)).da)))))).dt) (dss_one (ds_ret (de_bl))) (dss_nil))
      (dss_cons (ds_if (dt_val (de_callB (cd_all rfl) (by rfl) T.g_all bt_all (dn_cons (de_lc (own' := [("item", 4)]) rfl nd (di_seq (de_var 3)) (blkOk_by (by kernel_rfl)) (fun _ _ _ _ _ => dg_name 4 nd) (fun _ _ _ _ _ => dts_nil) (fun _ _ _ _ _ => de_cmp (od_eq hr.units) (de_ix (de_var 4) (de_int)) (de_int))) (dn_nil)).da)) (dss_one (ds_ret (de_bl))) (dss_nil))
      (dss_one (ds_ret (de_not (de_callB (cd_any rfl) (by rfl) T.g_any bt_any (dn_cons (de_lc (own' := [("sum_there", 5), ("own", 6)]) rfl nd (di_zip (by rfl) T.g_zip (dn_cons (de_call wm_row_raw (ok_row_raw T) (hr.mono (by decide)) (by rfl) T.m_row_raw T.F_row_raw.kp T.b_row_raw passE0 (dn_cons (de_var 3) (dn_cons (de_call wm_sizes_raw (ok_sizes_raw T) (hr.mono (by decide)) (by rfl) T.m_sizes_raw T.F_sizes_raw.kp T.b_sizes_raw passE0 (dn_cons (de_var 2) (dn_nil))) (dn_nil)))) (dn_cons (de_var 3) (dn_nil))).da) (blkOk_by (by kernel_rfl)) (fun _ _ _ _ _ => dg_tup rfl (pgn_cons 5 nd (pgn_cons 6 nd (.nil)))) (fun _ _ _ _ _ => dts_nil) (fun _ _ _ _ _ => de_call wm_rless (ok_rless T) (hr.mono (by decide)) (by rfl) T.m_rless T.F_rless.kp T.b_rless passE0 (dn_cons (de_var 5) (dn_cons (de_var 6) (dn_nil))))) (dn_nil)).da))))))),
      rd_floor_holds a.c⟩
theorem sc_law_pick : FnScope ["pen", "some"] ["pen", "some"] (defScope s_law_pick) := ⟨rfl, rfl, rfl, by decide +kernel, rfl, by decide +kernel, by decide +kernel⟩
theorem ok_law_pick (T : Tx K mg a) : FnOk P w K mg base (L2.CX P w) 2 a.f_law_pick a.d_law_pick ["pen", "some"] (spD K 2 (w_law_pick a.c)) :=
  fnD T.F_law_pick sc_law_pick fun cdv A outer s H E hr => by
    have nd := sc_law_pick.nd
    exact ⟨m_law_pick a.c, dss_one (ds_ret (de_ix (de_var 1) (de_call wm_law_draw (ok_law_draw T) (hr.mono (by decide)) (by rfl) T.m_law_draw T.F_law_draw.kp T.b_law_draw passE0 (dn_cons (de_var 0) (dn_cons (de_callB cd_len (by rfl) T.g_len bt_len (dn_cons (de_var 1) (dn_nil)).da) (dn_nil)))))),
      rd_law_pick a.c⟩
theorem sc_law_is_int : FnScope ["thing"] ["thing"] (defScope s_law_is_int) := ⟨rfl, rfl, rfl, by decide +kernel, rfl, by decide +kernel, by decide +kernel⟩
theorem ok_law_is_int (T : Tx K mg a) : FnOk P w K mg base (L2.CX P w) 1 a.f_law_is_int a.d_law_is_int ["thing"] (spD K 1 (w_law_is_int a.c)) :=
  fnD T.F_law_is_int sc_law_is_int fun cdv A outer s H E hr => by
    have nd := sc_law_is_int.nd
    exact ⟨m_law_is_int a.c, dss_one (ds_ret (de_and (de_callB (cd_isi1 T.isi) (by rfl) T.g_isinstance bt_isinstance (dn_cons (de_var 0) (dn_cons (de_ty (by rfl) T.g_int bt_int) (dn_nil))).da) (de_one (de_not (de_callB (cd_isi1 T.isi) (by rfl) T.g_isinstance bt_isinstance (dn_cons (de_var 0) (dn_cons (de_ty (by rfl) T.g_bool bt_bool) (dn_nil))).da))))),
      rd_law_is_int a.c⟩
theorem sc_law_gcd : FnScope ["one", "other"] ["one", "other"] (defScope s_law_gcd) := ⟨rfl, rfl, rfl, by decide +kernel, rfl, by decide +kernel, by decide +kernel⟩
theorem ok_law_gcd (T : Tx K mg a) : FnOk P w K mg base (L2.CX P w) 1 a.f_law_gcd a.d_law_gcd ["one", "other"] (spD K 2 (w_law_gcd a.c)) :=
  fnD T.F_law_gcd sc_law_gcd fun cdv A outer s H E hr => by
    have nd := sc_law_gcd.nd
    exact ⟨m_law_gcd a.c, dss_cons (ds_par 0 1 rfl nd (dn_cons (de_callB cd_abs (by rfl) T.g_abs bt_abs (dn_cons (de_var 0) (dn_nil)).da) (dn_cons (de_callB cd_abs (by rfl) T.g_abs bt_abs (dn_cons (de_var 1) (dn_nil)).da) (dn_nil))).da)
      (dss_cons (ds_while PassesOwn.never (dt_cmp od_gt (de_var 1) (de_int)) (dss_one (ds_par 0 1 rfl nd (dn_cons (de_var 1) (dn_cons (de_op od_mod (de_callTy cd_int (by rfl) T.g_int bt_int (dn_cons (de_var 0) (dn_nil)).da) (de_var 1)) (dn_nil))).da)))
      (dss_one (ds_ret (de_var 0)))),
      rd_law_gcd a.c⟩
theorem sc_law_low : FnScope ["top", "bottom", "part"] ["top", "bottom"] (defScope s_law_low) := ⟨rfl, rfl, rfl, by decide +kernel, rfl, by decide +kernel, by decide +kernel⟩
theorem ok_law_low (T : Tx K mg a) : FnOk P w K mg base (L2.CX P w) 2 a.f_law_low a.d_law_low ["top", "bottom"] (spD K 2 (w_law_low a.c)) :=
  fnD T.F_law_low sc_law_low fun cdv A outer s H E hr => by
    have nd := sc_law_low.nd
    exact ⟨m_law_low a.c, dss_cons (ds_set 2 nd (de_call wm_law_gcd (ok_law_gcd T) (hr.mono (by decide)) (by rfl) T.m_law_gcd T.F_law_gcd.kp T.b_law_gcd passE0 (dn_cons (de_var 0) (dn_cons (de_var 1) (dn_nil)))))
      (dss_one (ds_ret (de_tup (dn_cons (de_op od_div (de_var 0) (de_var 2)) (dn_cons (de_op od_div (de_var 1) (de_var 2)) (dn_nil)))))),
      rd_law_low a.c⟩
theorem sc_law_add : FnScope ["one", "other"] ["one", "other"] (defScope s_law_add) := ⟨rfl, rfl, rfl, by decide +kernel, rfl, by decide +kernel, by decide +kernel⟩
theorem ok_law_add (T : Tx K mg a) : FnOk P w K mg base (L2.CX P w) 3 a.f_law_add a.d_law_add ["one", "other"] (spD K 2 (w_law_add a.c)) :=
  fnD T.F_law_add sc_law_add fun cdv A outer s H E hr => by
    have nd := sc_law_add.nd
    exact ⟨m_law_add a.c, dss_one (ds_ret (de_call wm_law_low (ok_law_low T) (hr.mono (by decide)) (by rfl) T.m_law_low T.F_law_low.kp T.b_law_low passE0 (dn_cons (de_op od_plus (de_op od_times (de_ix (de_var 0) (de_int)) (de_ix (de_var 1) (de_int))) (de_op od_times (de_ix (de_var 1) (de_int)) (de_ix (de_var 0) (de_int)))) (dn_cons (de_op od_times (de_ix (de_var 0) (de_int)) (de_ix (de_var 1) (de_int))) (dn_nil))))),
      rd_law_add a.c⟩
theorem sc_law_sub : FnScope ["one", "other"] ["one", "other"] (defScope s_law_sub) := ⟨rfl, rfl, rfl, by decide +kernel, rfl, by decide +kernel, by decide +kernel⟩
theorem ok_law_sub (T : Tx K mg a) : FnOk P w K mg base (L2.CX P w) 3 a.f_law_sub a.d_law_sub ["one", "other"] (spD K 2 (w_law_sub a.c)) :=
  fnD T.F_law_sub sc_law_sub fun cdv A outer s H E hr => by
    have nd := sc_law_sub.nd
    exact ⟨m_law_sub a.c, dss_one (ds_ret (de_call wm_law_low (ok_law_low T) (hr.mono (by decide)) (by rfl) T.m_law_low T.F_law_low.kp T.b_law_low passE0 (dn_cons (de_op od_sub (de_op od_times (de_ix (de_var 0) (de_int)) (de_ix (de_var 1) (de_int))) (de_op od_times (de_ix (de_var 1) (de_int)) (de_ix (de_var 0) (de_int)))) (dn_cons (de_op od_times (de_ix (de_var 0) (de_int)) (de_ix (de_var 1) (de_int))) (dn_nil))))),
      rd_law_sub a.c⟩
theorem sc_law_mul : FnScope ["one", "other"] ["one", "other"] (defScope s_law_mul) := ⟨rfl, rfl, rfl, by decide +kernel, rfl, by decide +kernel, by decide +kernel⟩
theorem ok_law_mul (T : Tx K mg a) : FnOk P w K mg base (L2.CX P w) 3 a.f_law_mul a.d_law_mul ["one", "other"] (spD K 2 (w_law_mul a.c)) :=
  fnD T.F_law_mul sc_law_mul fun cdv A outer s H E hr => by
    have nd := sc_law_mul.nd
    exact ⟨m_law_mul a.c, dss_one (ds_ret (de_call wm_law_low (ok_law_low T) (hr.mono (by decide)) (by rfl) T.m_law_low T.F_law_low.kp T.b_law_low passE0 (dn_cons (de_op od_times (de_ix (de_var 0) (de_int)) (de_ix (de_var 1) (de_int))) (dn_cons (de_op od_times (de_ix (de_var 0) (de_int)) (de_ix (de_var 1) (de_int))) (dn_nil))))),
      rd_law_mul a.c⟩
theorem sc_law_div : FnScope ["one", "other", "sign"] ["one", "other"] (defScope s_law_div) := ⟨rfl, rfl, rfl, by decide +kernel, rfl, by decide +kernel, by decide +kernel⟩
theorem ok_law_div (T : Tx K mg a) : FnOk P w K mg base (L2.CX P w) 3 a.f_law_div a.d_law_div ["one", "other"] (spD K 2 (w_law_div a.c)) :=
  fnD T.F_law_div sc_law_div fun cdv A outer s H E hr => by
    have nd := sc_law_div.nd
    exact ⟨m_law_div a.c, dss_cons (ds_set 2 nd (de_ifExp (dt_cmp od_gt (de_ix (de_var 1) (de_int)) (de_int)) (de_int) (de_neg (de_int))))
      (dss_one (ds_ret (de_call wm_law_low (ok_law_low T) (hr.mono (by decide)) (by rfl) T.m_law_low T.F_law_low.kp T.b_law_low passE0 (dn_cons (de_op od_times (de_op od_times (de_var 2) (de_ix (de_var 0) (de_int))) (de_ix (de_var 1) (de_int))) (dn_cons (de_op od_times (de_op od_times (de_var 2) (de_ix (de_var 0) (de_int))) (de_ix (de_var 1) (de_int))) (dn_nil)))))),
      rd_law_div a.c⟩
theorem sc_law_less : FnScope ["one", "other"] ["one", "other"] (defScope s_law_less) := ⟨rfl, rfl, rfl, by decide +kernel, rfl, by decide +kernel, by decide +kernel⟩
theorem ok_law_less (T : Tx K mg a) : FnOk P w K mg base (L2.CX P w) 1 a.f_law_less a.d_law_less ["one", "other"] (spD K 2 (w_law_less a.c)) :=
  fnD T.F_law_less sc_law_less fun cdv A outer s H E hr => by
    have nd := sc_law_less.nd
    exact ⟨m_law_less a.c, dss_one (ds_ret (de_cmp od_lt (de_op od_times (de_ix (de_var 0) (de_int)) (de_ix (de_var 1) (de_int))) (de_op od_times (de_ix (de_var 1) (de_int)) (de_ix (de_var 0) (de_int))))),
      rd_law_less a.c⟩
theorem sc_law_is_pair : FnScope ["thing"] ["thing"] (defScope s_law_is_pair) := ⟨rfl, rfl, rfl, by decide +kernel, rfl, by decide +kernel, by decide +kernel⟩
theorem ok_law_is_pair (T : Tx K mg a) : FnOk P w K mg base (L2.CX P w) 2 a.f_law_is_pair a.d_law_is_pair ["thing"] (spD K 1 (w_law_is_pair a.c)) :=
  fnD T.F_law_is_pair sc_law_is_pair fun cdv A outer s H E hr => by
    have nd := sc_law_is_pair.nd
    exact ⟨m_law_is_pair a.c, dss_cons (ds_if ((dw_or (dt_not (dt_val (de_callB (cd_isi1 T.isi) (by rfl) T.g_isinstance bt_isinstance (dn_cons (de_var 0) (dn_cons (de_ty (by rfl) T.g_tuple bt_tuple) (dn_nil))).da))) (dw_or1 (dt_cmp (od_ne hr.units) (de_callB cd_len (by rfl) T.g_len bt_len (dn_cons (de_var 0) (dn_nil)).da) (de_int)))).dt) (dss_one (ds_ret (de_bl))) (dss_nil))
      (dss_cons (ds_if ((dw_or (dt_not (dt_val (de_call wm_law_is_int (ok_law_is_int T) (hr.mono (by decide)) (by rfl) T.m_law_is_int T.F_law_is_int.kp T.b_law_is_int passE0 (dn_cons (de_ix (de_var 0) (de_int)) (dn_nil))))) (dw_or1 (dt_not (dt_val (de_call wm_law_is_int (ok_law_is_int T) (hr.mono (by decide)) (by rfl) T.m_law_is_int T.F_law_is_int.kp T.b_law_is_int passE0 (dn_cons (de_ix (de_var 0) (de_int)) (dn_nil))))))).dt) (dss_one (ds_ret (de_bl))) (dss_nil))
      (dss_one (ds_ret (de_and (de_cmp od_ge (de_ix (de_var 0) (de_int)) (de_int)) (de_one (de_cmp (od_eq hr.units) (de_call wm_law_gcd (ok_law_gcd T) (hr.mono (by decide)) (by rfl) T.m_law_gcd T.F_law_gcd.kp T.b_law_gcd passE0 (dn_cons (de_ix (de_var 0) (de_int)) (dn_cons (de_ix (de_var 0) (de_int)) (dn_nil)))) (de_int))))))),
      rd_law_is_pair a.c⟩
theorem sc_law_is_told_row : FnScope ["thing", "many", "item"] ["thing", "many"] (defScope s_law_is_told_row) := ⟨rfl, rfl, rfl, by decide +kernel, rfl, by decide +kernel, by decide +kernel⟩
theorem ok_law_is_told_row (T : Tx K mg a) : FnOk P w K mg base (L2.CX P w) 3 a.f_law_is_told_row a.d_law_is_told_row ["thing", "many"] (spD K 2 (w_law_is_told_row a.c)) :=
  fnD T.F_law_is_told_row sc_law_is_told_row fun cdv A outer s H E hr => by
    have nd := sc_law_is_told_row.nd
    exact ⟨m_law_is_told_row a.c, dss_one (ds_ret (de_and (de_callB (cd_isi1 T.isi) (by rfl) T.g_isinstance bt_isinstance (dn_cons (de_var 0) (dn_cons (de_ty (by rfl) T.g_tuple bt_tuple) (dn_nil))).da) (de_and (de_cmp (od_eq hr.units) (de_callB cd_len (by rfl) T.g_len bt_len (dn_cons (de_var 0) (dn_nil)).da) (de_var 1)) (de_one (de_callB (cd_all rfl) (by rfl) T.g_all bt_all (dn_cons (de_lc (own' := [("item", 2)]) rfl nd (di_seq (de_var 0)) (blkOk_by (by kernel_rfl)) (fun _ _ _ _ _ => dg_name 2 nd) (fun _ _ _ _ _ => dts_nil) (fun _ _ _ _ _ => de_call wm_law_is_pair (ok_law_is_pair T) (hr.mono (by decide)) (by rfl) T.m_law_is_pair T.F_law_is_pair.kp T.b_law_is_pair passE0 (dn_cons (de_var 2) (dn_nil)))) (dn_nil)).da))))),
      rd_law_is_told_row a.c⟩
theorem sc_law_dot : FnScope ["row", "other", "top", "bottom", "one", "two", "low"] ["row", "other"] (defScope s_law_dot) := ⟨rfl, rfl, rfl, by decide +kernel, rfl, by decide +kernel, by decide +kernel⟩
theorem ok_law_dot (T : Tx K mg a) : FnOk P w K mg base (L2.CX P w) 3 a.f_law_dot a.d_law_dot ["row", "other"] (spD K 2 (w_law_dot a.c)) :=
  fnD T.F_law_dot sc_law_dot fun cdv A outer s H E hr => by
    have nd := sc_law_dot.nd
    exact ⟨m_law_dot a.c, dss_cons (ds_asg (dg_tup rfl (pgn_cons 2 nd (pgn_cons 3 nd (.nil)))) (de_tup (dn_cons (de_int) (dn_cons (de_int) (dn_nil)))))
      (dss_cons (ds_for PassesOwn.never rfl (di_zip (by rfl) T.g_zip (dn_cons (de_var 0) (dn_cons (de_var 1) (dn_nil))).da) (dg_tup rfl (pgn_cons 4 nd (pgn_cons 5 nd (.nil)))) (dss_one (ds_if ((dw_and (dt_cmp (od_ne hr.units) (de_ix (de_var 4) (de_int)) (de_int)) (dw_and1 (dt_cmp (od_ne hr.units) (de_ix (de_var 5) (de_int)) (de_int)))).dt) (dss_cons (ds_set 6 nd (de_op od_times (de_ix (de_var 4) (de_int)) (de_ix (de_var 5) (de_int))))
      (dss_one (ds_par 2 3 rfl nd (dn_cons (de_op od_plus (de_op od_times (de_var 2) (de_var 6)) (de_op od_times (de_op od_times (de_ix (de_var 4) (de_int)) (de_ix (de_var 5) (de_int))) (de_var 3))) (dn_cons (de_op od_times (de_var 3) (de_var 6)) (dn_nil))).da))) (dss_nil))))
      (dss_one (ds_ret (de_call wm_law_low (ok_law_low T) (hr.mono (by decide)) (by rfl) T.m_law_low T.F_law_low.kp T.b_law_low passE0 (dn_cons (de_var 2) (dn_cons (de_var 3) (dn_nil))))))),
      rd_law_dot a.c⟩
theorem sc_law_loose : FnScope ["pen", "ratio", "way", "by"] ["pen", "ratio"] (defScope s_law_loose) := ⟨rfl, rfl, rfl, by decide +kernel, rfl, by decide +kernel, by decide +kernel⟩
theorem ok_law_loose (T : Tx K mg a) : FnOk P w K mg base (L2.CX P w) 2 a.f_law_loose a.d_law_loose ["pen", "ratio"] (spD K 2 (w_law_loose a.c)) :=
  fnD T.F_law_loose sc_law_loose fun cdv A outer s H E hr => by
    have nd := sc_law_loose.nd
    exact ⟨m_law_loose a.c, dss_cons (ds_set 2 nd (de_call wm_law_draw (ok_law_draw T) (hr.mono (by decide)) (by rfl) T.m_law_draw T.F_law_draw.kp T.b_law_draw passE0 (dn_cons (de_var 0) (dn_cons (de_int) (dn_nil)))))
      (dss_cons (ds_if ((dw_and (dt_cmp (od_eq hr.units) (de_var 2) (de_int)) (dw_and1 (dt_cmp (od_eq hr.units) (de_ix (de_var 1) (de_int)) (de_int)))).dt) (dss_one (ds_ret (de_ix (de_var 1) (de_int)))) (dss_nil))
      (dss_cons (ds_if (dt_cmp (od_eq hr.units) (de_var 2) (de_int)) (dss_cons (ds_set 3 nd (de_op od_plus (de_int) (de_call wm_law_draw (ok_law_draw T) (hr.mono (by decide)) (by rfl) T.m_law_draw T.F_law_draw.kp T.b_law_draw passE0 (dn_cons (de_var 0) (dn_cons (de_int) (dn_nil))))))
      (dss_one (ds_ret (de_tup (dn_cons (de_op od_times (de_ix (de_var 1) (de_int)) (de_var 3)) (dn_cons (de_op od_times (de_ix (de_var 1) (de_int)) (de_var 3)) (dn_nil))))))) (dss_nil))
      (dss_one (ds_ret (de_ifExp (dt_cmp (od_eq hr.units) (de_var 2) (de_int)) (de_lst (dn_cons (de_ix (de_var 1) (de_int)) (dn_cons (de_ix (de_var 1) (de_int)) (dn_nil)))) (de_var 1)))))),
      rd_law_loose a.c⟩
theorem sc_law_loose_rows : FnScope ["pen", "rows", "way", "made", "row", "item"] ["pen", "rows"] (defScope s_law_loose_rows) := ⟨rfl, rfl, rfl, by decide +kernel, rfl, by decide +kernel, by decide +kernel⟩
theorem ok_law_loose_rows (T : Tx K mg a) : FnOk P w K mg base (L2.CX P w) 3 a.f_law_loose_rows a.d_law_loose_rows ["pen", "rows"] (spD K 2 (w_law_loose_rows a.c)) :=
  fnD T.F_law_loose_rows sc_law_loose_rows fun cdv A outer s H E hr => by
    have nd := sc_law_loose_rows.nd
    exact ⟨m_law_loose_rows a.c, dss_cons (ds_set 2 nd (de_call wm_law_draw (ok_law_draw T) (hr.mono (by decide)) (by rfl) T.m_law_draw T.F_law_draw.kp T.b_law_draw passE0 (dn_cons (de_var 0) (dn_cons (de_int) (dn_nil)))))
      (dss_cons (ds_setLc 3 (own' := [("row", 4)]) rfl nd (di_seq (de_var 1)) (blkOk_by (by kernel_rfl)) (fun _ _ _ _ _ => dg_name 4 nd) (fun _ _ _ _ _ => dts_nil) (fun _ _ _ _ _ => de_ifExp (dt_cmp (od_eq hr.units) (de_var 2) (de_int)) (de_lc (own' := [("item", 5)]) rfl nd (di_seq (de_var 4)) (blkOk_by (by kernel_rfl)) (fun _ _ _ _ _ => dg_name 5 nd) (fun _ _ _ _ _ => dts_nil) (fun _ _ _ _ _ => de_call wm_law_loose (ok_law_loose T) (hr.mono (by decide)) (by rfl) T.m_law_loose T.F_law_loose.kp T.b_law_loose passE0 (dn_cons (de_var 0) (dn_cons (de_var 5) (dn_nil))))) (de_callTy cd_tuple (by rfl) T.g_tuple bt_tuple (dn_cons (de_lc (own' := [("item", 5)]) rfl nd (di_seq (de_var 4)) (blkOk_by (by kernel_rfl)) (fun _ _ _ _ _ => dg_name 5 nd) (fun _ _ _ _ _ => dts_nil) (fun _ _ _ _ _ => de_call wm_law_loose (ok_law_loose T) (hr.mono (by decide)) (by rfl) T.m_law_loose T.F_law_loose.kp T.b_law_loose passE0 (dn_cons (de_var 0) (dn_cons (de_var 5) (dn_nil))))) (dn_nil)).da)))
      (dss_one (ds_ret (de_ifExp (dt_cmp (od_eq hr.units) (de_var 2) (de_int)) (de_var 3) (de_callTy cd_tuple (by rfl) T.g_tuple bt_tuple (dn_cons (de_var 3) (dn_nil)).da))))),
      rd_law_loose_rows a.c⟩
theorem sc_law_late_sheet : FnScope ["pen", "most", "rows", "i", "size", "way", "some", "parts", "row", "j", "low", "goal", "top", "bottom", "part"] ["pen", "most"] (defScope s_law_late_sheet) := ⟨rfl, rfl, rfl, by decide +kernel, rfl, by decide +kernel, by decide +kernel⟩
theorem ok_law_late_sheet (T : Tx K mg a) : FnOk P w K mg base (L2.CX P w) 4 a.f_law_late_sheet a.d_law_late_sheet ["pen", "most"] (spD K 2 (w_law_late_sheet a.c)) :=
  fnD T.F_law_late_sheet sc_law_late_sheet fun cdv A outer s H E hr => by
    have nd := sc_law_late_sheet.nd
    exact ⟨m_law_late_sheet a.c, dss_cons (ds_asg (dg_tup rfl (pgn_cons 4 nd (pgn_cons 5 nd (.nil)))) (de_tup (dn_cons (de_op od_plus (de_int) (de_call wm_law_draw (ok_law_draw T) (hr.mono (by decide)) (by rfl) T.m_law_draw T.F_law_draw.kp T.b_law_draw passE0 (dn_cons (de_var 0) (dn_cons (de_var 1) (dn_nil))))) (dn_cons (de_call wm_law_draw (ok_law_draw T) (hr.mono (by decide)) (by rfl) T.m_law_draw T.F_law_draw.kp T.b_law_draw passE0 (dn_cons (de_var 0) (dn_cons (de_int) (dn_nil)))) (dn_nil)))))
      (dss_cons (ds_setLcF 2 (own' := [("i", 3)]) rfl nd (di_range1 (by rfl) T.g_range (dn_cons (de_var 4) (dn_nil)).da) (blkOk_by (by kernel_rfl)) (fun _ _ _ _ _ => dg_name 3 nd) (fun _ _ _ _ _ => dts_nil) (fun _ _ _ _ _ => df_op of_rep (de_lst (dn_cons (de_tup (dn_cons (de_int) (dn_cons (de_int) (dn_nil)))) (dn_nil))) (de_var 4)))
      (dss_cons (ds_for PassesOwn.never rfl (di_range1 (by rfl) T.g_range (dn_cons (de_var 4) (dn_nil)).da) (dg_name 3 nd) (dss_one (ds_if (dt_cmp od_lt (de_var 5) (de_int)) (dss_cons (ds_set 6 nd (de_lst (dn_cons (de_tup (dn_cons (de_int) (dn_cons (de_int) (dn_nil)))) (dn_cons (de_tup (dn_cons (de_int) (dn_cons (de_int) (dn_nil)))) (dn_cons (de_tup (dn_cons (de_int) (dn_cons (de_int) (dn_nil)))) (dn_cons (de_tup (dn_cons (de_neg (de_int)) (dn_cons (de_int) (dn_nil)))) (dn_cons (de_tup (dn_cons (de_int) (dn_cons (de_int) (dn_nil)))) (dn_cons (de_tup (dn_cons (de_neg (de_int)) (dn_cons (de_int) (dn_nil)))) (dn_cons (de_tup (dn_cons (de_int) (dn_cons (de_int) (dn_nil)))) (dn_cons (de_tup (dn_cons (de_neg (de_int)) (dn_cons (de_int) (dn_nil)))) (dn_cons (de_tup (dn_cons (de_int) (dn_cons (de_int) (dn_nil)))) (dn_cons (de_tup (dn_cons (de_neg (de_int)) (dn_cons (de_int) (dn_nil)))) (dn_nil)))))))))))))
      (dss_one (ds_asgT (dgt_sub 2 (dp_var 2) (de_var 3)) (de_lc (own' := [("j", 9)]) rfl nd (di_range1 (by rfl) T.g_range (dn_cons (de_var 4) (dn_nil)).da) (blkOk_by (by kernel_rfl)) (fun _ _ _ _ _ => dg_name 9 nd) (fun _ _ _ _ _ => dts_nil) (fun _ _ _ _ _ => de_call wm_law_pick (ok_law_pick T) (hr.mono (by decide)) (by rfl) T.m_law_pick T.F_law_pick.kp T.b_law_pick passE0 (dn_cons (de_var 0) (dn_cons (de_var 6) (dn_nil)))))))) (dss_one (ds_if ((dw_or (dt_cmp (od_eq hr.units) (de_var 5) (de_int)) (dw_or1 (dt_cmp (od_eq hr.units) (de_var 4) (de_int)))).dt) (dss_cons (ds_setLc 7 (own' := [("j", 9)]) rfl nd (di_range1 (by rfl) T.g_range (dn_cons (de_var 4) (dn_nil)).da) (blkOk_by (by kernel_rfl)) (fun _ _ _ _ _ => dg_name 9 nd) (fun _ _ _ _ _ => dts_nil) (fun _ _ _ _ _ => de_call wm_law_draw (ok_law_draw T) (hr.mono (by decide)) (by rfl) T.m_law_draw T.F_law_draw.kp T.b_law_draw passE0 (dn_cons (de_var 0) (dn_cons (de_int) (dn_nil)))))
      (dss_cons (ds_asg (dg_tup rfl (pgn_cons 10 nd (pgn_cons 11 nd (.nil)))) (de_tup (dn_cons (de_callB (cd_max2 rfl) (by rfl) T.g_max bt_max (dn_cons (de_int) (dn_cons (de_callB (cd_sum rfl) (by rfl) T.g_sum bt_sum (dn_cons (de_var 7) (dn_nil)).da) (dn_nil))).da) (dn_cons (de_call wm_law_pick (ok_law_pick T) (hr.mono (by decide)) (by rfl) T.m_law_pick T.F_law_pick.kp T.b_law_pick passE0 (dn_cons (de_var 0) (dn_cons (de_lst (dn_cons (de_tup (dn_cons (de_int) (dn_cons (de_int) (dn_nil)))) (dn_cons (de_tup (dn_cons (de_int) (dn_cons (de_int) (dn_nil)))) (dn_cons (de_tup (dn_cons (de_int) (dn_cons (de_int) (dn_nil)))) (dn_cons (de_tup (dn_cons (de_int) (dn_cons (de_int) (dn_nil)))) (dn_cons (de_tup (dn_cons (de_int) (dn_cons (de_int) (dn_nil)))) (dn_nil))))))) (dn_nil)))) (dn_nil)))))
      (dss_one (ds_asgT (dgt_sub 2 (dp_var 2) (de_var 3)) (de_lc (own' := [("part", 14)]) rfl nd (di_seq (de_var 7)) (blkOk_by (by kernel_rfl)) (fun _ _ _ _ _ => dg_name 14 nd) (fun _ _ _ _ _ => dts_nil) (fun _ _ _ _ _ => de_call wm_law_mul (ok_law_mul T) (hr.mono (by decide)) (by rfl) T.m_law_mul T.F_law_mul.kp T.b_law_mul passE0 (dn_cons (de_var 11) (dn_cons (de_call wm_law_low (ok_law_low T) (hr.mono (by decide)) (by rfl) T.m_law_low T.F_law_low.kp T.b_law_low passE0 (dn_cons (de_op od_times (de_op od_sub (de_int) (de_op od_times (de_int) (de_call wm_law_draw (ok_law_draw T) (hr.mono (by decide)) (by rfl) T.m_law_draw T.F_law_draw.kp T.b_law_draw passE0 (dn_cons (de_var 0) (dn_cons (de_int) (dn_nil)))))) (de_var 14)) (dn_cons (de_var 10) (dn_nil)))) (dn_nil))))))))) (dss_cons (ds_asg (dg_tup rfl (pgn_cons 12 nd (pgn_cons 13 nd (.nil)))) (de_call wm_law_pick (ok_law_pick T) (hr.mono (by decide)) (by rfl) T.m_law_pick T.F_law_pick.kp T.b_law_pick passE0 (dn_cons (de_var 0) (dn_cons (de_lst (dn_cons (de_tup (dn_cons (de_int) (dn_cons (de_int) (dn_nil)))) (dn_cons (de_tup (dn_cons (de_int) (dn_cons (de_int) (dn_nil)))) (dn_cons (de_tup (dn_cons (de_int) (dn_cons (de_int) (dn_nil)))) (dn_cons (de_tup (dn_cons (de_int) (dn_cons (de_int) (dn_nil)))) (dn_cons (de_tup (dn_cons (de_int) (dn_cons (de_int) (dn_nil)))) (dn_cons (de_tup (dn_cons (de_int) (dn_cons (de_int) (dn_nil)))) (dn_nil)))))))) (dn_nil)))))
      (dss_cons (ds_asgT (dgt_sub 2 (dp_ix (dp_var 2) (de_var 3)) (de_op od_mod (de_callTy cd_int (by rfl) T.g_int bt_int (dn_cons (de_op od_plus (de_var 3) (de_int)) (dn_nil)).da) (de_var 4))) (de_tup (dn_cons (de_op od_times (de_op od_sub (de_int) (de_op od_times (de_int) (de_call wm_law_draw (ok_law_draw T) (hr.mono (by decide)) (by rfl) T.m_law_draw T.F_law_draw.kp T.b_law_draw passE0 (dn_cons (de_var 0) (dn_cons (de_int) (dn_nil)))))) (de_var 12)) (dn_cons (de_var 13) (dn_nil)))))
      (dss_one (ds_if ((dw_and (dt_cmp (od_eq hr.units) (de_var 5) (de_int)) (dw_and1 (dt_cmp (od_eq hr.units) (de_call wm_law_draw (ok_law_draw T) (hr.mono (by decide)) (by rfl) T.m_law_draw T.F_law_draw.kp T.b_law_draw passE0 (dn_cons (de_var 0) (dn_cons (de_int) (dn_nil)))) (de_int)))).dt) (dss_one (ds_asgT (dgt_sub 2 (dp_ix (dp_var 2) (de_var 3)) (de_call wm_law_draw (ok_law_draw T) (hr.mono (by decide)) (by rfl) T.m_law_draw T.F_law_draw.kp T.b_law_draw passE0 (dn_cons (de_var 0) (dn_cons (de_var 4) (dn_nil))))) (de_call wm_law_pick (ok_law_pick T) (hr.mono (by decide)) (by rfl) T.m_law_pick T.F_law_pick.kp T.b_law_pick passE0 (dn_cons (de_var 0) (dn_cons (de_lst (dn_cons (de_tup (dn_cons (de_int) (dn_cons (de_int) (dn_nil)))) (dn_cons (de_tup (dn_cons (de_neg (de_int)) (dn_cons (de_int) (dn_nil)))) (dn_cons (de_tup (dn_cons (de_int) (dn_cons (de_int) (dn_nil)))) (dn_cons (de_tup (dn_cons (de_int) (dn_cons (de_int) (dn_nil)))) (dn_nil)))))) (dn_nil)))))) (dss_nil))))))))))
      (dss_one (ds_frz [2] (ds_ret (de_callTy cd_tuple (by rfl) T.g_tuple bt_tuple (dn_cons (de_lc (own' := [("row", 8)]) rfl nd (di_seq (de_var 2)) (blkOk_by (by kernel_rfl)) (fun _ _ _ _ _ => dg_name 8 nd) (fun _ _ _ _ _ => dts_nil) (fun _ _ _ _ _ => de_callTy cd_tuple (by rfl) T.g_tuple bt_tuple (dn_cons (de_var 8) (dn_nil)).da)) (dn_nil)).da)))))),
      rd_law_late_sheet a.c⟩
theorem sc_law_sizes : FnScope ["sheet", "row", "item"] ["sheet"] (defScope s_law_sizes) := ⟨rfl, rfl, rfl, by decide +kernel, rfl, by decide +kernel, by decide +kernel⟩
theorem ok_law_sizes (T : Tx K mg a) : FnOk P w K mg base (L2.CX P w) 1 a.f_law_sizes a.d_law_sizes ["sheet"] (spD K 1 (w_law_sizes a.c)) :=
  fnD T.F_law_sizes sc_law_sizes fun cdv A outer s H E hr => by
    have nd := sc_law_sizes.nd
    exact ⟨m_law_sizes a.c, dss_one (ds_ret (de_callTy cd_tuple (by rfl) T.g_tuple bt_tuple (dn_cons (de_lc (own' := [("row", 1)]) rfl nd (di_seq (de_var 0)) (blkOk_by (by kernel_rfl)) (fun _ _ _ _ _ => dg_name 1 nd) (fun _ _ _ _ _ => dts_nil) (fun _ _ _ _ _ => de_callTy cd_tuple (by rfl) T.g_tuple bt_tuple (dn_cons (de_lc (own' := [("item", 2)]) rfl nd (di_seq (de_var 1)) (blkOk_by (by kernel_rfl)) (fun _ _ _ _ _ => dg_name 2 nd) (fun _ _ _ _ _ => dts_nil) (fun _ _ _ _ _ => de_tup (dn_cons (de_callB cd_abs (by rfl) T.g_abs bt_abs (dn_cons (de_ix (de_var 2) (de_int)) (dn_nil)).da) (dn_cons (de_ix (de_var 2) (de_int)) (dn_nil))))) (dn_nil)).da)) (dn_nil)).da)),
      rd_law_sizes a.c⟩
theorem sc_law_lid_right : FnScope ["sheet", "row", "item", "line", "own"] ["sheet", "row"] (defScope s_law_lid_right) := ⟨rfl, rfl, rfl, by decide +kernel, rfl, by decide +kernel, by decide +kernel⟩
theorem ok_law_lid_right (T : Tx K mg a) : FnOk P w K mg base (L2.CX P w) 4 a.f_law_lid_right a.d_law_lid_right ["sheet", "row"] (spD K 2 (w_law_lid_right a.c)) :=
  fnD T.F_law_lid_right sc_law_lid_right fun cdv A outer s H E hr => by
    have nd := sc_law_lid_right.nd
    exact ⟨m_law_lid_right a.c, dss_cons (ds_if ((dw_or (dt_not (dt_val (de_call wm_law_is_told_row (ok_law_is_told_row T) (hr.mono (by decide)) (by rfl) T.m_law_is_told_row T.F_law_is_told_row.kp T.b_law_is_told_row passE0 (dn_cons (de_var 1) (dn_cons (de_callB cd_len (by rfl) T.g_len bt_len (dn_cons (de_var 0) (dn_nil)).da) (dn_nil)))))) (dw_or1 (dt_val (de_callB (cd_any rfl) (by rfl) T.g_any bt_any (dn_cons (de_lc (own' := [("item", 2)]) rfl nd (di_seq (de_var 1)) (blkOk_by (by kernel_rfl)) (fun _ _ _ _ _ => dg_name 2 nd) (fun _ _ _ _ _ => dts_nil) (fun _ _ _ _ _ => de_cmp od_le (de_ix (de_var 2) (de_int)) (de_int))) (dn_nil)).da)))).dt) (dss_one (ds_ret (de_bl))) (dss_nil))
      (dss_one (ds_ret (de_callB (cd_all rfl) (by rfl) T.g_all bt_all (dn_cons (de_lc (own' := [("line", 3), ("own", 4)]) rfl nd (di_zip (by rfl) T.g_zip (dn_cons (de_call wm_law_sizes (ok_law_sizes T) (hr.mono (by decide)) (by rfl) T.m_law_sizes T.F_law_sizes.kp T.b_law_sizes passE0 (dn_cons (de_var 0) (dn_nil))) (dn_cons (de_var 1) (dn_nil))).da) (blkOk_by (by kernel_rfl)) (fun _ _ _ _ _ => dg_tup rfl (pgn_cons 3 nd (pgn_cons 4 nd (.nil)))) (fun _ _ _ _ _ => dts_nil) (fun _ _ _ _ _ => de_call wm_law_less (ok_law_less T) (hr.mono (by decide)) (by rfl) T.m_law_less T.F_law_less.kp T.b_law_less passE0 (dn_cons (de_call wm_law_dot (ok_law_dot T) (hr.mono (by decide)) (by rfl) T.m_law_dot T.F_law_dot.kp T.b_law_dot passE0 (dn_cons (de_var 3) (dn_cons (de_var 1) (dn_nil)))) (dn_cons (de_var 4) (dn_nil))))) (dn_nil)).da))),
      rd_law_lid_right a.c⟩
theorem sc_law_floor_right : FnScope ["sheet", "row", "wide", "item", "j", "line"] ["sheet", "row"] (defScope s_law_floor_right) := ⟨rfl, rfl, rfl, by decide +kernel, rfl, by decide +kernel, by decide +kernel⟩
theorem ok_law_floor_right (T : Tx K mg a) : FnOk P w K mg base (L2.CX P w) 4 a.f_law_floor_right a.d_law_floor_right ["sheet", "row"] (spD K 2 (w_law_floor_right a.c)) :=
  fnD T.F_law_floor_right sc_law_floor_right fun cdv A outer s H E hr => by
    have nd := sc_law_floor_right.nd
    exact ⟨m_law_floor_right a.c, dss_cons (ds_if ((dw_or (dt_not (dt_val (de_call wm_law_is_told_row (ok_law_is_told_row T) (hr.mono (by decide)) (by rfl) T.m_law_is_told_row T.F_law_is_told_row.kp T.b_law_is_told_row passE0 (dn_cons (de_var 1) (dn_cons (de_callB cd_len (by rfl) T.g_len bt_len (dn_cons (de_var 0) (dn_nil)).da) (dn_nil)))))) (dw_or (dt_val (de_callB (cd_any rfl) (by rfl) T.g_any bt_any (dn_cons (de_lc (own' := [("item", 3)]) rfl nd (di_seq (de_var 1)) (blkOk_by (by kernel_rfl)) (fun _ _ _ _ _ => dg_name 3 nd) (fun _ _ _ _ _ => dts_nil) (fun _ _ _ _ _ => de_cmp od_lt (de_ix (de_var 3) (de_int)) (de_int))) (dn_nil)).da)) (dw_or1 (dt_val (de_callB (cd_all rfl) (by rfl) T.g_all bt_all (dn_cons (de_lc (own' := [("item", 3)]) rfl nd (di_seq (de_var 1)) (blkOk_by (by kernel_rfl)) (fun _ _ _ _ _ => dg_name 3 nd) (fun _ _ _ _ _ => dts_nil) (fun _ _ _ _ _ => de_cmp (od_eq hr.units) (de_ix (de_var 3) (de_int)) (de_int))) (dn_nil)).da))))).dt) (dss_one (ds_ret (de_bl))) (dss_nil))
      (dss_cons (ds_set 2 nd (de_call wm_law_sizes (ok_law_sizes T) (hr.mono (by decide)) (by rfl) T.m_law_sizes T.F_law_sizes.kp T.b_law_sizes passE0 (dn_cons (de_var 0) (dn_nil))))
      (dss_one (ds_ret (de_not (de_callB (cd_any rfl) (by rfl) T.g_any bt_any (dn_cons (de_lc (own' := [("j", 4)]) rfl nd (di_range1 (by rfl) T.g_range (dn_cons (de_callB cd_len (by rfl) T.g_len bt_len (dn_cons (de_var 1) (dn_nil)).da) (dn_nil)).da) (blkOk_by (by kernel_rfl)) (fun _ _ _ _ _ => dg_name 4 nd) (fun _ _ _ _ _ => dts_nil) (fun _ _ _ _ _ => de_call wm_law_less (ok_law_less T) (hr.mono (by decide)) (by rfl) T.m_law_less T.F_law_less.kp T.b_law_less passE0 (dn_cons (de_call wm_law_dot (ok_law_dot T) (hr.mono (by decide)) (by rfl) T.m_law_dot T.F_law_dot.kp T.b_law_dot passE0 (dn_cons (de_var 1) (dn_cons (de_lc (own' := [("line", 5)]) rfl nd (di_seq (de_var 2)) (blkOk_by (by kernel_rfl)) (fun _ _ _ _ _ => dg_name 5 nd) (fun _ _ _ _ _ => dts_nil) (fun _ _ _ _ _ => de_ix (de_var 5) (de_var 4))) (dn_nil)))) (dn_cons (de_ix (de_var 1) (de_var 4)) (dn_nil))))) (dn_nil)).da))))),
      rd_law_floor_right a.c⟩
theorem sc_law_solution : FnScope ["rows", "column", "work", "size", "at", "heads", "head", "k", "by", "row", "item", "one", "two"] ["rows", "column"] (defScope s_law_solution) := ⟨rfl, rfl, rfl, by decide +kernel, rfl, by decide +kernel, by decide +kernel⟩
theorem ok_law_solution (T : Tx K mg a) : FnOk P w K mg base (L2.CX P w) 4 a.f_law_solution a.d_law_solution ["rows", "column"] (spD K 2 (w_law_solution a.c)) :=
  fnD T.F_law_solution sc_law_solution fun cdv A outer s H E hr => by
    have nd := sc_law_solution.nd
    exact ⟨m_law_solution a.c, dss_cons (ds_setF 2 nd (df_lc (own' := [("row", 9), ("item", 10)]) rfl nd (di_zip (by rfl) T.g_zip (dn_cons (de_var 0) (dn_cons (de_var 1) (dn_nil))).da) (blkOk_by (by kernel_rfl)) (fun _ _ _ _ _ => dg_tup rfl (pgn_cons 9 nd (pgn_cons 10 nd (.nil)))) (fun _ _ _ _ _ => dts_nil) (fun _ _ _ _ _ => df_leaf (de_op od_plus (de_callTy cd_list (by rfl) T.g_list bt_list (dn_cons (de_var 9) (dn_nil)).da) (de_lst (dn_cons (de_var 10) (dn_nil)))))))
      (dss_cons (ds_set 3 nd (de_lenO 2 (dp_var 2) (by rfl) T.g_len bt_len))
      (dss_cons (ds_for PassesOwn.never rfl (di_range1 (by rfl) T.g_range (dn_cons (de_var 3) (dn_nil)).da) (dg_name 4 nd) (dss_cons (ds_setLc 5 (own' := [("k", 7)]) rfl nd (di_range2 (by rfl) T.g_range (dn_cons (de_var 4) (dn_cons (de_var 3) (dn_nil))).da) (blkOk_by (by kernel_rfl)) (fun _ _ _ _ _ => dg_name 7 nd) (fun _ _ _ _ _ => dts_one (dt_cmp (od_ne hr.units) (de_ix (de_ix (de_leaf 2 (dp_ix (dp_var 2) (de_var 7))) (de_var 4)) (de_int)) (de_int))) (fun _ _ _ _ _ => de_var 7))
      (dss_cons (ds_if (dt_cmp (od_eq hr.units) (de_var 5) (de_lst (dn_nil))) (dss_one (ds_ret (de_non))) (dss_nil))
      (dss_cons (ds_asgT (dgt_tup rfl (dgs_cons (dgt_sub 2 (dp_var 2) (de_var 4)) (dgs_cons (dgt_sub 2 (dp_var 2) (de_ix (de_var 5) (de_int))) (dgs_nil)))) (de_tup (dn_cons (de_leaf 2 (dp_ix (dp_var 2) (de_ix (de_var 5) (de_int)))) (dn_cons (de_leaf 2 (dp_ix (dp_var 2) (de_var 4))) (dn_nil)))))
      (dss_cons (ds_set 6 nd (de_ix (de_leaf 2 (dp_ix (dp_var 2) (de_var 4))) (de_var 4)))
      (dss_cons (ds_asgT (dgt_sub 2 (dp_var 2) (de_var 4)) (de_lc (own' := [("item", 10)]) rfl nd (di_seq (de_leaf 2 (dp_ix (dp_var 2) (de_var 4)))) (blkOk_by (by kernel_rfl)) (fun _ _ _ _ _ => dg_name 10 nd) (fun _ _ _ _ _ => dts_nil) (fun _ _ _ _ _ => de_call wm_law_div (ok_law_div T) (hr.mono (by decide)) (by rfl) T.m_law_div T.F_law_div.kp T.b_law_div passE0 (dn_cons (de_var 10) (dn_cons (de_var 6) (dn_nil))))))
      (dss_one (ds_for PassesOwn.never rfl (di_range1 (by rfl) T.g_range (dn_cons (de_var 3) (dn_nil)).da) (dg_name 7 nd) (dss_cons (ds_set 8 nd (de_ix (de_leaf 2 (dp_ix (dp_var 2) (de_var 7))) (de_var 4)))
      (dss_one (ds_if ((dw_and (dt_cmp (od_ne hr.units) (de_var 7) (de_var 4)) (dw_and1 (dt_cmp (od_ne hr.units) (de_ix (de_var 8) (de_int)) (de_int)))).dt) (dss_one (ds_asgT (dgt_sub 2 (dp_var 2) (de_var 7)) (de_lc (own' := [("one", 11), ("two", 12)]) rfl nd (di_zip (by rfl) T.g_zip (dn_cons (de_leaf 2 (dp_ix (dp_var 2) (de_var 7))) (dn_cons (de_leaf 2 (dp_ix (dp_var 2) (de_var 4))) (dn_nil))).da) (blkOk_by (by kernel_rfl)) (fun _ _ _ _ _ => dg_tup rfl (pgn_cons 11 nd (pgn_cons 12 nd (.nil)))) (fun _ _ _ _ _ => dts_nil) (fun _ _ _ _ _ => de_call wm_law_sub (ok_law_sub T) (hr.mono (by decide)) (by rfl) T.m_law_sub T.F_law_sub.kp T.b_law_sub passE0 (dn_cons (de_var 11) (dn_cons (de_call wm_law_mul (ok_law_mul T) (hr.mono (by decide)) (by rfl) T.m_law_mul T.F_law_mul.kp T.b_law_mul passE0 (dn_cons (de_var 8) (dn_cons (de_var 12) (dn_nil)))) (dn_nil))))))) (dss_nil))))))))))))
      (dss_one (ds_frz [2] (ds_ret (de_callTy cd_tuple (by rfl) T.g_tuple bt_tuple (dn_cons (de_lc (own' := [("row", 9)]) rfl nd (di_seq (de_var 2)) (blkOk_by (by kernel_rfl)) (fun _ _ _ _ _ => dg_name 9 nd) (fun _ _ _ _ _ => dts_nil) (fun _ _ _ _ _ => de_ix (de_var 9) (de_neg (de_int)))) (dn_nil)).da)))))),
      rd_law_solution a.c⟩
theorem sc_law_own_row : FnScope ["pen", "sheet", "turn", "wide", "rows", "goal", "found", "i", "row", "j", "item"] ["pen", "sheet", "turn"] (defScope s_law_own_row) := ⟨rfl, rfl, rfl, by decide +kernel, rfl, by decide +kernel, by decide +kernel⟩
theorem ok_law_own_row (T : Tx K mg a) : FnOk P w K mg base (L2.CX P w) 5 a.f_law_own_row a.d_law_own_row ["pen", "sheet", "turn"] (spD K 3 (w_law_own_row a.c)) :=
  fnD T.F_law_own_row sc_law_own_row fun cdv A outer s H E hr => by
    have nd := sc_law_own_row.nd
    exact ⟨m_law_own_row a.c, dss_cons (ds_set 3 nd (de_call wm_law_sizes (ok_law_sizes T) (hr.mono (by decide)) (by rfl) T.m_law_sizes T.F_law_sizes.kp T.b_law_sizes passE0 (dn_cons (de_var 1) (dn_nil))))
      (dss_cons (ds_setLc 4 (own' := [("i", 7)]) rfl nd (di_range1 (by rfl) T.g_range (dn_cons (de_callB cd_len (by rfl) T.g_len bt_len (dn_cons (de_var 3) (dn_nil)).da) (dn_nil)).da) (blkOk_by (by kernel_rfl)) (fun _ _ _ _ _ => dg_name 7 nd) (fun _ _ _ _ _ => dts_nil) (fun _ _ _ _ _ => de_lc (own' := [("j", 9)]) rfl nd (di_range1 (by rfl) T.g_range (dn_cons (de_callB cd_len (by rfl) T.g_len bt_len (dn_cons (de_var 3) (dn_nil)).da) (dn_nil)).da) (blkOk_by (by kernel_rfl)) (fun _ _ _ _ _ => dg_name 9 nd) (fun _ _ _ _ _ => dts_nil) (fun _ _ _ _ _ => de_call wm_law_sub (ok_law_sub T) (hr.mono (by decide)) (by rfl) T.m_law_sub T.F_law_sub.kp T.b_law_sub passE0 (dn_cons (de_tup (dn_cons (de_callTy cd_int (by rfl) T.g_int bt_int (dn_cons (de_cmp (od_eq hr.units) (de_var 7) (de_var 9)) (dn_nil)).da) (dn_cons (de_int) (dn_nil)))) (dn_cons (de_ifExp (dt_val (de_var 2)) (de_ix (de_ix (de_var 3) (de_var 9)) (de_var 7)) (de_ix (de_ix (de_var 3) (de_var 7)) (de_var 9))) (dn_nil))))))
      (dss_cons (ds_setLc 5 (own' := [("row", 8)]) rfl nd (di_seq (de_var 4)) (blkOk_by (by kernel_rfl)) (fun _ _ _ _ _ => dg_name 8 nd) (fun _ _ _ _ _ => dts_nil) (fun _ _ _ _ _ => de_call wm_law_pick (ok_law_pick T) (hr.mono (by decide)) (by rfl) T.m_law_pick T.F_law_pick.kp T.b_law_pick passE0 (dn_cons (de_var 0) (dn_cons (de_lst (dn_cons (de_tup (dn_cons (de_int) (dn_cons (de_int) (dn_nil)))) (dn_cons (de_tup (dn_cons (de_int) (dn_cons (de_int) (dn_nil)))) (dn_cons (de_tup (dn_cons (de_int) (dn_cons (de_int) (dn_nil)))) (dn_cons (de_tup (dn_cons (de_int) (dn_cons (de_op od_pow (de_int) (de_int)) (dn_nil)))) (dn_nil)))))) (dn_nil)))))
      (dss_cons (ds_set 6 nd (de_call wm_law_solution (ok_law_solution T) (hr.mono (by decide)) (by rfl) T.m_law_solution T.F_law_solution.kp T.b_law_solution passE0 (dn_cons (de_var 4) (dn_cons (de_var 5) (dn_nil)))))
      (dss_cons (ds_if ((dw_and (dt_notN (de_var 6)) (dw_and1 (dt_val (de_callB (cd_all rfl) (by rfl) T.g_all bt_all (dn_cons (de_lc (own' := [("item", 10)]) rfl nd (di_seq (de_var 6)) (blkOk_by (by kernel_rfl)) (fun _ _ _ _ _ => dg_name 10 nd) (fun _ _ _ _ _ => dts_nil) (fun _ _ _ _ _ => de_cmp od_gt (de_ix (de_var 10) (de_int)) (de_int))) (dn_nil)).da)))).dt) (dss_one (ds_ret (de_var 6))) (dss_nil))
      (dss_one (ds_ret (de_callTy cd_tuple (by rfl) T.g_tuple bt_tuple (dn_cons (de_lc (own' := [("row", 8)]) rfl nd (di_seq (de_var 4)) (blkOk_by (by kernel_rfl)) (fun _ _ _ _ _ => dg_name 8 nd) (fun _ _ _ _ _ => dts_nil) (fun _ _ _ _ _ => de_call wm_law_pick (ok_law_pick T) (hr.mono (by decide)) (by rfl) T.m_law_pick T.F_law_pick.kp T.b_law_pick passE0 (dn_cons (de_var 0) (dn_cons (de_lst (dn_cons (de_tup (dn_cons (de_int) (dn_cons (de_int) (dn_nil)))) (dn_cons (de_tup (dn_cons (de_int) (dn_cons (de_int) (dn_nil)))) (dn_cons (de_tup (dn_cons (de_int) (dn_cons (de_int) (dn_nil)))) (dn_cons (de_tup (dn_cons (de_int) (dn_cons (de_int) (dn_nil)))) (dn_cons (de_tup (dn_cons (de_int) (dn_cons (de_int) (dn_nil)))) (dn_cons (de_tup (dn_cons (de_int) (dn_cons (de_int) (dn_nil)))) (dn_nil)))))))) (dn_nil))))) (dn_nil)).da))))))),
      rd_law_own_row a.c⟩
theorem sc_law_bent : FnScope ["pen", "row", "at", "item", "new"] ["pen", "row"] (defScope s_law_bent) := ⟨rfl, rfl, rfl, by decide +kernel, rfl, by decide +kernel, by decide +kernel⟩
theorem ok_law_bent (T : Tx K mg a) : FnOk P w K mg base (L2.CX P w) 4 a.f_law_bent a.d_law_bent ["pen", "row"] (spD K 2 (w_law_bent a.c)) :=
  fnD T.F_law_bent sc_law_bent fun cdv A outer s H E hr => by
    have nd := sc_law_bent.nd
    exact ⟨m_law_bent a.c, dss_cons (ds_set 2 nd (de_call wm_law_draw (ok_law_draw T) (hr.mono (by decide)) (by rfl) T.m_law_draw T.F_law_draw.kp T.b_law_draw passE0 (dn_cons (de_var 0) (dn_cons (de_callB cd_len (by rfl) T.g_len bt_len (dn_cons (de_var 1) (dn_nil)).da) (dn_nil)))))
      (dss_cons (ds_set 3 nd (de_ix (de_var 1) (de_var 2)))
      (dss_cons (ds_set 4 nd (de_call wm_law_pick (ok_law_pick T) (hr.mono (by decide)) (by rfl) T.m_law_pick T.F_law_pick.kp T.b_law_pick passE0 (dn_cons (de_var 0) (dn_cons (de_lst (dn_cons (de_call wm_law_add (ok_law_add T) (hr.mono (by decide)) (by rfl) T.m_law_add T.F_law_add.kp T.b_law_add passE0 (dn_cons (de_var 3) (dn_cons (de_tup (dn_cons (de_int) (dn_cons (de_op od_pow (de_int) (de_int)) (dn_nil)))) (dn_nil)))) (dn_cons (de_call wm_law_sub (ok_law_sub T) (hr.mono (by decide)) (by rfl) T.m_law_sub T.F_law_sub.kp T.b_law_sub passE0 (dn_cons (de_var 3) (dn_cons (de_tup (dn_cons (de_int) (dn_cons (de_op od_pow (de_int) (de_int)) (dn_nil)))) (dn_nil)))) (dn_cons (de_call wm_law_mul (ok_law_mul T) (hr.mono (by decide)) (by rfl) T.m_law_mul T.F_law_mul.kp T.b_law_mul passE0 (dn_cons (de_var 3) (dn_cons (de_tup (dn_cons (de_int) (dn_cons (de_int) (dn_nil)))) (dn_nil)))) (dn_cons (de_call wm_law_mul (ok_law_mul T) (hr.mono (by decide)) (by rfl) T.m_law_mul T.F_law_mul.kp T.b_law_mul passE0 (dn_cons (de_var 3) (dn_cons (de_tup (dn_cons (de_int) (dn_cons (de_int) (dn_nil)))) (dn_nil)))) (dn_cons (de_tup (dn_cons (de_int) (dn_cons (de_int) (dn_nil)))) (dn_cons (de_tup (dn_cons (de_neg (de_int)) (dn_cons (de_int) (dn_nil)))) (dn_cons (de_tup (dn_cons (de_int) (dn_cons (de_int) (dn_nil)))) (dn_cons (de_tup (dn_cons (de_int) (dn_nil))) (dn_cons (de_non) (dn_cons (de_bl) (dn_cons (de_int) (dn_cons (de_op od_plus (de_var 3) (de_tup (dn_cons (de_int) (dn_nil)))) (dn_nil)))))))))))))) (dn_nil)))))
      (dss_one (ds_ret (de_call wm_law_pick (ok_law_pick T) (hr.mono (by decide)) (by rfl) T.m_law_pick T.F_law_pick.kp T.b_law_pick passE0 (dn_cons (de_var 0) (dn_cons (de_lst (dn_cons (de_op od_plus (de_op od_plus (de_slice (de_var 1) (do_none) (do_some (de_var 2))) (de_tup (dn_cons (de_var 4) (dn_nil)))) (de_slice (de_var 1) (do_some (de_op od_plus (de_var 2) (de_int))) (do_none))) (dn_cons (de_op od_plus (de_op od_plus (de_slice (de_var 1) (do_none) (do_some (de_var 2))) (de_tup (dn_cons (de_var 4) (dn_nil)))) (de_slice (de_var 1) (do_some (de_op od_plus (de_var 2) (de_int))) (do_none))) (dn_cons (de_op od_plus (de_var 1) (de_tup (dn_cons (de_var 3) (dn_nil)))) (dn_cons (de_slice (de_var 1) (do_some (de_int)) (do_none)) (dn_cons (de_callTy cd_list (by rfl) T.g_list bt_list (dn_cons (de_var 1) (dn_nil)).da) (dn_cons (de_non) (dn_cons (de_int) (dn_cons (de_revT (de_var 1)) (dn_cons (de_tup (dn_nil)) (dn_nil))))))))))) (dn_nil)))))))),
      rd_law_bent a.c⟩
theorem sc_law : FnScope ["script", "pen", "sheet", "size", "lap", "odd", "rest", "unit", "offers", "offer", "own", "turned", "first", "second", "told_v", "beside", "j", "spare", "item"] ["script"] (defScope s_law) := ⟨rfl, rfl, rfl, by decide +kernel, rfl, by decide +kernel, by decide +kernel⟩
theorem ok_law (T : Tx K mg a) : FnOk P w K mg base (L2.CX P w) 10 a.f_law a.d_law ["script"] (spLaw K) :=
  fnLaw T.F_law sc_law (by decide) fun cdv A outer s H E hr => by
    have nd := sc_law.nd
    exact ⟨_, _, m_law a.c, rfl, ps_set (i := 1) nd rfl (by first | exact Or.inl rfl | exact Or.inr rfl) (pe_call (ok_law_pen T) (hr.mono (by decide)) (by rfl) T.m_law_pen T.F_law_pen.kp T.b_law_pen .nil passE0 (pa_cons (pv 0) pa_nil)),
      dss_cons (ds_set 2 nd (de_call wm_law_late_sheet (ok_law_late_sheet T) (hr.mono (by decide)) (by rfl) T.m_law_late_sheet T.F_law_late_sheet.kp T.b_law_late_sheet passE0 (dn_cons (de_var 1) (dn_cons (de_int) (dn_nil)))))
      (dss_cons (ds_set 3 nd (de_callB cd_len (by rfl) T.g_len bt_len (dn_cons (de_var 2) (dn_nil)).da))
      (dss_cons (ds_for PassesOwn.never rfl (di_range1 (by rfl) T.g_range (dn_cons (de_int) (dn_nil)).da) (dg_name 4 nd) (dss_cons (ds_asg (dg_tup rfl (pgn_cons 10 nd (pgn_cons 11 nd (.nil)))) (de_tup (dn_cons (de_call wm_law_own_row (ok_law_own_row T) (hr.mono (by decide)) (by rfl) T.m_law_own_row T.F_law_own_row.kp T.b_law_own_row passE0 (dn_cons (de_var 1) (dn_cons (de_var 2) (dn_cons (de_bl) (dn_nil))))) (dn_cons (de_call wm_law_own_row (ok_law_own_row T) (hr.mono (by decide)) (by rfl) T.m_law_own_row T.F_law_own_row.kp T.b_law_own_row passE0 (dn_cons (de_var 1) (dn_cons (de_var 2) (dn_cons (de_bl) (dn_nil))))) (dn_nil)))))
      (dss_cons (ds_set 6 nd (de_callTy cd_tuple (by rfl) T.g_tuple bt_tuple (dn_cons (de_op od_times (de_lst (dn_cons (de_tup (dn_cons (de_int) (dn_cons (de_int) (dn_nil)))) (dn_nil))) (de_var 3)) (dn_nil)).da))
      (dss_cons (ds_set 7 nd (de_callTy cd_tuple (by rfl) T.g_tuple bt_tuple (dn_cons (de_lc (own' := [("j", 16)]) rfl nd (di_range1 (by rfl) T.g_range (dn_cons (de_var 3) (dn_nil)).da) (blkOk_by (by kernel_rfl)) (fun _ _ _ _ _ => dg_name 16 nd) (fun _ _ _ _ _ => dts_nil) (fun _ _ _ _ _ => de_tup (dn_cons (de_callTy cd_int (by rfl) T.g_int bt_int (dn_cons (de_cmp (od_eq hr.units) (de_var 16) (de_call wm_law_draw (ok_law_draw T) (hr.mono (by decide)) (by rfl) T.m_law_draw T.F_law_draw.kp T.b_law_draw passE0 (dn_cons (de_var 1) (dn_cons (de_var 3) (dn_nil))))) (dn_nil)).da) (dn_cons (de_int) (dn_nil))))) (dn_nil)).da))
      (dss_cons (ds_set 8 nd (de_lst (dn_cons (de_var 10) (dn_cons (de_var 11) (dn_cons (de_var 6) (dn_cons (de_var 7) (dn_cons (de_callTy cd_tuple (by rfl) T.g_tuple bt_tuple (dn_cons (de_op od_times (de_lst (dn_cons (de_tup (dn_cons (de_int) (dn_cons (de_int) (dn_nil)))) (dn_nil))) (de_var 3)) (dn_nil)).da) (dn_cons (de_callTy cd_tuple (by rfl) T.g_tuple bt_tuple (dn_cons (de_lc (own' := [("item", 18)]) rfl nd (di_seq (de_var 10)) (blkOk_by (by kernel_rfl)) (fun _ _ _ _ _ => dg_name 18 nd) (fun _ _ _ _ _ => dts_nil) (fun _ _ _ _ _ => de_call wm_law_mul (ok_law_mul T) (hr.mono (by decide)) (by rfl) T.m_law_mul T.F_law_mul.kp T.b_law_mul passE0 (dn_cons (de_tup (dn_cons (de_int) (dn_cons (de_int) (dn_nil)))) (dn_cons (de_var 18) (dn_nil))))) (dn_nil)).da) (dn_nil)))))))))
      (dss_cons (ds_set 8 nd (de_op od_plus (de_var 8) (de_lc (own' := [("spare", 17)]) rfl nd (di_range1 (by rfl) T.g_range (dn_cons (de_int) (dn_nil)).da) (blkOk_by (by kernel_rfl)) (fun _ _ _ _ _ => dg_name 17 nd) (fun _ _ _ _ _ => dts_nil) (fun _ _ _ _ _ => de_call wm_law_bent (ok_law_bent T) (hr.mono (by decide)) (by rfl) T.m_law_bent T.F_law_bent.kp T.b_law_bent passE0 (dn_cons (de_var 1) (dn_cons (de_call wm_law_pick (ok_law_pick T) (hr.mono (by decide)) (by rfl) T.m_law_pick T.F_law_pick.kp T.b_law_pick passE0 (dn_cons (de_var 1) (dn_cons (de_lst (dn_cons (de_var 10) (dn_cons (de_var 11) (dn_cons (de_var 6) (dn_nil))))) (dn_nil)))) (dn_nil)))))))
      (dss_one (ds_for PassesOwn.never rfl (di_seq (de_var 8)) (dg_name 9 nd) (dss_cons (ds_par 12 13 rfl nd (dn_cons (de_make (wm_Lid_init) T.mk_Lid (ok_Lid_init T) (hr.mono (by decide)) (by rfl) T.m_Lid T.b_Lid_init passE0 (dn_cons (de_var 9) (dn_nil))) (dn_cons (de_make (wm_Floor_init) T.mk_Floor (ok_Floor_init T) (hr.mono (by decide)) (by rfl) T.m_Floor T.b_Floor_init passE0 (dn_cons (de_var 9) (dn_nil))) (dn_nil))).da)
      (dss_cons (ds_par 14 15 rfl nd (dn_cons (de_call wm_lid_holds (ok_lid_holds T) (hr.mono (by decide)) (by rfl) T.m_lid_holds T.F_lid_holds.kp T.b_lid_holds passE0 (dn_cons (de_var 2) (dn_cons (de_var 12) (dn_nil)))) (dn_cons (de_call wm_floor_holds (ok_floor_holds T) (hr.mono (by decide)) (by rfl) T.m_floor_holds T.F_floor_holds.kp T.b_floor_holds passE0 (dn_cons (de_call wm_law_loose_rows (ok_law_loose_rows T) (hr.mono (by decide)) (by rfl) T.m_law_loose_rows T.F_law_loose_rows.kp T.b_law_loose_rows passE0 (dn_cons (de_var 1) (dn_cons (de_var 2) (dn_nil)))) (dn_cons (de_var 13) (dn_nil)))) (dn_nil))).da)
      (dss_cons (ds_if ((dw_or (dt_cmp (od_ne hr.units) (de_var 14) (de_call wm_law_lid_right (ok_law_lid_right T) (hr.mono (by decide)) (by rfl) T.m_law_lid_right T.F_law_lid_right.kp T.b_law_lid_right passE0 (dn_cons (de_var 2) (dn_cons (de_fld (de_var 12) T.cl_Lid T.n_Lid_row) (dn_nil))))) (dw_or1 (dt_not (dt_val (de_callB (cd_isi1 T.isi) (by rfl) T.g_isinstance bt_isinstance (dn_cons (de_var 14) (dn_cons (de_ty (by rfl) T.g_bool bt_bool) (dn_nil))).da))))).dt) (dss_one (ds_ret (de_bl))) (dss_nil))
      (dss_cons (ds_if ((dw_or (dt_cmp (od_ne hr.units) (de_var 15) (de_call wm_law_floor_right (ok_law_floor_right T) (hr.mono (by decide)) (by rfl) T.m_law_floor_right T.F_law_floor_right.kp T.b_law_floor_right passE0 (dn_cons (de_var 2) (dn_cons (de_fld (de_var 13) T.cl_Floor T.n_Floor_row) (dn_nil))))) (dw_or1 (dt_not (dt_val (de_callB (cd_isi1 T.isi) (by rfl) T.g_isinstance bt_isinstance (dn_cons (de_var 15) (dn_cons (de_ty (by rfl) T.g_bool bt_bool) (dn_nil))).da))))).dt) (dss_one (ds_ret (de_bl))) (dss_nil))
      (dss_one (ds_if ((dw_or (dt_val (de_call wm_lid_holds (ok_lid_holds T) (hr.mono (by decide)) (by rfl) T.m_lid_holds T.F_lid_holds.kp T.b_lid_holds passE0 (dn_cons (de_var 2) (dn_cons (de_var 13) (dn_nil))))) (dw_or1 (dt_val (de_call wm_floor_holds (ok_floor_holds T) (hr.mono (by decide)) (by rfl) T.m_floor_holds T.F_floor_holds.kp T.b_floor_holds passE0 (dn_cons (de_var 2) (dn_cons (de_var 12) (dn_nil))))))).dt) (dss_one (ds_ret (de_bl))) (dss_nil)))))))))))))))
      (dss_cons (ds_for PassesOwn.never rfl (di_seq (de_lst (dn_cons (de_non) (dn_cons (de_int) (dn_cons (de_tup (dn_nil)) (dn_cons (de_var 6) (dn_cons (de_str) (dn_cons (de_dic1 (de_int)) (dn_cons (de_make (wm_Lid_init) T.mk_Lid (ok_Lid_init T) (hr.mono (by decide)) (by rfl) T.m_Lid T.b_Lid_init passE0 (dn_cons (de_non) (dn_nil))) (dn_cons (de_make (wm_Floor_init) T.mk_Floor (ok_Floor_init T) (hr.mono (by decide)) (by rfl) T.m_Floor T.b_Floor_init passE0 (dn_cons (de_non) (dn_nil))) (dn_cons (de_make (wm_Lid_init) T.mk_Lid (ok_Lid_init T) (hr.mono (by decide)) (by rfl) T.m_Lid T.b_Lid_init passE0 (dn_cons (de_op od_times (de_tup (dn_cons (de_tup (dn_cons (de_int) (dn_cons (de_int) (dn_nil)))) (dn_nil))) (de_op od_plus (de_var 3) (de_int))) (dn_nil))) (dn_nil)))))))))))) (dg_name 5 nd) (dss_one (ds_if ((dw_or (dt_val (de_call wm_lid_holds (ok_lid_holds T) (hr.mono (by decide)) (by rfl) T.m_lid_holds T.F_lid_holds.kp T.b_lid_holds passE0 (dn_cons (de_var 2) (dn_cons (de_var 5) (dn_nil))))) (dw_or1 (dt_val (de_call wm_floor_holds (ok_floor_holds T) (hr.mono (by decide)) (by rfl) T.m_floor_holds T.F_floor_holds.kp T.b_floor_holds passE0 (dn_cons (de_var 2) (dn_cons (de_var 5) (dn_nil))))))).dt) (dss_one (ds_ret (de_bl))) (dss_nil))))
      (dss_cons (ds_if ((dw_or (dt_ownNe (wm_Lid_eq) (ok_Lid_eq T) T.eq_Lid T.b_Lid_eq passE0 (hr.mono (by decide)) (de_make (wm_Lid_init) T.mk_Lid (ok_Lid_init T) (hr.mono (by decide)) (by rfl) T.m_Lid T.b_Lid_init passE0 (dn_cons (de_lst (dn_cons (de_lst (dn_cons (de_int) (dn_cons (de_int) (dn_nil)))) (dn_nil))) (dn_nil))) (de_make (wm_Lid_init) T.mk_Lid (ok_Lid_init T) (hr.mono (by decide)) (by rfl) T.m_Lid T.b_Lid_init passE0 (dn_cons (de_tup (dn_cons (de_tup (dn_cons (de_int) (dn_cons (de_int) (dn_nil)))) (dn_nil))) (dn_nil)))) (dw_or (dt_ownEq (wm_Lid_eq) (ok_Lid_eq T) T.eq_Lid T.b_Lid_eq passE0 (hr.mono (by decide)) (de_make (wm_Lid_init) T.mk_Lid (ok_Lid_init T) (hr.mono (by decide)) (by rfl) T.m_Lid T.b_Lid_init passE0 (dn_cons (de_tup (dn_cons (de_int) (dn_nil))) (dn_nil))) (de_make (wm_Lid_init) T.mk_Lid (ok_Lid_init T) (hr.mono (by decide)) (by rfl) T.m_Lid T.b_Lid_init passE0 (dn_cons (de_tup (dn_cons (de_int) (dn_nil))) (dn_nil)))) (dw_or (dt_ownNe (wm_Floor_eq) (ok_Floor_eq T) T.eq_Floor T.b_Floor_eq passE0 (hr.mono (by decide)) (de_make (wm_Floor_init) T.mk_Floor (ok_Floor_init T) (hr.mono (by decide)) (by rfl) T.m_Floor T.b_Floor_init passE0 (dn_cons (de_lst (dn_cons (de_int) (dn_nil))) (dn_nil))) (de_make (wm_Floor_init) T.mk_Floor (ok_Floor_init T) (hr.mono (by decide)) (by rfl) T.m_Floor T.b_Floor_init passE0 (dn_cons (de_tup (dn_cons (de_int) (dn_nil))) (dn_nil)))) (dw_or1 (dt_ownEq (wm_Floor_eq) (ok_Floor_eq T) T.eq_Floor T.b_Floor_eq passE0 (hr.mono (by decide)) (de_make (wm_Floor_init) T.mk_Floor (ok_Floor_init T) (hr.mono (by decide)) (by rfl) T.m_Floor T.b_Floor_init passE0 (dn_cons (de_tup (dn_cons (de_int) (dn_nil))) (dn_nil))) (de_make (wm_Floor_init) T.mk_Floor (ok_Floor_init T) (hr.mono (by decide)) (by rfl) T.m_Floor T.b_Floor_init passE0 (dn_cons (de_tup (dn_cons (de_int) (dn_nil))) (dn_nil)))))))).dt) (dss_one (ds_ret (de_bl))) (dss_nil))
      (dss_one (ds_ret (de_and (de_ownNe (wm_Lid_eq) (ok_Lid_eq T) T.eq_Lid T.b_Lid_eq passE0 (hr.mono (by decide)) (de_make (wm_Lid_init) T.mk_Lid (ok_Lid_init T) (hr.mono (by decide)) (by rfl) T.m_Lid T.b_Lid_init passE0 (dn_cons (de_tup (dn_cons (de_int) (dn_nil))) (dn_nil))) (de_make (wm_Floor_init) T.mk_Floor (ok_Floor_init T) (hr.mono (by decide)) (by rfl) T.m_Floor T.b_Floor_init passE0 (dn_cons (de_tup (dn_cons (de_int) (dn_nil))) (dn_nil)))) (de_one (de_cmp (od_eq hr.units) (de_fld (de_make (wm_Lid_init) T.mk_Lid (ok_Lid_init T) (hr.mono (by decide)) (by rfl) T.m_Lid T.b_Lid_init passE0 (dn_cons (de_lst (dn_cons (de_lst (dn_cons (de_int) (dn_cons (de_int) (dn_nil)))) (dn_nil))) (dn_nil))) T.cl_Lid T.n_Lid_row) (de_tup (dn_cons (de_tup (dn_cons (de_int) (dn_cons (de_int) (dn_nil)))) (dn_nil)))))))))))),
      rd_law a.c T.ok⟩
end
theorem all_mk {l : PySem.W.OpenLaw} {w : World} {K : PySem.W.Frag} {h : Heap} {mg : Str → Option Value} {fa C_Lid C_Floor f_is_whole f_is_ratio f_is_told f_lowest f_told f_rless f_is_row f_is_sheet f_sheet_told f_dot_raw f_column_raw f_row_raw f_square_told f_frozen f_Lid_init f_Lid_eq f_Floor_init f_Floor_eq f_size_of f_sizes_raw f_is_lid f_lid_holds f_floor_holds f_law_pen f_law_draw f_law_pick f_law_is_int f_law_gcd f_law_low f_law_add f_law_sub f_law_mul f_law_div f_law_less f_law_is_pair f_law_is_told_row f_law_dot f_law_loose f_law_loose_rows f_law_late_sheet f_law_sizes f_law_lid_right f_law_floor_right f_law_solution f_law_own_row f_law_bent f_law : Addr} (X : K.In h) (G : h.Ns mainGlobals mg) (hfa : mg "law" = some (.ref fa))
    {od_is_whole an_is_whole : Option Addr} {sl_is_whole : Array (Option Value)} {oc_is_whole kV_is_whole dc_is_whole pm_is_whole cd_is_whole ct_is_whole : Value}
    {od_is_ratio an_is_ratio : Option Addr} {sl_is_ratio : Array (Option Value)} {oc_is_ratio kV_is_ratio dc_is_ratio pm_is_ratio cd_is_ratio ct_is_ratio : Value}
    {od_is_told an_is_told : Option Addr} {sl_is_told : Array (Option Value)} {oc_is_told kV_is_told dc_is_told pm_is_told cd_is_told ct_is_told : Value}
    {od_lowest an_lowest : Option Addr} {sl_lowest : Array (Option Value)} {oc_lowest kV_lowest dc_lowest pm_lowest cd_lowest ct_lowest : Value}
    {od_told an_told : Option Addr} {sl_told : Array (Option Value)} {oc_told kV_told dc_told pm_told cd_told ct_told : Value}
    {od_rless an_rless : Option Addr} {sl_rless : Array (Option Value)} {oc_rless kV_rless dc_rless pm_rless cd_rless ct_rless : Value}
    {od_is_row an_is_row : Option Addr} {sl_is_row : Array (Option Value)} {oc_is_row kV_is_row dc_is_row pm_is_row cd_is_row ct_is_row : Value}
    {od_is_sheet an_is_sheet : Option Addr} {sl_is_sheet : Array (Option Value)} {oc_is_sheet kV_is_sheet dc_is_sheet pm_is_sheet cd_is_sheet ct_is_sheet : Value}
    {od_sheet_told an_sheet_told : Option Addr} {sl_sheet_told : Array (Option Value)} {oc_sheet_told kV_sheet_told dc_sheet_told pm_sheet_told cd_sheet_told ct_sheet_told : Value}
    {od_dot_raw an_dot_raw : Option Addr} {sl_dot_raw : Array (Option Value)} {oc_dot_raw kV_dot_raw dc_dot_raw pm_dot_raw cd_dot_raw ct_dot_raw : Value}
    {od_column_raw an_column_raw : Option Addr} {sl_column_raw : Array (Option Value)} {oc_column_raw kV_column_raw dc_column_raw pm_column_raw cd_column_raw ct_column_raw : Value}
    {od_row_raw an_row_raw : Option Addr} {sl_row_raw : Array (Option Value)} {oc_row_raw kV_row_raw dc_row_raw pm_row_raw cd_row_raw ct_row_raw : Value}
    {od_square_told an_square_told : Option Addr} {sl_square_told : Array (Option Value)} {oc_square_told kV_square_told dc_square_told pm_square_told cd_square_told ct_square_told : Value}
    {od_frozen an_frozen : Option Addr} {sl_frozen : Array (Option Value)} {oc_frozen kV_frozen dc_frozen pm_frozen cd_frozen ct_frozen : Value}
    {od_Lid_init an_Lid_init : Option Addr} {sl_Lid_init : Array (Option Value)} {oc_Lid_init kV_Lid_init dc_Lid_init pm_Lid_init cd_Lid_init ct_Lid_init : Value}
    {od_Lid_eq an_Lid_eq : Option Addr} {sl_Lid_eq : Array (Option Value)} {oc_Lid_eq kV_Lid_eq dc_Lid_eq pm_Lid_eq cd_Lid_eq ct_Lid_eq : Value}
    {od_Floor_init an_Floor_init : Option Addr} {sl_Floor_init : Array (Option Value)} {oc_Floor_init kV_Floor_init dc_Floor_init pm_Floor_init cd_Floor_init ct_Floor_init : Value}
    {od_Floor_eq an_Floor_eq : Option Addr} {sl_Floor_eq : Array (Option Value)} {oc_Floor_eq kV_Floor_eq dc_Floor_eq pm_Floor_eq cd_Floor_eq ct_Floor_eq : Value}
    {od_size_of an_size_of : Option Addr} {sl_size_of : Array (Option Value)} {oc_size_of kV_size_of dc_size_of pm_size_of cd_size_of ct_size_of : Value}
    {od_sizes_raw an_sizes_raw : Option Addr} {sl_sizes_raw : Array (Option Value)} {oc_sizes_raw kV_sizes_raw dc_sizes_raw pm_sizes_raw cd_sizes_raw ct_sizes_raw : Value}
    {od_is_lid an_is_lid : Option Addr} {sl_is_lid : Array (Option Value)} {oc_is_lid kV_is_lid dc_is_lid pm_is_lid cd_is_lid ct_is_lid : Value}
    {od_lid_holds an_lid_holds : Option Addr} {sl_lid_holds : Array (Option Value)} {oc_lid_holds kV_lid_holds dc_lid_holds pm_lid_holds cd_lid_holds ct_lid_holds : Value}
    {od_floor_holds an_floor_holds : Option Addr} {sl_floor_holds : Array (Option Value)} {oc_floor_holds kV_floor_holds dc_floor_holds pm_floor_holds cd_floor_holds ct_floor_holds : Value}
    {od_law_pen an_law_pen : Option Addr} {sl_law_pen : Array (Option Value)} {oc_law_pen kV_law_pen dc_law_pen pm_law_pen cd_law_pen ct_law_pen : Value}
    {od_law_draw an_law_draw : Option Addr} {sl_law_draw : Array (Option Value)} {oc_law_draw kV_law_draw dc_law_draw pm_law_draw cd_law_draw ct_law_draw : Value}
    {od_law_pick an_law_pick : Option Addr} {sl_law_pick : Array (Option Value)} {oc_law_pick kV_law_pick dc_law_pick pm_law_pick cd_law_pick ct_law_pick : Value}
    {od_law_is_int an_law_is_int : Option Addr} {sl_law_is_int : Array (Option Value)} {oc_law_is_int kV_law_is_int dc_law_is_int pm_law_is_int cd_law_is_int ct_law_is_int : Value}
    {od_law_gcd an_law_gcd : Option Addr} {sl_law_gcd : Array (Option Value)} {oc_law_gcd kV_law_gcd dc_law_gcd pm_law_gcd cd_law_gcd ct_law_gcd : Value}
    {od_law_low an_law_low : Option Addr} {sl_law_low : Array (Option Value)} {oc_law_low kV_law_low dc_law_low pm_law_low cd_law_low ct_law_low : Value}
    {od_law_add an_law_add : Option Addr} {sl_law_add : Array (Option Value)} {oc_law_add kV_law_add dc_law_add pm_law_add cd_law_add ct_law_add : Value}
    {od_law_sub an_law_sub : Option Addr} {sl_law_sub : Array (Option Value)} {oc_law_sub kV_law_sub dc_law_sub pm_law_sub cd_law_sub ct_law_sub : Value}
    {od_law_mul an_law_mul : Option Addr} {sl_law_mul : Array (Option Value)} {oc_law_mul kV_law_mul dc_law_mul pm_law_mul cd_law_mul ct_law_mul : Value}
    {od_law_div an_law_div : Option Addr} {sl_law_div : Array (Option Value)} {oc_law_div kV_law_div dc_law_div pm_law_div cd_law_div ct_law_div : Value}
    {od_law_less an_law_less : Option Addr} {sl_law_less : Array (Option Value)} {oc_law_less kV_law_less dc_law_less pm_law_less cd_law_less ct_law_less : Value}
    {od_law_is_pair an_law_is_pair : Option Addr} {sl_law_is_pair : Array (Option Value)} {oc_law_is_pair kV_law_is_pair dc_law_is_pair pm_law_is_pair cd_law_is_pair ct_law_is_pair : Value}
    {od_law_is_told_row an_law_is_told_row : Option Addr} {sl_law_is_told_row : Array (Option Value)} {oc_law_is_told_row kV_law_is_told_row dc_law_is_told_row pm_law_is_told_row cd_law_is_told_row ct_law_is_told_row : Value}
    {od_law_dot an_law_dot : Option Addr} {sl_law_dot : Array (Option Value)} {oc_law_dot kV_law_dot dc_law_dot pm_law_dot cd_law_dot ct_law_dot : Value}
    {od_law_loose an_law_loose : Option Addr} {sl_law_loose : Array (Option Value)} {oc_law_loose kV_law_loose dc_law_loose pm_law_loose cd_law_loose ct_law_loose : Value}
    {od_law_loose_rows an_law_loose_rows : Option Addr} {sl_law_loose_rows : Array (Option Value)} {oc_law_loose_rows kV_law_loose_rows dc_law_loose_rows pm_law_loose_rows cd_law_loose_rows ct_law_loose_rows : Value}
    {od_law_late_sheet an_law_late_sheet : Option Addr} {sl_law_late_sheet : Array (Option Value)} {oc_law_late_sheet kV_law_late_sheet dc_law_late_sheet pm_law_late_sheet cd_law_late_sheet ct_law_late_sheet : Value}
    {od_law_sizes an_law_sizes : Option Addr} {sl_law_sizes : Array (Option Value)} {oc_law_sizes kV_law_sizes dc_law_sizes pm_law_sizes cd_law_sizes ct_law_sizes : Value}
    {od_law_lid_right an_law_lid_right : Option Addr} {sl_law_lid_right : Array (Option Value)} {oc_law_lid_right kV_law_lid_right dc_law_lid_right pm_law_lid_right cd_law_lid_right ct_law_lid_right : Value}
    {od_law_floor_right an_law_floor_right : Option Addr} {sl_law_floor_right : Array (Option Value)} {oc_law_floor_right kV_law_floor_right dc_law_floor_right pm_law_floor_right cd_law_floor_right ct_law_floor_right : Value}
    {od_law_solution an_law_solution : Option Addr} {sl_law_solution : Array (Option Value)} {oc_law_solution kV_law_solution dc_law_solution pm_law_solution cd_law_solution ct_law_solution : Value}
    {od_law_own_row an_law_own_row : Option Addr} {sl_law_own_row : Array (Option Value)} {oc_law_own_row kV_law_own_row dc_law_own_row pm_law_own_row cd_law_own_row ct_law_own_row : Value}
    {od_law_bent an_law_bent : Option Addr} {sl_law_bent : Array (Option Value)} {oc_law_bent kV_law_bent dc_law_bent pm_law_bent cd_law_bent ct_law_bent : Value}
    {od_law an_law : Option Addr} {sl_law : Array (Option Value)} {oc_law kV_law dc_law pm_law cd_law ct_law : Value}
    (aC_Lid : PySem.W.nsIn K mainGlobals "Lid" = some (some (.ref C_Lid)))
    (aC_Floor : PySem.W.nsIn K mainGlobals "Floor" = some (some (.ref C_Floor)))
    (a_is_whole : PySem.W.nsIn K mainGlobals "is_whole" = some (some (.ref f_is_whole)))
    (l_is_whole : K.lookup f_is_whole = some ⟨oc_is_whole, od_is_whole, .func (PySem.W.fnOf "is_whole" "is_whole" (defArgs s_is_whole) (defBody s_is_whole) (defScope s_is_whole) .none kV_is_whole dc_is_whole pm_is_whole an_is_whole cd_is_whole ct_is_whole), sl_is_whole⟩)
    (c_is_whole : PySem.W.codeIn K cd_is_whole "is_whole" = true)
    (k_is_whole : PySem.W.keepIn K (.ref f_is_whole) = true)
    (a_is_ratio : PySem.W.nsIn K mainGlobals "is_ratio" = some (some (.ref f_is_ratio)))
    (l_is_ratio : K.lookup f_is_ratio = some ⟨oc_is_ratio, od_is_ratio, .func (PySem.W.fnOf "is_ratio" "is_ratio" (defArgs s_is_ratio) (defBody s_is_ratio) (defScope s_is_ratio) .none kV_is_ratio dc_is_ratio pm_is_ratio an_is_ratio cd_is_ratio ct_is_ratio), sl_is_ratio⟩)
    (c_is_ratio : PySem.W.codeIn K cd_is_ratio "is_ratio" = true)
    (k_is_ratio : PySem.W.keepIn K (.ref f_is_ratio) = true)
    (a_is_told : PySem.W.nsIn K mainGlobals "is_told" = some (some (.ref f_is_told)))
    (l_is_told : K.lookup f_is_told = some ⟨oc_is_told, od_is_told, .func (PySem.W.fnOf "is_told" "is_told" (defArgs s_is_told) (defBody s_is_told) (defScope s_is_told) .none kV_is_told dc_is_told pm_is_told an_is_told cd_is_told ct_is_told), sl_is_told⟩)
    (c_is_told : PySem.W.codeIn K cd_is_told "is_told" = true)
    (k_is_told : PySem.W.keepIn K (.ref f_is_told) = true)
    (a_lowest : PySem.W.nsIn K mainGlobals "lowest" = some (some (.ref f_lowest)))
    (l_lowest : K.lookup f_lowest = some ⟨oc_lowest, od_lowest, .func (PySem.W.fnOf "lowest" "lowest" (defArgs s_lowest) (defBody s_lowest) (defScope s_lowest) .none kV_lowest dc_lowest pm_lowest an_lowest cd_lowest ct_lowest), sl_lowest⟩)
    (c_lowest : PySem.W.codeIn K cd_lowest "lowest" = true)
    (k_lowest : PySem.W.keepIn K (.ref f_lowest) = true)
    (a_told : PySem.W.nsIn K mainGlobals "told" = some (some (.ref f_told)))
    (l_told : K.lookup f_told = some ⟨oc_told, od_told, .func (PySem.W.fnOf "told" "told" (defArgs s_told) (defBody s_told) (defScope s_told) .none kV_told dc_told pm_told an_told cd_told ct_told), sl_told⟩)
    (c_told : PySem.W.codeIn K cd_told "told" = true)
    (k_told : PySem.W.keepIn K (.ref f_told) = true)
    (a_rless : PySem.W.nsIn K mainGlobals "rless" = some (some (.ref f_rless)))
    (l_rless : K.lookup f_rless = some ⟨oc_rless, od_rless, .func (PySem.W.fnOf "rless" "rless" (defArgs s_rless) (defBody s_rless) (defScope s_rless) .none kV_rless dc_rless pm_rless an_rless cd_rless ct_rless), sl_rless⟩)
    (c_rless : PySem.W.codeIn K cd_rless "rless" = true)
    (k_rless : PySem.W.keepIn K (.ref f_rless) = true)
    (a_is_row : PySem.W.nsIn K mainGlobals "is_row" = some (some (.ref f_is_row)))
    (l_is_row : K.lookup f_is_row = some ⟨oc_is_row, od_is_row, .func (PySem.W.fnOf "is_row" "is_row" (defArgs s_is_row) (defBody s_is_row) (defScope s_is_row) .none kV_is_row dc_is_row pm_is_row an_is_row cd_is_row ct_is_row), sl_is_row⟩)
    (c_is_row : PySem.W.codeIn K cd_is_row "is_row" = true)
    (k_is_row : PySem.W.keepIn K (.ref f_is_row) = true)
    (a_is_sheet : PySem.W.nsIn K mainGlobals "is_sheet" = some (some (.ref f_is_sheet)))
    (l_is_sheet : K.lookup f_is_sheet = some ⟨oc_is_sheet, od_is_sheet, .func (PySem.W.fnOf "is_sheet" "is_sheet" (defArgs s_is_sheet) (defBody s_is_sheet) (defScope s_is_sheet) .none kV_is_sheet dc_is_sheet pm_is_sheet an_is_sheet cd_is_sheet ct_is_sheet), sl_is_sheet⟩)
    (c_is_sheet : PySem.W.codeIn K cd_is_sheet "is_sheet" = true)
    (k_is_sheet : PySem.W.keepIn K (.ref f_is_sheet) = true)
    (a_sheet_told : PySem.W.nsIn K mainGlobals "sheet_told" = some (some (.ref f_sheet_told)))
    (l_sheet_told : K.lookup f_sheet_told = some ⟨oc_sheet_told, od_sheet_told, .func (PySem.W.fnOf "sheet_told" "sheet_told" (defArgs s_sheet_told) (defBody s_sheet_told) (defScope s_sheet_told) .none kV_sheet_told dc_sheet_told pm_sheet_told an_sheet_told cd_sheet_told ct_sheet_told), sl_sheet_told⟩)
    (c_sheet_told : PySem.W.codeIn K cd_sheet_told "sheet_told" = true)
    (k_sheet_told : PySem.W.keepIn K (.ref f_sheet_told) = true)
    (a_dot_raw : PySem.W.nsIn K mainGlobals "dot_raw" = some (some (.ref f_dot_raw)))
    (l_dot_raw : K.lookup f_dot_raw = some ⟨oc_dot_raw, od_dot_raw, .func (PySem.W.fnOf "dot_raw" "dot_raw" (defArgs s_dot_raw) (defBody s_dot_raw) (defScope s_dot_raw) .none kV_dot_raw dc_dot_raw pm_dot_raw an_dot_raw cd_dot_raw ct_dot_raw), sl_dot_raw⟩)
    (c_dot_raw : PySem.W.codeIn K cd_dot_raw "dot_raw" = true)
    (k_dot_raw : PySem.W.keepIn K (.ref f_dot_raw) = true)
    (a_column_raw : PySem.W.nsIn K mainGlobals "column_raw" = some (some (.ref f_column_raw)))
    (l_column_raw : K.lookup f_column_raw = some ⟨oc_column_raw, od_column_raw, .func (PySem.W.fnOf "column_raw" "column_raw" (defArgs s_column_raw) (defBody s_column_raw) (defScope s_column_raw) .none kV_column_raw dc_column_raw pm_column_raw an_column_raw cd_column_raw ct_column_raw), sl_column_raw⟩)
    (c_column_raw : PySem.W.codeIn K cd_column_raw "column_raw" = true)
    (k_column_raw : PySem.W.keepIn K (.ref f_column_raw) = true)
    (a_row_raw : PySem.W.nsIn K mainGlobals "row_raw" = some (some (.ref f_row_raw)))
    (l_row_raw : K.lookup f_row_raw = some ⟨oc_row_raw, od_row_raw, .func (PySem.W.fnOf "row_raw" "row_raw" (defArgs s_row_raw) (defBody s_row_raw) (defScope s_row_raw) .none kV_row_raw dc_row_raw pm_row_raw an_row_raw cd_row_raw ct_row_raw), sl_row_raw⟩)
    (c_row_raw : PySem.W.codeIn K cd_row_raw "row_raw" = true)
    (k_row_raw : PySem.W.keepIn K (.ref f_row_raw) = true)
    (a_square_told : PySem.W.nsIn K mainGlobals "square_told" = some (some (.ref f_square_told)))
    (l_square_told : K.lookup f_square_told = some ⟨oc_square_told, od_square_told, .func (PySem.W.fnOf "square_told" "square_told" (defArgs s_square_told) (defBody s_square_told) (defScope s_square_told) .none kV_square_told dc_square_told pm_square_told an_square_told cd_square_told ct_square_told), sl_square_told⟩)
    (c_square_told : PySem.W.codeIn K cd_square_told "square_told" = true)
    (k_square_told : PySem.W.keepIn K (.ref f_square_told) = true)
    (a_frozen : PySem.W.nsIn K mainGlobals "frozen" = some (some (.ref f_frozen)))
    (l_frozen : K.lookup f_frozen = some ⟨oc_frozen, od_frozen, .func (PySem.W.fnOf "frozen" "frozen" (defArgs s_frozen) (defBody s_frozen) (defScope s_frozen) .none kV_frozen dc_frozen pm_frozen an_frozen cd_frozen ct_frozen), sl_frozen⟩)
    (c_frozen : PySem.W.codeIn K cd_frozen "frozen" = true)
    (k_frozen : PySem.W.keepIn K (.ref f_frozen) = true)
    (a_Lid_init : PySem.W.findIn K (.ref C_Lid) "__init__" = some (some (.ref f_Lid_init)))
    (i_Lid_init : PySem.W.isFn K (.ref f_Lid_init) = true)
    (l_Lid_init : K.lookup f_Lid_init = some ⟨oc_Lid_init, od_Lid_init, .func (PySem.W.fnOf "__init__" "Lid.__init__" (defArgs s_Lid_init) (defBody s_Lid_init) (defScope s_Lid_init) .none kV_Lid_init dc_Lid_init pm_Lid_init an_Lid_init cd_Lid_init ct_Lid_init), sl_Lid_init⟩)
    (c_Lid_init : PySem.W.codeIn K cd_Lid_init "Lid.__init__" = true)
    (k_Lid_init : PySem.W.keepIn K (.ref f_Lid_init) = true)
    (a_Lid_eq : PySem.W.findIn K (.ref C_Lid) "__eq__" = some (some (.ref f_Lid_eq)))
    (i_Lid_eq : PySem.W.isFn K (.ref f_Lid_eq) = true)
    (l_Lid_eq : K.lookup f_Lid_eq = some ⟨oc_Lid_eq, od_Lid_eq, .func (PySem.W.fnOf "__eq__" "Lid.__eq__" (defArgs s_Lid_eq) (defBody s_Lid_eq) (defScope s_Lid_eq) .none kV_Lid_eq dc_Lid_eq pm_Lid_eq an_Lid_eq cd_Lid_eq ct_Lid_eq), sl_Lid_eq⟩)
    (c_Lid_eq : PySem.W.codeIn K cd_Lid_eq "Lid.__eq__" = true)
    (k_Lid_eq : PySem.W.keepIn K (.ref f_Lid_eq) = true)
    (a_Floor_init : PySem.W.findIn K (.ref C_Floor) "__init__" = some (some (.ref f_Floor_init)))
    (i_Floor_init : PySem.W.isFn K (.ref f_Floor_init) = true)
    (l_Floor_init : K.lookup f_Floor_init = some ⟨oc_Floor_init, od_Floor_init, .func (PySem.W.fnOf "__init__" "Floor.__init__" (defArgs s_Floor_init) (defBody s_Floor_init) (defScope s_Floor_init) .none kV_Floor_init dc_Floor_init pm_Floor_init an_Floor_init cd_Floor_init ct_Floor_init), sl_Floor_init⟩)
    (c_Floor_init : PySem.W.codeIn K cd_Floor_init "Floor.__init__" = true)
    (k_Floor_init : PySem.W.keepIn K (.ref f_Floor_init) = true)
    (a_Floor_eq : PySem.W.findIn K (.ref C_Floor) "__eq__" = some (some (.ref f_Floor_eq)))
    (i_Floor_eq : PySem.W.isFn K (.ref f_Floor_eq) = true)
    (l_Floor_eq : K.lookup f_Floor_eq = some ⟨oc_Floor_eq, od_Floor_eq, .func (PySem.W.fnOf "__eq__" "Floor.__eq__" (defArgs s_Floor_eq) (defBody s_Floor_eq) (defScope s_Floor_eq) .none kV_Floor_eq dc_Floor_eq pm_Floor_eq an_Floor_eq cd_Floor_eq ct_Floor_eq), sl_Floor_eq⟩)
    (c_Floor_eq : PySem.W.codeIn K cd_Floor_eq "Floor.__eq__" = true)
    (k_Floor_eq : PySem.W.keepIn K (.ref f_Floor_eq) = true)
    (a_size_of : PySem.W.nsIn K mainGlobals "size_of" = some (some (.ref f_size_of)))
    (l_size_of : K.lookup f_size_of = some ⟨oc_size_of, od_size_of, .func (PySem.W.fnOf "size_of" "size_of" (defArgs s_size_of) (defBody s_size_of) (defScope s_size_of) .none kV_size_of dc_size_of pm_size_of an_size_of cd_size_of ct_size_of), sl_size_of⟩)
    (c_size_of : PySem.W.codeIn K cd_size_of "size_of" = true)
    (k_size_of : PySem.W.keepIn K (.ref f_size_of) = true)
    (a_sizes_raw : PySem.W.nsIn K mainGlobals "sizes_raw" = some (some (.ref f_sizes_raw)))
    (l_sizes_raw : K.lookup f_sizes_raw = some ⟨oc_sizes_raw, od_sizes_raw, .func (PySem.W.fnOf "sizes_raw" "sizes_raw" (defArgs s_sizes_raw) (defBody s_sizes_raw) (defScope s_sizes_raw) .none kV_sizes_raw dc_sizes_raw pm_sizes_raw an_sizes_raw cd_sizes_raw ct_sizes_raw), sl_sizes_raw⟩)
    (c_sizes_raw : PySem.W.codeIn K cd_sizes_raw "sizes_raw" = true)
    (k_sizes_raw : PySem.W.keepIn K (.ref f_sizes_raw) = true)
    (a_is_lid : PySem.W.nsIn K mainGlobals "is_lid" = some (some (.ref f_is_lid)))
    (l_is_lid : K.lookup f_is_lid = some ⟨oc_is_lid, od_is_lid, .func (PySem.W.fnOf "is_lid" "is_lid" (defArgs s_is_lid) (defBody s_is_lid) (defScope s_is_lid) .none kV_is_lid dc_is_lid pm_is_lid an_is_lid cd_is_lid ct_is_lid), sl_is_lid⟩)
    (c_is_lid : PySem.W.codeIn K cd_is_lid "is_lid" = true)
    (k_is_lid : PySem.W.keepIn K (.ref f_is_lid) = true)
    (a_lid_holds : PySem.W.nsIn K mainGlobals "lid_holds" = some (some (.ref f_lid_holds)))
    (l_lid_holds : K.lookup f_lid_holds = some ⟨oc_lid_holds, od_lid_holds, .func (PySem.W.fnOf "lid_holds" "lid_holds" (defArgs s_lid_holds) (defBody s_lid_holds) (defScope s_lid_holds) .none kV_lid_holds dc_lid_holds pm_lid_holds an_lid_holds cd_lid_holds ct_lid_holds), sl_lid_holds⟩)
    (c_lid_holds : PySem.W.codeIn K cd_lid_holds "lid_holds" = true)
    (k_lid_holds : PySem.W.keepIn K (.ref f_lid_holds) = true)
    (a_floor_holds : PySem.W.nsIn K mainGlobals "floor_holds" = some (some (.ref f_floor_holds)))
    (l_floor_holds : K.lookup f_floor_holds = some ⟨oc_floor_holds, od_floor_holds, .func (PySem.W.fnOf "floor_holds" "floor_holds" (defArgs s_floor_holds) (defBody s_floor_holds) (defScope s_floor_holds) .none kV_floor_holds dc_floor_holds pm_floor_holds an_floor_holds cd_floor_holds ct_floor_holds), sl_floor_holds⟩)
    (c_floor_holds : PySem.W.codeIn K cd_floor_holds "floor_holds" = true)
    (k_floor_holds : PySem.W.keepIn K (.ref f_floor_holds) = true)
    (a_law_pen : PySem.W.nsIn K mainGlobals "_law_pen" = some (some (.ref f_law_pen)))
    (l_law_pen : K.lookup f_law_pen = some ⟨oc_law_pen, od_law_pen, .func (PySem.W.fnOf "_law_pen" "_law_pen" (defArgs s_law_pen) (defBody s_law_pen) (defScope s_law_pen) .none kV_law_pen dc_law_pen pm_law_pen an_law_pen cd_law_pen ct_law_pen), sl_law_pen⟩)
    (c_law_pen : PySem.W.codeIn K cd_law_pen "_law_pen" = true)
    (k_law_pen : PySem.W.keepIn K (.ref f_law_pen) = true)
    (a_law_draw : PySem.W.nsIn K mainGlobals "_law_draw" = some (some (.ref f_law_draw)))
    (l_law_draw : K.lookup f_law_draw = some ⟨oc_law_draw, od_law_draw, .func (PySem.W.fnOf "_law_draw" "_law_draw" (defArgs s_law_draw) (defBody s_law_draw) (defScope s_law_draw) .none kV_law_draw dc_law_draw pm_law_draw an_law_draw cd_law_draw ct_law_draw), sl_law_draw⟩)
    (c_law_draw : PySem.W.codeIn K cd_law_draw "_law_draw" = true)
    (k_law_draw : PySem.W.keepIn K (.ref f_law_draw) = true)
    (a_law_pick : PySem.W.nsIn K mainGlobals "_law_pick" = some (some (.ref f_law_pick)))
    (l_law_pick : K.lookup f_law_pick = some ⟨oc_law_pick, od_law_pick, .func (PySem.W.fnOf "_law_pick" "_law_pick" (defArgs s_law_pick) (defBody s_law_pick) (defScope s_law_pick) .none kV_law_pick dc_law_pick pm_law_pick an_law_pick cd_law_pick ct_law_pick), sl_law_pick⟩)
    (c_law_pick : PySem.W.codeIn K cd_law_pick "_law_pick" = true)
    (k_law_pick : PySem.W.keepIn K (.ref f_law_pick) = true)
    (a_law_is_int : PySem.W.nsIn K mainGlobals "_law_is_int" = some (some (.ref f_law_is_int)))
    (l_law_is_int : K.lookup f_law_is_int = some ⟨oc_law_is_int, od_law_is_int, .func (PySem.W.fnOf "_law_is_int" "_law_is_int" (defArgs s_law_is_int) (defBody s_law_is_int) (defScope s_law_is_int) .none kV_law_is_int dc_law_is_int pm_law_is_int an_law_is_int cd_law_is_int ct_law_is_int), sl_law_is_int⟩)
    (c_law_is_int : PySem.W.codeIn K cd_law_is_int "_law_is_int" = true)
    (k_law_is_int : PySem.W.keepIn K (.ref f_law_is_int) = true)
    (a_law_gcd : PySem.W.nsIn K mainGlobals "_law_gcd" = some (some (.ref f_law_gcd)))
    (l_law_gcd : K.lookup f_law_gcd = some ⟨oc_law_gcd, od_law_gcd, .func (PySem.W.fnOf "_law_gcd" "_law_gcd" (defArgs s_law_gcd) (defBody s_law_gcd) (defScope s_law_gcd) .none kV_law_gcd dc_law_gcd pm_law_gcd an_law_gcd cd_law_gcd ct_law_gcd), sl_law_gcd⟩)
    (c_law_gcd : PySem.W.codeIn K cd_law_gcd "_law_gcd" = true)
    (k_law_gcd : PySem.W.keepIn K (.ref f_law_gcd) = true)
    (a_law_low : PySem.W.nsIn K mainGlobals "_law_low" = some (some (.ref f_law_low)))
    (l_law_low : K.lookup f_law_low = some ⟨oc_law_low, od_law_low, .func (PySem.W.fnOf "_law_low" "_law_low" (defArgs s_law_low) (defBody s_law_low) (defScope s_law_low) .none kV_law_low dc_law_low pm_law_low an_law_low cd_law_low ct_law_low), sl_law_low⟩)
    (c_law_low : PySem.W.codeIn K cd_law_low "_law_low" = true)
    (k_law_low : PySem.W.keepIn K (.ref f_law_low) = true)
    (a_law_add : PySem.W.nsIn K mainGlobals "_law_add" = some (some (.ref f_law_add)))
    (l_law_add : K.lookup f_law_add = some ⟨oc_law_add, od_law_add, .func (PySem.W.fnOf "_law_add" "_law_add" (defArgs s_law_add) (defBody s_law_add) (defScope s_law_add) .none kV_law_add dc_law_add pm_law_add an_law_add cd_law_add ct_law_add), sl_law_add⟩)
    (c_law_add : PySem.W.codeIn K cd_law_add "_law_add" = true)
    (k_law_add : PySem.W.keepIn K (.ref f_law_add) = true)
    (a_law_sub : PySem.W.nsIn K mainGlobals "_law_sub" = some (some (.ref f_law_sub)))
    (l_law_sub : K.lookup f_law_sub = some ⟨oc_law_sub, od_law_sub, .func (PySem.W.fnOf "_law_sub" "_law_sub" (defArgs s_law_sub) (defBody s_law_sub) (defScope s_law_sub) .none kV_law_sub dc_law_sub pm_law_sub an_law_sub cd_law_sub ct_law_sub), sl_law_sub⟩)
    (c_law_sub : PySem.W.codeIn K cd_law_sub "_law_sub" = true)
    (k_law_sub : PySem.W.keepIn K (.ref f_law_sub) = true)
    (a_law_mul : PySem.W.nsIn K mainGlobals "_law_mul" = some (some (.ref f_law_mul)))
    (l_law_mul : K.lookup f_law_mul = some ⟨oc_law_mul, od_law_mul, .func (PySem.W.fnOf "_law_mul" "_law_mul" (defArgs s_law_mul) (defBody s_law_mul) (defScope s_law_mul) .none kV_law_mul dc_law_mul pm_law_mul an_law_mul cd_law_mul ct_law_mul), sl_law_mul⟩)
    (c_law_mul : PySem.W.codeIn K cd_law_mul "_law_mul" = true)
    (k_law_mul : PySem.W.keepIn K (.ref f_law_mul) = true)
    (a_law_div : PySem.W.nsIn K mainGlobals "_law_div" = some (some (.ref f_law_div)))
    (l_law_div : K.lookup f_law_div = some ⟨oc_law_div, od_law_div, .func (PySem.W.fnOf "_law_div" "_law_div" (defArgs s_law_div) (defBody s_law_div) (defScope s_law_div) .none kV_law_div dc_law_div pm_law_div an_law_div cd_law_div ct_law_div), sl_law_div⟩)
    (c_law_div : PySem.W.codeIn K cd_law_div "_law_div" = true)
    (k_law_div : PySem.W.keepIn K (.ref f_law_div) = true)
    (a_law_less : PySem.W.nsIn K mainGlobals "_law_less" = some (some (.ref f_law_less)))
    (l_law_less : K.lookup f_law_less = some ⟨oc_law_less, od_law_less, .func (PySem.W.fnOf "_law_less" "_law_less" (defArgs s_law_less) (defBody s_law_less) (defScope s_law_less) .none kV_law_less dc_law_less pm_law_less an_law_less cd_law_less ct_law_less), sl_law_less⟩)
    (c_law_less : PySem.W.codeIn K cd_law_less "_law_less" = true)
    (k_law_less : PySem.W.keepIn K (.ref f_law_less) = true)
    (a_law_is_pair : PySem.W.nsIn K mainGlobals "_law_is_pair" = some (some (.ref f_law_is_pair)))
    (l_law_is_pair : K.lookup f_law_is_pair = some ⟨oc_law_is_pair, od_law_is_pair, .func (PySem.W.fnOf "_law_is_pair" "_law_is_pair" (defArgs s_law_is_pair) (defBody s_law_is_pair) (defScope s_law_is_pair) .none kV_law_is_pair dc_law_is_pair pm_law_is_pair an_law_is_pair cd_law_is_pair ct_law_is_pair), sl_law_is_pair⟩)
    (c_law_is_pair : PySem.W.codeIn K cd_law_is_pair "_law_is_pair" = true)
    (k_law_is_pair : PySem.W.keepIn K (.ref f_law_is_pair) = true)
    (a_law_is_told_row : PySem.W.nsIn K mainGlobals "_law_is_told_row" = some (some (.ref f_law_is_told_row)))
    (l_law_is_told_row : K.lookup f_law_is_told_row = some ⟨oc_law_is_told_row, od_law_is_told_row, .func (PySem.W.fnOf "_law_is_told_row" "_law_is_told_row" (defArgs s_law_is_told_row) (defBody s_law_is_told_row) (defScope s_law_is_told_row) .none kV_law_is_told_row dc_law_is_told_row pm_law_is_told_row an_law_is_told_row cd_law_is_told_row ct_law_is_told_row), sl_law_is_told_row⟩)
    (c_law_is_told_row : PySem.W.codeIn K cd_law_is_told_row "_law_is_told_row" = true)
    (k_law_is_told_row : PySem.W.keepIn K (.ref f_law_is_told_row) = true)
    (a_law_dot : PySem.W.nsIn K mainGlobals "_law_dot" = some (some (.ref f_law_dot)))
    (l_law_dot : K.lookup f_law_dot = some ⟨oc_law_dot, od_law_dot, .func (PySem.W.fnOf "_law_dot" "_law_dot" (defArgs s_law_dot) (defBody s_law_dot) (defScope s_law_dot) .none kV_law_dot dc_law_dot pm_law_dot an_law_dot cd_law_dot ct_law_dot), sl_law_dot⟩)
    (c_law_dot : PySem.W.codeIn K cd_law_dot "_law_dot" = true)
    (k_law_dot : PySem.W.keepIn K (.ref f_law_dot) = true)
    (a_law_loose : PySem.W.nsIn K mainGlobals "_law_loose" = some (some (.ref f_law_loose)))
    (l_law_loose : K.lookup f_law_loose = some ⟨oc_law_loose, od_law_loose, .func (PySem.W.fnOf "_law_loose" "_law_loose" (defArgs s_law_loose) (defBody s_law_loose) (defScope s_law_loose) .none kV_law_loose dc_law_loose pm_law_loose an_law_loose cd_law_loose ct_law_loose), sl_law_loose⟩)
    (c_law_loose : PySem.W.codeIn K cd_law_loose "_law_loose" = true)
    (k_law_loose : PySem.W.keepIn K (.ref f_law_loose) = true)
    (a_law_loose_rows : PySem.W.nsIn K mainGlobals "_law_loose_rows" = some (some (.ref f_law_loose_rows)))
    (l_law_loose_rows : K.lookup f_law_loose_rows = some ⟨oc_law_loose_rows, od_law_loose_rows, .func (PySem.W.fnOf "_law_loose_rows" "_law_loose_rows" (defArgs s_law_loose_rows) (defBody s_law_loose_rows) (defScope s_law_loose_rows) .none kV_law_loose_rows dc_law_loose_rows pm_law_loose_rows an_law_loose_rows cd_law_loose_rows ct_law_loose_rows), sl_law_loose_rows⟩)
    (c_law_loose_rows : PySem.W.codeIn K cd_law_loose_rows "_law_loose_rows" = true)
    (k_law_loose_rows : PySem.W.keepIn K (.ref f_law_loose_rows) = true)
    (a_law_late_sheet : PySem.W.nsIn K mainGlobals "_law_late_sheet" = some (some (.ref f_law_late_sheet)))
    (l_law_late_sheet : K.lookup f_law_late_sheet = some ⟨oc_law_late_sheet, od_law_late_sheet, .func (PySem.W.fnOf "_law_late_sheet" "_law_late_sheet" (defArgs s_law_late_sheet) (defBody s_law_late_sheet) (defScope s_law_late_sheet) .none kV_law_late_sheet dc_law_late_sheet pm_law_late_sheet an_law_late_sheet cd_law_late_sheet ct_law_late_sheet), sl_law_late_sheet⟩)
    (c_law_late_sheet : PySem.W.codeIn K cd_law_late_sheet "_law_late_sheet" = true)
    (k_law_late_sheet : PySem.W.keepIn K (.ref f_law_late_sheet) = true)
    (a_law_sizes : PySem.W.nsIn K mainGlobals "_law_sizes" = some (some (.ref f_law_sizes)))
    (l_law_sizes : K.lookup f_law_sizes = some ⟨oc_law_sizes, od_law_sizes, .func (PySem.W.fnOf "_law_sizes" "_law_sizes" (defArgs s_law_sizes) (defBody s_law_sizes) (defScope s_law_sizes) .none kV_law_sizes dc_law_sizes pm_law_sizes an_law_sizes cd_law_sizes ct_law_sizes), sl_law_sizes⟩)
    (c_law_sizes : PySem.W.codeIn K cd_law_sizes "_law_sizes" = true)
    (k_law_sizes : PySem.W.keepIn K (.ref f_law_sizes) = true)
    (a_law_lid_right : PySem.W.nsIn K mainGlobals "_law_lid_right" = some (some (.ref f_law_lid_right)))
    (l_law_lid_right : K.lookup f_law_lid_right = some ⟨oc_law_lid_right, od_law_lid_right, .func (PySem.W.fnOf "_law_lid_right" "_law_lid_right" (defArgs s_law_lid_right) (defBody s_law_lid_right) (defScope s_law_lid_right) .none kV_law_lid_right dc_law_lid_right pm_law_lid_right an_law_lid_right cd_law_lid_right ct_law_lid_right), sl_law_lid_right⟩)
    (c_law_lid_right : PySem.W.codeIn K cd_law_lid_right "_law_lid_right" = true)
    (k_law_lid_right : PySem.W.keepIn K (.ref f_law_lid_right) = true)
    (a_law_floor_right : PySem.W.nsIn K mainGlobals "_law_floor_right" = some (some (.ref f_law_floor_right)))
    (l_law_floor_right : K.lookup f_law_floor_right = some ⟨oc_law_floor_right, od_law_floor_right, .func (PySem.W.fnOf "_law_floor_right" "_law_floor_right" (defArgs s_law_floor_right) (defBody s_law_floor_right) (defScope s_law_floor_right) .none kV_law_floor_right dc_law_floor_right pm_law_floor_right an_law_floor_right cd_law_floor_right ct_law_floor_right), sl_law_floor_right⟩)
    (c_law_floor_right : PySem.W.codeIn K cd_law_floor_right "_law_floor_right" = true)
    (k_law_floor_right : PySem.W.keepIn K (.ref f_law_floor_right) = true)
    (a_law_solution : PySem.W.nsIn K mainGlobals "_law_solution" = some (some (.ref f_law_solution)))
    (l_law_solution : K.lookup f_law_solution = some ⟨oc_law_solution, od_law_solution, .func (PySem.W.fnOf "_law_solution" "_law_solution" (defArgs s_law_solution) (defBody s_law_solution) (defScope s_law_solution) .none kV_law_solution dc_law_solution pm_law_solution an_law_solution cd_law_solution ct_law_solution), sl_law_solution⟩)
    (c_law_solution : PySem.W.codeIn K cd_law_solution "_law_solution" = true)
    (k_law_solution : PySem.W.keepIn K (.ref f_law_solution) = true)
    (a_law_own_row : PySem.W.nsIn K mainGlobals "_law_own_row" = some (some (.ref f_law_own_row)))
    (l_law_own_row : K.lookup f_law_own_row = some ⟨oc_law_own_row, od_law_own_row, .func (PySem.W.fnOf "_law_own_row" "_law_own_row" (defArgs s_law_own_row) (defBody s_law_own_row) (defScope s_law_own_row) .none kV_law_own_row dc_law_own_row pm_law_own_row an_law_own_row cd_law_own_row ct_law_own_row), sl_law_own_row⟩)
    (c_law_own_row : PySem.W.codeIn K cd_law_own_row "_law_own_row" = true)
    (k_law_own_row : PySem.W.keepIn K (.ref f_law_own_row) = true)
    (a_law_bent : PySem.W.nsIn K mainGlobals "_law_bent" = some (some (.ref f_law_bent)))
    (l_law_bent : K.lookup f_law_bent = some ⟨oc_law_bent, od_law_bent, .func (PySem.W.fnOf "_law_bent" "_law_bent" (defArgs s_law_bent) (defBody s_law_bent) (defScope s_law_bent) .none kV_law_bent dc_law_bent pm_law_bent an_law_bent cd_law_bent ct_law_bent), sl_law_bent⟩)
    (c_law_bent : PySem.W.codeIn K cd_law_bent "_law_bent" = true)
    (k_law_bent : PySem.W.keepIn K (.ref f_law_bent) = true)
    (a_law : PySem.W.nsIn K mainGlobals "law" = some (some (.ref f_law)))
    (l_law : K.lookup f_law = some ⟨oc_law, od_law, .func (PySem.W.fnOf "law" "law" (defArgs s_law) (defBody s_law) (defScope s_law) .none kV_law dc_law pm_law an_law cd_law ct_law), sl_law⟩)
    (c_law : PySem.W.codeIn K cd_law "law" = true)
    (k_law : PySem.W.keepIn K (.ref f_law) = true)
    (pg_Lid : PySem.W.plainGet K C_Lid Str.empty = true)
    (hd_Lid : PySem.W.hasDictIn K C_Lid = true)
    (po_Lid : PySem.W.plainOver K C_Lid = true)
    (sa_Lid : PySem.W.findIn K (.ref C_Lid) "__setattr__" = some (some (.builtin "object.__setattr__")))
    (ha_Lid : PySem.W.findIn K (.ref C_Lid) "__class__" = some (some (.builtin "object.__class__")))
    (hm_Lid : PySem.W.mroIn K C_Lid (.type "object") = some true)
    (ms_Lid : PySem.W.makesIn K C_Lid = true)
    (kc_Lid : PySem.W.keepIn K (.ref C_Lid) = true)
    (n_Lid_row : PySem.W.findIn K (.ref C_Lid) "row" = some none)
    (ne_Lid : PySem.W.findIn K (.ref C_Lid) "__ne__" = some (some (.builtin "object.__ne__")))
    (oo_Lid_Lid : PySem.W.kitOne K (.ref C_Lid) (.ref C_Lid) = some true)
    (nf_Lid_Lid : PySem.W.notFirst K C_Lid (.ref C_Lid) = true)
    (oo_Lid_Floor : PySem.W.kitOne K (.ref C_Lid) (.ref C_Floor) = some false)
    (nf_Lid_Floor : PySem.W.notFirst K C_Lid (.ref C_Floor) = true)
    (ob_Lid_bool : PySem.W.kitOne K (.ref C_Lid) (.type "bool") = some false)
    (ob_Lid_int : PySem.W.kitOne K (.ref C_Lid) (.type "int") = some false)
    (ob_Lid_str : PySem.W.kitOne K (.ref C_Lid) (.type "str") = some false)
    (ob_Lid_tuple : PySem.W.kitOne K (.ref C_Lid) (.type "tuple") = some false)
    (ob_Lid_list : PySem.W.kitOne K (.ref C_Lid) (.type "list") = some false)
    (ob_Lid_dict : PySem.W.kitOne K (.ref C_Lid) (.type "dict") = some false)
    (bo_NoneType_Lid : PySem.W.kitOne K (.type "NoneType") (.ref C_Lid) = some false)
    (bo_bool_Lid : PySem.W.kitOne K (.type "bool") (.ref C_Lid) = some false)
    (bo_int_Lid : PySem.W.kitOne K (.type "int") (.ref C_Lid) = some false)
    (bo_str_Lid : PySem.W.kitOne K (.type "str") (.ref C_Lid) = some false)
    (bo_tuple_Lid : PySem.W.kitOne K (.type "tuple") (.ref C_Lid) = some false)
    (bo_list_Lid : PySem.W.kitOne K (.type "list") (.ref C_Lid) = some false)
    (bo_dict_Lid : PySem.W.kitOne K (.type "dict") (.ref C_Lid) = some false)
    (pg_Floor : PySem.W.plainGet K C_Floor Str.empty = true)
    (hd_Floor : PySem.W.hasDictIn K C_Floor = true)
    (po_Floor : PySem.W.plainOver K C_Floor = true)
    (sa_Floor : PySem.W.findIn K (.ref C_Floor) "__setattr__" = some (some (.builtin "object.__setattr__")))
    (ha_Floor : PySem.W.findIn K (.ref C_Floor) "__class__" = some (some (.builtin "object.__class__")))
    (hm_Floor : PySem.W.mroIn K C_Floor (.type "object") = some true)
    (ms_Floor : PySem.W.makesIn K C_Floor = true)
    (kc_Floor : PySem.W.keepIn K (.ref C_Floor) = true)
    (n_Floor_row : PySem.W.findIn K (.ref C_Floor) "row" = some none)
    (ne_Floor : PySem.W.findIn K (.ref C_Floor) "__ne__" = some (some (.builtin "object.__ne__")))
    (oo_Floor_Lid : PySem.W.kitOne K (.ref C_Floor) (.ref C_Lid) = some false)
    (nf_Floor_Lid : PySem.W.notFirst K C_Floor (.ref C_Lid) = true)
    (oo_Floor_Floor : PySem.W.kitOne K (.ref C_Floor) (.ref C_Floor) = some true)
    (nf_Floor_Floor : PySem.W.notFirst K C_Floor (.ref C_Floor) = true)
    (ob_Floor_bool : PySem.W.kitOne K (.ref C_Floor) (.type "bool") = some false)
    (ob_Floor_int : PySem.W.kitOne K (.ref C_Floor) (.type "int") = some false)
    (ob_Floor_str : PySem.W.kitOne K (.ref C_Floor) (.type "str") = some false)
    (ob_Floor_tuple : PySem.W.kitOne K (.ref C_Floor) (.type "tuple") = some false)
    (ob_Floor_list : PySem.W.kitOne K (.ref C_Floor) (.type "list") = some false)
    (ob_Floor_dict : PySem.W.kitOne K (.ref C_Floor) (.type "dict") = some false)
    (bo_NoneType_Floor : PySem.W.kitOne K (.type "NoneType") (.ref C_Floor) = some false)
    (bo_bool_Floor : PySem.W.kitOne K (.type "bool") (.ref C_Floor) = some false)
    (bo_int_Floor : PySem.W.kitOne K (.type "int") (.ref C_Floor) = some false)
    (bo_str_Floor : PySem.W.kitOne K (.type "str") (.ref C_Floor) = some false)
    (bo_tuple_Floor : PySem.W.kitOne K (.type "tuple") (.ref C_Floor) = some false)
    (bo_list_Floor : PySem.W.kitOne K (.type "list") (.ref C_Floor) = some false)
    (bo_dict_Floor : PySem.W.kitOne K (.type "dict") (.ref C_Floor) = some false)
    (d_Lid_Floor : decide (C_Lid = C_Floor) = false)
    (hn_ : PySem.W.specialIn K (.builtin "object.__class__") "__get__" = some (some (.builtin "getset_descriptor.__get__")))
    (ht_ : PySem.W.takesIn K (.builtin "object.__class__") = some true)
    (zg_abs : PySem.W.nsIn K mainGlobals "abs" = some none)
    (zg_all : PySem.W.nsIn K mainGlobals "all" = some none)
    (zg_any : PySem.W.nsIn K mainGlobals "any" = some none)
    (zg_bool : PySem.W.nsIn K mainGlobals "bool" = some none)
    (zg_int : PySem.W.nsIn K mainGlobals "int" = some none)
    (zg_isinstance : PySem.W.nsIn K mainGlobals "isinstance" = some none)
    (zg_len : PySem.W.nsIn K mainGlobals "len" = some none)
    (zg_list : PySem.W.nsIn K mainGlobals "list" = some none)
    (zg_max : PySem.W.nsIn K mainGlobals "max" = some none)
    (zg_range : PySem.W.nsIn K mainGlobals "range" = some none)
    (zg_sum : PySem.W.nsIn K mainGlobals "sum" = some none)
    (zg_tuple : PySem.W.nsIn K mainGlobals "tuple" = some none)
    (zg_zip : PySem.W.nsIn K mainGlobals "zip" = some none)
    (zg_gcd : PySem.W.nsIn K mainGlobals "gcd" = some (some (.builtin "math.gcd")))
    : ∃ fd : FuncData, (∀ (s : Shared) (v : Value), BindsTo s fd ⟨[v], []⟩ [("script", v)]) ∧ ∀ base : Heap, K.In base → base.Ns mainGlobals mg → FnOk l.prog w K mg base (L2.CX l.prog w) 10 fa fd ["script"] (spLaw K) := by
  have e : fa = f_law := by injection Option.some.inj (hfa.symm.trans (PySem.W.mg_of X G a_law))
  rw [e]
  have cls_Lid : Cls K C_Lid := ⟨pg_Lid, hd_Lid, po_Lid, sa_Lid⟩
  have cls_Floor : Cls K C_Floor := ⟨pg_Floor, hd_Floor, po_Floor, sa_Floor⟩
  have D_Lid_Floor : C_Lid ≠ C_Floor := of_decide_eq_false d_Lid_Floor
  let cl : Cl := ({ Lid := C_Lid, Floor := C_Floor, cls := [C_Lid, C_Floor], BadRatio := 0, BadRow := 0, Unlike := 0, CalmError := 0 } : Cl)
  let a : Ad := { c := cl, f_BadRatio_init := 0, d_BadRatio_init := PySem.W.fnOf "is_whole" "is_whole" (defArgs s_is_whole) (defBody s_is_whole) (defScope s_is_whole) .none kV_is_whole dc_is_whole pm_is_whole an_is_whole cd_is_whole ct_is_whole, f_BadRow_init := 0, d_BadRow_init := PySem.W.fnOf "is_whole" "is_whole" (defArgs s_is_whole) (defBody s_is_whole) (defScope s_is_whole) .none kV_is_whole dc_is_whole pm_is_whole an_is_whole cd_is_whole ct_is_whole, f_Unlike_init := 0, d_Unlike_init := PySem.W.fnOf "is_whole" "is_whole" (defArgs s_is_whole) (defBody s_is_whole) (defScope s_is_whole) .none kV_is_whole dc_is_whole pm_is_whole an_is_whole cd_is_whole ct_is_whole, f_is_whole := f_is_whole, d_is_whole := PySem.W.fnOf "is_whole" "is_whole" (defArgs s_is_whole) (defBody s_is_whole) (defScope s_is_whole) .none kV_is_whole dc_is_whole pm_is_whole an_is_whole cd_is_whole ct_is_whole, f_is_ratio := f_is_ratio, d_is_ratio := PySem.W.fnOf "is_ratio" "is_ratio" (defArgs s_is_ratio) (defBody s_is_ratio) (defScope s_is_ratio) .none kV_is_ratio dc_is_ratio pm_is_ratio an_is_ratio cd_is_ratio ct_is_ratio, f_is_told := f_is_told, d_is_told := PySem.W.fnOf "is_told" "is_told" (defArgs s_is_told) (defBody s_is_told) (defScope s_is_told) .none kV_is_told dc_is_told pm_is_told an_is_told cd_is_told ct_is_told, f_lowest := f_lowest, d_lowest := PySem.W.fnOf "lowest" "lowest" (defArgs s_lowest) (defBody s_lowest) (defScope s_lowest) .none kV_lowest dc_lowest pm_lowest an_lowest cd_lowest ct_lowest, f_told := f_told, d_told := PySem.W.fnOf "told" "told" (defArgs s_told) (defBody s_told) (defScope s_told) .none kV_told dc_told pm_told an_told cd_told ct_told, f_rless := f_rless, d_rless := PySem.W.fnOf "rless" "rless" (defArgs s_rless) (defBody s_rless) (defScope s_rless) .none kV_rless dc_rless pm_rless an_rless cd_rless ct_rless, f_is_row := f_is_row, d_is_row := PySem.W.fnOf "is_row" "is_row" (defArgs s_is_row) (defBody s_is_row) (defScope s_is_row) .none kV_is_row dc_is_row pm_is_row an_is_row cd_is_row ct_is_row, f_is_sheet := f_is_sheet, d_is_sheet := PySem.W.fnOf "is_sheet" "is_sheet" (defArgs s_is_sheet) (defBody s_is_sheet) (defScope s_is_sheet) .none kV_is_sheet dc_is_sheet pm_is_sheet an_is_sheet cd_is_sheet ct_is_sheet, f_sheet_told := f_sheet_told, d_sheet_told := PySem.W.fnOf "sheet_told" "sheet_told" (defArgs s_sheet_told) (defBody s_sheet_told) (defScope s_sheet_told) .none kV_sheet_told dc_sheet_told pm_sheet_told an_sheet_told cd_sheet_told ct_sheet_told, f_dot_raw := f_dot_raw, d_dot_raw := PySem.W.fnOf "dot_raw" "dot_raw" (defArgs s_dot_raw) (defBody s_dot_raw) (defScope s_dot_raw) .none kV_dot_raw dc_dot_raw pm_dot_raw an_dot_raw cd_dot_raw ct_dot_raw, f_column_raw := f_column_raw, d_column_raw := PySem.W.fnOf "column_raw" "column_raw" (defArgs s_column_raw) (defBody s_column_raw) (defScope s_column_raw) .none kV_column_raw dc_column_raw pm_column_raw an_column_raw cd_column_raw ct_column_raw, f_row_raw := f_row_raw, d_row_raw := PySem.W.fnOf "row_raw" "row_raw" (defArgs s_row_raw) (defBody s_row_raw) (defScope s_row_raw) .none kV_row_raw dc_row_raw pm_row_raw an_row_raw cd_row_raw ct_row_raw, f_square_told := f_square_told, d_square_told := PySem.W.fnOf "square_told" "square_told" (defArgs s_square_told) (defBody s_square_told) (defScope s_square_told) .none kV_square_told dc_square_told pm_square_told an_square_told cd_square_told ct_square_told, f_frozen := f_frozen, d_frozen := PySem.W.fnOf "frozen" "frozen" (defArgs s_frozen) (defBody s_frozen) (defScope s_frozen) .none kV_frozen dc_frozen pm_frozen an_frozen cd_frozen ct_frozen, f_Lid_init := f_Lid_init, d_Lid_init := PySem.W.fnOf "__init__" "Lid.__init__" (defArgs s_Lid_init) (defBody s_Lid_init) (defScope s_Lid_init) .none kV_Lid_init dc_Lid_init pm_Lid_init an_Lid_init cd_Lid_init ct_Lid_init, f_Lid_eq := f_Lid_eq, d_Lid_eq := PySem.W.fnOf "__eq__" "Lid.__eq__" (defArgs s_Lid_eq) (defBody s_Lid_eq) (defScope s_Lid_eq) .none kV_Lid_eq dc_Lid_eq pm_Lid_eq an_Lid_eq cd_Lid_eq ct_Lid_eq, f_Floor_init := f_Floor_init, d_Floor_init := PySem.W.fnOf "__init__" "Floor.__init__" (defArgs s_Floor_init) (defBody s_Floor_init) (defScope s_Floor_init) .none kV_Floor_init dc_Floor_init pm_Floor_init an_Floor_init cd_Floor_init ct_Floor_init, f_Floor_eq := f_Floor_eq, d_Floor_eq := PySem.W.fnOf "__eq__" "Floor.__eq__" (defArgs s_Floor_eq) (defBody s_Floor_eq) (defScope s_Floor_eq) .none kV_Floor_eq dc_Floor_eq pm_Floor_eq an_Floor_eq cd_Floor_eq ct_Floor_eq, f_size_of := f_size_of, d_size_of := PySem.W.fnOf "size_of" "size_of" (defArgs s_size_of) (defBody s_size_of) (defScope s_size_of) .none kV_size_of dc_size_of pm_size_of an_size_of cd_size_of ct_size_of, f_sizes_raw := f_sizes_raw, d_sizes_raw := PySem.W.fnOf "sizes_raw" "sizes_raw" (defArgs s_sizes_raw) (defBody s_sizes_raw) (defScope s_sizes_raw) .none kV_sizes_raw dc_sizes_raw pm_sizes_raw an_sizes_raw cd_sizes_raw ct_sizes_raw, f_is_lid := f_is_lid, d_is_lid := PySem.W.fnOf "is_lid" "is_lid" (defArgs s_is_lid) (defBody s_is_lid) (defScope s_is_lid) .none kV_is_lid dc_is_lid pm_is_lid an_is_lid cd_is_lid ct_is_lid, f_lid_holds := f_lid_holds, d_lid_holds := PySem.W.fnOf "lid_holds" "lid_holds" (defArgs s_lid_holds) (defBody s_lid_holds) (defScope s_lid_holds) .none kV_lid_holds dc_lid_holds pm_lid_holds an_lid_holds cd_lid_holds ct_lid_holds, f_floor_holds := f_floor_holds, d_floor_holds := PySem.W.fnOf "floor_holds" "floor_holds" (defArgs s_floor_holds) (defBody s_floor_holds) (defScope s_floor_holds) .none kV_floor_holds dc_floor_holds pm_floor_holds an_floor_holds cd_floor_holds ct_floor_holds, f_law_pen := f_law_pen, d_law_pen := PySem.W.fnOf "_law_pen" "_law_pen" (defArgs s_law_pen) (defBody s_law_pen) (defScope s_law_pen) .none kV_law_pen dc_law_pen pm_law_pen an_law_pen cd_law_pen ct_law_pen, f_law_draw := f_law_draw, d_law_draw := PySem.W.fnOf "_law_draw" "_law_draw" (defArgs s_law_draw) (defBody s_law_draw) (defScope s_law_draw) .none kV_law_draw dc_law_draw pm_law_draw an_law_draw cd_law_draw ct_law_draw, f_law_pick := f_law_pick, d_law_pick := PySem.W.fnOf "_law_pick" "_law_pick" (defArgs s_law_pick) (defBody s_law_pick) (defScope s_law_pick) .none kV_law_pick dc_law_pick pm_law_pick an_law_pick cd_law_pick ct_law_pick, f_law_is_int := f_law_is_int, d_law_is_int := PySem.W.fnOf "_law_is_int" "_law_is_int" (defArgs s_law_is_int) (defBody s_law_is_int) (defScope s_law_is_int) .none kV_law_is_int dc_law_is_int pm_law_is_int an_law_is_int cd_law_is_int ct_law_is_int, f_law_gcd := f_law_gcd, d_law_gcd := PySem.W.fnOf "_law_gcd" "_law_gcd" (defArgs s_law_gcd) (defBody s_law_gcd) (defScope s_law_gcd) .none kV_law_gcd dc_law_gcd pm_law_gcd an_law_gcd cd_law_gcd ct_law_gcd, f_law_low := f_law_low, d_law_low := PySem.W.fnOf "_law_low" "_law_low" (defArgs s_law_low) (defBody s_law_low) (defScope s_law_low) .none kV_law_low dc_law_low pm_law_low an_law_low cd_law_low ct_law_low, f_law_add := f_law_add, d_law_add := PySem.W.fnOf "_law_add" "_law_add" (defArgs s_law_add) (defBody s_law_add) (defScope s_law_add) .none kV_law_add dc_law_add pm_law_add an_law_add cd_law_add ct_law_add, f_law_sub := f_law_sub, d_law_sub := PySem.W.fnOf "_law_sub" "_law_sub" (defArgs s_law_sub) (defBody s_law_sub) (defScope s_law_sub) .none kV_law_sub dc_law_sub pm_law_sub an_law_sub cd_law_sub ct_law_sub, f_law_mul := f_law_mul, d_law_mul := PySem.W.fnOf "_law_mul" "_law_mul" (defArgs s_law_mul) (defBody s_law_mul) (defScope s_law_mul) .none kV_law_mul dc_law_mul pm_law_mul an_law_mul cd_law_mul ct_law_mul, f_law_div := f_law_div, d_law_div := PySem.W.fnOf "_law_div" "_law_div" (defArgs s_law_div) (defBody s_law_div) (defScope s_law_div) .none kV_law_div dc_law_div pm_law_div an_law_div cd_law_div ct_law_div, f_law_less := f_law_less, d_law_less := PySem.W.fnOf "_law_less" "_law_less" (defArgs s_law_less) (defBody s_law_less) (defScope s_law_less) .none kV_law_less dc_law_less pm_law_less an_law_less cd_law_less ct_law_less, f_law_is_pair := f_law_is_pair, d_law_is_pair := PySem.W.fnOf "_law_is_pair" "_law_is_pair" (defArgs s_law_is_pair) (defBody s_law_is_pair) (defScope s_law_is_pair) .none kV_law_is_pair dc_law_is_pair pm_law_is_pair an_law_is_pair cd_law_is_pair ct_law_is_pair, f_law_is_told_row := f_law_is_told_row, d_law_is_told_row := PySem.W.fnOf "_law_is_told_row" "_law_is_told_row" (defArgs s_law_is_told_row) (defBody s_law_is_told_row) (defScope s_law_is_told_row) .none kV_law_is_told_row dc_law_is_told_row pm_law_is_told_row an_law_is_told_row cd_law_is_told_row ct_law_is_told_row, f_law_dot := f_law_dot, d_law_dot := PySem.W.fnOf "_law_dot" "_law_dot" (defArgs s_law_dot) (defBody s_law_dot) (defScope s_law_dot) .none kV_law_dot dc_law_dot pm_law_dot an_law_dot cd_law_dot ct_law_dot, f_law_loose := f_law_loose, d_law_loose := PySem.W.fnOf "_law_loose" "_law_loose" (defArgs s_law_loose) (defBody s_law_loose) (defScope s_law_loose) .none kV_law_loose dc_law_loose pm_law_loose an_law_loose cd_law_loose ct_law_loose, f_law_loose_rows := f_law_loose_rows, d_law_loose_rows := PySem.W.fnOf "_law_loose_rows" "_law_loose_rows" (defArgs s_law_loose_rows) (defBody s_law_loose_rows) (defScope s_law_loose_rows) .none kV_law_loose_rows dc_law_loose_rows pm_law_loose_rows an_law_loose_rows cd_law_loose_rows ct_law_loose_rows, f_law_late_sheet := f_law_late_sheet, d_law_late_sheet := PySem.W.fnOf "_law_late_sheet" "_law_late_sheet" (defArgs s_law_late_sheet) (defBody s_law_late_sheet) (defScope s_law_late_sheet) .none kV_law_late_sheet dc_law_late_sheet pm_law_late_sheet an_law_late_sheet cd_law_late_sheet ct_law_late_sheet, f_law_sizes := f_law_sizes, d_law_sizes := PySem.W.fnOf "_law_sizes" "_law_sizes" (defArgs s_law_sizes) (defBody s_law_sizes) (defScope s_law_sizes) .none kV_law_sizes dc_law_sizes pm_law_sizes an_law_sizes cd_law_sizes ct_law_sizes, f_law_lid_right := f_law_lid_right, d_law_lid_right := PySem.W.fnOf "_law_lid_right" "_law_lid_right" (defArgs s_law_lid_right) (defBody s_law_lid_right) (defScope s_law_lid_right) .none kV_law_lid_right dc_law_lid_right pm_law_lid_right an_law_lid_right cd_law_lid_right ct_law_lid_right, f_law_floor_right := f_law_floor_right, d_law_floor_right := PySem.W.fnOf "_law_floor_right" "_law_floor_right" (defArgs s_law_floor_right) (defBody s_law_floor_right) (defScope s_law_floor_right) .none kV_law_floor_right dc_law_floor_right pm_law_floor_right an_law_floor_right cd_law_floor_right ct_law_floor_right, f_law_solution := f_law_solution, d_law_solution := PySem.W.fnOf "_law_solution" "_law_solution" (defArgs s_law_solution) (defBody s_law_solution) (defScope s_law_solution) .none kV_law_solution dc_law_solution pm_law_solution an_law_solution cd_law_solution ct_law_solution, f_law_own_row := f_law_own_row, d_law_own_row := PySem.W.fnOf "_law_own_row" "_law_own_row" (defArgs s_law_own_row) (defBody s_law_own_row) (defScope s_law_own_row) .none kV_law_own_row dc_law_own_row pm_law_own_row an_law_own_row cd_law_own_row ct_law_own_row, f_law_bent := f_law_bent, d_law_bent := PySem.W.fnOf "_law_bent" "_law_bent" (defArgs s_law_bent) (defBody s_law_bent) (defScope s_law_bent) .none kV_law_bent dc_law_bent pm_law_bent an_law_bent cd_law_bent ct_law_bent, f_law := f_law, d_law := PySem.W.fnOf "law" "law" (defArgs s_law) (defBody s_law) (defScope s_law) .none kV_law dc_law pm_law an_law cd_law ct_law }
  have F_is_whole : Fun K "is_whole" "is_whole" s_is_whole f_is_whole (PySem.W.fnOf "is_whole" "is_whole" (defArgs s_is_whole) (defBody s_is_whole) (defScope s_is_whole) .none kV_is_whole dc_is_whole pm_is_whole an_is_whole cd_is_whole ct_is_whole) := fun_mk (st := s_is_whole) l_is_whole c_is_whole k_is_whole
  have F_is_ratio : Fun K "is_ratio" "is_ratio" s_is_ratio f_is_ratio (PySem.W.fnOf "is_ratio" "is_ratio" (defArgs s_is_ratio) (defBody s_is_ratio) (defScope s_is_ratio) .none kV_is_ratio dc_is_ratio pm_is_ratio an_is_ratio cd_is_ratio ct_is_ratio) := fun_mk (st := s_is_ratio) l_is_ratio c_is_ratio k_is_ratio
  have F_is_told : Fun K "is_told" "is_told" s_is_told f_is_told (PySem.W.fnOf "is_told" "is_told" (defArgs s_is_told) (defBody s_is_told) (defScope s_is_told) .none kV_is_told dc_is_told pm_is_told an_is_told cd_is_told ct_is_told) := fun_mk (st := s_is_told) l_is_told c_is_told k_is_told
  have F_lowest : Fun K "lowest" "lowest" s_lowest f_lowest (PySem.W.fnOf "lowest" "lowest" (defArgs s_lowest) (defBody s_lowest) (defScope s_lowest) .none kV_lowest dc_lowest pm_lowest an_lowest cd_lowest ct_lowest) := fun_mk (st := s_lowest) l_lowest c_lowest k_lowest
  have F_told : Fun K "told" "told" s_told f_told (PySem.W.fnOf "told" "told" (defArgs s_told) (defBody s_told) (defScope s_told) .none kV_told dc_told pm_told an_told cd_told ct_told) := fun_mk (st := s_told) l_told c_told k_told
  have F_rless : Fun K "rless" "rless" s_rless f_rless (PySem.W.fnOf "rless" "rless" (defArgs s_rless) (defBody s_rless) (defScope s_rless) .none kV_rless dc_rless pm_rless an_rless cd_rless ct_rless) := fun_mk (st := s_rless) l_rless c_rless k_rless
  have F_is_row : Fun K "is_row" "is_row" s_is_row f_is_row (PySem.W.fnOf "is_row" "is_row" (defArgs s_is_row) (defBody s_is_row) (defScope s_is_row) .none kV_is_row dc_is_row pm_is_row an_is_row cd_is_row ct_is_row) := fun_mk (st := s_is_row) l_is_row c_is_row k_is_row
  have F_is_sheet : Fun K "is_sheet" "is_sheet" s_is_sheet f_is_sheet (PySem.W.fnOf "is_sheet" "is_sheet" (defArgs s_is_sheet) (defBody s_is_sheet) (defScope s_is_sheet) .none kV_is_sheet dc_is_sheet pm_is_sheet an_is_sheet cd_is_sheet ct_is_sheet) := fun_mk (st := s_is_sheet) l_is_sheet c_is_sheet k_is_sheet
  have F_sheet_told : Fun K "sheet_told" "sheet_told" s_sheet_told f_sheet_told (PySem.W.fnOf "sheet_told" "sheet_told" (defArgs s_sheet_told) (defBody s_sheet_told) (defScope s_sheet_told) .none kV_sheet_told dc_sheet_told pm_sheet_told an_sheet_told cd_sheet_told ct_sheet_told) := fun_mk (st := s_sheet_told) l_sheet_told c_sheet_told k_sheet_told
  have F_dot_raw : Fun K "dot_raw" "dot_raw" s_dot_raw f_dot_raw (PySem.W.fnOf "dot_raw" "dot_raw" (defArgs s_dot_raw) (defBody s_dot_raw) (defScope s_dot_raw) .none kV_dot_raw dc_dot_raw pm_dot_raw an_dot_raw cd_dot_raw ct_dot_raw) := fun_mk (st := s_dot_raw) l_dot_raw c_dot_raw k_dot_raw
  have F_column_raw : Fun K "column_raw" "column_raw" s_column_raw f_column_raw (PySem.W.fnOf "column_raw" "column_raw" (defArgs s_column_raw) (defBody s_column_raw) (defScope s_column_raw) .none kV_column_raw dc_column_raw pm_column_raw an_column_raw cd_column_raw ct_column_raw) := fun_mk (st := s_column_raw) l_column_raw c_column_raw k_column_raw
  have F_row_raw : Fun K "row_raw" "row_raw" s_row_raw f_row_raw (PySem.W.fnOf "row_raw" "row_raw" (defArgs s_row_raw) (defBody s_row_raw) (defScope s_row_raw) .none kV_row_raw dc_row_raw pm_row_raw an_row_raw cd_row_raw ct_row_raw) := fun_mk (st := s_row_raw) l_row_raw c_row_raw k_row_raw
  have F_square_told : Fun K "square_told" "square_told" s_square_told f_square_told (PySem.W.fnOf "square_told" "square_told" (defArgs s_square_told) (defBody s_square_told) (defScope s_square_told) .none kV_square_told dc_square_told pm_square_told an_square_told cd_square_told ct_square_told) := fun_mk (st := s_square_told) l_square_told c_square_told k_square_told
  have F_frozen : Fun K "frozen" "frozen" s_frozen f_frozen (PySem.W.fnOf "frozen" "frozen" (defArgs s_frozen) (defBody s_frozen) (defScope s_frozen) .none kV_frozen dc_frozen pm_frozen an_frozen cd_frozen ct_frozen) := fun_mk (st := s_frozen) l_frozen c_frozen k_frozen
  have F_Lid_init : Fun K "__init__" "Lid.__init__" s_Lid_init f_Lid_init (PySem.W.fnOf "__init__" "Lid.__init__" (defArgs s_Lid_init) (defBody s_Lid_init) (defScope s_Lid_init) .none kV_Lid_init dc_Lid_init pm_Lid_init an_Lid_init cd_Lid_init ct_Lid_init) := fun_mk (st := s_Lid_init) l_Lid_init c_Lid_init k_Lid_init
  have F_Lid_eq : Fun K "__eq__" "Lid.__eq__" s_Lid_eq f_Lid_eq (PySem.W.fnOf "__eq__" "Lid.__eq__" (defArgs s_Lid_eq) (defBody s_Lid_eq) (defScope s_Lid_eq) .none kV_Lid_eq dc_Lid_eq pm_Lid_eq an_Lid_eq cd_Lid_eq ct_Lid_eq) := fun_mk (st := s_Lid_eq) l_Lid_eq c_Lid_eq k_Lid_eq
  have F_Floor_init : Fun K "__init__" "Floor.__init__" s_Floor_init f_Floor_init (PySem.W.fnOf "__init__" "Floor.__init__" (defArgs s_Floor_init) (defBody s_Floor_init) (defScope s_Floor_init) .none kV_Floor_init dc_Floor_init pm_Floor_init an_Floor_init cd_Floor_init ct_Floor_init) := fun_mk (st := s_Floor_init) l_Floor_init c_Floor_init k_Floor_init
  have F_Floor_eq : Fun K "__eq__" "Floor.__eq__" s_Floor_eq f_Floor_eq (PySem.W.fnOf "__eq__" "Floor.__eq__" (defArgs s_Floor_eq) (defBody s_Floor_eq) (defScope s_Floor_eq) .none kV_Floor_eq dc_Floor_eq pm_Floor_eq an_Floor_eq cd_Floor_eq ct_Floor_eq) := fun_mk (st := s_Floor_eq) l_Floor_eq c_Floor_eq k_Floor_eq
  have F_size_of : Fun K "size_of" "size_of" s_size_of f_size_of (PySem.W.fnOf "size_of" "size_of" (defArgs s_size_of) (defBody s_size_of) (defScope s_size_of) .none kV_size_of dc_size_of pm_size_of an_size_of cd_size_of ct_size_of) := fun_mk (st := s_size_of) l_size_of c_size_of k_size_of
  have F_sizes_raw : Fun K "sizes_raw" "sizes_raw" s_sizes_raw f_sizes_raw (PySem.W.fnOf "sizes_raw" "sizes_raw" (defArgs s_sizes_raw) (defBody s_sizes_raw) (defScope s_sizes_raw) .none kV_sizes_raw dc_sizes_raw pm_sizes_raw an_sizes_raw cd_sizes_raw ct_sizes_raw) := fun_mk (st := s_sizes_raw) l_sizes_raw c_sizes_raw k_sizes_raw
  have F_is_lid : Fun K "is_lid" "is_lid" s_is_lid f_is_lid (PySem.W.fnOf "is_lid" "is_lid" (defArgs s_is_lid) (defBody s_is_lid) (defScope s_is_lid) .none kV_is_lid dc_is_lid pm_is_lid an_is_lid cd_is_lid ct_is_lid) := fun_mk (st := s_is_lid) l_is_lid c_is_lid k_is_lid
  have F_lid_holds : Fun K "lid_holds" "lid_holds" s_lid_holds f_lid_holds (PySem.W.fnOf "lid_holds" "lid_holds" (defArgs s_lid_holds) (defBody s_lid_holds) (defScope s_lid_holds) .none kV_lid_holds dc_lid_holds pm_lid_holds an_lid_holds cd_lid_holds ct_lid_holds) := fun_mk (st := s_lid_holds) l_lid_holds c_lid_holds k_lid_holds
  have F_floor_holds : Fun K "floor_holds" "floor_holds" s_floor_holds f_floor_holds (PySem.W.fnOf "floor_holds" "floor_holds" (defArgs s_floor_holds) (defBody s_floor_holds) (defScope s_floor_holds) .none kV_floor_holds dc_floor_holds pm_floor_holds an_floor_holds cd_floor_holds ct_floor_holds) := fun_mk (st := s_floor_holds) l_floor_holds c_floor_holds k_floor_holds
  have F_law_pen : Fun K "_law_pen" "_law_pen" s_law_pen f_law_pen (PySem.W.fnOf "_law_pen" "_law_pen" (defArgs s_law_pen) (defBody s_law_pen) (defScope s_law_pen) .none kV_law_pen dc_law_pen pm_law_pen an_law_pen cd_law_pen ct_law_pen) := fun_mk (st := s_law_pen) l_law_pen c_law_pen k_law_pen
  have F_law_draw : Fun K "_law_draw" "_law_draw" s_law_draw f_law_draw (PySem.W.fnOf "_law_draw" "_law_draw" (defArgs s_law_draw) (defBody s_law_draw) (defScope s_law_draw) .none kV_law_draw dc_law_draw pm_law_draw an_law_draw cd_law_draw ct_law_draw) := fun_mk (st := s_law_draw) l_law_draw c_law_draw k_law_draw
  have F_law_pick : Fun K "_law_pick" "_law_pick" s_law_pick f_law_pick (PySem.W.fnOf "_law_pick" "_law_pick" (defArgs s_law_pick) (defBody s_law_pick) (defScope s_law_pick) .none kV_law_pick dc_law_pick pm_law_pick an_law_pick cd_law_pick ct_law_pick) := fun_mk (st := s_law_pick) l_law_pick c_law_pick k_law_pick
  have F_law_is_int : Fun K "_law_is_int" "_law_is_int" s_law_is_int f_law_is_int (PySem.W.fnOf "_law_is_int" "_law_is_int" (defArgs s_law_is_int) (defBody s_law_is_int) (defScope s_law_is_int) .none kV_law_is_int dc_law_is_int pm_law_is_int an_law_is_int cd_law_is_int ct_law_is_int) := fun_mk (st := s_law_is_int) l_law_is_int c_law_is_int k_law_is_int
  have F_law_gcd : Fun K "_law_gcd" "_law_gcd" s_law_gcd f_law_gcd (PySem.W.fnOf "_law_gcd" "_law_gcd" (defArgs s_law_gcd) (defBody s_law_gcd) (defScope s_law_gcd) .none kV_law_gcd dc_law_gcd pm_law_gcd an_law_gcd cd_law_gcd ct_law_gcd) := fun_mk (st := s_law_gcd) l_law_gcd c_law_gcd k_law_gcd
  have F_law_low : Fun K "_law_low" "_law_low" s_law_low f_law_low (PySem.W.fnOf "_law_low" "_law_low" (defArgs s_law_low) (defBody s_law_low) (defScope s_law_low) .none kV_law_low dc_law_low pm_law_low an_law_low cd_law_low ct_law_low) := fun_mk (st := s_law_low) l_law_low c_law_low k_law_low
  have F_law_add : Fun K "_law_add" "_law_add" s_law_add f_law_add (PySem.W.fnOf "_law_add" "_law_add" (defArgs s_law_add) (defBody s_law_add) (defScope s_law_add) .none kV_law_add dc_law_add pm_law_add an_law_add cd_law_add ct_law_add) := fun_mk (st := s_law_add) l_law_add c_law_add k_law_add
  have F_law_sub : Fun K "_law_sub" "_law_sub" s_law_sub f_law_sub (PySem.W.fnOf "_law_sub" "_law_sub" (defArgs s_law_sub) (defBody s_law_sub) (defScope s_law_sub) .none kV_law_sub dc_law_sub pm_law_sub an_law_sub cd_law_sub ct_law_sub) := fun_mk (st := s_law_sub) l_law_sub c_law_sub k_law_sub
  have F_law_mul : Fun K "_law_mul" "_law_mul" s_law_mul f_law_mul (PySem.W.fnOf "_law_mul" "_law_mul" (defArgs s_law_mul) (defBody s_law_mul) (defScope s_law_mul) .none kV_law_mul dc_law_mul pm_law_mul an_law_mul cd_law_mul ct_law_mul) := fun_mk (st := s_law_mul) l_law_mul c_law_mul k_law_mul
  have F_law_div : Fun K "_law_div" "_law_div" s_law_div f_law_div (PySem.W.fnOf "_law_div" "_law_div" (defArgs s_law_div) (defBody s_law_div) (defScope s_law_div) .none kV_law_div dc_law_div pm_law_div an_law_div cd_law_div ct_law_div) := fun_mk (st := s_law_div) l_law_div c_law_div k_law_div
  have F_law_less : Fun K "_law_less" "_law_less" s_law_less f_law_less (PySem.W.fnOf "_law_less" "_law_less" (defArgs s_law_less) (defBody s_law_less) (defScope s_law_less) .none kV_law_less dc_law_less pm_law_less an_law_less cd_law_less ct_law_less) := fun_mk (st := s_law_less) l_law_less c_law_less k_law_less
  have F_law_is_pair : Fun K "_law_is_pair" "_law_is_pair" s_law_is_pair f_law_is_pair (PySem.W.fnOf "_law_is_pair" "_law_is_pair" (defArgs s_law_is_pair) (defBody s_law_is_pair) (defScope s_law_is_pair) .none kV_law_is_pair dc_law_is_pair pm_law_is_pair an_law_is_pair cd_law_is_pair ct_law_is_pair) := fun_mk (st := s_law_is_pair) l_law_is_pair c_law_is_pair k_law_is_pair
  have F_law_is_told_row : Fun K "_law_is_told_row" "_law_is_told_row" s_law_is_told_row f_law_is_told_row (PySem.W.fnOf "_law_is_told_row" "_law_is_told_row" (defArgs s_law_is_told_row) (defBody s_law_is_told_row) (defScope s_law_is_told_row) .none kV_law_is_told_row dc_law_is_told_row pm_law_is_told_row an_law_is_told_row cd_law_is_told_row ct_law_is_told_row) := fun_mk (st := s_law_is_told_row) l_law_is_told_row c_law_is_told_row k_law_is_told_row
  have F_law_dot : Fun K "_law_dot" "_law_dot" s_law_dot f_law_dot (PySem.W.fnOf "_law_dot" "_law_dot" (defArgs s_law_dot) (defBody s_law_dot) (defScope s_law_dot) .none kV_law_dot dc_law_dot pm_law_dot an_law_dot cd_law_dot ct_law_dot) := fun_mk (st := s_law_dot) l_law_dot c_law_dot k_law_dot
  have F_law_loose : Fun K "_law_loose" "_law_loose" s_law_loose f_law_loose (PySem.W.fnOf "_law_loose" "_law_loose" (defArgs s_law_loose) (defBody s_law_loose) (defScope s_law_loose) .none kV_law_loose dc_law_loose pm_law_loose an_law_loose cd_law_loose ct_law_loose) := fun_mk (st := s_law_loose) l_law_loose c_law_loose k_law_loose
  have F_law_loose_rows : Fun K "_law_loose_rows" "_law_loose_rows" s_law_loose_rows f_law_loose_rows (PySem.W.fnOf "_law_loose_rows" "_law_loose_rows" (defArgs s_law_loose_rows) (defBody s_law_loose_rows) (defScope s_law_loose_rows) .none kV_law_loose_rows dc_law_loose_rows pm_law_loose_rows an_law_loose_rows cd_law_loose_rows ct_law_loose_rows) := fun_mk (st := s_law_loose_rows) l_law_loose_rows c_law_loose_rows k_law_loose_rows
  have F_law_late_sheet : Fun K "_law_late_sheet" "_law_late_sheet" s_law_late_sheet f_law_late_sheet (PySem.W.fnOf "_law_late_sheet" "_law_late_sheet" (defArgs s_law_late_sheet) (defBody s_law_late_sheet) (defScope s_law_late_sheet) .none kV_law_late_sheet dc_law_late_sheet pm_law_late_sheet an_law_late_sheet cd_law_late_sheet ct_law_late_sheet) := fun_mk (st := s_law_late_sheet) l_law_late_sheet c_law_late_sheet k_law_late_sheet
  have F_law_sizes : Fun K "_law_sizes" "_law_sizes" s_law_sizes f_law_sizes (PySem.W.fnOf "_law_sizes" "_law_sizes" (defArgs s_law_sizes) (defBody s_law_sizes) (defScope s_law_sizes) .none kV_law_sizes dc_law_sizes pm_law_sizes an_law_sizes cd_law_sizes ct_law_sizes) := fun_mk (st := s_law_sizes) l_law_sizes c_law_sizes k_law_sizes
  have F_law_lid_right : Fun K "_law_lid_right" "_law_lid_right" s_law_lid_right f_law_lid_right (PySem.W.fnOf "_law_lid_right" "_law_lid_right" (defArgs s_law_lid_right) (defBody s_law_lid_right) (defScope s_law_lid_right) .none kV_law_lid_right dc_law_lid_right pm_law_lid_right an_law_lid_right cd_law_lid_right ct_law_lid_right) := fun_mk (st := s_law_lid_right) l_law_lid_right c_law_lid_right k_law_lid_right
  have F_law_floor_right : Fun K "_law_floor_right" "_law_floor_right" s_law_floor_right f_law_floor_right (PySem.W.fnOf "_law_floor_right" "_law_floor_right" (defArgs s_law_floor_right) (defBody s_law_floor_right) (defScope s_law_floor_right) .none kV_law_floor_right dc_law_floor_right pm_law_floor_right an_law_floor_right cd_law_floor_right ct_law_floor_right) := fun_mk (st := s_law_floor_right) l_law_floor_right c_law_floor_right k_law_floor_right
  have F_law_solution : Fun K "_law_solution" "_law_solution" s_law_solution f_law_solution (PySem.W.fnOf "_law_solution" "_law_solution" (defArgs s_law_solution) (defBody s_law_solution) (defScope s_law_solution) .none kV_law_solution dc_law_solution pm_law_solution an_law_solution cd_law_solution ct_law_solution) := fun_mk (st := s_law_solution) l_law_solution c_law_solution k_law_solution
  have F_law_own_row : Fun K "_law_own_row" "_law_own_row" s_law_own_row f_law_own_row (PySem.W.fnOf "_law_own_row" "_law_own_row" (defArgs s_law_own_row) (defBody s_law_own_row) (defScope s_law_own_row) .none kV_law_own_row dc_law_own_row pm_law_own_row an_law_own_row cd_law_own_row ct_law_own_row) := fun_mk (st := s_law_own_row) l_law_own_row c_law_own_row k_law_own_row
  have F_law_bent : Fun K "_law_bent" "_law_bent" s_law_bent f_law_bent (PySem.W.fnOf "_law_bent" "_law_bent" (defArgs s_law_bent) (defBody s_law_bent) (defScope s_law_bent) .none kV_law_bent dc_law_bent pm_law_bent an_law_bent cd_law_bent ct_law_bent) := fun_mk (st := s_law_bent) l_law_bent c_law_bent k_law_bent
  have F_law : Fun K "law" "law" s_law f_law (PySem.W.fnOf "law" "law" (defArgs s_law) (defBody s_law) (defScope s_law) .none kV_law dc_law pm_law an_law cd_law ct_law) := fun_mk (st := s_law) l_law c_law k_law
  have isi : IsiF K [C_Lid, C_Floor] := ⟨(all_cons (cls_Lid) (all_cons (cls_Floor) (all_nil))), (all_cons (ha_Lid) (all_cons (ha_Floor) (all_nil))), hn_, ht_, (all_cons (hm_Lid) (all_cons (hm_Floor) (all_nil))), (all_cons ((all_cons (by rw [decide_eq_true rfl]; exact oo_Lid_Lid) (all_cons (by rw [decide_eq_false D_Lid_Floor]; exact oo_Lid_Floor) (all_nil)))) (all_cons ((all_cons (by rw [decide_eq_false (Ne.symm D_Lid_Floor)]; exact oo_Floor_Lid) (all_cons (by rw [decide_eq_true rfl]; exact oo_Floor_Floor) (all_nil)))) (all_nil))), (all_cons ((all_cons (ob_Lid_bool) (all_cons (ob_Lid_int) (all_cons (ob_Lid_str) (all_cons (ob_Lid_tuple) (all_cons (ob_Lid_list) (all_cons (ob_Lid_dict) (all_nil)))))))) (all_cons ((all_cons (ob_Floor_bool) (all_cons (ob_Floor_int) (all_cons (ob_Floor_str) (all_cons (ob_Floor_tuple) (all_cons (ob_Floor_list) (all_cons (ob_Floor_dict) (all_nil)))))))) (all_nil))), (all_cons ((all_cons (bo_NoneType_Lid) (all_cons (bo_NoneType_Floor) (all_nil)))) (all_cons ((all_cons (bo_bool_Lid) (all_cons (bo_bool_Floor) (all_nil)))) (all_cons ((all_cons (bo_int_Lid) (all_cons (bo_int_Floor) (all_nil)))) (all_cons ((all_cons (bo_str_Lid) (all_cons (bo_str_Floor) (all_nil)))) (all_cons ((all_cons (bo_tuple_Lid) (all_cons (bo_tuple_Floor) (all_nil)))) (all_cons ((all_cons (bo_list_Lid) (all_cons (bo_list_Floor) (all_nil)))) (all_cons ((all_cons (bo_dict_Lid) (all_cons (bo_dict_Floor) (all_nil)))) (all_nil))))))))⟩
  have ok : ClOk cl := ⟨List.mem_cons_self, List.mem_cons_of_mem _ List.mem_cons_self, fun e => D_Lid_Floor e⟩
  have T : Tx K mg a := { ok := ok, F_is_whole := F_is_whole, b_is_whole := F_is_whole.binds (ps := ["value"]) fun _ _ _ _ _ _ us hl => match us, hl with | [_], _ => rfl, m_is_whole := PySem.W.mg_of X G a_is_whole, F_is_ratio := F_is_ratio, b_is_ratio := F_is_ratio.binds (ps := ["value"]) fun _ _ _ _ _ _ us hl => match us, hl with | [_], _ => rfl, m_is_ratio := PySem.W.mg_of X G a_is_ratio, F_is_told := F_is_told, b_is_told := F_is_told.binds (ps := ["value"]) fun _ _ _ _ _ _ us hl => match us, hl with | [_], _ => rfl, m_is_told := PySem.W.mg_of X G a_is_told, F_lowest := F_lowest, b_lowest := F_lowest.binds (ps := ["top", "bottom"]) fun _ _ _ _ _ _ us hl => match us, hl with | [_, _], _ => rfl, m_lowest := PySem.W.mg_of X G a_lowest, F_told := F_told, b_told := F_told.binds (ps := ["ratio"]) fun _ _ _ _ _ _ us hl => match us, hl with | [_], _ => rfl, m_told := PySem.W.mg_of X G a_told, F_rless := F_rless, b_rless := F_rless.binds (ps := ["one", "other"]) fun _ _ _ _ _ _ us hl => match us, hl with | [_, _], _ => rfl, m_rless := PySem.W.mg_of X G a_rless, F_is_row := F_is_row, b_is_row := F_is_row.binds (ps := ["value"]) fun _ _ _ _ _ _ us hl => match us, hl with | [_], _ => rfl, m_is_row := PySem.W.mg_of X G a_is_row, F_is_sheet := F_is_sheet, b_is_sheet := F_is_sheet.binds (ps := ["value"]) fun _ _ _ _ _ _ us hl => match us, hl with | [_], _ => rfl, m_is_sheet := PySem.W.mg_of X G a_is_sheet, F_sheet_told := F_sheet_told, b_sheet_told := F_sheet_told.binds (ps := ["sheet"]) fun _ _ _ _ _ _ us hl => match us, hl with | [_], _ => rfl, m_sheet_told := PySem.W.mg_of X G a_sheet_told, F_dot_raw := F_dot_raw, b_dot_raw := F_dot_raw.binds (ps := ["row", "other"]) fun _ _ _ _ _ _ us hl => match us, hl with | [_, _], _ => rfl, m_dot_raw := PySem.W.mg_of X G a_dot_raw, F_column_raw := F_column_raw, b_column_raw := F_column_raw.binds (ps := ["sheet", "column"]) fun _ _ _ _ _ _ us hl => match us, hl with | [_, _], _ => rfl, m_column_raw := PySem.W.mg_of X G a_column_raw, F_row_raw := F_row_raw, b_row_raw := F_row_raw.binds (ps := ["row", "sheet"]) fun _ _ _ _ _ _ us hl => match us, hl with | [_, _], _ => rfl, m_row_raw := PySem.W.mg_of X G a_row_raw, F_square_told := F_square_told, b_square_told := F_square_told.binds (ps := ["sheet"]) fun _ _ _ _ _ _ us hl => match us, hl with | [_], _ => rfl, m_square_told := PySem.W.mg_of X G a_square_told, F_frozen := F_frozen, b_frozen := F_frozen.binds (ps := ["value"]) fun _ _ _ _ _ _ us hl => match us, hl with | [_], _ => rfl, m_frozen := PySem.W.mg_of X G a_frozen, F_Lid_init := F_Lid_init, b_Lid_init := F_Lid_init.binds (ps := ["self", "row"]) fun _ _ _ _ _ _ us hl => match us, hl with | [_, _], _ => rfl, F_Lid_eq := F_Lid_eq, b_Lid_eq := F_Lid_eq.binds (ps := ["self", "other"]) fun _ _ _ _ _ _ us hl => match us, hl with | [_, _], _ => rfl, F_Floor_init := F_Floor_init, b_Floor_init := F_Floor_init.binds (ps := ["self", "row"]) fun _ _ _ _ _ _ us hl => match us, hl with | [_, _], _ => rfl, F_Floor_eq := F_Floor_eq, b_Floor_eq := F_Floor_eq.binds (ps := ["self", "other"]) fun _ _ _ _ _ _ us hl => match us, hl with | [_, _], _ => rfl, F_size_of := F_size_of, b_size_of := F_size_of.binds (ps := ["ratio"]) fun _ _ _ _ _ _ us hl => match us, hl with | [_], _ => rfl, m_size_of := PySem.W.mg_of X G a_size_of, F_sizes_raw := F_sizes_raw, b_sizes_raw := F_sizes_raw.binds (ps := ["rows"]) fun _ _ _ _ _ _ us hl => match us, hl with | [_], _ => rfl, m_sizes_raw := PySem.W.mg_of X G a_sizes_raw, F_is_lid := F_is_lid, b_is_lid := F_is_lid.binds (ps := ["rows", "row"]) fun _ _ _ _ _ _ us hl => match us, hl with | [_, _], _ => rfl, m_is_lid := PySem.W.mg_of X G a_is_lid, F_lid_holds := F_lid_holds, b_lid_holds := F_lid_holds.binds (ps := ["sheet", "value"]) fun _ _ _ _ _ _ us hl => match us, hl with | [_, _], _ => rfl, m_lid_holds := PySem.W.mg_of X G a_lid_holds, F_floor_holds := F_floor_holds, b_floor_holds := F_floor_holds.binds (ps := ["sheet", "value"]) fun _ _ _ _ _ _ us hl => match us, hl with | [_, _], _ => rfl, m_floor_holds := PySem.W.mg_of X G a_floor_holds, F_law_pen := F_law_pen, b_law_pen := F_law_pen.binds (ps := ["script"]) fun _ _ _ _ _ _ us hl => match us, hl with | [_], _ => rfl, m_law_pen := PySem.W.mg_of X G a_law_pen, F_law_draw := F_law_draw, b_law_draw := F_law_draw.binds (ps := ["pen", "many"]) fun _ _ _ _ _ _ us hl => match us, hl with | [_, _], _ => rfl, m_law_draw := PySem.W.mg_of X G a_law_draw, F_law_pick := F_law_pick, b_law_pick := F_law_pick.binds (ps := ["pen", "some"]) fun _ _ _ _ _ _ us hl => match us, hl with | [_, _], _ => rfl, m_law_pick := PySem.W.mg_of X G a_law_pick, F_law_is_int := F_law_is_int, b_law_is_int := F_law_is_int.binds (ps := ["thing"]) fun _ _ _ _ _ _ us hl => match us, hl with | [_], _ => rfl, m_law_is_int := PySem.W.mg_of X G a_law_is_int, F_law_gcd := F_law_gcd, b_law_gcd := F_law_gcd.binds (ps := ["one", "other"]) fun _ _ _ _ _ _ us hl => match us, hl with | [_, _], _ => rfl, m_law_gcd := PySem.W.mg_of X G a_law_gcd, F_law_low := F_law_low, b_law_low := F_law_low.binds (ps := ["top", "bottom"]) fun _ _ _ _ _ _ us hl => match us, hl with | [_, _], _ => rfl, m_law_low := PySem.W.mg_of X G a_law_low, F_law_add := F_law_add, b_law_add := F_law_add.binds (ps := ["one", "other"]) fun _ _ _ _ _ _ us hl => match us, hl with | [_, _], _ => rfl, m_law_add := PySem.W.mg_of X G a_law_add, F_law_sub := F_law_sub, b_law_sub := F_law_sub.binds (ps := ["one", "other"]) fun _ _ _ _ _ _ us hl => match us, hl with | [_, _], _ => rfl, m_law_sub := PySem.W.mg_of X G a_law_sub, F_law_mul := F_law_mul, b_law_mul := F_law_mul.binds (ps := ["one", "other"]) fun _ _ _ _ _ _ us hl => match us, hl with | [_, _], _ => rfl, m_law_mul := PySem.W.mg_of X G a_law_mul, F_law_div := F_law_div, b_law_div := F_law_div.binds (ps := ["one", "other"]) fun _ _ _ _ _ _ us hl => match us, hl with | [_, _], _ => rfl, m_law_div := PySem.W.mg_of X G a_law_div, F_law_less := F_law_less, b_law_less := F_law_less.binds (ps := ["one", "other"]) fun _ _ _ _ _ _ us hl => match us, hl with | [_, _], _ => rfl, m_law_less := PySem.W.mg_of X G a_law_less, F_law_is_pair := F_law_is_pair, b_law_is_pair := F_law_is_pair.binds (ps := ["thing"]) fun _ _ _ _ _ _ us hl => match us, hl with | [_], _ => rfl, m_law_is_pair := PySem.W.mg_of X G a_law_is_pair, F_law_is_told_row := F_law_is_told_row, b_law_is_told_row := F_law_is_told_row.binds (ps := ["thing", "many"]) fun _ _ _ _ _ _ us hl => match us, hl with | [_, _], _ => rfl, m_law_is_told_row := PySem.W.mg_of X G a_law_is_told_row, F_law_dot := F_law_dot, b_law_dot := F_law_dot.binds (ps := ["row", "other"]) fun _ _ _ _ _ _ us hl => match us, hl with | [_, _], _ => rfl, m_law_dot := PySem.W.mg_of X G a_law_dot, F_law_loose := F_law_loose, b_law_loose := F_law_loose.binds (ps := ["pen", "ratio"]) fun _ _ _ _ _ _ us hl => match us, hl with | [_, _], _ => rfl, m_law_loose := PySem.W.mg_of X G a_law_loose, F_law_loose_rows := F_law_loose_rows, b_law_loose_rows := F_law_loose_rows.binds (ps := ["pen", "rows"]) fun _ _ _ _ _ _ us hl => match us, hl with | [_, _], _ => rfl, m_law_loose_rows := PySem.W.mg_of X G a_law_loose_rows, F_law_late_sheet := F_law_late_sheet, b_law_late_sheet := F_law_late_sheet.binds (ps := ["pen", "most"]) fun _ _ _ _ _ _ us hl => match us, hl with | [_, _], _ => rfl, m_law_late_sheet := PySem.W.mg_of X G a_law_late_sheet, F_law_sizes := F_law_sizes, b_law_sizes := F_law_sizes.binds (ps := ["sheet"]) fun _ _ _ _ _ _ us hl => match us, hl with | [_], _ => rfl, m_law_sizes := PySem.W.mg_of X G a_law_sizes, F_law_lid_right := F_law_lid_right, b_law_lid_right := F_law_lid_right.binds (ps := ["sheet", "row"]) fun _ _ _ _ _ _ us hl => match us, hl with | [_, _], _ => rfl, m_law_lid_right := PySem.W.mg_of X G a_law_lid_right, F_law_floor_right := F_law_floor_right, b_law_floor_right := F_law_floor_right.binds (ps := ["sheet", "row"]) fun _ _ _ _ _ _ us hl => match us, hl with | [_, _], _ => rfl, m_law_floor_right := PySem.W.mg_of X G a_law_floor_right, F_law_solution := F_law_solution, b_law_solution := F_law_solution.binds (ps := ["rows", "column"]) fun _ _ _ _ _ _ us hl => match us, hl with | [_, _], _ => rfl, m_law_solution := PySem.W.mg_of X G a_law_solution, F_law_own_row := F_law_own_row, b_law_own_row := F_law_own_row.binds (ps := ["pen", "sheet", "turn"]) fun _ _ _ _ _ _ us hl => match us, hl with | [_, _, _], _ => rfl, m_law_own_row := PySem.W.mg_of X G a_law_own_row, F_law_bent := F_law_bent, b_law_bent := F_law_bent.binds (ps := ["pen", "row"]) fun _ _ _ _ _ _ us hl => match us, hl with | [_, _], _ => rfl, m_law_bent := PySem.W.mg_of X G a_law_bent, F_law := F_law, m_Lid := PySem.W.mg_of X G aC_Lid, cl_Lid := cls_Lid, n_Lid_row := n_Lid_row, mk_Lid := ⟨ms_Lid, a_Lid_init, i_Lid_init, kc_Lid⟩, eq_Lid := ⟨a_Lid_eq, ne_Lid, hm_Lid, i_Lid_eq, (all_cons (nf_Lid_Lid) (all_cons (nf_Lid_Floor) (all_nil)))⟩, m_Floor := PySem.W.mg_of X G aC_Floor, cl_Floor := cls_Floor, n_Floor_row := n_Floor_row, mk_Floor := ⟨ms_Floor, a_Floor_init, i_Floor_init, kc_Floor⟩, eq_Floor := ⟨a_Floor_eq, ne_Floor, hm_Floor, i_Floor_eq, (all_cons (nf_Floor_Lid) (all_cons (nf_Floor_Floor) (all_nil)))⟩, g_abs := PySem.W.mg_none_of X G zg_abs, g_all := PySem.W.mg_none_of X G zg_all, g_any := PySem.W.mg_none_of X G zg_any, g_bool := PySem.W.mg_none_of X G zg_bool, g_int := PySem.W.mg_none_of X G zg_int, g_isinstance := PySem.W.mg_none_of X G zg_isinstance, g_len := PySem.W.mg_none_of X G zg_len, g_list := PySem.W.mg_none_of X G zg_list, g_max := PySem.W.mg_none_of X G zg_max, g_range := PySem.W.mg_none_of X G zg_range, g_sum := PySem.W.mg_none_of X G zg_sum, g_tuple := PySem.W.mg_none_of X G zg_tuple, g_zip := PySem.W.mg_none_of X G zg_zip, g_gcd := PySem.W.mg_of X G zg_gcd, isi := isi }
  exact ⟨PySem.W.fnOf "law" "law" (defArgs s_law) (defBody s_law) (defScope s_law) .none kV_law dc_law pm_law an_law cd_law ct_law, fun s v => .of_eq rfl, fun base _ _ => ok_law T⟩
theorem walk {l : PySem.W.OpenLaw} {q : Program} {loose : List Str} {XP : (Str → Option Value) → Heap → Prop} {YP : World → Heap → Prop} {d : DefRec} {K : Params → PySem.W.Frag} (hn : l.most = some 63) (hdf : d.params.defaults = [])
    (hY : ∀ (w : World) (h : Heap), YP w h → (K w.params).In h)
    (F : ∀ (w : World) (mg : Str → Option Value) (fa : Addr) (h : Heap), (K w.params).In h → h.Ns mainGlobals mg → mg d.name = some (.ref fa) →
      ∃ fd : FuncData, (∀ (s : Shared) (u : Value), BindsTo s fd ⟨[u], []⟩ [("script", u)]) ∧ ∀ base : Heap, (K w.params).In base → base.Ns mainGlobals mg → FnOk l.prog w (K w.params) mg base (L2.CX l.prog w) 10 fa fd ["script"] (spLaw (K w.params))) :
    PySem.W.WalkO q loose XP YP l.row.toRowW d [] (fun f vs => PySem.call f vs) :=
  L2.walk_ofB (n := 63) (k := 10) (x := "script") (CX := fun w => L2.CX l.prog w) (sp := fun w => spLaw (K w.params)) hn (by decide) hdf ⟨rfl, by decide, by decide⟩ hY F (fun _ _ a ns hl hb _ hS => ⟨a, ns, rfl, hS, hl, fun z hz => bits_of (hb z hz), fun _ => rfl⟩)
    fun w H s e s' z => by obtain ⟨a, B, H', cls, d, _, _, _, _, _, _, _, z⟩ := z; exact z
end DL
open PySem PySem.W PyProof.Rows
set_option maxRecDepth 100000 in
set_option maxHeartbeats 0 in
theorem PySem.Challenge.cw_calmwebs_k68_lids_and_floors_judged_holds : PySem.Challenge.rw_calmwebs_k68_lids_and_floors_judged.Holds := by
  w_on; o_law; k_head; (case hw => w_witness2)
  k_fill
  refine DL.walk (l := PySem.Challenge.rw_calmwebs_k68_lids_and_floors_judged) rfl rfl (fun w h Y => PySem.W.kIn_of Y) ?F
  case F =>
    intro w mg fa h KX G hmg
    refine' DL.all_mk KX G hmg ?aC_Lid ?aC_Floor ?a_is_whole ?l_is_whole ?c_is_whole ?k_is_whole ?a_is_ratio ?l_is_ratio ?c_is_ratio ?k_is_ratio ?a_is_told ?l_is_told ?c_is_told ?k_is_told ?a_lowest ?l_lowest ?c_lowest ?k_lowest ?a_told ?l_told ?c_told ?k_told ?a_rless ?l_rless ?c_rless ?k_rless ?a_is_row ?l_is_row ?c_is_row ?k_is_row ?a_is_sheet ?l_is_sheet ?c_is_sheet ?k_is_sheet ?a_sheet_told ?l_sheet_told ?c_sheet_told ?k_sheet_told ?a_dot_raw ?l_dot_raw ?c_dot_raw ?k_dot_raw ?a_column_raw ?l_column_raw ?c_column_raw ?k_column_raw ?a_row_raw ?l_row_raw ?c_row_raw ?k_row_raw ?a_square_told ?l_square_told ?c_square_told ?k_square_told ?a_frozen ?l_frozen ?c_frozen ?k_frozen ?a_Lid_init ?i_Lid_init ?l_Lid_init ?c_Lid_init ?k_Lid_init ?a_Lid_eq ?i_Lid_eq ?l_Lid_eq ?c_Lid_eq ?k_Lid_eq ?a_Floor_init ?i_Floor_init ?l_Floor_init ?c_Floor_init ?k_Floor_init ?a_Floor_eq ?i_Floor_eq ?l_Floor_eq ?c_Floor_eq ?k_Floor_eq ?a_size_of ?l_size_of ?c_size_of ?k_size_of ?a_sizes_raw ?l_sizes_raw ?c_sizes_raw ?k_sizes_raw ?a_is_lid ?l_is_lid ?c_is_lid ?k_is_lid ?a_lid_holds ?l_lid_holds ?c_lid_holds ?k_lid_holds ?a_floor_holds ?l_floor_holds ?c_floor_holds ?k_floor_holds ?a_law_pen ?l_law_pen ?c_law_pen ?k_law_pen ?a_law_draw ?l_law_draw ?c_law_draw ?k_law_draw ?a_law_pick ?l_law_pick ?c_law_pick ?k_law_pick ?a_law_is_int ?l_law_is_int ?c_law_is_int ?k_law_is_int ?a_law_gcd ?l_law_gcd ?c_law_gcd ?k_law_gcd ?a_law_low ?l_law_low ?c_law_low ?k_law_low ?a_law_add ?l_law_add ?c_law_add ?k_law_add ?a_law_sub ?l_law_sub ?c_law_sub ?k_law_sub ?a_law_mul ?l_law_mul ?c_law_mul ?k_law_mul ?a_law_div ?l_law_div ?c_law_div ?k_law_div ?a_law_less ?l_law_less ?c_law_less ?k_law_less ?a_law_is_pair ?l_law_is_pair ?c_law_is_pair ?k_law_is_pair ?a_law_is_told_row ?l_law_is_told_row ?c_law_is_told_row ?k_law_is_told_row ?a_law_dot ?l_law_dot ?c_law_dot ?k_law_dot ?a_law_loose ?l_law_loose ?c_law_loose ?k_law_loose ?a_law_loose_rows ?l_law_loose_rows ?c_law_loose_rows ?k_law_loose_rows ?a_law_late_sheet ?l_law_late_sheet ?c_law_late_sheet ?k_law_late_sheet ?a_law_sizes ?l_law_sizes ?c_law_sizes ?k_law_sizes ?a_law_lid_right ?l_law_lid_right ?c_law_lid_right ?k_law_lid_right ?a_law_floor_right ?l_law_floor_right ?c_law_floor_right ?k_law_floor_right ?a_law_solution ?l_law_solution ?c_law_solution ?k_law_solution ?a_law_own_row ?l_law_own_row ?c_law_own_row ?k_law_own_row ?a_law_bent ?l_law_bent ?c_law_bent ?k_law_bent ?a_law ?l_law ?c_law ?k_law ?pg_Lid ?hd_Lid ?po_Lid ?sa_Lid ?ha_Lid ?hm_Lid ?ms_Lid ?kc_Lid ?n_Lid_row ?ne_Lid ?oo_Lid_Lid ?nf_Lid_Lid ?oo_Lid_Floor ?nf_Lid_Floor ?ob_Lid_bool ?ob_Lid_int ?ob_Lid_str ?ob_Lid_tuple ?ob_Lid_list ?ob_Lid_dict ?bo_NoneType_Lid ?bo_bool_Lid ?bo_int_Lid ?bo_str_Lid ?bo_tuple_Lid ?bo_list_Lid ?bo_dict_Lid ?pg_Floor ?hd_Floor ?po_Floor ?sa_Floor ?ha_Floor ?hm_Floor ?ms_Floor ?kc_Floor ?n_Floor_row ?ne_Floor ?oo_Floor_Lid ?nf_Floor_Lid ?oo_Floor_Floor ?nf_Floor_Floor ?ob_Floor_bool ?ob_Floor_int ?ob_Floor_str ?ob_Floor_tuple ?ob_Floor_list ?ob_Floor_dict ?bo_NoneType_Floor ?bo_bool_Floor ?bo_int_Floor ?bo_str_Floor ?bo_tuple_Floor ?bo_list_Floor ?bo_dict_Floor ?d_Lid_Floor ?hn_ ?ht_ ?zg_abs ?zg_all ?zg_any ?zg_bool ?zg_int ?zg_isinstance ?zg_len ?zg_list ?zg_max ?zg_range ?zg_sum ?zg_tuple ?zg_zip ?zg_gcd
    (case aC_Lid => k_is)
    (case aC_Floor => k_is)
    (case a_is_whole => k_is)
    (case l_is_whole => k_is)
    (case c_is_whole => k_is)
    (case k_is_whole => k_is)
    (case a_is_ratio => k_is)
    (case l_is_ratio => k_is)
    (case c_is_ratio => k_is)
    (case k_is_ratio => k_is)
    (case a_is_told => k_is)
    (case l_is_told => k_is)
    (case c_is_told => k_is)
    (case k_is_told => k_is)
    (case a_lowest => k_is)
    (case l_lowest => k_is)
    (case c_lowest => k_is)
    (case k_lowest => k_is)
    (case a_told => k_is)
    (case l_told => k_is)
    (case c_told => k_is)
    (case k_told => k_is)
    (case a_rless => k_is)
    (case l_rless => k_is)
    (case c_rless => k_is)
    (case k_rless => k_is)
    (case a_is_row => k_is)
    (case l_is_row => k_is)
    (case c_is_row => k_is)
    (case k_is_row => k_is)
    (case a_is_sheet => k_is)
    (case l_is_sheet => k_is)
    (case c_is_sheet => k_is)
    (case k_is_sheet => k_is)
    (case a_sheet_told => k_is)
    (case l_sheet_told => k_is)
    (case c_sheet_told => k_is)
    (case k_sheet_told => k_is)
    (case a_dot_raw => k_is)
    (case l_dot_raw => k_is)
    (case c_dot_raw => k_is)
    (case k_dot_raw => k_is)
    (case a_column_raw => k_is)
    (case l_column_raw => k_is)
    (case c_column_raw => k_is)
    (case k_column_raw => k_is)
    (case a_row_raw => k_is)
    (case l_row_raw => k_is)
    (case c_row_raw => k_is)
    (case k_row_raw => k_is)
    (case a_square_told => k_is)
    (case l_square_told => k_is)
    (case c_square_told => k_is)
    (case k_square_told => k_is)
    (case a_frozen => k_is)
    (case l_frozen => k_is)
    (case c_frozen => k_is)
    (case k_frozen => k_is)
    (case a_Lid_init => k_is)
    (case i_Lid_init => k_is)
    (case l_Lid_init => k_is)
    (case c_Lid_init => k_is)
    (case k_Lid_init => k_is)
    (case a_Lid_eq => k_is)
    (case i_Lid_eq => k_is)
    (case l_Lid_eq => k_is)
    (case c_Lid_eq => k_is)
    (case k_Lid_eq => k_is)
    (case a_Floor_init => k_is)
    (case i_Floor_init => k_is)
    (case l_Floor_init => k_is)
    (case c_Floor_init => k_is)
    (case k_Floor_init => k_is)
    (case a_Floor_eq => k_is)
    (case i_Floor_eq => k_is)
    (case l_Floor_eq => k_is)
    (case c_Floor_eq => k_is)
    (case k_Floor_eq => k_is)
    (case a_size_of => k_is)
    (case l_size_of => k_is)
    (case c_size_of => k_is)
    (case k_size_of => k_is)
    (case a_sizes_raw => k_is)
    (case l_sizes_raw => k_is)
    (case c_sizes_raw => k_is)
    (case k_sizes_raw => k_is)
    (case a_is_lid => k_is)
    (case l_is_lid => k_is)
    (case c_is_lid => k_is)
    (case k_is_lid => k_is)
    (case a_lid_holds => k_is)
    (case l_lid_holds => k_is)
    (case c_lid_holds => k_is)
    (case k_lid_holds => k_is)
    (case a_floor_holds => k_is)
    (case l_floor_holds => k_is)
    (case c_floor_holds => k_is)
    (case k_floor_holds => k_is)
    (case a_law_pen => k_is)
    (case l_law_pen => k_is)
    (case c_law_pen => k_is)
    (case k_law_pen => k_is)
    (case a_law_draw => k_is)
    (case l_law_draw => k_is)
    (case c_law_draw => k_is)
    (case k_law_draw => k_is)
    (case a_law_pick => k_is)
    (case l_law_pick => k_is)
    (case c_law_pick => k_is)
    (case k_law_pick => k_is)
    (case a_law_is_int => k_is)
    (case l_law_is_int => k_is)
    (case c_law_is_int => k_is)
    (case k_law_is_int => k_is)
    (case a_law_gcd => k_is)
    (case l_law_gcd => k_is)
    (case c_law_gcd => k_is)
    (case k_law_gcd => k_is)
    (case a_law_low => k_is)
    (case l_law_low => k_is)
    (case c_law_low => k_is)
    (case k_law_low => k_is)
    (case a_law_add => k_is)
    (case l_law_add => k_is)
    (case c_law_add => k_is)
    (case k_law_add => k_is)
    (case a_law_sub => k_is)
    (case l_law_sub => k_is)
    (case c_law_sub => k_is)
    (case k_law_sub => k_is)
    (case a_law_mul => k_is)
    (case l_law_mul => k_is)
    (case c_law_mul => k_is)
    (case k_law_mul => k_is)
    (case a_law_div => k_is)
    (case l_law_div => k_is)
    (case c_law_div => k_is)
    (case k_law_div => k_is)
    (case a_law_less => k_is)
    (case l_law_less => k_is)
    (case c_law_less => k_is)
    (case k_law_less => k_is)
    (case a_law_is_pair => k_is)
    (case l_law_is_pair => k_is)
    (case c_law_is_pair => k_is)
    (case k_law_is_pair => k_is)
    (case a_law_is_told_row => k_is)
    (case l_law_is_told_row => k_is)
    (case c_law_is_told_row => k_is)
    (case k_law_is_told_row => k_is)
    (case a_law_dot => k_is)
    (case l_law_dot => k_is)
    (case c_law_dot => k_is)
    (case k_law_dot => k_is)
    (case a_law_loose => k_is)
    (case l_law_loose => k_is)
    (case c_law_loose => k_is)
    (case k_law_loose => k_is)
    (case a_law_loose_rows => k_is)
    (case l_law_loose_rows => k_is)
    (case c_law_loose_rows => k_is)
    (case k_law_loose_rows => k_is)
    (case a_law_late_sheet => k_is)
    (case l_law_late_sheet => k_is)
    (case c_law_late_sheet => k_is)
    (case k_law_late_sheet => k_is)
    (case a_law_sizes => k_is)
    (case l_law_sizes => k_is)
    (case c_law_sizes => k_is)
    (case k_law_sizes => k_is)
    (case a_law_lid_right => k_is)
    (case l_law_lid_right => k_is)
    (case c_law_lid_right => k_is)
    (case k_law_lid_right => k_is)
    (case a_law_floor_right => k_is)
    (case l_law_floor_right => k_is)
    (case c_law_floor_right => k_is)
    (case k_law_floor_right => k_is)
    (case a_law_solution => k_is)
    (case l_law_solution => k_is)
    (case c_law_solution => k_is)
    (case k_law_solution => k_is)
    (case a_law_own_row => k_is)
    (case l_law_own_row => k_is)
    (case c_law_own_row => k_is)
    (case k_law_own_row => k_is)
    (case a_law_bent => k_is)
    (case l_law_bent => k_is)
    (case c_law_bent => k_is)
    (case k_law_bent => k_is)
    (case a_law => k_is)
    (case l_law => k_is)
    (case c_law => k_is)
    (case k_law => k_is)
    (case pg_Lid => k_is)
    (case hd_Lid => k_is)
    (case po_Lid => k_is)
    (case sa_Lid => k_is)
    (case ha_Lid => k_is)
    (case hm_Lid => k_is)
    (case ms_Lid => k_is)
    (case kc_Lid => k_is)
    (case n_Lid_row => k_is)
    (case ne_Lid => k_is)
    (case oo_Lid_Lid => kit_is)
    (case nf_Lid_Lid => k_is)
    (case oo_Lid_Floor => kit_is)
    (case nf_Lid_Floor => k_is)
    (case ob_Lid_bool => kit_is)
    (case ob_Lid_int => kit_is)
    (case ob_Lid_str => kit_is)
    (case ob_Lid_tuple => kit_is)
    (case ob_Lid_list => kit_is)
    (case ob_Lid_dict => kit_is)
    (case bo_NoneType_Lid => kit_is)
    (case bo_bool_Lid => kit_is)
    (case bo_int_Lid => kit_is)
    (case bo_str_Lid => kit_is)
    (case bo_tuple_Lid => kit_is)
    (case bo_list_Lid => kit_is)
    (case bo_dict_Lid => kit_is)
    (case pg_Floor => k_is)
    (case hd_Floor => k_is)
    (case po_Floor => k_is)
    (case sa_Floor => k_is)
    (case ha_Floor => k_is)
    (case hm_Floor => k_is)
    (case ms_Floor => k_is)
    (case kc_Floor => k_is)
    (case n_Floor_row => k_is)
    (case ne_Floor => k_is)
    (case oo_Floor_Lid => kit_is)
    (case nf_Floor_Lid => k_is)
    (case oo_Floor_Floor => kit_is)
    (case nf_Floor_Floor => k_is)
    (case ob_Floor_bool => kit_is)
    (case ob_Floor_int => kit_is)
    (case ob_Floor_str => kit_is)
    (case ob_Floor_tuple => kit_is)
    (case ob_Floor_list => kit_is)
    (case ob_Floor_dict => kit_is)
    (case bo_NoneType_Floor => kit_is)
    (case bo_bool_Floor => kit_is)
    (case bo_int_Floor => kit_is)
    (case bo_str_Floor => kit_is)
    (case bo_tuple_Floor => kit_is)
    (case bo_list_Floor => kit_is)
    (case bo_dict_Floor => kit_is)
    (case d_Lid_Floor => rfl)
    (case hn_ => k_is)
    (case ht_ => k_is)
    (case zg_abs => k_is)
    (case zg_all => k_is)
    (case zg_any => k_is)
    (case zg_bool => k_is)
    (case zg_int => k_is)
    (case zg_isinstance => k_is)
    (case zg_len => k_is)
    (case zg_list => k_is)
    (case zg_max => k_is)
    (case zg_range => k_is)
    (case zg_sum => k_is)
    (case zg_tuple => k_is)
    (case zg_zip => k_is)
    (case zg_gcd => k_is)
