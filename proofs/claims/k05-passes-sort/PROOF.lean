import PyProof.Rows.All
import Wide.All
import OpenK.AllK
import Wide.FinOn
import HandS.ForMost
import HandS.Deep
import HandS.Lambda
import HandS.TupAny
import HandS.TupMul
import HandS.TupLe
import HandS.Style
import HandS.Walk
import HandS.Rev
import HandS.RevTup
import HandS.Conv
import HandS.IsInst
import HandS.TupSets
import HandS.SortRule
import HandS.Text
import HandS.Codes
import HandS.StrMore
import HandS.Iter
import KE.KTab
import HandS.HotCalls
import HandS.RaiseFrom
import HandS.CallSlots
import HandS.ExcInit
import HandS.ExcField
import HandS.ExcIs
import KE.KExcIs
import KE.SortKeyHeap
import HandS.SortKw
import HandS.EndTab
import KE.KNestM
import HandS.SetFor
import HandS.Strs
import HandS.Small
import PyProof.Rows.StrRev
import PySem.Challenge.RW_holedeck_k05_whole_passes_sort_every_dec
set_option Elab.async false
set_option linter.all false
set_option maxRecDepth 100000
set_option maxHeartbeats 2000000
/-! Data in place of heaps: what stands behind a value (D), what is known for good (G), what a def owns and may change (own, loc, arg). -/
namespace DL
open PySem PySem.Spec PyProof.Rows L2

/-! ### data -/
inductive D where
  | non | bl (b : Bool) | int (i : Int) | str (s : Str) | tup (xs : List D) | lst (xs : List D) | dic (kvs : List (Key × D)) | ins (C : Addr) (fs : List (Str × D)) | rd (xs : List D) | ty (n : String) | cls (a : Addr) | exc (b : Bool) (a C dx : Addr) (fs : List (Str × D))
/-- a caught exception's object, known -/
def exvO (a : Addr) (oe : Obj) : HO := .ext fun h => h.get? a = some oe
/-- what is kept of an exception's object: its class, its dict -/
def ExcAt (G : Hp) (a C dx : Addr) : Prop := ∃ oe, G a = some (exvO a oe) ∧ oe.cls = .ref C ∧ oe.dict = some dx ∧ ∃ vs, oe.data = .fields vs

mutual
inductive Rp (K : PySem.W.Frag) (G : Hp) : V → D → Prop
  | non : Rp K G .non .non
  | bl (b : Bool) : Rp K G (.bl b) (.bl b)
  | int (i : Int) : Rp K G (.int i) (.int i)
  | str (x : Str) : Rp K G (.str x) (.str x)
  | lst {a : Addr} {xs : List V} {ds : List D} : G a = some (.lst xs) → RpL K G xs ds → Rp K G (.ref a) (.lst ds)
  | tup {a : Addr} {xs : List V} {ds : List D} : SqT K G a xs → RpL K G xs ds → Rp K G (.ref a) (.tup ds)
  | dic {a : Addr} {kvs : List (Key × V)} {ds : List (Key × D)} : Rd G a (.dK kvs) → RpK K G kvs ds → Rp K G (.ref a) (.dic ds)
  | ins {a C dx : Addr} {fs : List (Str × V)} {ds : List (Str × D)} : G a = some (.ins C dx fs) → RpF K G fs ds → Rp K G (.ref a) (.ins C ds)
  | rd {a : Addr} {xs : List V} {ds : List D} : SqL K G a xs → RpL K G xs ds → Rp K G (.ref a) (.rd ds)
  | ty (n : String) : Rp K G (.ty n) (.ty n)
  | cls (a : Addr) : Rp K G (.ref a) (.cls a)
  | exc {b : Bool} {a C dx : Addr} {vs : List (Str × V)} {fs : List (Str × D)} : (b = true → ExcAt G a C dx) → G dx = some (.xd vs) → RpF K G vs fs → Rp K G (.ref a) (.exc b a C dx fs)
inductive RpL (K : PySem.W.Frag) (G : Hp) : List V → List D → Prop
  | nil : RpL K G [] []
  | cons {v : V} {vs : List V} {d : D} {ds : List D} : Rp K G v d → RpL K G vs ds → RpL K G (v :: vs) (d :: ds)
inductive RpK (K : PySem.W.Frag) (G : Hp) : List (Key × V) → List (Key × D) → Prop
  | nil : RpK K G [] []
  | cons {k : Key} {v : V} {vs : List (Key × V)} {d : D} {ds : List (Key × D)} : Rp K G v d → RpK K G vs ds → RpK K G ((k, v) :: vs) ((k, d) :: ds)
inductive RpF (K : PySem.W.Frag) (G : Hp) : List (Str × V) → List (Str × D) → Prop
  | nil : RpF K G [] []
  | cons {k : Str} {v : V} {vs : List (Str × V)} {d : D} {ds : List (Str × D)} : Rp K G v d → RpF K G vs ds → RpF K G ((k, v) :: vs) ((k, d) :: ds)
end

theorem same_rd {H H' : Hp} {a : Addr} {u : HO} (e : Same H H') (h : Rd H a u) : Rd H' a u := by
  rcases h with h | ⟨o, h⟩
  · exact Or.inl (e a _ h)
  · exact Or.inr ⟨o, e a _ h⟩
theorem same_l {K : PySem.W.Frag} {H H' : Hp} {a : Addr} {xs : List V} (e : Same H H') (h : SqL K H a xs) : SqL K H' a xs := by
  rcases h with h | h
  · exact Or.inl (same_rd e h)
  · exact Or.inr h
theorem same_t {K : PySem.W.Frag} {H H' : Hp} {a : Addr} {xs : List V} (e : Same H H') (h : SqT K H a xs) : SqT K H' a xs := by
  rcases h with h | h
  · exact Or.inl (same_rd e h)
  · exact Or.inr h

section
variable {K : PySem.W.Frag} {G G' : Hp}
mutual
theorem Rp.mono (e : Same G G') : ∀ {v : V} {d : D}, Rp K G v d → Rp K G' v d
  | _, _, .non => .non
  | _, _, .bl b => .bl b
  | _, _, .int i => .int i
  | _, _, .str x => .str x
  | _, _, .lst h r => .lst (e _ _ h) (RpL.mono e r)
  | _, _, .rd h r => .rd (same_l e h) (RpL.mono e r)
  | _, _, .ty n => .ty n
  | _, _, .cls a => .cls a
  | _, _, .exc h1 h2 r => .exc (fun hb => let ⟨oe, q1, q2⟩ := h1 hb; ⟨oe, e _ _ q1, q2⟩) (e _ _ h2) (RpF.mono e r)
  | _, _, .tup h r => .tup (same_t e h) (RpL.mono e r)
  | _, _, .dic h r => .dic (same_rd e h) (RpK.mono e r)
  | _, _, .ins h r => .ins (e _ _ h) (RpF.mono e r)
theorem RpL.mono (e : Same G G') : ∀ {v : List V} {d : List D}, RpL K G v d → RpL K G' v d
  | _, _, .nil => .nil
  | _, _, .cons h r => .cons (Rp.mono e h) (RpL.mono e r)
theorem RpK.mono (e : Same G G') : ∀ {v : List (Key × V)} {d : List (Key × D)}, RpK K G v d → RpK K G' v d
  | _, _, .nil => .nil
  | _, _, .cons h r => .cons (Rp.mono e h) (RpK.mono e r)
theorem RpF.mono (e : Same G G') : ∀ {v : List (Str × V)} {d : List (Str × D)}, RpF K G v d → RpF K G' v d
  | _, _, .nil => .nil
  | _, _, .cons h r => .cons (Rp.mono e h) (RpF.mono e r)
end
theorem RpL.length : ∀ {vs : List V} {ds : List D}, RpL K G vs ds → vs.length = ds.length
  | _, _, .nil => rfl
  | _, _, .cons _ r => by rw [List.length_cons, List.length_cons, RpL.length r]
theorem RpL.append : ∀ {vs ws : List V} {ds es : List D}, RpL K G vs ds → RpL K G ws es → RpL K G (vs ++ ws) (ds ++ es)
  | _, _, _, _, .nil, s => s
  | _, _, _, _, .cons h r, s => .cons h (RpL.append r s)
theorem RpL.snoc {vs : List V} {ds : List D} {v : V} {d : D} (r : RpL K G vs ds) (h : Rp K G v d) : RpL K G (vs ++ [v]) (ds ++ [d]) := r.append (.cons h .nil)
theorem RpL.get : ∀ {vs : List V} {ds : List D} {i : Nat} {v : V}, RpL K G vs ds → vs[i]? = some v → ∃ d, ds[i]? = some d ∧ Rp K G v d
  | _, _, _, _, .nil, e => by simp at e
  | _, _, 0, _, .cons h _, e => by simp at e; subst e; exact ⟨_, rfl, h⟩
  | _, _, i + 1, v, .cons _ r, e => by
    obtain ⟨d, h1, h2⟩ := RpL.get (i := i) (v := v) r (by simpa using e)
    exact ⟨d, by simpa using h1, h2⟩
theorem RpL.tget : ∀ {vs : List V} {ds : List D} {i : Nat} {d : D}, RpL K G vs ds → ds[i]? = some d → ∃ v, vs[i]? = some v ∧ Rp K G v d
  | _, _, _, _, .nil, e => by simp at e
  | _, _, 0, _, .cons h _, e => by simp at e; subst e; exact ⟨_, rfl, h⟩
  | _, _, i + 1, d, .cons _ r, e => by
    obtain ⟨v, h1, h2⟩ := RpL.tget (i := i) (d := d) r (by simpa using e)
    exact ⟨v, by simpa using h1, h2⟩
theorem RpL.take : ∀ {vs : List V} {ds : List D} (n : Nat), RpL K G vs ds → RpL K G (vs.take n) (ds.take n)
  | _, _, 0, _ => .nil
  | _, _, _ + 1, .nil => .nil
  | _, _, n + 1, .cons h r => .cons h (RpL.take n r)
theorem RpL.drop : ∀ {vs : List V} {ds : List D} (n : Nat), RpL K G vs ds → RpL K G (vs.drop n) (ds.drop n)
  | _, _, 0, r => r
  | _, _, _ + 1, .nil => .nil
  | _, _, n + 1, .cons _ r => RpL.drop n r
theorem RpL.set {v : V} {d : D} (h : Rp K G v d) : ∀ {vs : List V} {ds : List D} (i : Nat), RpL K G vs ds → RpL K G (vs.set i v) (ds.set i d)
  | _, _, _, .nil => .nil
  | _, _, 0, .cons _ t => .cons h t
  | _, _, i + 1, .cons q t => .cons q (RpL.set h i t)
theorem RpL.eraseIdx : ∀ {vs : List V} {ds : List D} (i : Nat), RpL K G vs ds → RpL K G (vs.eraseIdx i) (ds.eraseIdx i)
  | _, _, _, .nil => .nil
  | _, _, 0, .cons _ t => t
  | _, _, i + 1, .cons q t => .cons q (RpL.eraseIdx i t)
theorem RpL.reverse : ∀ {vs : List V} {ds : List D}, RpL K G vs ds → RpL K G vs.reverse ds.reverse
  | _, _, .nil => .nil
  | _, _, .cons h r => by
    rw [List.reverse_cons, List.reverse_cons]
    exact (RpL.reverse r).snoc h
theorem RpL.flatten {vss : List (List V)} {dss : List (List D)} (h : Paired (RpL K G) vss dss) : RpL K G vss.flatten dss.flatten := by
  induction h with
  | nil => exact .nil
  | cons h _ ih => exact RpL.append h ih
theorem RpL.replicate {v : V} {d : D} (h : Rp K G v d) : ∀ n : Nat, RpL K G (List.replicate n v) (List.replicate n d)
  | 0 => .nil
  | n + 1 => .cons h (RpL.replicate h n)
theorem RpL.dget {vs : List V} {ds : List D} {i : Int} {d : D} (r : RpL K G vs ds) (h : atI ds i = some d) : ∃ v, atI vs i = some v ∧ Rp K G v d := by
  unfold atI at h ⊢
  rw [r.length]
  cases e : ixN ds.length i with
  | none => rw [e] at h; cases h
  | some j =>
    rw [e] at h
    exact r.tget h
theorem RpK.length : ∀ {vs : List (Key × V)} {ds : List (Key × D)}, RpK K G vs ds → vs.length = ds.length
  | _, _, .nil => rfl
  | _, _, .cons _ r => by rw [List.length_cons, List.length_cons, RpK.length r]
theorem RpF.length : ∀ {vs : List (Str × V)} {ds : List (Str × D)}, RpF K G vs ds → vs.length = ds.length
  | _, _, .nil => rfl
  | _, _, .cons _ r => by rw [List.length_cons, List.length_cons, RpF.length r]
end

/-! ### what a def owns -/
/-- a tree of things of one's own: each with its address; at its leaves data -/
inductive OT where
  | val (d : D) | lst (p : Addr) (xs : List OT) | tup (p : Addr) (xs : List OT) | ins (p dx C : Addr) (fs : List (Str × OT)) | dic (p : Addr) (kvs : List (Key × D))
def OT.root : OT → V
  | .val _ => .non
  | .lst p _ => .ref p
  | .tup p _ => .ref p
  | .ins p _ _ _ => .ref p
  | .dic p _ => .ref p
def OT.node : OT → Bool
  | .val _ => false
  | _ => true
mutual
inductive Own (K : PySem.W.Frag) (G H : Hp) : V → OT → List Addr → Prop
  | val {v : V} {d : D} : Rp K G v d → Own K G H v (.val d) []
  | lst {p : Addr} {vs : List V} {ts : List OT} {A : List Addr} : H p = some (.lst vs) → OwnL K G H vs ts A → Own K G H (.ref p) (.lst p ts) (p :: A)
  | tup {p : Addr} {vs : List V} {ts : List OT} {A : List Addr} : G p = some (.tup vs) → OwnL K G H vs ts A → Own K G H (.ref p) (.tup p ts) A
  | ins {p dx C : Addr} {fs : List (Str × V)} {ts : List (Str × OT)} {A : List Addr} : H p = some (.ins C dx fs) → H dx = some (.own p) → OwnF K G H fs ts A → Own K G H (.ref p) (.ins p dx C ts) (p :: dx :: A)
  | dic {p : Addr} {vs : List (Key × V)} {ds : List (Key × D)} : H p = some (.dK vs) → RpK K G vs ds → Own K G H (.ref p) (.dic p ds) [p]
inductive OwnL (K : PySem.W.Frag) (G H : Hp) : List V → List OT → List Addr → Prop
  | nil : OwnL K G H [] [] []
  | cons {v : V} {vs : List V} {t : OT} {ts : List OT} {A B : List Addr} : Own K G H v t A → OwnL K G H vs ts B → OwnL K G H (v :: vs) (t :: ts) (A ++ B)
inductive OwnF (K : PySem.W.Frag) (G H : Hp) : List (Str × V) → List (Str × OT) → List Addr → Prop
  | nil : OwnF K G H [] [] []
  | cons {k : Str} {v : V} {vs : List (Str × V)} {t : OT} {ts : List (Str × OT)} {A B : List Addr} : Own K G H v t A → OwnF K G H vs ts B → OwnF K G H ((k, v) :: vs) ((k, t) :: ts) (A ++ B)
end
section
variable {K : PySem.W.Frag} {G G' H H' : Hp}
mutual
theorem Own.st (e : Same G G') : ∀ {v : V} {t : OT} {A : List Addr}, Own K G H v t A → (∀ a ∈ A, H' a = H a) → Own K G' H' v t A
  | _, _, _, .val r, _ => .val (r.mono e)
  | _, _, _, .lst h r, k => .lst ((k _ List.mem_cons_self).trans h) (OwnL.st e r fun a ha => k a (List.mem_cons_of_mem _ ha))
  | _, _, _, .tup h r, k => .tup (e _ _ h) (OwnL.st e r k)
  | _, _, _, .dic h r, k => .dic ((k _ List.mem_cons_self).trans h) (r.mono e)
  | _, _, _, .ins h h2 r, k => .ins ((k _ List.mem_cons_self).trans h) ((k _ (List.mem_cons_of_mem _ List.mem_cons_self)).trans h2) (OwnF.st e r fun a ha => k a (List.mem_cons_of_mem _ (List.mem_cons_of_mem _ ha)))
theorem OwnL.st (e : Same G G') : ∀ {v : List V} {t : List OT} {A : List Addr}, OwnL K G H v t A → (∀ a ∈ A, H' a = H a) → OwnL K G' H' v t A
  | _, _, _, .nil, _ => .nil
  | _, _, _, .cons h r, k => .cons (Own.st e h fun a ha => k a (List.mem_append_left _ ha)) (OwnL.st e r fun a ha => k a (List.mem_append_right _ ha))
theorem OwnF.st (e : Same G G') : ∀ {v : List (Str × V)} {t : List (Str × OT)} {A : List Addr}, OwnF K G H v t A → (∀ a ∈ A, H' a = H a) → OwnF K G' H' v t A
  | _, _, _, .nil, _ => .nil
  | _, _, _, .cons h r, k => .cons (Own.st e h fun a ha => k a (List.mem_append_left _ ha)) (OwnF.st e r fun a ha => k a (List.mem_append_right _ ha))
end
end
def OT.ok (t : OT) (K : PySem.W.Frag) (G H : Hp) (v : V) (F : Addr → Prop) : Prop := t.node = true ∧ ∃ A, Own K G H v t A ∧ A.Nodup ∧ ∀ a, F a ↔ a ∈ A
theorem OT.st {t : OT} {K : PySem.W.Frag} {G H G' H' : Hp} {v : V} {F : Addr → Prop} (h : t.ok K G H v F) (e : Same G G') (k : ∀ a, F a → H' a = H a) : t.ok K G' H' v F := by
  obtain ⟨n, A, h1, h2, h3⟩ := h
  exact ⟨n, A, h1.st e fun a ha => k a ((h3 a).mpr ha), h2, h3⟩
theorem OT.pin {t : OT} {K : PySem.W.Frag} {G H : Hp} {v : V} {F : Addr → Prop} (h : t.ok K G H v F) : v = t.root := by
  obtain ⟨n, A, h1, _⟩ := h
  cases h1 with
  | val _ => cases n
  | lst _ _ => rfl
  | tup _ _ => rfl
  | ins _ _ _ => rfl
  | dic _ _ => rfl

/-- a slot: nothing known; data; a list of one's own; another thing of one's own; one that the caller handed in -/
inductive Sl where
  | un | val (d : D) | own (ds : List D) | loc (S : OT) | arg (S : OT)

def Sl.isArg : Option Sl → Prop
  | some (.arg _) => True
  | _ => False
/-- what a slot says of its value -/
def SlOk (K : PySem.W.Frag) (G H : Hp) (o : Option V) (F : Addr → Prop) : Sl → Prop
  | .un => ∀ a, ¬ F a
  | .val d => (∀ a, ¬ F a) ∧ ∃ v, o = some v ∧ Rp K G v d
  | .own ds => ∃ p vs, o = some (.ref p) ∧ (∀ a, F a ↔ a = p) ∧ H p = some (.lst vs) ∧ RpL K G vs ds
  | .loc S => ∃ v, o = some v ∧ S.ok K G H v F
  | .arg S => ∃ v, o = some v ∧ S.ok K G H v F
theorem SlOk.st {K : PySem.W.Frag} {G H G' H' : Hp} {o : Option V} {F : Addr → Prop} {x : Sl} (h : SlOk K G H o F x) (e : Same G G') (k : ∀ a, F a → H' a = H a) : SlOk K G' H' o F x := by
  cases x with
  | un => exact h
  | val d => obtain ⟨h1, v, h2, h3⟩ := h; exact ⟨h1, v, h2, h3.mono e⟩
  | own ds =>
    obtain ⟨p, vs, h1, h2, h3, h4⟩ := h
    exact ⟨p, vs, h1, h2, by rw [k p ((h2 p).mpr rfl)]; exact h3, h4.mono e⟩
  | loc S => obtain ⟨v, h1, h2⟩ := h; exact ⟨v, h1, OT.st h2 e k⟩
  | arg S => obtain ⟨v, h1, h2⟩ := h; exact ⟨v, h1, OT.st h2 e k⟩

/-! ### tables of code objects: written whenever a lambda is made -/
/-- the tables that a law's lambdas write: address, name of the code objects in it -/
class Tabl where
  T : List (Addr × Str)
variable [Tabl]
def IsTab (a : Addr) : Prop := ∃ p ∈ Tabl.T, p.1 = a
/-- the tables stand; their code objects are known for good -/
def TabG (G H : Hp) : Prop := ∀ p ∈ Tabl.T, G p.1 = none ∧ ∃ ps : Array Value, H p.1 = some (.tbl ps) ∧ TriplesOk ps.toList ∧ ∀ (pos : Pos) (cv : Value), codeAmong pos ps.toList = some cv → ∃ c, cv = .ref c ∧ G c = some (LamX.CodeO c p.2)
theorem TabG.at {G H : Hp} (t : TabG G H) {a : Addr} (h : IsTab a) : G a = none ∧ ∃ ps, H a = some (.tbl ps) := by
  obtain ⟨p, hp, rfl⟩ := h
  obtain ⟨h1, ps, h2, _⟩ := t p hp
  exact ⟨h1, ps, h2⟩
theorem TabG.ne {G H : Hp} (t : TabG G H) {a : Addr} (h : IsTab a) : H a ≠ none := by
  obtain ⟨_, ps, e⟩ := t.at h
  rw [e]
  exact Option.some_ne_none _
theorem TabG.up {G G' H H' : Hp} (t : TabG G H) (e : Same G G') (g : ∀ a, IsTab a → G' a = none) (k : ∀ a, IsTab a → H' a = H a) : TabG G' H' := fun p hp => by
  obtain ⟨_, ps, h2, h3, h4⟩ := t p hp
  refine ⟨g _ ⟨p, hp, rfl⟩, ps, (k _ ⟨p, hp, rfl⟩).trans h2, h3, fun pos cv hc => ?_⟩
  obtain ⟨c, e1, e2⟩ := h4 pos cv hc
  exact ⟨c, e1, e _ _ e2⟩
/-- what is known stands in the heap, the tables too -/
structure Top (G H : Hp) : Prop where
  s : Same G H
  t : TabG G H
theorem Top.trans {G H H' : Hp} (t : Top G H) (e : Same H H') : Top G H' := ⟨t.s.trans e, t.t.up (Same.refl G) (fun a z => (t.t.at z).1) fun a z => by
    obtain ⟨_, ps, q⟩ := t.t.at z
    rw [e a _ q, q]⟩
/-- all but the tables stays; the tables may have grown -/
structure SamT (G' H H' : Hp) : Prop where
  k : ∀ a o, H a = some o → ¬ IsTab a → H' a = some o
  t : TabG G' H'
theorem SamT.ne {G' H H' : Hp} (e : SamT G' H H') {a : Addr} (h : H a ≠ none) : H' a ≠ none := by
  by_cases t : IsTab a
  · exact e.t.ne t
  · cases q : H a with
    | none => exact absurd q h
    | some o => rw [e.k a o q t]; exact Option.some_ne_none _
mutual
theorem Own.nt {K : PySem.W.Frag} {G H : Hp} (tb : TabG G H) : ∀ {v : V} {t : OT} {A : List Addr}, Own K G H v t A → ∀ a ∈ A, ¬ IsTab a
  | _, _, _, .val _, _, h => nomatch h
  | _, _, _, .lst h r, a, ha => fun z => by
    rcases List.mem_cons.mp ha with e | ha
    · obtain ⟨_, ps, q⟩ := tb.at z
      rw [e, h] at q
      cases q
    · exact OwnL.nt tb r a ha z
  | _, _, _, .tup _ r, a, ha => OwnL.nt tb r a ha
  | _, _, _, .dic h _, a, ha => fun z => by
    obtain ⟨_, ps, q⟩ := tb.at z
    rw [List.mem_singleton.mp ha, h] at q
    cases q
  | _, _, _, .ins h h2 r, a, ha => fun z => by
    rcases List.mem_cons.mp ha with e | ha
    · obtain ⟨_, ps, q⟩ := tb.at z
      rw [e, h] at q
      cases q
    · rcases List.mem_cons.mp ha with e | ha
      · obtain ⟨_, ps, q⟩ := tb.at z
        rw [e, h2] at q
        cases q
      · exact OwnF.nt tb r a ha z
theorem OwnL.nt {K : PySem.W.Frag} {G H : Hp} (tb : TabG G H) : ∀ {v : List V} {t : List OT} {A : List Addr}, OwnL K G H v t A → ∀ a ∈ A, ¬ IsTab a
  | _, _, _, .nil, _, h => nomatch h
  | _, _, _, .cons h r, a, ha => by
    rcases List.mem_append.mp ha with ha | ha
    · exact Own.nt tb h a ha
    · exact OwnL.nt tb r a ha
theorem OwnF.nt {K : PySem.W.Frag} {G H : Hp} (tb : TabG G H) : ∀ {v : List (Str × V)} {t : List (Str × OT)} {A : List Addr}, OwnF K G H v t A → ∀ a ∈ A, ¬ IsTab a
  | _, _, _, .nil, _, h => nomatch h
  | _, _, _, .cons h r, a, ha => by
    rcases List.mem_append.mp ha with ha | ha
    · exact Own.nt tb h a ha
    · exact OwnF.nt tb r a ha
end
theorem SlOk.nt {K : PySem.W.Frag} {G H : Hp} (tb : TabG G H) {o : Option V} {F : Addr → Prop} {x : Sl} (h : SlOk K G H o F x) {a : Addr} (fa : F a) : ¬ IsTab a := by
  cases x with
  | un => exact absurd fa (h a)
  | val d => exact absurd fa (h.1 a)
  | own ds =>
    obtain ⟨p, vs, h1, h2, h3, h4⟩ := h
    intro z
    obtain ⟨_, ps, q⟩ := tb.at z
    rw [(h2 a).mp fa, h3] at q
    cases q
  | loc S =>
    obtain ⟨v, _, _, A, o, _, hA⟩ := h
    exact o.nt tb a ((hA a).mp fa)
  | arg S =>
    obtain ⟨v, _, _, A, o, _, hA⟩ := h
    exact o.nt tb a ((hA a).mp fa)

/-- the state of a def's run: G0, H0 at its entry; G what is known for good, H the heap; M what the caller lets change; Z what stands aside, in nobody's reach -/
structure At (K : PySem.W.Frag) (M : Addr → Prop) (Z G0 H0 G H : Hp) (σ : L2.St) (ρ : List Sl) (F : Nat → Addr → Prop) : Prop where
  gh : Same G H
  g0 : Same G0 G
  h0 : ∀ a o, H0 a = some o → ¬ M a → H a = some o
  fr : ∀ a, H0 a ≠ none → G a = G0 a
  hn : ∀ a, H0 a ≠ none → H a ≠ none
  len : σ.length = ρ.length
  sl : ∀ i x, ρ[i]? = some x → SlOk K G H ((σ[i]?).join) (F i) x
  no : ∀ i, ρ[i]? = none → ∀ a, ¬ F i a
  fp : ∀ i a, F i a → G a = none ∧ H a ≠ none ∧ (H0 a = none ∨ (M a ∧ Sl.isArg (ρ[i]?)))
  dj : ∀ i j a, F i a → F j a → i = j
  hz : ∀ a o, Z a = some o → H a = some o ∧ G a = none ∧ ∀ i, ¬ F i a
  tb : TabG G H
  mt : ∀ a, IsTab a → M a ∧ Z a = none ∧ H0 a ≠ none

section
variable {K : PySem.W.Frag} {M : Addr → Prop} {Z G0 H0 G H : Hp} {σ : L2.St} {ρ : List Sl} {F : Nat → Addr → Prop}
theorem At.val {i : Nat} {d : D} (A : At K M Z G0 H0 G H σ ρ F) (h : ρ[i]? = some (.val d)) : ∃ v, σ[i]? = some (some v) ∧ Rp K G v d := by
  obtain ⟨_, v, e, r⟩ := A.sl i _ h
  refine ⟨v, ?_, r⟩
  cases q : σ[i]? with
  | none => rw [q] at e; cases e
  | some o => rw [q] at e; exact congrArg some e
theorem join_some {o : Option (Option V)} {v : V} (h : o.join = some v) : o = some (some v) := by
  cases o with
  | none => cases h
  | some p => exact congrArg some h
theorem At.top (A : At K M Z G0 H0 G H σ ρ F) : Top G H := ⟨A.gh, A.tb⟩
theorem At.nt (A : At K M Z G0 H0 G H σ ρ F) {i : Nat} {a : Addr} (fa : F i a) : ¬ IsTab a := by
  cases q : ρ[i]? with
  | none => exact absurd fa (A.no i q a)
  | some x => exact (A.sl i x q).nt A.tb fa
theorem At.nz (A : At K M Z G0 H0 G H σ ρ F) {a : Addr} {o : HO} (h : Z a = some o) : ¬ IsTab a := fun z => by
  rw [(A.mt a z).2.1] at h
  cases h
theorem At.n0 (A : At K M Z G0 H0 G H σ ρ F) {a : Addr} (h : H0 a = none) : ¬ IsTab a := fun z => (A.mt a z).2.2 h
/-- the heap and what is known grow, the tables too; what is owned stands -/
theorem At.growT {G' H' : Hp} (A : At K M Z G0 H0 G H σ ρ F) (eG : Same G G') (eH : SamT G' H H') (eGH : Same G' H') (old : ∀ a, H a ≠ none → G' a = G a) : At K M Z G0 H0 G' H' σ ρ F where
  gh := eGH
  g0 := A.g0.trans eG
  h0 := fun a o h n => eH.k a o (A.h0 a o h n) fun z => n (A.mt a z).1
  fr := fun a h => (old a (A.hn a h)).trans (A.fr a h)
  hn := fun a h => eH.ne (A.hn a h)
  len := A.len
  sl := fun i x h => (A.sl i x h).st eG fun a fa => by
    obtain ⟨_, h2, _⟩ := A.fp i a fa
    cases q : H a with
    | none => exact absurd q h2
    | some o => exact eH.k a o q (A.nt fa)
  no := A.no
  fp := fun i a fa => by
    obtain ⟨h1, h2, h3⟩ := A.fp i a fa
    exact ⟨(old a h2).trans h1, eH.ne h2, h3⟩
  dj := A.dj
  hz := fun a o h => by
    obtain ⟨h1, h2, h3⟩ := A.hz a o h
    exact ⟨eH.k a o h1 (A.nz h), (old a (by rw [h1]; exact Option.some_ne_none _)).trans h2, h3⟩
  tb := eH.t
  mt := A.mt
theorem TabG.same {G G' H H' : Hp} (t : TabG G H) (eG : Same G G') (eH : Same H H') (old : ∀ a, H a ≠ none → G' a = G a) : TabG G' H' :=
  t.up eG (fun a z => (old a (t.ne z)).trans (t.at z).1) fun a z => by
    obtain ⟨_, ps, e⟩ := t.at z
    rw [eH a _ e, e]
theorem TabG.samT {G G' H H' : Hp} (t : TabG G H) (eG : Same G G') (eH : Same H H') (old : ∀ a, H a ≠ none → G' a = G a) : SamT G' H H' := ⟨fun a o h _ => eH a o h, t.same eG eH old⟩
/-- the heap and what is known grow; what is owned stands -/
theorem At.grow {G' H' : Hp} (A : At K M Z G0 H0 G H σ ρ F) (eG : Same G G') (eH : Same H H') (eGH : Same G' H') (old : ∀ a, H a ≠ none → G' a = G a) : At K M Z G0 H0 G' H' σ ρ F := A.growT eG (A.tb.samT eG eH old) eGH old
/-- a new thing is made and known -/
theorem At.new {p : Addr} {o : HO} (A : At K M Z G0 H0 G H σ ρ F) (n : H p = none) : At K M Z G0 H0 (upd G p o) (upd H p o) σ ρ F ∧ Same G (upd G p o) := by
  have gn : G p = none := A.gh.free n
  have e : Same G (upd G p o) := fun a u q => by rw [upd_ne (ne_of_none q gn)]; exact q
  have e2 : Same H (upd H p o) := fun a u q => by rw [upd_ne (ne_of_none q n)]; exact q
  refine ⟨A.grow e e2 (fun a u q => ?_) fun a h => upd_ne fun z => h (by rw [z]; exact n), e⟩
  by_cases ha : a = p
  · subst ha; rw [upd_same] at q ⊢; exact q
  · rw [upd_ne ha] at q ⊢; exact A.gh a u q
/-- a new thing is made; it isn't known for good -/
theorem At.newH {p : Addr} {o : HO} (A : At K M Z G0 H0 G H σ ρ F) (n : H p = none) : At K M Z G0 H0 G (upd H p o) σ ρ F := by
  have gn : G p = none := A.gh.free n
  have e2 : Same H (upd H p o) := fun a u q => by rw [upd_ne (ne_of_none q n)]; exact q
  exact A.grow (Same.refl G) e2 (A.gh.trans e2) fun a h => rfl
/-- a thing of the heap that nobody owns becomes known -/
theorem At.know {p : Addr} {o : HO} (A : At K M Z G0 H0 G H σ ρ F) (h : H p = some o) (n0 : H0 p = none) (nf : ∀ i, ¬ F i p) (gn : G p = none) (zn : Z p = none) : At K M Z G0 H0 (upd G p o) H σ ρ F ∧ Same G (upd G p o) := by
  have e : Same G (upd G p o) := fun a u q => by rw [upd_ne (ne_of_none q gn)]; exact q
  refine ⟨⟨fun a u q => ?_, A.g0.trans e, A.h0, fun a ha => ?_, A.hn, A.len, fun i x hx => (A.sl i x hx).st e fun _ _ => rfl, A.no, fun i a fa => ?_, A.dj, fun a u hz => ?_, A.tb.up e (fun a z => by rw [upd_ne fun q => A.n0 n0 (by rw [← q]; exact z)]; exact (A.tb.at z).1) fun _ _ => rfl, A.mt⟩, e⟩
  · by_cases ha : a = p
    · subst ha; rw [upd_same] at q; rw [h]; exact q
    · rw [upd_ne ha] at q; exact A.gh a u q
  · rw [upd_ne fun z => ha (by rw [z]; exact n0)]
    exact A.fr a ha
  · obtain ⟨h1, h2, h3⟩ := A.fp i a fa
    refine ⟨?_, h2, h3⟩
    rw [upd_ne fun z => nf i (by rw [← z]; exact fa)]
    exact h1
  · obtain ⟨h1, h2, h3⟩ := A.hz a u hz
    refine ⟨h1, ?_, h3⟩
    rw [upd_ne fun z => ?_]
    · exact h2
    · rw [z, zn] at hz
      cases hz
/-- a result and what it takes up: nobody else's, not known for good -/
structure ResOk (K : PySem.W.Frag) (Z H0 G H : Hp) (F : Nat → Addr → Prop) (v : V) (x : Sl) (Fn : Addr → Prop) : Prop where
  ok : SlOk K G H (some v) Fn x
  na : ¬ Sl.isArg (some x)
  fr : ∀ a, Fn a → G a = none ∧ H a ≠ none ∧ H0 a = none ∧ Z a = none ∧ ∀ j, ¬ F j a
theorem ResOk.val {v : V} {d : D} (r : Rp K G v d) : ResOk K Z H0 G H F v (.val d) (fun _ => False) := ⟨⟨fun _ z => z, v, rfl, r⟩, fun z => z, fun _ z => z.elim⟩
/-- a slot is set -/
theorem At.set {i : Nat} {v : V} {x : Sl} {Fn : Addr → Prop} (A : At K M Z G0 H0 G H σ ρ F) (r : ResOk K Z H0 G H F v x Fn) (hi : i < ρ.length) (na : ¬ Sl.isArg (ρ[i]?)) :
    At K M Z G0 H0 G H (σ.set i (some v)) (ρ.set i x) (fun j a => if j = i then Fn a else F j a) where
  gh := A.gh
  g0 := A.g0
  h0 := A.h0
  fr := A.fr
  hn := A.hn
  len := by rw [List.length_set, List.length_set]; exact A.len
  sl := fun j y h => by
    by_cases hj : j = i
    · subst hj
      rw [List.getElem?_set_self hi] at h
      have ey : x = y := Option.some.inj h
      rw [List.getElem?_set_self (by rw [A.len]; exact hi)]
      have e : (fun a => if j = j then Fn a else F j a) = Fn := by funext a; exact if_pos rfl
      show SlOk K G H (some v) (fun a => if j = j then Fn a else F j a) y
      rw [e, ← ey]
      exact r.ok
    · rw [List.getElem?_set_ne (Ne.symm hj)] at h
      rw [List.getElem?_set_ne (Ne.symm hj)]
      have e : (fun a => if j = i then Fn a else F j a) = F j := by funext a; exact if_neg hj
      show SlOk K G H _ (fun a => if j = i then Fn a else F j a) y
      rw [e]
      exact A.sl j y h
  no := fun j h a z => by
    rw [List.getElem?_eq_none_iff] at h
    have hj : j ≠ i := fun q => by
      rw [q, List.length_set] at h
      omega
    rw [if_neg hj] at z
    exact A.no j (List.getElem?_eq_none_iff.mpr (by simpa using h)) a z
  fp := fun j a z => by
    by_cases hj : j = i
    · rw [if_pos hj] at z
      obtain ⟨h1, h2, h3, _, _⟩ := r.fr a z
      exact ⟨h1, h2, .inl h3⟩
    · rw [if_neg hj] at z
      obtain ⟨h1, h2, h3⟩ := A.fp j a z
      rw [List.getElem?_set_ne (Ne.symm hj)]
      exact ⟨h1, h2, h3⟩
  dj := fun j k a y z => by
    by_cases hj : j = i
    · by_cases hk : k = i
      · exact hj.trans hk.symm
      · rw [if_pos hj] at y
        rw [if_neg hk] at z
        exact absurd z ((r.fr a y).2.2.2.2 k)
    · rw [if_neg hj] at y
      by_cases hk : k = i
      · rw [if_pos hk] at z
        exact absurd y ((r.fr a z).2.2.2.2 j)
      · rw [if_neg hk] at z
        exact A.dj j k a y z
  hz := fun a o h => by
    obtain ⟨h1, h2, h3⟩ := A.hz a o h
    refine ⟨h1, h2, fun j z => ?_⟩
    by_cases hj : j = i
    · rw [if_pos hj] at z
      have q := (r.fr a z).2.2.2.1
      rw [h] at q
      cases q
    · rw [if_neg hj] at z
      exact h3 j z
  tb := A.tb
  mt := A.mt
/-- what stands in a slot is changed: a thing of one's own, or one handed in -/
theorem At.chgT {i : Nat} {x : Sl} {Fn : Addr → Prop} {G' H' : Hp} (A : At K M Z G0 H0 G H σ ρ F) (hi : i < ρ.length) (eG : Same G G') (eGH : Same G' H') (tb' : TabG G' H') (old : ∀ a, H a ≠ none → G' a = G a) (hn : ∀ a, H a ≠ none → H' a ≠ none)
    (eH : ∀ a o, H a = some o → ¬ F i a → ¬ IsTab a → H' a = some o) (hx : SlOk K G' H' ((σ[i]?).join) Fn x) (hs : Sl.isArg (ρ[i]?) → Sl.isArg (some x))
    (hf : ∀ a, Fn a → G' a = none ∧ H' a ≠ none ∧ (F i a ∨ H a = none ∨ (H0 a = none ∧ Z a = none ∧ ∀ j, ¬ F j a))) : At K M Z G0 H0 G' H' σ (ρ.set i x) (fun j a => if j = i then Fn a else F j a) where
  gh := eGH
  g0 := A.g0.trans eG
  h0 := fun a o h n => eH a o (A.h0 a o h n) (fun z => by
    obtain ⟨_, _, q⟩ := A.fp i a z
    rcases q with q | q
    · rw [h] at q; cases q
    · exact n q.1) fun z => n (A.mt a z).1
  fr := fun a h => (old a (A.hn a h)).trans (A.fr a h)
  hn := fun a h => hn a (A.hn a h)
  len := by rw [List.length_set]; exact A.len
  sl := fun j y h => by
    by_cases hj : j = i
    · subst hj
      rw [List.getElem?_set_self hi] at h
      have ey : x = y := Option.some.inj h
      have e : (fun a => if j = j then Fn a else F j a) = Fn := by funext a; exact if_pos rfl
      show SlOk K G' H' _ (fun a => if j = j then Fn a else F j a) y
      rw [e, ← ey]
      exact hx
    · rw [List.getElem?_set_ne (Ne.symm hj)] at h
      have e : (fun a => if j = i then Fn a else F j a) = F j := by funext a; exact if_neg hj
      show SlOk K G' H' _ (fun a => if j = i then Fn a else F j a) y
      rw [e]
      refine (A.sl j y h).st eG fun a fa => ?_
      obtain ⟨_, h2, _⟩ := A.fp j a fa
      cases q : H a with
      | none => exact absurd q h2
      | some o => exact eH a o q (fun z => hj (A.dj j i a fa z)) (A.nt fa)
  no := fun j h a z => by
    rw [List.getElem?_eq_none_iff] at h
    have hj : j ≠ i := fun q => by
      rw [q, List.length_set] at h
      omega
    rw [if_neg hj] at z
    exact A.no j (List.getElem?_eq_none_iff.mpr (by simpa using h)) a z
  fp := fun j a z => by
    by_cases hj : j = i
    · subst hj
      rw [if_pos rfl] at z
      obtain ⟨h1, h2, h3⟩ := hf a z
      refine ⟨h1, h2, ?_⟩
      rw [List.getElem?_set_self hi]
      rcases h3 with h3 | h3
      · obtain ⟨_, _, h4⟩ := A.fp j a h3
        rcases h4 with h4 | h4
        · exact .inl h4
        · exact .inr ⟨h4.1, hs h4.2⟩
      · rcases h3 with h3 | h3
        · refine .inl ?_
          cases q : H0 a with
          | none => rfl
          | some o => exact absurd h3 (A.hn a (by rw [q]; exact fun z => nomatch z))
        · exact .inl h3.1
    · rw [if_neg hj] at z
      obtain ⟨h1, h2, h3⟩ := A.fp j a z
      rw [List.getElem?_set_ne (Ne.symm hj)]
      exact ⟨(old a h2).trans h1, hn a h2, h3⟩
  dj := fun j k a y z => by
    have far : ∀ m, m ≠ i → F m a → ¬ Fn a := fun m hm fm fn => by
      obtain ⟨_, h2, _⟩ := A.fp m a fm
      rcases (hf a fn).2.2 with q | q | q
      · exact hm (A.dj m i a fm q)
      · exact h2 q
      · exact q.2.2 m fm
    by_cases hj : j = i
    · by_cases hk : k = i
      · exact hj.trans hk.symm
      · rw [if_pos hj] at y
        rw [if_neg hk] at z
        exact absurd y (far k hk z)
    · rw [if_neg hj] at y
      by_cases hk : k = i
      · rw [if_pos hk] at z
        exact absurd z (far j hj y)
      · rw [if_neg hk] at z
        exact A.dj j k a y z
  hz := fun a o h => by
    obtain ⟨h1, h2, h3⟩ := A.hz a o h
    refine ⟨eH a o h1 (h3 i) (A.nz h), (old a (by rw [h1]; exact Option.some_ne_none _)).trans h2, fun j z => ?_⟩
    by_cases hj : j = i
    · rw [if_pos hj] at z
      rcases (hf a z).2.2 with q | q | q
      · exact h3 i q
      · rw [h1] at q
        cases q
      · have q2 := q.2.1
        rw [h] at q2
        cases q2
    · rw [if_neg hj] at z
      exact h3 j z
  tb := tb'
  mt := A.mt
theorem At.chg {i : Nat} {x : Sl} {Fn : Addr → Prop} {G' H' : Hp} (A : At K M Z G0 H0 G H σ ρ F) (hi : i < ρ.length) (eG : Same G G') (eGH : Same G' H') (old : ∀ a, H a ≠ none → G' a = G a) (hn : ∀ a, H a ≠ none → H' a ≠ none)
    (eH : ∀ a o, H a = some o → ¬ F i a → H' a = some o) (hx : SlOk K G' H' ((σ[i]?).join) Fn x) (hs : Sl.isArg (ρ[i]?) → Sl.isArg (some x))
    (hf : ∀ a, Fn a → G' a = none ∧ H' a ≠ none ∧ (F i a ∨ H a = none ∨ (H0 a = none ∧ Z a = none ∧ ∀ j, ¬ F j a))) : At K M Z G0 H0 G' H' σ (ρ.set i x) (fun j a => if j = i then Fn a else F j a) :=
  A.chgT hi eG eGH (A.tb.up eG (fun a z => (old a (A.tb.ne z)).trans (A.tb.at z).1) fun a z => by
    obtain ⟨_, ps, e⟩ := A.tb.at z
    rw [eH a _ e fun fa => A.nt fa z, e]) old hn (fun a o h nf _ => eH a o h nf) hx hs hf
/-- a list of one's own is changed -/
theorem At.own_at {i : Nat} {ds : List D} (A : At K M Z G0 H0 G H σ ρ F) (h : ρ[i]? = some (.own ds)) :
    ∃ p vs, σ[i]? = some (some (.ref p)) ∧ (∀ a, F i a ↔ a = p) ∧ H p = some (.lst vs) ∧ RpL K G vs ds ∧ G p = none ∧ H0 p = none := by
  obtain ⟨p, vs, h1, h2, h3, h4⟩ := A.sl i _ h
  obtain ⟨h5, _, h6⟩ := A.fp i p ((h2 p).mpr rfl)
  refine ⟨p, vs, join_some h1, h2, h3, h4, h5, ?_⟩
  rcases h6 with h6 | ⟨_, h6⟩
  · exact h6
  · rw [h] at h6
    exact h6.elim
theorem At.own_set {i : Nat} {p : Addr} {vs : List V} {ds ds' : List D} (A : At K M Z G0 H0 G H σ ρ F) (h : ρ[i]? = some (.own ds)) (hp : σ[i]? = some (some (.ref p))) (r : RpL K G vs ds') :
    At K M Z G0 H0 G (upd H p (.lst vs)) σ (ρ.set i (.own ds')) F := by
  obtain ⟨q, ws, h1, h2, h3, h4, h5, h6⟩ := A.own_at h
  rw [hp] at h1
  cases h1
  have hi : i < ρ.length := (List.getElem?_eq_some_iff.mp h).1
  have B := A.chg (i := i) (x := .own ds') (Fn := F i) (G' := G) (H' := upd H p (.lst vs)) hi (Same.refl G) (fun a o e => by rw [upd_ne (ne_of_none e h5)]; exact A.gh a o e) (fun _ _ => rfl)
    (fun a ha => by
      by_cases e : a = p
      · subst e; rw [upd_same]; exact fun z => nomatch z
      · rw [upd_ne e]; exact ha)
    (fun a o e nf => by rw [upd_ne fun z => nf ((h2 a).mpr z)]; exact e) ⟨p, vs, by rw [hp]; rfl, h2, upd_same, r⟩ (fun z => by rw [h] at z; exact z.elim)
    (fun a fa => by
      obtain ⟨g1, g2, _⟩ := A.fp i a fa
      refine ⟨g1, ?_, .inl fa⟩
      rw [(h2 a).mp fa, upd_same]
      exact fun z => nomatch z)
  have e : (fun j a => if j = i then F i a else F j a) = F := by
    funext j a
    by_cases hj : j = i
    · rw [if_pos hj, hj]
    · exact if_neg hj
  rw [e] at B
  exact B
/-- a list of one's own is known from now on, and never changed again -/
theorem At.freeze {i : Nat} {ds : List D} (A : At K M Z G0 H0 G H σ ρ F) (h : ρ[i]? = some (.own ds)) :
    ∃ G' F' p, At K M Z G0 H0 G' H σ (ρ.set i (.val (.lst ds))) F' ∧ Same G G' ∧ σ[i]? = some (some (.ref p)) ∧ Rp K G' (.ref p) (.lst ds) := by
  obtain ⟨p, vs, h1, h2, h3, h4, h5, h6⟩ := A.own_at h
  have hi : i < ρ.length := (List.getElem?_eq_some_iff.mp h).1
  have e : Same G (upd G p (.lst vs)) := fun a u q => by rw [upd_ne (ne_of_none q h5)]; exact q
  have gs : upd G p (.lst vs) p = some (.lst vs) := upd_same
  have hr : Rp K (upd G p (.lst vs)) (.ref p) (.lst ds) := .lst gs (h4.mono e)
  have ge : Same (upd G p (.lst vs)) H := fun a u q => by
    by_cases ha : a = p
    · subst ha; rw [upd_same] at q; rw [h3]; exact q
    · rw [upd_ne ha] at q; exact A.gh a u q
  refine ⟨upd G p (.lst vs), fun j a => if j = i then False else F j a, p, ?_, e, h1, hr⟩
  refine ⟨ge, A.g0.trans e, A.h0, fun a ha => ?_, A.hn, by rw [List.length_set]; exact A.len, fun j y q => ?_, fun j q a z => ?_, fun j a z => ?_, fun j k a y z => ?_, fun a o hz => ?_, A.tb.up e (fun a z => by rw [upd_ne fun q => A.n0 h6 (by rw [← q]; exact z)]; exact (A.tb.at z).1) (fun _ _ => rfl), A.mt⟩
  · rw [upd_ne fun z => ha (by rw [z]; exact h6)]
    exact A.fr a ha
  · by_cases hj : j = i
    · subst hj
      rw [List.getElem?_set_self hi] at q
      cases q
      exact ⟨fun a (z : if j = j then False else F j a) => by rw [if_pos rfl] at z; exact z, .ref p, by rw [h1]; rfl, hr⟩
    · rw [List.getElem?_set_ne (Ne.symm hj)] at q
      have e2 : (fun a => if j = i then False else F j a) = F j := by funext a; exact if_neg hj
      show SlOk K _ H _ (fun a => if j = i then False else F j a) y
      rw [e2]
      exact (A.sl j y q).st e fun _ _ => rfl
  · rw [List.getElem?_eq_none_iff] at q
    by_cases hj : j = i
    · rw [if_pos hj] at z
      exact z
    · rw [if_neg hj] at z
      exact A.no j (List.getElem?_eq_none_iff.mpr (by simpa using q)) a z
  · by_cases hj : j = i
    · rw [if_pos hj] at z
      exact z.elim
    · rw [if_neg hj] at z
      obtain ⟨g1, g2, g3⟩ := A.fp j a z
      rw [List.getElem?_set_ne (Ne.symm hj)]
      refine ⟨?_, g2, g3⟩
      rw [upd_ne fun w => hj (A.dj j i a z ((h2 a).mpr w))]
      exact g1
  · by_cases hj : j = i
    · rw [if_pos hj] at y
      exact y.elim
    · by_cases hk : k = i
      · rw [if_pos hk] at z
        exact z.elim
      · rw [if_neg hj] at y
        rw [if_neg hk] at z
        exact A.dj j k a y z
  · obtain ⟨q1, q2, q3⟩ := A.hz a o hz
    refine ⟨q1, ?_, fun j z => ?_⟩
    · rw [upd_ne fun w => q3 i ((h2 a).mpr w)]
      exact q2
    · by_cases hj : j = i
      · rw [if_pos hj] at z
        exact z
      · rw [if_neg hj] at z
        exact q3 j z
/-- a result that is a new list is known for good -/
theorem At.freezeR {p : V} {ds : List D} {Fn : Addr → Prop} (A : At K M Z G0 H0 G H σ ρ F) (r : ResOk K Z H0 G H F p (.own ds) Fn) : ∃ G', At K M Z G0 H0 G' H σ ρ F ∧ Same G G' ∧ Rp K G' p (.lst ds) := by
  obtain ⟨a, vs, h1, h2, h3, h4⟩ := r.ok
  cases h1
  obtain ⟨h5, h6, h7, h9, h8⟩ := r.fr a ((h2 a).mpr rfl)
  obtain ⟨B, e⟩ := A.know h3 h7 h8 h5 h9
  have gs : upd G a (.lst vs) a = some (.lst vs) := upd_same
  exact ⟨_, B, e, .lst gs (h4.mono e)⟩
end

/-! ### readings over data -/
abbrev DE := List Sl → (D → List Sl → Prop) → Prop
abbrev DR := List Sl → (Sl → List Sl → Prop) → Prop
abbrev DT := List Sl → (Bool → List Sl → Prop) → Prop
abbrev DA := List Sl → (List D → List Sl → Prop) → Prop
/-- what is wanted behind a statement -/
structure Ds where
  nx : List Sl → Prop
  rt : Sl → List Sl → Prop
  bk : List Sl → Prop := fun _ => False
  ct : List Sl → Prop := fun _ => False
abbrev DS := Ds → List Sl → Prop

def SimE (K : PySem.W.Frag) (t : TE) (d : DE) : Prop := ∀ {M : Addr → Prop} {Z G0 H0 G H : Hp} {σ : L2.St} {ρ : List Sl} {F : Nat → Addr → Prop} {Φ : D → List Sl → Prop} {Q : VK}, At K M Z G0 H0 G H σ ρ F → d ρ Φ →
  (∀ v x ρ' F' G' H', At K M Z G0 H0 G' H' σ ρ' F' → Same G G' → Rp K G' v x → Φ x ρ' → Q v H') → t σ H Q
def SimR (K : PySem.W.Frag) (t : TE) (d : DR) : Prop := ∀ {M : Addr → Prop} {Z G0 H0 G H : Hp} {σ : L2.St} {ρ : List Sl} {F : Nat → Addr → Prop} {Φ : Sl → List Sl → Prop} {Q : VK}, At K M Z G0 H0 G H σ ρ F → d ρ Φ →
  (∀ v x Fn ρ' F' G' H', At K M Z G0 H0 G' H' σ ρ' F' → Same G G' → ResOk K Z H0 G' H' F' v x Fn → Φ x ρ' → Q v H') → t σ H Q
def SimT (K : PySem.W.Frag) (t : TT) (d : DT) : Prop := ∀ {M : Addr → Prop} {Z G0 H0 G H : Hp} {σ : L2.St} {ρ : List Sl} {F : Nat → Addr → Prop} {Φ : Bool → List Sl → Prop} {Q : Bool → Hp → Prop}, At K M Z G0 H0 G H σ ρ F → d ρ Φ →
  (∀ b ρ' F' G' H', At K M Z G0 H0 G' H' σ ρ' F' → Same G G' → Φ b ρ' → Q b H') → t σ H Q
def SimA (K : PySem.W.Frag) (t : TA) (d : DA) : Prop := ∀ {M : Addr → Prop} {Z G0 H0 G H : Hp} {σ : L2.St} {ρ : List Sl} {F : Nat → Addr → Prop} {Φ : List D → List Sl → Prop} {Q : List V → Hp → Prop}, At K M Z G0 H0 G H σ ρ F → d ρ Φ →
  (∀ vs xs ρ' F' G' H', At K M Z G0 H0 G' H' σ ρ' F' → Same G G' → RpL K G' vs xs → Φ xs ρ' → Q vs H') → t σ H Q
def SimS (K : PySem.W.Frag) (t : TS) (d : DS) : Prop := ∀ {M : Addr → Prop} {Z G0 H0 G H : Hp} {σ : L2.St} {ρ : List Sl} {F : Nat → Addr → Prop} {Δ : Ds} {Q : Ends}, At K M Z G0 H0 G H σ ρ F → d Δ ρ →
  (∀ σ' ρ' F' G' H', At K M Z G0 H0 G' H' σ' ρ' F' → Same G G' → Δ.nx ρ' → Q.nx σ' H') →
  (∀ v x Fn σ' ρ' F' G' H', At K M Z G0 H0 G' H' σ' ρ' F' → Same G G' → ResOk K Z H0 G' H' (fun j a => Sl.isArg (ρ'[j]?) ∧ F' j a) v x Fn → Δ.rt x ρ' → Q.rt v H') →
  (∀ σ' ρ' F' G' H', At K M Z G0 H0 G' H' σ' ρ' F' → Same G G' → Δ.bk ρ' → Q.bk σ' H') →
  (∀ σ' ρ' F' G' H', At K M Z G0 H0 G' H' σ' ρ' F' → Same G G' → Δ.ct ρ' → Q.ct σ' H') → t Q σ H

structure PD (X : Cx) (e : Expr) (t : TE) (d : DE) : Prop where
  pe : PE X e t
  sim : SimE X.K t d
structure PR (X : Cx) (e : Expr) (t : TE) (d : DR) : Prop where
  pe : PE X e t
  sim : SimR X.K t d
structure PDT (X : Cx) (e : Expr) (t : TT) (d : DT) : Prop where
  pe : PT X e t
  sim : SimT X.K t d
structure PDA (X : Cx) (es : List Expr) (t : TA) (d : DA) : Prop where
  pe : PA X es t
  sim : SimA X.K t d
structure PDS (X : Cx) (st : Stmt) (t : TS) (d : DS) : Prop where
  pe : PS X st t
  sim : SimS X.K t d
structure PDSs (X : Cx) (sts : List Stmt) (t : TS) (d : DS) : Prop where
  pe : PSs X sts t
  sim : SimS X.K t d

def dR (d : DE) : DR := fun ρ Φ => d ρ fun x ρ' => Φ (.val x) ρ'
theorem PD.r {X : Cx} {e : Expr} {t : TE} {d : DE} (h : PD X e t d) : PR X e t (dR d) := ⟨h.pe, fun {M Z G0 H0 G H σ ρ F Φ Q} A hd k => h.sim A hd fun v x ρ' F' G' H' A' eG r q => k v (.val x) _ ρ' F' G' H' A' eG (.val r) q⟩
end DL
set_option Elab.async false
set_option linter.all false
set_option maxRecDepth 100000
set_option maxHeartbeats 2000000
namespace DL
open PySem PySem.Spec PyProof.Rows L2
variable [Tabl]

section
variable {K : PySem.W.Frag} {M : Addr → Prop} {Z G0 H0 G H : Hp} {σ : L2.St} {ρ : List Sl} {F : Nat → Addr → Prop}
theorem At.tup_new {p : Addr} {vs : List V} {ds : List D} (A : At K M Z G0 H0 G H σ ρ F) (n : H p = none) (r : RpL K G vs ds) :
    ∃ G', At K M Z G0 H0 G' (upd H p (.tup vs)) σ ρ F ∧ Same G G' ∧ Rp K G' (.ref p) (.tup ds) := by
  obtain ⟨B, e⟩ := A.new (o := .tup vs) n
  have gs : upd G p (.tup vs) p = some (.tup vs) := upd_same
  exact ⟨_, B, e, .tup (SqT.of gs) (r.mono e)⟩
theorem At.lst_new {p : Addr} {vs : List V} {ds : List D} (A : At K M Z G0 H0 G H σ ρ F) (n : H p = none) (r : RpL K G vs ds) :
    At K M Z G0 H0 G (upd H p (.lst vs)) σ ρ F ∧ ResOk K Z H0 G (upd H p (.lst vs)) F (.ref p) (.own ds) (fun a => a = p) := by
  have hs : upd H p (.lst vs) p = some (.lst vs) := upd_same
  refine ⟨A.newH n, ⟨⟨p, vs, rfl, fun a => Iff.rfl, hs, r⟩, fun z => z, fun a e => ?_⟩⟩
  subst e
  have zn : Z a = none := by
    cases q : Z a with
    | none => rfl
    | some o =>
      have := (A.hz a o q).1
      rw [n] at this
      cases this
  refine ⟨A.gh.free n, by rw [hs]; exact (Option.some_ne_none _), ?_, zn, fun j z => (A.fp j _ z).2.1 n⟩
  cases q : H0 a with
  | none => rfl
  | some o => exact absurd n (A.hn a (by rw [q]; exact fun z => nomatch z))
theorem At.res {v : V} {x : Sl} {Fn : Addr → Prop} {G' H' : Hp} {σ' : L2.St} {ρ' : List Sl} {F' : Nat → Addr → Prop} (r : ResOk K Z H0 G H F v x Fn) (eG : Same G G') (eH : Same H H') (old : ∀ a, H a ≠ none → G' a = G a)
    (hF : ∀ a, Fn a → ∀ j, ¬ F' j a) : ResOk K Z H0 G' H' F' v x Fn := ⟨r.ok.st eG fun a fa => by
    obtain ⟨_, h2, _⟩ := r.fr a fa
    cases q : H a with
    | none => exact absurd q h2
    | some o => exact eH a o q, r.na, fun a fa => by
    obtain ⟨h1, h2, h3, h4, _⟩ := r.fr a fa
    refine ⟨(old a h2).trans h1, ?_, h3, h4, hF a fa⟩
    cases q : H a with
    | none => exact absurd q h2
    | some o => rw [eH a o q]; exact fun z => nomatch z⟩
end

/-! ### a tree is known for good -/
mutual
def OT.toD : OT → Option D
  | .val d => some d
  | .lst _ xs => match OT.toDs xs with
    | some ds => some (.lst ds)
    | none => none
  | .tup _ xs => match OT.toDs xs with
    | some ds => some (.tup ds)
    | none => none
  | .ins _ _ _ _ => none
  | .dic _ kvs => some (.dic kvs)
def OT.toDs : List OT → Option (List D)
  | [] => some []
  | t :: r => match t.toD, OT.toDs r with
    | some d, some ds => some (d :: ds)
    | _, _ => none
end
open Classical in
noncomputable def knowA (G H : Hp) (A : List Addr) : Hp := fun a => if a ∈ A then H a else G a
section
variable {K : PySem.W.Frag} {G H G' : Hp}
mutual
theorem Own.rp : ∀ {t : OT} {v : V} {A : List Addr} {d : D}, Own K G H v t A → t.toD = some d → Same G G' → (∀ a ∈ A, G' a = H a) → Rp K G' v d
  | .val x, _, _, d, .val r, e, g, _ => by
    cases e
    exact r.mono g
  | .lst p xs, _, _, d, .lst h r, e, g, k => by
    unfold OT.toD at e
    split at e
    · rename_i ds e1
      cases e
      exact .lst ((k _ List.mem_cons_self).trans h) (OwnL.rp r e1 g fun a ha => k a (List.mem_cons_of_mem _ ha))
    · cases e
  | .tup p xs, _, _, d, .tup h r, e, g, k => by
    unfold OT.toD at e
    split at e
    · rename_i ds e1
      cases e
      exact .tup (SqT.of (g _ _ h)) (OwnL.rp r e1 g k)
    · cases e
  | .ins _ _ _ _, _, _, d, _, e, _, _ => by cases e
  | .dic p kvs, _, _, d, .dic h r, e, g, k => by
    cases e
    exact .dic (.inl ((k _ List.mem_cons_self).trans h)) (r.mono g)
theorem OwnL.rp : ∀ {ts : List OT} {vs : List V} {A : List Addr} {ds : List D}, OwnL K G H vs ts A → OT.toDs ts = some ds → Same G G' → (∀ a ∈ A, G' a = H a) → RpL K G' vs ds
  | [], _, _, ds, .nil, e, _, _ => by
    cases e
    exact .nil
  | t :: r, _, _, ds, .cons h q, e, g, k => by
    unfold OT.toDs at e
    split at e
    · rename_i d es e1 e2
      cases e
      exact .cons (Own.rp h e1 g fun a ha => k a (List.mem_append_left _ ha)) (OwnL.rp q e2 g fun a ha => k a (List.mem_append_right _ ha))
    · cases e
end
end
section
variable {K : PySem.W.Frag} {M : Addr → Prop} {Z G0 H0 G H : Hp} {σ : L2.St} {ρ : List Sl} {F : Nat → Addr → Prop}
/-- addresses that nobody else owns become known -/
theorem At.knowS {B : List Addr} (A : At K M Z G0 H0 G H σ ρ F) (hG : ∀ a ∈ B, G a = none) (h0 : ∀ a ∈ B, H0 a = none) (hz : ∀ a ∈ B, Z a = none) (hF : ∀ a ∈ B, ∀ i, ¬ F i a) : At K M Z G0 H0 (knowA G H B) H σ ρ F ∧ Same G (knowA G H B) := by
  have e : Same G (knowA G H B) := fun a u q => by
    unfold knowA
    by_cases h : a ∈ B
    · rw [hG a h] at q; cases q
    · rw [if_neg h]; exact q
  refine ⟨⟨fun a u q => ?_, A.g0.trans e, A.h0, fun a ha => ?_, A.hn, A.len, fun i x hx => (A.sl i x hx).st e fun _ _ => rfl, A.no, fun i a fa => ?_, A.dj, fun a u q => ?_, A.tb.up e (fun a z => by
    unfold knowA
    rw [if_neg fun q => A.n0 (h0 a q) z]
    exact (A.tb.at z).1) fun _ _ => rfl, A.mt⟩, e⟩
  · unfold knowA at q
    split at q
    · exact q
    · exact A.gh a u q
  · unfold knowA
    rw [if_neg fun z => ha (h0 a z)]
    exact A.fr a ha
  · obtain ⟨h1, h2, h3⟩ := A.fp i a fa
    refine ⟨?_, h2, h3⟩
    unfold knowA
    rw [if_neg fun z => hF a z i fa]
    exact h1
  · obtain ⟨h1, h2, h3⟩ := A.hz a u q
    refine ⟨h1, ?_, h3⟩
    unfold knowA
    rw [if_neg fun z => by rw [hz a z] at q; cases q]
    exact h2
theorem At.freezeT {i : Nat} {t : OT} {d : D} (A : At K M Z G0 H0 G H σ ρ F) (h : ρ[i]? = some (.loc t)) (hd : t.toD = some d) :
    ∃ G' F' v, At K M Z G0 H0 G' H σ (ρ.set i (.val d)) F' ∧ Same G G' ∧ σ[i]? = some (some v) ∧ Rp K G' v d := by
  obtain ⟨v, e1, n, B, o, nd, hB⟩ := A.sl i _ h
  have hi : i < ρ.length := (List.getElem?_eq_some_iff.mp h).1
  have fp : ∀ a ∈ B, G a = none ∧ H a ≠ none ∧ H0 a = none := fun a ha => by
    obtain ⟨h1, h2, h3⟩ := A.fp i a ((hB a).mpr ha)
    refine ⟨h1, h2, ?_⟩
    rcases h3 with h3 | h3
    · exact h3
    · rw [h] at h3
      exact h3.2.elim
  have zB : ∀ a ∈ B, Z a = none := fun a ha => by
    cases q : Z a with
    | none => rfl
    | some u => exact absurd ((hB a).mpr ha) ((A.hz a u q).2.2 i)
  have e : Same G (knowA G H B) := fun a u q => by
    unfold knowA
    by_cases c : a ∈ B
    · rw [(fp a c).1] at q; cases q
    · rw [if_neg c]; exact q
  have hr : Rp K (knowA G H B) v d := o.rp hd e fun a ha => by
    unfold knowA
    rw [if_pos ha]
  -- first the slot is let go
  have A1 : At K M Z G0 H0 G H σ (ρ.set i .un) (fun j a => if j = i then False else F j a) := by
    refine ⟨A.gh, A.g0, A.h0, A.fr, A.hn, by rw [List.length_set]; exact A.len, fun j y q => ?_, fun j q a z => ?_, fun j a z => ?_, fun j k a y z => ?_, fun a u q => ?_, A.tb, A.mt⟩
    · by_cases hj : j = i
      · subst hj
        rw [List.getElem?_set_self hi] at q
        cases q
        exact fun a (z : if j = j then False else F j a) => by rw [if_pos rfl] at z; exact z
      · rw [List.getElem?_set_ne (Ne.symm hj)] at q
        have e2 : (fun a => if j = i then False else F j a) = F j := by funext a; exact if_neg hj
        show SlOk K G H _ (fun a => if j = i then False else F j a) y
        rw [e2]
        exact A.sl j y q
    · rw [List.getElem?_eq_none_iff] at q
      by_cases hj : j = i
      · rw [if_pos hj] at z; exact z
      · rw [if_neg hj] at z
        exact A.no j (List.getElem?_eq_none_iff.mpr (by simpa using q)) a z
    · by_cases hj : j = i
      · rw [if_pos hj] at z; exact z.elim
      · rw [if_neg hj] at z
        rw [List.getElem?_set_ne (Ne.symm hj)]
        exact A.fp j a z
    · by_cases hj : j = i
      · rw [if_pos hj] at y; exact y.elim
      · by_cases hk : k = i
        · rw [if_pos hk] at z; exact z.elim
        · rw [if_neg hj] at y
          rw [if_neg hk] at z
          exact A.dj j k a y z
    · obtain ⟨h1, h2, h3⟩ := A.hz a u q
      refine ⟨h1, h2, fun j z => ?_⟩
      by_cases hj : j = i
      · rw [if_pos hj] at z; exact z
      · rw [if_neg hj] at z; exact h3 j z
  obtain ⟨A2, _⟩ := A1.knowS (B := B) (fun a ha => (fp a ha).1) (fun a ha => (fp a ha).2.2) zB fun a ha j z => by
    by_cases hj : j = i
    · rw [if_pos hj] at z; exact z
    · rw [if_neg hj] at z; exact hj (A.dj j i a z ((hB a).mpr ha))
  have A3 := A2.set (i := i) (x := .val d) (v := v) (.val hr) (by rw [List.length_set]; exact hi) (by rw [List.getElem?_set_self hi]; exact fun z => z)
  have es : σ.set i (some v) = σ := by
    apply List.ext_getElem?
    intro j
    by_cases hj : i = j
    · subst hj
      rw [List.getElem?_set_self (by rw [A.len]; exact hi), join_some e1]
    · rw [List.getElem?_set_ne hj]
  rw [es, List.set_set] at A3
  exact ⟨_, _, v, A3, e, join_some e1, hr⟩
end

/-- a result as data: a list of one's own is known from now on -/
def asD (Φ : D → List Sl → Prop) : Sl → List Sl → Prop
  | .val d, ρ => Φ d ρ
  | .own ds, ρ => Φ (.lst ds) ρ
  | .loc t, ρ => match t.toD with
    | some d => Φ d ρ
    | none => False
  | _, _ => False
def dV (d : DR) : DE := fun ρ Φ => d ρ (asD Φ)
theorem sim_dv {K : PySem.W.Frag} {t : TE} {d : DR} (h : SimR K t d) : SimE K t (dV d) := fun {M Z G0 H0 G H σ ρ F Φ Q} A hd k => h A hd fun v x Fn ρ' F' G' H' A' eG r q => by
  cases x with
  | un => exact q.elim
  | val d =>
    obtain ⟨_, w, e1, hr⟩ := r.ok
    cases e1
    exact k v d ρ' F' G' H' A' eG hr q
  | own ds =>
    obtain ⟨G2, A2, e2, hr⟩ := A'.freezeR r
    exact k v (.lst ds) ρ' F' G2 H' A2 (eG.trans e2) hr q
  | loc t =>
    change (match t.toD with | some d => Φ d ρ' | none => False) at q
    split at q
    · rename_i d ed
      obtain ⟨w, e1, n, B, o, nd, hB⟩ := r.ok
      cases e1
      have fr : ∀ a ∈ B, G' a = none ∧ H' a ≠ none ∧ H0 a = none ∧ Z a = none ∧ ∀ j, ¬ F' j a := fun a ha => r.fr a ((hB a).mpr ha)
      obtain ⟨A2, e2⟩ := A'.knowS (B := B) (fun a ha => (fr a ha).1) (fun a ha => (fr a ha).2.2.1) (fun a ha => (fr a ha).2.2.2.1) fun a ha => (fr a ha).2.2.2.2
      exact k v d ρ' F' _ H' A2 (eG.trans e2) (o.rp ed e2 fun a ha => by
        unfold knowA
        rw [if_pos ha]) q
    · exact q.elim
  | arg S => exact q.elim
theorem PR.v {X : Cx} {e : Expr} {t : TE} {d : DR} (h : PR X e t d) : PD X e t (dV d) := ⟨h.pe, sim_dv h.sim⟩

/-! ### constants, names -/
def dC (x : D) : DE := fun ρ Φ => Φ x ρ
def dVar (i : Nat) : DE := fun ρ Φ => match ρ[i]? with
  | some (.val d) => Φ d ρ
  | some (.own ds) => Φ (.lst ds) (ρ.set i (.val (.lst ds)))
  | some (.loc t) => match t.toD with
    | some d => Φ d (ρ.set i (.val d))
    | none => False
  | _ => False
section
variable {K : PySem.W.Frag}
theorem sim_c {v : V} {x : D} (r : ∀ G : Hp, Rp K G v x) : SimE K (tC v) (dC x) := fun {M Z G0 H0 G H σ ρ F Φ Q} A hd k => k v x ρ F G H A (Same.refl G) (r G) hd
theorem sim_var {i : Nat} : SimE K (tVar i) (dVar i) := by
  intro M Z G0 H0 G H σ ρ F Φ Q A hd k
  unfold dVar at hd
  split at hd
  · rename_i d e
    obtain ⟨v, e1, r⟩ := A.val e
    exact ⟨v, e1, k v d ρ F G H A (Same.refl G) r hd⟩
  · rename_i ds e
    obtain ⟨G', F', p, A', eG, e1, r⟩ := A.freeze e
    exact ⟨.ref p, e1, k _ _ _ F' G' H A' eG r hd⟩
  · rename_i t e
    split at hd
    · rename_i d ed
      obtain ⟨G', F', v, A', eG, e1, r⟩ := A.freezeT e ed
      exact ⟨v, e1, k _ _ _ F' G' H A' eG r hd⟩
    · exact hd.elim
  · exact hd.elim
end
section
variable {X : Cx}
theorem pd_int {i j pos} : PD X (.Constant (.int i) j pos) (tC (.int i)) (dC (.int i)) := ⟨pe_int, sim_c fun _ => .int i⟩
theorem pd_bl {b j pos} : PD X (.Constant (.bool b) j pos) (tC (.bl b)) (dC (.bl b)) := ⟨pe_bl, sim_c fun _ => .bl b⟩
theorem pd_non {j pos} : PD X (.Constant .none j pos) (tC .non) (dC .non) := ⟨pe_non, sim_c fun _ => .non⟩
theorem pd_str {x j pos} : PD X (.Constant (.str x) j pos) (tC (.str x)) (dC (.str x)) := ⟨pe_str, sim_c fun _ => .str x⟩
theorem pd_var (i : Nat) {x : Str} {pos : Pos} (hN : X.N[i]? = some x := by rfl) (hv : Vis X.env.scope x := by first | exact Or.inl rfl | exact Or.inr (Or.inl rfl) | exact Or.inr (Or.inr rfl)) (hd : (x == ("__debug__" : Str)) = false := by decide)
    (hcd : (x == ("__classdict__" : Str)) = false := by decide) : PD X (.Name x pos) (tVar i) (dVar i) := ⟨pe_var hN hv hd hcd, sim_var⟩
/-- a module's name -/
theorem pd_glob {x : Str} {v : V} {u : Value} {d : D} {pos : Pos} (hm : X.mg x = some u) (r : RelV v u) (hr : ∀ G : Hp, Rp X.K G v d) (hg : Gl X x := by rfl) (hd : (x == ("__debug__" : Str)) = false := by decide) : PD X (.Name x pos) (tC v) (dC d) := ⟨pe_glob hg hm r hd, sim_c hr⟩
end

/-! ### arguments -/
def dNil : DA := fun ρ Φ => Φ [] ρ
def dCons (d : DE) (da : DA) : DA := fun ρ Φ => d ρ fun x ρ1 => da ρ1 fun xs ρ2 => Φ (x :: xs) ρ2
theorem sim_nil {K : PySem.W.Frag} : SimA K tNil dNil := fun {M Z G0 H0 G H σ ρ F Φ Q} A hd k => k [] [] ρ F G H A (Same.refl G) .nil hd
theorem sim_cons {K : PySem.W.Frag} {t : TE} {ta : TA} {d : DE} {da : DA} (h : SimE K t d) (ha : SimA K ta da) : SimA K (tCons t ta) (dCons d da) := fun {M Z G0 H0 G H σ ρ F Φ Q} A hd k =>
  h A hd fun v x ρ1 F1 G1 H1 A1 e1 r1 q1 => ha A1 q1 fun vs xs ρ2 F2 G2 H2 A2 e2 r2 q2 => k _ _ ρ2 F2 G2 H2 A2 (e1.trans e2) (.cons (r1.mono e2) r2) q2
section
variable {X : Cx}
theorem pda_nil : PDA X [] tNil dNil := ⟨pa_nil, sim_nil⟩
theorem pda_cons {e : Expr} {es : List Expr} {t : TE} {ta : TA} {d : DE} {da : DA} (h : PD X e t d) (ha : PDA X es ta da) (hs : starEach (e :: es) X.env = (false, eval e X.env) :: starEach es X.env := by rfl) : PDA X (e :: es) (tCons t ta) (dCons d da) :=
  ⟨pa_cons h.pe ha.pe hs, sim_cons h.sim ha.sim⟩
end

/-! ### displays -/
def dTup (da : DA) : DE := fun ρ Φ => da ρ fun xs ρ1 => xs.length ≤ 1000000 ∧ Φ (.tup xs) ρ1
def dLst (da : DA) : DR := fun ρ Φ => da ρ fun xs ρ1 => xs.length ≤ 1000000 ∧ Φ (.own xs) ρ1
theorem line_le {n : Nat} (h : n ≤ 1000000) : n ≤ sizeLine := by
  rw [sizeLine_eq]
  omega
theorem line_lt {n : Nat} (h : n ≤ 1000000) : n < sizeLine := by
  rw [sizeLine_eq]
  omega
section
variable {X : Cx}
theorem pd_tup {es : List Expr} {x1 pos} {ta : TA} {da : DA} (h : PDA X es ta da) : PD X (.Tuple es x1 pos) (tTup ta) (dTup da) := ⟨pe_tup h.pe, fun {M Z G0 H0 G H σ ρ F Φ Q} A hd k =>
  h.sim A hd fun vs xs ρ1 F1 G1 H1 A1 e1 r1 q1 => ⟨line_le (by rw [r1.length]; exact q1.1), fun p hp => by
    obtain ⟨G2, A2, e2, r2⟩ := A1.tup_new hp r1
    exact k _ _ ρ1 F1 G2 _ A2 (e1.trans e2) r2 q1.2⟩⟩
theorem pr_lst {es : List Expr} {pos} {ta : TA} {da : DA} (h : PDA X es ta da) : PR X (.List es pos) (tLst ta) (dLst da) := ⟨pe_lst h.pe, fun {M Z G0 H0 G H σ ρ F Φ Q} A hd k =>
  h.sim A hd fun vs xs ρ1 F1 G1 H1 A1 e1 r1 q1 => ⟨line_le (by rw [r1.length]; exact q1.1), fun p hp => by
    obtain ⟨A2, r2⟩ := A1.lst_new hp r1
    exact k _ _ _ ρ1 F1 G1 _ A2 e1 r2 q1.2⟩⟩
end

/-! ### operators by values -/
/-- a rule of two values gives data -/
def SimV2 (K : PySem.W.Frag) (r : R2) (f : D → D → (D → Prop) → Prop) : Prop := ∀ {M : Addr → Prop} {Z G0 H0 G H : Hp} {σ : L2.St} {ρ : List Sl} {F : Nat → Addr → Prop} {v w : V} {x y : D} {Φ : D → Prop} {Q : VK}, At K M Z G0 H0 G H σ ρ F → Rp K G v x → Rp K G w y → f x y Φ →
  (∀ u z G' H', At K M Z G0 H0 G' H' σ ρ F → Same G G' → Rp K G' u z → Φ z → Q u H') → r v w H Q
/-- .. or a new list -/
def SimR2 (K : PySem.W.Frag) (r : R2) (f : D → D → (Sl → Prop) → Prop) : Prop := ∀ {M : Addr → Prop} {Z G0 H0 G H : Hp} {σ : L2.St} {ρ : List Sl} {F : Nat → Addr → Prop} {v w : V} {x y : D} {Φ : Sl → Prop} {Q : VK}, At K M Z G0 H0 G H σ ρ F → Rp K G v x → Rp K G w y → f x y Φ →
  (∀ u z Fn G' H', At K M Z G0 H0 G' H' σ ρ F → Same G G' → ResOk K Z H0 G' H' F u z Fn → Φ z → Q u H') → r v w H Q
def dOp (f : D → D → (D → Prop) → Prop) (da db : DE) : DE := fun ρ Φ => da ρ fun x ρ1 => db ρ1 fun y ρ2 => f x y fun z => Φ z ρ2
def dOpR (f : D → D → (Sl → Prop) → Prop) (da db : DE) : DR := fun ρ Φ => da ρ fun x ρ1 => db ρ1 fun y ρ2 => f x y fun z => Φ z ρ2
theorem sim_op {K : PySem.W.Frag} {r : R2} {f : D → D → (D → Prop) → Prop} {ta tb : TE} {da db : DE} (hr : SimV2 K r f) (ha : SimE K ta da) (hb : SimE K tb db) : SimE K (tOp r ta tb) (dOp f da db) := fun {M Z G0 H0 G H σ ρ F Φ Q} A hd k =>
  ha A hd fun v x ρ1 F1 G1 H1 A1 e1 r1 q1 => hb A1 q1 fun w y ρ2 F2 G2 H2 A2 e2 r2 q2 => hr A2 (r1.mono e2) r2 q2 fun u z G3 H3 A3 e3 r3 q3 => k u z ρ2 F2 G3 H3 A3 (e1.trans (e2.trans e3)) r3 q3
theorem sim_opR {K : PySem.W.Frag} {r : R2} {f : D → D → (Sl → Prop) → Prop} {ta tb : TE} {da db : DE} (hr : SimR2 K r f) (ha : SimE K ta da) (hb : SimE K tb db) : SimR K (tOp r ta tb) (dOpR f da db) := fun {M Z G0 H0 G H σ ρ F Φ Q} A hd k =>
  ha A hd fun v x ρ1 F1 G1 H1 A1 e1 r1 q1 => hb A1 q1 fun w y ρ2 F2 G2 H2 A2 e2 r2 q2 => hr A2 (r1.mono e2) r2 q2 fun u z Fn G3 H3 A3 e3 r3 q3 => k u z Fn ρ2 F2 G3 H3 A3 (e1.trans (e2.trans e3)) r3 q3

/-- + : ints, texts, tuples, lists -/
def addD : D → D → (Sl → Prop) → Prop
  | .int i, .int j, Φ => Φ (.val (.int (i + j)))
  | .str a, .str b, Φ => a.length + b.length ≤ 1000000 ∧ Φ (.val (.str (a ++ b)))
  | .tup xs, .tup ys, Φ => xs.length + ys.length ≤ 1000000 ∧ Φ (.val (.tup (xs ++ ys)))
  | .lst xs, .lst ys, Φ => xs.length + ys.length ≤ 1000000 ∧ Φ (.own (xs ++ ys))
  | _, _, _ => False
def rAddA (K : PySem.W.Frag) : R2 := fun x y H Q => rI0 (fun i j => .int (i + j)) x y H Q ∨ (∃ i j, x = .str i ∧ y = .str j ∧ i.length + j.length ≤ sizeLine ∧ Q (.str (i ++ j)) H) ∨ rCatA K x y H Q ∨
  rCat x y H Q
theorem rpl_nil {K : PySem.W.Frag} {G : Hp} {vs : List V} {ds : List D} (r : RpL K G vs ds) : vs = [] ↔ ds = [] := by
  cases r with
  | nil => simp
  | cons _ _ => simp
theorem sim_add {K : PySem.W.Frag} : SimR2 K (rAddA K) addD := by
  intro M Z G0 H0 G H σ ρ F v w x y Φ Q A rx ry hf k
  cases rx with
  | int i =>
    cases ry with
    | int j => exact .inl ⟨i, j, rfl, rfl, k _ _ _ G H A (Same.refl G) (.val (.int _)) hf⟩
    | _ => exact hf.elim
  | str a =>
    cases ry with
    | str b => exact .inr (.inl ⟨a, b, rfl, rfl, line_le hf.1, k _ _ _ G H A (Same.refl G) (.val (.str _)) hf.2⟩)
    | _ => exact hf.elim
  | tup hx px =>
    cases ry with
    | tup hy py =>
      rename_i a xs ds b ys es
      refine .inr (.inr (.inl ⟨a, b, xs, ys, rfl, rfl, same_t A.gh hx, same_t A.gh hy, line_le (by rw [px.length, py.length]; exact hf.1), fun e => ?_, fun _ e => ?_, fun _ _ p hp => ?_⟩))
      · have e2 := (rpl_nil px).mp e
        subst e e2
        exact k _ _ _ G H A (Same.refl G) (.val (.tup hy py)) hf.2
      · have e2 := (rpl_nil py).mp e
        subst e e2
        have q := hf.2
        rw [List.append_nil] at q
        exact k _ _ _ G H A (Same.refl G) (.val (.tup hx px)) q
      · obtain ⟨G2, A2, e2, r2⟩ := A.tup_new hp (px.append py)
        exact k _ _ _ G2 _ A2 e2 (.val r2) hf.2
    | _ => exact hf.elim
  | lst hx px =>
    cases ry with
    | lst hy py =>
      rename_i a xs ds b ys es
      refine .inr (.inr (.inr ⟨a, b, xs, ys, rfl, rfl, A.gh _ _ hx, A.gh _ _ hy, line_le (by rw [px.length, py.length]; exact hf.1), fun p hp => ?_⟩))
      obtain ⟨A2, r2⟩ := A.lst_new hp (px.append py)
      exact k _ _ _ G _ A2 (Same.refl G) r2 hf.2
    | _ => exact hf.elim
  | _ => exact hf.elim
section
variable {X : Cx}
theorem op_addA : OpR X (binaryOp .Add) (rAddA X.K) := OpR.or op_add (OpR.or op_add_str (OpR.or op_catA op_cat))
end
end DL
set_option Elab.async false
set_option linter.all false
set_option maxRecDepth 100000
set_option maxHeartbeats 2000000
namespace DL
open PySem PySem.Spec PyProof.Rows L2
variable [Tabl]

/-! ### data compared -/
mutual
def D.py : D → PyData
  | .non => .none
  | .bl b => .bool b
  | .int i => .int i
  | .str s => .str s
  | .tup xs => .tuple (D.pyL xs)
  | .lst xs => .list (D.pyL xs)
  | .dic _ => .none
  | .ins _ _ => .none
  | .rd xs => .list (D.pyL xs)
  | .ty _ => .none
  | .cls _ => .none
  | .exc _ _ _ _ _ => .none
def D.pyL : List D → List PyData
  | [] => []
  | x :: xs => x.py :: D.pyL xs
end

mutual
def D.okN : D → Nat → Bool
  | .non, _ => true
  | .bl _, _ => true
  | .int _, _ => true
  | .str s, _ => PyData.strOk s
  | .tup xs, n => match n with
    | 0 => false
    | n + 1 => D.okL xs n
  | .lst xs, n => match n with
    | 0 => false
    | n + 1 => D.okL xs n
  | .dic _, _ => false
  | .ins _ _, _ => false
  | .rd xs, n => match n with
    | 0 => false
    | n + 1 => D.okL xs n
  | .ty _, _ => false
  | .cls _, _ => false
  | .exc _ _ _ _ _, _ => false
def D.okL : List D → Nat → Bool
  | [], _ => true
  | x :: xs, n => x.okN n && D.okL xs n
end
mutual
theorem D.okN_depth : ∀ (d : D) (n : Nat), d.okN n = true → d.py.canLay0 = true ∧ d.py.depth ≤ n
  | .non, n, _ => ⟨rfl, Nat.zero_le _⟩
  | .bl _, n, _ => ⟨rfl, Nat.zero_le _⟩
  | .int _, n, _ => ⟨rfl, Nat.zero_le _⟩
  | .str s, n, h => ⟨h, Nat.zero_le _⟩
  | .tup xs, 0, h => by simp [D.okN] at h
  | .tup xs, n + 1, h => by
    have q := D.okL_depth xs n (by simpa [D.okN] using h)
    exact ⟨by simpa [D.py, PyData.canLay0] using q.1, by simp only [D.py, PyData.depth]; omega⟩
  | .lst xs, 0, h => by simp [D.okN] at h
  | .lst xs, n + 1, h => by
    have q := D.okL_depth xs n (by simpa [D.okN] using h)
    exact ⟨by simpa [D.py, PyData.canLay0] using q.1, by simp only [D.py, PyData.depth]; omega⟩
  | .rd xs, 0, h => by simp [D.okN] at h
  | .rd xs, n + 1, h => by
    have q := D.okL_depth xs n (by simpa [D.okN] using h)
    exact ⟨by simpa [D.py, PyData.canLay0] using q.1, by simp only [D.py, PyData.depth]; omega⟩
  | .dic _, _, h => by simp [D.okN] at h
  | .ins _ _, _, h => by simp [D.okN] at h
  | .ty _, _, h => by simp [D.okN] at h
  | .cls _, _, h => by simp [D.okN] at h
  | .exc _ _ _ _ _, _, h => by simp [D.okN] at h
theorem D.okL_depth : ∀ (ds : List D) (n : Nat), D.okL ds n = true → PyData.canLayAll0 (D.pyL ds) = true ∧ PyData.depthAll (D.pyL ds) ≤ n
  | [], n, _ => ⟨rfl, Nat.zero_le _⟩
  | x :: xs, n, h => by
    simp only [D.okL, Bool.and_eq_true] at h
    have q1 := D.okN_depth x n h.1
    have q2 := D.okL_depth xs n h.2
    refine ⟨by simp [D.pyL, PyData.canLayAll0, q1.1, q2.1], ?_⟩
    simp only [D.pyL, PyData.depthAll]
    omega
end
theorem D.shaped {d : D} (h : d.okN 60 = true) : SeqAt.shaped d.py = true := by
  have q := D.okN_depth d 60 h
  unfold SeqAt.shaped
  rw [q.1, decide_eq_true (by omega)]
  rfl
mutual
theorem Rp.dp {K : PySem.W.Frag} {G H : Hp} (e : Same G H) : ∀ {d : D} {v : V} {n : Nat}, Rp K G v d → d.okN n = true → Dp K H v d.py
  | .non, _, _, .non, _ => .non
  | .bl b, _, _, .bl _, _ => .bl b
  | .int i, _, _, .int _, _ => .int i
  | .str s, _, _, .str _, _ => .str s
  | .tup xs, _, 0, _, h => by simp [D.okN] at h
  | .tup xs, _, n + 1, .tup h r, o => .tup (same_t e h) (RpL.dp e (n := n) r (by simpa [D.okN] using o))
  | .lst xs, _, 0, _, h => by simp [D.okN] at h
  | .lst xs, _, n + 1, .lst h r, o => .lst (SqL.of (e _ _ h)) (RpL.dp e (n := n) r (by simpa [D.okN] using o))
  | .rd xs, _, 0, _, h => by simp [D.okN] at h
  | .rd xs, _, n + 1, .rd h r, o => .lst (same_l e h) (RpL.dp e (n := n) r (by simpa [D.okN] using o))
  | .dic _, _, _, _, h => by simp [D.okN] at h
  | .ins _ _, _, _, _, h => by simp [D.okN] at h
  | .ty _, _, _, _, h => by simp [D.okN] at h
  | .cls _, _, _, _, h => by simp [D.okN] at h
  | .exc _ _ _ _ _, _, _, _, h => by simp [D.okN] at h
theorem RpL.dp {K : PySem.W.Frag} {G H : Hp} (e : Same G H) : ∀ {ds : List D} {vs : List V} {n : Nat}, RpL K G vs ds → D.okL ds n = true → DpAll K H vs (D.pyL ds)
  | [], _, _, .nil, _ => .nil
  | x :: xs, _, n, .cons h r, o => by
    simp only [D.okL, Bool.and_eq_true] at o
    exact .cons (Rp.dp e (n := n) h o.1) (RpL.dp e (n := n) r o.2)
end
/-- equal as Python says -/
def D.eqv (x y : D) : Bool := PyData.eqv x.py y.py

def eqD (x y : D) (Φ : D → Prop) : Prop := x.okN 60 = true ∧ y.okN 60 = true ∧ Φ (.bl (D.eqv x y))
def neD (x y : D) (Φ : D → Prop) : Prop := x.okN 60 = true ∧ y.okN 60 = true ∧ Φ (.bl (!D.eqv x y))
section
variable {K : PySem.W.Frag}
theorem sim_eq : SimV2 K (rEqD K) eqD := fun {M Z G0 H0 G H σ ρ F v w x y Φ Q} A rx ry hf k =>
  ⟨_, _, rx.dp A.gh hf.1, ry.dp A.gh hf.2.1, D.shaped hf.1, D.shaped hf.2.1, k _ _ G H A (Same.refl G) (.bl _) hf.2.2⟩
theorem sim_ne : SimV2 K (rNeD K) neD := fun {M Z G0 H0 G H σ ρ F v w x y Φ Q} A rx ry hf k =>
  ⟨_, _, rx.dp A.gh hf.1, ry.dp A.gh hf.2.1, D.shaped hf.1, D.shaped hf.2.1, k _ _ G H A (Same.refl G) (.bl _) hf.2.2⟩
/-- ints alone -/
def ii (g : Int → Int → D) : D → D → (D → Prop) → Prop
  | .int i, .int j, Φ => Φ (g i j)
  | _, _, _ => False
def iiC (C : Int → Int → Prop) (g : Int → Int → D) : D → D → (D → Prop) → Prop
  | .int i, .int j, Φ => C i j ∧ Φ (g i j)
  | _, _, _ => False
theorem sim_ii {g : Int → Int → V} {gd : Int → Int → D} (h : ∀ (G : Hp) i j, Rp K G (g i j) (gd i j)) : SimV2 K (rI0 g) (ii gd) := by
  intro M Z G0 H0 G H σ ρ F v w x y Φ Q A rx ry hf k
  cases rx with
  | int i =>
    cases ry with
    | int j => exact ⟨i, j, rfl, rfl, k _ _ G H A (Same.refl G) (h G i j) hf⟩
    | _ => exact hf.elim
  | _ => exact hf.elim
theorem sim_iiC {C : Int → Int → Prop} {g : Int → Int → V} {gd : Int → Int → D} (h : ∀ (G : Hp) i j, Rp K G (g i j) (gd i j)) : SimV2 K (rI C g) (iiC C gd) := by
  intro M Z G0 H0 G H σ ρ F v w x y Φ Q A rx ry hf k
  cases rx with
  | int i =>
    cases ry with
    | int j => exact ⟨i, j, rfl, rfl, hf.1, k _ _ G H A (Same.refl G) (h G i j) hf.2⟩
    | _ => exact hf.elim
  | _ => exact hf.elim
abbrev ltD : D → D → (D → Prop) → Prop := ii fun i j => .bl (decide (i < j))
abbrev leD : D → D → (D → Prop) → Prop := ii fun i j => .bl (decide (i ≤ j))
abbrev geD : D → D → (D → Prop) → Prop := ii fun i j => .bl (decide (j ≤ i))
abbrev gtI : D → D → (D → Prop) → Prop := ii fun i j => .bl (decide (j < i))
abbrev subD : D → D → (D → Prop) → Prop := ii fun i j => .int (i - j)
abbrev modD : D → D → (D → Prop) → Prop := iiC (fun _ j => 0 < j) fun i j => .int (i % j)
abbrev fdvD : D → D → (D → Prop) → Prop := iiC CDiv fun i j => .int (i / j)
abbrev powD : D → D → (D → Prop) → Prop := iiC CPow fun i j => .int (i ^ j.toNat)
/-- x > y: ints, pairs of ints -/
def gtD : D → D → (D → Prop) → Prop
  | .int i, .int j, Φ => Φ (.bl (decide (j < i)))
  | .tup [.int a, .int b], .tup [.int c, .int d], Φ => Φ (.bl (decide (c < a ∨ (a = c ∧ d < b))))
  | _, _, _ => False
/-- is None -/
def isN (x y : D) (Φ : D → Prop) : Prop := match y with
  | .non => Φ (.bl (match x with | .non => true | _ => false))
  | _ => False
def notN (x y : D) (Φ : D → Prop) : Prop := match y with
  | .non => Φ (.bl (match x with | .non => false | _ => true))
  | _ => False
theorem sim_isN : SimV2 K (fun x y H Q => y = .non ∧ Q (.bl (decide (x = .non))) H) isN := by
  intro M Z G0 H0 G H σ ρ F v w x y Φ Q A rx ry hf k
  cases ry with
  | non =>
    refine ⟨rfl, ?_⟩
    cases rx with
    | non => exact k _ _ G H A (Same.refl G) (.bl _) hf
    | _ => exact k (.bl false) _ G H A (Same.refl G) (.bl _) hf
  | _ => exact hf.elim
theorem sim_notN : SimV2 K (fun x y H Q => y = .non ∧ Q (.bl (!decide (x = .non))) H) notN := by
  intro M Z G0 H0 G H σ ρ F v w x y Φ Q A rx ry hf k
  cases ry with
  | non =>
    refine ⟨rfl, ?_⟩
    cases rx with
    | non => exact k _ _ G H A (Same.refl G) (.bl _) hf
    | _ => exact k (.bl true) _ G H A (Same.refl G) (.bl _) hf
  | _ => exact hf.elim
/-- x in a list or a tuple of data -/
def inD (x y : D) (Φ : D → Prop) : Prop := x.okN 60 = true ∧ y.okN 60 = true ∧ match y with
  | .lst ds => Φ (.bl (ds.any fun z => D.eqv z x))
  | .tup ds => Φ (.bl (ds.any fun z => D.eqv z x))
  | _ => False
def notInD (x y : D) (Φ : D → Prop) : Prop := x.okN 60 = true ∧ y.okN 60 = true ∧ match y with
  | .lst ds => Φ (.bl (!ds.any fun z => D.eqv z x))
  | .tup ds => Φ (.bl (!ds.any fun z => D.eqv z x))
  | _ => False
theorem pyL_map : ∀ ds : List D, D.pyL ds = ds.map D.py
  | [] => rfl
  | x :: xs => by rw [D.pyL, pyL_map xs]; rfl
theorem any_py (x : D) (ds : List D) : (D.pyL ds).any (fun z => PyData.eqv z x.py) = ds.any fun z => D.eqv z x := by
  rw [pyL_map, List.any_map]
  rfl
end
section
variable {X : Cx} {a b : Expr} {ta tb : TE} {da db : DE} {pos : Pos}
def rGtA (K : PySem.W.Frag) : R2 := fun x y H Q => rI0 (fun i j => .bl (decide (j < i))) x y H Q ∨ ∃ p q i1 i2 j1 j2, x = .ref p ∧ y = .ref q ∧ SqT K H p [.int i1, .int i2] ∧ SqT K H q [.int j1, .int j2] ∧ Q (.bl (decide (j1 < i1 ∨ (i1 = j1 ∧ j2 < i2)))) H
theorem op_gtT (hu : X.A.units < cLine) : OpR X (compareOp .Gt) (fun x y H Q => ∃ p q i1 i2 j1 j2, x = .ref p ∧ y = .ref q ∧ SqT X.K H p [.int i1, .int i2] ∧ SqT X.K H q [.int j1, .int j2] ∧ Q (.bl (decide (j1 < i1 ∨ (i1 = j1 ∧ j2 < i2)))) H) := by
  intro pins s σ H x y v u Q I rx ry h
  obtain ⟨p, q, i1, i2, j1, j2, rfl, rfl, ha, hb, q⟩ := h
  cases rx
  cases ry
  have ha' : SqT X.K H p (([i1, i2] : List Int).map V.int) := ha
  have hb' : SqT X.K H _ (([j1, j2] : List Int).map V.int) := hb
  obtain ⟨its, r1, p1, _⟩ := I.tuple ha'
  obtain ⟨its2, r2, p2, _⟩ := I.tuple hb'
  have n1 : IntsAre its [i1, i2] := Vals.ints r1
  have n2 : IntsAre its2 [j1, j2] := Vals.ints r2
  have e1 : its.toArray.size = 2 := by rw [List.size_toArray]; exact n1.length
  have e2 : its2.toArray.size = 2 := by rw [List.size_toArray]; exact n2.length
  have at1 : ∀ j (h1 : j < its.toArray.size), ∃ t, its.toArray[j] = .int (([i1, i2] : List Int).getD j 0) t := fun j h1 => PyProof.Rows.IntsAre.int_at n1 _ _ (by simp at h1; simp [h1])
  have at2 : ∀ j (h1 : j < its2.toArray.size), ∃ t, its2.toArray[j] = .int (([j1, j2] : List Int).getD j 0) t := fun j h1 => PyProof.Rows.IntsAre.int_at n2 _ _ (by simp at h1; simp [h1])
  have R := Ob.RcOp.tuples_gt (A := X.A) (s := s) (e := fun j => decide (([i1, i2] : List Int).getD j 0 = ([j1, j2] : List Int).getD j 0)) (r := fun j => decide (([j1, j2] : List Int).getD j 0 < ([i1, i2] : List Int).getD j 0)) p1 p2 hu (fun j h1 h2 => by
    obtain ⟨t, et⟩ := at1 j h1
    obtain ⟨t', et'⟩ := at2 j h2
    rw [et, et']
    have z : (([i1, i2] : List Int).getD j 0 == ([j1, j2] : List Int).getD j 0) = decide (([i1, i2] : List Int).getD j 0 = ([j1, j2] : List Int).getD j 0) := by
      by_cases q : ([i1, i2] : List Int).getD j 0 = ([j1, j2] : List Int).getD j 0
      · rw [decide_eq_true q]; exact beq_iff_eq.mpr q
      · rw [decide_eq_false q]; exact beq_eq_false_iff_ne.mpr q
    rw [← z]
    exact SeqAt.EqAt.int_int _ _ _ _) (fun j h1 h2 _ => by
    obtain ⟨t, et⟩ := at1 j h1
    obtain ⟨t', et'⟩ := at2 j h2
    rw [et, et']
    exact Ob.RcOp.gt_int _ _ _ _)
  rw [e1, e2] at R
  have ev : Ob.lexAt (fun j => decide (([i1, i2] : List Int).getD j 0 = ([j1, j2] : List Int).getD j 0)) (fun j => decide (([j1, j2] : List Int).getD j 0 < ([i1, i2] : List Int).getD j 0)) (decide (2 > 2)) 0 (min 2 2) = decide (j1 < i1 ∨ (i1 = j1 ∧ j2 < i2)) := by
    show (if decide (i1 = j1) = true then (if decide (i2 = j2) = true then decide (2 > 2) else decide (j2 < i2)) else decide (j1 < i1)) = decide (j1 < i1 ∨ (i1 = j1 ∧ j2 < i2))
    by_cases c1 : i1 = j1
    · rw [if_pos (decide_eq_true c1)]
      by_cases c2 : i2 = j2
      · rw [if_pos (decide_eq_true c2)]
        rw [decide_eq_false (by omega), decide_eq_false (by omega)]
      · rw [if_neg (by simpa using c2)]
        exact decide_eq_decide.mpr ⟨fun z => .inr ⟨c1, z⟩, fun z => by omega⟩
    · rw [if_neg (by simpa using c1)]
      exact decide_eq_decide.mpr ⟨fun z => .inl z, fun z => by omega⟩
  rw [ev] at R
  exact R X.prog X.w X.xe (EP X pins σ Q) ⟨.bl _, H, I, rfl, q⟩
theorem op_gtA (hu : X.A.units < cLine) : OpR X (compareOp .Gt) (rGtA X.K) := OpR.or op_gt (op_gtT hu)
theorem sim_gt {K : PySem.W.Frag} : SimV2 K (rGtA K) gtD := by
  intro M Z G0 H0 G H σ ρ F v w x y Φ Q A rx ry hf k
  unfold gtD at hf
  split at hf
  · cases rx; cases ry
    exact .inl ⟨_, _, rfl, rfl, k _ _ G H A (Same.refl G) (.bl _) hf⟩
  · cases rx with
    | tup hx px =>
      cases ry with
      | tup hy py =>
        cases px with
        | cons a1 a2 =>
          cases a2 with
          | cons a3 a4 =>
            cases a4
            cases py with
            | cons b1 b2 =>
              cases b2 with
              | cons b3 b4 =>
                cases b4
                cases a1; cases a3; cases b1; cases b3
                exact .inr ⟨_, _, _, _, _, _, rfl, rfl, same_t A.gh hx, same_t A.gh hy, k _ _ G H A (Same.refl G) (.bl _) hf⟩
  · exact hf.elim
end
end DL
set_option Elab.async false
set_option linter.all false
set_option maxRecDepth 100000
set_option maxHeartbeats 2000000
namespace DL
open PySem PySem.Spec PyProof.Rows L2
variable [Tabl]

/-! ### in -/
section
variable {X : Cx}
def rInTD (K : PySem.W.Frag) : R2 := fun x y H Q => ∃ d ds, Dp K H x d ∧ Dp K H y (.tuple ds) ∧ SeqAt.shaped d = true ∧ SeqAt.shaped (.list ds) = true ∧ Q (.bl (ds.any fun z => PyData.eqv z d)) H
def rNotInTD (K : PySem.W.Frag) : R2 := fun x y H Q => ∃ d ds, Dp K H x d ∧ Dp K H y (.tuple ds) ∧ SeqAt.shaped d = true ∧ SeqAt.shaped (.list ds) = true ∧ Q (.bl (!ds.any fun z => PyData.eqv z d)) H
theorem op_inTD (hu : X.A.units + 65 < cLine) : OpR X (compareOp .In) (rInTD X.K) := by
  intro pins s σ H x y v u Q I rx ry h
  obtain ⟨d, ds, hd, he, sd, se, q⟩ := h
  obtain ⟨as, r1⟩ := Dp.reads I d x v hd rx
  obtain ⟨bs, r2⟩ := Dp.reads I (.tuple ds) y u he ry
  exact SeqAt.in_tuple_reads r2 r1 (SeqAt.canLay_of_shaped se) (SeqAt.canLay_of_shaped sd) (room_in_shaped sd hu) ⟨.bl _, H, I, rfl, q⟩
theorem op_notInTD (hu : X.A.units + 65 < cLine) : OpR X (compareOp .NotIn) (rNotInTD X.K) := by
  intro pins s σ H x y v u Q I rx ry h
  obtain ⟨d, ds, hd, he, sd, se, q⟩ := h
  obtain ⟨as, r1⟩ := Dp.reads I d x v hd rx
  obtain ⟨bs, r2⟩ := Dp.reads I (.tuple ds) y u he ry
  exact SeqAt.notIn_tuple_reads r2 r1 (SeqAt.canLay_of_shaped se) (SeqAt.canLay_of_shaped sd) (room_in_shaped sd hu) ⟨.bl _, H, I, rfl, q⟩
/-- k in d -/
def rInDic : R2 := fun x y H Q => ∃ a o, y = .ref a ∧ DGet H a x o ∧ Q (.bl o.isSome) H
def rNotInDic : R2 := fun x y H Q => ∃ a o, y = .ref a ∧ DGet H a x o ∧ Q (.bl (!o.isSome)) H
theorem op_inDic (hu : X.A.units + 1 < cLine) : OpR X (compareOp .In) rInDic := by
  intro pins s σ H x y v u Q I rx ry h
  obtain ⟨a, o, rfl, g, q⟩ := h
  cases ry
  exact d_in hu I g rx fun s' I' => ⟨.bl _, H, I', rfl, q⟩
theorem op_notInDic (hu : X.A.units + 1 < cLine) : OpR X (compareOp .NotIn) rNotInDic := by
  intro pins s σ H x y v u Q I rx ry h
  obtain ⟨a, o, rfl, g, q⟩ := h
  cases ry
  exact d_notIn hu I g rx fun s' I' => ⟨.bl _, H, I', rfl, q⟩
def rSign : R2 := fun x y H Q => ∃ (c : Nat) (z : Str), x = .str ⟨#[c]⟩ ∧ y = .str z ∧ Q (.bl (decide (c ∈ z.cps.toList))) H
def rNotSign : R2 := fun x y H Q => ∃ (c : Nat) (z : Str), x = .str ⟨#[c]⟩ ∧ y = .str z ∧ Q (.bl (!decide (c ∈ z.cps.toList))) H
def rInA (K : PySem.W.Frag) : R2 := fun x y H Q => rInD K x y H Q ∨ rInTD K x y H Q ∨ rInDic x y H Q ∨ rSign x y H Q
def rNotInA (K : PySem.W.Frag) : R2 := fun x y H Q => rNotInD K x y H Q ∨ rNotInTD K x y H Q ∨ rNotInDic x y H Q ∨ rNotSign x y H Q
theorem op_inA (hu : X.A.units + 65 < cLine) : OpR X (compareOp .In) (rInA X.K) := OpR.or (op_inD hu) (OpR.or (op_inTD hu) (OpR.or (op_inDic (by omega)) op_in_sign))
theorem op_notInA (hu : X.A.units + 65 < cLine) : OpR X (compareOp .NotIn) (rNotInA X.K) := OpR.or (op_notInD hu) (OpR.or (op_notInTD hu) (OpR.or (op_notInDic (by omega)) op_notIn_sign))
end
/-- a key, of an int or a text -/
def D.key : D → Option Key
  | .int i => some (.inl i)
  | .str x => some (.inr x)
  | _ => none
def getK (kvs : List (Key × D)) (k : Key) : Option D := (kvs.find? fun kv => decide (kv.1 = k)).map (·.2)
def memD (x y : D) (Φ : Bool → Prop) : Prop := match y with
  | .lst ds => x.okN 60 = true ∧ D.okL ds 60 = true ∧ Φ (ds.any fun z => D.eqv z x)
  | .tup ds => x.okN 60 = true ∧ D.okL ds 60 = true ∧ Φ (ds.any fun z => D.eqv z x)
  | .dic kvs => match x.key with
    | some k => Φ (getK kvs k).isSome
    | none => False
  | .str z => match x with
    | .str s => match s.cps.toList with
      | [c] => Φ (decide (c ∈ z.cps.toList))
      | _ => False
    | _ => False
  | _ => False
def memV (x y : D) (Φ : D → Prop) : Prop := memD x y fun b => Φ (.bl b)
def notMemV (x y : D) (Φ : D → Prop) : Prop := memD x y fun b => Φ (.bl (!b))
theorem rpk_get {K : PySem.W.Frag} {G : Hp} {kvs : List (Key × V)} {ds : List (Key × D)} (r : RpK K G kvs ds) (k : Key) : (valV kvs k = none ∧ getK ds k = none) ∨ ∃ v d, valV kvs k = some v ∧ getK ds k = some d ∧ Rp K G v d := by
  unfold valV getK
  match kvs, ds, r with
  | [], [], _ => exact .inl ⟨rfl, rfl⟩
  | (k1, v) :: kvs, (_, d) :: ds, .cons h t =>
    by_cases c : k1 = k
    · refine .inr ⟨v, d, ?_, ?_, h⟩
      · rw [List.find?_cons_of_pos (by exact decide_eq_true c)]
        rfl
      · rw [List.find?_cons_of_pos (by exact decide_eq_true c)]
        rfl
    · rw [List.find?_cons_of_neg (by simpa using c), List.find?_cons_of_neg (by simpa using c)]
      exact rpk_get t k
theorem key_rp {K : PySem.W.Frag} {G : Hp} {v : V} {x : D} {k : Key} (r : Rp K G v x) (h : x.key = some k) : v = kV k := by
  cases r with
  | int i => cases h; rfl
  | str s => cases h; rfl
  | _ => cases h
theorem rp_dget {K : PySem.W.Frag} {G H : Hp} {w : V} {kvs : List (Key × D)} (e : Same G H) (r : Rp K G w (.dic kvs)) (k : Key) :
    ∃ a o, w = .ref a ∧ DGet H a (kV k) o ∧ ((o = none ∧ getK kvs k = none) ∨ ∃ v d, o = some v ∧ getK kvs k = some d ∧ Rp K G v d) := by
  cases r with
  | dic hr hk =>
    rename_i a vs
    refine ⟨a, valV vs k, rfl, .inl ⟨vs, k, same_rd e hr, rfl, rfl⟩, ?_⟩
    rcases rpk_get hk k with ⟨h1, h2⟩ | ⟨v, d, h1, h2, h3⟩
    · exact .inl ⟨h1, h2⟩
    · exact .inr ⟨v, d, h1, h2, h3⟩
theorem sim_in {K : PySem.W.Frag} : SimV2 K (rInA K) memV := by
  intro M Z G0 H0 G H σ ρ F v w x y Φ Q A rx ry hf k
  unfold memV memD at hf
  split at hf
  · rename_i ds
    have oy : (D.lst ds).okN 61 = true := by simpa [D.okN] using hf.2.1
    have q := D.okN_depth (.lst ds) 61 oy
    refine .inl ⟨_, _, rx.dp A.gh hf.1, ry.dp A.gh oy, D.shaped hf.1, ?_, ?_⟩
    · unfold SeqAt.shaped
      rw [show (PyData.list (D.pyL ds)).canLay0 = true from q.1, decide_eq_true (by have := q.2; simp only [D.py] at this; omega)]
      rfl
    · rw [any_py]
      exact k _ _ G H A (Same.refl G) (.bl _) hf.2.2
  · rename_i ds
    have oy : (D.tup ds).okN 61 = true := by simpa [D.okN] using hf.2.1
    have q := D.okN_depth (.lst ds) 61 (by simpa [D.okN] using hf.2.1)
    refine .inr (.inl ⟨_, _, rx.dp A.gh hf.1, ry.dp A.gh oy, D.shaped hf.1, ?_, ?_⟩)
    · unfold SeqAt.shaped
      rw [show (PyData.list (D.pyL ds)).canLay0 = true from q.1, decide_eq_true (by have := q.2; simp only [D.py] at this; omega)]
      rfl
    · rw [any_py]
      exact k _ _ G H A (Same.refl G) (.bl _) hf.2.2
  · split at hf
    · rename_i kvs _ kk hk
      obtain ⟨a, o, e1, g, c⟩ := rp_dget A.gh ry kk
      refine .inr (.inr (.inl ⟨a, o, e1, by rw [key_rp rx hk]; exact g, ?_⟩))
      have e2 : o.isSome = (getK kvs kk).isSome := by
        rcases c with ⟨c1, c2⟩ | ⟨_, _, c1, c2, _⟩
        · rw [c1, c2]; rfl
        · rw [c1, c2]; rfl
      rw [e2]
      exact k _ _ G H A (Same.refl G) (.bl _) hf
    · exact hf.elim
  · rename_i z
    split at hf
    · rename_i s
      split at hf
      · rename_i c hc
        cases rx
        cases ry
        refine .inr (.inr (.inr ⟨c, z, ?_, rfl, k _ _ G H A (Same.refl G) (.bl _) hf⟩))
        obtain ⟨⟨l⟩⟩ := s
        have hc' : l = [c] := hc
        rw [hc']
      · exact hf.elim
    · exact hf.elim
  · exact hf.elim
theorem sim_notIn {K : PySem.W.Frag} : SimV2 K (rNotInA K) notMemV := by
  intro M Z G0 H0 G H σ ρ F v w x y Φ Q A rx ry hf k
  unfold notMemV memD at hf
  split at hf
  · rename_i ds
    have oy : (D.lst ds).okN 61 = true := by simpa [D.okN] using hf.2.1
    have q := D.okN_depth (.lst ds) 61 oy
    refine .inl ⟨_, _, rx.dp A.gh hf.1, ry.dp A.gh oy, D.shaped hf.1, ?_, ?_⟩
    · unfold SeqAt.shaped
      rw [show (PyData.list (D.pyL ds)).canLay0 = true from q.1, decide_eq_true (by have := q.2; simp only [D.py] at this; omega)]
      rfl
    · rw [any_py]
      exact k _ _ G H A (Same.refl G) (.bl _) hf.2.2
  · rename_i ds
    have oy : (D.tup ds).okN 61 = true := by simpa [D.okN] using hf.2.1
    have q := D.okN_depth (.lst ds) 61 (by simpa [D.okN] using hf.2.1)
    refine .inr (.inl ⟨_, _, rx.dp A.gh hf.1, ry.dp A.gh oy, D.shaped hf.1, ?_, ?_⟩)
    · unfold SeqAt.shaped
      rw [show (PyData.list (D.pyL ds)).canLay0 = true from q.1, decide_eq_true (by have := q.2; simp only [D.py] at this; omega)]
      rfl
    · rw [any_py]
      exact k _ _ G H A (Same.refl G) (.bl _) hf.2.2
  · split at hf
    · rename_i kvs _ kk hk
      obtain ⟨a, o, e1, g, c⟩ := rp_dget A.gh ry kk
      refine .inr (.inr (.inl ⟨a, o, e1, by rw [key_rp rx hk]; exact g, ?_⟩))
      have e2 : o.isSome = (getK kvs kk).isSome := by
        rcases c with ⟨c1, c2⟩ | ⟨_, _, c1, c2, _⟩
        · rw [c1, c2]; rfl
        · rw [c1, c2]; rfl
      rw [e2]
      exact k _ _ G H A (Same.refl G) (.bl _) hf
    · exact hf.elim
  · rename_i z
    split at hf
    · rename_i s
      split at hf
      · rename_i c hc
        cases rx
        cases ry
        refine .inr (.inr (.inr ⟨c, z, ?_, rfl, k _ _ G H A (Same.refl G) (.bl _) hf⟩))
        obtain ⟨⟨l⟩⟩ := s
        have hc' : l = [c] := hc
        rw [hc']
      · exact hf.elim
    · exact hf.elim
  · exact hf.elim

/-! ### expressions of two parts, tests -/
def dTest (d : DE) : DT := fun ρ Φ => d ρ fun x ρ1 => match x with
  | .bl b => Φ b ρ1
  | _ => False
theorem sim_test {K : PySem.W.Frag} {t : TE} {d : DE} (h : SimE K t d) : SimT K (tTest t) (dTest d) := fun {M Z G0 H0 G H σ ρ F Φ Q} A hd k =>
  h A hd fun v x ρ1 F1 G1 H1 A1 e1 r1 q1 => by
    cases r1 with
    | bl b => exact ⟨b, rfl, k b ρ1 F1 G1 H1 A1 e1 q1⟩
    | _ => exact q1.elim
theorem sim_tB {K : PySem.W.Frag} {t : TE} {d : DE} (h : SimE K t d) : SimT K (tB t) (dTest d) := fun {M Z G0 H0 G H σ ρ F Φ Q} A hd k =>
  h A hd fun v x ρ1 F1 G1 H1 A1 e1 r1 q1 => by
    cases r1 with
    | bl b => exact ⟨b, rfl, k b ρ1 F1 G1 H1 A1 e1 q1⟩
    | _ => exact q1.elim
def dAnd (a b : DT) : DT := fun ρ Φ => a ρ fun c ρ1 => if c = true then b ρ1 Φ else Φ false ρ1
def dOr (a b : DT) : DT := fun ρ Φ => a ρ fun c ρ1 => if c = true then Φ true ρ1 else b ρ1 Φ
def dNot (a : DT) : DT := fun ρ Φ => a ρ fun c ρ1 => Φ (!c) ρ1
def dAndV (a b : DE) : DE := fun ρ Φ => dTest a ρ fun c ρ1 => if c = true then b ρ1 Φ else Φ (.bl false) ρ1
def dOrV (a b : DE) : DE := fun ρ Φ => dTest a ρ fun c ρ1 => if c = true then Φ (.bl true) ρ1 else b ρ1 Φ
def dNotV (a : DE) : DE := fun ρ Φ => dTest a ρ fun c ρ1 => Φ (.bl (!c)) ρ1
def dIf (t : DT) (a b : DE) : DE := fun ρ Φ => t ρ fun c ρ1 => if c = true then a ρ1 Φ else b ρ1 Φ
section
variable {K : PySem.W.Frag} {t u : TT} {a b : DT} {te ue : TE} {da db : DE}
theorem sim_and (h : SimT K t a) (g : SimT K u b) : SimT K (tAnd t u) (dAnd a b) := fun {M Z G0 H0 G H σ ρ F Φ Q} A hd k =>
  h A hd fun c ρ1 F1 G1 H1 A1 e1 q1 => by
    cases c with
    | true => exact g A1 q1 fun b ρ2 F2 G2 H2 A2 e2 q2 => k b ρ2 F2 G2 H2 A2 (e1.trans e2) q2
    | false => exact k false ρ1 F1 G1 H1 A1 e1 q1
theorem sim_or (h : SimT K t a) (g : SimT K u b) : SimT K (tOr t u) (dOr a b) := fun {M Z G0 H0 G H σ ρ F Φ Q} A hd k =>
  h A hd fun c ρ1 F1 G1 H1 A1 e1 q1 => by
    cases c with
    | false => exact g A1 q1 fun b ρ2 F2 G2 H2 A2 e2 q2 => k b ρ2 F2 G2 H2 A2 (e1.trans e2) q2
    | true => exact k true ρ1 F1 G1 H1 A1 e1 q1
theorem sim_not (h : SimT K t a) : SimT K (tNot t) (dNot a) := fun {M Z G0 H0 G H σ ρ F Φ Q} A hd k => h A hd fun c ρ1 F1 G1 H1 A1 e1 q1 => k (!c) ρ1 F1 G1 H1 A1 e1 q1
theorem sim_andV (h : SimE K te da) (g : SimE K ue db) : SimE K (tAndV te ue) (dAndV da db) := fun {M Z G0 H0 G H σ ρ F Φ Q} A hd k =>
  sim_tB h A hd fun c ρ1 F1 G1 H1 A1 e1 q1 => by
    cases c with
    | true => exact g A1 q1 fun v x ρ2 F2 G2 H2 A2 e2 r2 q2 => k v x ρ2 F2 G2 H2 A2 (e1.trans e2) r2 q2
    | false => exact k _ _ ρ1 F1 G1 H1 A1 e1 (.bl false) q1
theorem sim_orV (h : SimE K te da) (g : SimE K ue db) : SimE K (tOrV te ue) (dOrV da db) := fun {M Z G0 H0 G H σ ρ F Φ Q} A hd k =>
  sim_tB h A hd fun c ρ1 F1 G1 H1 A1 e1 q1 => by
    cases c with
    | false => exact g A1 q1 fun v x ρ2 F2 G2 H2 A2 e2 r2 q2 => k v x ρ2 F2 G2 H2 A2 (e1.trans e2) r2 q2
    | true => exact k _ _ ρ1 F1 G1 H1 A1 e1 (.bl true) q1
theorem sim_notV (h : SimE K te da) : SimE K (tNotV te) (dNotV da) := fun {M Z G0 H0 G H σ ρ F Φ Q} A hd k =>
  sim_tB h A hd fun c ρ1 F1 G1 H1 A1 e1 q1 => k _ _ ρ1 F1 G1 H1 A1 e1 (.bl _) q1
theorem sim_if (h : SimT K t a) (h1 : SimE K te da) (h2 : SimE K ue db) : SimE K (tIf t te ue) (dIf a da db) := fun {M Z G0 H0 G H σ ρ F Φ Q} A hd k =>
  h A hd fun c ρ1 F1 G1 H1 A1 e1 q1 => by
    cases c with
    | true => exact h1 A1 q1 fun v x ρ2 F2 G2 H2 A2 e2 r2 q2 => k v x ρ2 F2 G2 H2 A2 (e1.trans e2) r2 q2
    | false => exact h2 A1 q1 fun v x ρ2 F2 G2 H2 A2 e2 r2 q2 => k v x ρ2 F2 G2 H2 A2 (e1.trans e2) r2 q2
end
structure PDW (X : Cx) (e : Expr) (t : TT) (d : DT) : Prop where
  pw : PW X e t
  sim : SimT X.K t d
section
variable {X : Cx} {a b c : Expr} {rest : List Expr} {ta tb tc : TE} {da db dc : DE} {t u : TT} {dt du : DT} {pos : Pos}
theorem pd_op {op : Operator} {r : R2} {f : D → D → (D → Prop) → Prop} (ho : OpR X (binaryOp op) r) (hs : SimV2 X.K r f) (ha : PD X a ta da) (hb : PD X b tb db) : PD X (.BinOp a op b pos) (tOp r ta tb) (dOp f da db) := ⟨pe_op ho ha.pe hb.pe, sim_op hs ha.sim hb.sim⟩
theorem pr_op {op : Operator} {r : R2} {f : D → D → (Sl → Prop) → Prop} (ho : OpR X (binaryOp op) r) (hs : SimR2 X.K r f) (ha : PD X a ta da) (hb : PD X b tb db) : PR X (.BinOp a op b pos) (tOp r ta tb) (dOpR f da db) := ⟨pe_op ho ha.pe hb.pe, sim_opR hs ha.sim hb.sim⟩
theorem pd_cmp {op : CmpOp} {r : R2} {f : D → D → (D → Prop) → Prop} (ho : OpR X (compareOp op) r) (hs : SimV2 X.K r f) (ha : PD X a ta da) (hb : PD X b tb db) (hm : behindInMarks op b = false) : PD X (.Compare a [op] [b] pos) (tOp r ta tb) (dOp f da db) :=
  ⟨pe_cmpR ho ha.pe hb.pe hm, sim_op hs ha.sim hb.sim⟩
theorem pdt_cmp {op : CmpOp} {r : R2} {f : D → D → (D → Prop) → Prop} (ho : OpR X (compareOp op) r) (hs : SimV2 X.K r f) (ha : PD X a ta da) (hb : PD X b tb db) (hm : behindInMarks op b = false) : PDT X (.Compare a [op] [b] pos) (tTest (tOp r ta tb)) (dTest (dOp f da db)) :=
  ⟨pt_cmpR ho ha.pe hb.pe hm, sim_test (sim_op hs ha.sim hb.sim)⟩
/-- a op1 b op2 c -/
def dChain (f f' : D → D → (D → Prop) → Prop) (da db dc : DE) : DE := fun ρ Φ => da ρ fun x ρ1 => db ρ1 fun y ρ2 => f x y fun z => match z with
  | .bl k => if k = true then dc ρ2 fun w ρ3 => f' y w fun u => Φ u ρ3 else Φ (.bl false) ρ2
  | _ => False
theorem sim_chain {K : PySem.W.Frag} {r r' : R2} {f f' : D → D → (D → Prop) → Prop} (h : SimV2 K r f) (h' : SimV2 K r' f') (ha : SimE K ta da) (hb : SimE K tb db) (hc : SimE K tc dc) : SimE K (tChain r r' ta tb tc) (dChain f f' da db dc) := fun {M Z G0 H0 G H σ ρ F Φ Q} A hd k =>
  ha A hd fun v x ρ1 F1 G1 H1 A1 e1 r1 q1 => hb A1 q1 fun w y ρ2 F2 G2 H2 A2 e2 r2 q2 => h A2 (r1.mono e2) r2 q2 fun u z G3 H3 A3 e3 r3 q3 => by
    cases r3 with
    | bl b =>
      refine ⟨b, rfl, ?_⟩
      cases b with
      | true =>
        refine hc A3 q3 fun v4 x4 ρ4 F4 G4 H4 A4 e4 r4 q4 => ?_
        exact h' A4 (r2.mono (e3.trans e4)) r4 q4 fun u5 z5 G5 H5 A5 e5 r5 q5 => k u5 z5 ρ4 F4 G5 H5 A5 (e1.trans (e2.trans (e3.trans (e4.trans e5)))) r5 q5
      | false => exact k _ _ ρ2 F2 G3 H3 A3 (e1.trans (e2.trans e3)) (.bl false) q3
    | _ => exact q3.elim
theorem pd_chain {op op' : CmpOp} {r r' : R2} {f f' : D → D → (D → Prop) → Prop} (ho : OpR X (compareOp op) r) (hs : SimV2 X.K r f) (ho' : OpR X (compareOp op') r') (hs' : SimV2 X.K r' f') (ha : PD X a ta da) (hb : PD X b tb db) (hc : PD X c tc dc)
    (hm : lastMarks [op, op'] [b, c] = false := by with_unfolding_all rfl) : PD X (.Compare a [op, op'] [b, c] pos) (tChain r r' ta tb tc) (dChain f f' da db dc) := ⟨pe_chain ho ho' ha.pe hb.pe hc.pe hm, sim_chain hs hs' ha.sim hb.sim hc.sim⟩
theorem pdt_chain {op op' : CmpOp} {r r' : R2} {f f' : D → D → (D → Prop) → Prop} (ho : OpR X (compareOp op) r) (hs : SimV2 X.K r f) (ho' : OpR X (compareOp op') r') (hs' : SimV2 X.K r' f') (ha : PD X a ta da) (hb : PD X b tb db) (hc : PD X c tc dc)
    (hm : lastMarks [op, op'] [b, c] = false := by with_unfolding_all rfl) : PDT X (.Compare a [op, op'] [b, c] pos) (tTest (tChain r r' ta tb tc)) (dTest (dChain f f' da db dc)) := ⟨pt_chain ho ho' ha.pe hb.pe hc.pe hm, sim_test (sim_chain hs hs' ha.sim hb.sim hc.sim)⟩
/-- an expression that is no comparison, as a test -/
theorem pdt_val (h : PD X a ta da) (he : ∀ whole, isTrue a X.env whole = (do let v ← whole; standAt a.pos; holding [v] (truthy v)) := by intro _; rfl) : PDT X a (tB ta) (dTest da) := ⟨pt_val h.pe he, sim_tB h.sim⟩
theorem pdt_not (h : PDT X a t dt) : PDT X (.UnaryOp .Not a pos) (tNot t) (dNot dt) := ⟨pt_not h.pe, sim_not h.sim⟩
theorem pdw_and1 (h : PDT X a t dt) : PDW X (.BoolOp .And [a] pos) t dt := ⟨pw_and1 h.pe, h.sim⟩
theorem pdw_or1 (h : PDT X a t dt) : PDW X (.BoolOp .Or [a] pos) t dt := ⟨pw_or1 h.pe, h.sim⟩
theorem pdw_and (h : PDT X a t dt) (g : PDW X (.BoolOp .And (b :: rest) pos) u du) : PDW X (.BoolOp .And (a :: b :: rest) pos) (tAnd t u) (dAnd dt du) := ⟨pw_and h.pe g.pw, sim_and h.sim g.sim⟩
theorem pdw_or (h : PDT X a t dt) (g : PDW X (.BoolOp .Or (b :: rest) pos) u du) : PDW X (.BoolOp .Or (a :: b :: rest) pos) (tOr t u) (dOr dt du) := ⟨pw_or h.pe g.pw, sim_or h.sim g.sim⟩
theorem PDW.tst (h : PDW X a t dt) : PDT X a t dt := ⟨h.pw.pt, h.sim⟩
theorem pd_one {op} (h : PD X a ta da) : PD X (.BoolOp op [a] pos) ta da := ⟨pe_one h.pe, h.sim⟩
theorem pd_and (h : PD X a ta da) (g : PD X (.BoolOp .And (b :: rest) pos) tb db) : PD X (.BoolOp .And (a :: b :: rest) pos) (tAndV ta tb) (dAndV da db) := ⟨pe_and h.pe g.pe, sim_andV h.sim g.sim⟩
theorem pd_or (h : PD X a ta da) (g : PD X (.BoolOp .Or (b :: rest) pos) tb db) : PD X (.BoolOp .Or (a :: b :: rest) pos) (tOrV ta tb) (dOrV da db) := ⟨pe_or h.pe g.pe, sim_orV h.sim g.sim⟩
theorem pd_not (h : PD X a ta da) : PD X (.UnaryOp .Not a pos) (tNotV ta) (dNotV da) := ⟨pe_not h.pe, sim_notV h.sim⟩
theorem pd_ifExp (h : PDT X c t dt) (ha : PD X a ta da) (hb : PD X b tb db) : PD X (.IfExp c a b pos) (tIf t ta tb) (dIf dt da db) := ⟨pe_ifExp h.pe ha.pe hb.pe, sim_if h.sim ha.sim hb.sim⟩
end
end DL
set_option Elab.async false
set_option linter.all false
set_option maxRecDepth 100000
set_option maxHeartbeats 2000000
namespace DL
open PySem PySem.Spec PyProof.Rows L2
variable [Tabl]

/-! ### subscripts -/
def rDic : R2 := fun x y H Q => ∃ a v, x = .ref a ∧ DGet H a y (some v) ∧ Q v H
theorem ix_dic {X : Cx} (hu : X.A.units + 1 < cLine) : IxR X rDic := by
  intro value slice pins s σ H x y v u Q I rx ry h hs
  obtain ⟨a, w, rfl, g, q⟩ := h
  cases rx
  exact tail_any (dict_typeIs I g) PySem.F.slot_dict_getitem.lookup (d_getItem hu I g ry fun w' s' I' rw' => ⟨w, H, I', rw', q⟩) hs
def rIxA (K : PySem.W.Frag) : R2 := fun x y H Q => rIx K x y H Q ∨ rDic x y H Q
theorem ix_all {X : Cx} (hu : X.A.units + 1 < cLine) : IxR X (rIxA X.K) := ix_seq.or (ix_dic hu)
def ixL (xs : List D) (y : D) (Φ : D → Prop) : Prop := match y with
  | .int i => match atI xs i with
    | some d => Φ d
    | none => False
  | _ => False
def ixD (x y : D) (Φ : D → Prop) : Prop := match x with
  | .tup xs => ixL xs y Φ
  | .lst xs => ixL xs y Φ
  | .rd xs => ixL xs y Φ
  | .str z => z.length ≤ 1000000 ∧ match y with
    | .int i => match atI z.cps.toList i with
      | some c => Φ (.str ⟨#[c]⟩)
      | none => False
    | _ => False
  | .dic kvs => match y.key with
    | some k => match getK kvs k with
      | some d => Φ d
      | none => False
    | none => False
  | _ => False
theorem ixL_at {xs : List D} {y : D} {Φ : D → Prop} (h : ixL xs y Φ) : ∃ i d, y = .int i ∧ atI xs i = some d ∧ Φ d := by
  unfold ixL at h
  split at h
  · split at h
    · rename_i d e
      exact ⟨_, d, rfl, e, h⟩
    · exact h.elim
  · exact h.elim
theorem sim_ix {K : PySem.W.Frag} : SimV2 K (rIxA K) ixD := by
  intro M Z G0 H0 G H σ ρ F v w x y Φ Q A rx ry hf k
  unfold ixD at hf
  split at hf
  · obtain ⟨i, d, rfl, e, q⟩ := ixL_at hf
    cases ry
    cases rx with
    | tup hx px =>
      obtain ⟨u, e1, r⟩ := px.dget e
      exact .inl (.inr (.inl ⟨_, _, i, u, rfl, rfl, same_t A.gh hx, e1, k _ _ G H A (Same.refl G) r q⟩))
  · obtain ⟨i, d, rfl, e, q⟩ := ixL_at hf
    cases ry
    cases rx with
    | lst hx px =>
      obtain ⟨u, e1, r⟩ := px.dget e
      exact .inl (.inl ⟨_, _, i, u, rfl, rfl, SqL.of (A.gh _ _ hx), e1, k _ _ G H A (Same.refl G) r q⟩)
  · obtain ⟨i, d, rfl, e, q⟩ := ixL_at hf
    cases ry
    cases rx with
    | rd hx px =>
      obtain ⟨u, e1, r⟩ := px.dget e
      exact .inl (.inl ⟨_, _, i, u, rfl, rfl, same_l A.gh hx, e1, k _ _ G H A (Same.refl G) r q⟩)
  · obtain ⟨hz, hf⟩ := hf
    split at hf
    · split at hf
      · rename_i c e
        cases rx
        cases ry
        exact .inl (.inr (.inr ⟨_, _, c, rfl, rfl, line_le hz, e, k _ _ G H A (Same.refl G) (.str _) hf⟩))
      · exact hf.elim
    · exact hf.elim
  · split at hf
    · rename_i kk hk
      split at hf
      · rename_i d e
        obtain ⟨a, o, e1, g, c⟩ := rp_dget A.gh rx kk
        rcases c with ⟨c1, c2⟩ | ⟨u, d', c1, c2, c3⟩
        · rw [e] at c2; cases c2
        · rw [e] at c2; cases c2
          subst c1
          exact .inr ⟨a, u, e1, by rw [key_rp ry hk]; exact g, k _ _ G H A (Same.refl G) c3 hf⟩
      · exact hf.elim
    · exact hf.elim
  · exact hf.elim
section
variable {X : Cx} {a b : Expr} {ta tb : TE} {da db : DE} {pos : Pos}
theorem pd_ix (hu : X.A.units + 1 < cLine) (ha : PD X a ta da) (hb : PD X b tb db) (hs : PlainIx b) : PD X (.Subscript a b pos) (tOp (rIxA X.K) ta tb) (dOp ixD da db) := ⟨pe_ix (ix_all hu) ha.pe hb.pe hs, sim_op sim_ix ha.sim hb.sim⟩
end

/-! ### slices -/
abbrev DO := List Sl → (Option Int → List Sl → Prop) → Prop
def SimO (K : PySem.W.Frag) (t : TO) (d : DO) : Prop := ∀ {M : Addr → Prop} {Z G0 H0 G H : Hp} {σ : L2.St} {ρ : List Sl} {F : Nat → Addr → Prop} {Φ : Option Int → List Sl → Prop} {Q : Option Int → Hp → Prop}, At K M Z G0 H0 G H σ ρ F → d ρ Φ →
  (∀ b ρ' F' G' H', At K M Z G0 H0 G' H' σ ρ' F' → Same G G' → Φ b ρ' → Q b H') → t σ H Q
structure PDO (X : Cx) (e : Option Expr) (t : TO) (d : DO) : Prop where
  po : PO X e t
  sim : SimO X.K t d
def dNoPart : DO := fun ρ Φ => Φ none ρ
def dPart (d : DE) : DO := fun ρ Φ => d ρ fun x ρ1 => match x with
  | .int i => Φ (some i) ρ1
  | _ => False
def cutD {α : Type} (xs : List α) (lo hi : Option Int) : List α := (xs.drop (HT.sIx xs.length 0 lo)).take (HT.sIx xs.length xs.length hi - HT.sIx xs.length 0 lo)
theorem RpL.cut {K : PySem.W.Frag} {G : Hp} {vs : List V} {ds : List D} (r : RpL K G vs ds) (lo hi : Option Int) : RpL K G (cutV vs lo hi) (cutD ds lo hi) := by
  unfold cutV cutD
  rw [r.length]
  exact (r.drop _).take _
def slD (x : D) (lo hi : Option Int) (Φ : Sl → Prop) : Prop := match x with
  | .lst xs => Φ (.own (cutD xs lo hi))
  | .rd xs => Φ (.own (cutD xs lo hi))
  | .tup xs => Φ (.val (.tup (cutD xs lo hi)))
  | .str z => z.length ≤ 1000000 ∧ Φ (.val (.str (cutS z lo hi)))
  | _ => False
def rSlAll (K : PySem.W.Frag) : V → Option Int → Option Int → Hp → VK → Prop := fun x lo hi H Q => rSlL K x lo hi H Q ∨ rSlA K x lo hi H Q ∨ rSlS x lo hi H Q
theorem sl_all {X : Cx} : SlR X (rSlAll X.K) := SlR.or sl_list (SlR.or sl_tupA sl_str)
def dSl (d : DE) (dl dh : DO) : DR := fun ρ Φ => d ρ fun x ρ1 => dl ρ1 fun l ρ2 => dh ρ2 fun h ρ3 => slD x l h fun z => Φ z ρ3
theorem sim_part {K : PySem.W.Frag} {t : TE} {d : DE} (h : SimE K t d) : SimO K (tPart t) (dPart d) := fun {M Z G0 H0 G H σ ρ F Φ Q} A hd k =>
  h A hd fun v x ρ1 F1 G1 H1 A1 e1 r1 q1 => by
    cases r1 with
    | int b => exact ⟨b, rfl, k (some b) ρ1 F1 G1 H1 A1 e1 q1⟩
    | _ => exact q1.elim
theorem sim_noPart {K : PySem.W.Frag} : SimO K tNoPart dNoPart := fun {M Z G0 H0 G H σ ρ F Φ Q} A hd k => k none ρ F G H A (Same.refl G) hd
theorem sim_sl {K : PySem.W.Frag} {te : TE} {tl th : TO} {d : DE} {dl dh : DO} (h : SimE K te d) (hl : SimO K tl dl) (hh : SimO K th dh) : SimR K (tSl (rSlAll K) te tl th) (dSl d dl dh) := by
  intro M Z G0 H0 G H σ ρ F Φ Q A hd k
  refine h A hd fun v x ρ1 F1 G1 H1 A1 e1 r1 q1 => hl A1 q1 fun lo ρ2 F2 G2 H2 A2 e2 q2 => hh A2 q2 fun hi ρ3 F3 G3 H3 A3 e3 q3 => ?_
  have r3 := r1.mono (e2.trans e3)
  have eG := e1.trans (e2.trans e3)
  unfold slD at q3
  split at q3
  · cases r3 with
    | lst hx px => exact .inl ⟨_, _, rfl, SqL.of (A3.gh _ _ hx), fun p hp => by
        obtain ⟨A4, r4⟩ := A3.lst_new hp (px.cut lo hi)
        exact k _ _ _ ρ3 F3 G3 _ A4 eG r4 q3⟩
  · cases r3 with
    | rd hx px => exact .inl ⟨_, _, rfl, same_l A3.gh hx, fun p hp => by
        obtain ⟨A4, r4⟩ := A3.lst_new hp (px.cut lo hi)
        exact k _ _ _ ρ3 F3 G3 _ A4 eG r4 q3⟩
  · cases r3 with
    | tup hx px =>
      refine .inr (.inl ⟨_, _, rfl, same_t A3.gh hx, fun hw => ?_, fun hw p hp => ?_⟩)
      · rw [px.length] at hw
        unfold cutD at q3
        rw [hw.1, hw.2] at q3
        simp only [List.drop_zero, Nat.sub_zero, List.take_length] at q3
        exact k _ _ _ ρ3 F3 G3 H3 A3 eG (.val (.tup hx px)) q3
      · obtain ⟨G4, A4, e4, r4⟩ := A3.tup_new hp (px.cut lo hi)
        exact k _ _ _ ρ3 F3 G4 _ A4 (eG.trans e4) (.val r4) q3
  · cases r3
    exact .inr (.inr ⟨_, rfl, line_le q3.1, k _ _ _ ρ3 F3 G3 H3 A3 eG (.val (.str _)) q3.2⟩)
  · exact q3.elim
section
variable {X : Cx} {e : Expr} {lo hi : Option Expr} {te : TE} {tl th : TO} {d : DE} {dl dh : DO} {pos p2 : Pos}
theorem pdo_none : PDO X none tNoPart dNoPart := ⟨po_none, sim_noPart⟩
theorem pdo_some (h : PD X e te d) : PDO X (some e) (tPart te) (dPart d) := ⟨po_some h.pe, sim_part h.sim⟩
theorem pr_slice (h : PD X e te d) (hl : PDO X lo tl dl) (hh : PDO X hi th dh) : PR X (.Subscript e (.Slice lo hi none p2) pos) (tSl (rSlAll X.K) te tl th) (dSl d dl dh) := ⟨pe_slice sl_all h.pe hl.po hh.po, sim_sl h.sim hl.sim hh.sim⟩
/-- xs[::-1] of a list -/
def dRevL (d : DE) : DR := fun ρ Φ => d ρ fun x ρ1 => match x with
  | .lst xs => Φ (.own xs.reverse) ρ1
  | _ => False
theorem pr_revL {k : Nat} {p1 p3 : Pos} (h : PD X e te d) : PR X (.Subscript e (.Slice none none (some (.UnaryOp .USub (.Constant (.int 1) k p1) p2)) p3) pos) (tRevL X.K te) (dRevL d) := ⟨pe_revL h.pe, fun {M Z G0 H0 G H σ ρ F Φ Q} A hd kk =>
  h.sim A hd fun v x ρ1 F1 G1 H1 A1 e1 r1 q1 => by
    cases r1 with
    | lst hx px => exact ⟨_, _, rfl, SqL.of (A1.gh _ _ hx), fun p hp => by
        obtain ⟨A4, r4⟩ := A1.lst_new hp px.reverse
        exact kk _ _ _ ρ1 F1 G1 _ A4 e1 r4 q1⟩
    | _ => exact q1.elim⟩
end

/-! ### calls of built-ins, by values -/
def SimC (K : PySem.W.Frag) (r : List V → Hp → VK → Prop) (f : List D → (Sl → Prop) → Prop) : Prop := ∀ {M : Addr → Prop} {Z G0 H0 G H : Hp} {σ : L2.St} {ρ : List Sl} {F : Nat → Addr → Prop} {vs : List V} {xs : List D} {Φ : Sl → Prop} {Q : VK}, At K M Z G0 H0 G H σ ρ F → RpL K G vs xs → f xs Φ →
  (∀ u z Fn G' H', At K M Z G0 H0 G' H' σ ρ F → Same G G' → ResOk K Z H0 G' H' F u z Fn → Φ z → Q u H') → r vs H Q
def dCB (f : List D → (Sl → Prop) → Prop) (d : DA) : DR := fun ρ Φ => d ρ fun xs ρ1 => f xs fun z => Φ z ρ1
theorem sim_cb {K : PySem.W.Frag} {r : List V → Hp → VK → Prop} {f : List D → (Sl → Prop) → Prop} {t : TA} {d : DA} (h : SimC K r f) (ha : SimA K t d) : SimR K (tCB r t) (dCB f d) := fun {M Z G0 H0 G H σ ρ F Φ Q} A hd k =>
  ha A hd fun vs xs ρ1 F1 G1 H1 A1 e1 r1 q1 => h A1 r1 q1 fun u z Fn G2 H2 A2 e2 r2 q2 => k u z Fn ρ1 F1 G2 H2 A2 (e1.trans e2) r2 q2
section
variable {X : Cx} {x : Str} {e : Expr} {es : List Expr} {r : List V → Hp → VK → Prop} {f : List D → (Sl → Prop) → Prop} {t : TA} {d : DA} {id T : String} {p pos : Pos}
theorem pr_callB (hc : CallR X (.builtin id) r) (hs : SimC X.K r f) (hm : X.mg x = none) (hv : bootBuiltins x = some (.builtin id)) (ha : PDA X (e :: es) t d) (hg : Gl X x := by rfl) (hn : x ≠ "__name__" := by decide) (hdb : (x == ("__debug__" : Str)) = false := by decide)
    (hst : starEach (e :: es) X.env = (false, eval e X.env) :: starEach es X.env := by rfl) (hpl : (backTo pos (starEach es X.env)).any (·.1) = false := by rfl) : PR X (.Call (.Name x p) (e :: es) [] pos) (tCB r t) (dCB f d) := ⟨pe_callB hc hg hm hv ha.pe hn hdb hst hpl, sim_cb hs ha.sim⟩
theorem pr_callTy (hc : CallR X (.type T) r) (hs : SimC X.K r f) (hm : X.mg x = none) (hv : bootBuiltins x = some (.type T)) (ha : PDA X (e :: es) t d) (hg : Gl X x := by rfl) (hn : x ≠ "__name__" := by decide) (hdb : (x == ("__debug__" : Str)) = false := by decide)
    (hst : starEach (e :: es) X.env = (false, eval e X.env) :: starEach es X.env := by rfl) (hpl : (backTo pos (starEach es X.env)).any (·.1) = false := by rfl) : PR X (.Call (.Name x p) (e :: es) [] pos) (tCB r t) (dCB f d) := ⟨pe_callTy hc hg hm hv ha.pe hn hdb hst hpl, sim_cb hs ha.sim⟩
end
end DL
set_option Elab.async false
set_option linter.all false
set_option maxRecDepth 100000
set_option maxHeartbeats 2000000
namespace DL
open PySem PySem.Spec PyProof.Rows L2
variable [Tabl]

/-! ### targets -/
abbrev DG := D → List Sl → (List Sl → Prop) → Prop
abbrev DGs := List D → List Sl → (List Sl → Prop) → Prop
def SimG (K : PySem.W.Frag) (g : TG) (dg : DG) : Prop := ∀ {M : Addr → Prop} {Z G0 H0 G H : Hp} {σ : L2.St} {ρ : List Sl} {F : Nat → Addr → Prop} {v : V} {x : D} {Φ : List Sl → Prop} {Q : L2.St → Hp → Prop}, At K M Z G0 H0 G H σ ρ F → Rp K G v x → dg x ρ Φ →
  (∀ σ' ρ' F' G' H', At K M Z G0 H0 G' H' σ' ρ' F' → Same G G' → Φ ρ' → Q σ' H') → g v σ H Q
def SimGs (K : PySem.W.Frag) (g : TGs) (dg : DGs) : Prop := ∀ {M : Addr → Prop} {Z G0 H0 G H : Hp} {σ : L2.St} {ρ : List Sl} {F : Nat → Addr → Prop} {vs : List V} {xs : List D} {Φ : List Sl → Prop} {Q : L2.St → Hp → Prop}, At K M Z G0 H0 G H σ ρ F → RpL K G vs xs → dg xs ρ Φ →
  (∀ σ' ρ' F' G' H', At K M Z G0 H0 G' H' σ' ρ' F' → Same G G' → Φ ρ' → Q σ' H') → g vs σ H Q
structure PDG (X : Cx) (e : Expr) (t : TG) (d : DG) : Prop where
  pg : PG X e t
  sim : SimG X.K t d
structure PDGs (X : Cx) (es : List Expr) (t : TGs) (d : DGs) : Prop where
  pg : PGs X es t
  sim : SimGs X.K t d
/-- a slot that may be set -/
def free (ρ : List Sl) (i : Nat) : Prop := match ρ[i]? with
  | some (.arg _) => False
  | some _ => True
  | none => False
theorem free.lt {ρ : List Sl} {i : Nat} (h : free ρ i) : i < ρ.length ∧ ¬ Sl.isArg (ρ[i]?) := by
  unfold free at h
  split at h
  · exact h.elim
  · rename_i x hx e
    refine ⟨(List.getElem?_eq_some_iff.mp e).1, fun z => ?_⟩
    rw [e] at z
    cases x with
    | arg S => exact hx S rfl
    | _ => exact z.elim
  · exact h.elim
def dgName (i : Nat) : DG := fun x ρ Φ => free ρ i ∧ Φ (ρ.set i (.val x))
def dgNil : DGs := fun xs ρ Φ => match xs with
  | [] => Φ ρ
  | _ => False
def dgCons (g : DG) (gs : DGs) : DGs := fun xs ρ Φ => match xs with
  | [] => False
  | x :: r => g x ρ fun ρ1 => gs r ρ1 Φ
def dgTup (n : Nat) (gs : DGs) : DG := fun x ρ Φ => match x with
  | .tup xs => xs.length = n ∧ gs xs ρ Φ
  | _ => False
section
variable {K : PySem.W.Frag}
theorem sim_gName {i : Nat} : SimG K (gName i) (dgName i) := by
  intro M Z G0 H0 G H σ ρ F v x Φ Q A r hd k
  obtain ⟨h1, h2⟩ := hd.1.lt
  exact k _ _ _ G H (A.set (.val r) h1 h2) (Same.refl G) hd.2
theorem sim_gNil : SimGs K gNil dgNil := by
  intro M Z G0 H0 G H σ ρ F vs xs Φ Q A r hd k
  cases r with
  | nil => exact ⟨rfl, k σ ρ F G H A (Same.refl G) hd⟩
  | cons _ _ => exact hd.elim
theorem sim_gCons {g : TG} {gs : TGs} {d : DG} {ds : DGs} (h : SimG K g d) (hs : SimGs K gs ds) : SimGs K (gCons g gs) (dgCons d ds) := by
  intro M Z G0 H0 G H σ ρ F vs xs Φ Q A r hd k
  cases r with
  | nil => exact hd.elim
  | cons r1 rr => exact ⟨_, _, rfl, h A r1 hd fun σ1 ρ1 F1 G1 H1 A1 e1 q1 => hs A1 (rr.mono e1) q1 fun σ2 ρ2 F2 G2 H2 A2 e2 q2 => k σ2 ρ2 F2 G2 H2 A2 (e1.trans e2) q2⟩
theorem sim_gTup {n : Nat} {gs : TGs} {ds : DGs} (h : SimGs K gs ds) : SimG K (gTup K n gs) (dgTup n ds) := by
  intro M Z G0 H0 G H σ ρ F v x Φ Q A r hd k
  cases r with
  | tup hx px => exact ⟨_, _, rfl, same_t A.gh hx, by rw [px.length]; exact hd.1, h A px hd.2 k⟩
  | _ => exact hd.elim
end
section
variable {X : Cx} {pos : Pos}
theorem pdg_name {i : Nat} {x : Str} (hN : X.N.Nodup) (hi : X.N[i]? = some x := by rfl) (hx : Loc X.env.scope x := by first | exact Or.inl rfl | exact Or.inr rfl) (hf : X.fn x = true ∨ X.env.scope.names.lookup x = some .local := by first | exact .inl rfl | exact .inr rfl | assumption) : PDG X (.Name x pos) (gName i) (dgName i) := ⟨pg_name hN hi hx hf, sim_gName⟩
theorem pdgs_nil : PDGs X [] gNil dgNil := ⟨pgs_nil, sim_gNil⟩
theorem pdgs_cons {e : Expr} {es : List Expr} {t : TG} {u : TGs} {d : DG} {du : DGs} (h1 : PDG X e t d) (h2 : PDGs X es u du)
    (hs : (assignEach (e :: es) X.env).map (·.2) = assign e X.env :: (assignEach es X.env).map (·.2) := by rfl) : PDGs X (e :: es) (gCons t u) (dgCons d du) := ⟨pgs_cons h1.pg h2.pg hs, sim_gCons h1.sim h2.sim⟩
theorem pdg_tup {es : List Expr} {k : Nat} {t : TGs} {d : DGs} {n : Nat} (h : PDGs X es t d) (hc : X.calm = true := by rfl)
    (hn : (assignEach es X.env).length = n := by rfl) (hst : (assignEach es X.env).findIdx? (·.1) = none := by rfl) : PDG X (.Tuple es k pos) (gTup X.K n t) (dgTup n d) := ⟨pg_tup hc h.pg hn hst, sim_gTup h.sim⟩
end

/-! ### small statements -/
def dNext : DS := fun Δ ρ => Δ.nx ρ
def dSeq (a b : DS) : DS := fun Δ ρ => a { Δ with nx := b Δ } ρ
def dBreak : DS := fun Δ ρ => Δ.bk ρ
def dCont : DS := fun Δ ρ => Δ.ct ρ
def dDrop (d : DR) : DS := fun Δ ρ => d ρ fun _ ρ1 => Δ.nx ρ1
def dRet (d : DR) : DS := fun Δ ρ => d ρ fun x ρ1 => Δ.rt x ρ1
def dIfS (c : DT) (a b : DS) : DS := fun Δ ρ => c ρ fun k ρ1 => if k = true then a Δ ρ1 else b Δ ρ1
/-- x = e -/
def dSet (i : Nat) (d : DR) : DS := fun Δ ρ => d ρ fun x ρ1 => free ρ1 i ∧ Δ.nx (ρ1.set i x)
/-- a, b = e -/
def dAsg (d : DE) (g : DG) : DS := fun Δ ρ => d ρ fun x ρ1 => g x ρ1 Δ.nx
/-- return x, x one's own -/
def dRetM (i : Nat) : DS := fun Δ ρ => match ρ[i]? with
  | some (.own ds) => Δ.rt (.own ds) ρ
  | some (.loc S) => Δ.rt (.loc S) ρ
  | _ => False
section
variable {K : PySem.W.Frag} {t u : TS} {a b : DS}
theorem sim_next : SimS K tNext dNext := fun {M Z G0 H0 G H σ ρ F Δ Q} A hd k1 _ _ _ => k1 σ ρ F G H A (Same.refl G) hd
theorem sim_break : SimS K tBreak dBreak := fun {M Z G0 H0 G H σ ρ F Δ Q} A hd _ _ k3 _ => k3 σ ρ F G H A (Same.refl G) hd
theorem sim_cont : SimS K tCont dCont := fun {M Z G0 H0 G H σ ρ F Δ Q} A hd _ _ _ k4 => k4 σ ρ F G H A (Same.refl G) hd
theorem sim_never : SimS K tNever (fun _ _ => False) := fun {M Z G0 H0 G H σ ρ F Δ Q} A hd _ _ _ _ => hd.elim
theorem sim_seq (h : SimS K t a) (g : SimS K u b) : SimS K (tSeq t u) (dSeq a b) := fun {M Z G0 H0 G H σ ρ F Δ Q} A hd k1 k2 k3 k4 =>
  h (Δ := { Δ with nx := b Δ }) (Q := { Q with nx := u Q }) A hd (fun σ1 ρ1 F1 G1 H1 A1 e1 q1 => g A1 q1 (fun σ2 ρ2 F2 G2 H2 A2 e2 q2 => k1 σ2 ρ2 F2 G2 H2 A2 (e1.trans e2) q2)
    (fun v x Fn σ2 ρ2 F2 G2 H2 A2 e2 r2 q2 => k2 v x Fn σ2 ρ2 F2 G2 H2 A2 (e1.trans e2) r2 q2) (fun σ2 ρ2 F2 G2 H2 A2 e2 q2 => k3 σ2 ρ2 F2 G2 H2 A2 (e1.trans e2) q2) (fun σ2 ρ2 F2 G2 H2 A2 e2 q2 => k4 σ2 ρ2 F2 G2 H2 A2 (e1.trans e2) q2)) k2 k3 k4
theorem sim_drop {te : TE} {d : DR} (h : SimR K te d) : SimS K (tDrop te) (dDrop d) := fun {M Z G0 H0 G H σ ρ F Δ Q} A hd k1 _ _ _ => h A hd fun v x Fn ρ1 F1 G1 H1 A1 e1 r1 q1 => k1 σ ρ1 F1 G1 H1 A1 e1 q1
theorem ResOk.weak {Z H0 G H : Hp} {F F' : Nat → Addr → Prop} {v : V} {x : Sl} {Fn : Addr → Prop} (r : ResOk K Z H0 G H F v x Fn) (h : ∀ j a, F' j a → F j a) : ResOk K Z H0 G H F' v x Fn :=
  ⟨r.ok, r.na, fun a fa => let ⟨h1, h2, h3, h4, h5⟩ := r.fr a fa; ⟨h1, h2, h3, h4, fun j z => h5 j (h j a z)⟩⟩
theorem sim_ret {te : TE} {d : DR} (h : SimR K te d) : SimS K (tRet te) (dRet d) := fun {M Z G0 H0 G H σ ρ F Δ Q} A hd _ k2 _ _ => h A hd fun v x Fn ρ1 F1 G1 H1 A1 e1 r1 q1 => k2 v x Fn σ ρ1 F1 G1 H1 A1 e1 (r1.weak fun _ _ z => z.2) q1
theorem sim_retM {i : Nat} : SimS K (tRet (tVar i)) (dRetM i) := by
  intro M Z G0 H0 G H σ ρ F Δ Q A hd _ k2 _ _
  have own : ∀ x, ρ[i]? = some x → ¬ Sl.isArg (some x) → (∀ v, (σ[i]?).join = some v → SlOk K G H (some v) (F i) x → Δ.rt x ρ → Q.rt v H) := fun x hx na v hv hs q => by
    refine k2 v x (F i) σ ρ F G H A (Same.refl G) ⟨hs, na, fun a fa => ?_⟩ q
    obtain ⟨h1, h2, h3⟩ := A.fp i a fa
    refine ⟨h1, h2, ?_, ?_, fun j z => ?_⟩
    · rcases h3 with h3 | h3
      · exact h3
      · rw [hx] at h3
        exact absurd h3.2 na
    · cases q : Z a with
      | none => rfl
      | some o => exact absurd fa ((A.hz a o q).2.2 i)
    · have e := A.dj j i a z.2 fa
      rw [e, hx] at z
      exact na z.1
  unfold dRetM at hd
  split at hd
  · rename_i ds e
    obtain ⟨p, vs, h1, h2, h3, h4⟩ := A.sl i _ e
    exact ⟨.ref p, join_some h1, own _ e (fun z => z) (.ref p) h1 ⟨p, vs, rfl, h2, h3, h4⟩ hd⟩
  · rename_i S e
    obtain ⟨v, h1, h2⟩ := A.sl i _ e
    exact ⟨v, join_some h1, own _ e (fun z => z) v h1 ⟨v, rfl, h2⟩ hd⟩
  · exact hd.elim
theorem sim_ifS {c : TT} {dc : DT} (h : SimT K c dc) (h1 : SimS K t a) (h2 : SimS K u b) : SimS K (tIfS c t u) (dIfS dc a b) := fun {M Z G0 H0 G H σ ρ F Δ Q} A hd k1 k2 k3 k4 =>
  h A hd fun c ρ1 F1 G1 H1 A1 e1 q1 => by
    cases c with
    | true => exact h1 A1 q1 (fun σ2 ρ2 F2 G2 H2 A2 e2 q2 => k1 σ2 ρ2 F2 G2 H2 A2 (e1.trans e2) q2) (fun v x Fn σ2 ρ2 F2 G2 H2 A2 e2 r2 q2 => k2 v x Fn σ2 ρ2 F2 G2 H2 A2 (e1.trans e2) r2 q2) (fun σ2 ρ2 F2 G2 H2 A2 e2 q2 => k3 σ2 ρ2 F2 G2 H2 A2 (e1.trans e2) q2) (fun σ2 ρ2 F2 G2 H2 A2 e2 q2 => k4 σ2 ρ2 F2 G2 H2 A2 (e1.trans e2) q2)
    | false => exact h2 A1 q1 (fun σ2 ρ2 F2 G2 H2 A2 e2 q2 => k1 σ2 ρ2 F2 G2 H2 A2 (e1.trans e2) q2) (fun v x Fn σ2 ρ2 F2 G2 H2 A2 e2 r2 q2 => k2 v x Fn σ2 ρ2 F2 G2 H2 A2 (e1.trans e2) r2 q2) (fun σ2 ρ2 F2 G2 H2 A2 e2 q2 => k3 σ2 ρ2 F2 G2 H2 A2 (e1.trans e2) q2) (fun σ2 ρ2 F2 G2 H2 A2 e2 q2 => k4 σ2 ρ2 F2 G2 H2 A2 (e1.trans e2) q2)
theorem sim_set {te : TE} {d : DR} {i : Nat} (h : SimR K te d) : SimS K (tAsg te (gName i)) (dSet i d) := fun {M Z G0 H0 G H σ ρ F Δ Q} A hd k1 _ _ _ => h A hd fun v x Fn ρ1 F1 G1 H1 A1 e1 r1 q1 => by
  obtain ⟨h1, h2⟩ := q1.1.lt
  exact k1 _ _ _ G1 H1 (A1.set r1 h1 h2) e1 q1.2
theorem sim_asg {te : TE} {d : DE} {g : TG} {dg : DG} (h : SimE K te d) (hg : SimG K g dg) : SimS K (tAsg te g) (dAsg d dg) := fun {M Z G0 H0 G H σ ρ F Δ Q} A hd k1 _ _ _ => h A hd fun v x ρ1 F1 G1 H1 A1 e1 r1 q1 =>
  hg A1 r1 q1 fun σ2 ρ2 F2 G2 H2 A2 e2 q2 => k1 σ2 ρ2 F2 G2 H2 A2 (e1.trans e2) q2
end
section
variable {X : Cx} {st : Stmt} {rest as bs : List Stmt} {e c tg : Expr} {t u : TS} {a b : DS} {te : TE} {d : DR} {de : DE} {tc : TT} {dc : DT} {g : TG} {dg : DG} {pos pos' : Pos}
theorem pds_nil : PDSs X [] tNext dNext := ⟨pss_nil, sim_next⟩
theorem pds_cons (h : PDS X st t a) (g : PDSs X rest u b) : PDSs X (st :: rest) (tSeq t u) (dSeq a b) := ⟨pss_cons h.pe g.pe, sim_seq h.sim g.sim⟩
theorem pds_one (h : PDS X st t a) : PDSs X [st] t a := ⟨pss_one h.pe, h.sim⟩
theorem pd_pass : PDS X (.Pass pos) tNext dNext := ⟨ps_pass, sim_next⟩
theorem pd_break : PDS X (.Break pos) tBreak dBreak := ⟨ps_break, sim_break⟩
theorem pd_cont : PDS X (.Continue pos) tCont dCont := ⟨ps_continue, sim_cont⟩
/-- a statement that is never come to -/
theorem pd_never : PDS X st tNever (fun _ _ => False) := ⟨ps_never, sim_never⟩
theorem pd_expr (h : PR X e te d) (hs : swapsWith e none pos.line X.env = pure false := by rfl) : PDS X (.Expr e pos) (tDrop te) (dDrop d) := ⟨ps_expr h.pe hs, sim_drop h.sim⟩
theorem pd_ret (h : PR X e te d) : PDS X (.Return (some e) pos) (tRet te) (dRet d) := ⟨ps_ret h.pe, sim_ret h.sim⟩
/-- return x, a thing of one's own -/
theorem pd_retM (i : Nat) {x : Str} {p : Pos} (hN : X.N[i]? = some x := by rfl) (hv : Vis X.env.scope x := by first | exact Or.inl rfl | exact Or.inr (Or.inl rfl) | exact Or.inr (Or.inr rfl)) (hd : (x == ("__debug__" : Str)) = false := by decide)
    (hcd : (x == ("__classdict__" : Str)) = false := by decide) : PDS X (.Return (some (.Name x p)) pos) (tRet (tVar i)) (dRetM i) := ⟨ps_ret (pe_var hN hv hd hcd), sim_retM⟩
theorem pd_if (hc : PDT X c tc dc) (ha : PDSs X as t a) (hb : PDSs X bs u b) : PDS X (.If c as bs pos) (tIfS tc t u) (dIfS dc a b) := ⟨ps_if hc.pe ha.pe hb.pe, sim_ifS hc.sim ha.sim hb.sim⟩
theorem pd_set {i : Nat} {x : Str} (hN : X.N.Nodup) (h : PR X e te d) (hi : X.N[i]? = some x := by rfl) (hx : Loc X.env.scope x := by first | exact Or.inl rfl | exact Or.inr rfl) (hs : swapsWith e (some (.Name x pos')) pos.line X.env = pure false := by rfl)
    (hf : X.fn x = true ∨ X.env.scope.names.lookup x = some .local := by first | exact .inl rfl | exact .inr rfl | assumption) : PDS X (.Assign [.Name x pos'] e pos) (tAsg te (gName i)) (dSet i d) :=
  ⟨ps_set hN hi hx h.pe hs hf, sim_set h.sim⟩
theorem pd_asg (h : PD X e te de) (hg : PDG X tg g dg) (hs : swapsWithSole [tg] e pos.line X.env = pure false := by rfl) (hw : swappedStores [tg] e X.env = pure none := by rfl)
    (h1 : (assignEach [tg] X.env).map (·.2) = [assign tg X.env] := by rfl) : PDS X (.Assign [tg] e pos) (tAsg te g) (dAsg de dg) := ⟨ps_asg h.pe hg.pg hs hw h1, sim_asg h.sim hg.sim⟩
end
end DL
set_option Elab.async false
set_option linter.all false
set_option maxRecDepth 100000
set_option maxHeartbeats 2000000
namespace DL
open PySem PySem.Spec PyProof.Rows L2 RT
variable [Tabl]

/-! ### what is walked -/
abbrev DI := List Sl → (List D → List Sl → Prop) → Prop
/-- J walks ds -/
def WalkD (K : PySem.W.Frag) (G : Hp) (J : It) (ds : List D) : Prop := Walk J ds.length (fun H2 => Same G H2) (fun i H x H' => H' = H ∧ ∃ d, ds[i]? = some d ∧ Rp K G x d)
def SimI (K : PySem.W.Frag) (wi : TI) (di : DI) : Prop := ∀ {M : Addr → Prop} {Z G0 H0 G H : Hp} {σ : L2.St} {ρ : List Sl} {F : Nat → Addr → Prop} {Φ : List D → List Sl → Prop} {R : It → Hp → Prop}, At K M Z G0 H0 G H σ ρ F → di ρ Φ →
  (∀ J ds ρ' F' G' H', At K M Z G0 H0 G' H' σ ρ' F' → Same G G' → WalkD K G' J ds → Φ ds ρ' → R J H') → wi σ H R
structure PDI (X : Cx) (tg iter : Expr) (wi : TI) (di : DI) : Prop where
  pi : PI X tg iter wi
  sim : SimI X.K wi di
theorem walkD_of {K : PySem.W.Frag} {G : Hp} {J : It} {vs : List V} {ds : List D} {g : Hp → Prop} (w : Walk J vs.length g (YAt vs)) (r : RpL K G vs ds) (hg : ∀ H, Same G H → g H) : WalkD K G J ds := by
  unfold WalkD
  rw [← r.length]
  refine w.mono hg fun i H x H' hi _ y => ⟨y.1, ?_⟩
  exact r.get y.2
/-- a list, a tuple, a text -/
def iAny (K : PySem.W.Frag) (tl : TE) : TI := fun σ H R => tl σ H fun x H1 => (∃ a, x = .ref a ∧ (∃ xs, SqL K H1 a xs) ∧ R (Itl K a) H1) ∨ (∃ a, x = .ref a ∧ (∃ xs, SqT K H1 a xs) ∧ R (Itt K a) H1) ∨ ∃ z, x = .str z ∧ R (Its z) H1
def signs (z : Str) : List D := z.cps.toList.map fun c => .str ⟨#[c]⟩
def itemsD (x : D) (Φ : List D → Prop) : Prop := match x with
  | .lst xs => Φ xs
  | .tup xs => Φ xs
  | .rd xs => Φ xs
  | .str z => Φ (signs z)
  | _ => False
def diAny (d : DE) : DI := fun ρ Φ => d ρ fun x ρ1 => itemsD x fun ds => Φ ds ρ1
theorem sim_iAny {K : PySem.W.Frag} {tl : TE} {d : DE} (h : SimE K tl d) : SimI K (iAny K tl) (diAny d) := by
  intro M Z G0 H0 G H σ ρ F Φ R A hd k
  refine h A hd fun v x ρ1 F1 G1 H1 A1 e1 r1 q1 => ?_
  cases r1 with
  | lst hx px => exact .inl ⟨_, rfl, ⟨_, SqL.of (A1.gh _ _ hx)⟩, k _ _ ρ1 F1 G1 H1 A1 e1 (walkD_of walk_list px fun H2 s => SqL.of (s _ _ hx)) q1⟩
  | rd hx px => exact .inl ⟨_, rfl, ⟨_, same_l A1.gh hx⟩, k _ _ ρ1 F1 G1 H1 A1 e1 (walkD_of walk_list px fun H2 s => same_l s hx) q1⟩
  | tup hx px => exact .inr (.inl ⟨_, rfl, ⟨_, same_t A1.gh hx⟩, k _ _ ρ1 F1 G1 H1 A1 e1 (walkD_of walk_tup px fun H2 s => same_t s hx) q1⟩)
  | str z =>
    refine .inr (.inr ⟨z, rfl, k _ _ ρ1 F1 G1 H1 A1 e1 ?_ q1⟩)
    have w := walk_str (z := z)
    unfold WalkD signs
    rw [List.length_map]
    refine w.mono (fun _ _ => trivial) fun i H x H' hi _ y => ?_
    obtain ⟨e, c, hc, rfl⟩ := y
    refine ⟨e, .str ⟨#[c]⟩, ?_, .str _⟩
    rw [List.getElem?_map]
    have : z.cps.toList[i]? = some c := by simpa using hc
    rw [this]
    rfl
  | _ => exact q1.elim
/-- lo, lo + c, .. -/
def rng : Nat → Int → Int → List D
  | 0, _, _ => []
  | n + 1, i, c => .int i :: rng n (i + c) c
theorem rng_length : ∀ (n : Nat) (i c : Int), (rng n i c).length = n
  | 0, _, _ => rfl
  | n + 1, i, c => by rw [rng, List.length_cons, rng_length n]
theorem rng_get : ∀ (n : Nat) (i c : Int) (k : Nat), k < n → (rng n i c)[k]? = some (.int (i + (k : Nat) * c))
  | 0, _, _, _, h => absurd h (Nat.not_lt_zero _)
  | n + 1, i, c, 0, _ => by simp [rng]
  | n + 1, i, c, k + 1, h => by
    rw [rng, List.getElem?_cons_succ, rng_get n (i + c) c k (by omega)]
    congr 2
    push_cast
    rw [Int.add_mul]
    omega
def inR (i : Int) : Prop := -1000000000 ≤ i ∧ i ≤ 1000000000
def diRng1 (a : DE) : DI := fun ρ Φ => a ρ fun x ρ1 => match x with
  | .int j => inR j ∧ Φ (rng j.toNat 0 1) ρ1
  | _ => False
def diRng2 (a b : DE) : DI := fun ρ Φ => a ρ fun x ρ1 => b ρ1 fun y ρ2 => match x, y with
  | .int i, .int j => inR i ∧ inR j ∧ Φ (rng (j - i).toNat i 1) ρ2
  | _, _ => False
/-- range(a, b, -1) -/
def diRng3 (a b c : DE) : DI := fun ρ Φ => a ρ fun x ρ1 => b ρ1 fun y ρ2 => c ρ2 fun z ρ3 => match x, y, z with
  | .int i, .int j, .int (-1) => inR i ∧ inR j ∧ Φ (rng (i - j).toNat i (-1)) ρ3
  | _, _, _ => False
section
variable {K : PySem.W.Frag} {ta tb tc : TE} {a b c : DE}
theorem sim_rng1 (h : SimE K ta a) : SimI K (iRng1 (tCons ta tNil)) (diRng1 a) := by
  intro M Z G0 H0 G H σ ρ F Φ R A hd k
  refine h A hd fun v x ρ1 F1 G1 H1 A1 e1 r1 q1 => ?_
  cases r1 with
  | int j =>
    refine ⟨j, rfl, ?_, ?_, k _ _ ρ1 F1 G1 H1 A1 e1 ?_ q1.2⟩
    · have := q1.1.1; omega
    · have := q1.1.2; omega
    unfold WalkD
    rw [rng_length]
    refine walk_range.mono (fun _ _ => trivial) fun i H x H' hi _ y => ⟨y.1, _, rng_get _ _ _ i hi, ?_⟩
    rw [y.2, Int.mul_one]
    exact .int _
  | _ => exact q1.elim
theorem sim_rng2 (h : SimE K ta a) (g : SimE K tb b) : SimI K (iRng2 (tCons ta (tCons tb tNil))) (diRng2 a b) := by
  intro M Z G0 H0 G H σ ρ F Φ R A hd k
  refine h A hd fun v x ρ1 F1 G1 H1 A1 e1 r1 q1 => g A1 q1 fun w y ρ2 F2 G2 H2 A2 e2 r2 q2 => ?_
  cases r1 with
  | int i =>
    cases r2 with
    | int j =>
      refine ⟨i, j, rfl, ⟨?_, ?_, ?_, ?_⟩, k _ _ ρ2 F2 G2 H2 A2 (e1.trans e2) ?_ q2.2.2⟩
      · have := q2.1.1; omega
      · have := q2.1.2; omega
      · have := q2.2.1.1; omega
      · have := q2.2.1.2; omega
      unfold WalkD
      rw [rng_length]
      refine walk_range.mono (fun _ _ => trivial) fun i H x H' hi _ y => ⟨y.1, _, rng_get _ _ _ i hi, ?_⟩
      rw [y.2, Int.mul_one]
      exact .int _
    | _ => exact q2.elim
  | _ => exact q2.elim
theorem sim_rng3 (h : SimE K ta a) (g : SimE K tb b) (f : SimE K tc c) : SimI K (iRng3 (tCons ta (tCons tb (tCons tc tNil)))) (diRng3 a b c) := by
  intro M Z G0 H0 G H σ ρ F Φ R A hd k
  refine h A hd fun v x ρ1 F1 G1 H1 A1 e1 r1 q1 => g A1 q1 fun w y ρ2 F2 G2 H2 A2 e2 r2 q2 => f A2 q2 fun u z ρ3 F3 G3 H3 A3 e3 r3 q3 => ?_
  split at q3
  · rename_i i j
    cases r1
    cases r2
    cases r3
    have h1 := q3.1.1
    have h2 := q3.1.2
    have h3 := q3.2.1.1
    have h4 := q3.2.1.2
    refine ⟨i, j, -1, (i - j).toNat, rfl, RgC.neg (by omega) (by omega) (by omega) (by omega), k _ _ ρ3 F3 G3 H3 A3 (e1.trans (e2.trans e3)) ?_ q3.2.2⟩
    unfold WalkD
    rw [rng_length]
    refine walk_rangeC.mono (fun _ _ => trivial) fun i H x H' hi _ y => ⟨y.1, _, rng_get _ _ _ i hi, ?_⟩
    rw [y.2]
    exact .int _
  · exact q3.elim
/-- reversed(list or tuple) -/
def diRev (d : DE) : DI := fun ρ Φ => d ρ fun x ρ1 => match x with
  | .lst xs => Φ xs.reverse ρ1
  | .tup xs => Φ xs.reverse ρ1
  | _ => False
theorem walk_revT {K : PySem.W.Frag} {a : Addr} {xs : List V} : Walk (ItvT K a xs.length) xs.length (fun H => SqT K H a xs) (fun i H x H' => H' = H ∧ xs[xs.length - 1 - i]? = some x) :=
  ⟨fun i _ hi q => ⟨hi, xs, xs[xs.length - 1 - i]'(by omega), q, by simp [show xs.length - 1 - i < xs.length by omega]⟩, fun _ _ => Nat.le_refl _, fun _ _ _ _ _ q y => ⟨y.1, y.2 xs q⟩⟩
theorem walkD_rev {G : Hp} {J : It} {vs : List V} {ds : List D} {g : Hp → Prop} (w : Walk J vs.length g (fun i H x H' => H' = H ∧ vs[vs.length - 1 - i]? = some x)) (r : RpL K G vs ds) (hg : ∀ H, Same G H → g H) : WalkD K G J ds.reverse := by
  unfold WalkD
  rw [List.length_reverse, ← r.length]
  refine w.mono hg fun i H x H' hi _ y => ⟨y.1, ?_⟩
  obtain ⟨d, h1, h2⟩ := r.get y.2
  refine ⟨d, ?_, h2⟩
  rw [List.getElem?_reverse (by rw [← r.length]; exact hi), ← r.length]
  exact h1
theorem sim_iRev (h : SimE K ta a) : SimI K (iRevA K ta) (diRev a) := by
  intro M Z G0 H0 G H σ ρ F Φ R A hd k
  refine h A hd fun v x ρ1 F1 G1 H1 A1 e1 r1 q1 => ?_
  cases r1 with
  | lst hx px => exact ⟨_, _, rfl, .inl ⟨SqL.of (A1.gh _ _ hx), k _ _ ρ1 F1 G1 H1 A1 e1 (walkD_rev walk_rev px fun H2 s => SqL.of (s _ _ hx)) q1⟩⟩
  | tup hx px => exact ⟨_, _, rfl, .inr ⟨same_t A1.gh hx, k _ _ ρ1 F1 G1 H1 A1 e1 (walkD_rev walk_revT px fun H2 s => same_t s hx) q1⟩⟩
  | _ => exact q1.elim
end
section
variable {X : Cx} {tg e e1 e2 e3 : Expr} {te t1 t2 t3 : TE} {d d1 d2 d3 : DE} {p pos : Pos}
theorem pi_any (hl : PE X e te) : PI X tg e (iAny X.K te) := by
  refine ⟨fun pins s σ H R I h => ?_⟩
  refine thn (hl.run pins s σ H _ I h) fun v s1 ⟨x, H1, I1, r1, q1⟩ => ?_
  rcases q1 with ⟨a, e, ⟨xs, hq⟩, q⟩ | ⟨a, e, ⟨xs, hq⟩, q⟩ | ⟨z, e, q⟩
  · subst e
    cases r1
    obtain ⟨its, rv, p, hz⟩ := I1.list hq
    refine wpAny_pyIter_list p.isList ?_
    refine ⟨s1.heap.objs.size, [s1.heap.objs.size], _, _, H1, rfl, I1.kept (t' := s1.toks) fun b o e => Heap.get?_push_of_some _ e, turn_list a _, ⟨_, Heap.get?_push_size _ rfl, rfl, rfl⟩, fun b hb => ?_, q⟩
    have e : b = s1.heap.objs.size := by simpa using hb
    subst e
    exact I1.fpOk (Nat.le_refl _) (I1.hok.fresh (Nat.le_refl _))
  · subst e
    cases r1
    obtain ⟨its, rv, p, hz⟩ := I1.tuple hq
    refine wpAny_pyIter_tuple (show s1.heap.IsTuple a its.toArray from p) ?_
    refine ⟨s1.heap.objs.size, [s1.heap.objs.size], _, _, H1, rfl, I1.kept (t' := s1.toks) fun b o e => Heap.get?_push_of_some _ e, turn_tuple a _, ⟨_, Heap.get?_push_size _ rfl, rfl, rfl⟩, fun b hb => ?_, q⟩
    have e : b = s1.heap.objs.size := by simpa using hb
    subst e
    exact I1.fpOk (Nat.le_refl _) (I1.hok.fresh (Nat.le_refl _))
  · subst e
    obtain ⟨t, rfl⟩ := r1
    cases ha : z.cps.all (· < 128)
    · exact wpAny_pyIter_wide ha (pi_one (tk := s1.toks) I1 _ (turn_str _ z t "str_iterator" (.inr rfl)) ⟨_, Heap.get?_push_size _ rfl, rfl, rfl⟩ q)
    · exact wpAny_pyIter_ascii ha (pi_one (tk := s1.toks) I1 _ (turn_str _ z t "str_ascii_iterator" (.inl rfl)) ⟨_, Heap.get?_push_size _ rfl, rfl, rfl⟩ q)
theorem pdi_any (h : PD X e te d) : PDI X tg e (iAny X.K te) (diAny d) := ⟨pi_any h.pe, sim_iAny h.sim⟩
theorem pdi_rng1 (hm : X.mg "range" = none) (h : PD X e1 t1 d1) (hg : Gl X "range" := by rfl) (hs : starEach [e1] X.env = [(false, eval e1 X.env)] := by rfl) (hs1 : starEach (e1 :: []) X.env = (false, eval e1 X.env) :: starEach [] X.env := by rfl) : PDI X tg (.Call (.Name "range" p) [e1] [] pos) (iRng1 (tCons t1 tNil)) (diRng1 d1) := ⟨pi_range1 hg hm (pa_cons h.pe pa_nil hs1) hs, sim_rng1 h.sim⟩
theorem pdi_rng2 (hm : X.mg "range" = none) (h : PD X e1 t1 d1) (h2 : PD X e2 t2 d2) (hg : Gl X "range" := by rfl) (hs : starEach [e1, e2] X.env = [(false, eval e1 X.env), (false, eval e2 X.env)] := by rfl) (hs2 : starEach [e2] X.env = [(false, eval e2 X.env)] := by rfl)
    (hs3 : starEach (e1 :: [e2]) X.env = (false, eval e1 X.env) :: starEach [e2] X.env := by rfl) (hs4 : starEach (e2 :: []) X.env = (false, eval e2 X.env) :: starEach [] X.env := by rfl) :
    PDI X tg (.Call (.Name "range" p) [e1, e2] [] pos) (iRng2 (tCons t1 (tCons t2 tNil))) (diRng2 d1 d2) := ⟨pi_range2 hg hm (pa_cons h.pe (pa_cons h2.pe pa_nil hs4) hs3) hs hs2, sim_rng2 h.sim h2.sim⟩
theorem pdi_rev (hm : X.mg "reversed" = none) (h : PD X e te d) (hg : Gl X "reversed" := by rfl) (hs : starEach [e] X.env = (false, eval e X.env) :: starEach [] X.env := by rfl) : PDI X tg (.Call (.Name "reversed" p) [e] [] pos) (iRevA X.K te) (diRev d) := ⟨pi_revA hg hm h.pe hs, sim_iRev h.sim⟩
end

/-! ### for -/
def dForL (g : DG) (b : DS) (Δ : Ds) : List D → List Sl → Prop
  | [], ρ => Δ.nx ρ
  | x :: xs, ρ => g x ρ fun ρ1 => b { Δ with nx := dForL g b Δ xs, ct := dForL g b Δ xs, bk := Δ.nx } ρ1
@[irreducible] def dFor (di : DI) (g : DG) (b : DS) : DS := fun Δ ρ => di ρ fun ds ρ1 => dForL g b Δ ds ρ1
theorem sim_for {K : PySem.W.Frag} {wi : TI} {di : DI} {g : TG} {dg : DG} {t : TS} {b : DS} (hi : SimI K wi di) (hg : SimG K g dg) (hb : SimS K t b) : SimS K (tFor wi g t) (dFor di dg b) := by
  intro M Z G0 H0 G H σ ρ F Δ Q A hd k1 k2 k3 k4
  unfold dFor at hd
  refine hi A hd fun J ds ρ1 F1 G1 H1 A1 e1 w q1 => ?_
  refine for_it w (fun i σ' H' => ∃ ρ' F' G', At K M Z G0 H0 G' H' σ' ρ' F' ∧ Same G1 G' ∧ dForL dg b Δ (ds.drop i) ρ') ⟨ρ1, F1, G1, A1, Same.refl G1, q1⟩ (fun i σ' H' _ ⟨ρ', F', G', A', e', _⟩ => e'.trans A'.gh) ?_ ?_
  · rintro i x σ' H' H'' hi ⟨ρ', F', G', A', e', q'⟩ ⟨rfl, d, hd1, hr⟩
    have hdr : ds.drop i = d :: ds.drop (i + 1) := by
      have hlt : i < ds.length := hi
      rw [List.drop_eq_getElem_cons hlt]
      rw [List.getElem?_eq_getElem hlt] at hd1
      rw [Option.some.inj hd1]
    rw [hdr] at q'
    refine hg A' (hr.mono e') q' fun σ2 ρ2 F2 G2 H2 A2 e2 q2 => ?_
    have e12 : Same G1 G2 := e'.trans e2
    refine hb A2 q2 (fun σ3 ρ3 F3 G3 H3 A3 e3 q3 => ⟨ρ3, F3, G3, A3, e12.trans e3, q3⟩) (fun v x Fn σ3 ρ3 F3 G3 H3 A3 e3 r3 q3 => k2 v x Fn σ3 ρ3 F3 G3 H3 A3 (e1.trans (e12.trans e3)) r3 q3)
      (fun σ3 ρ3 F3 G3 H3 A3 e3 q3 => k1 σ3 ρ3 F3 G3 H3 A3 (e1.trans (e12.trans e3)) q3) (fun σ3 ρ3 F3 G3 H3 A3 e3 q3 => ⟨ρ3, F3, G3, A3, e12.trans e3, q3⟩)
  · rintro σ' H' ⟨ρ', F', G', A', e', q'⟩
    rw [List.drop_length] at q'
    exact k1 σ' ρ' F' G' H' A' (e1.trans e') q'
theorem pd_for {X : Cx} {tg iter : Expr} {body : List Stmt} {wi : TI} {di : DI} {g : TG} {dg : DG} {t : TS} {b : DS} {pos : Pos} (hi : PDI X tg iter wi di) (hg : PDG X tg g dg) (hb : PDSs X body t b) (hp : PassesOwn (model X.prog X.w) X.A X.env X.xe := by first | exact PassesOwn.never | assumption) (hc : X.calm = true := by rfl)
    (hs : ∀ x, foldedSetIterable iter X.env x = pure x := by intro _; rfl) : PDS X (.For tg iter body [] pos) (tFor wi g t) (dFor di dg b) := ⟨ps_for hp hc hi.pi hg.pg hb.pe hs, sim_for hi.sim hg.sim hb.sim⟩

/-! ### while -/
@[irreducible] def dWhile (c : DT) (b : DS) : DS := fun Δ ρ => ∃ W : Nat → List Sl → Prop, (∃ m, W m ρ) ∧ ∀ m ρ, W m ρ → c ρ fun k ρ1 => if k = true then b { Δ with nx := fun ρ' => ∃ m', m' < m ∧ W m' ρ', ct := fun ρ' => ∃ m', m' < m ∧ W m' ρ', bk := Δ.nx } ρ1 else Δ.nx ρ1
theorem sim_while {K : PySem.W.Frag} {c : TT} {dc : DT} {t : TS} {b : DS} (h : SimT K c dc) (hb : SimS K t b) : SimS K (tWhile c t) (dWhile dc b) := by
  intro M Z G0 H0 G H σ ρ F Δ Q A hd k1 k2 k3 k4
  unfold dWhile at hd
  obtain ⟨W, ⟨m0, w0⟩, step⟩ := hd
  refine ⟨fun m σ' H' => ∃ ρ' F' G', At K M Z G0 H0 G' H' σ' ρ' F' ∧ Same G G' ∧ W m ρ', ⟨m0, ρ, F, G, A, Same.refl G, w0⟩, ?_⟩
  rintro m σ' H' ⟨ρ', F', G', A', e', w'⟩
  refine h A' (step m ρ' w') fun k ρ1 F1 G1 H1 A1 e1 q1 => ?_
  have e01 : Same G G1 := e'.trans e1
  cases k with
  | true =>
    refine ⟨fun σ3 H3 => ∃ m', m' < m ∧ ∃ ρ3 F3 G3, At K M Z G0 H0 G3 H3 σ3 ρ3 F3 ∧ Same G G3 ∧ W m' ρ3, fun σ3 H3 z => z, ?_⟩
    exact hb A1 q1 (fun σ3 ρ3 F3 G3 H3 A3 e3 ⟨m', lt, q3⟩ => ⟨m', lt, ρ3, F3, G3, A3, e01.trans e3, q3⟩) (fun v x Fn σ3 ρ3 F3 G3 H3 A3 e3 r3 q3 => k2 v x Fn σ3 ρ3 F3 G3 H3 A3 (e01.trans e3) r3 q3)
      (fun σ3 ρ3 F3 G3 H3 A3 e3 q3 => k1 σ3 ρ3 F3 G3 H3 A3 (e01.trans e3) q3) (fun σ3 ρ3 F3 G3 H3 A3 e3 ⟨m', lt, q3⟩ => ⟨m', lt, ρ3, F3, G3, A3, e01.trans e3, q3⟩)
  | false => exact k1 _ ρ1 F1 G1 H1 A1 e01 q1
theorem pd_while {X : Cx} {c : Expr} {body : List Stmt} {tc : TT} {dc : DT} {t : TS} {b : DS} {pos : Pos} (h : PDT X c tc dc) (hb : PDSs X body t b) (hp : PassesOwn (model X.prog X.w) X.A X.env X.xe := by first | exact PassesOwn.never | assumption) : PDS X (.While c body [] pos) (tWhile tc t) (dWhile dc b) := ⟨ps_while hp h.pe hb.pe, sim_while h.sim hb.sim⟩
end DL
set_option Elab.async false
set_option linter.all false
set_option maxRecDepth 100000
set_option maxHeartbeats 2000000
namespace DL
open PySem PySem.Spec PyProof.Rows L2
variable [Tabl]

/-! ### comprehensions -/
theorem wipe_get (σ : L2.St) (i : Nat) : ∀ vs : List Nat, (wipe σ vs)[i]? = if i ∈ vs then (if i < σ.length then some none else none) else σ[i]?
  | [] => by simp [wipe]
  | v :: vs => by
    unfold wipe
    by_cases h : v = i
    · subst h
      rw [if_pos List.mem_cons_self]
      by_cases hl : v < σ.length
      · rw [List.getElem?_set_self (by rw [wipe_length]; exact hl), if_pos hl]
      · rw [List.getElem?_eq_none (by rw [List.length_set, wipe_length]; omega), if_neg hl]
    · rw [List.getElem?_set_ne h, wipe_get σ i vs]
      by_cases hm : i ∈ vs
      · rw [if_pos hm, if_pos (List.mem_cons_of_mem _ hm)]
      · rw [if_neg hm, if_neg (by
          intro z
          rcases List.mem_cons.mp z with z | z
          · exact h z.symm
          · exact hm z)]
theorem wipe_ext {σ τ : L2.St} {vs : List Nat} (hl : σ.length = τ.length) (h : ∀ i, i ∉ vs → σ[i]? = τ[i]?) : wipe σ vs = wipe τ vs := by
  apply List.ext_getElem?
  intro i
  rw [wipe_get, wipe_get, hl]
  by_cases hm : i ∈ vs
  · rw [if_pos hm, if_pos hm]
  · rw [if_neg hm, if_neg hm, h i hm]
theorem wipe_off {σ τ : L2.St} {vs : List Nat} (h : wipe σ vs = wipe τ vs) : σ.length = τ.length ∧ ∀ i, i ∉ vs → σ[i]? = τ[i]? := by
  refine ⟨?_, fun i hm => ?_⟩
  · have := congrArg List.length h
    rw [wipe_length, wipe_length] at this
    exact this
  · have := congrArg (fun l : L2.St => l[i]?) h
    simp only [wipe_get, if_neg hm] at this
    exact this
def wipeR (ρ : List Sl) : List Nat → List Sl
  | [] => ρ
  | v :: vs => (wipeR ρ vs).set v .un
def restR (ρ0 ρ : List Sl) : List Nat → List Sl
  | [] => ρ
  | v :: vs => (restR ρ0 ρ vs).set v ((ρ0[v]?).getD .un)
theorem wipeR_length (ρ : List Sl) : ∀ vs : List Nat, (wipeR ρ vs).length = ρ.length
  | [] => rfl
  | v :: vs => by unfold wipeR; rw [List.length_set, wipeR_length ρ vs]
theorem restR_length (ρ0 ρ : List Sl) : ∀ vs : List Nat, (restR ρ0 ρ vs).length = ρ.length
  | [] => rfl
  | v :: vs => by unfold restR; rw [List.length_set, restR_length ρ0 ρ vs]
theorem wipeR_get (ρ : List Sl) (i : Nat) : ∀ vs : List Nat, (wipeR ρ vs)[i]? = if i ∈ vs then (if i < ρ.length then some .un else none) else ρ[i]?
  | [] => by simp [wipeR]
  | v :: vs => by
    unfold wipeR
    by_cases h : v = i
    · subst h
      rw [if_pos List.mem_cons_self]
      by_cases hl : v < ρ.length
      · rw [List.getElem?_set_self (by rw [wipeR_length]; exact hl), if_pos hl]
      · rw [List.getElem?_eq_none (by rw [List.length_set, wipeR_length]; omega), if_neg hl]
    · rw [List.getElem?_set_ne h, wipeR_get ρ i vs]
      by_cases hm : i ∈ vs
      · rw [if_pos hm, if_pos (List.mem_cons_of_mem _ hm)]
      · rw [if_neg hm, if_neg (by
          intro z
          rcases List.mem_cons.mp z with z | z
          · exact h z.symm
          · exact hm z)]
theorem restR_get (ρ0 ρ : List Sl) (i : Nat) : ∀ vs : List Nat, (restR ρ0 ρ vs)[i]? = if i ∈ vs then (if i < ρ.length then some ((ρ0[i]?).getD .un) else none) else ρ[i]?
  | [] => by simp [restR]
  | v :: vs => by
    unfold restR
    by_cases h : v = i
    · subst h
      rw [if_pos List.mem_cons_self]
      by_cases hl : v < ρ.length
      · rw [List.getElem?_set_self (by rw [restR_length]; exact hl), if_pos hl]
      · rw [List.getElem?_eq_none (by rw [List.length_set, restR_length]; omega), if_neg hl]
    · rw [List.getElem?_set_ne h, restR_get ρ0 ρ i vs]
      by_cases hm : i ∈ vs
      · rw [if_pos hm, if_pos (List.mem_cons_of_mem _ hm)]
      · rw [if_neg hm, if_neg (by
          intro z
          rcases List.mem_cons.mp z with z | z
          · exact h z.symm
          · exact hm z)]
/-- the slots hold data or nothing -/
def clean (ρ : List Sl) : List Nat → Prop
  | [] => True
  | v :: vs => (match ρ[v]? with
    | some .un => True
    | some (.val _) => True
    | _ => False) ∧ clean ρ vs
theorem clean_at {ρ : List Sl} {i : Nat} : ∀ {vs : List Nat}, clean ρ vs → i ∈ vs → ρ[i]? = some .un ∨ ∃ d, ρ[i]? = some (.val d)
  | [], _, h => by simp at h
  | v :: vs, h, hm => by
    rcases List.mem_cons.mp hm with e | hm
    · subst e
      have q := h.1
      split at q
      · rename_i e; exact .inl e
      · rename_i d e; exact .inr ⟨d, e⟩
      · exact q.elim
    · exact clean_at h.2 hm
section
variable {K : PySem.W.Frag} {M : Addr → Prop} {Z G0 H0 G H : Hp} {σ : L2.St} {ρ : List Sl} {F : Nat → Addr → Prop}
theorem At.reslot {τ : L2.St} {π : List Sl} (A : At K M Z G0 H0 G H σ ρ F) (hl : τ.length = π.length) (hs : ∀ (i : Nat) (x : Sl), π[i]? = some x → SlOk K G H ((τ[i]?).join) (F i) x) (hno : ∀ i : Nat, π[i]? = none → ρ[i]? = none) (ha : ∀ i : Nat, (∃ a, F i a) → Sl.isArg (ρ[i]?) → Sl.isArg (π[i]?)) : At K M Z G0 H0 G H τ π F where
  gh := A.gh
  g0 := A.g0
  h0 := A.h0
  fr := A.fr
  hn := A.hn
  len := hl
  sl := hs
  no := fun i h => A.no i (hno i h)
  fp := fun i a fa => by
    obtain ⟨h1, h2, h3⟩ := A.fp i a fa
    refine ⟨h1, h2, ?_⟩
    rcases h3 with h3 | ⟨h3, h4⟩
    · exact .inl h3
    · exact .inr ⟨h3, ha i ⟨a, fa⟩ h4⟩
  dj := A.dj
  hz := A.hz
  tb := A.tb
  mt := A.mt
theorem At.empty {i : Nat} (A : At K M Z G0 H0 G H σ ρ F) (h : ρ[i]? = some .un ∨ ∃ d, ρ[i]? = some (.val d)) : ∀ a, ¬ F i a := by
  rcases h with h | ⟨d, h⟩
  · exact A.sl i _ h
  · exact (A.sl i _ h).1
/-- into the block -/
theorem At.wipe {τ : L2.St} {vs : List Nat} (A : At K M Z G0 H0 G H σ ρ F) (c : clean ρ vs) (e : L2.wipe σ vs = L2.wipe τ vs) : At K M Z G0 H0 G H (L2.wipe τ vs) (wipeR ρ vs) F := by
  rw [← e]
  refine A.reslot (by rw [wipe_length, wipeR_length]; exact A.len) (fun i x hx => ?_) (fun i h => ?_) (fun i ⟨a, fa⟩ h => ?_)
  · rw [wipeR_get] at hx
    rw [wipe_get]
    by_cases hm : i ∈ vs
    · rw [if_pos hm] at hx
      by_cases hl : i < ρ.length
      · rw [if_pos hl] at hx
        cases hx
        exact A.empty (clean_at c hm)
      · rw [if_neg hl] at hx
        cases hx
    · rw [if_neg hm] at hx ⊢
      exact A.sl i x hx
  · rw [wipeR_get] at h
    by_cases hm : i ∈ vs
    · rw [if_pos hm] at h
      by_cases hl : i < ρ.length
      · rw [if_pos hl] at h
        cases h
      · exact List.getElem?_eq_none (by omega)
    · rw [if_neg hm] at h
      exact h
  · rw [wipeR_get]
    by_cases hm : i ∈ vs
    · exact absurd fa (A.empty (clean_at c hm) a)
    · rw [if_neg hm]
      exact h
/-- out of the block -/
theorem At.rest {π : List Sl} {F1 : Nat → Addr → Prop} {G1 H1 : Hp} {Z1 : Hp} {vs : List Nat} (A : At K M Z G0 H0 G H (L2.wipe σ vs) (wipeR ρ vs) F) (B : At K M Z1 G0 H0 G1 H1 σ π F1) (c : clean π vs) (hl : π.length = ρ.length) (e : Same G1 G) :
    At K M Z G0 H0 G H σ (restR π ρ vs) F := by
  refine A.reslot (by rw [restR_length, ← hl]; exact B.len) (fun i x hx => ?_) (fun i h => ?_) (fun i fa h => ?_)
  · rw [restR_get] at hx
    by_cases hm : i ∈ vs
    · rw [if_pos hm] at hx
      by_cases hi : i < ρ.length
      · rw [if_pos hi] at hx
        have hF : ∀ a, ¬ F i a := A.sl i .un (by rw [wipeR_get, if_pos hm, if_pos hi])
        rcases clean_at c hm with h | ⟨d, h⟩
        · rw [h] at hx
          cases hx
          exact hF
        · rw [h] at hx
          cases hx
          obtain ⟨v, h1, h2⟩ := B.val h
          exact ⟨hF, v, by rw [h1]; rfl, h2.mono e⟩
      · rw [if_neg hi] at hx
        cases hx
    · rw [if_neg hm] at hx
      have q := A.sl i x (by rw [wipeR_get, if_neg hm]; exact hx)
      rw [wipe_get, if_neg hm] at q
      exact q
  · rw [restR_get] at h
    rw [wipeR_get]
    by_cases hm : i ∈ vs
    · rw [if_pos hm] at h ⊢
      by_cases hi : i < ρ.length
      · rw [if_pos hi] at h
        cases h
      · rw [if_neg hi]
    · rw [if_neg hm] at h ⊢
      exact h
  · rw [wipeR_get] at h
    rw [restR_get]
    by_cases hm : i ∈ vs
    · rw [if_pos hm] at h
      by_cases hi : i < ρ.length
      · rw [if_pos hi] at h
        exact h.elim
      · rw [if_neg hi] at h
        exact h.elim
    · rw [if_neg hm] at h ⊢
      exact h
/-- a new thing stands aside -/
theorem At.hide {p : Addr} {o : HO} (A : At K M Z G0 H0 G H σ ρ F) (n : H p = none) : At K M (upd Z p o) G0 H0 G (upd H p o) σ ρ F := by
  have B := A.newH (o := o) n
  refine ⟨B.gh, B.g0, B.h0, B.fr, B.hn, B.len, B.sl, B.no, B.fp, B.dj, fun a u h => ?_, B.tb, fun a z => ⟨(A.mt a z).1, by rw [upd_ne fun e => A.tb.ne z (by rw [e]; exact n)]; exact (A.mt a z).2.1, (A.mt a z).2.2⟩⟩
  by_cases e : a = p
  · subst e
    rw [upd_same] at h ⊢
    exact ⟨h, A.gh.free n, fun i fa => (A.fp i _ fa).2.1 n⟩
  · rw [upd_ne e] at h ⊢
    exact A.hz a u h
theorem At.rehide {p : Addr} {o o' : HO} (A : At K M (upd Z p o) G0 H0 G H σ ρ F) (h0 : H0 p = none) : At K M (upd Z p o') G0 H0 G (upd H p o') σ ρ F := by
  obtain ⟨z1, z2, z3⟩ := A.hz p o upd_same
  refine ⟨fun a u h => ?_, A.g0, fun a u h n => ?_, A.fr, fun a h => ?_, A.len, fun i x h => (A.sl i x h).st (Same.refl G) fun a fa => upd_ne fun e => z3 i (by rw [← e]; exact fa), A.no, fun i a fa => ?_, A.dj, fun a u h => ?_, A.tb.up (Same.refl G) (fun a z => (A.tb.at z).1) (fun a z => upd_ne fun e => ?_), fun a z => ⟨(A.mt a z).1, ?_, (A.mt a z).2.2⟩⟩
  · rw [upd_ne (ne_of_none h z2)]
    exact A.gh a u h
  · rw [upd_ne (ne_of_none h h0)]
    exact A.h0 a u h n
  · by_cases e : a = p
    · rw [e, upd_same]
      exact Option.some_ne_none _
    · rw [upd_ne e]
      exact A.hn a h
  · obtain ⟨h1, h2, h3⟩ := A.fp i a fa
    refine ⟨h1, ?_, h3⟩
    rw [upd_ne fun e => z3 i (by rw [← e]; exact fa)]
    exact h2
  · by_cases e : a = p
    · subst e
      rw [upd_same] at h ⊢
      exact ⟨h, z2, z3⟩
    · rw [upd_ne e] at h ⊢
      exact A.hz a u (by rw [upd_ne e]; exact h)
  · have q := (A.mt a z).2.1
    rw [e, upd_same] at q
    cases q
  · have q := (A.mt a z).2.1
    have ne : a ≠ p := fun e => by
      rw [e, upd_same] at q
      cases q
    rw [upd_ne ne] at q ⊢
    exact q
theorem At.unhide {p : Addr} {o : HO} (A : At K M (upd Z p o) G0 H0 G H σ ρ F) (n : Z p = none) : At K M Z G0 H0 G H σ ρ F :=
  ⟨A.gh, A.g0, A.h0, A.fr, A.hn, A.len, A.sl, A.no, A.fp, A.dj, fun a u h => A.hz a u (by rw [upd_ne (ne_of_none h n)]; exact h), A.tb, fun a z => ⟨(A.mt a z).1, by
    have q := (A.mt a z).2.1
    have ne : a ≠ p := fun e => by
      rw [e, upd_same] at q
      cases q
    rw [upd_ne ne] at q
    exact q, (A.mt a z).2.2⟩⟩
end
/-- a target that sets these slots alone -/
def Sets (vs : List Nat) (g : TG) : Prop := ∀ (v : V) (σ : L2.St) (H : Hp) (Q : L2.St → Hp → Prop), g v σ H Q → g v σ H fun σ' H' => wipe σ' vs = wipe σ vs ∧ Q σ' H'
def SetsL (vs : List Nat) (g : TGs) : Prop := ∀ (v : List V) (σ : L2.St) (H : Hp) (Q : L2.St → Hp → Prop), g v σ H Q → g v σ H fun σ' H' => wipe σ' vs = wipe σ vs ∧ Q σ' H'
theorem sets_name {vs : List Nat} {i : Nat} (h : i ∈ vs) : Sets vs (gName i) := fun v σ H Q q => ⟨wipe_ext (by rw [List.length_set]) fun j hj => List.getElem?_set_ne fun e => hj (by rw [← e]; exact h), q⟩
theorem sets_nil {vs : List Nat} : SetsL vs gNil := fun v σ H Q q => ⟨q.1, rfl, q.2⟩
def MonoGs (g : TGs) : Prop := ∀ (v : List V) (σ : L2.St) (H : Hp) (Q Q' : L2.St → Hp → Prop), (∀ σ' H', Q σ' H' → Q' σ' H') → g v σ H Q → g v σ H Q'
def MonoG (g : TG) : Prop := ∀ (v : V) (σ : L2.St) (H : Hp) (Q Q' : L2.St → Hp → Prop), (∀ σ' H', Q σ' H' → Q' σ' H') → g v σ H Q → g v σ H Q'
theorem mono_name {i : Nat} : MonoG (gName i) := fun v σ H Q Q' h q => h _ _ q
theorem mono_nil : MonoGs gNil := fun v σ H Q Q' h q => ⟨q.1, h _ _ q.2⟩
theorem mono_cons {g : TG} {gs : TGs} (h : MonoG g) (hs : MonoGs gs) : MonoGs (gCons g gs) := fun v σ H Q Q' k ⟨x, r, e, q⟩ => ⟨x, r, e, h _ _ _ _ _ (fun σ' H' z => hs _ _ _ _ _ k z) q⟩
theorem mono_tup {K : PySem.W.Frag} {n : Nat} {gs : TGs} (h : MonoGs gs) : MonoG (gTup K n gs) := fun v σ H Q Q' k ⟨a, xs, e, h1, h2, q⟩ => ⟨a, xs, e, h1, h2, h _ _ _ _ _ k q⟩
theorem sets_cons {vs : List Nat} {g : TG} {gs : TGs} (h : Sets vs g) (hm : MonoG g) (hs : SetsL vs gs) (hms : MonoGs gs) : SetsL vs (gCons g gs) := fun v σ H Q ⟨x, r, e, q⟩ =>
  ⟨x, r, e, hm _ _ _ _ _ (fun σ' H' ⟨z1, z2⟩ => hms _ _ _ _ _ (fun σ2 H2 ⟨y1, y2⟩ => ⟨y1.trans z1, y2⟩) (hs _ _ _ _ z2)) (h _ _ _ _ q)⟩
theorem sets_tup {vs : List Nat} {K : PySem.W.Frag} {n : Nat} {gs : TGs} (h : SetsL vs gs) : Sets vs (gTup K n gs) := fun v σ H Q ⟨a, xs, e, h1, h2, q⟩ => ⟨a, xs, e, h1, h2, h _ _ _ _ q⟩

def dLcL (vs : List Nat) (g : DG) (tt : DT) (te : DE) : List D → List D → List Sl → (List D → List Sl → Prop) → Prop
  | [], acc, ρ, Φ => Φ acc ρ
  | x :: xs, acc, ρ, Φ => g x (wipeR ρ vs) fun ρ2 => tt ρ2 fun b ρ3 => if b = true then te ρ3 fun y ρ4 => clean ρ4 vs ∧ dLcL vs g tt te xs (acc ++ [y]) ρ4 Φ else clean ρ3 vs ∧ dLcL vs g tt te xs acc ρ3 Φ
/-- [te for g in di if tt]; vs: its own slots -/
@[irreducible] def dLc (di : DI) (g : DG) (tt : DT) (te : DE) (vs : List Nat) : DR := fun ρ Φ => di ρ fun ds ρ1 => ds.length ≤ 1000000 ∧ clean ρ1 vs ∧ dLcL vs g tt te ds [] ρ1 fun acc ρ2 => Φ (.own acc) (restR ρ1 ρ2 vs)
theorem sim_lc {K : PySem.W.Frag} {wi : TI} {di : DI} {g : TG} {dg : DG} {tt : TT} {dt : DT} {te : TE} {de : DE} {vs : List Nat} (hi : SimI K wi di) (hg : SimG K g dg) (hm : MonoG g) (hs : Sets vs g) (ht : SimT K tt dt) (he : SimE K te de) : SimR K (tLc wi g tt te vs) (dLc di dg dt de vs) := by
  intro M Z G0 H0 G H σ ρ F Φ Q A hd k
  unfold dLc at hd
  refine hi A hd fun J ds ρ1 F1 G1 H1 A1 e1 w ⟨hz, hc, q1⟩ => ?_
  intro D hD
  have zD : Z D = none := by
    cases q : Z D with
    | none => rfl
    | some o =>
      have := (A1.hz D o q).1
      rw [hD] at this
      cases this
  have hD0 : H0 D = none := by
    cases q : H0 D with
    | none => rfl
    | some o => exact absurd hD (A1.hn D (by rw [q]; exact Option.some_ne_none _))
  refine lc_it w (fun i H' => ∃ ρ' F' G' accv acc, At K M (upd Z D (.lst accv)) G0 H0 G' H' (L2.wipe σ vs) (wipeR ρ' vs) F' ∧ Same G1 G' ∧ RpL K G' accv acc ∧ acc.length ≤ i ∧ ρ'.length = ρ1.length ∧ dLcL vs dg dt de (ds.drop i) acc ρ' fun acc ρ2 => Φ (.own acc) (restR ρ1 ρ2 vs))
    ⟨ρ1, F1, G1, [], [], (A1.hide hD).wipe hc rfl, Same.refl G1, .nil, Nat.le_refl _, rfl, q1⟩ (fun i H' _ ⟨ρ', F', G', accv, acc, A', e', _⟩ => e'.trans A'.gh) ?_ ?_
  · rintro i x H' H'' hi ⟨ρ', F', G', accv, acc, A', e', ra, hl, hln, q'⟩ ⟨rfl, d, hd1, hr⟩
    have hlt : i < ds.length := hi
    have hdr : ds.drop i = d :: ds.drop (i + 1) := by
      rw [List.drop_eq_getElem_cons hlt]
      rw [List.getElem?_eq_getElem hlt] at hd1
      rw [Option.some.inj hd1]
    rw [hdr] at q'
    refine hm _ _ _ _ _ (fun σ' H2 ⟨z1, z2⟩ => ?_) (hs _ _ _ _ (hg (Q := fun σ' H' => ∃ ρ2 F2 G2, At K M (upd Z D (.lst accv)) G0 H0 G2 H' σ' ρ2 F2 ∧ Same G' G2 ∧ dt ρ2 fun b ρ3 => if b = true then de ρ3 fun y ρ4 => clean ρ4 vs ∧ dLcL vs dg dt de (ds.drop (i + 1)) (acc ++ [y]) ρ4 (fun acc ρ2 => Φ (.own acc) (restR ρ1 ρ2 vs)) else clean ρ3 vs ∧ dLcL vs dg dt de (ds.drop (i + 1)) acc ρ3 (fun acc ρ2 => Φ (.own acc) (restR ρ1 ρ2 vs)))
      A' (hr.mono e') q' fun σ2 ρ2 F2 G2 H2 A2 e2 q2 => ⟨ρ2, F2, G2, A2, e2, q2⟩))
    obtain ⟨ρ2, F2, G2, A2, e2, q2⟩ := z2
    have zw : L2.wipe σ' vs = L2.wipe σ vs := by
      rw [z1]
      exact wipe_ext (by rw [wipe_length]) fun j hj => by rw [wipe_get, if_neg hj]
    refine ⟨zw, ht A2 q2 fun b ρ3 F3 G3 H3 A3 e3 q3 => ?_⟩
    have len3 : ρ3.length = ρ1.length := by rw [← A3.len, A2.len, ← A2.len, (wipe_off zw).1]; exact A1.len
    cases b with
    | true =>
      refine he A3 q3 fun v y ρ4 F4 G4 H4 A4 e4 r4 ⟨c4, q4⟩ => ?_
      have eG : Same G1 G4 := e'.trans (e2.trans (e3.trans e4))
      have hacc := (A4.hz D _ upd_same).1
      have ra4 : RpL K G4 accv acc := ra.mono (e2.trans (e3.trans e4))
      refine ⟨accv, hacc, line_lt (by rw [ra.length]; omega), ρ4, F4, G4, accv ++ [v], acc ++ [y], (A4.rehide hD0).wipe c4 zw, eG, ra4.snoc r4, by rw [List.length_append, List.length_singleton]; omega, ?_, q4⟩
      rw [← A4.len, A3.len]
      exact len3
    | false =>
      obtain ⟨c3, q3⟩ := q3
      exact ⟨ρ3, F3, G3, accv, acc, A3.wipe c3 zw, e'.trans (e2.trans e3), ra.mono (e2.trans e3), by omega, len3, q3⟩
  · rintro H' ⟨ρ', F', G', accv, acc, A', e', ra, hl, hln, q'⟩
    rw [List.drop_length] at q'
    have B := (A'.unhide zD).rest A1 hc hln.symm e'
    obtain ⟨z1, z2, z3⟩ := A'.hz D _ upd_same
    exact k (.ref D) (.own acc) (fun a => a = D) _ F' G' H' B (e1.trans e') ⟨⟨D, accv, rfl, fun a => Iff.rfl, z1, ra⟩, fun z => z, fun a ea => by
      subst ea
      exact ⟨z2, by rw [z1]; exact Option.some_ne_none _, hD0, zD, z3⟩⟩ q'
end DL
set_option Elab.async false
set_option linter.all false
set_option maxRecDepth 100000
set_option maxHeartbeats 2000000
namespace DL
open PySem PySem.Spec PyProof.Rows L2
variable [Tabl]

structure PDTs (X : Cx) (ifs : List Expr) (t : TT) (d : DT) : Prop where
  pts : PTs X ifs t
  sim : SimT X.K t d
def dYes : DT := fun ρ Φ => Φ true ρ
theorem sim_yes {K : PySem.W.Frag} : SimT K tYes dYes := fun {M Z G0 H0 G H σ ρ F Φ Q} A hd k => k true ρ F G H A (Same.refl G) hd
section
variable {X : Cx}
theorem pdts_nil : PDTs X [] tYes dYes := ⟨pts_nil, sim_yes⟩
theorem pdts_one {c : Expr} {t : TT} {d : DT} (h : PDT X c t d) : PDTs X [c] t d := ⟨pts_one h.pe, h.sim⟩
theorem pr_lc {elt tg iter : Expr} {ifs : List Expr} {scope : Scope} {own : List (Str × Nat)} {pos : Pos} {wi : TI} {di : DI} {g : Shared → Hp → Addr → List (Str × Addr) → List Addr → TG} {dg : DG} {tt : Shared → Hp → Addr → List (Str × Addr) → List Addr → TT} {dt : DT} {te : Shared → Hp → Addr → List (Str × Addr) → List Addr → TE} {de : DE} (hN : X.N.Nodup) (hi : PDI X tg iter wi di) (ok : BlkOk X.N X.env.scope scope own)
    (hg : ∀ (s : Shared) (H : Hp) (C : Addr) (cl : List (Str × Addr)) (fp : List Addr), PDG (X.blk s H scope (compEnvC scope cl C X.env) fp) tg (g s H C cl fp) dg) (hm : MonoG (g X.s_0 X.H_0 0 [] [])) (hst : Sets (own.map (·.2)) (g X.s_0 X.H_0 0 [] []))
    (ht : ∀ (s : Shared) (H : Hp) (C : Addr) (cl : List (Str × Addr)) (fp : List Addr), PDTs (X.blk s H scope (compEnvC scope cl C X.env) fp) ifs (tt s H C cl fp) dt) (he : ∀ (s : Shared) (H : Hp) (C : Addr) (cl : List (Str × Addr)) (fp : List Addr), PD (X.blk s H scope (compEnvC scope cl C X.env) fp) elt (te s H C cl fp) de)
    (hgE : ∀ (s : Shared) (H : Hp) (C : Addr) (cl : List (Str × Addr)) (fp : List Addr), g s H C cl fp = g X.s_0 X.H_0 0 [] [] := by intros; rfl) (htE : ∀ (s : Shared) (H : Hp) (C : Addr) (cl : List (Str × Addr)) (fp : List Addr), tt s H C cl fp = tt X.s_0 X.H_0 0 [] [] := by intros; rfl) (heE : ∀ (s : Shared) (H : Hp) (C : Addr) (cl : List (Str × Addr)) (fp : List Addr), te s H C cl fp = te X.s_0 X.H_0 0 [] [] := by intros; rfl)
    (hc : X.calm = true := by rfl) (hs : ∀ x, foldedSetIterable iter X.env x = pure x := by intro _; rfl) : PR X (.ListComp elt [⟨tg, iter, ifs, 0⟩] scope pos) (tLc wi (g X.s_0 X.H_0 0 [] []) (tt X.s_0 X.H_0 0 [] []) (te X.s_0 X.H_0 0 [] []) (own.map (·.2))) (dLc di dg dt de (own.map (·.2))) :=
  ⟨pe_lc hc hN hi.pi ok (fun s H C cl fp => hgE s H C cl fp ▸ (hg s H C cl fp).pg) (fun s H C cl fp => htE s H C cl fp ▸ (ht s H C cl fp).pts) (fun s H C cl fp => heE s H C cl fp ▸ (he s H C cl fp).pe) hs,
    sim_lc hi.sim (hg X.s_0 X.H_0 0 [] []).sim hm hst (ht X.s_0 X.H_0 0 [] []).sim (he X.s_0 X.H_0 0 [] []).sim⟩
/-- y = [..] -/
theorem pd_setLc {i : Nat} {y : Str} {py : Pos} {elt tg iter : Expr} {ifs : List Expr} {scope : Scope} {pos spos : Pos} {wi : TI} {di : DI} {g : Shared → Hp → Addr → List (Str × Addr) → List Addr → TG} {dg : DG} {tt : Shared → Hp → Addr → List (Str × Addr) → List Addr → TT} {dt : DT} {te : Shared → Hp → Addr → List (Str × Addr) → List Addr → TE} {de : DE} (own : List (Str × Nat)) (hN : X.N.Nodup) (hyl : X.env.scope.names.lookup y = some .local)
    (hsw : swapsWith (.ListComp elt [⟨tg, iter, ifs, 0⟩] scope pos) (some (.Name y py)) spos.line X.env = pure true) (hi : PDI X tg iter wi di) (ok : BlkOk X.N X.env.scope scope own)
    (hg : ∀ (s : Shared) (H : Hp) (C : Addr) (cl : List (Str × Addr)) (fp : List Addr), PDG (X.blk s H scope (compEnvC scope cl C X.env) fp) tg (g s H C cl fp) dg) (hm : MonoG (g X.s_0 X.H_0 0 [] [])) (hst : Sets (own.map (·.2)) (g X.s_0 X.H_0 0 [] []))
    (ht : ∀ (s : Shared) (H : Hp) (C : Addr) (cl : List (Str × Addr)) (fp : List Addr), PDTs (X.blk s H scope (compEnvC scope cl C X.env) fp) ifs (tt s H C cl fp) dt) (he : ∀ (s : Shared) (H : Hp) (C : Addr) (cl : List (Str × Addr)) (fp : List Addr), PD (X.blk s H scope (compEnvC scope cl C X.env) fp) elt (te s H C cl fp) de)
    (hgE : ∀ (s : Shared) (H : Hp) (C : Addr) (cl : List (Str × Addr)) (fp : List Addr), g s H C cl fp = g X.s_0 X.H_0 0 [] [] := by intros; rfl) (htE : ∀ (s : Shared) (H : Hp) (C : Addr) (cl : List (Str × Addr)) (fp : List Addr), tt s H C cl fp = tt X.s_0 X.H_0 0 [] [] := by intros; rfl) (heE : ∀ (s : Shared) (H : Hp) (C : Addr) (cl : List (Str × Addr)) (fp : List Addr), te s H C cl fp = te X.s_0 X.H_0 0 [] [] := by intros; rfl)
    (hy : X.N[i]? = some y := by rfl) (hc : X.calm = true := by rfl) (hs : ∀ x, foldedSetIterable iter X.env x = pure x := by intro _; rfl) :
    PDS X (.Assign [.Name y py] (.ListComp elt [⟨tg, iter, ifs, 0⟩] scope pos) spos) (tAsg (tLc wi (g X.s_0 X.H_0 0 [] []) (tt X.s_0 X.H_0 0 [] []) (te X.s_0 X.H_0 0 [] []) (own.map (·.2))) (gName i)) (dSet i (dLc di dg dt de (own.map (·.2)))) :=
  ⟨ps_setLc hc hN hy hyl hsw hi.pi ok (fun s H C cl fp => hgE s H C cl fp ▸ (hg s H C cl fp).pg) (fun s H C cl fp => htE s H C cl fp ▸ (ht s H C cl fp).pts) (fun s H C cl fp => heE s H C cl fp ▸ (he s H C cl fp).pe) hs,
    sim_set (sim_lc hi.sim (hg X.s_0 X.H_0 0 [] []).sim hm hst (ht X.s_0 X.H_0 0 [] []).sim (he X.s_0 X.H_0 0 [] []).sim)⟩
theorem sim_dr {K : PySem.W.Frag} {t : TE} {d : DE} (h : SimE K t d) : SimR K t (dR d) := fun {M Z G0 H0 G H σ ρ F Φ Q} A hd k => h A hd fun v x ρ' F' G' H' A' eG r q => k v (.val x) _ ρ' F' G' H' A' eG (.val r) q
/-- x = [..], never changed behind -/
theorem pd_setLcV {i : Nat} {y : Str} {py : Pos} {elt tg iter : Expr} {ifs : List Expr} {scope : Scope} {pos spos : Pos} {wi : TI} {di : DI} {g : Shared → Hp → Addr → List (Str × Addr) → List Addr → TG} {dg : DG} {tt : Shared → Hp → Addr → List (Str × Addr) → List Addr → TT} {dt : DT} {te : Shared → Hp → Addr → List (Str × Addr) → List Addr → TE} {de : DE} (own : List (Str × Nat)) (hN : X.N.Nodup) (hyl : X.env.scope.names.lookup y = some .local)
    (hsw : swapsWith (.ListComp elt [⟨tg, iter, ifs, 0⟩] scope pos) (some (.Name y py)) spos.line X.env = pure true) (hi : PDI X tg iter wi di) (ok : BlkOk X.N X.env.scope scope own)
    (hg : ∀ (s : Shared) (H : Hp) (C : Addr) (cl : List (Str × Addr)) (fp : List Addr), PDG (X.blk s H scope (compEnvC scope cl C X.env) fp) tg (g s H C cl fp) dg) (hm : MonoG (g X.s_0 X.H_0 0 [] [])) (hst : Sets (own.map (·.2)) (g X.s_0 X.H_0 0 [] []))
    (ht : ∀ (s : Shared) (H : Hp) (C : Addr) (cl : List (Str × Addr)) (fp : List Addr), PDTs (X.blk s H scope (compEnvC scope cl C X.env) fp) ifs (tt s H C cl fp) dt) (he : ∀ (s : Shared) (H : Hp) (C : Addr) (cl : List (Str × Addr)) (fp : List Addr), PD (X.blk s H scope (compEnvC scope cl C X.env) fp) elt (te s H C cl fp) de)
    (hgE : ∀ (s : Shared) (H : Hp) (C : Addr) (cl : List (Str × Addr)) (fp : List Addr), g s H C cl fp = g X.s_0 X.H_0 0 [] [] := by intros; rfl) (htE : ∀ (s : Shared) (H : Hp) (C : Addr) (cl : List (Str × Addr)) (fp : List Addr), tt s H C cl fp = tt X.s_0 X.H_0 0 [] [] := by intros; rfl) (heE : ∀ (s : Shared) (H : Hp) (C : Addr) (cl : List (Str × Addr)) (fp : List Addr), te s H C cl fp = te X.s_0 X.H_0 0 [] [] := by intros; rfl)
    (hy : X.N[i]? = some y := by rfl) (hc : X.calm = true := by rfl) (hs : ∀ x, foldedSetIterable iter X.env x = pure x := by intro _; rfl) :
    PDS X (.Assign [.Name y py] (.ListComp elt [⟨tg, iter, ifs, 0⟩] scope pos) spos) (tAsg (tLc wi (g X.s_0 X.H_0 0 [] []) (tt X.s_0 X.H_0 0 [] []) (te X.s_0 X.H_0 0 [] []) (own.map (·.2))) (gName i)) (dSet i (dR (dV (dLc di dg dt de (own.map (·.2)))))) :=
  ⟨ps_setLc hc hN hy hyl hsw hi.pi ok (fun s H C cl fp => hgE s H C cl fp ▸ (hg s H C cl fp).pg) (fun s H C cl fp => htE s H C cl fp ▸ (ht s H C cl fp).pts) (fun s H C cl fp => heE s H C cl fp ▸ (he s H C cl fp).pe) hs,
    sim_set (sim_dr (sim_dv (sim_lc hi.sim (hg X.s_0 X.H_0 0 [] []).sim hm hst (ht X.s_0 X.H_0 0 [] []).sim (he X.s_0 X.H_0 0 [] []).sim)))⟩
end

/-! ### lists of one's own -/
/-- x.append(e) -/
def dApp (i : Nat) (de : DE) : DR := fun ρ Φ => match ρ[i]? with
  | some (.own _) => de ρ fun x ρ1 => match ρ1[i]? with
    | some (.own ds) => ds.length ≤ 1000000 ∧ Φ (.val .non) (ρ1.set i (.own (ds ++ [x])))
    | _ => False
  | _ => False
/-- x.extend(e) -/
def dExt (i : Nat) (de : DE) : DR := fun ρ Φ => match ρ[i]? with
  | some (.own _) => de ρ fun x ρ1 => match ρ1[i]?, x with
    | some (.own ds), .lst es => ds.length + es.length ≤ 1000000 ∧ Φ (.val .non) (ρ1.set i (.own (ds ++ es)))
    | _, _ => False
  | _ => False
/-- x.pop(e) -/
def dPop (i : Nat) (de : DE) : DR := fun ρ Φ => match ρ[i]? with
  | some (.own _) => de ρ fun x ρ1 => match ρ1[i]?, x with
    | some (.own ds), .int j => 0 ≤ j ∧ j < 1000000 ∧ match ds[j.toNat]? with
      | some y => Φ (.val y) (ρ1.set i (.own (ds.eraseIdx j.toNat)))
      | none => False
    | _, _ => False
  | _ => False
/-- len(x) -/
def dLenOwn (i : Nat) : DR := fun ρ Φ => match ρ[i]? with
  | some (.own ds) => Φ (.val (.int ds.length)) ρ
  | _ => False
section
variable {K : PySem.W.Frag} {i : Nat} {te : TE} {de : DE}
theorem sim_app (h : SimE K te de) : SimR K (tBM K "list" rAppend (tVar i) (tCons te tNil)) (dApp i de) := by
  intro M Z G0 H0 G H σ ρ F Φ Q A hd k
  unfold dApp at hd
  split at hd
  · rename_i ds0 e0
    obtain ⟨p, vs, h1, h2, h3, h4, h5, h6⟩ := A.own_at e0
    refine ⟨_, h1, .inl ⟨rfl, vs, SqL.of h3⟩, ?_⟩
    refine h A hd fun v x ρ1 F1 G1 H1 A1 e1 r1 q1 => ?_
    split at q1
    · rename_i ds e2
      obtain ⟨p', vs', g1, g2, g3, g4, g5, g6⟩ := A1.own_at e2
      rw [h1] at g1
      cases g1
      have hz : vs'.length ≤ 1000000 := by rw [g4.length]; exact q1.1
      exact ⟨p, vs', v, rfl, rfl, g3, line_lt hz, k _ (.val .non) _ _ F1 G1 _ (A1.own_set e2 h1 (g4.snoc r1)) e1 (.val .non) q1.2⟩
    · exact q1.elim
  · exact hd.elim
theorem sim_ext (h : SimE K te de) : SimR K (tBM K "list" rExtend (tVar i) (tCons te tNil)) (dExt i de) := by
  intro M Z G0 H0 G H σ ρ F Φ Q A hd k
  unfold dExt at hd
  split at hd
  · rename_i ds0 e0
    obtain ⟨p, vs, h1, h2, h3, h4, h5, h6⟩ := A.own_at e0
    refine ⟨_, h1, .inl ⟨rfl, vs, SqL.of h3⟩, ?_⟩
    refine h A hd fun v x ρ1 F1 G1 H1 A1 e1 r1 q1 => ?_
    split at q1
    · rename_i ds es e2
      obtain ⟨p', vs', g1, g2, g3, g4, g5, g6⟩ := A1.own_at e2
      rw [h1] at g1
      cases g1
      cases r1 with
      | lst hx px =>
        have hz := line_le q1.1
        rw [← g4.length, ← px.length] at hz
        exact ⟨p, _, vs', _, rfl, rfl, g3, A1.gh _ _ hx, hz, k _ (.val .non) _ _ F1 G1 _ (A1.own_set e2 h1 (g4.append px)) e1 (.val .non) q1.2⟩
    · exact q1.elim
  · exact hd.elim
theorem sim_pop (h : SimE K te de) : SimR K (tBM K "list" rPopAt (tVar i) (tCons te tNil)) (dPop i de) := by
  intro M Z G0 H0 G H σ ρ F Φ Q A hd k
  unfold dPop at hd
  split at hd
  · rename_i ds0 e0
    obtain ⟨p, vs, h1, h2, h3, h4, h5, h6⟩ := A.own_at e0
    refine ⟨_, h1, .inl ⟨rfl, vs, SqL.of h3⟩, ?_⟩
    refine h A hd fun v x ρ1 F1 G1 H1 A1 e1 r1 q1 => ?_
    split at q1
    · rename_i ds j e2
      obtain ⟨p', vs', g1, g2, g3, g4, g5, g6⟩ := A1.own_at e2
      rw [h1] at g1
      cases g1
      cases r1
      obtain ⟨q2, q3, q4⟩ := q1
      split at q4
      · rename_i y ey
        obtain ⟨w, ew, rw'⟩ := g4.tget ey
        have hj : j.toNat < vs'.length := (List.getElem?_eq_some_iff.mp ew).1
        refine ⟨p, vs', j, j.toNat, w, rfl, rfl, g3, by omega, by omega, seqIndex_of q2 (by omega), ew, k w (.val y) _ _ F1 G1 _ (A1.own_set e2 h1 (g4.eraseIdx _)) e1 (.val rw') q4⟩
      · exact q4.elim
    · exact q1.elim
  · exact hd.elim
theorem sim_lenOwn : SimR K (tCB (fun xs H Q => ∃ x n, xs = [x] ∧ LenV K x H n ∧ Q (.int n) H) (tCons (tVar i) tNil)) (dLenOwn i) := by
  intro M Z G0 H0 G H σ ρ F Φ Q A hd k
  unfold dLenOwn at hd
  split at hd
  · rename_i ds e0
    obtain ⟨p, vs, h1, h2, h3, h4, h5, h6⟩ := A.own_at e0
    refine ⟨_, h1, _, vs.length, rfl, .inl ⟨vs, SqL.of h3, rfl⟩, ?_⟩
    rw [h4.length]
    exact k _ _ _ ρ F G H A (Same.refl G) (.val (.int _)) hd
  · exact hd.elim
end
section
variable {X : Cx} {e : Expr} {te : TE} {de : DE} {p apos cpos pos : Pos} {x : Str}
theorem pr_app (i : Nat) (he : PD X e te de) (hN : X.N[i]? = some x := by rfl) (hv : Vis X.env.scope x := by first | exact Or.inl rfl | exact Or.inr (Or.inl rfl) | exact Or.inr (Or.inr rfl)) (hd : (x == ("__debug__" : Str)) = false := by decide)
    (hcd : (x == ("__classdict__" : Str)) = false := by decide) (hbase : attributeBase (.Name x p) "append" X.env (eval (.Name x p) X.env) = eval (.Name x p) X.env := by rfl)
    (hfew : ((backTo cpos (starEach (e :: []) X.env)).all (fun x => !x.1) && (backToKw cpos (keywordEach [] X.env)).all (fun x => x.1.isSome)
      && decide ((e :: []).length + ([] : List Keyword).length + (if ([] : List Keyword).isEmpty then 0 else 1) < 30)) = true := by rfl)
    (hline : (apos.endLine == cpos.line) = true := by rfl) (hs : starEach (e :: []) X.env = (false, eval e X.env) :: starEach [] X.env := by rfl) (hplain : (backTo cpos (starEach [] X.env)).any (·.1) = false := by rfl) :
    PR X (.Call (.Attribute (.Name x p) "append" apos) [e] [] cpos) (tBM X.K "list" rAppend (tVar i) (tCons te tNil)) (dApp i de) :=
  ⟨pe_bm PySem.F.plainAttrs_list PySem.F.slot_list_append PySem.F.type_list_append mt_append (pe_var hN hv hd hcd) (pa_cons he.pe pa_nil hs) hbase hfew hline hs hplain, sim_app he.sim⟩
theorem pr_ext (i : Nat) (he : PD X e te de) (hN : X.N[i]? = some x := by rfl) (hv : Vis X.env.scope x := by first | exact Or.inl rfl | exact Or.inr (Or.inl rfl) | exact Or.inr (Or.inr rfl)) (hd : (x == ("__debug__" : Str)) = false := by decide)
    (hcd : (x == ("__classdict__" : Str)) = false := by decide) (hbase : attributeBase (.Name x p) "extend" X.env (eval (.Name x p) X.env) = eval (.Name x p) X.env := by rfl)
    (hfew : ((backTo cpos (starEach (e :: []) X.env)).all (fun x => !x.1) && (backToKw cpos (keywordEach [] X.env)).all (fun x => x.1.isSome)
      && decide ((e :: []).length + ([] : List Keyword).length + (if ([] : List Keyword).isEmpty then 0 else 1) < 30)) = true := by rfl)
    (hline : (apos.endLine == cpos.line) = true := by rfl) (hs : starEach (e :: []) X.env = (false, eval e X.env) :: starEach [] X.env := by rfl) (hplain : (backTo cpos (starEach [] X.env)).any (·.1) = false := by rfl) :
    PR X (.Call (.Attribute (.Name x p) "extend" apos) [e] [] cpos) (tBM X.K "list" rExtend (tVar i) (tCons te tNil)) (dExt i de) :=
  ⟨pe_bm PySem.F.plainAttrs_list PySem.F.slot_list_extend PySem.F.type_list_extend mt_extend (pe_var hN hv hd hcd) (pa_cons he.pe pa_nil hs) hbase hfew hline hs hplain, sim_ext he.sim⟩
theorem pr_pop (i : Nat) (he : PD X e te de) (hN : X.N[i]? = some x := by rfl) (hv : Vis X.env.scope x := by first | exact Or.inl rfl | exact Or.inr (Or.inl rfl) | exact Or.inr (Or.inr rfl)) (hd : (x == ("__debug__" : Str)) = false := by decide)
    (hcd : (x == ("__classdict__" : Str)) = false := by decide) (hbase : attributeBase (.Name x p) "pop" X.env (eval (.Name x p) X.env) = eval (.Name x p) X.env := by rfl)
    (hfew : ((backTo cpos (starEach (e :: []) X.env)).all (fun x => !x.1) && (backToKw cpos (keywordEach [] X.env)).all (fun x => x.1.isSome)
      && decide ((e :: []).length + ([] : List Keyword).length + (if ([] : List Keyword).isEmpty then 0 else 1) < 30)) = true := by rfl)
    (hline : (apos.endLine == cpos.line) = true := by rfl) (hs : starEach (e :: []) X.env = (false, eval e X.env) :: starEach [] X.env := by rfl) (hplain : (backTo cpos (starEach [] X.env)).any (·.1) = false := by rfl) :
    PR X (.Call (.Attribute (.Name x p) "pop" apos) [e] [] cpos) (tBM X.K "list" rPopAt (tVar i) (tCons te tNil)) (dPop i de) :=
  ⟨pe_bm PySem.F.plainAttrs_list PySem.F.slot_list_pop PySem.F.type_list_pop mt_popAt (pe_var hN hv hd hcd) (pa_cons he.pe pa_nil hs) hbase hfew hline hs hplain, sim_pop he.sim⟩
theorem pr_lenOwn (i : Nat) (hm : X.mg "len" = none) (hg : Gl X "len" := by rfl) (hN : X.N[i]? = some x := by rfl) (hv : Vis X.env.scope x := by first | exact Or.inl rfl | exact Or.inr (Or.inl rfl) | exact Or.inr (Or.inr rfl)) (hd : (x == ("__debug__" : Str)) = false := by decide)
    (hcd : (x == ("__classdict__" : Str)) = false := by decide) (hs : starEach ((.Name x p) :: []) X.env = (false, eval (.Name x p) X.env) :: starEach [] X.env := by rfl) (hpl : (backTo pos (starEach [] X.env)).any (·.1) = false := by rfl) :
    PR X (.Call (.Name "len" cpos) [.Name x p] [] pos) (tCB (fun xs H Q => ∃ x n, xs = [x] ∧ LenV X.K x H n ∧ Q (.int n) H) (tCons (tVar i) tNil)) (dLenOwn i) :=
  ⟨pe_callB call_len hg hm PySem.boot_len (pa_cons (pe_var hN hv hd hcd) pa_nil hs) (by decide) (by decide) hs hpl, sim_lenOwn⟩
end
end DL
set_option Elab.async false
set_option linter.all false
set_option maxRecDepth 100000
set_option maxHeartbeats 2000000
namespace DL
open PySem PySem.Spec PyProof.Rows L2
variable [Tabl]

/-! ### defs of one's own -/
abbrev DF := List D → (Sl → Prop) → Prop
abbrev DFO := OT → List D → (Sl → OT → Prop) → Prop
/-- all but these things and the tables stays; the tables may have grown -/
structure ButT (Fs : Addr → Prop) (G' H H' : Hp) : Prop where
  k : ∀ a o, H a = some o → ¬ Fs a → ¬ IsTab a → H' a = some o
  t : TabG G' H'
/-- data in; data out, or a new thing -/
def SpV (K : PySem.W.Frag) (f : DF) : Sp := fun vs H Q _ => ∃ (G : Hp) (ds : List D) (Φ : Sl → Prop), Top G H ∧ RpL K G vs ds ∧ f ds Φ ∧
  ∀ v r Fr G' H', Same G G' → SamT G' H H' → Same G' H' → (∀ a, H a ≠ none → G' a = G a) → ResOk K (fun _ => none) H G' H' (fun _ _ => False) v r Fr → Φ r → Q v H'
/-- the first argument a thing that may change -/
def SpO (K : PySem.W.Frag) (f : DFO) : Sp := fun vs H Q _ => ∃ (G : Hp) (S : OT) (Fs : Addr → Prop) (ds : List D) (Φ : Sl → OT → Prop) (v0 : V) (ws : List V), vs = v0 :: ws ∧ S.ok K G H v0 Fs ∧ (∀ a, Fs a → G a = none ∧ H a ≠ none) ∧ Top G H ∧ RpL K G ws ds ∧ f S ds Φ ∧
  ∀ v r Fr S' Fs' G' H', Same G G' → ButT Fs G' H H' → (∀ a, H a ≠ none → H' a ≠ none) → Same G' H' → (∀ a, H a ≠ none → G' a = G a) → S'.root = S.root → S'.ok K G' H' v0 Fs' → (∀ a, Fs' a → G' a = none ∧ H' a ≠ none ∧ (Fs a ∨ H a = none)) →
    ResOk K (fun _ => none) H G' H' (fun _ a => Fs' a) v r Fr → Φ r S' → Q v H'

/-- f(..) -/
def dCall (f : DF) (d : DA) : DR := fun ρ Φ => d ρ fun xs ρ1 => f xs fun r => Φ r ρ1
theorem sim_call {K : PySem.W.Frag} {f : DF} {t : TA} {d : DA} {E : XK} (h : SimA K t d) : SimR K (tCall (SpV K f) [] E t) (dCall f d) := by
  intro M Z G0 H0 G H σ ρ F Φ Q A hd k
  refine h A hd fun vs xs ρ1 F1 G1 H1 A1 e1 r1 q1 => ?_
  rw [List.append_nil]
  refine ⟨G1, xs, _, A1.top, r1, q1, fun v r Fr G2 H2 eG eH eGH old hr q2 => ?_⟩
  have A2 := A1.growT eG eH eGH old
  refine k v r Fr ρ1 F1 G2 H2 A2 (e1.trans eG) ⟨hr.ok, hr.na, fun a fa => ?_⟩ q2
  obtain ⟨h1, h2, h3, _, _⟩ := hr.fr a fa
  refine ⟨h1, h2, ?_, ?_, fun j z => (A1.fp j a z).2.1 h3⟩
  · cases q : H0 a with
    | none => rfl
    | some o => exact absurd h3 (A1.hn a (by rw [q]; exact Option.some_ne_none _))
  · cases q : Z a with
    | none => rfl
    | some o =>
      have := (A1.hz a o q).1
      rw [h3] at this
      cases this
/-- f(x, ..), x in slot i a thing that may change -/
def dCallOk (f : DFO) (i : Nat) (xs : List D) (ρ1 : List Sl) (Φ : Sl → List Sl → Prop) : Prop := match ρ1[i]? with
  | some (.loc S) => f S xs fun r S' => Φ r (ρ1.set i (.loc S'))
  | some (.arg S) => f S xs fun r S' => Φ r (ρ1.set i (.arg S'))
  | _ => False
def dCallO (f : DFO) (i : Nat) (d : DA) : DR := fun ρ Φ => match ρ[i]? with
  | some (.loc _) => d ρ fun xs ρ1 => dCallOk f i xs ρ1 Φ
  | some (.arg _) => d ρ fun xs ρ1 => dCallOk f i xs ρ1 Φ
  | _ => False
theorem At.mut_at {K : PySem.W.Frag} {M : Addr → Prop} {Z G0 H0 G H : Hp} {σ : L2.St} {ρ : List Sl} {F : Nat → Addr → Prop} {i : Nat} {S : OT} (A : At K M Z G0 H0 G H σ ρ F) (h : ρ[i]? = some (.loc S) ∨ ρ[i]? = some (.arg S)) :
    σ[i]? = some (some S.root) ∧ S.ok K G H S.root (F i) ∧ ∀ a, F i a → G a = none ∧ H a ≠ none := by
  have q : ∃ v, (σ[i]?).join = some v ∧ S.ok K G H v (F i) := by
    rcases h with h | h
    · exact A.sl i _ h
    · exact A.sl i _ h
  obtain ⟨v, e, hs⟩ := q
  have e2 := OT.pin hs
  rw [e2] at e hs
  exact ⟨join_some e, hs, fun a fa => ⟨(A.fp i a fa).1, (A.fp i a fa).2.1⟩⟩
/-- behind a call that changes what stands in slot i -/
theorem At.called {K : PySem.W.Frag} {M : Addr → Prop} {Z G0 H0 G H : Hp} {σ : L2.St} {ρ : List Sl} {F : Nat → Addr → Prop} {i : Nat} {S S' : OT} {Fs' : Addr → Prop} {G' H' : Hp} {v : V} {r : Sl} {Fr : Addr → Prop} {x : Sl} (A : At K M Z G0 H0 G H σ ρ F)
    (h : (ρ[i]? = some (.loc S) ∧ x = .loc S') ∨ (ρ[i]? = some (.arg S) ∧ x = .arg S'))
    (eG : Same G G') (eH : ButT (F i) G' H H') (hn : ∀ a, H a ≠ none → H' a ≠ none) (eGH : Same G' H') (old : ∀ a, H a ≠ none → G' a = G a) (er : S'.root = S.root) (hs : S'.ok K G' H' S.root Fs') (hf : ∀ a, Fs' a → G' a = none ∧ H' a ≠ none ∧ (F i a ∨ H a = none))
    (hr : ResOk K (fun _ => none) H G' H' (fun _ a => Fs' a) v r Fr) : ∃ F', At K M Z G0 H0 G' H' σ (ρ.set i x) F' ∧ ResOk K Z H0 G' H' F' v r Fr := by
  have hi : i < ρ.length := by
    rcases h with h | h
    · exact (List.getElem?_eq_some_iff.mp h.1).1
    · exact (List.getElem?_eq_some_iff.mp h.1).1
  obtain ⟨h1, h2, h3⟩ := A.mut_at (S := S) (h.elim (fun z => .inl z.1) fun z => .inr z.1)
  have hx : SlOk K G' H' ((σ[i]?).join) Fs' x := by
    rcases h with h | h
    · rw [h.2, h1]
      exact ⟨S.root, rfl, hs⟩
    · rw [h.2, h1]
      exact ⟨S.root, rfl, hs⟩
  have B := A.chgT (i := i) (x := x) (Fn := Fs') hi eG eGH eH.t old hn eH.k hx (fun z => by
    rcases h with h | h
    · rw [h.1] at z
      exact z.elim
    · rw [h.2]
      trivial) (fun a fa => ⟨(hf a fa).1, (hf a fa).2.1, (hf a fa).2.2.elim .inl fun z => .inr (.inl z)⟩)
  refine ⟨_, B, hr.ok, hr.na, fun a fa => ?_⟩
  obtain ⟨g1, g2, g3, _, g5⟩ := hr.fr a fa
  refine ⟨g1, g2, ?_, ?_, fun j z => ?_⟩
  · cases q : H0 a with
    | none => rfl
    | some o => exact absurd g3 (A.hn a (by rw [q]; exact Option.some_ne_none _))
  · cases q : Z a with
    | none => rfl
    | some o =>
      have := (A.hz a o q).1
      rw [g3] at this
      cases this
  · by_cases hj : j = i
    · rw [if_pos hj] at z
      exact g5 0 z
    · rw [if_neg hj] at z
      exact (A.fp j a z).2.1 g3
theorem sim_callO {K : PySem.W.Frag} {f : DFO} {i : Nat} {t : TA} {d : DA} {E : XK} (h : SimA K t d) : SimR K (tCall (SpO K f) [] E (tCons (tVar i) t)) (dCallO f i d) := by
  intro M Z G0 H0 G H σ ρ F Φ Q A hd k
  have hd' : ∃ S0, (ρ[i]? = some (.loc S0) ∨ ρ[i]? = some (.arg S0)) ∧ d ρ fun xs ρ1 => dCallOk f i xs ρ1 Φ := by
    unfold dCallO at hd
    split at hd
    · rename_i S e
      exact ⟨S, .inl e, hd⟩
    · rename_i S e
      exact ⟨S, .inr e, hd⟩
    · exact hd.elim
  obtain ⟨S0, hS0, hd⟩ := hd'
  obtain ⟨h1, h2, h3⟩ := A.mut_at hS0
  refine ⟨S0.root, h1, h A hd fun vs xs ρ1 F1 G1 H1 A1 e1 r1 q1 => ?_⟩
  unfold dCallOk at q1
  show SpO K f (S0.root :: vs ++ []) H1 Q E
  rw [List.append_nil]
  split at q1
  · rename_i S eS
    obtain ⟨g1, g2, g3⟩ := A1.mut_at (.inl eS)
    have er : S.root = S0.root := by
      rw [h1] at g1
      exact (Option.some.inj (Option.some.inj g1)).symm
    rw [← er]
    refine ⟨G1, S, F1 i, xs, _, S.root, vs, rfl, g2, g3, A1.top, r1, q1, fun v r Fr S' Fs' G2 H2 eG eH hn eGH old er' hs hf hr q2 => ?_⟩
    obtain ⟨F2, A2, hr2⟩ := A1.called (x := .loc S') (.inl ⟨eS, rfl⟩) eG eH hn eGH old er' hs hf hr
    exact k v r Fr _ F2 G2 H2 A2 (e1.trans eG) hr2 q2
  · rename_i S eS
    obtain ⟨g1, g2, g3⟩ := A1.mut_at (.inr eS)
    have er : S.root = S0.root := by
      rw [h1] at g1
      exact (Option.some.inj (Option.some.inj g1)).symm
    rw [← er]
    refine ⟨G1, S, F1 i, xs, _, S.root, vs, rfl, g2, g3, A1.top, r1, q1, fun v r Fr S' Fs' G2 H2 eG eH hn eGH old er' hs hf hr q2 => ?_⟩
    obtain ⟨F2, A2, hr2⟩ := A1.called (x := .arg S') (.inr ⟨eS, rfl⟩) eG eH hn eGH old er' hs hf hr
    exact k v r Fr _ F2 G2 H2 A2 (e1.trans eG) hr2 q2
  · exact q1.elim
section
variable {X : Cx} {k : Nat} {f : DF} {fo : DFO} {fa : Addr} {fd : FuncData} {ps : List Str} {x y : Str} {e a : Expr} {es : List Expr} {t : TA} {d : DA} {p pos q : Pos}
theorem pr_call (G : FnOk X.prog X.w X.K X.mg X.base CX0 k fa fd ps (SpV X.K f)) (hr : Room k X.A) (hm : X.mg x = some (.ref fa)) (hk : PySem.W.keepIn X.K (.ref fa) = true) (hb : Binds X.K fd ps []) (ha : PDA X (e :: es) t d) (hg : Gl X x := by rfl)
    (hdb : (x == ("__debug__" : Str)) = false := by decide) (hs : starEach (e :: es) X.env = (false, eval e X.env) :: starEach es X.env := by rfl) (hpl : (backTo pos (starEach es X.env)).any (·.1) = false := by rfl) :
    PR X (.Call (.Name x p) (e :: es) [] pos) (tCall (SpV X.K f) [] E0 t) (dCall f d) := ⟨pe_call G hr hg hm hk hb .nil pass0 ha.pe hdb hs hpl, sim_call ha.sim⟩
theorem pr_call0 (G : FnOk X.prog X.w X.K X.mg X.base CX0 k fa fd ps (SpV X.K f)) (hr : Room k X.A) (hm : X.mg x = some (.ref fa)) (hk : PySem.W.keepIn X.K (.ref fa) = true) (hb : Binds X.K fd ps []) (hg : Gl X x := by rfl)
    (hdb : (x == ("__debug__" : Str)) = false := by decide) : PR X (.Call (.Name x p) [] [] pos) (tCall (SpV X.K f) [] E0 tNil) (dCall f dNil) := ⟨pe_call0 G hr hg hm hk hb .nil pass0 hdb, sim_call sim_nil⟩
theorem pr_callO (i : Nat) (G : FnOk X.prog X.w X.K X.mg X.base CX0 k fa fd ps (SpO X.K fo)) (hr : Room k X.A) (hm : X.mg x = some (.ref fa)) (hk : PySem.W.keepIn X.K (.ref fa) = true) (hb : Binds X.K fd ps []) (ha : PDA X es t d) (hg : Gl X x := by rfl)
    (hN : X.N[i]? = some y := by rfl) (hv : Vis X.env.scope y := by first | exact Or.inl rfl | exact Or.inr (Or.inl rfl) | exact Or.inr (Or.inr rfl)) (hdy : (y == ("__debug__" : Str)) = false := by decide) (hcd : (y == ("__classdict__" : Str)) = false := by decide)
    (hdb : (x == ("__debug__" : Str)) = false := by decide) (hs : starEach (.Name y q :: es) X.env = (false, eval (.Name y q) X.env) :: starEach es X.env := by rfl) (hpl : (backTo pos (starEach es X.env)).any (·.1) = false := by rfl) :
    PR X (.Call (.Name x p) (.Name y q :: es) [] pos) (tCall (SpO X.K fo) [] E0 (tCons (tVar i) t)) (dCallO fo i d) := ⟨pe_call G hr hg hm hk hb .nil pass0 (pa_cons (pe_var hN hv hdy hcd) ha.pe hs) hdb hs hpl, sim_callO ha.sim⟩
end

/-! ### what a def keeps -/
def rtV (Φ : Sl → Prop) : Ds := { nx := fun _ => Φ (.val .non), rt := fun x _ => Φ x }
def rtOx (S : OT) (Φ : Sl → OT → Prop) (x : Sl) (ρ : List Sl) : Prop := match ρ[0]? with
  | some (Sl.arg S') => S'.root = S.root ∧ Φ x S'
  | _ => False
def rtO (S : OT) (Φ : Sl → OT → Prop) : Ds := { nx := fun ρ => rtOx S Φ (.val .non) ρ, rt := fun x ρ => rtOx S Φ x ρ }
def slots (ds : List D) (n : Nat) : List Sl := ds.map Sl.val ++ List.replicate (n - ds.length) Sl.un
theorem start_slots {K : PySem.W.Frag} {G : Hp} {vs : List V} {ds : List D} (r : RpL K G vs ds) (N : List Str) : (start N vs).length = (slots ds N.length).length ∧ ∀ (i : Nat) (x : Sl), (slots ds N.length)[i]? = some x →
    x = .un ∨ ∃ d v, x = .val d ∧ (start N vs)[i]? = some (some v) ∧ Rp K G v d := by
  have hl := r.length
  refine ⟨by simp [L2.start, slots, hl], fun i x h => ?_⟩
  unfold slots at h
  unfold L2.start
  by_cases hi : i < ds.length
  · rw [List.getElem?_append_left (by simpa using hi), List.getElem?_map] at h
    rw [List.getElem?_append_left (by simpa [hl] using hi), List.getElem?_map]
    cases e : ds[i]? with
    | none =>
      rw [e] at h
      cases h
    | some d =>
      rw [e] at h
      cases h
      obtain ⟨v, h1, h2⟩ := r.tget e
      exact .inr ⟨d, v, rfl, by rw [h1]; rfl, h2⟩
  · rw [List.getElem?_append_right (by simpa using hi)] at h
    rw [List.getElem?_replicate] at h
    split at h
    · cases h
      exact .inl rfl
    · cases h
theorem At.start {K : PySem.W.Frag} {G H : Hp} {vs : List V} {ds : List D} (gh : Top G H) (r : RpL K G vs ds) (N : List Str) : At K IsTab (fun _ => none) G H G H (start N vs) (slots ds N.length) (fun _ _ => False) where
  gh := gh.s
  g0 := Same.refl G
  h0 := fun _ _ h _ => h
  fr := fun _ _ => rfl
  hn := fun _ h => h
  len := (start_slots r N).1
  sl := fun i x h => by
    rcases (start_slots r N).2 i x h with e | ⟨d, v, e, h1, h2⟩
    · subst e
      exact fun _ z => z
    · subst e
      exact ⟨fun _ z => z, v, by rw [h1]; rfl, h2⟩
  no := fun _ _ _ z => z
  fp := fun _ _ z => z.elim
  dj := fun _ _ _ z => z.elim
  hz := fun _ _ z => by cases z
  tb := gh.t
  mt := fun a z => ⟨z, rfl, gh.t.ne z⟩
/-- with a thing of the caller's ahead -/
theorem At.startO {K : PySem.W.Frag} {G H : Hp} {v0 : V} {vs : List V} {ds : List D} {S : OT} {Fs : Addr → Prop} (gh : Top G H) (hs : S.ok K G H v0 Fs) (hf : ∀ a, Fs a → G a = none ∧ H a ≠ none) (r : RpL K G vs ds) (n : Str) (N : List Str) :
    At K (fun a => Fs a ∨ IsTab a) (fun _ => none) G H G H (L2.start (n :: N) (v0 :: vs)) (.arg S :: slots ds N.length) (fun i a => i = 0 ∧ Fs a) where
  gh := gh.s
  g0 := Same.refl G
  h0 := fun _ _ h _ => h
  fr := fun _ _ => rfl
  hn := fun _ h => h
  len := by
    have := (start_slots r N).1
    unfold L2.start at this ⊢
    simp at this ⊢
    omega
  sl := fun i x h => by
    have es : L2.start (n :: N) (v0 :: vs) = some v0 :: L2.start N vs := by
      unfold L2.start
      simp
    rw [es]
    cases i with
    | zero =>
      cases h
      refine ⟨v0, rfl, ?_⟩
      have e : (fun a => (0 : Nat) = 0 ∧ Fs a) = Fs := by
        funext a
        exact propext ⟨fun z => z.2, fun z => ⟨rfl, z⟩⟩
      rw [e]
      exact hs
    | succ j =>
      rw [List.getElem?_cons_succ] at h ⊢
      rcases (start_slots r N).2 j x h with e | ⟨d, v, e, h1, h2⟩
      · subst e
        exact fun _ z => absurd z.1 (by omega)
      · subst e
        exact ⟨fun _ z => absurd z.1 (by omega), v, by rw [h1]; rfl, h2⟩
  no := fun i h a z => by
    rw [z.1] at h
    cases h
  fp := fun i a z => by
    obtain ⟨rfl, z⟩ := z
    exact ⟨(hf a z).1, (hf a z).2, .inr ⟨.inl z, trivial⟩⟩
  dj := fun _ _ _ y z => y.1.trans z.1.symm
  hz := fun _ _ z => by cases z
  tb := gh.t
  mt := fun a z => ⟨.inr z, rfl, gh.t.ne z⟩
section
variable {P : Program} {w : World} {K : PySem.W.Frag} {mg : Str → Option Value} {base : Heap} {x qual : Str} {st : Stmt} {fa : Addr} {fd : FuncData} {n : Str} {N ps : List Str} {k : Nat} {b : DS}
theorem okV {f : DF} (F : Fun K x qual st fa fd) (S : FnScope N ps (defScope st)) (len : ∀ ds Φ, f ds Φ → ds.length = ps.length)
    (body : ∀ (cdv : Value) (A : Around) (outer : List Env) (s : Shared) (H : Hp) (E : XK), Room k (A.deeper (envOfC qual (defScope st) s.heap.objs.size fa cdv)) → ∃ t, PDSs (cxOf CX0 P w K mg base N qual (defScope st) fa cdv A outer s H E).nox (defBody st) t b)
    (rd : ∀ ds Φ, f ds Φ → b (rtV Φ) (slots ds N.length)) : FnOk P w K mg base CX0 (k + 1) fa fd ps (SpV K f) := by
  refine F.ok S (fun vs H Q E h => ?_) fun cdv A outer s H vs Q E hr h => ?_
  · obtain ⟨G, ds, Φ, _, r, hf, _⟩ := h
    rw [r.length]
    exact len ds Φ hf
  · obtain ⟨G, ds, Φ, gh, r, hf, k⟩ := h
    obtain ⟨t, ht⟩ := body cdv A outer s H E hr
    refine ⟨t, ht.pe, ht.sim (At.start gh r N) (rd ds Φ hf) (fun σ' ρ' F' G' H' A' e q => ?_) (fun v y Fn σ' ρ' F' G' H' A' e r q => ?_) (fun _ _ _ _ _ _ _ z => z.elim) (fun _ _ _ _ _ _ _ z => z.elim)⟩
    · exact k .non (.val .non) (fun _ => False) G' H' e ⟨fun a o h n => A'.h0 a o h n, A'.tb⟩ A'.gh A'.fr (.val .non) q
    · refine k v y Fn G' H' e ⟨fun a o h n => A'.h0 a o h n, A'.tb⟩ A'.gh A'.fr ⟨r.ok, r.na, fun a fa => ?_⟩ q
      obtain ⟨h1, h2, h3, h4, _⟩ := r.fr a fa
      exact ⟨h1, h2, h3, h4, fun _ z => z⟩
theorem okO {f : DFO} (F : Fun K x qual st fa fd) (S : FnScope (n :: N) ps (defScope st)) (len : ∀ S ds Φ, f S ds Φ → ds.length + 1 = ps.length)
    (body : ∀ (cdv : Value) (A : Around) (outer : List Env) (s : Shared) (H : Hp) (E : XK), Room k (A.deeper (envOfC qual (defScope st) s.heap.objs.size fa cdv)) → ∃ t, PDSs (cxOf CX0 P w K mg base (n :: N) qual (defScope st) fa cdv A outer s H E).nox (defBody st) t b)
    (rd : ∀ S ds Φ, f S ds Φ → b (rtO S Φ) (.arg S :: slots ds N.length)) : FnOk P w K mg base CX0 (k + 1) fa fd ps (SpO K f) := by
  refine F.ok S (fun vs H Q E h => ?_) fun cdv A outer s H vs Q E hr h => ?_
  · obtain ⟨G, T, Fs, ds, Φ, v0, ws, rfl, _, _, _, r, hf, _⟩ := h
    rw [List.length_cons, r.length]
    exact len T ds Φ hf
  · obtain ⟨G, T, Fs, ds, Φ, v0, ws, rfl, hs, hfp, gh, r, hf, k⟩ := h
    obtain ⟨t, ht⟩ := body cdv A outer s H E hr
    have fin : ∀ v y Fn σ' ρ' F' G' H', At K (fun a => Fs a ∨ IsTab a) (fun _ => none) G H G' H' σ' ρ' F' → Same G G' → ResOk K (fun _ => none) H G' H' (fun j a => Sl.isArg (ρ'[j]?) ∧ F' j a) v y Fn → rtOx T Φ y ρ' → Q v H' := fun v y Fn σ' ρ' F' G' H' A' e hr q => by
      unfold rtOx at q
      split at q
      · rename_i T' eT
        obtain ⟨er, q⟩ := q
        obtain ⟨g1, g2, g3⟩ := A'.mut_at (.inr eT)
        have ev : v0 = T'.root := by rw [OT.pin hs, er]
        refine k v y Fn T' (F' 0) G' H' e ⟨fun a o h n nt => A'.h0 a o h fun z => z.elim n nt, A'.tb⟩ A'.hn A'.gh A'.fr er (by rw [ev]; exact g2) (fun a fa => ?_) ⟨hr.ok, hr.na, fun a fa => ?_⟩ q
        · obtain ⟨h1, h2, h3⟩ := A'.fp 0 a fa
          refine ⟨h1, h2, ?_⟩
          rcases h3 with h3 | h3
          · exact .inr h3
          · exact .inl (h3.1.resolve_right (A'.nt fa))
        · obtain ⟨h1, h2, h3, h4, h5⟩ := hr.fr a fa
          exact ⟨h1, h2, h3, h4, fun _ z => h5 0 ⟨by rw [eT]; trivial, z⟩⟩
      · exact q.elim
    refine ⟨t, ht.pe, ht.sim (At.startO gh hs hfp r n N) (rd T ds Φ hf) (fun σ' ρ' F' G' H' A' e q => ?_) (fun v y Fn σ' ρ' F' G' H' A' e r q => fin v y Fn σ' ρ' F' G' H' A' e r q) (fun _ _ _ _ _ _ _ z => z.elim) (fun _ _ _ _ _ _ _ z => z.elim)⟩
    exact fin .non (.val .non) (fun _ => False) σ' ρ' F' G' H' A' e (.val .non) q
end
/-- the tables at the start -/
theorem top_start {H : Hp} (hT : ∀ p ∈ Tabl.T, H p.1 = some (.tbl #[])) : ∃ G : Hp, Top G H ∧ ∀ a, ¬ IsTab a → G a = H a := by
  classical
  refine ⟨fun a => if IsTab a then none else H a, ⟨fun a o h => ?_, fun p hp => ⟨if_pos ⟨p, hp, rfl⟩, #[], hT p hp, True.intro, fun pos cv h => ?_⟩⟩, fun a n => if_neg n⟩
  · by_cases z : IsTab a
    · rw [if_pos z] at h
      cases h
    · rw [if_neg z] at h
      exact h
  · exact absurd (show codeAmong pos [] = some cv from h) (by simp [codeAmong])
theorem sq_start {K : PySem.W.Frag} {G H : Hp} {a : Addr} {xs : List V} (hT : ∀ p ∈ Tabl.T, H p.1 = some (.tbl #[])) (e : ∀ a, ¬ IsTab a → G a = H a) (h : SqL K H a xs) : SqL K G a xs := by
  have nt : ∀ u, H a = some u → (∀ ps, u ≠ .tbl ps) → G a = some u := fun u hu n => by
    rw [e a fun ⟨p, hp, z⟩ => ?_]
    · exact hu
    · rw [← z, hT p hp] at hu
      exact n _ (Option.some.inj hu).symm
  rcases h with (h | ⟨o, h⟩) | h
  · exact .inl (.inl (nt _ h fun ps z => nomatch z))
  · exact .inl (.inr ⟨o, nt _ h fun ps z => nomatch z⟩)
  · exact .inr h
end DL
set_option Elab.async false
set_option linter.all false
set_option maxRecDepth 100000
set_option maxHeartbeats 2000000
namespace DL
open PySem PySem.Spec PyProof.Rows L2
variable [Tabl]

/-! ### places within a tree of one's own -/
inductive Stp where
  | ix (k : Nat) | fd (f : Str)
def putFs (f : Str) (t : OT) : List (Str × OT) → List (Str × OT)
  | [] => [(f, t)]
  | (g, u) :: r => if g = f then (g, t) :: r else (g, u) :: putFs f t r
def OT.get : OT → List Stp → Option OT
  | t, [] => some t
  | .lst _ xs, .ix k :: π => match xs[k]? with
    | some t => t.get π
    | none => none
  | .tup _ xs, .ix k :: π => match xs[k]? with
    | some t => t.get π
    | none => none
  | .ins _ _ _ fs, .fd f :: π => match fs.lookup f with
    | some t => t.get π
    | none => none
  | _, _ :: _ => none
def OT.put : OT → List Stp → OT → OT
  | _, [], s => s
  | .lst p xs, .ix k :: π, s => match xs[k]? with
    | some t => .lst p (xs.set k (t.put π s))
    | none => .lst p xs
  | .tup p xs, .ix k :: π, s => match xs[k]? with
    | some t => .tup p (xs.set k (t.put π s))
    | none => .tup p xs
  | .ins p dx C fs, .fd f :: π, s => match fs.lookup f with
    | some t => .ins p dx C (putFs f (t.put π s) fs)
    | none => .ins p dx C fs
  | t, _ :: _, _ => t
section
variable {K : PySem.W.Frag} {G H : Hp}
/-- one item of owned ones, and what is left -/
theorem OwnL.at : ∀ {vs : List V} {ts : List OT} {A : List Addr} {k : Nat} {t : OT}, OwnL K G H vs ts A → ts[k]? = some t → ∃ v A' R, vs[k]? = some v ∧ Own K G H v t A' ∧ A.Perm (A' ++ R) ∧
    ∀ (G' H' : Hp) (v' : V) (t' : OT) (B : List Addr), Same G G' → (∀ a ∈ R, H' a = H a) → Own K G' H' v' t' B → ∃ C, OwnL K G' H' (vs.set k v') (ts.set k t') C ∧ C.Perm (B ++ R)
  | _, _, _, _, _, .nil, h => by simp at h
  | _, _, _, 0, t, .cons (A := A) (B := B) h r, e => by
    simp at e
    subst e
    exact ⟨_, A, B, rfl, h, List.Perm.refl _, fun G' H' v' t' C eG k q => ⟨C ++ B, .cons q (r.st eG k), List.Perm.refl _⟩⟩
  | _, _, _, k + 1, t, .cons (A := A) (B := B) h r, e => by
    obtain ⟨v, A', R, h1, h2, h3, h4⟩ := OwnL.at (k := k) (t := t) r (by simpa using e)
    refine ⟨v, A', A ++ R, by simpa using h1, h2, ?_, fun G' H' v' t' C eG kk q => ?_⟩
    · refine (List.Perm.append_left A h3).trans ?_
      rw [← List.append_assoc, ← List.append_assoc]
      exact List.Perm.append_right R List.perm_append_comm
    · obtain ⟨C', c1, c2⟩ := h4 G' H' v' t' C eG (fun a ha => kk a (List.mem_append_right _ ha)) q
      refine ⟨A ++ C', .cons (h.st eG fun a ha => kk a (List.mem_append_left _ ha)) c1, ?_⟩
      refine (List.Perm.append_left A c2).trans ?_
      rw [← List.append_assoc, ← List.append_assoc]
      exact List.Perm.append_right R List.perm_append_comm
theorem OwnF.at : ∀ {vs : List (Str × V)} {ts : List (Str × OT)} {A : List Addr} {f : Str} {t : OT}, OwnF K G H vs ts A → ts.lookup f = some t → ∃ v A' R, vs.lookup f = some v ∧ Own K G H v t A' ∧ A.Perm (A' ++ R) ∧
    ∀ (G' H' : Hp) (v' : V) (t' : OT) (B : List Addr), Same G G' → (∀ a ∈ R, H' a = H a) → Own K G' H' v' t' B → ∃ C, OwnF K G' H' (putF f v' vs) (putFs f t' ts) C ∧ C.Perm (B ++ R)
  | _, _, _, _, _, .nil, h => by simp at h
  | _, _, _, f, t, .cons (k := g) (v := v0) (vs := vs) (t := t0) (ts := ts) (A := A) (B := B) h r, e => by
    by_cases c : g = f
    · subst c
      have e' : t0 = t := by simpa [List.lookup] using e
      subst e'
      refine ⟨v0, A, B, by simp [List.lookup], h, List.Perm.refl _, fun G' H' v' t' C eG k q => ⟨C ++ B, ?_, List.Perm.refl _⟩⟩
      have e1 : putF g v' ((g, v0) :: vs) = (g, v') :: vs := by simp [putF]
      have e2 : putFs g t' ((g, t0) :: ts) = (g, t') :: ts := by simp [putFs]
      rw [e1, e2]
      exact .cons q (r.st eG k)
    · have cb : (f == g) = false := by simpa using fun z => c z.symm
      have e' : ts.lookup f = some t := by simpa [List.lookup, cb] using e
      obtain ⟨v, A', R, h1, h2, h3, h4⟩ := OwnF.at (f := f) (t := t) r e'
      refine ⟨v, A', A ++ R, by simpa [List.lookup, cb] using h1, h2, ?_, fun G' H' v' t' C eG kk q => ?_⟩
      · refine (List.Perm.append_left A h3).trans ?_
        rw [← List.append_assoc, ← List.append_assoc]
        exact List.Perm.append_right R List.perm_append_comm
      · obtain ⟨C', c1, c2⟩ := h4 G' H' v' t' C eG (fun a ha => kk a (List.mem_append_right _ ha)) q
        have e1 : putF f v' ((g, v0) :: vs) = (g, v0) :: putF f v' vs := by
          show (if g = f then _ else _) = _
          rw [if_neg c]
        have e2 : putFs f t' ((g, t0) :: ts) = (g, t0) :: putFs f t' ts := by
          show (if g = f then _ else _) = _
          rw [if_neg c]
        refine ⟨A ++ C', ?_, ?_⟩
        · rw [e1, e2]
          exact .cons (h.st eG fun a ha => kk a (List.mem_append_left _ ha)) c1
        · refine (List.Perm.append_left A c2).trans ?_
          rw [← List.append_assoc, ← List.append_assoc]
          exact List.Perm.append_right R List.perm_append_comm
theorem set_self {α : Type} : ∀ {l : List α} {k : Nat} {x : α}, l[k]? = some x → l.set k x = l
  | [], _, _, h => by simp at h
  | a :: l, 0, x, h => by
    have : a = x := by simpa using h
    rw [this]
    rfl
  | a :: l, k + 1, x, h => by
    rw [List.set_cons_succ, set_self (l := l) (k := k) (x := x) (by simpa using h)]
theorem putF_self {f : Str} {v : V} : ∀ {l : List (Str × V)}, l.lookup f = some v → putF f v l = l
  | [], h => by simp at h
  | (g, u) :: r, h => by
    by_cases c : g = f
    · subst c
      have e : u = v := by simpa [List.lookup] using h
      subst e
      simp [putF]
    · have cb : (f == g) = false := by simpa using fun z => c z.symm
      have e' : r.lookup f = some v := by simpa [List.lookup, cb] using h
      show (if g = f then _ else _) = _
      rw [if_neg c, putF_self e']
/-- the part at a place, and how another one is put there (its root the same) -/
theorem Own.at : ∀ {π : List Stp} {v : V} {t s : OT} {A : List Addr}, Own K G H v t A → A.Nodup → t.get π = some s → ∃ v' A' R, Own K G H v' s A' ∧ A.Perm (A' ++ R) ∧
    ∀ (G' H' : Hp) (s' : OT) (B : List Addr), Same G G' → (∀ a ∈ R, H' a = H a) → Own K G' H' v' s' B → ∃ C, Own K G' H' v (t.put π s') C ∧ C.Perm (B ++ R)
  | [], v, t, s, A, h, nd, e => by
    cases e
    exact ⟨v, A, [], h, by rw [List.append_nil], fun G' H' s' B eG k q => ⟨B, q, by rw [List.append_nil]⟩⟩
  | .ix k :: π, _, .lst p xs, s, _, .lst (vs := vs) (A := A) h r, nd, e => by
    unfold OT.get at e
    split at e
    · rename_i t ek
      obtain ⟨v1, A1, R1, e1, o1, p1, b1⟩ := r.at ek
      have nd1 : A1.Nodup := (List.nodup_append.mp ((p1.nodup_iff).mp (List.nodup_cons.mp nd).2)).1
      obtain ⟨v2, A2, R2, o2, p2, b2⟩ := Own.at (π := π) o1 nd1 e
      refine ⟨v2, A2, p :: (R2 ++ R1), o2, ?_, fun G' H' s' B eG kk q => ?_⟩
      · refine (List.Perm.cons p (p1.trans (List.Perm.append_right R1 p2))).trans ?_
        rw [List.append_assoc]
        exact (List.perm_middle (l₁ := A2) (a := p) (l₂ := R2 ++ R1)).symm
      · obtain ⟨C2, c2, d2⟩ := b2 G' H' s' B eG (fun a ha => kk a (List.mem_cons_of_mem _ (List.mem_append_left _ ha))) q
        obtain ⟨C1, c1, d1⟩ := b1 G' H' v1 _ C2 eG (fun a ha => kk a (List.mem_cons_of_mem _ (List.mem_append_right _ ha))) c2
        rw [set_self e1] at c1
        refine ⟨p :: C1, ?_, ?_⟩
        · unfold OT.put
          rw [ek]
          exact .lst ((kk p List.mem_cons_self).trans h) c1
        · refine (List.Perm.cons p (d1.trans (List.Perm.append_right R1 d2))).trans ?_
          rw [List.append_assoc]
          exact (List.perm_middle (l₁ := B) (a := p) (l₂ := R2 ++ R1)).symm
    · cases e
  | .ix k :: π, _, .tup p xs, s, _, .tup (vs := vs) (A := A) h r, nd, e => by
    unfold OT.get at e
    split at e
    · rename_i t ek
      obtain ⟨v1, A1, R1, e1, o1, p1, b1⟩ := r.at ek
      have nd1 : A1.Nodup := (List.nodup_append.mp ((p1.nodup_iff).mp nd)).1
      obtain ⟨v2, A2, R2, o2, p2, b2⟩ := Own.at (π := π) o1 nd1 e
      refine ⟨v2, A2, R2 ++ R1, o2, ?_, fun G' H' s' B eG kk q => ?_⟩
      · refine (p1.trans (List.Perm.append_right R1 p2)).trans ?_
        rw [List.append_assoc]
      · obtain ⟨C2, c2, d2⟩ := b2 G' H' s' B eG (fun a ha => kk a (List.mem_append_left _ ha)) q
        obtain ⟨C1, c1, d1⟩ := b1 G' H' v1 _ C2 eG (fun a ha => kk a (List.mem_append_right _ ha)) c2
        rw [set_self e1] at c1
        refine ⟨C1, ?_, ?_⟩
        · unfold OT.put
          rw [ek]
          exact .tup (eG _ _ h) c1
        · refine (d1.trans (List.Perm.append_right R1 d2)).trans ?_
          rw [List.append_assoc]
    · cases e
  | .fd f :: π, _, .ins p dx C fs, s, _, .ins (fs := vs) (A := A) h h0 r, nd, e => by
    unfold OT.get at e
    split at e
    · rename_i t ek
      obtain ⟨v1, A1, R1, e1, o1, p1, b1⟩ := r.at ek
      have nd1 : A1.Nodup := (List.nodup_append.mp ((p1.nodup_iff).mp (List.nodup_cons.mp (List.nodup_cons.mp nd).2).2)).1
      obtain ⟨v2, A2, R2, o2, p2, b2⟩ := Own.at (π := π) o1 nd1 e
      refine ⟨v2, A2, p :: dx :: (R2 ++ R1), o2, ?_, fun G' H' s' B eG kk q => ?_⟩
      · refine (List.Perm.cons p (List.Perm.cons dx (p1.trans (List.Perm.append_right R1 p2)))).trans ?_
        rw [List.append_assoc]
        refine List.Perm.trans ?_ (List.perm_middle (l₁ := A2) (a := p) (l₂ := dx :: (R2 ++ R1))).symm
        exact List.Perm.cons p (List.perm_middle (l₁ := A2) (a := dx) (l₂ := R2 ++ R1)).symm
      · obtain ⟨C2, c2, d2⟩ := b2 G' H' s' B eG (fun a ha => kk a (List.mem_cons_of_mem _ (List.mem_cons_of_mem _ (List.mem_append_left _ ha)))) q
        obtain ⟨C1, c1, d1⟩ := b1 G' H' v1 _ C2 eG (fun a ha => kk a (List.mem_cons_of_mem _ (List.mem_cons_of_mem _ (List.mem_append_right _ ha)))) c2
        rw [putF_self e1] at c1
        refine ⟨p :: dx :: C1, ?_, ?_⟩
        · unfold OT.put
          rw [ek]
          exact .ins ((kk p List.mem_cons_self).trans h) ((kk dx (List.mem_cons_of_mem _ List.mem_cons_self)).trans h0) c1
        · refine (List.Perm.cons p (List.Perm.cons dx (d1.trans (List.Perm.append_right R1 d2)))).trans ?_
          rw [List.append_assoc]
          refine List.Perm.trans ?_ (List.perm_middle (l₁ := B) (a := p) (l₂ := dx :: (R2 ++ R1))).symm
          exact List.Perm.cons p (List.perm_middle (l₁ := B) (a := dx) (l₂ := R2 ++ R1)).symm
    · cases e
theorem Own.root {v : V} {t : OT} {A : List Addr} (h : Own K G H v t A) (n : t.node = true) : v = t.root := by
  cases h with
  | val _ => cases n
  | lst _ _ => rfl
  | tup _ _ => rfl
  | ins _ _ _ => rfl
  | dic _ _ => rfl
end

/-- the tree of a slot -/
def treeOf : Option Sl → Option OT
  | some (.loc t) => some t
  | some (.arg t) => some t
  | _ => none
def withTree (t : OT) : Option Sl → Sl
  | some (.arg _) => .arg t
  | _ => .loc t
def nodeRoot (s s' : OT) : Prop := s'.node = true ∧ s'.root = s.root
abbrev DP := List Sl → (Nat → List Stp → OT → List Sl → Prop) → Prop
/-- the value of a place -/
structure PlAt (K : PySem.W.Frag) (G H : Hp) (ρ : List Sl) (v : V) (i : Nat) (π : List Stp) (s : OT) : Prop where
  ex : ∃ t, treeOf (ρ[i]?) = some t ∧ t.get π = some s
  own : ∃ A, Own K G H v s A
def SimP (K : PySem.W.Frag) (t : TE) (d : DP) : Prop := ∀ {M : Addr → Prop} {Z G0 H0 G H : Hp} {σ : L2.St} {ρ : List Sl} {F : Nat → Addr → Prop} {Φ : Nat → List Stp → OT → List Sl → Prop} {Q : VK}, At K M Z G0 H0 G H σ ρ F → d ρ Φ →
  (∀ v i π s ρ' F' G' H', At K M Z G0 H0 G' H' σ ρ' F' → Same G G' → PlAt K G' H' ρ' v i π s → Φ i π s ρ' → Q v H') → t σ H Q
structure PP (X : Cx) (e : Expr) (t : TE) (d : DP) : Prop where
  pe : PE X e t
  sim : SimP X.K t d
section
variable {K : PySem.W.Frag} {M : Addr → Prop} {Z G0 H0 G H : Hp} {σ : L2.St} {ρ : List Sl} {F : Nat → Addr → Prop}
theorem tree_sl {o : Option Sl} {t : OT} (h : treeOf o = some t) : o = some (.loc t) ∨ o = some (.arg t) := by
  unfold treeOf at h
  split at h
  · cases h; exact .inl rfl
  · cases h; exact .inr rfl
  · cases h
/-- the tree of a slot, opened at a place -/
theorem At.tree {i : Nat} {t s : OT} {π : List Stp} (A : At K M Z G0 H0 G H σ ρ F) (h : treeOf (ρ[i]?) = some t) (hg : t.get π = some s) : σ[i]? = some (some t.root) ∧ t.node = true ∧ ∃ B v' A' R, Own K G H t.root t B ∧ B.Nodup ∧ (∀ a, F i a ↔ a ∈ B) ∧
    Own K G H v' s A' ∧ B.Perm (A' ++ R) ∧ ∀ (G' H' : Hp) (s' : OT) (C : List Addr), Same G G' → (∀ a ∈ R, H' a = H a) → Own K G' H' v' s' C → ∃ E, Own K G' H' t.root (t.put π s') E ∧ E.Perm (C ++ R) := by
  obtain ⟨h1, ⟨n, B, h2, h3, h4⟩, _⟩ := A.mut_at (tree_sl h)
  obtain ⟨v', A', R, o, p, b⟩ := h2.at h3 hg
  exact ⟨h1, n, B, v', A', R, h2, h3, h4, o, p, b⟩
end
def dpVar (i : Nat) : DP := fun ρ Φ => match treeOf (ρ[i]?) with
  | some t => Φ i [] t ρ
  | none => False
/-- a place's item -/
def dpIx (d : DP) (e : DE) : DP := fun ρ Φ => d ρ fun i π s ρ1 => e ρ1 fun x ρ2 => match treeOf (ρ2[i]?) with
  | some t => match t.get π, x with
    | some (.lst p xs), .int k => nodeRoot s (.lst p xs) ∧ 0 ≤ k ∧ match xs[k.toNat]? with
      | some y => Φ i (π ++ [.ix k.toNat]) y ρ2
      | none => False
    | some (.tup p xs), .int k => nodeRoot s (.tup p xs) ∧ 0 ≤ k ∧ match xs[k.toNat]? with
      | some y => Φ i (π ++ [.ix k.toNat]) y ρ2
      | none => False
    | _, _ => False
  | none => False
def dLeaf (d : DP) : DE := fun ρ Φ => d ρ fun _ _ s ρ1 => match s with
  | .val x => Φ x ρ1
  | _ => False
theorem get_app : ∀ {π : List Stp} {t s : OT} {k : Stp}, t.get π = some s → t.get (π ++ [k]) = s.get [k]
  | [], t, s, k, h => by cases h; rfl
  | .ix j :: π, .lst p xs, s, k, h => by
    unfold OT.get at h
    split at h
    · rename_i t e
      have q := get_app (k := k) h
      show (match xs[j]? with | some t => t.get (π ++ [k]) | none => none) = _
      rw [e]
      exact q
    · cases h
  | .ix j :: π, .tup p xs, s, k, h => by
    unfold OT.get at h
    split at h
    · rename_i t e
      have q := get_app (k := k) h
      show (match xs[j]? with | some t => t.get (π ++ [k]) | none => none) = _
      rw [e]
      exact q
    · cases h
  | .fd f :: π, .ins p dx C fs, s, k, h => by
    unfold OT.get at h
    split at h
    · rename_i t e
      have q := get_app (k := k) h
      show (match fs.lookup f with | some t => t.get (π ++ [k]) | none => none) = _
      rw [e]
      exact q
    · cases h
  | .ix _ :: _, .val _, _, _, h => by cases h
  | .fd _ :: _, .val _, _, _, h => by cases h
  | .fd _ :: _, .lst _ _, _, _, h => by cases h
  | .fd _ :: _, .tup _ _, _, _, h => by cases h
  | .ix _ :: _, .ins _ _ _ _, _, _, h => by cases h
  | .ix _ :: _, .dic _ _, _, _, h => by cases h
  | .fd _ :: _, .dic _ _, _, _, h => by cases h
theorem OwnL.len {K : PySem.W.Frag} {G H : Hp} : ∀ {vs : List V} {ts : List OT} {A : List Addr}, OwnL K G H vs ts A → vs.length = ts.length
  | _, _, _, .nil => rfl
  | _, _, _, .cons _ r => by rw [List.length_cons, List.length_cons, OwnL.len r]
theorem OwnL.get {K : PySem.W.Frag} {G H : Hp} {vs : List V} {ts : List OT} {A : List Addr} {k : Nat} {t : OT} (h : OwnL K G H vs ts A) (e : ts[k]? = some t) : ∃ v A', vs[k]? = some v ∧ Own K G H v t A' := by
  obtain ⟨v, A', _, h1, h2, _⟩ := h.at e
  exact ⟨v, A', h1, h2⟩
section
variable {K : PySem.W.Frag}
theorem sim_pvar {i : Nat} : SimP K (tVar i) (dpVar i) := by
  intro M Z G0 H0 G H σ ρ F Φ Q A hd k
  unfold dpVar at hd
  split at hd
  · rename_i t e
    obtain ⟨h1, n, B, v', A', R, o, _⟩ := A.tree (π := []) e rfl
    exact ⟨t.root, h1, k _ i [] t ρ F G H A (Same.refl G) ⟨⟨t, e, rfl⟩, ⟨B, o⟩⟩ hd⟩
  · exact hd.elim
theorem sim_leaf {t : TE} {d : DP} (h : SimP K t d) : SimE K t (dLeaf d) := fun {M Z G0 H0 G H σ ρ F Φ Q} A hd k => h A hd fun v i π s ρ1 F1 G1 H1 A1 e1 p1 q1 => by
  split at q1
  · rename_i x
    obtain ⟨_, o⟩ := p1.own
    cases o with
    | val r => exact k v x ρ1 F1 G1 H1 A1 e1 r q1
  · exact q1.elim
theorem sim_pix {ta tb : TE} {d : DP} {e : DE} (h : SimP K ta d) (g : SimE K tb e) : SimP K (tOp (rIxA K) ta tb) (dpIx d e) := by
  intro M Z G0 H0 G H σ ρ F Φ Q A hd k
  refine h A hd fun v i π s ρ1 F1 G1 H1 A1 e1 p1 q1 => g A1 q1 fun w x ρ2 F2 G2 H2 A2 e2 r2 q2 => ?_
  split at q2
  · rename_i t et
    split at q2
    · rename_i p xs kk eg
      obtain ⟨⟨_, hr⟩, h0, q2⟩ := q2
      split at q2
      · rename_i y ey
        obtain ⟨h1, n, B, v', A', R, o, nd, hF, o2, pm, b⟩ := A2.tree et eg
        cases r2
        have hv : v = .ref p := by
          obtain ⟨A1', o1⟩ := p1.own
          have n1 : s.node = true := by
            cases s with
            | val _ => cases hr
            | _ => rfl
          rw [o1.root n1, ← hr]
          rfl
        cases o2 with
        | lst hp ol =>
          obtain ⟨u, A3, e3, o3⟩ := ol.get ey
          have hk : (kk.toNat : Int) = kk := Int.toNat_of_nonneg h0
          refine .inl (.inl ⟨p, _, kk, u, hv, rfl, SqL.of hp, by rw [← hk]; exact atI_nat e3, ?_⟩)
          refine k u i (π ++ [.ix kk.toNat]) y ρ2 F2 G2 H2 A2 (e1.trans e2) ⟨⟨t, et, ?_⟩, ⟨A3, o3⟩⟩ q2
          rw [get_app eg]
          show (match xs[kk.toNat]? with | some t => t.get [] | none => none) = _
          rw [ey]
          rfl
      · exact q2.elim
    · rename_i p xs kk eg
      obtain ⟨⟨_, hr⟩, h0, q2⟩ := q2
      split at q2
      · rename_i y ey
        obtain ⟨h1, n, B, v', A', R, o, nd, hF, o2, pm, b⟩ := A2.tree et eg
        cases r2
        have hv : v = .ref p := by
          obtain ⟨A1', o1⟩ := p1.own
          have n1 : s.node = true := by
            cases s with
            | val _ => cases hr
            | _ => rfl
          rw [o1.root n1, ← hr]
          rfl
        cases o2 with
        | tup hp ol =>
          obtain ⟨u, A3, e3, o3⟩ := ol.get ey
          have hk : (kk.toNat : Int) = kk := Int.toNat_of_nonneg h0
          refine .inl (.inr (.inl ⟨p, _, kk, u, hv, rfl, SqT.of (A2.gh _ _ hp), by rw [← hk]; exact atI_nat e3, ?_⟩))
          refine k u i (π ++ [.ix kk.toNat]) y ρ2 F2 G2 H2 A2 (e1.trans e2) ⟨⟨t, et, ?_⟩, ⟨A3, o3⟩⟩ q2
          rw [get_app eg]
          show (match xs[kk.toNat]? with | some t => t.get [] | none => none) = _
          rw [ey]
          rfl
      · exact q2.elim
    · exact q2.elim
  · exact q2.elim
end
end DL
set_option Elab.async false
set_option linter.all false
set_option maxRecDepth 100000
set_option maxHeartbeats 2000000
namespace DL
open PySem PySem.Spec PyProof.Rows L2
variable [Tabl]

section
variable {K : PySem.W.Frag} {M : Addr → Prop} {Z G0 H0 G H : Hp} {σ : L2.St} {ρ : List Sl} {F : Nat → Addr → Prop}
theorem put_node : ∀ {π : List Stp} {t s' : OT}, t.node = true → s'.node = true ∨ π ≠ [] → (t.put π s').node = true
  | [], _, _, _, h => h.elim id fun z => absurd rfl z
  | .ix k :: π, .lst p xs, s', _, _ => by
    unfold OT.put
    split <;> rfl
  | .ix k :: π, .tup p xs, s', _, _ => by
    unfold OT.put
    split <;> rfl
  | .fd f :: π, .ins p dx C fs, s', _, _ => by
    unfold OT.put
    split <;> rfl
  | .fd _ :: _, .lst _ _, _, _, _ => rfl
  | .fd _ :: _, .tup _ _, _, _, _ => rfl
  | .ix _ :: _, .ins _ _ _ _, _, _, _ => rfl
  | .ix _ :: _, .dic _ _, _, _, _ => rfl
  | .fd _ :: _, .dic _ _, _, _, _ => rfl
theorem put_root : ∀ {π : List Stp} {t s s' : OT}, t.get π = some s → (π = [] → s'.root = s.root) → (t.put π s').root = t.root
  | [], t, s, s', h, e => by
    cases h
    exact e rfl
  | .ix k :: π, .lst p xs, s, s', h, _ => by
    unfold OT.put
    split <;> rfl
  | .ix k :: π, .tup p xs, s, s', h, _ => by
    unfold OT.put
    split <;> rfl
  | .fd f :: π, .ins p dx C fs, s, s', h, _ => by
    unfold OT.put
    split <;> rfl
  | .ix _ :: _, .val _, _, _, h, _ => by cases h
  | .fd _ :: _, .val _, _, _, h, _ => by cases h
  | .fd _ :: _, .lst _ _, _, _, h, _ => by cases h
  | .fd _ :: _, .tup _ _, _, _, h, _ => by cases h
  | .ix _ :: _, .ins _ _ _ _, _, _, h, _ => by cases h
  | .ix _ :: _, .dic _ _, _, _, h, _ => by cases h
  | .fd _ :: _, .dic _ _, _, _, h, _ => by cases h
/-- another part is put at a place -/
theorem At.put {i : Nat} {t s' : OT} {π : List Stp} {B A' R C : List Addr} {v' : V} {G' H' : Hp} (A : At K M Z G0 H0 G H σ ρ F) (h : treeOf (ρ[i]?) = some t) (hv : σ[i]? = some (some t.root)) (nd : B.Nodup) (hF : ∀ a, F i a ↔ a ∈ B) (pm : B.Perm (A' ++ R))
    (b : ∀ (G' H' : Hp) (s' : OT) (C : List Addr), Same G G' → (∀ a ∈ R, H' a = H a) → Own K G' H' v' s' C → ∃ E, Own K G' H' t.root (t.put π s') E ∧ E.Perm (C ++ R))
    (eG : Same G G') (eGH : Same G' H') (old : ∀ a, H a ≠ none → G' a = G a) (hn : ∀ a, H a ≠ none → H' a ≠ none) (eH : ∀ a o, H a = some o → a ∉ A' → H' a = some o) (o : Own K G' H' v' s' C) (ndC : C.Nodup)
    (hC : ∀ a ∈ C, G' a = none ∧ H' a ≠ none ∧ (a ∈ A' ∨ H a = none ∨ (H0 a = none ∧ Z a = none ∧ ∀ j, ¬ F j a))) (node : (t.put π s').node = true) :
    ∃ F', At K M Z G0 H0 G' H' σ (ρ.set i (withTree (t.put π s') (ρ[i]?))) F' := by
  have hi : i < ρ.length := by
    rcases tree_sl h with e | e <;> exact (List.getElem?_eq_some_iff.mp e).1
  have ndB := (pm.nodup_iff).mp nd
  have hd := List.nodup_append.mp ndB
  have inF : ∀ a, a ∈ A' ∨ a ∈ R → F i a := fun a z => (hF a).mpr (pm.mem_iff.mpr (List.mem_append.mpr z))
  obtain ⟨E, oE, pE⟩ := b G' H' s' C eG (fun a ha => by
    have fa := inF a (.inr ha)
    obtain ⟨_, h2, _⟩ := A.fp i a fa
    cases q : H a with
    | none => exact absurd q h2
    | some u => exact eH a u q fun z => hd.2.2 a z a ha rfl) o
  have ndE : E.Nodup := by
    rw [pE.nodup_iff, List.nodup_append]
    refine ⟨ndC, hd.2.1, fun a ha c hc e => ?_⟩
    subst e
    have fa := inF a (.inr hc)
    rcases (hC a ha).2.2 with z | z | z
    · exact hd.2.2 a z a hc rfl
    · exact (A.fp i a fa).2.1 z
    · exact z.2.2 i fa
  have ok : (t.put π s').ok K G' H' t.root (fun a => a ∈ E) := ⟨node, E, oE, ndE, fun _ => Iff.rfl⟩
  refine ⟨_, A.chg (i := i) (x := withTree (t.put π s') (ρ[i]?)) (Fn := fun a => a ∈ E) hi eG eGH old hn (fun a u q nf => eH a u q fun z => nf (inF a (.inl z))) ?_ ?_ (fun a ha => ?_)⟩
  · rw [hv]
    rcases tree_sl h with e | e
    · rw [e]
      exact ⟨t.root, rfl, ok⟩
    · rw [e]
      exact ⟨t.root, rfl, ok⟩
  · intro z
    rcases tree_sl h with e | e
    · rw [e] at z
      exact z.elim
    · rw [e]
      trivial
  · rcases List.mem_append.mp (pE.mem_iff.mp ha) with z | z
    · obtain ⟨h1, h2, h3⟩ := hC a z
      refine ⟨h1, h2, ?_⟩
      rcases h3 with h3 | h3
      · exact .inl (inF a (.inl h3))
      · exact .inr h3
    · have fa := inF a (.inr z)
      obtain ⟨g1, g2, _⟩ := A.fp i a fa
      exact ⟨(old a g2).trans g1, hn a g2, .inl fa⟩
end
/-- place.append(e) -/
def dPApp (d : DP) (e : DE) : DR := fun ρ Φ => d ρ fun i π s ρ1 => (match s with
  | .lst _ _ => True
  | _ => False) ∧ e ρ1 fun x ρ2 => match treeOf (ρ2[i]?) with
  | some t => match t.get π with
    | some (.lst p xs) => s.root = .ref p ∧ xs.length ≤ 1000000 ∧ Φ (.val .non) (ρ2.set i (withTree (t.put π (.lst p (xs ++ [.val x]))) (ρ2[i]?)))
    | _ => False
  | none => False
/-- place[k] = v -/
def dPSet (d : DP) (k v : DE) : DS := fun Δ ρ => v ρ fun y ρ0 => d ρ0 fun i π s ρ1 => k ρ1 fun x ρ2 => match treeOf (ρ2[i]?), x with
  | some t, .int j => match t.get π with
    | some (.lst p xs) => s.node = true ∧ s.root = .ref p ∧ 0 ≤ j ∧ j < xs.length ∧ Δ.nx (ρ2.set i (withTree (t.put π (.lst p (xs.set j.toNat (.val y)))) (ρ2[i]?)))
    | _ => False
  | _, _ => False
def dPLen (d : DP) : DE := fun ρ Φ => d ρ fun _ _ s ρ1 => match s with
  | .lst _ xs => Φ (.int xs.length) ρ1
  | _ => False
theorem OwnL.snocv {K : PySem.W.Frag} {G H : Hp} {v : V} {d : D} (r : Rp K G v d) : ∀ {vs : List V} {ts : List OT} {A : List Addr}, OwnL K G H vs ts A → OwnL K G H (vs ++ [v]) (ts ++ [.val d]) A
  | _, _, _, .nil => by
    have := OwnL.cons (Own.val r) (OwnL.nil (K := K) (G := G) (H := H))
    simpa using this
  | _, _, _, .cons (A := A) (B := B) h t => .cons h (OwnL.snocv r t)
theorem OwnL.setv {K : PySem.W.Frag} {G H : Hp} {v : V} {d : D} (r : Rp K G v d) : ∀ {vs : List V} {ts : List OT} {A : List Addr} (k : Nat), OwnL K G H vs ts A → ∃ A', OwnL K G H (vs.set k v) (ts.set k (.val d)) A' ∧ A'.Sublist A
  | _, _, _, _, .nil => ⟨[], .nil, List.Sublist.refl _⟩
  | _, _, _, 0, .cons (A := A) (B := B) h t => ⟨[] ++ B, .cons (.val r) t, by simp⟩
  | _, _, _, k + 1, .cons (A := A) (B := B) h t => by
    obtain ⟨B', h1, h2⟩ := OwnL.setv r k t
    exact ⟨A ++ B', .cons h h1, List.Sublist.append (List.Sublist.refl A) h2⟩
section
variable {K : PySem.W.Frag}
theorem sim_plen {t : TE} {d : DP} (h : SimP K t d) : SimR K (tCB (fun xs H Q => ∃ x n, xs = [x] ∧ LenV K x H n ∧ Q (.int n) H) (tCons t tNil)) (dR (dPLen d)) := fun {M Z G0 H0 G H σ ρ F Φ Q} A hd k => h A hd fun v i π s ρ1 F1 G1 H1 A1 e1 p1 q1 => by
  split at q1
  · rename_i p xs
    obtain ⟨B, o⟩ := p1.own
    cases o with
    | lst hp ol =>
      refine ⟨_, _, rfl, .inl ⟨_, SqL.of hp, rfl⟩, ?_⟩
      rw [ol.len]
      exact k _ _ _ ρ1 F1 G1 H1 A1 e1 (.val (.int _)) q1
  · exact q1.elim
theorem sim_papp {tp te : TE} {d : DP} {e : DE} (h : SimP K tp d) (g : SimE K te e) : SimR K (tBM K "list" rAppend tp (tCons te tNil)) (dPApp d e) := by
  intro M Z G0 H0 G H σ ρ F Φ Q A hd k
  refine h A hd fun v i π s ρ1 F1 G1 H1 A1 e1 p1 ⟨qs, q1⟩ => ?_
  have hv : v = s.root ∧ ∃ p vs, v = .ref p ∧ H1 p = some (.lst vs) := by
    obtain ⟨B, o⟩ := p1.own
    cases s with
    | lst p xs =>
      cases o with
      | lst hp ol => exact ⟨rfl, p, _, rfl, hp⟩
    | _ => exact qs.elim
  obtain ⟨hv, p0, vs0, hv0, hp0⟩ := hv
  refine ⟨?_, g A1 q1 fun w x ρ2 F2 G2 H2 A2 e2 r2 q2 => ?_⟩
  · rw [hv0]
    exact .inl ⟨rfl, _, SqL.of hp0⟩
  split at q2
  · rename_i t et
    split at q2
    · rename_i p xs eg
      obtain ⟨hr, hz, q2⟩ := q2
      obtain ⟨h1, n, B, v', A', R, o, nd, hF, o2, pm, b⟩ := A2.tree et eg
      rw [hr] at hv
      cases o2 with
      | lst hp ol =>
        rename_i vs' A''
        have hzl : vs'.length ≤ 1000000 := by rw [ol.len]; exact hz
        refine ⟨p, vs', w, hv, rfl, hp, line_lt hzl, ?_⟩
        have ndA : (p :: A'').Nodup := (List.nodup_append.mp ((pm.nodup_iff).mp nd)).1
        have hpA : p ∉ A'' := (List.nodup_cons.mp ndA).1
        have inB : ∀ a ∈ p :: A'', F2 i a := fun a ha => (hF a).mpr (pm.mem_iff.mpr (List.mem_append_left _ ha))
        have gp : G2 p = none := (A2.fp i p (inB p List.mem_cons_self)).1
        have onew : Own K G2 (upd H2 p (.lst (vs' ++ [w]))) (.ref p) (.lst p (xs ++ [.val x])) (p :: A'') := .lst upd_same ((ol.st (Same.refl G2) fun a ha => upd_ne fun z => hpA (by rw [← z]; exact ha)).snocv r2)
        obtain ⟨F3, A3⟩ := A2.put et h1 nd hF pm b (Same.refl G2) (fun a u q => by rw [upd_ne (ne_of_none q gp)]; exact A2.gh a u q) (fun _ _ => rfl) (fun a ha => by
            by_cases z : a = p
            · rw [z, upd_same]; exact Option.some_ne_none _
            · rw [upd_ne z]; exact ha)
          (fun a u q na => by rw [upd_ne fun z => na (by rw [z]; exact List.mem_cons_self)]; exact q) onew ndA (fun a ha => by
            obtain ⟨g1, g2, _⟩ := A2.fp i a (inB a ha)
            refine ⟨g1, ?_, .inl ha⟩
            by_cases z : a = p
            · rw [z, upd_same]; exact Option.some_ne_none _
            · rw [upd_ne z]; exact g2) (put_node n (.inl rfl))
        exact k _ (.val .non) _ _ F3 G2 _ A3 (e1.trans e2) (.val .non) q2
    · exact q2.elim
  · exact q2.elim
theorem sim_pset {tv tp tk : TE} {d : DP} {ek ev : DE} (hv : SimE K tv ev) (h : SimP K tp d) (g : SimE K tk ek) : SimS K (tAsg tv (gSub tp tk rSetL)) (dPSet d ek ev) := by
  intro M Z G0 H0 G H σ ρ F Δ Q A hd k1 k2 k3 k4
  refine hv A hd fun w y ρ0 F0 G1 H1 A0 e0 r0 q0 => h A0 q0 fun v i π s ρ1 F1 G1 H1 A1 e1 p1 q1 => g A1 q1 fun u x ρ2 F2 G2 H2 A2 e2 r2 q2 => ?_
  split at q2
  · rename_i t j et
    split at q2
    · rename_i p xs eg
      obtain ⟨hn, hr, hj, hl, q2⟩ := q2
      obtain ⟨h1, n, B, v', A', R, o, nd, hF, o2, pm, b⟩ := A2.tree et eg
      cases r2
      have hvr : v = .ref p := by
        obtain ⟨A1', o1⟩ := p1.own
        rw [o1.root hn, hr]
      cases o2 with
      | lst hp ol =>
        rename_i vs' A''
        have hlen := ol.len
        have hix : ixN vs'.length j = some j.toNat := by
          unfold ixN
          rw [if_pos hj, if_pos (by omega)]
        refine ⟨p, vs', j, j.toNat, hvr, rfl, hp, hix, ?_⟩
        have ndA : (p :: A'').Nodup := (List.nodup_append.mp ((pm.nodup_iff).mp nd)).1
        have hpA : p ∉ A'' := (List.nodup_cons.mp ndA).1
        have inB : ∀ a ∈ p :: A'', F2 i a := fun a ha => (hF a).mpr (pm.mem_iff.mpr (List.mem_append_left _ ha))
        have gp : G2 p = none := (A2.fp i p (inB p List.mem_cons_self)).1
        have ol' := ol.st (G' := G2) (H' := upd H2 p (.lst (vs'.set j.toNat w))) (Same.refl G2) fun a ha => upd_ne fun z => hpA (by rw [← z]; exact ha)
        obtain ⟨A3, ol3, sub⟩ := ol'.setv (r0.mono (e1.trans e2)) j.toNat
        have onew : Own K G2 (upd H2 p (.lst (vs'.set j.toNat w))) (.ref p) (.lst p (xs.set j.toNat (.val y))) (p :: A3) := .lst upd_same ol3
        have ndC : (p :: A3).Nodup := List.nodup_cons.mpr ⟨fun z => hpA (sub.mem z), (List.nodup_cons.mp ndA).2.sublist sub⟩
        have subA : ∀ a ∈ p :: A3, a ∈ p :: A'' := fun a ha => by
          rcases List.mem_cons.mp ha with z | z
          · rw [z]; exact List.mem_cons_self
          · exact List.mem_cons_of_mem _ (sub.mem z)
        obtain ⟨F3, B3⟩ := A2.put et h1 nd hF pm b (Same.refl G2) (fun a u q => by rw [upd_ne (ne_of_none q gp)]; exact A2.gh a u q) (fun _ _ => rfl) (fun a ha => by
            by_cases z : a = p
            · rw [z, upd_same]; exact Option.some_ne_none _
            · rw [upd_ne z]; exact ha)
          (fun a u q na => by rw [upd_ne fun z => na (by rw [z]; exact List.mem_cons_self)]; exact q) onew ndC (fun a ha => by
            obtain ⟨g1, g2, _⟩ := A2.fp i a (inB a (subA a ha))
            refine ⟨g1, ?_, .inl (subA a ha)⟩
            by_cases z : a = p
            · rw [z, upd_same]; exact Option.some_ne_none _
            · rw [upd_ne z]; exact g2) (put_node n (.inl rfl))
        exact k1 _ _ F3 G2 _ B3 (e0.trans (e1.trans e2)) q2
    · exact q2.elim
  · exact q2.elim
end
section
variable {X : Cx} {o e ei : Expr} {tp te ti : TE} {d : DP} {de di : DE} {apos cpos pos pos' p : Pos} {x : Str}
theorem pp_var (i : Nat) (hN : X.N[i]? = some x := by rfl) (hv : Vis X.env.scope x := by first | exact Or.inl rfl | exact Or.inr (Or.inl rfl) | exact Or.inr (Or.inr rfl)) (hd : (x == ("__debug__" : Str)) = false := by decide)
    (hcd : (x == ("__classdict__" : Str)) = false := by decide) : PP X (.Name x pos) (tVar i) (dpVar i) := ⟨pe_var hN hv hd hcd, sim_pvar⟩
theorem pp_ix (hu : X.A.units + 1 < cLine) (h : PP X o tp d) (he : PD X e te de) (hs : PlainIx e) : PP X (.Subscript o e pos) (tOp (rIxA X.K) tp te) (dpIx d de) := ⟨pe_ix (ix_all hu) h.pe he.pe hs, sim_pix h.sim he.sim⟩
theorem PP.leaf (h : PP X e tp d) : PD X e tp (dLeaf d) := ⟨h.pe, sim_leaf h.sim⟩
theorem pr_papp (h : PP X o tp d) (he : PD X e te de) (hbase : attributeBase o "append" X.env (eval o X.env) = eval o X.env := by rfl)
    (hfew : ((backTo cpos (starEach (e :: []) X.env)).all (fun x => !x.1) && (backToKw cpos (keywordEach [] X.env)).all (fun x => x.1.isSome)
      && decide ((e :: []).length + ([] : List Keyword).length + (if ([] : List Keyword).isEmpty then 0 else 1) < 30)) = true := by rfl)
    (hline : (apos.endLine == cpos.line) = true := by rfl) (hs : starEach (e :: []) X.env = (false, eval e X.env) :: starEach [] X.env := by rfl) (hplain : (backTo cpos (starEach [] X.env)).any (·.1) = false := by rfl) :
    PR X (.Call (.Attribute o "append" apos) [e] [] cpos) (tBM X.K "list" rAppend tp (tCons te tNil)) (dPApp d de) :=
  ⟨pe_bm PySem.F.plainAttrs_list PySem.F.slot_list_append PySem.F.type_list_append mt_append h.pe (pa_cons he.pe pa_nil hs) hbase hfew hline hs hplain, sim_papp h.sim he.sim⟩
theorem pd_plen (h : PP X o tp d) (hm : X.mg "len" = none) (hg : Gl X "len" := by rfl) (hs : starEach (o :: []) X.env = (false, eval o X.env) :: starEach [] X.env := by rfl) (hpl : (backTo pos (starEach [] X.env)).any (·.1) = false := by rfl) :
    PR X (.Call (.Name "len" cpos) [o] [] pos) (tCB (fun xs H Q => ∃ x n, xs = [x] ∧ LenV X.K x H n ∧ Q (.int n) H) (tCons tp tNil)) (dR (dPLen d)) := ⟨pe_callB call_len hg hm PySem.boot_len (pa_cons h.pe pa_nil hs) (by decide) (by decide) hs hpl, sim_plen h.sim⟩
theorem pd_pset (hv : PD X e te de) (h : PP X o tp d) (hi : PD X ei ti di) (hs : swapsWithSole [.Subscript o ei pos'] e pos.line X.env = pure false := by rfl) (hw : swappedStores [.Subscript o ei pos'] e X.env = pure none := by rfl)
    (h1 : (assignEach [.Subscript o ei pos'] X.env).map (·.2) = [assign (.Subscript o ei pos') X.env] := by rfl)
    (ha : ∀ v, assign (.Subscript o ei pos') X.env v = (do
      let ov ← holding [v] (eval o X.env)
      let iv ← holding [v, ov] (eval ei X.env)
      standAt pos'
      holding [v, ov, iv] (setItem ov iv v)
      release [v, ov, iv] []) := by intro _; rfl) : PDS X (.Assign [.Subscript o ei pos'] e pos) (tAsg te (gSub tp ti rSetL)) (dPSet d di de) :=
  ⟨ps_asg hv.pe (pg_sub h.pe hi.pe set_list ha) hs hw h1, sim_pset hv.sim h.sim hi.sim⟩
end
end DL
set_option Elab.async false
set_option linter.all false
set_option maxRecDepth 100000
set_option maxHeartbeats 2000000
namespace DL
open PySem PySem.Spec PyProof.Rows L2 RT
variable [Tabl]

section
variable {prog : Program} {w : World} {A : Around} {E : Value → Shared → Prop} {s : Shared}
theorem list_init_rev {R : Result → Shared → Prop} {it l : Addr} {items : Array Value} (hh : A.handled = none) (hit : s.heap.IsRevIter it l ((items.size : Int) - 1)) (hl : s.heap.IsList l items) (hne : l ≠ it) (hn : items.size ≤ sizeLine) (S : Addr) (hS : s.heap.get? S = some { cls := .type "list", data := .seq #[] }) (hSi : S ≠ it) (hSl : S ≠ l)
    (hR : ∀ h' tk acc' c', (∀ b o, b ≠ S → b ≠ it → s.heap.get? b = some o → h'.get? b = some o) → h'.get? S = some { cls := .type "list", dict := none, data := .seq acc' c', slots := #[] } →
      ItemsOf (fun i v => items[items.size - 1 - i]? = some v) acc' items.size → R (.ok (.ret .none)) { s with heap := h', toks := tk }) :
    wpAny (model prog w) A.in1 (Builtin.«list.__init__» ⟨[.ref S, .ref it], []⟩)
      (fun fin s' => match fin with | .done f => R (.ok f) s' | .again c' => c'.quiet = true ∧ codeAny (model prog w) A c' R s') (fun e s' => R (.error e) s') s := by
  show wpAny _ _ (do let old ← Builtin.List.listItems (.ref S); Builtin.List.listUpdate (.ref S) (fun _ => #[]); letGo old.toList.reverse; Builtin.List.listExtendWith (.ref S) (.ref it) .none) _ _ s
  refine wpAny_bind ?_
  unfold Builtin.List.listItems
  refine wpAny_bind (wpAny_seqItems hS rfl (wpAny_pure ?_))
  show wpAny _ _ (updateSeq S (fun _ => #[]) >>= fun _ => letGo (#[] : Array Value).toList.reverse >>= fun _ => Builtin.List.listExtendWith (.ref S) (.ref it) .none) _ _ s
  refine wpAny_bind (wpAny_updateSeq hS rfl ?_)
  have hS₂ := Heap.get?_update_self (Obj.mapSeq (fun _ => (#[] : Array Value))) hS rfl
  have oth : ∀ b o, b ≠ S → s.heap.get? b = some o → (s.heap.update S (Obj.mapSeq (fun _ => (#[] : Array Value)))).get? b = some o :=
    fun b o hb e => (Heap.get?_update_other _ _ (Ne.symm hb)).trans e
  refine wpAny_bind (wpAny_letGo ?_)
  have W := (Walks.listRev (prog := prog) (w := w) (A := A.in1) hh it l hne items).toS
  have hSf : S ∉ [it, l] := by simp only [List.mem_cons, List.not_mem_nil, or_false, not_or]; exact ⟨hSi, hSl⟩
  have hit1 : (s.heap.update S (Obj.mapSeq (fun _ => (#[] : Array Value)))).IsRevIter it l ((items.size : Int) - 1) := hit.at fun o e => oth it o (Ne.symm hSi) e
  have hl1 : (s.heap.update S (Obj.mapSeq (fun _ => (#[] : Array Value)))).IsList l items := by
    obtain ⟨o, ho, r⟩ := hl
    exact ⟨o, oth l o (Ne.symm hSl) ho, r⟩
  have hT : ({ s with heap := s.heap.update S (Obj.mapSeq (fun _ => (#[] : Array Value))) } : Shared).TypeIs (.ref it) "list_reverseiterator" := Heap.IsRevIter.typeIs (s := { s with heap := s.heap.update S (Obj.mapSeq (fun _ => (#[] : Array Value))) }) hit1
  have h1 : Builtin.List.listSameRef (.ref S) (.ref it) = false := by simp [Builtin.List.listSameRef, hSi]
  show wpAny _ A.in1 (Builtin.List.listExtendWith (.ref S) (.ref it) .none) _ _ _
  unfold Builtin.List.listExtendWith
  refine wpAny_bind (wpAny_typeOf hT ?_)
  rw [if_neg (by rw [h1]; decide)]
  refine wpAny_bind (wpAny_pyIter_revIter (s := { s with heap := s.heap.update S (Obj.mapSeq (fun _ => (#[] : Array Value))) }) hit1 ?_)
  refine wpAny_bind (wpAny_holding ?_)
  unfold Builtin.List.listLengthHint
  refine wpAny_bind (wpAny_specialOf hT nolen_lri ?_)
  show wpAny _ A.in1 (specialOf (Value.ref it) (Str.ofString "__length_hint__") >>= _) _ _ _
  refine wpAny_bind (wpAny_specialOf hT hint_lri ?_)
  generalize hid : ("list_reverseiterator.__length_hint__" : String) = id0
  wp_delta
  rw [show splitId id0 = some ("list_reverseiterator", "__length_hint__") from by subst hid; decide +kernel]
  subst hid
  refine wpAny_bind (wpAny_isInstance (b := true) hT (by rw [isSubtype_type]; kernel_rfl) ?_)
  refine wpAny_pure ?_
  rw [if_neg (by decide)]
  have e0 : ((items.size : Nat) : Int) - 1 - ((0 : Nat) : Int) = (items.size : Int) - 1 := by omega
  refine wpAny_pure ⟨plainId_quiet F.plain_extend_loop _, codeAny_extend_loopS W hn _ hSf _ items.size 0 _ _ _ rfl (Nat.zero_le _) ⟨Nat.zero_le _, by rw [e0]; exact hit1, hl1⟩ hS₂ (ItemsOf.nil _) fun s' acc' c' hm hS' hacc => ?_⟩
  rw [Moved.eq_with hm]
  refine hR s'.heap s'.toks acc' c' (fun b o hb hb2 e => hm.heap b o (fun hmem => ?_) (oth b o hb e)) hS' hacc
  rcases List.mem_cons.mp hmem with e' | hmem
  · exact hb e'
  · exact hb2 (List.mem_singleton.mp hmem)
theorem call_list_rev {it l : Addr} {items : Array Value} {Q : Value → Shared → Prop} (hh : A.handled = none) (hit : s.heap.IsRevIter it l ((items.size : Int) - 1)) (hl : s.heap.IsList l items) (hne : l ≠ it) (hn : items.size ≤ sizeLine)
    (hQ : ∀ h' tk acc' c', (∀ b o, b ≠ it → s.heap.get? b = some o → h'.get? b = some o) →
      h'.get? s.heap.objs.size = some { cls := .type "list", dict := none, data := .seq acc' c', slots := #[] } → ItemsOf (fun i v => items[items.size - 1 - i]? = some v) acc' items.size → Q (.ref s.heap.objs.size) { s with heap := h', toks := tk }) :
    wpAny (model prog w) A (call (.type "list") [.ref it]) Q E s := by
  refine callType_codes (Q₁ := fun obj s₁ => obj = .ref s.heap.objs.size ∧ s₁ = { s with heap := s.heap.push { cls := .type "list", data := .seq #[] } }) F.called_list (F.typeCall_list_1 _) F.entry_list_init
    (code_list_new _ ⟨rfl, rfl⟩) fun obj s₁ h₁ => ?_
  obtain ⟨rfl, rfl⟩ := h₁
  have hS : (s.heap.push { cls := .type "list", data := .seq #[] }).get? s.heap.objs.size = some { cls := .type "list", data := .seq #[] } := Heap.get?_push_size _ rfl
  obtain ⟨oi, hoi, _⟩ := id hit
  obtain ⟨ol, hol, _⟩ := id hl
  refine ⟨⟨_, hS, rfl⟩, F.args_list_init_2 _ _, list_init_rev (s := { s with heap := s.heap.push { cls := .type "list", data := .seq #[] } }) (A := A.in1) hh (hit.at fun o e => Heap.get?_push_of_some _ e) (hl.push _) hne hn _ hS (Nat.ne_of_gt (Heap.lt_size hoi)) (Nat.ne_of_gt (Heap.lt_size hol)) fun h' tk acc' c' hk hS' hacc => ?_⟩
  exact ⟨rfl, hQ h' tk acc' c' (fun b o hb e => hk b o (Nat.ne_of_lt (Heap.lt_size e)) hb (Heap.get?_push_of_some _ e)) hS' hacc⟩
end
section
variable {X : Cx}
/-- list(reversed(x)), x a list -/
def tLstRev (K : PySem.W.Frag) (te : TE) : TE := fun σ H Q => te σ H fun v H1 => ∃ (a : Addr) (xs : List V), v = .ref a ∧ SqL K H1 a xs ∧ ∀ q, H1 q = none → Q (.ref q) (upd H1 q (.lst xs.reverse))
theorem pe_lstRev {e : Expr} {te : TE} {p p2 pos pos2 : Pos} (hc : X.calm = true) (hg : Gl X "list") (hm : X.mg "list" = none) (hg2 : Gl X "reversed") (hm2 : X.mg "reversed" = none) (he : PE X e te)
    (hs : starEach [e] X.env = (false, eval e X.env) :: starEach [] X.env := by rfl)
    (hs2 : starEach [.Call (.Name "reversed" p2) [e] [] pos2] X.env = (false, eval (.Call (.Name "reversed" p2) [e] [] pos2) X.env) :: starEach [] X.env := by rfl) :
    PE X (.Call (.Name "list" p) [.Call (.Name "reversed" p2) [e] [] pos2] [] pos) (tLstRev X.K te) := by
  refine ⟨fun pins s σ H Q I h => ?_⟩
  refine Call_ (ld_blt I hg hm boot_list (PyProof.Rows.callWith_type1 (args_cons (Call_ (ld_blt I hg2 hm2 PyProof.Rows.boot_reversed (PyProof.Rows.callWith_type1 (args_cons (thn (he.run pins s σ H _ I h) fun u s1 ⟨v, H1, I1, r1, q1⟩ => args_nil ?_) hs) hs rfl))) hs2) hs2 rfl))
  obtain ⟨a, xs, ev, hq, q⟩ := q1
  subst ev
  obtain rfl : u = Value.ref a := r1
  obtain ⟨its, rv, p', hz⟩ := I1.list hq
  refine call_reversed_list p'.isList (args_nil ?_)
  have k0 : ∀ b o, s1.heap.get? b = some o → (s1.heap.push (revObj a ((its.toArray.size : Int) - 1))).get? b = some o := fun b o e => Heap.get?_push_of_some _ e
  have I2 : Inv X pins σ H1 { s1 with heap := s1.heap.push (revObj a ((its.toArray.size : Int) - 1)) } := I1.kept (t' := s1.toks) k0
  obtain ⟨f0, f1, f2, f3, f4, f5⟩ := I1.fpOk (H' := H1) (b := s1.heap.objs.size) (Nat.le_refl _) (I1.hok.fresh (Nat.le_refl _))
  have hl := p'.isList
  obtain ⟨ol, hol, _⟩ := id hl
  have hne : a ≠ s1.heap.objs.size := Nat.ne_of_lt (Heap.lt_size hol)
  have hn : its.toArray.size ≤ sizeLine := by rw [List.size_toArray, ← rv.length]; exact hz
  have hit : (s1.heap.push (revObj a ((its.toArray.size : Int) - 1))).IsRevIter s1.heap.objs.size a ((its.toArray.size : Int) - 1) := ⟨_, Heap.get?_push_size _ rfl, rfl, rfl⟩
  refine call_list_rev (s := { s1 with heap := s1.heap.push (revObj a ((its.toArray.size : Int) - 1)) }) (I1.ok.hd hc) hit (hl.push _) hne hn fun h' tk acc c' hk e' hi => ?_
  have hsz : (s1.heap.push (revObj a ((its.toArray.size : Int) - 1))).objs.size = s1.heap.objs.size + 1 := Heap.size_push _ _
  have nS : H1 (s1.heap.push (revObj a ((its.toArray.size : Int) - 1))).objs.size = none := I2.hok.fresh (Nat.le_refl _)
  have lS : ∀ b o, (s1.heap.push (revObj a ((its.toArray.size : Int) - 1))).get? b = some o → b ≠ (s1.heap.push (revObj a ((its.toArray.size : Int) - 1))).objs.size := fun b o e => Nat.ne_of_lt (Heap.lt_size e)
  refine ⟨.ref _, upd H1 _ (.lst xs.reverse), I2.step (g' := s1.gens) (d' := s1.drawn) (t' := tk) (ch := [s1.heap.objs.size]) (fun b hb => ?_) (fun b o _ _ hc e _ => hk b o (fun z => hc (by simp [z])) e) (fun b o _ _ hc e _ => ⟨o.slots, hk b o (fun z => hc (by simp [z])) e⟩)
    (fun b o _ e n => by rw [upd_ne (lS b o e)]; exact n) (fun b o hc e => ⟨o, hk b o (fun z => hc (by simp [z])) e⟩) (fun b ys e => by rw [upd_ne (ne_of_none e nS)]; exact e) (fun b o u e => by rw [upd_ne (ne_of_none e nS)]; exact e) (fun b ps e => ⟨#[], by rw [upd_ne (ne_of_none e nS), e]; simp⟩)
    (fun m hm => ?_) (fun b u e => ?_) I1.bare, rfl, q _ nS⟩
  · have e : b = s1.heap.objs.size := by simpa using hb
    subst e
    exact ⟨f3, f1, f4, f5⟩
  · obtain ⟨o, es, ep, ho, r⟩ := hm
    exact ⟨o, es, ep, hk _ o (Ne.symm f1) ho, r⟩
  · by_cases hb : b = (s1.heap.push (revObj a ((its.toArray.size : Int) - 1))).objs.size
    · subst hb
      rw [upd_same] at e
      cases e
      exact ⟨by rw [List.length_reverse]; exact hz, acc.toList, c', vals_rev rv hi, by rw [Array.toArray_toList]; exact e'⟩
    · rw [upd_ne hb] at e
      refine (I2.hok b u e).stay (fun c v hc q2 => hk c v ?_ q2) (fun c q2 => by rw [upd_ne (ne_of_none q2 nS)]; exact q2) fun c ys q2 => by rw [upd_ne (ne_of_none q2 nS)]; exact q2
      rcases hc with z | z
      · rw [z]
        intro z2
        rw [z2, f0] at e
        cases e
      · intro z2
        rw [z2, f0] at z
        cases z
end
end DL
set_option Elab.async false
set_option linter.all false
set_option maxRecDepth 100000
set_option maxHeartbeats 2000000
namespace DL
open PySem PySem.Spec PyProof.Rows L2 RT
variable [Tabl]

/-! ### built-ins over data -/
def lenD : List D → (Sl → Prop) → Prop
  | [.lst xs], Φ => Φ (.val (.int xs.length))
  | [.tup xs], Φ => Φ (.val (.int xs.length))
  | [.rd xs], Φ => Φ (.val (.int xs.length))
  | [.str z], Φ => z.length ≤ 1000000 ∧ Φ (.val (.int z.length))
  | _, _ => False
def listD : List D → (Sl → Prop) → Prop
  | [.lst xs], Φ => Φ (.own xs)
  | [.tup xs], Φ => Φ (.own xs)
  | [.rd xs], Φ => Φ (.own xs)
  | _, _ => False
def tupleD : List D → (Sl → Prop) → Prop
  | [.lst xs], Φ => Φ (.val (.tup xs))
  | [.tup xs], Φ => Φ (.val (.tup xs))
  | _, _ => False
def intD : List D → (Sl → Prop) → Prop
  | [.int i], Φ => Φ (.val (.int i))
  | [.bl b], Φ => Φ (.val (.int (if b = true then 1 else 0)))
  | _, _ => False
def D.ints : List D → Option (List Int)
  | [] => some []
  | .int i :: r => match D.ints r with
    | some ns => some (i :: ns)
    | none => none
  | _ :: _ => none
theorem ints_some : ∀ {ds : List D} {ns : List Int}, D.ints ds = some ns → ds = ns.map D.int
  | [], ns, h => by cases h; rfl
  | .int i :: r, ns, h => by
    unfold D.ints at h
    split at h
    · rename_i ms e
      cases h
      rw [ints_some e]
      rfl
    · cases h
  | .non :: _, _, h => by cases h
  | .bl _ :: _, _, h => by cases h
  | .str _ :: _, _, h => by cases h
  | .tup _ :: _, _, h => by cases h
  | .lst _ :: _, _, h => by cases h
  | .dic _ :: _, _, h => by cases h
  | .ins _ _ :: _, _, h => by cases h
  | .rd _ :: _, _, h => by cases h
  | .ty _ :: _, _, h => by cases h
  | .cls _ :: _, _, h => by cases h
theorem ints_map : ∀ ns : List Int, D.ints (ns.map D.int) = some ns
  | [] => rfl
  | n :: ns => by
    show (match D.ints (ns.map D.int) with | some ns => some (n :: ns) | none => none) = _
    rw [ints_map ns]
theorem rpl_ints {K : PySem.W.Frag} {G : Hp} : ∀ {vs : List V} {ns : List Int}, RpL K G vs (ns.map D.int) → vs = ns.map V.int
  | _, [], .nil => rfl
  | _, n :: ns, .cons h r => by
    cases h
    rw [rpl_ints r]
    rfl
def maxL : List Int → Int
  | [] => 0
  | [x] => x
  | x :: y :: r => let m := maxL (y :: r); if m > x then m else x
def minL : List Int → Int
  | [] => 0
  | [x] => x
  | x :: y :: r => let m := minL (y :: r); if m < x then m else x
theorem maxL_spec : ∀ {ns : List Int}, 0 < ns.length → maxL ns ∈ ns ∧ ∀ y ∈ ns, y ≤ maxL ns
  | [x], _ => ⟨List.mem_singleton.mpr rfl, fun y h => by rw [List.mem_singleton.mp h]; exact Int.le_refl _⟩
  | x :: y :: r, _ => by
    obtain ⟨h1, h2⟩ := maxL_spec (ns := y :: r) (Nat.succ_pos _)
    unfold maxL
    by_cases c : maxL (y :: r) > x
    · simp only [if_pos c]
      refine ⟨List.mem_cons_of_mem _ h1, fun z hz => ?_⟩
      rcases List.mem_cons.mp hz with e | e
      · rw [e]; omega
      · exact h2 z e
    · simp only [if_neg c]
      refine ⟨List.mem_cons_self, fun z hz => ?_⟩
      rcases List.mem_cons.mp hz with e | e
      · rw [e]; exact Int.le_refl _
      · have := h2 z e; omega
theorem minL_spec : ∀ {ns : List Int}, 0 < ns.length → minL ns ∈ ns ∧ ∀ y ∈ ns, minL ns ≤ y
  | [x], _ => ⟨List.mem_singleton.mpr rfl, fun y h => by rw [List.mem_singleton.mp h]; exact Int.le_refl _⟩
  | x :: y :: r, _ => by
    obtain ⟨h1, h2⟩ := minL_spec (ns := y :: r) (Nat.succ_pos _)
    unfold minL
    by_cases c : minL (y :: r) < x
    · simp only [if_pos c]
      refine ⟨List.mem_cons_of_mem _ h1, fun z hz => ?_⟩
      rcases List.mem_cons.mp hz with e | e
      · rw [e]; omega
      · exact h2 z e
    · simp only [if_neg c]
      refine ⟨List.mem_cons_self, fun z hz => ?_⟩
      rcases List.mem_cons.mp hz with e | e
      · rw [e]; exact Int.le_refl _
      · have := h2 z e; omega
def intsD (g : List Int → (Sl → Prop) → Prop) : List D → (Sl → Prop) → Prop
  | [.lst xs], Φ => match D.ints xs with
    | some ns => g ns Φ
    | none => False
  | _, _ => False
abbrev maxLD := intsD fun ns Φ => 0 < ns.length ∧ Φ (.val (.int (maxL ns)))
abbrev minLD := intsD fun ns Φ => 0 < ns.length ∧ Φ (.val (.int (minL ns)))
abbrev sumD := intsD fun ns Φ => Φ (.val (.int ns.sum))
def max2D : List D → (Sl → Prop) → Prop
  | [.int i, .int j], Φ => Φ (.val (.int (if j > i then j else i)))
  | _, _ => False
def min2D : List D → (Sl → Prop) → Prop
  | [.int i, .int j], Φ => Φ (.val (.int (if j < i then j else i)))
  | _, _ => False
def tname : D → String
  | .non => "NoneType"
  | .bl _ => "bool"
  | .int _ => "int"
  | .str _ => "str"
  | .tup _ => "tuple"
  | .lst _ => "list"
  | .dic _ => "dict"
  | .rd _ => "list"
  | .ins _ _ => ""
  | .ty _ => ""
  | .cls _ => ""
  | .exc _ _ _ _ _ => ""
def isiB (x : D) (n : String) : Bool := tname x == n || (tname x == "bool" && n == "int")
def isiD : List D → (Sl → Prop) → Prop
  | [x, .ty n], Φ => n ∈ ["str", "int", "bool", "tuple", "list"] ∧ tname x ∈ ["NoneType", "bool", "int", "str", "tuple", "list", "dict"] ∧ Φ (.val (.bl (isiB x n)))
  | _, _ => False
theorem kit_all : ∀ n ∈ (["str", "int", "bool", "tuple", "list"] : List String), ∀ t ∈ (["NoneType", "bool", "int", "str", "tuple", "list", "dict"] : List String), kitB t n = some (t == n || (t == "bool" && n == "int")) := by decide +kernel
section
variable {K : PySem.W.Frag}
theorem simc_len : SimC K (fun xs H Q => ∃ x n, xs = [x] ∧ LenV K x H n ∧ Q (.int n) H) lenD := by
  intro M Z G0 H0 G H σ ρ F vs xs Φ Q A r hf k
  unfold lenD at hf
  split at hf
  · match r with
    | .cons (.lst h px) .nil => exact ⟨_, _, rfl, .inl ⟨_, SqL.of (A.gh _ _ h), rfl⟩, by rw [px.length]; exact k _ _ _ G H A (Same.refl G) (.val (.int _)) hf⟩
  · match r with
    | .cons (.tup h px) .nil => exact ⟨_, _, rfl, .inr ⟨_, same_t A.gh h, rfl⟩, by rw [px.length]; exact k _ _ _ G H A (Same.refl G) (.val (.int _)) hf⟩
  · match r with
    | .cons (.rd h px) .nil => exact ⟨_, _, rfl, .inl ⟨_, same_l A.gh h, rfl⟩, by rw [px.length]; exact k _ _ _ G H A (Same.refl G) (.val (.int _)) hf⟩
  · match r with
    | .cons (.str z) .nil => exact ⟨_, _, rfl, ⟨line_le hf.1, rfl⟩, k _ _ _ G H A (Same.refl G) (.val (.int _)) hf.2⟩
  · exact hf.elim
theorem simc_list : SimC K (fun xs H Q => ∃ p ys, xs = [.ref p] ∧ (SqL K H p ys ∨ SqT K H p ys) ∧ ∀ l, H l = none → Q (.ref l) (upd H l (.lst ys))) listD := by
  intro M Z G0 H0 G H σ ρ F vs xs Φ Q A r hf k
  unfold listD at hf
  split at hf
  · match r with
    | .cons (.lst h px) .nil => exact ⟨_, _, rfl, .inl (SqL.of (A.gh _ _ h)), fun l hl => by
        obtain ⟨A2, r2⟩ := A.lst_new hl px
        exact k _ _ _ G _ A2 (Same.refl G) r2 hf⟩
  · match r with
    | .cons (.tup h px) .nil => exact ⟨_, _, rfl, .inr (same_t A.gh h), fun l hl => by
        obtain ⟨A2, r2⟩ := A.lst_new hl px
        exact k _ _ _ G _ A2 (Same.refl G) r2 hf⟩
  · match r with
    | .cons (.rd h px) .nil => exact ⟨_, _, rfl, .inl (same_l A.gh h), fun l hl => by
        obtain ⟨A2, r2⟩ := A.lst_new hl px
        exact k _ _ _ G _ A2 (Same.refl G) r2 hf⟩
  · exact hf.elim
theorem simc_tuple : SimC K (fun xs H Q => ∃ p ys, xs = [.ref p] ∧ ((SqL K H p ys ∧ ∀ l, H l = none → Q (.ref l) (upd H l (.tup ys))) ∨ (SqT K H p ys ∧ Q (.ref p) H))) tupleD := by
  intro M Z G0 H0 G H σ ρ F vs xs Φ Q A r hf k
  unfold tupleD at hf
  split at hf
  · match r with
    | .cons (.lst h px) .nil => exact ⟨_, _, rfl, .inl ⟨SqL.of (A.gh _ _ h), fun l hl => by
        obtain ⟨G2, A2, e2, r2⟩ := A.tup_new hl px
        exact k _ _ _ G2 _ A2 e2 (.val r2) hf⟩⟩
  · match r with
    | .cons (.tup h px) .nil => exact ⟨_, _, rfl, .inr ⟨same_t A.gh h, k _ _ _ G H A (Same.refl G) (.val (.tup h px)) hf⟩⟩
  · exact hf.elim
theorem simc_int : SimC K (fun xs H Q => (∃ i, xs = [.int i] ∧ Q (.int i) H) ∨ ∃ k, xs = [.bl k] ∧ Q (.int (if k then 1 else 0)) H) intD := by
  intro M Z G0 H0 G H σ ρ F vs xs Φ Q A r hf k
  unfold intD at hf
  split at hf
  · match r with
    | .cons (.int i) .nil => exact .inl ⟨i, rfl, k _ _ _ G H A (Same.refl G) (.val (.int _)) hf⟩
  · match r with
    | .cons (.bl b) .nil => exact .inr ⟨b, rfl, k _ _ _ G H A (Same.refl G) (.val (.int _)) hf⟩
  · exact hf.elim
theorem ints_args {vs : List V} {xs : List D} {G : Hp} {g : List Int → (Sl → Prop) → Prop} {Φ : Sl → Prop} (r : RpL K G vs xs) (h : intsD g xs Φ) : ∃ a ns, vs = [.ref a] ∧ G a = some (.lst (ns.map V.int)) ∧ g ns Φ := by
  unfold intsD at h
  split at h
  · split at h
    · rename_i ns e
      rw [ints_some e] at r
      match r with
      | .cons (.lst hx px) .nil =>
        rw [rpl_ints px] at hx
        exact ⟨_, ns, rfl, hx, h⟩
    · exact h.elim
  · exact h.elim
theorem simc_max : SimC K (rMax K) maxLD := by
  intro M Z G0 H0 G H σ ρ F vs xs Φ Q A r hf k
  obtain ⟨a, ns, rfl, h, h0, hf⟩ := ints_args r hf
  refine ⟨a, ns, rfl, SqL.of (A.gh _ _ h), h0, fun m hm hle => ?_⟩
  obtain ⟨h1, h2⟩ := maxL_spec h0
  have e : m = maxL ns := Int.le_antisymm (h2 m hm) (hle _ h1)
  rw [e]
  exact k _ _ _ G H A (Same.refl G) (.val (.int _)) hf
theorem simc_min : SimC K (rMin K) minLD := by
  intro M Z G0 H0 G H σ ρ F vs xs Φ Q A r hf k
  obtain ⟨a, ns, rfl, h, h0, hf⟩ := ints_args r hf
  refine ⟨a, ns, rfl, SqL.of (A.gh _ _ h), h0, fun m hm hle => ?_⟩
  obtain ⟨h1, h2⟩ := minL_spec h0
  have e : m = minL ns := Int.le_antisymm (hle _ h1) (h2 m hm)
  rw [e]
  exact k _ _ _ G H A (Same.refl G) (.val (.int _)) hf
theorem simc_sum : SimC K (rSum K) sumD := by
  intro M Z G0 H0 G H σ ρ F vs xs Φ Q A r hf k
  obtain ⟨a, ns, rfl, h, hf⟩ := ints_args r hf
  exact ⟨a, ns, rfl, SqL.of (A.gh _ _ h), k _ _ _ G H A (Same.refl G) (.val (.int _)) hf⟩
theorem simc_max2 : SimC K (fun xs H Q => ∃ i j, xs = [.int i, .int j] ∧ Q (.int (if j > i then j else i)) H) max2D := by
  intro M Z G0 H0 G H σ ρ F vs xs Φ Q A r hf k
  unfold max2D at hf
  split at hf
  · match r with
    | .cons (.int i) (.cons (.int j) .nil) => exact ⟨i, j, rfl, k _ _ _ G H A (Same.refl G) (.val (.int _)) hf⟩
  · exact hf.elim
theorem simc_min2 : SimC K (fun xs H Q => ∃ i j, xs = [.int i, .int j] ∧ Q (.int (if j < i then j else i)) H) min2D := by
  intro M Z G0 H0 G H σ ρ F vs xs Φ Q A r hf k
  unfold min2D at hf
  split at hf
  · match r with
    | .cons (.int i) (.cons (.int j) .nil) => exact ⟨i, j, rfl, k _ _ _ G H A (Same.refl G) (.val (.int _)) hf⟩
  · exact hf.elim
theorem rd_tyX {K : PySem.W.Frag} {H : Hp} {a : Addr} {xs : List V} (h : SqL K H a xs) : TyX K H (.ref a) (.type "list") := by
  rcases h with (h | ⟨o, h⟩) | ⟨o, its, n, h1, h2, _⟩
  · exact .base (.lst h)
  · exact .base (.frz h)
  · exact .kList h1 h2
theorem tup_tyX {K : PySem.W.Frag} {H : Hp} {a : Addr} {xs : List V} (h : SqT K H a xs) : TyX K H (.ref a) (.type "tuple") := by
  rcases h with (h | ⟨o, h⟩) | ⟨o, its, n, h1, h2, _⟩
  · exact .base (.tup h)
  · exact .fTuple h
  · exact .kTuple h1 h2
theorem rp_tyX {G H : Hp} {v : V} {x : D} (e : Same G H) (r : Rp K G v x) (h : tname x ∈ (["NoneType", "bool", "int", "str", "tuple", "list", "dict"] : List String)) : TyX K H v (.type (tname x)) := by
  cases r with
  | non => exact .base .non
  | bl b => exact .base (.bl b)
  | int i => exact .base (.int i)
  | str s => exact .base (.str s)
  | lst hx px => exact rd_tyX (SqL.of (e _ _ hx))
  | rd hx px => exact rd_tyX (same_l e hx)
  | tup hx px => exact tup_tyX (same_t e hx)
  | dic hx px =>
    rcases same_rd e hx with h | ⟨o, h⟩
    · exact .base (.dK h)
    · exact .fDict h
  | ins _ _ => simp [tname] at h
  | ty _ => simp [tname] at h
  | cls _ => simp [tname] at h
  | exc _ _ _ => simp [tname] at h
theorem simc_isi : SimC K (rIsi K) isiD := by
  intro M Z G0 H0 G H σ ρ F vs xs Φ Q A r hf k
  unfold isiD at hf
  split at hf
  · rename_i x n
    match r with
    | .cons rx (.cons (.ty _) .nil) =>
      obtain ⟨h1, h2, hf⟩ := hf
      exact ⟨_, .ty n, .type (tname x), .type n, isiB x n, rfl, .ty n, rp_tyX A.gh rx h2, kit_ty (kit_all n h1 _ h2), k _ _ _ G H A (Same.refl G) (.val (.bl _)) hf⟩
  · exact hf.elim
end
section
variable {X : Cx} {e a b : Expr} {te ta tb : TE} {de da db : DE} {p p2 pos pos2 : Pos}
/-- list(reversed(e)) -/
theorem sim_lstRev {K : PySem.W.Frag} (h : SimE K te de) : SimR K (tLstRev K te) (dRevL de) := fun {M Z G0 H0 G H σ ρ F Φ Q} A hd kk =>
  h A hd fun v x ρ1 F1 G1 H1 A1 e1 r1 q1 => by
    cases r1 with
    | lst hx px => exact ⟨_, _, rfl, SqL.of (A1.gh _ _ hx), fun p hp => by
        obtain ⟨A4, r4⟩ := A1.lst_new hp px.reverse
        exact kk _ _ _ ρ1 F1 G1 _ A4 e1 r4 q1⟩
    | _ => exact q1.elim
theorem pr_lstRev (hm : X.mg "list" = none) (hm2 : X.mg "reversed" = none) (h : PD X e te de) (hc : X.calm = true := by rfl) (hg : Gl X "list" := by rfl) (hg2 : Gl X "reversed" := by rfl) (hs : starEach [e] X.env = (false, eval e X.env) :: starEach [] X.env := by rfl)
    (hs2 : starEach [.Call (.Name "reversed" p2) [e] [] pos2] X.env = (false, eval (.Call (.Name "reversed" p2) [e] [] pos2) X.env) :: starEach [] X.env := by rfl) :
    PR X (.Call (.Name "list" p) [.Call (.Name "reversed" p2) [e] [] pos2] [] pos) (tLstRev X.K te) (dRevL de) := ⟨pe_lstRev hc hg hm hg2 hm2 h.pe hs hs2, sim_lstRev h.sim⟩
/-- list(range(..)), tuple(range(..)) -/
def dRg1 (d : DE) (g : List D → Sl) : DR := fun ρ Φ => d ρ fun x ρ1 => match x with
  | .int n => 0 ≤ n ∧ n ≤ 1000000 ∧ Φ (g (rng n.toNat 0 1)) ρ1
  | _ => False
def dRg2 (d1 d2 : DE) (g : List D → Sl) : DR := fun ρ Φ => d1 ρ fun x ρ1 => d2 ρ1 fun y ρ2 => match x, y with
  | .int a, .int n => 0 ≤ a ∧ a ≤ 1000000 ∧ 0 ≤ n ∧ n ≤ 1000000 ∧ Φ (g (rng (n - a).toNat a 1)) ρ2
  | _, _ => False
theorem rng_map : ∀ (n : Nat) (a : Int), rng n a 1 = (List.range n).map fun i => D.int (a + (i : Nat))
  | 0, a => rfl
  | n + 1, a => by
    rw [List.range_succ_eq_map, List.map_cons, List.map_map, rng, rng_map n (a + 1)]
    congr 1
    · simp
    · apply List.map_congr_left
      intro i _
      show D.int (a + 1 + (i : Int)) = D.int (a + ((i + 1 : Nat) : Int))
      congr 1
      push_cast
      omega
theorem rgV_rp {K : PySem.W.Frag} {G : Hp} (a b : Int) : RpL K G (rgV a b) (rng (b - a).toNat a 1) := by
  rw [rng_map]
  unfold rgV
  generalize List.range (b - a).toNat = l
  induction l with
  | nil => exact .nil
  | cons i l ih => exact .cons (.int _) ih
theorem sim_lstRg1 {K : PySem.W.Frag} (h : SimE K te de) : SimR K (tLstRg (tRg1 te)) (dRg1 de Sl.own) := fun {M Z G0 H0 G H σ ρ F Φ Q} A hd kk => h A hd fun v x ρ1 F1 G1 H1 A1 e1 r1 q1 => by
  cases r1 with
  | int n =>
    obtain ⟨h1, h2, q1⟩ := q1
    refine ⟨n, rfl, RgOk.of_le (by omega) (by omega) (by omega) h1, fun q hq => ?_⟩
    obtain ⟨A4, r4⟩ := A1.lst_new hq (rgV_rp (K := K) (G := G1) 0 n)
    rw [Int.sub_zero] at r4
    exact kk _ _ _ ρ1 F1 G1 _ A4 e1 r4 q1
  | _ => exact q1.elim
theorem sim_tupRg1 {K : PySem.W.Frag} (h : SimE K te de) : SimR K (tTupRg (tRg1 te)) (dRg1 de fun xs => .val (.tup xs)) := fun {M Z G0 H0 G H σ ρ F Φ Q} A hd kk => h A hd fun v x ρ1 F1 G1 H1 A1 e1 r1 q1 => by
  cases r1 with
  | int n =>
    obtain ⟨h1, h2, q1⟩ := q1
    refine ⟨n, rfl, RgOk.of_le (by omega) (by omega) (by omega) h1, fun q hq => ?_⟩
    obtain ⟨G4, A4, e4, r4⟩ := A1.tup_new hq (rgV_rp (K := K) (G := G1) 0 n)
    rw [Int.sub_zero] at r4
    exact kk _ _ _ ρ1 F1 G4 _ A4 (e1.trans e4) (.val r4) q1
  | _ => exact q1.elim
theorem pr_lstRg1 (hm : X.mg "list" = none) (hm2 : X.mg "range" = none) (h : PD X a ta da) (hc : X.calm = true := by rfl) (hg : Gl X "list" := by rfl) (hg2 : Gl X "range" := by rfl) (na : starEach [a] X.env = (false, eval a X.env) :: starEach [] X.env := by rfl)
    (hs2 : starEach [.Call (.Name "range" p2) [a] [] pos2] X.env = (false, eval (.Call (.Name "range" p2) [a] [] pos2) X.env) :: starEach [] X.env := by rfl) : PR X (.Call (.Name "list" p) [.Call (.Name "range" p2) [a] [] pos2] [] pos) (tLstRg (tRg1 ta)) (dRg1 da Sl.own) :=
  ⟨pe_listRg hc hg hm (prg_1 hg2 hm2 h.pe na) hs2, sim_lstRg1 h.sim⟩
theorem pr_tupRg1 (hm : X.mg "tuple" = none) (hm2 : X.mg "range" = none) (h : PD X a ta da) (hc : X.calm = true := by rfl) (hg : Gl X "tuple" := by rfl) (hg2 : Gl X "range" := by rfl) (na : starEach [a] X.env = (false, eval a X.env) :: starEach [] X.env := by rfl)
    (hs2 : starEach [.Call (.Name "range" p2) [a] [] pos2] X.env = (false, eval (.Call (.Name "range" p2) [a] [] pos2) X.env) :: starEach [] X.env := by rfl) : PR X (.Call (.Name "tuple" p) [.Call (.Name "range" p2) [a] [] pos2] [] pos) (tTupRg (tRg1 ta)) (dRg1 da fun xs => .val (.tup xs)) :=
  ⟨pe_tupRg hc hg hm (prg_1 hg2 hm2 h.pe na) hs2, sim_tupRg1 h.sim⟩
end
end DL
set_option Elab.async false
set_option linter.all false
set_option maxRecDepth 100000
set_option maxHeartbeats 2000000
namespace DL
open PySem PySem.Spec PyProof.Rows L2 RT
variable [Tabl]

/-! ### * -/
def rIsNone : R2 := fun x y H Q => y = .non ∧ Q (.bl (decide (x = .non))) H
def rIsNotNone : R2 := fun x y H Q => y = .non ∧ Q (.bl (!decide (x = .non))) H
def rLenA (K : PySem.W.Frag) : List V → Hp → VK → Prop := fun xs H Q => ∃ x n, xs = [x] ∧ LenV K x H n ∧ Q (.int n) H
def rListA (K : PySem.W.Frag) : List V → Hp → VK → Prop := fun xs H Q => ∃ p ys, xs = [.ref p] ∧ (SqL K H p ys ∨ SqT K H p ys) ∧ ∀ l, H l = none → Q (.ref l) (upd H l (.lst ys))
def rTupleA (K : PySem.W.Frag) : List V → Hp → VK → Prop := fun xs H Q => ∃ p ys, xs = [.ref p] ∧ ((SqL K H p ys ∧ ∀ l, H l = none → Q (.ref l) (upd H l (.tup ys))) ∨ (SqT K H p ys ∧ Q (.ref p) H))
def rIntA : List V → Hp → VK → Prop := fun xs H Q => (∃ i, xs = [.int i] ∧ Q (.int i) H) ∨ ∃ k, xs = [.bl k] ∧ Q (.int (if k then 1 else 0)) H
def rMax2A : List V → Hp → VK → Prop := fun xs H Q => ∃ i j, xs = [.int i, .int j] ∧ Q (.int (if j > i then j else i)) H
def rMin2A : List V → Hp → VK → Prop := fun xs H Q => ∃ i j, xs = [.int i, .int j] ∧ Q (.int (if j < i then j else i)) H
def rMulI : R2 := rI CMul fun i j => .int (i * j)
def rRepTA (K : PySem.W.Frag) : R2 := fun x y H Q => rRepT K x y H Q
def mulD : D → D → (Sl → Prop) → Prop
  | .int i, .int j, Φ => CMul i j ∧ Φ (.val (.int (i * j)))
  | .lst xs, .int k, Φ => 0 ≤ k ∧ k ≤ 1000000 ∧ xs.length * k.toNat ≤ 1000000 ∧ Φ (.own (List.replicate k.toNat xs).flatten)
  | .tup xs, .int k, Φ => xs ≠ [] ∧ 2 ≤ k ∧ k ≤ 1000 ∧ xs.length ≤ 1000 ∧ Φ (.val (.tup (List.replicate k.toNat xs).flatten))
  | _, _, _ => False
def rMulA (K : PySem.W.Frag) : R2 := fun x y H Q => rI CMul (fun i j => .int (i * j)) x y H Q ∨ rRep x y H Q ∨ rRepT K x y H Q
theorem RpL.rep {K : PySem.W.Frag} {G : Hp} {vs : List V} {ds : List D} (r : RpL K G vs ds) : ∀ n : Nat, RpL K G (List.replicate n vs).flatten (List.replicate n ds).flatten
  | 0 => .nil
  | n + 1 => by
    rw [List.replicate_succ, List.replicate_succ, List.flatten_cons, List.flatten_cons]
    exact r.append (RpL.rep r n)
theorem sim_mul {K : PySem.W.Frag} : SimR2 K (rMulA K) mulD := by
  intro M Z G0 H0 G H σ ρ F v w x y Φ Q A rx ry hf k
  unfold mulD at hf
  split at hf
  · cases rx; cases ry
    exact .inl ⟨_, _, rfl, rfl, hf.1, k _ _ _ G H A (Same.refl G) (.val (.int _)) hf.2⟩
  · cases ry
    cases rx with
    | lst hx px =>
      obtain ⟨h1, h2, h3, hf⟩ := hf
      refine .inr (.inl ⟨_, _, _, rfl, rfl, A.gh _ _ hx, by omega, by omega, line_le (by rw [px.length]; exact h3), fun p hp => ?_⟩)
      obtain ⟨A2, r2⟩ := A.lst_new hp (px.rep _)
      exact k _ _ _ G _ A2 (Same.refl G) r2 hf
  · cases ry
    cases rx with
    | tup hx px =>
      obtain ⟨h0, h1, h2, h3, hf⟩ := hf
      refine .inr (.inr ⟨_, _, _, rfl, rfl, same_t A.gh hx, fun z => h0 ((rpl_nil px).mp z), h1, h2, by rw [px.length]; exact h3, fun p hp => ?_⟩)
      obtain ⟨G2, A2, e2, r2⟩ := A.tup_new hp (px.rep _)
      exact k _ _ _ G2 _ A2 e2 (.val r2) hf
  · exact hf.elim
section
variable {K : PySem.W.Frag}
theorem sim_sub : SimV2 K (rI0 fun i j => .int (i - j)) subD := sim_ii fun _ _ _ => .int _
theorem sim_mod : SimV2 K (rI (fun _ j => 0 < j) fun i j => .int (i % j)) modD := sim_iiC fun _ _ _ => .int _
theorem sim_fdv : SimV2 K (rI CDiv fun i j => .int (i / j)) fdvD := sim_iiC fun _ _ _ => .int _
theorem sim_pow : SimV2 K (rI CPow fun i j => .int (i ^ j.toNat)) powD := sim_iiC fun _ _ _ => .int _
theorem sim_lt : SimV2 K (rI0 fun i j => .bl (decide (i < j))) ltD := sim_ii fun _ _ _ => .bl _
theorem sim_le : SimV2 K (rI0 fun i j => .bl (decide (i ≤ j))) leD := sim_ii fun _ _ _ => .bl _
theorem sim_ge : SimV2 K (rI0 fun i j => .bl (decide (j ≤ i))) geD := sim_ii fun _ _ _ => .bl _
theorem sim_gtI : SimV2 K (rI0 fun i j => .bl (decide (j < i))) gtI := sim_ii fun _ _ _ => .bl _
end
section
variable {X : Cx} {a b c e : Expr} {es : List Expr} {ta tb tc te : TE} {da db dc de : DE} {t : TA} {d : DA} {pos p : Pos}
theorem op_mulA : OpR X (binaryOp .Mult) (rMulA X.K) := OpR.or op_mul (OpR.or op_rep op_repT)
theorem pr_add (ha : PD X a ta da) (hb : PD X b tb db) : PR X (.BinOp a .Add b pos) (tOp (rAddA X.K) ta tb) (dOpR addD da db) := pr_op op_addA sim_add ha hb
theorem pr_mul (ha : PD X a ta da) (hb : PD X b tb db) : PR X (.BinOp a .Mult b pos) (tOp (rMulA X.K) ta tb) (dOpR mulD da db) := pr_op op_mulA sim_mul ha hb
theorem pd_sub (ha : PD X a ta da) (hb : PD X b tb db) : PD X (.BinOp a .Sub b pos) (tOp (rI0 fun i j => .int (i - j)) ta tb) (dOp subD da db) := pd_op op_sub sim_sub ha hb
theorem pd_mod (ha : PD X a ta da) (hb : PD X b tb db) : PD X (.BinOp a .Mod b pos) (tOp (rI (fun _ j => 0 < j) fun i j => .int (i % j)) ta tb) (dOp modD da db) := pd_op op_mod sim_mod ha hb
theorem pd_fdv (ha : PD X a ta da) (hb : PD X b tb db) : PD X (.BinOp a .FloorDiv b pos) (tOp (rI CDiv fun i j => .int (i / j)) ta tb) (dOp fdvD da db) := pd_op op_fdiv sim_fdv ha hb
theorem pd_pow (ha : PD X a ta da) (hb : PD X b tb db) : PD X (.BinOp a .Pow b pos) (tOp (rI CPow fun i j => .int (i ^ j.toNat)) ta tb) (dOp powD da db) := pd_op op_pow sim_pow ha hb
theorem pd_lt (ha : PD X a ta da) (hb : PD X b tb db) : PD X (.Compare a [.Lt] [b] pos) (tOp (rI0 fun i j => .bl (decide (i < j))) ta tb) (dOp ltD da db) := pd_cmp op_lt sim_lt ha hb (nomark _)
theorem pd_le (ha : PD X a ta da) (hb : PD X b tb db) : PD X (.Compare a [.LtE] [b] pos) (tOp (rI0 fun i j => .bl (decide (i ≤ j))) ta tb) (dOp leD da db) := pd_cmp op_le sim_le ha hb (nomark _)
theorem pd_ge (ha : PD X a ta da) (hb : PD X b tb db) : PD X (.Compare a [.GtE] [b] pos) (tOp (rI0 fun i j => .bl (decide (j ≤ i))) ta tb) (dOp geD da db) := pd_cmp op_ge sim_ge ha hb (nomark _)
theorem pd_gt (hu : X.A.units < cLine) (ha : PD X a ta da) (hb : PD X b tb db) : PD X (.Compare a [.Gt] [b] pos) (tOp (rGtA X.K) ta tb) (dOp gtD da db) := pd_cmp (op_gtA hu) sim_gt ha hb (nomark _)
theorem pd_eq (hu : X.A.units + 64 < cLine) (ha : PD X a ta da) (hb : PD X b tb db) : PD X (.Compare a [.Eq] [b] pos) (tOp (rEqD X.K) ta tb) (dOp eqD da db) := pd_cmp (op_eqD hu) sim_eq ha hb (nomark _)
theorem pd_ne (hu : X.A.units + 64 < cLine) (ha : PD X a ta da) (hb : PD X b tb db) : PD X (.Compare a [.NotEq] [b] pos) (tOp (rNeD X.K) ta tb) (dOp neD da db) := pd_cmp (op_neD hu) sim_ne ha hb (nomark _)
theorem pd_in (hu : X.A.units + 65 < cLine) (ha : PD X a ta da) (hb : PD X b tb db) (hm : behindInMarks .In b = false := by rfl) : PD X (.Compare a [.In] [b] pos) (tOp (rInA X.K) ta tb) (dOp memV da db) := pd_cmp (op_inA hu) sim_in ha hb hm
theorem pd_notin (hu : X.A.units + 65 < cLine) (ha : PD X a ta da) (hb : PD X b tb db) (hm : behindInMarks .NotIn b = false := by rfl) : PD X (.Compare a [.NotIn] [b] pos) (tOp (rNotInA X.K) ta tb) (dOp notMemV da db) := pd_cmp (op_notInA hu) sim_notIn ha hb hm
theorem pd_is (ha : PD X a ta da) (hb : PD X b tb db) : PD X (.Compare a [.Is] [b] pos) (tOp rIsNone ta tb) (dOp isN da db) := pd_cmp op_isN sim_isN ha hb (nomark _)
theorem pd_isnot (ha : PD X a ta da) (hb : PD X b tb db) : PD X (.Compare a [.IsNot] [b] pos) (tOp rIsNotNone ta tb) (dOp notN da db) := pd_cmp op_notN sim_notN ha hb (nomark _)
theorem pdt_lt (ha : PD X a ta da) (hb : PD X b tb db) : PDT X (.Compare a [.Lt] [b] pos) (tTest (tOp (rI0 fun i j => .bl (decide (i < j))) ta tb)) (dTest (dOp ltD da db)) := pdt_cmp op_lt sim_lt ha hb (nomark _)
theorem pdt_le (ha : PD X a ta da) (hb : PD X b tb db) : PDT X (.Compare a [.LtE] [b] pos) (tTest (tOp (rI0 fun i j => .bl (decide (i ≤ j))) ta tb)) (dTest (dOp leD da db)) := pdt_cmp op_le sim_le ha hb (nomark _)
theorem pdt_ge (ha : PD X a ta da) (hb : PD X b tb db) : PDT X (.Compare a [.GtE] [b] pos) (tTest (tOp (rI0 fun i j => .bl (decide (j ≤ i))) ta tb)) (dTest (dOp geD da db)) := pdt_cmp op_ge sim_ge ha hb (nomark _)
theorem pdt_gt (hu : X.A.units < cLine) (ha : PD X a ta da) (hb : PD X b tb db) : PDT X (.Compare a [.Gt] [b] pos) (tTest (tOp (rGtA X.K) ta tb)) (dTest (dOp gtD da db)) := pdt_cmp (op_gtA hu) sim_gt ha hb (nomark _)
theorem pdt_eq (hu : X.A.units + 64 < cLine) (ha : PD X a ta da) (hb : PD X b tb db) : PDT X (.Compare a [.Eq] [b] pos) (tTest (tOp (rEqD X.K) ta tb)) (dTest (dOp eqD da db)) := pdt_cmp (op_eqD hu) sim_eq ha hb (nomark _)
theorem pdt_ne (hu : X.A.units + 64 < cLine) (ha : PD X a ta da) (hb : PD X b tb db) : PDT X (.Compare a [.NotEq] [b] pos) (tTest (tOp (rNeD X.K) ta tb)) (dTest (dOp neD da db)) := pdt_cmp (op_neD hu) sim_ne ha hb (nomark _)
theorem pdt_in (hu : X.A.units + 65 < cLine) (ha : PD X a ta da) (hb : PD X b tb db) (hm : behindInMarks .In b = false := by rfl) : PDT X (.Compare a [.In] [b] pos) (tTest (tOp (rInA X.K) ta tb)) (dTest (dOp memV da db)) := pdt_cmp (op_inA hu) sim_in ha hb hm
theorem pdt_notin (hu : X.A.units + 65 < cLine) (ha : PD X a ta da) (hb : PD X b tb db) (hm : behindInMarks .NotIn b = false := by rfl) : PDT X (.Compare a [.NotIn] [b] pos) (tTest (tOp (rNotInA X.K) ta tb)) (dTest (dOp notMemV da db)) := pdt_cmp (op_notInA hu) sim_notIn ha hb hm
theorem pdt_is (ha : PD X a ta da) (hb : PD X b tb db) : PDT X (.Compare a [.Is] [b] pos) (tTest (tOp rIsNone ta tb)) (dTest (dOp isN da db)) := pdt_cmp op_isN sim_isN ha hb (nomark _)
theorem pdt_isnot (ha : PD X a ta da) (hb : PD X b tb db) : PDT X (.Compare a [.IsNot] [b] pos) (tTest (tOp rIsNotNone ta tb)) (dTest (dOp notN da db)) := pdt_cmp op_notN sim_notN ha hb (nomark _)
/-! ### calls of built-ins -/
theorem pr_len (hm : X.mg "len" = none) (ha : PDA X (e :: es) t d) (hg : Gl X "len" := by rfl) (hst : starEach (e :: es) X.env = (false, eval e X.env) :: starEach es X.env := by rfl) (hpl : (backTo pos (starEach es X.env)).any (·.1) = false := by rfl) : PR X (.Call (.Name "len" p) (e :: es) [] pos) (tCB (rLenA X.K) t) (dCB lenD d) :=
  pr_callB call_len simc_len hm PySem.boot_len ha hg (by decide) (by decide) hst hpl
theorem pr_list (hm : X.mg "list" = none) (ha : PDA X (e :: es) t d) (hg : Gl X "list" := by rfl) (hst : starEach (e :: es) X.env = (false, eval e X.env) :: starEach es X.env := by rfl) (hpl : (backTo pos (starEach es X.env)).any (·.1) = false := by rfl) : PR X (.Call (.Name "list" p) (e :: es) [] pos) (tCB (rListA X.K) t) (dCB listD d) :=
  pr_callTy call_list_of simc_list hm boot_list ha hg (by decide) (by decide) hst hpl
theorem pr_tuple (hm : X.mg "tuple" = none) (ha : PDA X (e :: es) t d) (hg : Gl X "tuple" := by rfl) (hst : starEach (e :: es) X.env = (false, eval e X.env) :: starEach es X.env := by rfl) (hpl : (backTo pos (starEach es X.env)).any (·.1) = false := by rfl) : PR X (.Call (.Name "tuple" p) (e :: es) [] pos) (tCB (rTupleA X.K) t) (dCB tupleD d) :=
  pr_callTy call_tuple_of simc_tuple hm boot_tuple ha hg (by decide) (by decide) hst hpl
theorem pr_int (hm : X.mg "int" = none) (ha : PDA X (e :: es) t d) (hg : Gl X "int" := by rfl) (hst : starEach (e :: es) X.env = (false, eval e X.env) :: starEach es X.env := by rfl) (hpl : (backTo pos (starEach es X.env)).any (·.1) = false := by rfl) : PR X (.Call (.Name "int" p) (e :: es) [] pos) (tCB rIntA t) (dCB intD d) :=
  pr_callTy call_int1 simc_int hm boot_int ha hg (by decide) (by decide) hst hpl
theorem pr_maxL (hm : X.mg "max" = none) (ha : PDA X (e :: es) t d) (hc : X.calm = true := by rfl) (hg : Gl X "max" := by rfl) (hst : starEach (e :: es) X.env = (false, eval e X.env) :: starEach es X.env := by rfl) (hpl : (backTo pos (starEach es X.env)).any (·.1) = false := by rfl) : PR X (.Call (.Name "max" p) (e :: es) [] pos) (tCB (rMax X.K) t) (dCB maxLD d) :=
  pr_callB (cr_max hc) simc_max hm (by decide +kernel) ha hg (by decide) (by decide) hst hpl
theorem pr_minL (hm : X.mg "min" = none) (ha : PDA X (e :: es) t d) (hc : X.calm = true := by rfl) (hg : Gl X "min" := by rfl) (hst : starEach (e :: es) X.env = (false, eval e X.env) :: starEach es X.env := by rfl) (hpl : (backTo pos (starEach es X.env)).any (·.1) = false := by rfl) : PR X (.Call (.Name "min" p) (e :: es) [] pos) (tCB (rMin X.K) t) (dCB minLD d) :=
  pr_callB (cr_min hc) simc_min hm (by decide +kernel) ha hg (by decide) (by decide) hst hpl
theorem pr_sum (hm : X.mg "sum" = none) (ha : PDA X (e :: es) t d) (hc : X.calm = true := by rfl) (hg : Gl X "sum" := by rfl) (hst : starEach (e :: es) X.env = (false, eval e X.env) :: starEach es X.env := by rfl) (hpl : (backTo pos (starEach es X.env)).any (·.1) = false := by rfl) : PR X (.Call (.Name "sum" p) (e :: es) [] pos) (tCB (rSum X.K) t) (dCB sumD d) :=
  pr_callB (cr_sum hc) simc_sum hm (by decide +kernel) ha hg (by decide) (by decide) hst hpl
theorem pr_max2 (hm : X.mg "max" = none) (ha : PDA X (e :: es) t d) (hc : X.calm = true := by rfl) (hg : Gl X "max" := by rfl) (hst : starEach (e :: es) X.env = (false, eval e X.env) :: starEach es X.env := by rfl) (hpl : (backTo pos (starEach es X.env)).any (·.1) = false := by rfl) : PR X (.Call (.Name "max" p) (e :: es) [] pos) (tCB rMax2A t) (dCB max2D d) :=
  pr_callB (call_max2 hc) simc_max2 hm (by decide +kernel) ha hg (by decide) (by decide) hst hpl
theorem pr_min2 (hm : X.mg "min" = none) (ha : PDA X (e :: es) t d) (hc : X.calm = true := by rfl) (hg : Gl X "min" := by rfl) (hst : starEach (e :: es) X.env = (false, eval e X.env) :: starEach es X.env := by rfl) (hpl : (backTo pos (starEach es X.env)).any (·.1) = false := by rfl) : PR X (.Call (.Name "min" p) (e :: es) [] pos) (tCB rMin2A t) (dCB min2D d) :=
  pr_callB (call_min2 hc) simc_min2 hm (by decide +kernel) ha hg (by decide) (by decide) hst hpl
theorem pr_isi (hm : X.mg "isinstance" = none) (ha : PDA X (e :: es) t d) (hg : Gl X "isinstance" := by rfl) (hst : starEach (e :: es) X.env = (false, eval e X.env) :: starEach es X.env := by rfl) (hpl : (backTo pos (starEach es X.env)).any (·.1) = false := by rfl) : PR X (.Call (.Name "isinstance" p) (e :: es) [] pos) (tCB (rIsi X.K) t) (dCB isiD d) :=
  pr_callB call_isi simc_isi hm (by decide +kernel) ha hg (by decide) (by decide) hst hpl
/-- a built-in class as a value -/
theorem pd_ty {n : String} {x : Str} (hm : X.mg x = none) (hv : bootBuiltins x = some (.type n)) (hg : Gl X x := by rfl) (hn : x ≠ "__name__" := by decide) (hdb : (x == ("__debug__" : Str)) = false := by decide) : PD X (.Name x p) (tC (.ty n)) (dC (.ty n)) :=
  ⟨pe_bltn (v := .ty n) hg hm hv rfl hn hdb, sim_c fun _ => .ty n⟩
end
end DL
set_option Elab.async false
set_option linter.all false
set_option maxRecDepth 100000
set_option maxHeartbeats 2000000
namespace DL
open PySem PySem.Spec PyProof.Rows L2 RT
variable [Tabl]

/-! ### a new list of one's own as a tree -/
/-- x = e, x a tree from now on -/
def dSetT (i : Nat) (d : DR) : DS := fun Δ ρ => d ρ fun x ρ1 => free ρ1 i ∧ match x with
  | .own ds => ∀ p, Δ.nx (ρ1.set i (.loc (.lst p (ds.map OT.val))))
  | x => Δ.nx (ρ1.set i x)
theorem ownL_vals {K : PySem.W.Frag} {G H : Hp} : ∀ {vs : List V} {ds : List D}, RpL K G vs ds → OwnL K G H vs (ds.map OT.val) []
  | _, _, .nil => .nil
  | _, _, .cons h r => by
    have := OwnL.cons (Own.val h) (ownL_vals (H := H) r)
    simpa using this
theorem own_tree {K : PySem.W.Frag} {G H : Hp} {p : Addr} {vs : List V} {ds : List D} (h : H p = some (.lst vs)) (r : RpL K G vs ds) : OT.ok (.lst p (ds.map OT.val)) K G H (.ref p) (fun a => a = p) :=
  ⟨rfl, [p], .lst h (ownL_vals r), by simp, fun a => by simp⟩
theorem sim_setT {K : PySem.W.Frag} {te : TE} {d : DR} {i : Nat} (h : SimR K te d) : SimS K (tAsg te (gName i)) (dSetT i d) := fun {M Z G0 H0 G H σ ρ F Δ Q} A hd k1 _ _ _ => h A hd fun v x Fn ρ1 F1 G1 H1 A1 e1 r1 q1 => by
  obtain ⟨h1, h2⟩ := q1.1.lt
  have q2 := q1.2
  cases x with
  | own ds =>
    obtain ⟨p, vs, ev, hF, hp, r⟩ := r1.ok
    cases ev
    have r2 : ResOk K Z H0 G1 H1 F1 (.ref p) (.loc (.lst p (ds.map OT.val))) (fun a => a = p) := ⟨⟨_, rfl, own_tree hp r⟩, fun z => z, fun a ha => r1.fr a ((hF a).mpr ha)⟩
    exact k1 _ _ _ G1 H1 (A1.set r2 h1 h2) e1 (q2 p)
  | un => exact k1 _ _ _ G1 H1 (A1.set r1 h1 h2) e1 q2
  | val d => exact k1 _ _ _ G1 H1 (A1.set r1 h1 h2) e1 q2
  | loc t => exact k1 _ _ _ G1 H1 (A1.set r1 h1 h2) e1 q2
  | arg t => exact (r1.na trivial).elim
theorem pd_setT {X : Cx} {e : Expr} {te : TE} {d : DR} {pos pos' : Pos} {i : Nat} {x : Str} (hN : X.N.Nodup) (h : PR X e te d) (hi : X.N[i]? = some x := by rfl) (hx : Loc X.env.scope x := by first | exact Or.inl rfl | exact Or.inr rfl) (hs : swapsWith e (some (.Name x pos')) pos.line X.env = pure false := by rfl)
    (hf : X.fn x = true ∨ X.env.scope.names.lookup x = some .local := by first | exact .inl rfl | exact .inr rfl | assumption) : PDS X (.Assign [.Name x pos'] e pos) (tAsg te (gName i)) (dSetT i d) := ⟨ps_set hN hi hx h.pe hs hf, sim_setT h.sim⟩

/-! ### - -/
def negD : D → (D → Prop) → Prop
  | .int i, Φ => Φ (.int (-i))
  | _, _ => False
def dUn (f : D → (D → Prop) → Prop) (d : DE) : DE := fun ρ Φ => d ρ fun x ρ1 => f x fun y => Φ y ρ1
section
variable {X : Cx} {a : Expr} {ta : TE} {da : DE} {pos : Pos}
theorem pd_neg (h : PD X a ta da) : PD X (.UnaryOp .USub a pos) (tUn (rU fun i => .int (-i)) ta) (dUn negD da) := ⟨pe_un un_neg h.pe, fun {M Z G0 H0 G H σ ρ F Φ Q} A hd k => h.sim A hd fun v x ρ1 F1 G1 H1 A1 e1 r1 q1 => by
  cases r1 with
  | int i => exact ⟨i, rfl, k _ _ ρ1 F1 G1 H1 A1 e1 (.int _) q1⟩
  | _ => exact q1.elim⟩
end

/-! ### methods of values: index, count -/
def rCountD (K : PySem.W.Frag) : V → List V → Hp → VK → Prop := fun x xs H Q => ∃ (a : Addr) (y : V) (d : PyData) (ds : List PyData), x = V.ref a ∧ xs = [y] ∧ Dp K H (V.ref a) (.list ds) ∧ Dp K H y d ∧
  SeqAt.shaped (.list ds) = true ∧ SeqAt.shaped d = true ∧ Q (.int ((ds.countP fun z => PyData.eqv z d) : Nat)) H
theorem mt_countD {X : Cx} (hu : X.A.units + 65 < cLine) : MtR X "list.count" (rCountD X.K) := by
  intro pins s σ H x xs v us Q I rx rxs h
  obtain ⟨a, y, d, ds, rfl, rfl, hl, hy, sl, sd, q⟩ := h
  cases rx
  cases rxs with
  | cons ry rt =>
    rename_i uy ut
    cases rt
    obtain ⟨bs, r1⟩ := Dp.reads I d y uy hy ry
    have hxs : PyData.canLayAll0 ds = true := SeqAt.canLay_of_shaped sl
    have hroom : X.A.units + 1 + min (PyData.depthAll ds) d.depth < cLine := room_in_shaped sd hu
    cases hl with
    | lst hs ha =>
      obtain ⟨its, rv, ⟨⟨cls, dd, data, sls⟩, n, ho, hc, hdn, hdt⟩, hlen⟩ := I.list hs
      simp only at hc hdt
      subst hc hdt
      obtain ⟨as, h4⟩ := Dp.readsAll I ds _ its ha rv
      have hmap : its.map (SeqAt.readOf s.heap) = ds := SeqAt.readsAll_map ds its as hxs h4
      refine call_meets PySem.F.slot_list_count ⟨_, ho, rfl⟩ PySem.F.entry_list_count (PySem.F.args_list_count_2 _ _)
        (SeqAt.list_countAt a its.toArray n dd sls uy (fun u => PyData.eqv (SeqAt.readOf s.heap u) d)) ⟨ho, SeqAt.items_eqAt (vs := its.toArray) (show ReadsAll s.heap its.toArray.toList ds as from h4) r1 hxs (SeqAt.canLay_of_shaped sd) hroom, ?_⟩
      have ec : (its.countP fun u => PyData.eqv (SeqAt.readOf s.heap u) d) = ds.countP fun z => PyData.eqv z d := by
        rw [← hmap, List.countP_map]
        rfl
      refine ⟨.int _, H, I.tok _, ⟨s.toks, ?_⟩, q⟩
      show Value.int ((its.toArray.toList.countP (fun u => PyData.eqv (SeqAt.readOf s.heap u) d) : Nat) : Int) s.toks = _
      rw [List.toList_toArray, ec]
def SimM (K : PySem.W.Frag) (r : V → List V → Hp → VK → Prop) (T : String) (f : D → List D → (Sl → Prop) → Prop) : Prop := (∀ (x : D) (v : V) (G H : Hp) (xs : List D) (Φ : Sl → Prop), Same G H → Rp K G v x → f x xs Φ → tyV K T v H) ∧
  ∀ {M : Addr → Prop} {Z G0 H0 G H : Hp} {σ : L2.St} {ρ : List Sl} {F : Nat → Addr → Prop} {v : V} {x : D} {vs : List V} {xs : List D} {Φ : Sl → Prop} {Q : VK}, At K M Z G0 H0 G H σ ρ F → Rp K G v x → RpL K G vs xs → f x xs Φ →
  (∀ u z Fn G' H', At K M Z G0 H0 G' H' σ ρ F → Same G G' → ResOk K Z H0 G' H' F u z Fn → Φ z → Q u H') → r v vs H Q
/-- o.m(e, ..) of a value: what the method wants of its receiver, ty, is asked ahead of the arguments -/
def dMt (ty : D → Prop) (f : D → List D → (Sl → Prop) → Prop) (d : DE) (da : DA) : DR := fun ρ Φ => d ρ fun x ρ1 => ty x ∧ da ρ1 fun xs ρ2 => f x xs fun z => Φ z ρ2
def isL : D → Prop
  | .lst _ => True
  | _ => False
def isS : D → Prop
  | .str _ => True
  | _ => False
theorem tyV_l {K : PySem.W.Frag} {G H : Hp} {v : V} {x : D} (e : Same G H) (r : Rp K G v x) (h : isL x) : tyV K "list" v H := by
  cases r with
  | lst hx px => exact .inl ⟨rfl, _, SqL.of (e _ _ hx)⟩
  | _ => exact h.elim
theorem tyV_s {K : PySem.W.Frag} {G H : Hp} {v : V} {x : D} (e : Same G H) (r : Rp K G v x) (h : isS x) : tyV K "str" v H := by
  cases r with
  | str z => rfl
  | _ => exact h.elim
def SimMt (K : PySem.W.Frag) (r : V → List V → Hp → VK → Prop) (f : D → List D → (Sl → Prop) → Prop) : Prop := ∀ {M : Addr → Prop} {Z G0 H0 G H : Hp} {σ : L2.St} {ρ : List Sl} {F : Nat → Addr → Prop} {v : V} {x : D} {vs : List V} {xs : List D} {Φ : Sl → Prop} {Q : VK}, At K M Z G0 H0 G H σ ρ F → Rp K G v x → RpL K G vs xs → f x xs Φ →
  (∀ u z Fn G' H', At K M Z G0 H0 G' H' σ ρ F → Same G G' → ResOk K Z H0 G' H' F u z Fn → Φ z → Q u H') → r v vs H Q
theorem sim_mt {K : PySem.W.Frag} {T : String} {r : V → List V → Hp → VK → Prop} {f : D → List D → (Sl → Prop) → Prop} {ty : D → Prop} {to : TE} {t : TA} {d : DE} {da : DA} (hty : ∀ {G H : Hp} {v : V} {x : D}, Same G H → Rp K G v x → ty x → tyV K T v H) (hf : SimMt K r f) (h : SimE K to d) (ha : SimA K t da) :
    SimR K (tBM K T r to t) (dMt ty f d da) := fun {M Z G0 H0 G H σ ρ F Φ Q} A hd k => h A hd fun v x ρ1 F1 G1 H1 A1 e1 r1 q1 => ⟨hty A1.gh r1 q1.1, ha A1 q1.2 fun vs xs ρ2 F2 G2 H2 A2 e2 r2 q2 => hf A2 (r1.mono e2) r2 q2 fun u z Fn G3 H3 A3 e3 r3 q3 => k u z Fn ρ2 F2 G3 H3 A3 (e1.trans (e2.trans e3)) r3 q3⟩
/-- the first place of an equal one -/
def indexL (x : D) : List D → Option Nat
  | [] => none
  | y :: r => if D.eqv y x = true then some 0 else match indexL x r with
    | some k => some (k + 1)
    | none => none
def indexD : D → List D → (Sl → Prop) → Prop
  | .lst ds, [y], Φ => D.okL ds 59 = true ∧ y.okN 60 = true ∧ match indexL y ds with
    | some k => Φ (.val (.int k))
    | none => False
  | _, _, _ => False
def countD : D → List D → (Sl → Prop) → Prop
  | .lst ds, [y], Φ => D.okL ds 59 = true ∧ y.okN 60 = true ∧ Φ (.val (.int ((ds.countP fun z => D.eqv z y) : Nat)))
  | _, _, _ => False
theorem indexL_spec {x : D} : ∀ {ds : List D} {k : Nat}, indexL x ds = some k → (∃ z, ds[k]? = some z ∧ D.eqv z x = true) ∧ ∀ m z', m < k → ds[m]? = some z' → D.eqv z' x = false
  | [], k, h => by cases h
  | y :: r, k, h => by
    unfold indexL at h
    by_cases c : D.eqv y x = true
    · rw [if_pos c] at h
      cases h
      exact ⟨⟨y, rfl, c⟩, fun m z' hm _ => absurd hm (Nat.not_lt_zero _)⟩
    · rw [if_neg c] at h
      split at h
      · rename_i j e
        cases h
        obtain ⟨⟨z, h1, h2⟩, h3⟩ := indexL_spec e
        refine ⟨⟨z, h1, h2⟩, fun m z' hm hz => ?_⟩
        cases m with
        | zero =>
          cases hz
          simpa using c
        | succ m => exact h3 m z' (by omega) hz
      · cases h
theorem simm_index {K : PySem.W.Frag} : SimMt K (rIndexD K) indexD := by
  intro M Z G0 H0 G H σ ρ F v x vs xs Φ Q A rx r hf k
  unfold indexD at hf
  split at hf
  · rename_i ds y
    obtain ⟨h1, h2, hf⟩ := hf
    split at hf
    · rename_i j e
      match r with
      | .cons ry .nil =>
        obtain ⟨⟨z, e1, e2⟩, e3⟩ := indexL_spec e
        have o1 : (D.lst ds).okN 60 = true := by simpa [D.okN] using h1
        have d1 := rx.dp A.gh o1
        cases rx with
        | lst hx px =>
          refine ⟨_, _, _, _, j, z.py, rfl, rfl, d1, ry.dp A.gh h2, D.shaped o1, D.shaped h2, ?_, e2, fun m z' hm hz => ?_, k _ _ _ G H A (Same.refl G) (.val (.int _)) hf⟩
          · rw [pyL_map, List.getElem?_map, e1]
            rfl
          · rw [pyL_map, List.getElem?_map] at hz
            cases e4 : ds[m]? with
            | none => rw [e4] at hz; cases hz
            | some w =>
              rw [e4] at hz
              cases hz
              exact e3 m w hm e4
    · exact hf.elim
  · exact hf.elim
theorem simm_count {K : PySem.W.Frag} : SimMt K (rCountD K) countD := by
  intro M Z G0 H0 G H σ ρ F v x vs xs Φ Q A rx r hf k
  unfold countD at hf
  split at hf
  · rename_i ds y
    obtain ⟨h1, h2, hf⟩ := hf
    match r with
    | .cons ry .nil =>
      have o1 : (D.lst ds).okN 60 = true := by simpa [D.okN] using h1
      have d1 := rx.dp A.gh o1
      cases rx with
      | lst hx px =>
        refine ⟨_, _, _, _, rfl, rfl, d1, ry.dp A.gh h2, D.shaped o1, D.shaped h2, ?_⟩
        have e : (D.pyL ds).countP (fun z => PyData.eqv z y.py) = ds.countP fun z => D.eqv z y := by
          rw [pyL_map, List.countP_map]
          rfl
        rw [e]
        exact k _ _ _ G H A (Same.refl G) (.val (.int _)) hf
  · exact hf.elim
section
variable {X : Cx} {o e : Expr} {es : List Expr} {to : TE} {d : DE} {t : TA} {da : DA} {apos cpos : Pos}
theorem pr_index (hu : X.A.units + 65 < cLine) (h : PD X o to d) (ha : PDA X (e :: es) t da) (hbase : attributeBase o "index" X.env (eval o X.env) = eval o X.env := by rfl)
    (hfew : ((backTo cpos (starEach (e :: es) X.env)).all (fun x => !x.1) && (backToKw cpos (keywordEach [] X.env)).all (fun x => x.1.isSome)
      && decide ((e :: es).length + ([] : List Keyword).length + (if ([] : List Keyword).isEmpty then 0 else 1) < 30)) = true := by rfl)
    (hline : (apos.endLine == cpos.line) = true := by rfl) (hs : starEach (e :: es) X.env = (false, eval e X.env) :: starEach es X.env := by rfl) (hplain : (backTo cpos (starEach es X.env)).any (·.1) = false := by rfl) :
    PR X (.Call (.Attribute o "index" apos) (e :: es) [] cpos) (tBM X.K "list" (rIndexD X.K) to t) (dMt isL indexD d da) :=
  ⟨pe_bm PySem.F.plainAttrs_list PySem.F.slot_list_index PySem.F.type_list_index (mt_indexD hu) h.pe ha.pe hbase hfew hline hs hplain, sim_mt tyV_l simm_index h.sim ha.sim⟩
theorem pr_count (hu : X.A.units + 65 < cLine) (h : PD X o to d) (ha : PDA X (e :: es) t da) (hbase : attributeBase o "count" X.env (eval o X.env) = eval o X.env := by rfl)
    (hfew : ((backTo cpos (starEach (e :: es) X.env)).all (fun x => !x.1) && (backToKw cpos (keywordEach [] X.env)).all (fun x => x.1.isSome)
      && decide ((e :: es).length + ([] : List Keyword).length + (if ([] : List Keyword).isEmpty then 0 else 1) < 30)) = true := by rfl)
    (hline : (apos.endLine == cpos.line) = true := by rfl) (hs : starEach (e :: es) X.env = (false, eval e X.env) :: starEach es X.env := by rfl) (hplain : (backTo cpos (starEach es X.env)).any (·.1) = false := by rfl) :
    PR X (.Call (.Attribute o "count" apos) (e :: es) [] cpos) (tBM X.K "list" (rCountD X.K) to t) (dMt isL countD d da) :=
  ⟨pe_bm PySem.F.plainAttrs_list PySem.F.slot_list_count PySem.F.type_list_count (mt_countD hu) h.pe ha.pe hbase hfew hline hs hplain, sim_mt tyV_l simm_count h.sim ha.sim⟩
end
end DL
set_option Elab.async false
set_option linter.all false
set_option maxRecDepth 100000
set_option maxHeartbeats 2000000
namespace DL
open PySem PySem.Spec PyProof.Rows L2 RT
variable [Tabl]

/-! ### [e for ..], each e a new thing of one's own -/
open Classical in
noncomputable def aside (Z H : Hp) (A : List Addr) : Hp := fun a => if a ∈ A then H a else Z a
section
variable {K : PySem.W.Frag} {M : Addr → Prop} {Z G0 H0 G H : Hp} {σ : L2.St} {ρ : List Sl} {F : Nat → Addr → Prop}
theorem At.asideS {A' : List Addr} (A : At K M Z G0 H0 G H σ ρ F) (h : ∀ a ∈ A', G a = none ∧ ∀ i, ¬ F i a) (nt : ∀ a ∈ A', ¬ IsTab a) : At K M (aside Z H A') G0 H0 G H σ ρ F :=
  ⟨A.gh, A.g0, A.h0, A.fr, A.hn, A.len, A.sl, A.no, A.fp, A.dj, fun a u q => by
    unfold aside at q
    split at q
    · rename_i ha
      exact ⟨q, (h a ha).1, (h a ha).2⟩
    · exact A.hz a u q, A.tb, fun a z => ⟨(A.mt a z).1, by
    unfold aside
    rw [if_neg fun q => nt a q z]
    exact (A.mt a z).2.1, (A.mt a z).2.2⟩⟩
/-- less stands aside -/
theorem At.less {Z' : Hp} (A : At K M Z G0 H0 G H σ ρ F) (h : ∀ a u, Z' a = some u → Z a = some u) : At K M Z' G0 H0 G H σ ρ F :=
  ⟨A.gh, A.g0, A.h0, A.fr, A.hn, A.len, A.sl, A.no, A.fp, A.dj, fun a u q => A.hz a u (h a u q), A.tb, fun a z => ⟨(A.mt a z).1, by
    cases q : Z' a with
    | none => rfl
    | some u =>
      have q2 := h a u q
      rw [(A.mt a z).2.1] at q2
      exact absurd q2 (by simp), (A.mt a z).2.2⟩⟩
end
/-- the result of an element as a tree -/
def asT (Φ : OT → List Sl → Prop) : Sl → List Sl → Prop
  | .val d, ρ => Φ (.val d) ρ
  | .own ds, ρ => ∀ p, Φ (.lst p (ds.map OT.val)) ρ
  | .loc t, ρ => Φ t ρ
  | _, _ => False
theorem res_tree {K : PySem.W.Frag} {Z H0 G H : Hp} {F : Nat → Addr → Prop} {v : V} {x : Sl} {Fn : Addr → Prop} {Φ : OT → List Sl → Prop} {ρ : List Sl} (r : ResOk K Z H0 G H F v x Fn) (h : asT Φ x ρ) :
    ∃ t A, Φ t ρ ∧ Own K G H v t A ∧ A.Nodup ∧ ∀ a ∈ A, G a = none ∧ H a ≠ none ∧ H0 a = none ∧ Z a = none ∧ ∀ j, ¬ F j a := by
  cases x with
  | un => exact h.elim
  | arg t => exact h.elim
  | val d =>
    obtain ⟨_, w, e, hr⟩ := r.ok
    cases e
    exact ⟨.val d, [], h, .val hr, List.nodup_nil, fun a ha => nomatch ha⟩
  | own ds =>
    obtain ⟨p, vs, e, hF, hp, hr⟩ := r.ok
    cases e
    obtain ⟨_, A, o, nd, hA⟩ := own_tree hp hr
    exact ⟨_, A, h p, o, nd, fun a ha => r.fr a ((hF a).mpr ((hA a).mpr ha))⟩
  | loc t =>
    obtain ⟨w, e, n, A, o, nd, hA⟩ := r.ok
    cases e
    exact ⟨t, A, h, o, nd, fun a ha => r.fr a ((hA a).mpr ha)⟩
theorem OwnL.snoc {K : PySem.W.Frag} {G H : Hp} {v : V} {t : OT} {B : List Addr} (r : Own K G H v t B) : ∀ {vs : List V} {ts : List OT} {A : List Addr}, OwnL K G H vs ts A → OwnL K G H (vs ++ [v]) (ts ++ [t]) (A ++ B)
  | _, _, _, .nil => by
    have := OwnL.cons r (OwnL.nil (K := K) (G := G) (H := H))
    simpa using this
  | _, _, _, .cons (A := A) (B := B') h s => by
    rw [List.append_assoc]
    exact .cons h (OwnL.snoc r s)
def dLcOL (vs : List Nat) (g : DG) (te : DR) : List D → List OT → List Sl → (List OT → List Sl → Prop) → Prop
  | [], acc, ρ, Φ => Φ acc ρ
  | x :: xs, acc, ρ, Φ => g x (wipeR ρ vs) fun ρ2 => te ρ2 (asT fun t ρ4 => clean ρ4 vs ∧ dLcOL vs g te xs (acc ++ [t]) ρ4 Φ)
@[irreducible] def dLcO (di : DI) (g : DG) (te : DR) (vs : List Nat) : DR := fun ρ Φ => di ρ fun ds ρ1 => ds.length ≤ 1000000 ∧ clean ρ1 vs ∧ dLcOL vs g te ds [] ρ1 fun acc ρ2 => ∀ p, Φ (.loc (.lst p acc)) (restR ρ1 ρ2 vs)
theorem sim_lcO {K : PySem.W.Frag} {wi : TI} {di : DI} {g : TG} {dg : DG} {te : TE} {de : DR} {vs : List Nat} (hi : SimI K wi di) (hg : SimG K g dg) (hm : MonoG g) (hs : Sets vs g) (he : SimR K te de) : SimR K (tLc wi g tYes te vs) (dLcO di dg de vs) := by
  intro M Z G0 H0 G H σ ρ F Φ Q A hd k
  unfold dLcO at hd
  refine hi A hd fun J ds ρ1 F1 G1 H1 A1 e1 w ⟨hz, hc, q1⟩ => ?_
  intro D hD
  have zD : Z D = none := by
    cases q : Z D with
    | none => rfl
    | some o =>
      have := (A1.hz D o q).1
      rw [hD] at this
      cases this
  have hD0 : H0 D = none := by
    cases q : H0 D with
    | none => rfl
    | some o => exact absurd hD (A1.hn D (by rw [q]; exact Option.some_ne_none _))
  refine lc_it w (fun i H' => ∃ ρ' F' G' accv acc B, At K M (aside (upd Z D (.lst accv)) H' B) G0 H0 G' H' (L2.wipe σ vs) (wipeR ρ' vs) F' ∧ Same G1 G' ∧ H' D = some (.lst accv) ∧ OwnL K G' H' accv acc B ∧ B.Nodup ∧ D ∉ B ∧ (∀ a ∈ B, H' a ≠ none ∧ H0 a = none ∧ Z a = none ∧ G' a = none ∧ ∀ j, ¬ F' j a) ∧ acc.length ≤ i ∧ ρ'.length = ρ1.length ∧
      dLcOL vs dg de (ds.drop i) acc ρ' fun acc ρ2 => ∀ p, Φ (.loc (.lst p acc)) (restR ρ1 ρ2 vs))
    ⟨ρ1, F1, G1, [], [], [], ((A1.hide hD).wipe hc rfl).less (fun a u q => by unfold aside at q; rw [if_neg (by simp)] at q; exact q), Same.refl G1, upd_same, .nil, List.nodup_nil, by simp, (fun a ha => absurd ha (by simp)), Nat.le_refl _, rfl, q1⟩ (fun i H' _ ⟨ρ', F', G', accv, acc, B, A', e', _⟩ => e'.trans A'.gh) ?_ ?_
  · rintro i x H' H'' hi ⟨ρ', F', G', accv, acc, B, A', e', hDl, oB, ndB, nDB, fB, hl, hln, q'⟩ ⟨rfl, d, hd1, hr⟩
    have hlt : i < ds.length := hi
    have hdr : ds.drop i = d :: ds.drop (i + 1) := by
      rw [List.drop_eq_getElem_cons hlt]
      rw [List.getElem?_eq_getElem hlt] at hd1
      rw [Option.some.inj hd1]
    rw [hdr] at q'
    refine hm _ _ _ _ _ (fun σ' H2 ⟨z1, z2⟩ => ?_) (hs _ _ _ _ (hg (Q := fun σ' H2 => ∃ ρ2 F2 G2, At K M (aside (upd Z D (.lst accv)) H'' B) G0 H0 G2 H2 σ' ρ2 F2 ∧ Same G' G2 ∧ de ρ2 (asT fun t ρ4 => clean ρ4 vs ∧ dLcOL vs dg de (ds.drop (i + 1)) (acc ++ [t]) ρ4 (fun acc ρ2 => ∀ p, Φ (.loc (.lst p acc)) (restR ρ1 ρ2 vs))))
      A' (hr.mono e') q' fun σ2 ρ2 F2 G2 H2 A2 e2 q2 => ⟨ρ2, F2, G2, A2, e2, q2⟩))
    obtain ⟨ρ2, F2, G2, A2, e2, q2⟩ := z2
    have zw : L2.wipe σ' vs = L2.wipe σ vs := by
      rw [z1]
      exact wipe_ext (by rw [wipe_length]) fun j hj => by rw [wipe_get, if_neg hj]
    refine ⟨zw, ?_⟩
    unfold tYes
    dsimp only
    rw [if_pos rfl]
    have len2 : ρ2.length = ρ1.length := by rw [← A2.len, (wipe_off zw).1]; exact A1.len
    refine he A2 q2 fun v y Fn ρ4 F4 G4 H4 A4 e4 r4 q4 => ?_
    obtain ⟨t, C, ⟨c4, q5⟩, oC, ndC, fC⟩ := res_tree r4 q4
    have eG4 : Same G' G4 := e2.trans e4
    -- what stood aside stands
    have keepB : ∀ a ∈ B, H4 a = H'' a ∧ G4 a = none ∧ ∀ j, ¬ F4 j a := fun a ha => by
      cases q : H'' a with
      | none => exact absurd q (fB a ha).1
      | some u =>
        have hz4 : aside (upd Z D (.lst accv)) H'' B a = some u := by
          unfold aside
          rw [if_pos ha]
          exact q
        obtain ⟨h1, h2, h3⟩ := A4.hz a u hz4
        exact ⟨h1, h2, h3⟩
    have zD4 : aside (upd Z D (.lst accv)) H'' B D = some (.lst accv) := by
      unfold aside
      rw [if_neg nDB, upd_same]
    obtain ⟨hD4, gD4, fD4⟩ := A4.hz D _ zD4
    have dCB : ∀ a ∈ C, a ∉ B ∧ a ≠ D := fun a ha => by
      obtain ⟨_, h2, _, h4, _⟩ := fC a ha
      refine ⟨fun hb => ?_, fun e => ?_⟩
      · unfold aside at h4
        rw [if_pos hb] at h4
        exact (fB a hb).1 h4
      · subst e
        rw [zD4] at h4
        cases h4
    have oB4 : OwnL K G4 H4 accv acc B := oB.st eG4 fun a ha => (keepB a ha).1
    have hlv := oB4.len
    refine ⟨accv, hD4, line_lt (by omega), ρ4, F4, G4, accv ++ [v], acc ++ [t], B ++ C, ?_, e'.trans eG4, upd_same, ?_, ?_, ?_, ?_, ?_, ?_, q5⟩
    · have A5 : At K M (upd (aside Z H4 (B ++ C)) D (.lst accv)) G0 H0 G4 H4 σ' ρ4 F4 := by
        have A6 := A4.asideS (A' := D :: (B ++ C)) (fun a ha => by
          rcases List.mem_cons.mp ha with e | ha
          · rw [e]; exact ⟨gD4, fD4⟩
          · rcases List.mem_append.mp ha with hb | hc
            · exact (keepB a hb).2
            · exact ⟨(fC a hc).1, (fC a hc).2.2.2.2⟩) fun a ha => by
          rcases List.mem_cons.mp ha with e | ha
          · rw [e]
            intro z
            obtain ⟨_, ps, q⟩ := A4.tb.at z
            rw [hD4] at q
            cases q
          · rcases List.mem_append.mp ha with hb | hc
            · exact OwnL.nt A4.tb oB4 a hb
            · exact A4.n0 (fC a hc).2.2.1
        refine A6.less fun a u q => ?_
        unfold aside
        by_cases e : a = D
        · rw [if_pos (by rw [e]; exact List.mem_cons_self)]
          rw [e, upd_same] at q
          rw [e, hD4]
          exact q
        · rw [upd_ne e] at q
          unfold aside at q
          by_cases hb : a ∈ B ++ C
          · rw [if_pos hb] at q
            rw [if_pos (List.mem_cons_of_mem _ hb)]
            exact q
          · rw [if_neg hb] at q
            rw [if_neg (by simp only [List.mem_cons, not_or]; exact ⟨e, hb⟩), if_neg fun z => hb (List.mem_append_left _ z), upd_ne e]
            exact q
      have A7 := (A5.rehide (o' := .lst (accv ++ [v])) hD0).wipe c4 zw
      refine A7.less fun a u q => ?_
      unfold aside at q ⊢
      by_cases e : a = D
      · rw [e, upd_same]
        rw [e, if_neg (by simp only [List.mem_append, not_or]; exact ⟨nDB, fun z => (dCB D z).2 rfl⟩), upd_same] at q
        exact q
      · rw [upd_ne e]
        by_cases hb : a ∈ B ++ C
        · rw [if_pos hb, upd_ne e] at q
          rw [if_pos hb]
          exact q
        · rw [if_neg hb, upd_ne e] at q
          rw [if_neg hb]
          exact q
    · exact (oB4.snoc oC).st (Same.refl G4) fun a ha => upd_ne fun e => by
        rcases List.mem_append.mp ha with hb | hc
        · exact nDB (by rw [← e]; exact hb)
        · exact (dCB a hc).2 e
    · exact List.nodup_append.mpr ⟨ndB, ndC, fun a ha c hc e => (dCB c hc).1 (by rw [← e]; exact ha)⟩
    · intro z
      rcases List.mem_append.mp z with hb | hc
      · exact nDB hb
      · exact (dCB D hc).2 rfl
    · intro a ha
      have ne : a ≠ D := fun e => by
        rcases List.mem_append.mp ha with hb | hc
        · exact nDB (by rw [← e]; exact hb)
        · exact (dCB a hc).2 e
      rw [upd_ne ne]
      rcases List.mem_append.mp ha with hb | hc
      · obtain ⟨h1, h2, h3, h4, h5⟩ := fB a hb
        obtain ⟨g1, g2, g3⟩ := keepB a hb
        exact ⟨by rw [g1]; exact h1, h2, h3, g2, g3⟩
      · obtain ⟨h1, h2, h3, h4, h5⟩ := fC a hc
        refine ⟨h2, h3, ?_, h1, h5⟩
        unfold aside at h4
        rw [if_neg (dCB a hc).1, upd_ne ne] at h4
        exact h4
    · rw [List.length_append, List.length_singleton]
      omega
    · rw [← A4.len, A2.len]
      exact len2
  · rintro H' ⟨ρ', F', G', accv, acc, B, A', e', hDl, oB, ndB, nDB, fB, hl, hln, q'⟩
    rw [List.drop_length] at q'
    have zD' : aside (upd Z D (.lst accv)) H' B D = some (.lst accv) := by
      unfold aside
      rw [if_neg nDB, upd_same]
    obtain ⟨_, gD, fD⟩ := A'.hz D _ zD'
    have A2 : At K M Z G0 H0 G' H' (L2.wipe σ vs) (wipeR ρ' vs) F' := A'.less fun a u q => by
      unfold aside
      have nb : a ∉ B := fun z => by
        rw [(fB a z).2.2.1] at q
        cases q
      rw [if_neg nb, upd_ne (ne_of_none q zD)]
      exact q
    have B2 := A2.rest A1 hc hln.symm e'
    exact k (.ref D) (.loc (.lst D acc)) (fun a => a ∈ D :: B) _ F' G' H' B2 (e1.trans e') ⟨⟨_, rfl, rfl, D :: B, .lst hDl oB, List.nodup_cons.mpr ⟨nDB, ndB⟩, fun _ => Iff.rfl⟩, fun z => z, fun a ha => by
      rcases List.mem_cons.mp ha with e | hb
      · subst e
        exact ⟨gD, by rw [hDl]; exact Option.some_ne_none _, hD0, zD, fD⟩
      · obtain ⟨h1, h2, h3, h4, h5⟩ := fB a hb
        exact ⟨h4, h1, h2, h3, h5⟩⟩ (q' D)
section
variable {X : Cx}
theorem pr_lcO {elt tg iter : Expr} {scope : Scope} {pos : Pos} {wi : TI} {di : DI} {g : Shared → Hp → Addr → List (Str × Addr) → List Addr → TG} {dg : DG} {te : Shared → Hp → Addr → List (Str × Addr) → List Addr → TE} {de : DR} (own : List (Str × Nat)) (hN : X.N.Nodup) (hi : PDI X tg iter wi di) (ok : BlkOk X.N X.env.scope scope own)
    (hg : ∀ (s : Shared) (H : Hp) (C : Addr) (cl : List (Str × Addr)) (fp : List Addr), PDG (X.blk s H scope (compEnvC scope cl C X.env) fp) tg (g s H C cl fp) dg) (hm : MonoG (g X.s_0 X.H_0 0 [] [])) (hst : Sets (own.map (·.2)) (g X.s_0 X.H_0 0 [] []))
    (he : ∀ (s : Shared) (H : Hp) (C : Addr) (cl : List (Str × Addr)) (fp : List Addr), PR (X.blk s H scope (compEnvC scope cl C X.env) fp) elt (te s H C cl fp) de)
    (hgE : ∀ (s : Shared) (H : Hp) (C : Addr) (cl : List (Str × Addr)) (fp : List Addr), g s H C cl fp = g X.s_0 X.H_0 0 [] [] := by intros; rfl) (heE : ∀ (s : Shared) (H : Hp) (C : Addr) (cl : List (Str × Addr)) (fp : List Addr), te s H C cl fp = te X.s_0 X.H_0 0 [] [] := by intros; rfl)
    (hc : X.calm = true := by rfl) (hs : ∀ x, foldedSetIterable iter X.env x = pure x := by intro _; rfl) : PR X (.ListComp elt [⟨tg, iter, [], 0⟩] scope pos) (tLc wi (g X.s_0 X.H_0 0 [] []) tYes (te X.s_0 X.H_0 0 [] []) (own.map (·.2))) (dLcO di dg de (own.map (·.2))) :=
  ⟨pe_lc hc hN hi.pi ok (fun s H C cl fp => hgE s H C cl fp ▸ (hg s H C cl fp).pg) (fun s H C cl fp => pts_nil) (fun s H C cl fp => heE s H C cl fp ▸ (he s H C cl fp).pe) hs,
    sim_lcO hi.sim (hg X.s_0 X.H_0 0 [] []).sim hm hst (he X.s_0 X.H_0 0 [] []).sim⟩
theorem pd_setLcO {i : Nat} {y : Str} {py : Pos} {elt tg iter : Expr} {scope : Scope} {pos spos : Pos} {wi : TI} {di : DI} {g : Shared → Hp → Addr → List (Str × Addr) → List Addr → TG} {dg : DG} {te : Shared → Hp → Addr → List (Str × Addr) → List Addr → TE} {de : DR} (own : List (Str × Nat)) (hN : X.N.Nodup) (hyl : X.env.scope.names.lookup y = some .local)
    (hsw : swapsWith (.ListComp elt [⟨tg, iter, [], 0⟩] scope pos) (some (.Name y py)) spos.line X.env = pure true) (hi : PDI X tg iter wi di) (ok : BlkOk X.N X.env.scope scope own)
    (hg : ∀ (s : Shared) (H : Hp) (C : Addr) (cl : List (Str × Addr)) (fp : List Addr), PDG (X.blk s H scope (compEnvC scope cl C X.env) fp) tg (g s H C cl fp) dg) (hm : MonoG (g X.s_0 X.H_0 0 [] [])) (hst : Sets (own.map (·.2)) (g X.s_0 X.H_0 0 [] []))
    (he : ∀ (s : Shared) (H : Hp) (C : Addr) (cl : List (Str × Addr)) (fp : List Addr), PR (X.blk s H scope (compEnvC scope cl C X.env) fp) elt (te s H C cl fp) de)
    (hgE : ∀ (s : Shared) (H : Hp) (C : Addr) (cl : List (Str × Addr)) (fp : List Addr), g s H C cl fp = g X.s_0 X.H_0 0 [] [] := by intros; rfl) (heE : ∀ (s : Shared) (H : Hp) (C : Addr) (cl : List (Str × Addr)) (fp : List Addr), te s H C cl fp = te X.s_0 X.H_0 0 [] [] := by intros; rfl)
    (hy : X.N[i]? = some y := by rfl) (hc : X.calm = true := by rfl) (hs : ∀ x, foldedSetIterable iter X.env x = pure x := by intro _; rfl) :
    PDS X (.Assign [.Name y py] (.ListComp elt [⟨tg, iter, [], 0⟩] scope pos) spos) (tAsg (tLc wi (g X.s_0 X.H_0 0 [] []) tYes (te X.s_0 X.H_0 0 [] []) (own.map (·.2))) (gName i)) (dSet i (dLcO di dg de (own.map (·.2)))) :=
  ⟨ps_setLc hc hN hy hyl hsw hi.pi ok (fun s H C cl fp => hgE s H C cl fp ▸ (hg s H C cl fp).pg) (fun s H C cl fp => pts_nil) (fun s H C cl fp => heE s H C cl fp ▸ (he s H C cl fp).pe) hs,
    sim_set (sim_lcO hi.sim (hg X.s_0 X.H_0 0 [] []).sim hm hst (he X.s_0 X.H_0 0 [] []).sim)⟩
end
end DL
set_option Elab.async false
set_option linter.all false
set_option maxRecDepth 100000
set_option maxHeartbeats 2000000
namespace DL
open PySem PySem.Spec PyProof.Rows L2 RT
variable [Tabl]

/-! ### a thing of one's own lent to a call that gives no more than a number, a text, a truth value -/
def D.scalar : D → Bool
  | .non => true
  | .bl _ => true
  | .int _ => true
  | .str _ => true
  | _ => false
theorem Rp.sc {K : PySem.W.Frag} {G G' : Hp} {v : V} {d : D} (r : Rp K G v d) (h : d.scalar = true) : Rp K G' v d := by
  cases r with
  | non => exact .non
  | bl b => exact .bl b
  | int i => exact .int i
  | str s => exact .str s
  | _ => exact absurd h (by simp [D.scalar])
/-- what a slot of one's own holds, as data -/
def ownD : Option Sl → Option D
  | some (.own ds) => some (.lst ds)
  | some (.loc t) => t.toD
  | _ => none
theorem same_knowA {G H : Hp} {B : List Addr} (e : Same G H) : Same G (knowA G H B) ∧ Same (knowA G H B) H := by
  refine ⟨fun a o h => ?_, fun a o h => ?_⟩
  · unfold knowA
    by_cases c : a ∈ B
    · rw [if_pos c]; exact e a o h
    · rw [if_neg c]; exact h
  · unfold knowA at h
    split at h
    · exact h
    · exact e a o h
theorem top_knowA {G H : Hp} {B : List Addr} (e : Top G H) (nt : ∀ a ∈ B, ¬ IsTab a) : Top (knowA G H B) H :=
  ⟨(same_knowA e.s).2, e.t.up (same_knowA e.s).1 (fun a z => by
    unfold knowA
    rw [if_neg fun q => nt a q z]
    exact (e.t.at z).1) fun _ _ => rfl⟩
/-- of what is known in Gp, the described things are known in G -/
def ExtK (Gp G : Hp) : Prop := ∀ a φ, Gp a = some (.ext φ) → G a = some (.ext φ)
theorem ExtK.refl (G : Hp) : ExtK G G := fun _ _ h => h
theorem ExtK.trans {A B C : Hp} (a : ExtK A B) (b : ExtK B C) : ExtK A C := fun c φ h => b c φ (a c φ h)
mutual
theorem Own.nx {K : PySem.W.Frag} {G H : Hp} : ∀ {v : V} {t : OT} {A : List Addr}, Own K G H v t A → ∀ a ∈ A, ∀ φ, H a ≠ some (.ext φ)
  | _, _, _, .val _, _, h => nomatch h
  | _, _, _, .lst h r, a, ha => fun φ z => by
    rcases List.mem_cons.mp ha with e | ha
    · rw [e, h] at z
      cases z
    · exact OwnL.nx r a ha φ z
  | _, _, _, .tup _ r, a, ha => OwnL.nx r a ha
  | _, _, _, .dic h _, a, ha => fun φ z => by
    rw [List.mem_singleton.mp ha, h] at z
    cases z
  | _, _, _, .ins h h2 r, a, ha => fun φ z => by
    rcases List.mem_cons.mp ha with e | ha
    · rw [e, h] at z
      cases z
    · rcases List.mem_cons.mp ha with e | ha
      · rw [e, h2] at z
        cases z
      · exact OwnF.nx r a ha φ z
theorem OwnL.nx {K : PySem.W.Frag} {G H : Hp} : ∀ {v : List V} {t : List OT} {A : List Addr}, OwnL K G H v t A → ∀ a ∈ A, ∀ φ, H a ≠ some (.ext φ)
  | _, _, _, .nil, _, h => nomatch h
  | _, _, _, .cons h r, a, ha => by
    rcases List.mem_append.mp ha with ha | ha
    · exact Own.nx h a ha
    · exact OwnL.nx r a ha
theorem OwnF.nx {K : PySem.W.Frag} {G H : Hp} : ∀ {v : List (Str × V)} {t : List (Str × OT)} {A : List Addr}, OwnF K G H v t A → ∀ a ∈ A, ∀ φ, H a ≠ some (.ext φ)
  | _, _, _, .nil, _, h => nomatch h
  | _, _, _, .cons h r, a, ha => by
    rcases List.mem_append.mp ha with ha | ha
    · exact Own.nx h a ha
    · exact OwnF.nx r a ha
end
theorem extK_knowA {G H : Hp} {B : List Addr} (nx : ∀ a ∈ B, ∀ φ, H a ≠ some (.ext φ)) : ExtK (knowA G H B) G := fun a φ h => by
  unfold knowA at h
  split at h
  · rename_i hb
    exact absurd h (nx a hb φ)
  · exact h
/-- tables behind a call that was lent things -/
theorem tab_lent {Gp G Gp2 G2 H H2 : Hp} (t : TabG Gp2 H2) (tg : TabG G H) (x : ExtK Gp G) (old : ∀ a, H a ≠ none → Gp2 a = Gp a) (g3 : ∀ a, H a ≠ none → G2 a = G a) (g4 : ∀ a, H a = none → G2 a = Gp2 a) : TabG G2 H2 := fun p hp => by
  obtain ⟨_, ps, h2, h3, h4⟩ := t p hp
  refine ⟨(g3 _ (tg.ne ⟨p, hp, rfl⟩)).trans (tg.at ⟨p, hp, rfl⟩).1, ps, h2, h3, fun pos cv hc => ?_⟩
  obtain ⟨c, e1, e2⟩ := h4 pos cv hc
  refine ⟨c, e1, ?_⟩
  by_cases n : H c = none
  · rw [g4 c n]
    exact e2
  · rw [g3 c n]
    rw [old c n] at e2
    exact x c _ e2
/-- a slot of one's own, read as data over a heap that knows more -/
theorem At.lend {K : PySem.W.Frag} {M : Addr → Prop} {Z G0 H0 G H Gp : Hp} {σ : L2.St} {ρ : List Sl} {F : Nat → Addr → Prop} {i : Nat} {d : D} (A : At K M Z G0 H0 G H σ ρ F) (h : ownD (ρ[i]?) = some d) (e : Same G Gp) (e2 : Top Gp H) :
    ∃ v G2, σ[i]? = some (some v) ∧ Same Gp G2 ∧ Top G2 H ∧ ExtK G2 Gp ∧ Rp K G2 v d := by
  unfold ownD at h
  split at h
  · rename_i ds eq
    cases h
    obtain ⟨p, vs, h1, h2, h3, h4, h5, h6⟩ := A.own_at eq
    have k1 := (same_knowA (B := [p]) e2.s).1
    have k2 := top_knowA (B := [p]) e2 fun a ha => by rw [List.mem_singleton.mp ha]; exact A.n0 h6
    refine ⟨.ref p, knowA Gp H [p], h1, k1, k2, extK_knowA (fun a ha φ z => by rw [List.mem_singleton.mp ha, h3] at z; cases z), .lst ?_ (h4.mono (e.trans k1))⟩
    unfold knowA
    rw [if_pos (by simp)]
    exact h3
  · rename_i t eq
    obtain ⟨v, e1, n, B, o, nd, hB⟩ := A.sl i _ eq
    have k1 := (same_knowA (B := B) e2.s).1
    have k2 := top_knowA (B := B) e2 fun a ha => A.nt ((hB a).mpr ha)
    exact ⟨v, knowA Gp H B, join_some e1, k1, k2, extK_knowA (Own.nx o), o.rp h (e.trans k1) fun a ha => by
      unfold knowA
      rw [if_pos ha]⟩
  · cases h
def SimAb (K : PySem.W.Frag) (t : TA) (d : DA) : Prop := ∀ {M : Addr → Prop} {Z G0 H0 G H : Hp} {σ : L2.St} {ρ : List Sl} {F : Nat → Addr → Prop} {Φ : List D → List Sl → Prop} {Q : List V → Hp → Prop}, At K M Z G0 H0 G H σ ρ F → d ρ Φ →
  (∀ vs xs ρ' F' G' Gp H', At K M Z G0 H0 G' H' σ ρ' F' → Same G G' → Same G' Gp → Top Gp H' → ExtK Gp G' → RpL K Gp vs xs → Φ xs ρ' → Q vs H') → t σ H Q
structure PDAb (X : Cx) (es : List Expr) (t : TA) (d : DA) : Prop where
  pe : PA X es t
  sim : SimAb X.K t d
@[irreducible] def dbOwn (i : Nat) (d : DA) : DA := fun ρ Φ => match ownD (ρ[i]?) with
  | some _ => d ρ fun xs ρ1 => match ownD (ρ1[i]?) with
    | some y => Φ (y :: xs) ρ1
    | none => False
  | none => False
/-- f(..), things of one's own lent -/
def dCallBr (f : DF) (d : DA) : DE := fun ρ Φ => d ρ fun xs ρ1 => f xs fun r => match r with
  | .val x => x.scalar = true ∧ Φ x ρ1
  | _ => False
section
variable {K : PySem.W.Frag}
theorem sim_bnil : SimAb K tNil dNil := fun {M Z G0 H0 G H σ ρ F Φ Q} A hd k => k [] [] ρ F G G H A (Same.refl G) (Same.refl G) A.top (ExtK.refl G) .nil hd
theorem sim_bcons {t : TE} {ta : TA} {d : DE} {da : DA} (h : SimE K t d) (ha : SimAb K ta da) : SimAb K (tCons t ta) (dCons d da) := fun {M Z G0 H0 G H σ ρ F Φ Q} A hd k =>
  h A hd fun v x ρ1 F1 G1 H1 A1 e1 r1 q1 => ha A1 q1 fun vs xs ρ2 F2 G2 Gp H2 A2 e2 ep ep2 ex r2 q2 => k _ _ ρ2 F2 G2 Gp H2 A2 (e1.trans e2) ep ep2 ex (.cons (r1.mono (e2.trans ep)) r2) q2
theorem sim_bown {i : Nat} {ta : TA} {da : DA} (ha : SimAb K ta da) : SimAb K (tCons (tVar i) ta) (dbOwn i da) := by
  intro M Z G0 H0 G H σ ρ F Φ Q A hd k
  unfold dbOwn at hd
  split at hd
  · rename_i y0 e0
    obtain ⟨v, _, h1, _⟩ := A.lend e0 (Same.refl G) A.top
    refine ⟨v, h1, ha A hd fun vs xs ρ1 F1 G1 Gp H1 A1 e1 ep ep2 ex r1 q1 => ?_⟩
    split at q1
    · rename_i y e2
      obtain ⟨w, G2, h2, k1, k2, k3, r⟩ := A1.lend e2 ep ep2
      rw [h1] at h2
      cases h2
      exact k _ _ ρ1 F1 G1 G2 H1 A1 e1 (ep.trans k1) k2 (k3.trans ex) (.cons r (r1.mono k1)) q1
    · exact q1.elim
  · exact hd.elim
theorem sim_callBr {f : DF} {t : TA} {d : DA} {E : XK} (h : SimAb K t d) : SimE K (tCall (SpV K f) [] E t) (dCallBr f d) := by
  intro M Z G0 H0 G H σ ρ F Φ Q A hd k
  refine h A hd fun vs xs ρ1 F1 G1 Gp H1 A1 e1 ep ep2 ex r1 q1 => ?_
  rw [List.append_nil]
  refine ⟨Gp, xs, _, ep2, r1, q1, fun v r Fr Gp2 H2 eG eH eGH old hr q2 => ?_⟩
  cases r with
  | val x =>
    obtain ⟨hs, q2⟩ := q2
    obtain ⟨_, w, ew, rw'⟩ := hr.ok
    cases ew
    have hG : ∃ G2 : Hp, Same G1 G2 ∧ Same G2 H2 ∧ (∀ a, H1 a ≠ none → G2 a = G1 a) ∧ ∀ a, H1 a = none → G2 a = Gp2 a := by
      classical
      refine ⟨fun a => if H1 a = none then Gp2 a else G1 a, fun a o q => ?_, fun a o q => ?_, fun a n => if_neg n, fun a n => if_pos n⟩
      · show (if H1 a = none then Gp2 a else G1 a) = some o
        rw [if_neg (by rw [A1.gh a o q]; exact Option.some_ne_none _)]
        exact q
      · have q' : (if H1 a = none then Gp2 a else G1 a) = some o := q
        split at q'
        · exact eGH a o q'
        · exact eH.k a o (A1.gh a o q') fun z => by rw [(A1.tb.at z).1] at q'; cases q'
    obtain ⟨G2, g1, g2, g3, g4⟩ := hG
    exact k v x ρ1 F1 G2 H2 (A1.growT g1 ⟨eH.k, tab_lent eH.t A1.tb ex old g3 g4⟩ g2 g3) (e1.trans g1) (rw'.sc hs) q2
  | _ => exact q2.elim
end
/-- x == e, x one's own -/
@[irreducible] def dCmpOwn (f : D → D → (D → Prop) → Prop) (i : Nat) (d : DE) : DE := fun ρ Φ => match ownD (ρ[i]?) with
  | some _ => d ρ fun y ρ1 => match ownD (ρ1[i]?) with
    | some x => f x y fun z => Φ z ρ1
    | none => False
  | none => False
theorem sim_eqOwn {K : PySem.W.Frag} {i : Nat} {t : TE} {d : DE} (h : SimE K t d) : SimE K (tOp (rEqD K) (tVar i) t) (dCmpOwn eqD i d) := by
  intro M Z G0 H0 G H σ ρ F Φ Q A hd k
  unfold dCmpOwn at hd
  split at hd
  · rename_i y0 e0
    obtain ⟨v, _, h1, _⟩ := A.lend e0 (Same.refl G) A.top
    refine ⟨v, h1, h A hd fun w y ρ1 F1 G1 H1 A1 e1 r1 q1 => ?_⟩
    split at q1
    · rename_i x e2
      obtain ⟨v', G2, h2, k1, ⟨k2, _⟩, _, r⟩ := A1.lend e2 (Same.refl G1) A1.top
      rw [h1] at h2
      cases h2
      obtain ⟨o1, o2, q1⟩ := q1
      exact ⟨_, _, r.dp k2 o1, r1.dp A1.gh o2, D.shaped o1, D.shaped o2, k _ _ ρ1 F1 G1 H1 A1 e1 (.bl _) q1⟩
    · exact q1.elim
  · exact hd.elim
theorem sim_neOwn {K : PySem.W.Frag} {i : Nat} {t : TE} {d : DE} (h : SimE K t d) : SimE K (tOp (rNeD K) (tVar i) t) (dCmpOwn neD i d) := by
  intro M Z G0 H0 G H σ ρ F Φ Q A hd k
  unfold dCmpOwn at hd
  split at hd
  · rename_i y0 e0
    obtain ⟨v, _, h1, _⟩ := A.lend e0 (Same.refl G) A.top
    refine ⟨v, h1, h A hd fun w y ρ1 F1 G1 H1 A1 e1 r1 q1 => ?_⟩
    split at q1
    · rename_i x e2
      obtain ⟨v', G2, h2, k1, ⟨k2, _⟩, _, r⟩ := A1.lend e2 (Same.refl G1) A1.top
      rw [h1] at h2
      cases h2
      obtain ⟨o1, o2, q1⟩ := q1
      exact ⟨_, _, r.dp k2 o1, r1.dp A1.gh o2, D.shaped o1, D.shaped o2, k _ _ ρ1 F1 G1 H1 A1 e1 (.bl _) q1⟩
    · exact q1.elim
  · exact hd.elim
section
variable {X : Cx} {k : Nat} {f : DF} {fa : Addr} {fd : FuncData} {ps : List Str} {x y : Str} {e a b : Expr} {es : List Expr} {t : TA} {d : DA} {te : TE} {de : DE} {p pos q : Pos}
theorem pdab_nil : PDAb X [] tNil dNil := ⟨pa_nil, sim_bnil⟩
theorem pdab_cons (h : PD X e te de) (ha : PDAb X es t d) (hs : starEach (e :: es) X.env = (false, eval e X.env) :: starEach es X.env := by rfl) : PDAb X (e :: es) (tCons te t) (dCons de d) := ⟨pa_cons h.pe ha.pe hs, sim_bcons h.sim ha.sim⟩
theorem pdab_own (i : Nat) (ha : PDAb X es t d) (hN : X.N[i]? = some x := by rfl) (hv : Vis X.env.scope x := by first | exact Or.inl rfl | exact Or.inr (Or.inl rfl) | exact Or.inr (Or.inr rfl)) (hd : (x == ("__debug__" : Str)) = false := by decide)
    (hcd : (x == ("__classdict__" : Str)) = false := by decide) (hs : starEach (.Name x p :: es) X.env = (false, eval (.Name x p) X.env) :: starEach es X.env := by rfl) : PDAb X (.Name x p :: es) (tCons (tVar i) t) (dbOwn i d) := ⟨pa_cons (pe_var hN hv hd hcd) ha.pe hs, sim_bown ha.sim⟩
theorem pd_callBr (G : FnOk X.prog X.w X.K X.mg X.base CX0 k fa fd ps (SpV X.K f)) (hr : Room k X.A) (hm : X.mg x = some (.ref fa)) (hk : PySem.W.keepIn X.K (.ref fa) = true) (hb : Binds X.K fd ps []) (ha : PDAb X (e :: es) t d) (hg : Gl X x := by rfl)
    (hdb : (x == ("__debug__" : Str)) = false := by decide) (hs : starEach (e :: es) X.env = (false, eval e X.env) :: starEach es X.env := by rfl) (hpl : (backTo pos (starEach es X.env)).any (·.1) = false := by rfl) :
    PD X (.Call (.Name x p) (e :: es) [] pos) (tCall (SpV X.K f) [] E0 t) (dCallBr f d) := ⟨pe_call G hr hg hm hk hb .nil pass0 ha.pe hdb hs hpl, sim_callBr ha.sim⟩
theorem pd_eqOwn (i : Nat) (hu : X.A.units + 64 < cLine) (hb : PD X b te de) (hN : X.N[i]? = some x := by rfl) (hv : Vis X.env.scope x := by first | exact Or.inl rfl | exact Or.inr (Or.inl rfl) | exact Or.inr (Or.inr rfl)) (hd : (x == ("__debug__" : Str)) = false := by decide)
    (hcd : (x == ("__classdict__" : Str)) = false := by decide) : PD X (.Compare (.Name x p) [.Eq] [b] pos) (tOp (rEqD X.K) (tVar i) te) (dCmpOwn eqD i de) := ⟨pe_cmpR (op_eqD hu) (pe_var hN hv hd hcd) hb.pe (nomark _), sim_eqOwn hb.sim⟩
theorem pd_neOwn (i : Nat) (hu : X.A.units + 64 < cLine) (hb : PD X b te de) (hN : X.N[i]? = some x := by rfl) (hv : Vis X.env.scope x := by first | exact Or.inl rfl | exact Or.inr (Or.inl rfl) | exact Or.inr (Or.inr rfl)) (hd : (x == ("__debug__" : Str)) = false := by decide)
    (hcd : (x == ("__classdict__" : Str)) = false := by decide) : PD X (.Compare (.Name x p) [.NotEq] [b] pos) (tOp (rNeD X.K) (tVar i) te) (dCmpOwn neD i de) := ⟨pe_cmpR (op_neD hu) (pe_var hN hv hd hcd) hb.pe (nomark _), sim_neOwn hb.sim⟩
theorem pdt_eqOwn (i : Nat) (hu : X.A.units + 64 < cLine) (hb : PD X b te de) (hN : X.N[i]? = some x := by rfl) (hv : Vis X.env.scope x := by first | exact Or.inl rfl | exact Or.inr (Or.inl rfl) | exact Or.inr (Or.inr rfl)) (hd : (x == ("__debug__" : Str)) = false := by decide)
    (hcd : (x == ("__classdict__" : Str)) = false := by decide) : PDT X (.Compare (.Name x p) [.Eq] [b] pos) (tTest (tOp (rEqD X.K) (tVar i) te)) (dTest (dCmpOwn eqD i de)) := ⟨pt_cmpR (op_eqD hu) (pe_var hN hv hd hcd) hb.pe (nomark _), sim_test (sim_eqOwn hb.sim)⟩
theorem pdt_neOwn (i : Nat) (hu : X.A.units + 64 < cLine) (hb : PD X b te de) (hN : X.N[i]? = some x := by rfl) (hv : Vis X.env.scope x := by first | exact Or.inl rfl | exact Or.inr (Or.inl rfl) | exact Or.inr (Or.inr rfl)) (hd : (x == ("__debug__" : Str)) = false := by decide)
    (hcd : (x == ("__classdict__" : Str)) = false := by decide) : PDT X (.Compare (.Name x p) [.NotEq] [b] pos) (tTest (tOp (rNeD X.K) (tVar i) te)) (dTest (dCmpOwn neD i de)) := ⟨pt_cmpR (op_neD hu) (pe_var hN hv hd hcd) hb.pe (nomark _), sim_test (sim_neOwn hb.sim)⟩
end
end DL
set_option Elab.async false
set_option linter.all false
set_option maxRecDepth 100000
set_option maxHeartbeats 2000000
namespace DL
open PySem PySem.Spec PyProof.Rows L2 RT
variable [Tabl]

/-! ### for x in t: .., t a tree of one's own, each x a tree of its own while its turn lasts -/
theorem At.forget {K : PySem.W.Frag} {M : Addr → Prop} {Z G0 H0 G H : Hp} {σ : L2.St} {ρ : List Sl} {F : Nat → Addr → Prop} {i : Nat} (A : At K M Z G0 H0 G H σ ρ F) (hi : i < ρ.length) (na : ¬ Sl.isArg (ρ[i]?)) :
    At K M Z G0 H0 G H σ (ρ.set i .un) (fun j a => if j = i then False else F j a) :=
  A.chg (i := i) (x := .un) (Fn := fun _ => False) hi (Same.refl G) A.gh (fun _ _ => rfl) (fun _ h => h) (fun _ _ h _ => h) (fun _ z => z) (fun z => absurd z na) (fun _ z => z.elim)
theorem OwnL.fresh {K : PySem.W.Frag} {G H : Hp} {v : V} {vs : List V} {t : OT} {ts : List OT} {B : List Addr} (h : OwnL K G H (v :: vs) (t :: ts) B) : ∃ A1 A2, B = A1 ++ A2 ∧ Own K G H v t A1 ∧ OwnL K G H vs ts A2 := by
  cases h with
  | cons h r => exact ⟨_, _, rfl, h, r⟩
def dForTL (j : Nat) (b : DS) (Δ : Ds) : List OT → List Sl → Prop
  | [], ρ => Δ.nx ρ
  | t :: ts, ρ => t.node = true ∧ free ρ j ∧ b { nx := fun ρ' => free ρ' j ∧ dForTL j b Δ ts (ρ'.set j .un), rt := fun _ _ => False, bk := fun _ => False, ct := fun ρ' => free ρ' j ∧ dForTL j b Δ ts (ρ'.set j .un) } (ρ.set j (.loc t))
@[irreducible] def dForT (i j : Nat) (b : DS) : DS := fun Δ ρ => match ρ[i]? with
  | some (.loc (.lst p ts)) => dForTL j b Δ ts (ρ.set i .un)
  | _ => False
theorem forT_core {K : PySem.W.Frag} {j : Nat} {t : TS} {b : DS} {M : Addr → Prop} {Z G0 H0 G H : Hp} {σ : L2.St} {ρ : List Sl} {F : Nat → Addr → Prop} {Δ : Ds} {Q : Ends} {p : Addr} {vs : List V} {ts : List OT} {A0 : List Addr} (hb : SimS K t b) (oL : OwnL K G H vs ts A0) (hp : H p = some (.lst vs))
    (A1 : At K M (aside Z H (p :: A0)) G0 H0 G H σ ρ F) (hB : (p :: A0).Nodup) (fI : ∀ a ∈ p :: A0, H a ≠ none ∧ H0 a = none ∧ Z a = none) (hd : dForTL j b Δ ts ρ)
    (k1 : ∀ σ' ρ' F' G' H', At K M Z G0 H0 G' H' σ' ρ' F' → Same G G' → Δ.nx ρ' → Q.nx σ' H') : tFor (fun σ H R => R (Itl K p) H) (gName j) t Q σ H := by
  have lenv := oL.len
  have hw := walk_list (K := K) (a := p) (xs := vs)
  refine for_it hw (fun n σ' H' => ∃ ρ' F' G' C, At K M (aside Z H' (p :: C)) G0 H0 G' H' σ' ρ' F' ∧ Same G G' ∧ H' p = some (.lst vs) ∧ OwnL K G' H' (vs.drop n) (ts.drop n) C ∧ (p :: C).Nodup ∧ (∀ a ∈ p :: C, H' a ≠ none ∧ H0 a = none ∧ Z a = none) ∧ dForTL j b Δ (ts.drop n) ρ')
    ⟨ρ, F, G, A0, A1, Same.refl G, hp, oL, hB, fI, hd⟩ (fun n σ' H' _ ⟨ρ', F', G', C, A', e', hp', _⟩ => SqL.of hp') ?_ ?_
  · rintro n x σ' H' H'' hn ⟨ρ', F', G', C, A', e', hp', oC, ndC, fC, q'⟩ ⟨rfl, hx⟩
    have hlt : n < vs.length := hn
    have hlt2 : n < ts.length := by omega
    have hdv : vs.drop n = x :: vs.drop (n + 1) := by
      rw [List.drop_eq_getElem_cons hlt]
      rw [List.getElem?_eq_getElem hlt] at hx
      rw [Option.some.inj hx]
    have hdt : ts.drop n = ts[n] :: ts.drop (n + 1) := List.drop_eq_getElem_cons hlt2
    rw [hdv, hdt] at oC
    rw [hdt] at q'
    obtain ⟨C1, C2, rfl, o1, o2⟩ := oC.fresh
    obtain ⟨hnode, fr, qb⟩ := q'
    obtain ⟨fl, fna⟩ := fr.lt
    have zC : ∀ a ∈ p :: (C1 ++ C2), G' a = none ∧ ∀ k, ¬ F' k a := fun a ha => by
      cases q : H'' a with
      | none => exact absurd q (fC a ha).1
      | some u =>
        have := A'.hz a u (by unfold aside; rw [if_pos ha]; exact q)
        exact this.2
    have nd2 : (p :: C2).Nodup := by
      obtain ⟨n1, n2⟩ := List.nodup_cons.mp ndC
      obtain ⟨_, n4, _⟩ := List.nodup_append.mp n2
      exact List.nodup_cons.mpr ⟨fun z => n1 (List.mem_append_right _ z), n4⟩
    have nd1 : C1.Nodup := (List.nodup_append.mp (List.nodup_cons.mp ndC).2).1
    have dC1 : ∀ a ∈ C1, a ∉ p :: C2 := fun a ha z => by
      rcases List.mem_cons.mp z with e | z
      · exact (List.nodup_cons.mp ndC).1 (by rw [← e]; exact List.mem_append_left _ ha)
      · exact (List.nodup_append.mp (List.nodup_cons.mp ndC).2).2.2 a ha a z rfl
    have A2 : At K M (aside Z H'' (p :: C2)) G0 H0 G' H'' σ' ρ' F' := A'.less fun a u q => by
      unfold aside at q ⊢
      by_cases c : a ∈ p :: C2
      · rw [if_pos c] at q
        rw [if_pos (by
          rcases List.mem_cons.mp c with e | c
          · rw [e]; exact List.mem_cons_self
          · exact List.mem_cons_of_mem _ (List.mem_append_right _ c))]
        exact q
      · rw [if_neg c] at q
        by_cases c1 : a ∈ p :: (C1 ++ C2)
        · rw [(fC a c1).2.2] at q
          cases q
        · rw [if_neg c1]
          exact q
    have R : ResOk K (aside Z H'' (p :: C2)) H0 G' H'' F' x (.loc ts[n]) (fun a => a ∈ C1) := ⟨⟨x, rfl, hnode, C1, o1, nd1, fun a => Iff.rfl⟩, fun z => z, fun a ha => by
      have hm : a ∈ p :: (C1 ++ C2) := List.mem_cons_of_mem _ (List.mem_append_left _ ha)
      refine ⟨(zC a hm).1, (fC a hm).1, (fC a hm).2.1, ?_, (zC a hm).2⟩
      unfold aside
      rw [if_neg (dC1 a ha)]
      exact (fC a hm).2.2⟩
    have A3 := A2.set R fl fna
    have step : ∀ (σ3 : L2.St) (ρ3 : List Sl) (F3 : Nat → Addr → Prop) (G3 H3 : Hp), At K M (aside Z H'' (p :: C2)) G0 H0 G3 H3 σ3 ρ3 F3 → Same G' G3 → (free ρ3 j ∧ dForTL j b Δ (ts.drop (n + 1)) (ρ3.set j .un)) →
        ∃ ρ4 F4 G4 C, At K M (aside Z H3 (p :: C)) G0 H0 G4 H3 σ3 ρ4 F4 ∧ Same G G4 ∧ H3 p = some (.lst vs) ∧ OwnL K G4 H3 (vs.drop (n + 1)) (ts.drop (n + 1)) C ∧ (p :: C).Nodup ∧ (∀ a ∈ p :: C, H3 a ≠ none ∧ H0 a = none ∧ Z a = none) ∧ dForTL j b Δ (ts.drop (n + 1)) ρ4 := by
      rintro σ3 ρ3 F3 G3 H3 B3 e3 ⟨f3, q3⟩
      obtain ⟨g1, g2⟩ := f3.lt
      have keep : ∀ a ∈ p :: C2, H3 a = H'' a := fun a ha => by
        have hm : a ∈ p :: (C1 ++ C2) := by
          rcases List.mem_cons.mp ha with e | c
          · rw [e]; exact List.mem_cons_self
          · exact List.mem_cons_of_mem _ (List.mem_append_right _ c)
        cases q : H'' a with
        | none => exact absurd q (fC a hm).1
        | some u => exact (B3.hz a u (by unfold aside; rw [if_pos ha]; exact q)).1
      refine ⟨ρ3.set j .un, _, G3, C2, (B3.forget g1 g2).less fun a u q => ?_, e'.trans e3, by rw [keep p List.mem_cons_self]; exact hp', o2.st e3 fun a ha => keep a (List.mem_cons_of_mem _ ha), nd2, fun a ha => ?_, q3⟩
      · unfold aside at q ⊢
        by_cases c : a ∈ p :: C2
        · rw [if_pos c] at q ⊢
          rw [← keep a c]
          exact q
        · rw [if_neg c] at q ⊢
          exact q
      · rw [keep a ha]
        refine fC a ?_
        rcases List.mem_cons.mp ha with e | c
        · rw [e]; exact List.mem_cons_self
        · exact List.mem_cons_of_mem _ (List.mem_append_right _ c)
    exact hb A3 qb (fun σ3 ρ3 F3 G3 H3 B3 e3 q3 => step σ3 ρ3 F3 G3 H3 B3 e3 q3) (fun v x Fn σ3 ρ3 F3 G3 H3 B3 e3 r3 q3 => q3.elim) (fun σ3 ρ3 F3 G3 H3 B3 e3 q3 => q3.elim) (fun σ3 ρ3 F3 G3 H3 B3 e3 q3 => step σ3 ρ3 F3 G3 H3 B3 e3 q3)
  · rintro σ' H' ⟨ρ', F', G', C, A', e', hp', oC, ndC, fC, q'⟩
    rw [show ts.drop vs.length = [] from by rw [lenv, List.drop_length]] at q'
    refine k1 σ' ρ' F' G' H' (A'.less fun a u q => ?_) e' q'
    unfold aside
    by_cases c : a ∈ p :: C
    · rw [(fC a c).2.2] at q
      cases q
    · rw [if_neg c]
      exact q
theorem sim_forT {K : PySem.W.Frag} {i j : Nat} {t : TS} {b : DS} (hb : SimS K t b) : SimS K (tFor (iAny K (tVar i)) (gName j) t) (dForT i j b) := by
  intro M Z G0 H0 G H σ ρ F Δ Q A hd k1 k2 k3 k4
  unfold dForT at hd
  split at hd
  · rename_i p ts ei
    obtain ⟨v, hv, nd, B, ho, hB, hF⟩ := A.sl i _ ei
    have hi : i < ρ.length := (List.getElem?_eq_some_iff.mp ei).1
    cases ho with
    | lst hp oL =>
      rename_i vs A0
      have fI : ∀ a ∈ p :: A0, G a = none ∧ H a ≠ none ∧ H0 a = none ∧ Z a = none := fun a ha => by
        obtain ⟨h1, h2, h3⟩ := A.fp i a ((hF a).mpr ha)
        refine ⟨h1, h2, ?_, ?_⟩
        · rcases h3 with h3 | h3
          · exact h3
          · rw [ei] at h3; exact h3.2.elim
        · cases q : Z a with
          | none => rfl
          | some o => exact absurd ((hF a).mpr ha) ((A.hz a o q).2.2 i)
      refine ⟨.ref p, join_some hv, .inl ⟨p, rfl, ⟨vs, SqL.of hp⟩, ?_⟩⟩
      have A1 := (A.forget hi (by rw [ei]; exact fun z => z)).asideS (A' := p :: A0) (fun a ha => ⟨(fI a ha).1, fun k z => by
        by_cases e : k = i
        · rw [if_pos e] at z; exact z
        · rw [if_neg e] at z; exact e (A.dj k i a z ((hF a).mpr ha))⟩) fun a ha => A.n0 (fI a ha).2.2.1
      exact forT_core hb oL hp A1 hB (fun a ha => (fI a ha).2) hd k1
  · exact hd.elim
theorem pd_forT {X : Cx} {x y : Str} {p p' : Pos} {body : List Stmt} {t : TS} {b : DS} {pos : Pos} (i j : Nat) (nd : X.N.Nodup) (hb : PDSs X body t b) (hN : X.N[i]? = some x := by rfl) (hv : Vis X.env.scope x := by first | exact Or.inl rfl | exact Or.inr (Or.inl rfl) | exact Or.inr (Or.inr rfl)) (hd : (x == ("__debug__" : Str)) = false := by decide)
    (hcd : (x == ("__classdict__" : Str)) = false := by decide) (hi : X.N[j]? = some y := by rfl) (hx : Loc X.env.scope y := by first | exact Or.inl rfl | exact Or.inr rfl) (hf : X.fn y = true ∨ X.env.scope.names.lookup y = some .local := by first | exact .inl rfl | exact .inr rfl | assumption)
    (hp : PassesOwn (model X.prog X.w) X.A X.env X.xe := by first | exact PassesOwn.never | assumption) (hc : X.calm = true := by rfl)
    (hs : ∀ z, foldedSetIterable (.Name x p) X.env z = pure z := by intro _; rfl) : PDS X (.For (.Name y p') (.Name x p) body [] pos) (tFor (iAny X.K (tVar i)) (gName j) t) (dForT i j b) :=
  ⟨ps_for hp hc (pi_any (pe_var hN hv hd hcd)) (pdg_name nd hi hx hf).pg hb.pe hs, sim_forT hb.sim⟩
end DL
set_option Elab.async false
set_option linter.all false
set_option maxRecDepth 100000
set_option maxHeartbeats 2000000
namespace DL
open PySem PySem.Spec PyProof.Rows L2 RT
variable [Tabl]

/-! ### sorted(set(..)) of pairs of whole numbers of any sign -/
def pr2 : List Int → Int × Int
  | [x, y] => (x, y)
  | _ => (0, 0)
def rSortSet (K : PySem.W.Frag) (P : Program) (w : World) : List V → Hp → VK → Prop := fun vs H Q => ∃ (a : Addr) (L : List (Addr × List Int)), vs = [V.ref a] ∧ H a = some (SetTO P w a L) ∧ (∀ z ∈ L, SqT K H z.1 (z.2.map V.int)) ∧ (∀ z ∈ L, z.2.length = 2) ∧
  ∀ (M : List (Addr × List Int)) (p : Addr), M.Perm L → (M.map (·.2)).Nodup → M.Pairwise (fun y z => SrtO.lexB (pr2 z.2) (pr2 y.2) = false) → H p = none → Q (.ref p) (upd H p (.lst (M.map fun z => V.ref z.1)))
/-- values that are references of rows of L: they are the references of a list of rows -/
theorem rows_back {L : List (Addr × List Int)} : ∀ {us : List Value}, (∀ u ∈ us, ∃ z ∈ L, u = Value.ref z.1) → ∃ M : List (Addr × List Int), us = M.map (fun z => Value.ref z.1) ∧ ∀ z ∈ M, z ∈ L
  | [], _ => ⟨[], rfl, fun z h => nomatch h⟩
  | u :: us, h => by
    obtain ⟨z, hz, e⟩ := h u List.mem_cons_self
    obtain ⟨M, e2, hM⟩ := rows_back (us := us) fun v hv => h v (List.mem_cons_of_mem _ hv)
    refine ⟨z :: M, by rw [e, e2]; rfl, fun y hy => ?_⟩
    rcases List.mem_cons.mp hy with e3 | e3
    · rw [e3]; exact hz
    · exact hM y e3
theorem rows_perm {L M : List (Addr × List Int)} (inj : ∀ y ∈ L, ∀ z ∈ L, y.1 = z.1 → y = z) (hM : ∀ z ∈ M, z ∈ L) (nd : L.Nodup) (pm : (M.map fun z => Value.ref z.1).Perm (L.map fun z => Value.ref z.1)) : M.Perm L := by
  have ndr : (L.map fun z => Value.ref z.1).Nodup := by
    rw [List.nodup_iff_pairwise_ne, List.pairwise_map]
    exact (List.nodup_iff_pairwise_ne.mp nd).imp_of_mem fun {y z} hy hz ne e => ne (inj y hy z hz (Value.ref.inj e))
  have ndm : M.Nodup := by
    have := pm.nodup_iff.mpr ndr
    rw [List.nodup_iff_pairwise_ne, List.pairwise_map] at this
    exact List.nodup_iff_pairwise_ne.mpr (this.imp fun ne e => ne (by rw [e]))
  refine (List.perm_ext_iff_of_nodup ndm nd).mpr fun y => ⟨hM y, fun hy => ?_⟩
  have : Value.ref y.1 ∈ M.map fun z => Value.ref z.1 := pm.mem_iff.mpr (List.mem_map_of_mem hy)
  obtain ⟨z, hz, e⟩ := List.mem_map.mp this
  have := inj z (hM z hz) y hy (Value.ref.inj e)
  rw [← this]
  exact hz
theorem pair_of {P : Program} {w : World} {h : Heap} {b : Addr} {k : List Int} (x : IsT P w h k b) (l : k.length = 2) : Srt.IsPair h (.ref b) (pr2 k).1 (pr2 k).2 := by
  obtain ⟨o, items, n, ho, hc, hd, hi⟩ := x
  obtain ⟨l0⟩ := items
  match k, l, l0, ho, hc, hd, hi with
  | [x, y], _, l0, ho, hc, hd, hi =>
    have hi' := ints_of_items hi
    change IntsAre l0 [x, y] at hi'
    cases hi' with
    | cons _ t r =>
      cases r with
      | cons _ u r =>
        cases r
        exact ⟨b, o, t, u, n, rfl, ho, hc, hd⟩
section
variable {X : Cx}
theorem cr_sortSet (hc : X.calm = true) : CallR X (.builtin "sorted") (rSortSet X.K X.prog X.w) := by
  intro pins s σ H vs us Q I r hyp
  obtain ⟨a, L, rfl, ha, hk, len2, cont⟩ := hyp
  obtain ⟨es, ep, t, R⟩ := SetT0.full (I.hok a _ ha).1 fun z hz => Inv.isT I (hk z hz)
  have calm := I.ok.hd hc
  rw [Vals.ref1 r]
  obtain ⟨o, ho, hex, hd⟩ := R.ob
  have few := R.few
  have esz := R.size
  refine Calls.call_function_entry kind_sorted plain_sorted entry_sorted (args_sorted1 (Value.ref a)) ?_
  unfold Builtin.«sorted»
  refine wpAny_bind (m := checkCount "sorted" 1 1 _) (wpAny_pure (wpAny_bind ?_))
  refine collect_set calm ⟨o, ho, hex.1, hd⟩ R.fits (by unfold scanBound; omega) R.tab.ris R.led fun s1 ys old grown gens os pm => ?_
  have rows : es.toList.map (·.2) = L.map fun z => Value.ref z.1 := by
    rw [R.rows, rowsOf, List.map_map]
    rfl
  rw [rows] at pm
  have inj : ∀ y ∈ L, ∀ z ∈ L, y.1 = z.1 → y = z := fun y hy z hz e => Prod.ext e (by
    have h1 := R.tup y hy
    rw [e] at h1
    exact h1.inj (R.tup z hz))
  have ylen : ys.length < 64 := by rw [pm.length_eq, List.length_map]; exact few
  refine wpAny_bind (wpAny_newList ?_ (by rw [sizeLine_eq]; omega))
  have here : (s1.heap.push (seqObj "list" ys.toArray 0)).get? s1.heap.objs.size = some (seqObj "list" ys.toArray 0) := Heap.get?_push_size _ rfl
  have tups : ∀ z ∈ L, IsT X.prog X.w (s1.heap.push (seqObj "list" ys.toArray 0)) z.2 z.1 := fun z hz => isT_keep (R.tup z hz) fun b u e => Heap.get?_push_of_some _ (old b u e)
  -- the key of a value
  let kf : Value → Int × Int := fun v => pr2 (TS.intsOf (s1.heap.push (seqObj "list" ys.toArray 0)) v)
  have kfe : ∀ z ∈ L, kf (.ref z.1) = pr2 z.2 := fun z hz => congrArg pr2 (tupInts_of (tups z hz)).ints
  have pairs : ∀ v ∈ ys, Srt.IsPair (s1.heap.push (seqObj "list" ys.toArray 0)) v (kf v).1 (kf v).2 := fun v hv => by
    obtain ⟨z, hz, e⟩ := List.mem_map.mp (pm.mem_iff.mp hv)
    rw [← e, kfe z hz]
    exact pair_of (tups z hz) (len2 z hz)
  refine wpAny_bind (wpAny_holding (wpAny_call_entry slot_list_sort ⟨_, here, rfl⟩ entry_list_sort (SrtO.list_sort_ord (s := { s1 with heap := s1.heap.push (seqObj "list" ys.toArray 0) }) (SrtO.swo_lex kf) here (by rw [sizeLine_eq]; omega) (fun l2 => ?_) fun out hs hb => ⟨_, rfl, ?_⟩) (args_list_sort _)))
  · refine SrtO.pairs_sortableO (s := { s1 with heap := s1.heap.push (seqObj "list" ys.toArray 0) }) (by omega) pairs fun o' e => ?_
    have := e.symm.trans here
    cases this
    exact fun c => absurd (Value.type.inj c) (by decide)
  · obtain ⟨c, hl⟩ := sortedHeap_at (vs := ys) (out := out.toArray) here
    obtain ⟨M, eM, hM⟩ := rows_back (L := L) (us := out) fun v hv => by
      obtain ⟨z, hz, e⟩ := List.mem_map.mp (pm.mem_iff.mp (hb.perm.mem_iff.mp hv))
      exact ⟨z, hz, e.symm⟩
    have pM : M.Perm L := rows_perm inj hM (nodup_of_map R.nd) (by rw [← eM]; exact hb.perm.trans pm)
    have few' : M.length < 64 := by rw [pM.length_eq]; exact few
    have oM : M.Pairwise (fun y z => SrtO.lexB (pr2 z.2) (pr2 y.2) = false) := by
      rw [eM] at hs
      refine (List.pairwise_map.mp hs).imp_of_mem fun {y z} hy hz h => ?_
      rw [← kfe y (hM y hy), ← kfe z (hM z hz)]
      exact h
    have keep : ∀ b u, s.heap.get? b = some u → (sortedHeap (s1.heap.push (seqObj "list" ys.toArray 0)) s1.heap.objs.size ys out.toArray).get? b = some u := fun b u e => by
      have e1 := old b u e
      have lt := Heap.lt_size e1
      rw [sortedHeap_old (Nat.ne_of_lt lt) (by rw [size_push']; exact Nat.lt_succ_of_lt lt)]
      exact Heap.get?_push_of_some _ e1
    have nH : H s1.heap.objs.size = none := I.hok.fresh grown
    have vM : Vals (M.map fun z => V.ref z.1) out := by rw [eM]; exact vals_of_refs M
    have J := Inv.call (ch := []) (g' := s1.gens) (t' := s1.toks) (d' := s1.drawn) I (Un.laid keep grown nH) (I.hok.laid keep grown (o := .lst (M.map fun z => V.ref z.1)) ⟨by rw [List.length_map, sizeLine_eq]; omega, out, c, vM, hl⟩) (by rw [gens]; exact I.bare) (fun _ z => nomatch z)
    refine wpAny_pure ⟨_, rfl, .ref s1.heap.objs.size, _, ?_, rfl, cont M _ pM ((pM.map (·.2)).nodup_iff.mpr R.nd) oM nH⟩
    cases s1
    cases s
    cases os
    exact J
end
/-! ### over data -/
def pairD (p : Int × Int) : D := .tup [.int p.1, .int p.2]
def D.pairs : List D → Option (List (Int × Int))
  | [] => some []
  | .tup [.int x, .int y] :: r => match D.pairs r with
    | some ps => some ((x, y) :: ps)
    | none => none
  | _ :: _ => none
theorem pairs_map : ∀ ps : List (Int × Int), D.pairs (ps.map pairD) = some ps
  | [] => rfl
  | p :: ps => by
    have := pairs_map ps
    show D.pairs (.tup [.int p.1, .int p.2] :: ps.map pairD) = _
    rw [D.pairs, this]
theorem pairs_some : ∀ {xs : List D} {ps : List (Int × Int)}, D.pairs xs = some ps → xs = ps.map pairD
  | [], ps, h => by cases h; rfl
  | x :: r, ps, h => by
    unfold D.pairs at h
    split at h
    · rename_i e
      cases e
    · rename_i e
      cases e
      split at h
      · rename_i qs e2
        cases h
        rw [pairs_some e2]
        rfl
      · cases h
    · cases h
/-- sorted(set(d)) -/
@[irreducible] def dSortSet (d : DE) : DR := fun ρ Φ => d ρ fun x ρ1 => match x with
  | .lst xs => match D.pairs xs with
    | some ps => ps.length < 64 ∧ ∀ qs : List (Int × Int), (∀ q, q ∈ qs ↔ q ∈ ps) → qs.Pairwise (fun a b => SrtO.lexB a b = true) → Φ (.own (qs.map pairD)) ρ1
    | none => False
  | _ => False
theorem pairs_rows {K : PySem.W.Frag} {G : Hp} : ∀ {ps : List (Int × Int)} {vs : List V}, RpL K G vs (ps.map pairD) → ∃ ks : List (Addr × List Int), vs = ks.map (fun z => V.ref z.1) ∧ (∀ z ∈ ks, SqT K G z.1 (z.2.map V.int)) ∧ ks.map (·.2) = ps.map fun q => [q.1, q.2]
  | [], vs, r => by
    cases r
    exact ⟨[], rfl, fun z h => (nomatch h), rfl⟩
  | p :: ps, vs, r => by
    cases r with
    | cons h r =>
      obtain ⟨ks, e, hk, e2⟩ := pairs_rows r
      cases h with
      | tup hx px =>
        rename_i a ws
        cases px with
        | cons h1 px =>
          cases px with
          | cons h2 px =>
            cases px
            cases h1
            cases h2
            refine ⟨(a, [p.1, p.2]) :: ks, by rw [e]; rfl, fun z hz => ?_, by rw [List.map_cons, e2]; rfl⟩
            rcases List.mem_cons.mp hz with q | q
            · rw [q]; exact hx
            · exact hk z q
theorem sim_sortSet {K : PySem.W.Frag} {P : Program} {w : World} {t : TE} {d : DE} (h : SimE K t d) : SimR K (tCB (rSortSet K P w) (tCons (tCB (rSetOfT K P w) (tCons t tNil)) tNil)) (dSortSet d) := by
  intro M Z G0 H0 G H σ ρ F Φ Q A hd k
  unfold dSortSet at hd
  refine h A hd fun v x ρ1 F1 G1 H1 A1 e1 r1 q1 => ?_
  split at q1
  · rename_i xs
    split at q1
    · rename_i ps ep
      obtain ⟨few, q1⟩ := q1
      rw [pairs_some ep] at r1
      cases r1 with
      | lst hx px =>
        obtain ⟨ks, ev, hk, e2⟩ := pairs_rows px
        have lk : ks.length = ps.length := by
          have := congrArg List.length e2
          simpa using this
        refine ⟨_, ks, rfl, by rw [← ev]; exact SqL.of (A1.gh _ _ hx), fun z hz => same_t A1.gh (hk z hz), by omega, fun a L ha sub all => ?_⟩
        have A2 := A1.newH (o := SetTO P w a L) ha
        have same2 : Same H1 (upd H1 a (SetTO P w a L)) := fun b u q => by rw [upd_ne (ne_of_none q ha)]; exact q
        have two : ∀ z ∈ ks, ∃ q ∈ ps, z.2 = [q.1, q.2] := fun z hz => by
          have : z.2 ∈ ps.map fun q => [q.1, q.2] := by rw [← e2]; exact List.mem_map_of_mem hz
          obtain ⟨q, hq, e⟩ := List.mem_map.mp this
          exact ⟨q, hq, e.symm⟩
        refine ⟨a, L, rfl, upd_same, fun z hz => same_t (A1.gh.trans same2) (hk z (sub z hz)), fun z hz => ?_, fun M' p pm nd ord hp => ?_⟩
        · obtain ⟨q, _, e⟩ := two z (sub z hz)
          rw [e]
          rfl
        · have inK : ∀ z ∈ M', z ∈ ks := fun z hz => sub z (pm.subset hz)
          have hpr : ∀ z ∈ M', z.2 = [(pr2 z.2).1, (pr2 z.2).2] := fun z hz => by
            obtain ⟨q, _, e⟩ := two z (inK z hz)
            rw [e]
            rfl
          have rp : RpL K G1 (M'.map fun z => V.ref z.1) ((M'.map fun z => pr2 z.2).map pairD) := by
            have : ∀ N : List (Addr × List Int), (∀ z ∈ N, z ∈ M') → RpL K G1 (N.map fun z => V.ref z.1) ((N.map fun z => pr2 z.2).map pairD) := fun N => by
              induction N with
              | nil => exact fun _ => .nil
              | cons z N ih =>
                intro hN
                have hz := hN z List.mem_cons_self
                have sq := hk z (inK z hz)
                rw [hpr z hz] at sq
                exact .cons (.tup sq (.cons (.int _) (.cons (.int _) .nil))) (ih fun y hy => hN y (List.mem_cons_of_mem _ hy))
            exact this M' fun _ h => h
          obtain ⟨A3, r3⟩ := A2.lst_new hp rp
          refine k _ _ _ ρ1 F1 G1 _ A3 e1 r3 (q1 _ (fun q => ?_) ?_)
          · constructor
            · intro hq
              obtain ⟨z, hz, e⟩ := List.mem_map.mp hq
              obtain ⟨q', hq', e'⟩ := two z (inK z hz)
              rw [← e, e']
              exact hq'
            · intro hq
              have hm : [q.1, q.2] ∈ ks.map (·.2) := by rw [e2]; exact List.mem_map.mpr ⟨q, hq, rfl⟩
              obtain ⟨z, hz, e⟩ := List.mem_map.mp hm
              obtain ⟨y, hy, ey⟩ := List.mem_map.mp (all z hz)
              refine List.mem_map.mpr ⟨y, pm.symm.subset hy, ?_⟩
              rw [ey, e]
              rfl
          · rw [List.pairwise_map]
            have nd' : M'.Pairwise fun y z => y.2 ≠ z.2 := by
              rw [List.nodup_iff_pairwise_ne, List.pairwise_map] at nd
              exact nd
            refine (ord.and nd').imp_of_mem fun {y z} hy hz ⟨h1, h2⟩ => ?_
            rw [hpr y hy, hpr z hz] at h2
            have h3 := SrtO.lexB_no.mp h1
            refine SrtO.lexB_iff.mpr ?_
            by_cases c1 : (pr2 y.2).1 = (pr2 z.2).1
            · by_cases c2 : (pr2 y.2).2 = (pr2 z.2).2
              · rw [c1, c2] at h2
                exact absurd rfl h2
              · omega
            · omega
    · exact q1.elim
  · exact q1.elim
section
variable {X : Cx} {e : Expr} {t : TE} {d : DE} {p p2 pos pos2 : Pos}
theorem pr_sortedSet (hu : X.A.units + 64 < cLine) (hm : X.mg "sorted" = none) (hm2 : X.mg "set" = none) (h : PD X e t d) (hc : X.calm = true := by rfl) (hg : Gl X "sorted" := by rfl) (hg2 : Gl X "set" := by rfl) (hs2 : starEach [e] X.env = (false, eval e X.env) :: starEach [] X.env := by rfl)
    (hs : starEach [.Call (.Name "set" p2) [e] [] pos2] X.env = (false, eval (.Call (.Name "set" p2) [e] [] pos2) X.env) :: starEach [] X.env := by rfl) (hpl : (backTo pos (starEach [] X.env)).any (·.1) = false := by rfl) (hpl2 : (backTo pos2 (starEach [] X.env)).any (·.1) = false := by rfl) :
    PR X (.Call (.Name "sorted" p) [.Call (.Name "set" p2) [e] [] pos2] [] pos) (tCB (rSortSet X.K X.prog X.w) (tCons (tCB (rSetOfT X.K X.prog X.w) (tCons t tNil)) tNil)) (dSortSet d) :=
  ⟨pe_callB (cr_sortSet hc) hg hm (by rfl) (pa_cons (pe_callTy (cr_setOfT hc hu) hg2 hm2 (by rfl) (pa_cons h.pe pa_nil hs2) (by decide) (by decide) hs2 hpl2) pa_nil hs) (by decide) (by decide) hs hpl, sim_sortSet h.sim⟩
end
end DL
set_option Elab.async false
set_option linter.all false
set_option maxRecDepth 100000
set_option maxHeartbeats 2000000
namespace DL
open PySem PySem.Spec PyProof.Rows L2 RT
variable [Tabl]

/-! ### the module's constants -/
theorem pd_globI {X : Cx} {x : Str} {i : Int} {t : Tok} {pos : Pos} (hm : X.mg x = some (.int i t)) (hg : Gl X x := by rfl) (hd : (x == ("__debug__" : Str)) = false := by decide) : PD X (.Name x pos) (tC (.int i)) (dC (.int i)) := ⟨pe_glob hg hm ⟨t, rfl⟩ hd, sim_c fun _ => .int i⟩
theorem pd_globS {X : Cx} {x : Str} {s : Str} {t : Tok} {pos : Pos} (hm : X.mg x = some (.str s t)) (hg : Gl X x := by rfl) (hd : (x == ("__debug__" : Str)) = false := by decide) : PD X (.Name x pos) (tC (.str s)) (dC (.str s)) := ⟨pe_glob hg hm ⟨t, rfl⟩ hd, sim_c fun _ => .str s⟩

/-! ### (e, f), [e, f], each a new thing of one's own -/
abbrev DAO := List Sl → (List OT → List Sl → Prop) → Prop
def SimAo (K : PySem.W.Frag) (t : TA) (d : DAO) : Prop := ∀ {M : Addr → Prop} {Z G0 H0 G H : Hp} {σ : L2.St} {ρ : List Sl} {F : Nat → Addr → Prop} {Φ : List OT → List Sl → Prop} {Q : List V → Hp → Prop}, At K M Z G0 H0 G H σ ρ F → d ρ Φ →
  (∀ vs ts C ρ' F' G' H', At K M Z G0 H0 G' H' σ ρ' F' → Same G G' → OwnL K G' H' vs ts C → C.Nodup → (∀ a ∈ C, G' a = none ∧ H' a ≠ none ∧ H0 a = none ∧ Z a = none ∧ ∀ j, ¬ F' j a) → Φ ts ρ' → Q vs H') → t σ H Q
structure PDAo (X : Cx) (es : List Expr) (t : TA) (d : DAO) : Prop where
  pe : PA X es t
  sim : SimAo X.K t d
def doNil : DAO := fun ρ Φ => Φ [] ρ
@[irreducible] def doCons (d : DR) (da : DAO) : DAO := fun ρ Φ => d ρ (asT fun t ρ1 => da ρ1 fun ts ρ2 => Φ (t :: ts) ρ2)
section
variable {K : PySem.W.Frag}
theorem sim_onil : SimAo K tNil doNil := fun {M Z G0 H0 G H σ ρ F Φ Q} A hd k => k [] [] [] ρ F G H A (Same.refl G) .nil List.nodup_nil (fun a h => nomatch h) hd
theorem sim_ocons {t : TE} {ta : TA} {d : DR} {da : DAO} (h : SimR K t d) (ha : SimAo K ta da) : SimAo K (tCons t ta) (doCons d da) := by
  intro M Z G0 H0 G H σ ρ F Φ Q A hd k
  unfold doCons at hd
  refine h A hd fun v x Fn ρ1 F1 G1 H1 A1 e1 r1 q1 => ?_
  obtain ⟨t1, C1, q1, o1, nd1, f1⟩ := res_tree r1 q1
  refine ha (A1.asideS (A' := C1) (fun a ha => ⟨(f1 a ha).1, (f1 a ha).2.2.2.2⟩) fun a ha => A1.n0 (f1 a ha).2.2.1) q1 fun vs ts C2 ρ2 F2 G2 H2 A2 e2 o2 nd2 f2 q2 => ?_
  have keep : ∀ a ∈ C1, H2 a = H1 a ∧ G2 a = none ∧ ∀ j, ¬ F2 j a := fun a ha => by
    cases q : H1 a with
    | none => exact absurd q (f1 a ha).2.1
    | some u => exact A2.hz a u (by unfold aside; rw [if_pos ha]; exact q)
  have dis : ∀ a ∈ C2, a ∉ C1 ∧ Z a = none := fun a ha => by
    have z := (f2 a ha).2.2.2.1
    unfold aside at z
    by_cases c : a ∈ C1
    · rw [if_pos c] at z
      exact absurd z (f1 a c).2.1
    · rw [if_neg c] at z
      exact ⟨c, z⟩
  have A3 : At K M Z G0 H0 G2 H2 σ ρ2 F2 := A2.less fun a u q => by
    unfold aside
    by_cases c : a ∈ C1
    · rw [(f1 a c).2.2.2.1] at q
      cases q
    · rw [if_neg c]; exact q
  refine k (v :: vs) (t1 :: ts) (C1 ++ C2) ρ2 F2 G2 H2 A3 (e1.trans e2) (.cons (o1.st e2 fun a ha => (keep a ha).1) o2) (List.nodup_append.mpr ⟨nd1, nd2, fun a ha b hb e => (dis b hb).1 (by rw [← e]; exact ha)⟩) (fun a ha => ?_) q2
  rcases List.mem_append.mp ha with h | h
  · rw [(keep a h).1]
    exact ⟨(keep a h).2.1, (f1 a h).2.1, (f1 a h).2.2.1, (f1 a h).2.2.2.1, (keep a h).2.2⟩
  · exact ⟨(f2 a h).1, (f2 a h).2.1, (f2 a h).2.2.1, (dis a h).2, (f2 a h).2.2.2.2⟩
/-- a new node over owned ones -/
theorem At.node {M : Addr → Prop} {Z G0 H0 G H : Hp} {σ : L2.St} {ρ : List Sl} {F : Nat → Addr → Prop} {vs : List V} {ts : List OT} {C : List Addr} {p : Addr} {u : HO} {t : OT} (A : At K M Z G0 H0 G H σ ρ F) (o : OwnL K G H vs ts C) (nd : C.Nodup)
    (f : ∀ a ∈ C, G a = none ∧ H a ≠ none ∧ H0 a = none ∧ Z a = none ∧ ∀ j, ¬ F j a) (hp : H p = none) (ht : t.node = true) (mk : ∀ H', H' p = some u → OwnL K G H' vs ts C → Own K G H' (.ref p) t (p :: C)) :
    At K M Z G0 H0 G (upd H p u) σ ρ F ∧ ResOk K Z H0 G (upd H p u) F (.ref p) (.loc t) (fun a => a ∈ p :: C) := by
  have np : ∀ a ∈ C, a ≠ p := fun a ha e => (f a ha).2.1 (by rw [e]; exact hp)
  have h0p : H0 p = none := by
    cases q : H0 p with
    | none => rfl
    | some o => exact absurd hp (A.hn p (by rw [q]; exact Option.some_ne_none _))
  refine ⟨A.newH hp, ⟨⟨.ref p, rfl, ht, p :: C, mk _ upd_same (o.st (Same.refl G) fun a ha => upd_ne (np a ha)), List.nodup_cons.mpr ⟨fun h => np p h rfl, nd⟩, fun a => Iff.rfl⟩, fun z => z, fun a ha => ?_⟩⟩
  rcases List.mem_cons.mp ha with e | ha
  · rw [e, upd_same]
    refine ⟨A.gh.free hp, Option.some_ne_none _, h0p, ?_, fun j z => (A.fp j p z).2.1 hp⟩
    cases q : Z p with
    | none => rfl
    | some o =>
      have := (A.hz p o q).1
      rw [hp] at this
      cases this
  · rw [upd_ne (np a ha)]
    exact f a ha
def dTupO (da : DAO) : DR := fun ρ Φ => da ρ fun ts ρ1 => ts.length ≤ 1000000 ∧ ∀ p, Φ (.loc (.tup p ts)) ρ1
def dLstO (da : DAO) : DR := fun ρ Φ => da ρ fun ts ρ1 => ts.length ≤ 1000000 ∧ ∀ p, Φ (.loc (.lst p ts)) ρ1
theorem sim_tupO {ta : TA} {da : DAO} (h : SimAo K ta da) : SimR K (tTup ta) (dTupO da) := fun {M Z G0 H0 G H σ ρ F Φ Q} A hd k => h A hd fun vs ts C ρ1 F1 G1 H1 A1 e1 o nd f q => by
  refine ⟨by rw [o.len]; exact line_le q.1, fun p hp => ?_⟩
  obtain ⟨A2, e2⟩ := A1.new (o := .tup vs) hp
  have np : ∀ a ∈ C, a ≠ p := fun a ha z => by
    have := (f a ha).2.1
    rw [z] at this
    exact this hp
  refine k (.ref p) (.loc (.tup p ts)) (fun a => a ∈ C) ρ1 F1 _ _ A2 (e1.trans e2) ⟨⟨.ref p, rfl, rfl, C, .tup upd_same (o.st e2 fun a ha => upd_ne (np a ha)), nd, fun _ => Iff.rfl⟩, fun z => z, fun a ha => ?_⟩ (q.2 p)
  obtain ⟨h1, h2, h3, h4, h5⟩ := f a ha
  exact ⟨by rw [upd_ne (np a ha)]; exact h1, by rw [upd_ne (np a ha)]; exact h2, h3, h4, h5⟩
theorem sim_lstO {ta : TA} {da : DAO} (h : SimAo K ta da) : SimR K (tLst ta) (dLstO da) := fun {M Z G0 H0 G H σ ρ F Φ Q} A hd k => h A hd fun vs ts C ρ1 F1 G1 H1 A1 e1 o nd f q => by
  refine ⟨by rw [o.len]; exact line_le q.1, fun p hp => ?_⟩
  obtain ⟨A2, r⟩ := A1.node (u := .lst vs) (t := .lst p ts) o nd f hp rfl fun H' e o' => .lst e o'
  exact k _ _ _ ρ1 F1 G1 _ A2 e1 r (q.2 p)
end
section
variable {X : Cx} {e : Expr} {es : List Expr} {t : TE} {ta : TA} {d : DR} {da : DAO} {k : Nat} {pos : Pos}
theorem pdao_nil : PDAo X [] tNil doNil := ⟨pa_nil, sim_onil⟩
theorem pdao_cons (h : PR X e t d) (ha : PDAo X es ta da) (hs : starEach (e :: es) X.env = (false, eval e X.env) :: starEach es X.env := by rfl) : PDAo X (e :: es) (tCons t ta) (doCons d da) := ⟨pa_cons h.pe ha.pe hs, sim_ocons h.sim ha.sim⟩
theorem pr_tupO (h : PDAo X es ta da) : PR X (.Tuple es k pos) (tTup ta) (dTupO da) := ⟨pe_tup h.pe, sim_tupO h.sim⟩
theorem pr_lstO (h : PDAo X es ta da) : PR X (.List es pos) (tLst ta) (dLstO da) := ⟨pe_lst h.pe, sim_lstO h.sim⟩
end

/-! ### for x in e: .., e new things of one's own -/
@[irreducible] def dForTE (d : DR) (j : Nat) (b : DS) : DS := fun Δ ρ => d ρ fun x ρ1 => match x with
  | .loc (.lst p ts) => dForTL j b Δ ts ρ1
  | _ => False
theorem sim_forTE {K : PySem.W.Frag} {te : TE} {d : DR} {j : Nat} {t : TS} {b : DS} (h : SimR K te d) (hb : SimS K t b) : SimS K (tFor (iAny K te) (gName j) t) (dForTE d j b) := by
  intro M Z G0 H0 G H σ ρ F Δ Q A hd k1 k2 k3 k4
  unfold dForTE at hd
  refine h A hd fun v x Fn ρ1 F1 G1 H1 A1 e1 r1 q1 => ?_
  split at q1
  · rename_i p ts
    obtain ⟨v', hv, nd, B, ho, hB, hF⟩ := r1.ok
    cases hv
    cases ho with
    | lst hp oL =>
      rename_i vs A0
      have fI : ∀ a ∈ p :: A0, G1 a = none ∧ H1 a ≠ none ∧ H0 a = none ∧ Z a = none ∧ ∀ i, ¬ F1 i a := fun a ha => r1.fr a ((hF a).mpr ha)
      refine .inl ⟨p, rfl, ⟨vs, SqL.of hp⟩, ?_⟩
      refine forT_core hb oL hp (A1.asideS (fun a ha => ⟨(fI a ha).1, (fI a ha).2.2.2.2⟩) fun a ha => A1.n0 (fI a ha).2.2.1) hB (fun a ha => ⟨(fI a ha).2.1, (fI a ha).2.2.1, (fI a ha).2.2.2.1⟩) q1 fun σ' ρ' F' G' H' A' e' q' => k1 σ' ρ' F' G' H' A' (e1.trans e') q'
  · exact q1.elim
theorem pd_forTE {X : Cx} {y : Str} {p' : Pos} {e : Expr} {te : TE} {d : DR} {body : List Stmt} {t : TS} {b : DS} {pos : Pos} (j : Nat) (nd : X.N.Nodup) (h : PR X e te d) (hb : PDSs X body t b) (hi : X.N[j]? = some y := by rfl) (hx : Loc X.env.scope y := by first | exact Or.inl rfl | exact Or.inr rfl)
    (hf : X.fn y = true ∨ X.env.scope.names.lookup y = some .local := by first | exact .inl rfl | exact .inr rfl | assumption) (hp : PassesOwn (model X.prog X.w) X.A X.env X.xe := by first | exact PassesOwn.never | assumption) (hc : X.calm = true := by rfl) (hs : ∀ z, foldedSetIterable e X.env z = pure z := by intro _; rfl) :
    PDS X (.For (.Name y p') e body [] pos) (tFor (iAny X.K te) (gName j) t) (dForTE d j b) := ⟨ps_for hp hc (pi_any h.pe) (pdg_name nd hi hx hf).pg hb.pe hs, sim_forTE h.sim hb.sim⟩
end DL
set_option Elab.async false
set_option linter.all false
set_option maxRecDepth 100000
set_option maxHeartbeats 2000000
namespace DL
open PySem PySem.Spec PyProof.Rows L2 RT
variable [Tabl]

/-! ### a list of one's own lent to a call whose answer has no lists but its own -/
mutual
def D.flat : D → Bool
  | .non => true
  | .bl _ => true
  | .int _ => true
  | .str _ => true
  | .tup xs => D.flatL xs
  | _ => false
def D.flatL : List D → Bool
  | [] => true
  | x :: xs => x.flat && D.flatL xs
end
mutual
def OT.flat : OT → Bool
  | .val d => d.flat
  | .lst _ xs => OT.flatL xs
  | .tup _ xs => OT.flatL xs
  | .ins _ _ _ fs => OT.flatF fs
  | .dic _ _ => false
def OT.flatL : List OT → Bool
  | [] => true
  | x :: xs => x.flat && OT.flatL xs
def OT.flatF : List (Str × OT) → Bool
  | [] => true
  | (_, x) :: xs => x.flat && OT.flatF xs
end
def Sl.flat : Sl → Bool
  | .val d => d.flat
  | .own ds => D.flatL ds
  | .loc t => t.flat
  | _ => false
/-- G' knows what G knows, but some lists -/
def ButLists (G G' : Hp) : Prop := ∀ a u, G a = some u → G' a = some u ∨ ∃ vs, u = .lst vs
theorem ButLists.t {K : PySem.W.Frag} {G G' : Hp} {a : Addr} {xs : List V} (e : ButLists G G') (h : SqT K G a xs) : SqT K G' a xs := by
  rcases h with (h | ⟨o, h⟩) | h
  · rcases e _ _ h with q | ⟨vs, q⟩
    · exact .inl (.inl q)
    · cases q
  · rcases e _ _ h with q | ⟨vs, q⟩
    · exact .inl (.inr ⟨o, q⟩)
    · cases q
  · exact .inr h
section
variable {K : PySem.W.Frag} {G G' H : Hp}
mutual
theorem Rp.fl (e : ButLists G G') : ∀ {v : V} {d : D}, Rp K G v d → d.flat = true → Rp K G' v d
  | _, _, .non, _ => .non
  | _, _, .bl b, _ => .bl b
  | _, _, .int i, _ => .int i
  | _, _, .str x, _ => .str x
  | _, _, .lst _ _, h => by simp [D.flat] at h
  | _, _, .rd _ _, h => by simp [D.flat] at h
  | _, _, .ty n, h => .ty n
  | _, _, .cls a, h => .cls a
  | _, _, .tup h r, q => .tup (e.t h) (RpL.fl e r (by simpa [D.flat] using q))
  | _, _, .dic _ _, h => by simp [D.flat] at h
  | _, _, .ins _ _, h => by simp [D.flat] at h
  | _, _, .exc _ _ _, h => by simp [D.flat] at h
theorem RpL.fl (e : ButLists G G') : ∀ {v : List V} {d : List D}, RpL K G v d → D.flatL d = true → RpL K G' v d
  | _, _, .nil, _ => .nil
  | _, _, .cons h r, q => by
    simp only [D.flatL, Bool.and_eq_true] at q
    exact .cons (Rp.fl e h q.1) (RpL.fl e r q.2)
end
mutual
theorem Own.fl (e : ButLists G G') : ∀ {v : V} {t : OT} {C : List Addr}, Own K G H v t C → t.flat = true → Own K G' H v t C
  | _, _, _, .val r, q => .val (r.fl e (by simpa [OT.flat] using q))
  | _, _, _, .lst h r, q => .lst h (OwnL.fl e r (by simpa [OT.flat] using q))
  | _, _, _, .tup h r, q => .tup (by
    rcases e _ _ h with z | ⟨vs, z⟩
    · exact z
    · cases z) (OwnL.fl e r (by simpa [OT.flat] using q))
  | _, _, _, .ins h h2 r, q => .ins h h2 (OwnF.fl e r (by simpa [OT.flat] using q))
  | _, _, _, .dic _ _, q => by simp [OT.flat] at q
theorem OwnL.fl (e : ButLists G G') : ∀ {v : List V} {t : List OT} {C : List Addr}, OwnL K G H v t C → OT.flatL t = true → OwnL K G' H v t C
  | _, _, _, .nil, _ => .nil
  | _, _, _, .cons h r, q => by
    simp only [OT.flatL, Bool.and_eq_true] at q
    exact .cons (Own.fl e h q.1) (OwnL.fl e r q.2)
theorem OwnF.fl (e : ButLists G G') : ∀ {v : List (Str × V)} {t : List (Str × OT)} {C : List Addr}, OwnF K G H v t C → OT.flatF t = true → OwnF K G' H v t C
  | _, _, _, .nil, _ => .nil
  | _, _, _, .cons h r, q => by
    simp only [OT.flatF, Bool.and_eq_true] at q
    exact .cons (Own.fl e h q.1) (OwnF.fl e r q.2)
end
end
theorem SlOk.fl {K : PySem.W.Frag} {G G' H : Hp} {o : Option V} {F : Addr → Prop} {x : Sl} (e : ButLists G G') (h : SlOk K G H o F x) (q : x.flat = true) : SlOk K G' H o F x := by
  cases x with
  | un => exact h
  | val d =>
    obtain ⟨h1, v, h2, r⟩ := h
    exact ⟨h1, v, h2, r.fl e q⟩
  | own ds =>
    obtain ⟨p, vs, h1, h2, h3, r⟩ := h
    exact ⟨p, vs, h1, h2, h3, r.fl e q⟩
  | loc t =>
    obtain ⟨v, h1, n, C, r, h2⟩ := h
    exact ⟨v, h1, n, C, r.fl e q, h2⟩
  | arg t => cases q
def SimAl (K : PySem.W.Frag) (t : TA) (d : DA) : Prop := ∀ {M : Addr → Prop} {Z G0 H0 G H : Hp} {σ : L2.St} {ρ : List Sl} {F : Nat → Addr → Prop} {Φ : List D → List Sl → Prop} {Q : List V → Hp → Prop}, At K M Z G0 H0 G H σ ρ F → d ρ Φ →
  (∀ vs xs ρ' F' G' Gp H', At K M Z G0 H0 G' H' σ ρ' F' → Same G G' → Same G' Gp → Top Gp H' → ButLists Gp G' → RpL K Gp vs xs → Φ xs ρ' → Q vs H') → t σ H Q
structure PDAl (X : Cx) (es : List Expr) (t : TA) (d : DA) : Prop where
  pe : PA X es t
  sim : SimAl X.K t d
@[irreducible] def dlOwn (i : Nat) (d : DA) : DA := fun ρ Φ => match ρ[i]? with
  | some (.own _) => d ρ fun xs ρ1 => match ρ1[i]? with
    | some (.own ds) => Φ (.lst ds :: xs) ρ1
    | _ => False
  | _ => False
def dCallL (f : DF) (d : DA) : DR := fun ρ Φ => d ρ fun xs ρ1 => f xs fun r => r.flat = true ∧ Φ r ρ1
section
variable {K : PySem.W.Frag}
theorem sim_lnil : SimAl K tNil dNil := fun {M Z G0 H0 G H σ ρ F Φ Q} A hd k => k [] [] ρ F G G H A (Same.refl G) (Same.refl G) A.top (fun a u h => .inl h) .nil hd
theorem sim_lcons {t : TE} {ta : TA} {d : DE} {da : DA} (h : SimE K t d) (ha : SimAl K ta da) : SimAl K (tCons t ta) (dCons d da) := fun {M Z G0 H0 G H σ ρ F Φ Q} A hd k =>
  h A hd fun v x ρ1 F1 G1 H1 A1 e1 r1 q1 => ha A1 q1 fun vs xs ρ2 F2 G2 Gp H2 A2 e2 ep ep2 el r2 q2 => k _ _ ρ2 F2 G2 Gp H2 A2 (e1.trans e2) ep ep2 el (.cons (r1.mono (e2.trans ep)) r2) q2
theorem sim_lown {i : Nat} {ta : TA} {da : DA} (ha : SimAl K ta da) : SimAl K (tCons (tVar i) ta) (dlOwn i da) := by
  intro M Z G0 H0 G H σ ρ F Φ Q A hd k
  unfold dlOwn at hd
  split at hd
  · rename_i ds0 e0
    obtain ⟨p, _, h1, _⟩ := A.own_at e0
    refine ⟨.ref p, h1, ha A hd fun vs xs ρ1 F1 G1 Gp H1 A1 e1 ep ep2 el r1 q1 => ?_⟩
    split at q1
    · rename_i ds e2
      obtain ⟨p', ws, h2, _, h4, h5, _, _⟩ := A1.own_at e2
      rw [h1] at h2
      cases h2
      have k1 := (same_knowA (B := [p]) ep2.s).1
      have k2 := top_knowA (B := [p]) ep2 fun a ha z => by
        obtain ⟨_, ps, q⟩ := ep2.t.at z
        rw [List.mem_singleton.mp ha, h4] at q
        cases q
      have at_p : knowA Gp H1 [p] p = some (.lst ws) := by
        unfold knowA
        rw [if_pos (by simp)]
        exact h4
      refine k _ _ ρ1 F1 G1 (knowA Gp H1 [p]) H1 A1 e1 (ep.trans k1) k2 (fun a u h => ?_) (.cons (.lst at_p (h5.mono (ep.trans k1))) (r1.mono k1)) q1
      by_cases c : a = p
      · rw [c, at_p] at h
        exact .inr ⟨ws, (Option.some.inj h).symm⟩
      · unfold knowA at h
        rw [if_neg (by simpa using c)] at h
        exact el a u h
    · exact q1.elim
  · exact hd.elim
theorem sim_callL {f : DF} {t : TA} {d : DA} {E : XK} (h : SimAl K t d) : SimR K (tCall (SpV K f) [] E t) (dCallL f d) := by
  intro M Z G0 H0 G H σ ρ F Φ Q A hd k
  refine h A hd fun vs xs ρ1 F1 G1 Gp H1 A1 e1 ep ep2 el r1 q1 => ?_
  rw [List.append_nil]
  refine ⟨Gp, xs, _, ep2, r1, q1, fun v r Fr Gp2 H2 eG eH eGH old hr q2 => ?_⟩
  obtain ⟨hs, q2⟩ := q2
  classical
  have hG : ∃ G2 : Hp, Same G1 G2 ∧ Same G2 H2 ∧ (∀ a, H1 a ≠ none → G2 a = G1 a) ∧ ∀ a, H1 a = none → G2 a = Gp2 a := by
    refine ⟨fun a => if H1 a = none then Gp2 a else G1 a, fun a o q => ?_, fun a o q => ?_, fun a n => if_neg n, fun a n => if_pos n⟩
    · show (if H1 a = none then Gp2 a else G1 a) = some o
      rw [if_neg (by rw [A1.gh a o q]; exact Option.some_ne_none _)]
      exact q
    · have q' : (if H1 a = none then Gp2 a else G1 a) = some o := q
      split at q'
      · exact eGH a o q'
      · exact eH.k a o (A1.gh a o q') fun z => by rw [(A1.tb.at z).1] at q'; cases q'
  obtain ⟨G2, g1, g2, g3, g4⟩ := hG
  have fl : ButLists Gp2 G2 := fun a u q => by
    by_cases n : H1 a = none
    · exact .inl (by rw [g4 a n]; exact q)
    · rw [old a n] at q
      rw [g3 a n]
      exact el a u q
  refine k v r Fr ρ1 F1 G2 H2 (A1.growT g1 ⟨eH.k, tab_lent eH.t A1.tb (fun a φ q => by
    rcases el a _ q with z | ⟨vs, z⟩
    · exact z
    · cases z) old g3 g4⟩ g2 g3) (e1.trans g1) ⟨hr.ok.fl fl hs, hr.na, fun a fa => ?_⟩ q2
  obtain ⟨h1, h2, h3, _, _⟩ := hr.fr a fa
  refine ⟨by rw [g4 a h3]; exact h1, h2, ?_, ?_, fun j z => (A1.fp j a z).2.1 h3⟩
  · cases q : H0 a with
    | none => rfl
    | some o => exact absurd h3 (A1.hn a (by rw [q]; exact Option.some_ne_none _))
  · cases q : Z a with
    | none => rfl
    | some o =>
      have := (A1.hz a o q).1
      rw [h3] at this
      cases this
end
/-- e == x, x one's own -/
@[irreducible] def dCmpOwnR (f : D → D → (D → Prop) → Prop) (d : DE) (i : Nat) : DE := fun ρ Φ => d ρ fun x ρ1 => match ownD (ρ1[i]?) with
  | some y => f x y fun z => Φ z ρ1
  | none => False
theorem sim_eqOwnR {K : PySem.W.Frag} {i : Nat} {t : TE} {d : DE} (h : SimE K t d) : SimE K (tOp (rEqD K) t (tVar i)) (dCmpOwnR eqD d i) := by
  intro M Z G0 H0 G H σ ρ F Φ Q A hd k
  unfold dCmpOwnR at hd
  refine h A hd fun w y ρ1 F1 G1 H1 A1 e1 r1 q1 => ?_
  split at q1
  · rename_i x e2
    obtain ⟨v, G2, h2, k1, ⟨k2, _⟩, _, r⟩ := A1.lend e2 (Same.refl G1) A1.top
    obtain ⟨o1, o2, q1⟩ := q1
    exact ⟨v, h2, _, _, r1.dp A1.gh o1, r.dp k2 o2, D.shaped o1, D.shaped o2, k _ _ ρ1 F1 G1 H1 A1 e1 (.bl _) q1⟩
  · exact q1.elim
theorem sim_neOwnR {K : PySem.W.Frag} {i : Nat} {t : TE} {d : DE} (h : SimE K t d) : SimE K (tOp (rNeD K) t (tVar i)) (dCmpOwnR neD d i) := by
  intro M Z G0 H0 G H σ ρ F Φ Q A hd k
  unfold dCmpOwnR at hd
  refine h A hd fun w y ρ1 F1 G1 H1 A1 e1 r1 q1 => ?_
  split at q1
  · rename_i x e2
    obtain ⟨v, G2, h2, k1, ⟨k2, _⟩, _, r⟩ := A1.lend e2 (Same.refl G1) A1.top
    obtain ⟨o1, o2, q1⟩ := q1
    exact ⟨v, h2, _, _, r1.dp A1.gh o1, r.dp k2 o2, D.shaped o1, D.shaped o2, k _ _ ρ1 F1 G1 H1 A1 e1 (.bl _) q1⟩
  · exact q1.elim
section
variable {X : Cx} {k : Nat} {f : DF} {fa : Addr} {fd : FuncData} {ps : List Str} {x y : Str} {e a b : Expr} {es : List Expr} {t : TA} {d : DA} {te : TE} {de : DE} {p pos q : Pos}
theorem pdal_nil : PDAl X [] tNil dNil := ⟨pa_nil, sim_lnil⟩
theorem pdal_cons (h : PD X e te de) (ha : PDAl X es t d) (hs : starEach (e :: es) X.env = (false, eval e X.env) :: starEach es X.env := by rfl) : PDAl X (e :: es) (tCons te t) (dCons de d) := ⟨pa_cons h.pe ha.pe hs, sim_lcons h.sim ha.sim⟩
theorem pdal_own (i : Nat) (ha : PDAl X es t d) (hN : X.N[i]? = some x := by rfl) (hv : Vis X.env.scope x := by first | exact Or.inl rfl | exact Or.inr (Or.inl rfl) | exact Or.inr (Or.inr rfl)) (hd : (x == ("__debug__" : Str)) = false := by decide)
    (hcd : (x == ("__classdict__" : Str)) = false := by decide) (hs : starEach (.Name x p :: es) X.env = (false, eval (.Name x p) X.env) :: starEach es X.env := by rfl) : PDAl X (.Name x p :: es) (tCons (tVar i) t) (dlOwn i d) := ⟨pa_cons (pe_var hN hv hd hcd) ha.pe hs, sim_lown ha.sim⟩
theorem pr_callL (G : FnOk X.prog X.w X.K X.mg X.base CX0 k fa fd ps (SpV X.K f)) (hr : Room k X.A) (hm : X.mg x = some (.ref fa)) (hk : PySem.W.keepIn X.K (.ref fa) = true) (hb : Binds X.K fd ps []) (ha : PDAl X (e :: es) t d) (hg : Gl X x := by rfl)
    (hdb : (x == ("__debug__" : Str)) = false := by decide) (hs : starEach (e :: es) X.env = (false, eval e X.env) :: starEach es X.env := by rfl) (hpl : (backTo pos (starEach es X.env)).any (·.1) = false := by rfl) :
    PR X (.Call (.Name x p) (e :: es) [] pos) (tCall (SpV X.K f) [] E0 t) (dCallL f d) := ⟨pe_call G hr hg hm hk hb .nil pass0 ha.pe hdb hs hpl, sim_callL ha.sim⟩
theorem pd_eqOwnR (i : Nat) (hu : X.A.units + 64 < cLine) (ha : PD X a te de) (hN : X.N[i]? = some x := by rfl) (hv : Vis X.env.scope x := by first | exact Or.inl rfl | exact Or.inr (Or.inl rfl) | exact Or.inr (Or.inr rfl)) (hd : (x == ("__debug__" : Str)) = false := by decide)
    (hcd : (x == ("__classdict__" : Str)) = false := by decide) : PD X (.Compare a [.Eq] [.Name x p] pos) (tOp (rEqD X.K) te (tVar i)) (dCmpOwnR eqD de i) := ⟨pe_cmpR (op_eqD hu) ha.pe (pe_var hN hv hd hcd) (nomark _), sim_eqOwnR ha.sim⟩
theorem pd_neOwnR (i : Nat) (hu : X.A.units + 64 < cLine) (ha : PD X a te de) (hN : X.N[i]? = some x := by rfl) (hv : Vis X.env.scope x := by first | exact Or.inl rfl | exact Or.inr (Or.inl rfl) | exact Or.inr (Or.inr rfl)) (hd : (x == ("__debug__" : Str)) = false := by decide)
    (hcd : (x == ("__classdict__" : Str)) = false := by decide) : PD X (.Compare a [.NotEq] [.Name x p] pos) (tOp (rNeD X.K) te (tVar i)) (dCmpOwnR neD de i) := ⟨pe_cmpR (op_neD hu) ha.pe (pe_var hN hv hd hcd) (nomark _), sim_neOwnR ha.sim⟩
theorem pdt_eqOwnR (i : Nat) (hu : X.A.units + 64 < cLine) (ha : PD X a te de) (hN : X.N[i]? = some x := by rfl) (hv : Vis X.env.scope x := by first | exact Or.inl rfl | exact Or.inr (Or.inl rfl) | exact Or.inr (Or.inr rfl)) (hd : (x == ("__debug__" : Str)) = false := by decide)
    (hcd : (x == ("__classdict__" : Str)) = false := by decide) : PDT X (.Compare a [.Eq] [.Name x p] pos) (tTest (tOp (rEqD X.K) te (tVar i))) (dTest (dCmpOwnR eqD de i)) := ⟨pt_cmpR (op_eqD hu) ha.pe (pe_var hN hv hd hcd) (nomark _), sim_test (sim_eqOwnR ha.sim)⟩
theorem pdt_neOwnR (i : Nat) (hu : X.A.units + 64 < cLine) (ha : PD X a te de) (hN : X.N[i]? = some x := by rfl) (hv : Vis X.env.scope x := by first | exact Or.inl rfl | exact Or.inr (Or.inl rfl) | exact Or.inr (Or.inr rfl)) (hd : (x == ("__debug__" : Str)) = false := by decide)
    (hcd : (x == ("__classdict__" : Str)) = false := by decide) : PDT X (.Compare a [.NotEq] [.Name x p] pos) (tTest (tOp (rNeD X.K) te (tVar i))) (dTest (dCmpOwnR neD de i)) := ⟨pt_cmpR (op_neD hu) ha.pe (pe_var hN hv hd hcd) (nomark _), sim_test (sim_neOwnR ha.sim)⟩
end
end DL
set_option Elab.async false
set_option linter.all false
set_option maxRecDepth 100000
set_option maxHeartbeats 2000000
namespace DL
open PySem PySem.Spec PyProof.Rows L2 RT
variable [Tabl]

/-! ### join, split -/
def D.strs : List D → Option (List Str)
  | [] => some []
  | .str x :: r => match D.strs r with
    | some xs => some (x :: xs)
    | none => none
  | _ :: _ => none
theorem strs_map : ∀ xs : List Str, D.strs (xs.map D.str) = some xs
  | [] => rfl
  | x :: xs => by
    rw [List.map_cons, D.strs, strs_map xs]
theorem strs_some : ∀ {ds : List D} {xs : List Str}, D.strs ds = some xs → ds = xs.map D.str
  | [], xs, h => by cases h; rfl
  | x :: r, xs, h => by
    unfold D.strs at h
    split at h
    · rename_i e
      cases e
    · rename_i e
      cases e
      split at h
      · rename_i ys e2
        cases h
        rw [strs_some e2]
        rfl
      · cases h
    · cases h
theorem rpl_strs {K : PySem.W.Frag} {G : Hp} : ∀ {xs : List Str} {vs : List V}, RpL K G vs (xs.map D.str) → vs = xs.map V.str
  | [], _, .nil => rfl
  | x :: xs, _, .cons h r => by
    cases h
    rw [rpl_strs r]
    rfl
theorem rpl_ofStrs {K : PySem.W.Frag} {G : Hp} : ∀ xs : List Str, RpL K G (xs.map V.str) (xs.map D.str)
  | [] => .nil
  | x :: xs => .cons (.str x) (rpl_ofStrs xs)
@[irreducible] def joinD : D → List D → (Sl → Prop) → Prop
  | .str a, [.lst xs], Φ => match D.strs xs with
    | some ys => (ys.map (·.length)).sum + ys.length * a.length ≤ 1000000 ∧ Φ (.val (.str (Txt.join a ys)))
    | none => False
  | _, _, _ => False
def splitD : D → List D → (Sl → Prop) → Prop
  | .str a, [.str b], Φ => (b.length == 0) = false ∧ a.length ≤ 1000000 ∧ Φ (.own ((Txt.split a b).map D.str))
  | _, _, _ => False
def rJoinT (K : PySem.W.Frag) : V → List V → Hp → VK → Prop := fun x xs H Q => ∃ a p, ∃ ys : List Str, x = .str a ∧ xs = [.ref p] ∧ (SqL K H p (ys.map V.str) ∨ SqT K H p (ys.map V.str)) ∧ (ys.map (·.length)).sum + ys.length * a.length ≤ 16777216 ∧ Q (.str (Txt.join a ys)) H
def rSplitT : V → List V → Hp → VK → Prop := fun x xs H Q => ∃ a b, x = .str a ∧ xs = [.str b] ∧ (b.length == 0) = false ∧ a.length + 2 ≤ sizeLine ∧ rNewStrs (Txt.split a b) H Q
theorem simm_join {K : PySem.W.Frag} : SimMt K (rJoinT K) joinD := by
  intro M Z G0 H0 G H σ ρ F v x vs xs Φ Q A rx rxs hf k
  unfold joinD at hf
  split at hf
  · rename_i a ds
    split at hf
    · rename_i ys e
      obtain ⟨hl, hf⟩ := hf
      cases rx
      cases rxs with
      | cons r1 r2 =>
        cases r2
        rw [strs_some e] at r1
        cases r1 with
        | lst hx px =>
          rw [rpl_strs px] at hx
          exact ⟨a, _, ys, rfl, rfl, .inl (SqL.of (A.gh _ _ hx)), by omega, k _ _ _ G H A (Same.refl G) (.val (.str _)) hf⟩
    · exact hf.elim
  · exact hf.elim
theorem simm_split {K : PySem.W.Frag} : SimMt K rSplitT splitD := by
  intro M Z G0 H0 G H σ ρ F v x vs xs Φ Q A rx rxs hf k
  unfold splitD at hf
  split at hf
  · rename_i a b
    obtain ⟨h0, hl, hf⟩ := hf
    cases rx
    cases rxs with
    | cons r1 r2 =>
      cases r2
      cases r1
      refine ⟨a, b, rfl, rfl, h0, by rw [sizeLine_eq]; omega, fun p hp => ?_⟩
      obtain ⟨A2, r⟩ := A.lst_new hp (rpl_ofStrs (K := K) (G := G) (Txt.split a b))
      exact k _ _ _ G _ A2 (Same.refl G) r hf
  · exact hf.elim
section
variable {X : Cx} {o e : Expr} {es : List Expr} {to : TE} {t : TA} {d : DE} {da : DA} {apos cpos : Pos}
theorem pr_join (h : PD X o to d) (ha : PDA X (e :: es) t da) (hbase : attributeBase o "join" X.env (eval o X.env) = eval o X.env := by rfl)
    (hfew : ((backTo cpos (starEach (e :: es) X.env)).all (fun x => !x.1) && (backToKw cpos (keywordEach [] X.env)).all (fun x => x.1.isSome)
      && decide ((e :: es).length + ([] : List Keyword).length + (if ([] : List Keyword).isEmpty then 0 else 1) < 30)) = true := by rfl)
    (hline : (apos.endLine == cpos.line) = true := by rfl) (hs : starEach (e :: es) X.env = (false, eval e X.env) :: starEach es X.env := by rfl) (hplain : (backTo cpos (starEach es X.env)).any (·.1) = false := by rfl) :
    PR X (.Call (.Attribute o "join" apos) (e :: es) [] cpos) (tBM X.K "str" (rJoinT X.K) to t) (dMt isS joinD d da) :=
  ⟨pe_bm PySem.F.plainAttrs_str PySem.F.slot_str_join PySem.F.type_str_join mt_join h.pe ha.pe hbase hfew hline hs hplain, sim_mt tyV_s simm_join h.sim ha.sim⟩
theorem pr_split (h : PD X o to d) (ha : PDA X (e :: es) t da) (hbase : attributeBase o "split" X.env (eval o X.env) = eval o X.env := by rfl)
    (hfew : ((backTo cpos (starEach (e :: es) X.env)).all (fun x => !x.1) && (backToKw cpos (keywordEach [] X.env)).all (fun x => x.1.isSome)
      && decide ((e :: es).length + ([] : List Keyword).length + (if ([] : List Keyword).isEmpty then 0 else 1) < 30)) = true := by rfl)
    (hline : (apos.endLine == cpos.line) = true := by rfl) (hs : starEach (e :: es) X.env = (false, eval e X.env) :: starEach es X.env := by rfl) (hplain : (backTo cpos (starEach es X.env)).any (·.1) = false := by rfl) :
    PR X (.Call (.Attribute o "split" apos) (e :: es) [] cpos) (tBM X.K "str" rSplitT to t) (dMt isS splitD d da) :=
  ⟨pe_bm PySem.F.plainAttrs_str PySem.F.slot_str_split PySem.F.type_str_split mt_split h.pe ha.pe hbase hfew hline hs hplain, sim_mt tyV_s simm_split h.sim ha.sim⟩
end

/-! ### {k: v, ..} -/
abbrev DPs := List Sl → (List (D × D) → List Sl → Prop) → Prop
inductive RpP (K : PySem.W.Frag) (G : Hp) : List (V × V) → List (D × D) → Prop
  | nil : RpP K G [] []
  | cons {x y : V} {a b : D} {vs : List (V × V)} {ds : List (D × D)} : Rp K G x a → Rp K G y b → RpP K G vs ds → RpP K G ((x, y) :: vs) ((a, b) :: ds)
def SimPs (K : PySem.W.Frag) (trs : List (TE × TE)) (d : DPs) : Prop := ∀ {M : Addr → Prop} {Z G0 H0 G H : Hp} {σ : L2.St} {ρ : List Sl} {F : Nat → Addr → Prop} {Φ : List (D × D) → List Sl → Prop} {Q : List (V × V) → Hp → Prop}, At K M Z G0 H0 G H σ ρ F → d ρ Φ →
  (∀ ps ds ρ' F' G' H', At K M Z G0 H0 G' H' σ ρ' F' → Same G G' → RpP K G' ps ds → Φ ds ρ' → Q ps H') → tPairs trs σ H Q
structure PDPs (X : Cx) (pos : Pos) (keys : List (Option Expr)) (values : List Expr) (trs : List (TE × TE)) (d : DPs) : Prop where
  pe : PPs X pos keys values trs
  sim : SimPs X.K trs d
def dpNil : DPs := fun ρ Φ => Φ [] ρ
def dpCons (dk dv : DE) (r : DPs) : DPs := fun ρ Φ => dk ρ fun x ρ1 => dv ρ1 fun y ρ2 => r ρ2 fun ps ρ3 => Φ ((x, y) :: ps) ρ3
def D.keys : List (D × D) → Option (List (Key × D))
  | [] => some []
  | (a, b) :: r => match a.key, D.keys r with
    | some k, some ks => some ((k, b) :: ks)
    | _, _ => none
def dDict (d : DPs) : DR := fun ρ Φ => d ρ fun ps ρ1 => match D.keys ps with
  | some ks => ks.length ≤ 15 ∧ (ks.map (·.1)).Nodup ∧ Φ (.val (.dic ks)) ρ1
  | none => False
section
variable {K : PySem.W.Frag}
theorem sim_pnil : SimPs K [] dpNil := fun {M Z G0 H0 G H σ ρ F Φ Q} A hd k => k [] [] ρ F G H A (Same.refl G) .nil hd
theorem RpP.mono {G G' : Hp} (e : Same G G') : ∀ {vs : List (V × V)} {ds : List (D × D)}, RpP K G vs ds → RpP K G' vs ds
  | _, _, .nil => .nil
  | _, _, .cons a b r => .cons (a.mono e) (b.mono e) (RpP.mono e r)
theorem sim_pcons {tk tv : TE} {trs : List (TE × TE)} {dk dv : DE} {r : DPs} (hk : SimE K tk dk) (hv : SimE K tv dv) (hr : SimPs K trs r) : SimPs K ((tk, tv) :: trs) (dpCons dk dv r) := fun {M Z G0 H0 G H σ ρ F Φ Q} A hd k =>
  hk A hd fun x a ρ1 F1 G1 H1 A1 e1 r1 q1 => hv A1 q1 fun y b ρ2 F2 G2 H2 A2 e2 r2 q2 => hr A2 q2 fun ps ds ρ3 F3 G3 H3 A3 e3 r3 q3 => k _ _ ρ3 F3 G3 H3 A3 (e1.trans (e2.trans e3)) (.cons (r1.mono (e2.trans e3)) (r2.mono e3) r3) q3
theorem putK_new {α : Type} {kvs : List (Key × V)} {k : Key} {v : V} (h : k ∉ kvs.map (·.1)) : putK kvs k v = kvs ++ [(k, v)] := by
  unfold putK
  rw [if_neg]
  rw [List.any_eq_true]
  rintro ⟨p, hp, e⟩
  exact h (List.mem_map.mpr ⟨p, hp, of_decide_eq_true e⟩)
theorem mergeK_new : ∀ (more kvs : List (Key × V)), ((kvs ++ more).map (·.1)).Nodup → mergeK kvs more = kvs ++ more
  | [], kvs, _ => (List.append_nil kvs).symm
  | p :: more, kvs, h => by
    have hn : p.1 ∉ kvs.map (·.1) := fun hm => by
      rw [List.map_append, List.map_cons] at h
      exact (List.nodup_append.mp h).2.2 _ hm _ List.mem_cons_self rfl
    have h2 : ((kvs ++ [(p.1, p.2)] ++ more).map (·.1)).Nodup := by
      rw [List.append_assoc]
      exact h
    have e1 : mergeK kvs (p :: more) = mergeK (putK kvs p.1 p.2) more := rfl
    rw [e1, putK_new (α := Unit) hn, mergeK_new more _ h2, List.append_assoc]
    rfl
theorem keys_rp {G : Hp} : ∀ {vs : List (V × V)} {ds : List (D × D)} {ks : List (Key × D)}, RpP K G vs ds → D.keys ds = some ks → ∃ kvs : List (Key × V), vs = kvs.map (fun kv => (kV kv.1, kv.2)) ∧ RpK K G kvs ks ∧ kvs.map (·.1) = ks.map (·.1)
  | _, _, ks, .nil, e => by
    cases e
    exact ⟨[], rfl, .nil, rfl⟩
  | _, _, ks, .cons (a := a) (b := b) ra rb r, e => by
    unfold D.keys at e
    split at e
    · rename_i k ks' e1 e2
      cases e
      obtain ⟨kvs, h1, h2, h3⟩ := keys_rp r e2
      exact ⟨(k, _) :: kvs, by rw [h1, key_rp ra e1]; rfl, .cons rb h2, by rw [List.map_cons, List.map_cons, h3]⟩
    · cases e
theorem sim_dict {trs : List (TE × TE)} {d : DPs} (h : SimPs K trs d) : SimR K (tDisp trs) (dDict d) := by
  intro M Z G0 H0 G H σ ρ F Φ Q A hd k p hp
  have zp : Z p = none := by
    cases q : Z p with
    | none => rfl
    | some o =>
      have := (A.hz p o q).1
      rw [hp] at this
      cases this
  have h0p : H0 p = none := by
    cases q : H0 p with
    | none => rfl
    | some o => exact absurd hp (A.hn p (by rw [q]; exact Option.some_ne_none _))
  refine h (A.hide hp) hd fun ps ds ρ1 F1 G1 H1 A1 e1 r1 q1 => ?_
  obtain ⟨hp1, gp1, fp1⟩ := A1.hz p _ upd_same
  refine ⟨hp1, ?_⟩
  split at q1
  · rename_i ks ek
    obtain ⟨l15, nd, q1⟩ := q1
    obtain ⟨kvs, ev, rk, ekk⟩ := keys_rp r1 ek
    have me : mergeK [] kvs = kvs := mergeK_new kvs [] (by rw [List.nil_append, ekk]; exact nd)
    refine ⟨kvs, ev, by rw [← List.length_map (f := (·.1)), ekk, List.length_map]; exact l15, ?_⟩
    rw [me]
    have A2 := (A1.rehide (o' := .dK kvs) h0p).unhide zp
    obtain ⟨A3, e3⟩ := A2.know (p := p) (o := .dK kvs) upd_same h0p fp1 gp1 zp
    have rk' : RpK K (upd G1 p (.dK kvs)) kvs ks := rk.mono e3
    exact k (.ref p) (.val (.dic ks)) _ ρ1 F1 _ _ A3 (e1.trans e3) (.val (.dic (.inl upd_same) rk')) q1
  · exact q1.elim
end
section
variable {X : Cx} {pos : Pos} {k v : Expr} {ks : List (Option Expr)} {vs : List Expr} {tk tv : TE} {trs : List (TE × TE)} {dk dv : DE} {d : DPs}
theorem pdp_nil : PDPs X pos [] [] [] dpNil := ⟨pps_nil, sim_pnil⟩
theorem pdp_cons (hk : PD X k tk dk) (hv : PD X v tv dv) (hr : PDPs X pos ks vs trs d) : PDPs X pos (some k :: ks) (v :: vs) ((tk, tv) :: trs) (dpCons dk dv d) := ⟨pps_cons hk.pe hv.pe hr.pe, sim_pcons hk.sim hv.sim hr.sim⟩
theorem pr_dict (h : PDPs X pos (some k :: ks) (v :: vs) trs d) (hall : ((some k :: ks).all (·.isSome)) = true := by rfl) (hl : (some k :: ks).length = (v :: vs).length := by rfl) (h15 : (some k :: ks).length ≤ 15 := by decide) : PR X (.Dict (some k :: ks) (v :: vs) pos) (tDisp trs) (dDict d) :=
  ⟨pe_disp h.pe hall hl (fun z => nomatch z) h15, sim_dict h.sim⟩
end

/-! ### a dict of the module with whole numbers as keys, its values texts -/
structure DictI (K : PySem.W.Frag) (a : Addr) (kvs : List (Int × Str)) : Prop where
  ex : ∃ (es : List DictEntry) (n : Nat), K.lookup a = some ⟨.type "dict", none, .dict es.toArray n, #[]⟩ ∧ Paired (fun (e : DictEntry) (kv : Int × Str) => (∃ t, e.key = .int kv.1 t) ∧ e.hash = hashInt kv.1 ∧ ∃ t, e.val = .str kv.2 t) es kvs
def rDicI (a : Addr) (kvs : List (Int × Str)) : R2 := fun x y H Q => x = .ref a ∧ ∃ i s, y = .int i ∧ kvs.lookup i = some s ∧ Q (.str s) H
theorem dictI_find {es : List DictEntry} {kvs : List (Int × Str)} (h : Paired (fun (e : DictEntry) (kv : Int × Str) => (∃ t, e.key = .int kv.1 t) ∧ e.hash = hashInt kv.1 ∧ ∃ t, e.val = .str kv.2 t) es kvs) {i : Int} {s : Str} (e : kvs.lookup i = some s) :
    ∃ t, findBy keyIs es.toArray (.inl i) = some (.str s t) := by
  unfold findBy
  rw [List.find?_toArray]
  induction h with
  | nil => cases e
  | @cons d kv ds ks h1 _ ih =>
    obtain ⟨⟨t, hk⟩, _, t2, hv⟩ := h1
    obtain ⟨k, s'⟩ := kv
    rw [List.lookup_cons] at e
    have hq : keyIs (.inl i) d.key = decide (k = i) := by
      rw [hk]
      by_cases c : k = i <;> simp [keyIs, Value.isInt, c]
    rw [List.find?_cons, hq]
    by_cases c : i = k
    · subst c
      simp at e
      subst e
      simp
      exact ⟨t2, hv⟩
    · have c' : ¬ k = i := fun q => c q.symm
      rw [decide_eq_false c']
      have : (i == k) = false := by simp [c]
      rw [this] at e
      exact ih e
theorem ix_dictI {X : Cx} {a : Addr} {kvs : List (Int × Str)} (T : DictI X.K a kvs) : IxR X (rDicI a kvs) := by
  intro value slice pins s σ H x y v u Q I rx ry h hs
  obtain ⟨rfl, i, z, rfl, el, q⟩ := h
  cases rx
  obtain ⟨t, rfl⟩ := ry
  obtain ⟨es, n, hl, hp⟩ := T.ex
  obtain ⟨t2, hf⟩ := dictI_find hp el
  have hm : s.heap.MapOf (mixKind X.prog X.w) a (fun k => findBy keyIs es.toArray k) := by
    refine ⟨_, es.toArray, n, I.kIn _ _ hl, ⟨rfl, rfl, rfl⟩, rfl, fun e he => ?_, fun _ => rfl⟩
    have he' : e ∈ es := by simpa using he
    have : ∀ {es : List DictEntry} {kvs : List (Int × Str)}, Paired (fun (e : DictEntry) (kv : Int × Str) => (∃ t, e.key = .int kv.1 t) ∧ e.hash = hashInt kv.1 ∧ ∃ t, e.val = .str kv.2 t) es kvs → ∀ e ∈ es, ∃ k, (mixKind X.prog X.w).is k e.key = true ∧ e.hash = (mixKind X.prog X.w).hash k := by
      intro es kvs h
      induction h with
      | nil => exact fun e he => nomatch he
      | @cons d kv ds ks h1 _ ih =>
        intro e he
        rcases List.mem_cons.mp he with q | q
        · obtain ⟨⟨t, hk⟩, hh, _⟩ := h1
          rw [q]
          exact ⟨.inl kv.1, by rw [hk]; exact mixKind_int X.prog X.w kv.1 t, hh⟩
        · exact ih e q
    exact this hp e he'
  exact tail_any hm.typeIs PySem.F.slot_dict_getitem.lookup (wpAny_getItem_of (knd := mixKind X.prog X.w) (mixKind_int X.prog X.w i t) hm hf ⟨.str z, H, I.tok _, ⟨t2, rfl⟩, q⟩) hs
/-- TABLE[e] -/
def dIxI (kvs : List (Int × Str)) (d : DE) : DE := fun ρ Φ => d ρ fun y ρ1 => match y with
  | .int i => match kvs.lookup i with
    | some s => Φ (.str s) ρ1
    | none => False
  | _ => False
theorem sim_ixI {K : PySem.W.Frag} {a : Addr} {kvs : List (Int × Str)} {t : TE} {d : DE} (h : SimE K t d) : SimE K (tOp (rDicI a kvs) (tC (.ref a)) t) (dIxI kvs d) := by
  intro M Z G0 H0 G H σ ρ F Φ Q A hd k
  refine h A hd fun v y ρ1 F1 G1 H1 A1 e1 r1 q1 => ?_
  split at q1
  · rename_i i
    split at q1
    · rename_i s es
      cases r1
      exact ⟨rfl, i, s, rfl, es, k _ _ ρ1 F1 G1 H1 A1 e1 (.str s) q1⟩
    · exact q1.elim
  · exact q1.elim
theorem pd_ixI {X : Cx} {x : Str} {a : Addr} {kvs : List (Int × Str)} {e : Expr} {t : TE} {d : DE} {p pos : Pos} (T : DictI X.K a kvs) (hm : X.mg x = some (.ref a)) (h : PD X e t d) (hs : PlainIx e) (hg : Gl X x := by rfl) (hd : (x == ("__debug__" : Str)) = false := by decide) :
    PD X (.Subscript (.Name x p) e pos) (tOp (rDicI a kvs) (tC (.ref a)) t) (dIxI kvs d) := ⟨pe_ix (ix_dictI T) (pe_glob hg hm rfl hd) h.pe hs, sim_ixI h.sim⟩
end DL
set_option Elab.async false
set_option linter.all false
set_option maxRecDepth 100000
set_option maxHeartbeats 2000000
namespace DL
open PySem PySem.Spec PyProof.Rows L2 RT
variable [Tabl]

/-! ### a op b op c op d -/
def tChain3 (r r' r'' : R2) (ta tb tc td : TE) : TE := fun σ H Q => ta σ H fun x H1 => tb σ H1 fun y H2 => r x y H2 fun z H3 => ∃ k, z = .bl k ∧
  (if k = true then tc σ H3 fun w H4 => r' y w H4 fun z' H5 => ∃ k', z' = .bl k' ∧ (if k' = true then td σ H5 fun v H6 => r'' w v H6 Q else Q (.bl false) H5) else Q (.bl false) H3)
theorem pe_chain3 {X : Cx} {a b c d : Expr} {o1 o2 o3 : CmpOp} {r r' r'' : R2} {ta tb tc td : TE} {pos : Pos} (h1 : OpR X (compareOp o1) r) (h2 : OpR X (compareOp o2) r') (h3 : OpR X (compareOp o3) r'') (ha : PE X a ta) (hb : PE X b tb) (hc : PE X c tc) (hd : PE X d td)
    (hm : lastMarks [o1, o2, o3] [b, c, d] = false := by with_unfolding_all rfl) : PE X (.Compare a [o1, o2, o3] [b, c, d] pos) (tChain3 r r' r'' ta tb tc td) := by
  refine ⟨fun pins s σ H Q I h => ?_⟩
  refine Compare_chain (thn (ha.run pins s σ H _ I h) fun v s1 ⟨x, H1, I1, rx, q1⟩ => chain_link (thn (hb.run pins s1 σ H1 _ I1 q1) fun u s2 ⟨y, H2, I2, ry, q2⟩ =>
    thn (h1 pins s2 σ H2 x y v u _ I2 rx ry q2) fun e s3 ⟨z, H3, I3, rz, k, ez, q3⟩ => ?_)) hm
  subst ez
  cases rz
  refine wpAny_truthy_bool ?_
  cases k with
  | false => exact ite_ff ⟨.bl false, H3, I3, rfl, q3⟩
  | true =>
    refine ite_tt (chain_link (thn (hc.run pins s3 σ H3 _ I3 q3) fun u2 s4 ⟨w, H4, I4, rw4, q4⟩ => thn (h2 pins s4 σ H4 y w u u2 _ I4 ry rw4 q4) fun e2 s5 ⟨z2, H5, I5, rz2, k2, ez2, q5⟩ => ?_))
    subst ez2
    cases rz2
    refine wpAny_truthy_bool ?_
    cases k2 with
    | false => exact ite_ff ⟨.bl false, H5, I5, rfl, q5⟩
    | true => exact ite_tt (chain_last (thn (hd.run pins s5 σ H5 _ I5 q5) fun u3 s6 ⟨v6, H6, I6, r6, q6⟩ => h3 pins s6 σ H6 w v6 u2 u3 Q I6 rw4 r6 q6))
def dChain3 (f f' f'' : D → D → (D → Prop) → Prop) (da db dc dd : DE) : DE := fun ρ Φ => da ρ fun x ρ1 => db ρ1 fun y ρ2 => f x y fun z => match z with
  | .bl k => if k = true then dc ρ2 fun w ρ3 => f' y w fun z' => match z' with
      | .bl k' => if k' = true then dd ρ3 fun v ρ4 => f'' w v fun u => Φ u ρ4 else Φ (.bl false) ρ3
      | _ => False
    else Φ (.bl false) ρ2
  | _ => False
theorem sim_chain3 {K : PySem.W.Frag} {r r' r'' : R2} {f f' f'' : D → D → (D → Prop) → Prop} {ta tb tc td : TE} {da db dc dd : DE} (h : SimV2 K r f) (h' : SimV2 K r' f') (h'' : SimV2 K r'' f'') (ha : SimE K ta da) (hb : SimE K tb db) (hc : SimE K tc dc) (hd : SimE K td dd) :
    SimE K (tChain3 r r' r'' ta tb tc td) (dChain3 f f' f'' da db dc dd) := by
  intro M Z G0 H0 G H σ ρ F Φ Q A hyp k
  refine ha A hyp fun v x ρ1 F1 G1 H1 A1 e1 rx q1 => hb A1 q1 fun u y ρ2 F2 G2 H2 A2 e2 ry q2 => h A2 (rx.mono e2) ry q2 fun z zd G3 H3 A3 e3 rz q3 => ?_
  split at q3
  · rename_i b
    cases rz
    refine ⟨b, rfl, ?_⟩
    cases b with
    | false => exact k _ _ ρ2 F2 G3 H3 A3 (e1.trans (e2.trans e3)) (.bl _) q3
    | true =>
      refine hc A3 q3 fun w wd ρ4 F4 G4 H4 A4 e4 rw4 q4 => h' A4 (ry.mono (e3.trans e4)) rw4 q4 fun z2 zd2 G5 H5 A5 e5 rz2 q5 => ?_
      split at q5
      · rename_i b2
        cases rz2
        refine ⟨b2, rfl, ?_⟩
        cases b2 with
        | false => exact k _ _ ρ4 F4 G5 H5 A5 (e1.trans (e2.trans (e3.trans (e4.trans e5)))) (.bl _) q5
        | true =>
          refine hd A5 q5 fun t td' ρ6 F6 G6 H6 A6 e6 rt q6 => h'' A6 (rw4.mono (e5.trans e6)) rt q6 fun z3 zd3 G7 H7 A7 e7 rz3 q7 => ?_
          exact k _ _ ρ6 F6 G7 H7 A7 (e1.trans (e2.trans (e3.trans (e4.trans (e5.trans (e6.trans e7)))))) rz3 q7
      · exact q5.elim
  · exact q3.elim
theorem pd_chain3 {X : Cx} {a b c d : Expr} {o1 o2 o3 : CmpOp} {r r' r'' : R2} {f f' f'' : D → D → (D → Prop) → Prop} {ta tb tc td : TE} {da db dc dd : DE} {pos : Pos} (h1 : OpR X (compareOp o1) r) (s1 : SimV2 X.K r f) (h2 : OpR X (compareOp o2) r') (s2 : SimV2 X.K r' f') (h3 : OpR X (compareOp o3) r'') (s3 : SimV2 X.K r'' f'')
    (ha : PD X a ta da) (hb : PD X b tb db) (hc : PD X c tc dc) (hd : PD X d td dd) (hm : lastMarks [o1, o2, o3] [b, c, d] = false := by with_unfolding_all rfl) : PD X (.Compare a [o1, o2, o3] [b, c, d] pos) (tChain3 r r' r'' ta tb tc td) (dChain3 f f' f'' da db dc dd) :=
  ⟨pe_chain3 h1 h2 h3 ha.pe hb.pe hc.pe hd.pe hm, sim_chain3 s1 s2 s3 ha.sim hb.sim hc.sim hd.sim⟩
/-! ### range(a, b, -1) -/
theorem pdi_rng3 {X : Cx} {tg a b c : Expr} {ta tb tc : TE} {da db dc : DE} {p pos : Pos} (hm : X.mg "range" = none) (ha : PD X a ta da) (hb : PD X b tb db) (hc : PD X c tc dc) (hg : Gl X "range" := by rfl) (hs3 : starEach [c] X.env = (false, eval c X.env) :: starEach [] X.env := by rfl)
    (hs2 : starEach [b, c] X.env = (false, eval b X.env) :: starEach [c] X.env := by rfl) (hs : starEach [a, b, c] X.env = (false, eval a X.env) :: starEach [b, c] X.env := by rfl) (hpl : (backTo pos (starEach [b, c] X.env)).any (·.1) = false := by rfl) :
    PDI X tg (.Call (.Name "range" p) [a, b, c] [] pos) (iRng3 (tCons ta (tCons tb (tCons tc tNil)))) (diRng3 da db dc) := ⟨pi_range3 hg hm (pa_cons ha.pe (pa_cons hb.pe (pa_cons hc.pe pa_nil hs3) hs2) hs) hs hpl, sim_rng3 ha.sim hb.sim hc.sim⟩
/-! ### texts of numbers, numbers of texts, blanks -/
def strD : List D → (Sl → Prop) → Prop
  | [.int i], Φ => i.natAbs.log2 < 1920 ∧ Φ (.val (.str (toString i : String)))
  | _, _ => False
def intSD : List D → (Sl → Prop) → Prop
  | [.str a], Φ => ∃ n, PySem.intText? a = some n ∧ a.length ≤ 640 ∧ Φ (.val (.int n))
  | _, _ => False
@[irreducible] def mulSD : D → D → (Sl → Prop) → Prop
  | .str z, .int k, Φ => -1000 ≤ k ∧ k ≤ 1000 ∧ z.length ≤ 1000 ∧ Φ (.val (.str (Txt.mul z k)))
  | _, _, _ => False
@[irreducible] def ljustD : D → List D → (Sl → Prop) → Prop
  | .str z, [.int k], Φ => 0 ≤ k ∧ k ≤ 1000 ∧ Φ (.val (.str (Txt.ljust z k)))
  | _, _, _ => False
section
variable {K : PySem.W.Frag}
theorem simc_str : SimC K (fun xs H Q => ∃ i, xs = [.int i] ∧ i.natAbs.log2 < 1920 ∧ Q (.str (toString i : String)) H) strD := by
  intro M Z G0 H0 G H σ ρ F vs xs Φ Q A r hf k
  unfold strD at hf
  split at hf
  · rename_i i
    match r with
    | .cons (.int _) .nil => exact ⟨i, rfl, hf.1, k _ _ _ G H A (Same.refl G) (.val (.str _)) hf.2⟩
  · exact hf.elim
theorem simc_intS : SimC K (fun xs H Q => ∃ a n, xs = [.str a] ∧ PySem.intText? a = some n ∧ a.length ≤ 640 ∧ Q (.int n) H) intSD := by
  intro M Z G0 H0 G H σ ρ F vs xs Φ Q A r hf k
  unfold intSD at hf
  split at hf
  · rename_i a
    obtain ⟨n, h1, h2, h3⟩ := hf
    match r with
    | .cons (.str _) .nil => exact ⟨a, n, rfl, h1, h2, k _ _ _ G H A (Same.refl G) (.val (.int _)) h3⟩
  · exact hf.elim
end
def rMulS : R2 := fun x y H Q => ∃ a n, x = .str a ∧ y = .int n ∧ MulOk a n ∧ Q (.str (Txt.mul a n)) H
theorem op_mulS {X : Cx} : OpR X (binaryOp .Mult) rMulS := by
  intro pins s σ H x y v u Q I rx ry h
  obtain ⟨a, n, rfl, rfl, ok, q⟩ := h
  obtain ⟨t, rfl⟩ := rx
  obtain ⟨t2, rfl⟩ := ry
  exact PySem.SB.mul ok fun t' k => ⟨.str _, H, I.tok k, ⟨t', rfl⟩, q⟩
theorem mulOk {z : Str} {k : Int} (h1 : -1000 ≤ k) (h2 : k ≤ 1000) (h3 : z.length ≤ 1000) : MulOk z k := by
  refine ⟨?_, fun h4 _ h6 => ?_, fun h4 _ => ?_⟩
  · rw [Bool.or_eq_false_iff]
    exact ⟨decide_eq_false (by omega), decide_eq_false (by omega)⟩
  · have h5 : (1000 : Int) * k ≤ 2 ^ 63 - 1 := by omega
    have h7 : (1000 : Int) ≤ (2 ^ 63 - 1) / k := (Int.le_ediv_iff_mul_le (by omega)).mpr h5
    omega
  · have : z.length * k.toNat ≤ 1000 * 1000 := Nat.mul_le_mul h3 (by omega)
    show decide (z.length * k.toNat > sizeLine) = false
    rw [sizeLine_eq]
    exact decide_eq_false (by omega)
theorem sim_mulS {K : PySem.W.Frag} : SimR2 K rMulS mulSD := by
  intro M Z G0 H0 G H σ ρ F v w x y Φ Q A rx ry hf k
  unfold mulSD at hf
  split at hf
  · rename_i z n
    cases rx
    cases ry
    obtain ⟨h1, h2, h3, h4⟩ := hf
    exact ⟨z, n, rfl, rfl, mulOk h1 h2 h3, k _ _ _ G H A (Same.refl G) (.val (.str _)) h4⟩
  · exact hf.elim
def rLjust : V → List V → Hp → VK → Prop := fun x xs H Q => ∃ (a : Str) (i : Int), x = .str a ∧ xs = [.int i] ∧ PadOk i = true ∧ Q (.str (Txt.ljust a i)) H
theorem simm_ljust {K : PySem.W.Frag} : SimMt K rLjust ljustD := by
  intro M Z G0 H0 G H σ ρ F v x vs xs Φ Q A rx rxs hf k
  unfold ljustD at hf
  split at hf
  · rename_i z i
    obtain ⟨h0, h1, hf⟩ := hf
    cases rx
    match rxs with
    | .cons (.int _) .nil =>
      refine ⟨z, i, rfl, rfl, ?_, k _ _ _ G H A (Same.refl G) (.val (.str _)) hf⟩
      have e1 : Builtin.Str.tooLong i.toNat = false := by
        show decide (i.toNat > sizeLine) = false
        rw [sizeLine_eq]
        exact decide_eq_false (by omega)
      unfold PadOk fitsSsize
      rw [e1]
      simp
      omega
  · exact hf.elim
section
variable {X : Cx} {a b o e : Expr} {es : List Expr} {ta tb to : TE} {t : TA} {d da db : DE} {dA : DA} {p pos apos cpos : Pos}
theorem pr_strI (hm : X.mg "str" = none) (ha : PDA X (e :: es) t dA) (hg : Gl X "str" := by rfl) (hst : starEach (e :: es) X.env = (false, eval e X.env) :: starEach es X.env := by rfl) (hpl : (backTo pos (starEach es X.env)).any (·.1) = false := by rfl) :
    PR X (.Call (.Name "str" p) (e :: es) [] pos) (tCB (fun xs H Q => ∃ i, xs = [.int i] ∧ i.natAbs.log2 < 1920 ∧ Q (.str (toString i : String)) H) t) (dCB strD dA) := pr_callTy call_str_int simc_str hm (by rfl) ha hg (by decide) (by decide) hst hpl
theorem pr_intS (hm : X.mg "int" = none) (ha : PDA X (e :: es) t dA) (hg : Gl X "int" := by rfl) (hst : starEach (e :: es) X.env = (false, eval e X.env) :: starEach es X.env := by rfl) (hpl : (backTo pos (starEach es X.env)).any (·.1) = false := by rfl) :
    PR X (.Call (.Name "int" p) (e :: es) [] pos) (tCB (fun xs H Q => ∃ a n, xs = [.str a] ∧ PySem.intText? a = some n ∧ a.length ≤ 640 ∧ Q (.int n) H) t) (dCB intSD dA) := pr_callTy call_int_str simc_intS hm (by rfl) ha hg (by decide) (by decide) hst hpl
theorem pr_mulS (ha : PD X a ta da) (hb : PD X b tb db) : PR X (.BinOp a .Mult b pos) (tOp rMulS ta tb) (dOpR mulSD da db) := pr_op op_mulS sim_mulS ha hb
theorem pr_ljust (h : PD X o to d) (ha : PDA X (e :: es) t dA) (hbase : attributeBase o "ljust" X.env (eval o X.env) = eval o X.env := by rfl)
    (hfew : ((backTo cpos (starEach (e :: es) X.env)).all (fun x => !x.1) && (backToKw cpos (keywordEach [] X.env)).all (fun x => x.1.isSome)
      && decide ((e :: es).length + ([] : List Keyword).length + (if ([] : List Keyword).isEmpty then 0 else 1) < 30)) = true := by rfl)
    (hline : (apos.endLine == cpos.line) = true := by rfl) (hs : starEach (e :: es) X.env = (false, eval e X.env) :: starEach es X.env := by rfl) (hplain : (backTo cpos (starEach es X.env)).any (·.1) = false := by rfl) :
    PR X (.Call (.Attribute o "ljust" apos) (e :: es) [] cpos) (tBM X.K "str" rLjust to t) (dMt isS ljustD d dA) :=
  ⟨pe_bm PySem.F.plainAttrs_str PySem.F.slot_str_ljust PySem.F.type_str_ljust mt_ljust h.pe ha.pe hbase hfew hline hs hplain, sim_mt tyV_s simm_ljust h.sim ha.sim⟩
end
end DL
set_option Elab.async false
set_option linter.all false
set_option maxRecDepth 100000
set_option maxHeartbeats 2000000
namespace DL
open PySem PySem.Spec PyProof.Rows L2 RT
variable [Tabl]

theorem iteB {c : Bool} {A B : Prop} (h1 : c = true → A) (h2 : c = false → B) : if c = true then A else B := by
  cases c with
  | true => exact h1 rfl
  | false => exact h2 rfl
theorem iteD {c A B : Prop} [Decidable c] (h1 : c → A) (h2 : ¬ c → B) : if decide c = true then A else B := by
  by_cases h : c
  · rw [if_pos (decide_eq_true h)]; exact h1 h
  · rw [if_neg (by simpa using h)]; exact h2 h

/-! ### the dice -/
def diceT (p : Addr) (ns : List Int) (pos mixed carry : Int) : OT := .lst p [.val (.rd (ns.map D.int)), .val (.int pos), .val (.int mixed), .val (.int carry)]
def Dice (S : OT) : Prop := ∃ p ns pos mixed carry, S = diceT p ns pos mixed carry ∧ 0 ≤ pos ∧ 0 ≤ mixed ∧ mixed < 2147483647
def F_L_next : DFO := fun S xs Φ => Dice S ∧ ∃ many : Int, xs = [.int many] ∧ 0 < many ∧ many ≤ 1000000 ∧ ∀ i S', 0 ≤ i → i < many → Dice S' → S'.root = S.root → Φ (.val (.int i)) S'
/- slots of _law_next: 0 _law_dice_here, 1 _law_many, 2 _law_found, 3 _law_cell -/
def b_L_next : DS := (dSeq (dIfS (dTest (dOp gtD (dLeaf (dpIx (dpVar 0) (dC (.int 3)))) (dC (.int 0)))) (dSeq (dSet 2 (dR (dOp modD (dLeaf (dpIx (dpVar 0) (dC (.int 3)))) (dVar 1))))
  (dSeq (dPSet (dpVar 0) (dC (.int 3)) (dOp fdvD (dLeaf (dpIx (dpVar 0) (dC (.int 3)))) (dVar 1)))
  (dRet (dR (dVar 2))))) dNext)
  (dSeq (dPSet (dpVar 0) (dC (.int 1)) (dV (dOpR addD (dLeaf (dpIx (dpVar 0) (dC (.int 1)))) (dC (.int 1)))))
  (dSeq (dIfS (dTest (dOp leD (dLeaf (dpIx (dpVar 0) (dC (.int 1)))) (dV (dCB lenD (dCons (dLeaf (dpIx (dpVar 0) (dC (.int 0)))) dNil))))) (dSeq (dSet 3 (dR (dOp ixD (dLeaf (dpIx (dpVar 0) (dC (.int 0)))) (dOp subD (dLeaf (dpIx (dpVar 0) (dC (.int 1)))) (dC (.int 1))))))
  (dSeq (dPSet (dpVar 0) (dC (.int 3)) (dIf (dTest (dOp geD (dVar 3) (dOp powD (dC (.int 10)) (dC (.int 18))))) (dOp fdvD (dVar 3) (dVar 1)) (dC (.int 0))))
  (dRet (dR (dOp modD (dVar 3) (dVar 1)))))) dNext)
  (dSeq (dPSet (dpVar 0) (dC (.int 2)) (dOp modD (dV (dOpR mulD (dLeaf (dpIx (dpVar 0) (dC (.int 2)))) (dC (.int 48271)))) (dC (.int 2147483647))))
  (dRet (dR (dOp modD (dOp fdvD (dLeaf (dpIx (dpVar 0) (dC (.int 2)))) (dC (.int 7))) (dVar 1))))))))
theorem atI_map {α β : Type} (f : α → β) (xs : List α) {i : Int} (h0 : 0 ≤ i) (h1 : i < xs.length) : ∃ x, x ∈ xs ∧ atI (xs.map f) i = some (f x) := by
  have hj : i.toNat < xs.length := by omega
  refine ⟨xs[i.toNat], List.getElem_mem hj, ?_⟩
  have e : atI (xs.map f) ((i.toNat : Nat) : Int) = some (f xs[i.toNat]) := atI_nat (by rw [List.getElem?_map, List.getElem?_eq_getElem hj]; rfl)
  rw [Int.toNat_of_nonneg h0] at e
  exact e
theorem rd_L_next : ∀ S xs Φ, F_L_next S xs Φ → b_L_next (rtO S Φ) (.arg S :: slots xs 3) := by
  rintro S xs Φ ⟨⟨p, ns, pos, mixed, carry, rfl, h1, h2, h3⟩, many, rfl, m1, m2, k⟩
  refine ⟨⟨rfl, rfl⟩, by decide, ?_⟩
  refine iteD (fun c => ?_) (fun c => ?_)
  · refine ⟨⟨rfl, rfl⟩, by decide, m1, trivial, ⟨rfl, rfl⟩, by decide, ⟨m1, by omega⟩, rfl, rfl, by decide, by simp, rfl, ?_⟩
    exact k (carry % many) _ (Int.emod_nonneg _ (by omega)) (Int.emod_lt_of_pos _ m1) ⟨p, ns, pos, mixed, carry / many, rfl, h1, h2, h3⟩ rfl
  · refine ⟨⟨rfl, rfl⟩, by decide, rfl, rfl, by decide, by simp, ?_⟩
    refine ⟨⟨rfl, rfl⟩, by decide, ⟨rfl, rfl⟩, by decide, ?_⟩
    refine iteD (fun d => ?_) (fun d => ?_)
    · have hl : pos + 1 ≤ ((ns.map D.int).length : Int) := d
      rw [List.length_map] at hl
      obtain ⟨cell, _, ec⟩ := atI_map D.int ns (i := pos) (by omega) (by omega)
      refine ⟨⟨rfl, rfl⟩, by decide, ⟨rfl, rfl⟩, by decide, ?_⟩
      show ixL (ns.map D.int) (.int (pos + 1 - 1)) _
      unfold ixL
      rw [show pos + 1 - 1 = pos by omega]
      dsimp only
      rw [ec]
      refine ⟨trivial, ⟨by decide, by decide, by decide⟩, ?_⟩
      refine iteD (fun g => ?_) (fun g => ?_)
      · refine ⟨⟨m1, by omega⟩, rfl, rfl, by decide, by simp, m1, rfl, ?_⟩
        exact k (cell % many) _ (Int.emod_nonneg _ (by omega)) (Int.emod_lt_of_pos _ m1) ⟨p, ns, pos + 1, mixed, cell / many, rfl, by omega, h2, h3⟩ rfl
      · refine ⟨rfl, rfl, by decide, by simp, m1, rfl, ?_⟩
        exact k (cell % many) _ (Int.emod_nonneg _ (by omega)) (Int.emod_lt_of_pos _ m1) ⟨p, ns, pos + 1, mixed, 0, rfl, by omega, h2, h3⟩ rfl
    · refine ⟨⟨rfl, rfl⟩, by decide, .inl ⟨by omega, by omega⟩, (by show (0 : Int) < 2147483647; decide), rfl, rfl, by decide, by simp, ⟨rfl, rfl⟩, by decide, ⟨by decide, by decide⟩, m1, rfl, ?_⟩
      exact k _ _ (Int.emod_nonneg _ (by omega)) (Int.emod_lt_of_pos _ m1) ⟨p, ns, pos + 1, mixed * 48271 % 2147483647, carry, rfl, by omega, Int.emod_nonneg _ (by decide), Int.emod_lt_of_pos _ (by decide)⟩ rfl
end DL
set_option Elab.async false
set_option linter.all false
set_option maxRecDepth 100000
set_option maxHeartbeats 2000000
namespace DL
open PySem PySem.Spec PyProof.Rows L2 RT
variable [Tabl]

/-! ### loops and comprehensions by an invariant -/
theorem forL_inv {g : DG} {b : DS} {Δ : Ds} (I : List D → List Sl → Prop) (step : ∀ d rest ρ, I (d :: rest) ρ → ∀ K : List Sl → Prop, (∀ ρ', I rest ρ' → K ρ') → g d ρ fun ρ1 => b { Δ with nx := K, ct := K, bk := Δ.nx } ρ1)
    (done : ∀ ρ, I [] ρ → Δ.nx ρ) : ∀ {ds : List D} {ρ : List Sl}, I ds ρ → dForL g b Δ ds ρ
  | [], ρ, h => done ρ h
  | d :: rest, ρ, h => step d rest ρ h (dForL g b Δ rest) fun ρ' h' => forL_inv I step done h'
theorem for_inv {di : DI} {g : DG} {b : DS} {Δ : Ds} {ρ : List Sl} (I : List D → List Sl → Prop) (h0 : di ρ I)
    (mono : ∀ {J : List D → List Sl → Prop}, (∀ ds ρ', I ds ρ' → J ds ρ') → di ρ I → di ρ J)
    (step : ∀ d rest ρ, I (d :: rest) ρ → ∀ K : List Sl → Prop, (∀ ρ', I rest ρ' → K ρ') → g d ρ fun ρ1 => b { Δ with nx := K, ct := K, bk := Δ.nx } ρ1)
    (done : ∀ ρ, I [] ρ → Δ.nx ρ) : dFor di g b Δ ρ := by
  unfold dFor
  exact mono (fun ds ρ' h => forL_inv I step done h) h0
/-- the things looped over are known beforehand -/
theorem for_inv' {di : DI} {g : DG} {b : DS} {Δ : Ds} {ρ ρ1 : List Sl} (ds : List D) (hd : ∀ Ψ : List D → List Sl → Prop, Ψ ds ρ1 → di ρ Ψ) (I : List D → List Sl → Prop) (h0 : I ds ρ1)
    (step : ∀ d rest ρ, I (d :: rest) ρ → ∀ K : List Sl → Prop, (∀ ρ', I rest ρ' → K ρ') → g d ρ fun ρ1 => b { Δ with nx := K, ct := K, bk := Δ.nx } ρ1)
    (done : ∀ ρ, I [] ρ → Δ.nx ρ) : dFor di g b Δ ρ := by
  unfold dFor
  exact hd _ (forL_inv I step done h0)
theorem lcL_inv {vs : List Nat} {g : DG} {tt : DT} {te : DE} {Φ : List D → List Sl → Prop} (I : List D → List D → List Sl → Prop)
    (step : ∀ d rest acc ρ, I (d :: rest) acc ρ → ∀ K : List D → List Sl → Prop, (∀ acc' ρ', I rest acc' ρ' → K acc' ρ') → g d (wipeR ρ vs) fun ρ2 => tt ρ2 fun b ρ3 => if b = true then te ρ3 fun y ρ4 => clean ρ4 vs ∧ K (acc ++ [y]) ρ4 else clean ρ3 vs ∧ K acc ρ3)
    (done : ∀ acc ρ, I [] acc ρ → Φ acc ρ) : ∀ {ds acc : List D} {ρ : List Sl}, I ds acc ρ → dLcL vs g tt te ds acc ρ Φ
  | [], acc, ρ, h => done acc ρ h
  | d :: rest, acc, ρ, h => step d rest acc ρ h (fun acc' ρ' => dLcL vs g tt te rest acc' ρ' Φ) fun acc' ρ' h' => lcL_inv I step done h'
theorem lc_inv {vs : List Nat} {di : DI} {g : DG} {tt : DT} {te : DE} {ρ ρ1 : List Sl} {Φ : Sl → List Sl → Prop} (ds : List D) (hd : ∀ Ψ : List D → List Sl → Prop, Ψ ds ρ1 → di ρ Ψ) (hl : ds.length ≤ 1000000) (hc : clean ρ1 vs) (I : List D → List D → List Sl → Prop) (h0 : I ds [] ρ1)
    (step : ∀ d rest acc ρ, I (d :: rest) acc ρ → ∀ K : List D → List Sl → Prop, (∀ acc' ρ', I rest acc' ρ' → K acc' ρ') → g d (wipeR ρ vs) fun ρ2 => tt ρ2 fun b ρ3 => if b = true then te ρ3 fun y ρ4 => clean ρ4 vs ∧ K (acc ++ [y]) ρ4 else clean ρ3 vs ∧ K acc ρ3)
    (done : ∀ acc ρ, I [] acc ρ → Φ (.own acc) (restR ρ1 ρ vs)) : dLc di g tt te vs ρ Φ := by
  unfold dLc
  exact hd _ ⟨hl, hc, lcL_inv I step done h0⟩
theorem lc_open {vs : List Nat} {di : DI} {g : DG} {tt : DT} {te : DE} {ρ : List Sl} {Φ : Sl → List Sl → Prop} (h : di ρ fun ds ρ1 => ds.length ≤ 1000000 ∧ clean ρ1 vs ∧ dLcL vs g tt te ds [] ρ1 fun acc ρ2 => Φ (.own acc) (restR ρ1 ρ2 vs)) : dLc di g tt te vs ρ Φ := by
  unfold dLc
  exact h
theorem for_open {di : DI} {g : DG} {b : DS} {Δ : Ds} {ρ : List Sl} (h : di ρ fun ds ρ1 => dForL g b Δ ds ρ1) : dFor di g b Δ ρ := by
  unfold dFor
  exact h
def idle (ρ : List Sl) (j : Nat) : Prop := ρ[j]? = some .un ∨ ∃ d, ρ[j]? = some (.val d)
theorem idle.free {ρ : List Sl} {j : Nat} (h : idle ρ j) : free ρ j := by
  unfold DL.free
  rcases h with h | ⟨d, h⟩ <;> rw [h] <;> trivial
theorem idle.clean {ρ : List Sl} {j : Nat} (h : idle ρ j) : clean ρ [j] := by
  unfold DL.clean
  rcases h with h | ⟨d, h⟩ <;> rw [h] <;> exact ⟨trivial, trivial⟩
theorem idle.lt {ρ : List Sl} {j : Nat} (h : idle ρ j) : j < ρ.length := by
  rcases h with h | ⟨d, h⟩ <;> exact (List.getElem?_eq_some_iff.mp h).1
theorem idle.set {ρ : List Sl} {j : Nat} (h : idle ρ j) (d : D) : idle (ρ.set j (.val d)) j := .inr ⟨d, List.getElem?_set_self h.lt⟩
theorem idle.back {ρ : List Sl} {j : Nat} (h : idle ρ j) (d : D) : restR ρ (ρ.set j (.val d)) [j] = ρ := by
  show (ρ.set j (.val d)).set j ((ρ[j]?).getD .un) = ρ
  rw [List.set_set]
  rcases h with h | ⟨e, h⟩ <;> rw [h] <;> exact set_self h
/-- [e(x) for x in ds if c(x)], nothing changed but the comprehension's own name -/
theorem lc_pure {j : Nat} {di : DI} {tt : DT} {te : DE} {ρ ρ1 : List Sl} {Φ : Sl → List Sl → Prop} {α : Type} (l : List α) (enc : α → D) (c : α → Bool) (f : α → D) (hd : ∀ Ψ : List D → List Sl → Prop, Ψ (l.map enc) ρ1 → di ρ Ψ) (hl : l.length ≤ 1000000) (hj : idle ρ1 j)
    (ht : ∀ d ∈ l, ∀ Ψ : Bool → List Sl → Prop, Ψ (c d) (ρ1.set j (.val (enc d))) → tt (ρ1.set j (.val (enc d))) Ψ) (he : ∀ d ∈ l, c d = true → ∀ Ψ : D → List Sl → Prop, Ψ (f d) (ρ1.set j (.val (enc d))) → te (ρ1.set j (.val (enc d))) Ψ)
    (k : Φ (.own ((l.filter c).map f)) ρ1) : dLc di (dgName j) tt te [j] ρ Φ := by
  refine lc_inv (l.map enc) hd (by rw [List.length_map]; exact hl) hj.clean (fun rest acc ρ' => ∃ pre post, l = pre ++ post ∧ rest = post.map enc ∧ acc = (pre.filter c).map f ∧ (ρ' = ρ1 ∨ ∃ d, ρ' = ρ1.set j (.val d))) ⟨[], l, rfl, rfl, rfl, .inl rfl⟩ ?_ ?_
  · rintro d rest acc ρ' ⟨pre, post, e1, e2, e3, e4⟩ K hK
    cases post with
    | nil => cases e2
    | cons x post =>
      cases e2
      have hw : (wipeR ρ' [j]).set j (.val (enc x)) = ρ1.set j (.val (enc x)) := by
        show (ρ'.set j .un).set j (.val (enc x)) = _
        rw [List.set_set]
        rcases e4 with e4 | ⟨d, e4⟩
        · rw [e4]
        · rw [e4, List.set_set]
      have hf : free (wipeR ρ' [j]) j := by
        have hl : j < (wipeR ρ' [j]).length := by
          rw [wipeR_length]
          rcases e4 with e4 | ⟨d, e4⟩
          · rw [e4]; exact hj.lt
          · rw [e4, List.length_set]; exact hj.lt
        unfold DL.free
        show match (ρ'.set j .un)[j]? with | some (.arg _) => False | some _ => True | none => False
        rw [List.getElem?_set_self (by rw [wipeR_length] at hl; exact hl)]
        trivial
      refine ⟨hf, ?_⟩
      rw [hw]
      have hx : x ∈ l := by rw [e1]; exact List.mem_append_right _ List.mem_cons_self
      have hdone : clean (ρ1.set j (.val (enc x))) [j] := (hj.set (enc x)).clean
      have hs : l = (pre ++ [x]) ++ post := by rw [e1, List.append_assoc]; rfl
      refine ht x hx _ ?_
      cases hc : c x with
      | true =>
        rw [if_pos rfl]
        refine he x hx hc _ ⟨hdone, hK _ _ ⟨pre ++ [x], post, hs, rfl, ?_, .inr ⟨_, rfl⟩⟩⟩
        rw [List.filter_append, List.map_append, e3]
        congr 1
        simp [hc]
      | false =>
        rw [if_neg (by decide)]
        refine ⟨hdone, hK _ _ ⟨pre ++ [x], post, hs, rfl, ?_, .inr ⟨_, rfl⟩⟩⟩
        rw [List.filter_append, List.map_append, e3]
        simp [hc]
  · rintro acc ρ' ⟨pre, post, e1, e2, e3, e4⟩
    have : post = [] := by
      cases post with
      | nil => rfl
      | cons _ _ => cases e2
    subst this
    rw [List.append_nil] at e1
    subst e1
    rw [e3]
    have : restR ρ1 ρ' [j] = ρ1 := by
      rcases e4 with e4 | ⟨d, e4⟩
      · rw [e4]
        show ρ1.set j ((ρ1[j]?).getD .un) = ρ1
        rcases hj with h | ⟨e, h⟩ <;> rw [h] <;> exact set_self h
      · rw [e4]; exact hj.back d
    rw [this]
    exact k

theorem filter_all {α : Type} (l : List α) : l.filter (fun _ => true) = l := List.filter_eq_self.mpr fun _ _ => rfl
theorem lc_map {j : Nat} {di : DI} {te : DE} {ρ ρ1 : List Sl} {Φ : Sl → List Sl → Prop} {α : Type} (l : List α) (enc : α → D) (f : α → D) (hd : ∀ Ψ : List D → List Sl → Prop, Ψ (l.map enc) ρ1 → di ρ Ψ) (hl : l.length ≤ 1000000) (hj : idle ρ1 j)
    (he : ∀ d ∈ l, ∀ Ψ : D → List Sl → Prop, Ψ (f d) (ρ1.set j (.val (enc d))) → te (ρ1.set j (.val (enc d))) Ψ)
    (k : Φ (.own (l.map f)) ρ1) : dLc di (dgName j) dYes te [j] ρ Φ :=
  lc_pure l enc (fun _ => true) f hd hl hj (fun _ _ _ h => h) (fun d hd _ => he d hd) (by rw [filter_all]; exact k)

/-! ### data that stand for plain things -/
theorem eqvAll_map {α : Type} [DecidableEq α] (f : α → D) (h : ∀ a b, D.eqv (f a) (f b) = decide (a = b)) : ∀ xs ys : List α, PyData.eqvAll (D.pyL (xs.map f)) (D.pyL (ys.map f)) = decide (xs = ys)
  | [], [] => rfl
  | [], _ :: _ => rfl
  | _ :: _, [] => rfl
  | x :: xs, y :: ys => by
    have e1 : PyData.eqv (f x).py (f y).py = decide (x = y) := h x y
    have e2 := eqvAll_map f h xs ys
    simp only [List.map_cons, D.pyL, PyData.eqvAll, e1, e2]
    by_cases c1 : x = y <;> by_cases c2 : xs = ys <;> simp [c1, c2]
theorem eqv_int (i j : Int) : D.eqv (.int i) (.int j) = decide (i = j) := by
  show (i == j) = _
  by_cases c : i = j <;> simp [c]
theorem eqv_tup {α : Type} [DecidableEq α] (f : α → D) (h : ∀ a b, D.eqv (f a) (f b) = decide (a = b)) (xs ys : List α) : D.eqv (.tup (xs.map f)) (.tup (ys.map f)) = decide (xs = ys) := by
  have : D.eqv (.tup (xs.map f)) (.tup (ys.map f)) = PyData.eqvAll (D.pyL (xs.map f)) (D.pyL (ys.map f)) := by
    simp [D.eqv, D.py, PyData.eqv]
  rw [this, eqvAll_map f h]
theorem eqv_lst {α : Type} [DecidableEq α] (f : α → D) (h : ∀ a b, D.eqv (f a) (f b) = decide (a = b)) (xs ys : List α) : D.eqv (.lst (xs.map f)) (.lst (ys.map f)) = decide (xs = ys) := by
  have : D.eqv (.lst (xs.map f)) (.lst (ys.map f)) = PyData.eqvAll (D.pyL (xs.map f)) (D.pyL (ys.map f)) := by
    simp [D.eqv, D.py, PyData.eqv]
  rw [this, eqvAll_map f h]
theorem any_map {α : Type} [DecidableEq α] (f : α → D) (h : ∀ a b, D.eqv (f a) (f b) = decide (a = b)) (xs : List α) (y : α) [Decidable (y ∈ xs)] : ((xs.map f).any fun z => D.eqv z (f y)) = decide (y ∈ xs) := by
  refine Eq.trans ?_ (show @decide (y ∈ xs) (Classical.propDecidable _) = _ from by congr)
  rw [List.any_map]
  induction xs with
  | nil => simp
  | cons x xs ih =>
    rw [List.any_cons, ih]
    simp only [Function.comp, h]
    by_cases c : x = y
    · simp [c]
    · have c' : ¬ y = x := fun e => c e.symm
      simp [c, c']
theorem okL_map {α : Type} (f : α → D) {n : Nat} : ∀ {xs : List α}, (∀ x ∈ xs, (f x).okN n = true) → D.okL (xs.map f) n = true
  | [], _ => rfl
  | x :: xs, h => by
    simp only [List.map_cons, D.okL, Bool.and_eq_true]
    exact ⟨h x List.mem_cons_self, okL_map f fun y hy => h y (List.mem_cons_of_mem _ hy)⟩
theorem ok_tup {α : Type} (f : α → D) {n : Nat} {xs : List α} (h : ∀ x ∈ xs, (f x).okN n = true) : (D.tup (xs.map f)).okN (n + 1) = true := by
  simp only [D.okN]
  exact okL_map f h
theorem ok_lst {α : Type} (f : α → D) {n : Nat} {xs : List α} (h : ∀ x ∈ xs, (f x).okN n = true) : (D.lst (xs.map f)).okN (n + 1) = true := by
  simp only [D.okN]
  exact okL_map f h
abbrev Col := List Int
abbrev Card := List Col
def colD (c : Col) : D := .tup (c.map D.int)
def cardD (c : Card) : D := .tup (c.map colD)
def deckD (d : List Card) : D := .lst (d.map cardD)
theorem eqv_col (a b : Col) : D.eqv (colD a) (colD b) = decide (a = b) := eqv_tup D.int eqv_int a b
theorem eqv_card (a b : Card) : D.eqv (cardD a) (cardD b) = decide (a = b) := eqv_tup colD eqv_col a b
theorem eqv_deck (a b : List Card) : D.eqv (deckD a) (deckD b) = decide (a = b) := eqv_lst cardD eqv_card a b
theorem ok_int (i : Int) (n : Nat) : (D.int i).okN n = true := by
  cases n <;> rfl
theorem ok_bl (b : Bool) (n : Nat) : (D.bl b).okN n = true := by
  cases n <;> rfl
theorem ok_col (c : Col) (n : Nat) : (colD c).okN (n + 1) = true := ok_tup D.int fun i _ => ok_int i n
theorem ok_card (c : Card) (n : Nat) : (cardD c).okN (n + 2) = true := ok_tup colD fun c _ => ok_col c n
theorem ok_deck (d : List Card) (n : Nat) : (deckD d).okN (n + 3) = true := ok_lst cardD fun c _ => ok_card c n

/-! ### like -/
mutual
def D.lk : D → Nat → Bool
  | .non, _ => true
  | .int _, _ => true
  | .str s, _ => PyData.strOk s
  | .tup xs, n => match n with
    | 0 => false
    | n + 1 => decide (xs.length ≤ 1000000) && D.lkL xs n
  | .lst xs, n => match n with
    | 0 => false
    | n + 1 => decide (xs.length ≤ 1000000) && D.lkL xs n
  | _, _ => false
def D.lkL : List D → Nat → Bool
  | [], _ => true
  | x :: xs, n => x.lk n && D.lkL xs n
end
theorem lkL_get {n : Nat} : ∀ {xs : List D} {k : Nat} {d : D}, D.lkL xs n = true → xs[k]? = some d → d.lk n = true
  | [], k, d, _, h => by simp at h
  | x :: xs, 0, d, h, e => by
    simp only [D.lkL, Bool.and_eq_true] at h
    simp at e
    rw [← e]; exact h.1
  | x :: xs, k + 1, d, h, e => by
    simp only [D.lkL, Bool.and_eq_true] at h
    exact lkL_get h.2 (by simpa using e)
theorem lkL_map {α : Type} (f : α → D) {n : Nat} : ∀ {xs : List α}, (∀ x ∈ xs, (f x).lk n = true) → D.lkL (xs.map f) n = true
  | [], _ => rfl
  | x :: xs, h => by
    simp only [List.map_cons, D.lkL, Bool.and_eq_true]
    exact ⟨h x List.mem_cons_self, lkL_map f fun y hy => h y (List.mem_cons_of_mem _ hy)⟩
theorem lk_tup {α : Type} (f : α → D) {n : Nat} {xs : List α} (hl : xs.length ≤ 1000000) (h : ∀ x ∈ xs, (f x).lk n = true) : (D.tup (xs.map f)).lk (n + 1) = true := by
  simp only [D.lk, Bool.and_eq_true, List.length_map, decide_eq_true_eq]
  exact ⟨hl, lkL_map f h⟩
theorem lk_lst {α : Type} (f : α → D) {n : Nat} {xs : List α} (hl : xs.length ≤ 1000000) (h : ∀ x ∈ xs, (f x).lk n = true) : (D.lst (xs.map f)).lk (n + 1) = true := by
  simp only [D.lk, Bool.and_eq_true, List.length_map, decide_eq_true_eq]
  exact ⟨hl, lkL_map f h⟩
theorem lk_int (i : Int) (n : Nat) : (D.int i).lk n = true := by
  cases n <;> rfl
def F_L_like : Nat → DF
  | 0 => fun _ _ => False
  | n + 1 => fun xs Φ => ∃ x y, xs = [x, y] ∧ x.lk n = true ∧ y.lk n = true ∧ ∀ b : Bool, (x = y → b = true) → Φ (.val (.bl b))
/- slots of _law_like: 0 _law_found, 1 _law_due, 2 _law_k -/
def b_L_like (n : Nat) : DS := (dSeq (dIfS (dTest (dV (dCB isiD (dCons (dVar 1) (dCons (dC (.ty "str")) dNil))))) (dRet (dR (dAndV (dV (dCB isiD (dCons (dVar 0) (dCons (dC (.ty "str")) dNil)))) (dOp eqD (dVar 0) (dVar 1))))) dNext)
  (dSeq (dIfS (dTest (dV (dCB isiD (dCons (dVar 1) (dCons (dC (.ty "int")) dNil))))) (dRet (dR (dAndV (dV (dCB isiD (dCons (dVar 0) (dCons (dC (.ty "int")) dNil)))) (dAndV (dNotV (dV (dCB isiD (dCons (dVar 0) (dCons (dC (.ty "bool")) dNil))))) (dOp eqD (dVar 0) (dVar 1)))))) dNext)
  (dSeq (dIfS (dTest (dOp isN (dVar 1) (dC .non))) (dRet (dR (dOp isN (dVar 0) (dC .non)))) dNext)
  (dSeq (dIfS (dOr (dTest (dOp neD (dV (dCB isiD (dCons (dVar 1) (dCons (dC (.ty "tuple")) dNil)))) (dV (dCB isiD (dCons (dVar 0) (dCons (dC (.ty "tuple")) dNil)))))) (dTest (dOp neD (dV (dCB isiD (dCons (dVar 1) (dCons (dC (.ty "list")) dNil)))) (dV (dCB isiD (dCons (dVar 0) (dCons (dC (.ty "list")) dNil))))))) (dRet (dR (dC (.bl false)))) dNext)
  (dSeq (dIfS (dTest (dOp neD (dV (dCB lenD (dCons (dVar 0) dNil))) (dV (dCB lenD (dCons (dVar 1) dNil))))) (dRet (dR (dC (.bl false)))) dNext)
  (dSeq (dFor (diRng1 (dV (dCB lenD (dCons (dVar 1) dNil)))) (dgName 2) (dIfS (dNot (dTest (dV (dCall (F_L_like n) (dCons (dOp ixD (dVar 0) (dVar 2)) (dCons (dOp ixD (dVar 1) (dVar 2)) dNil)))))) (dRet (dR (dC (.bl false)))) dNext))
  (dRet (dR (dC (.bl true))))))))))

/-! ### the law's own promise -/
def F_law : DF := fun xs Φ => ∃ ns : List Int, xs = [.rd (ns.map D.int)] ∧ ns.length ≤ 63 ∧ Φ (.val (.bl true))
theorem rpl_ns {K : PySem.W.Frag} {G : Hp} : ∀ ns : List Int, RpL K G (ns.map V.int) (ns.map D.int)
  | [] => .nil
  | n :: ns => .cons (.int n) (rpl_ns ns)
theorem law_sp {K : PySem.W.Frag} {H : Hp} {a : Addr} {ns : List Int} {E : XK} (hT : ∀ p ∈ Tabl.T, H p.1 = some (.tbl #[])) (hl : ns.length ≤ 63) (hS : SqL K H a (ns.map V.int)) : SpV K F_law [.ref a] H (fun v _ => v = .bl true) E := by
  obtain ⟨G, top, e⟩ := top_start hT
  refine ⟨G, [.rd (ns.map D.int)], fun r => r = .val (.bl true), top, .cons (.rd (sq_start hT e hS) (rpl_ns ns)) .nil, ⟨ns, rfl, hl, rfl⟩, fun v r Fr G' H' _ _ _ _ hr q => ?_⟩
  subst q
  obtain ⟨_, w, e, r⟩ := hr.ok
  cases e
  cases r with
  | bl b => rfl
end DL
set_option Elab.async false
set_option linter.all false
set_option maxRecDepth 100000
set_option maxHeartbeats 2000000
namespace DL
open PySem PySem.Spec PyProof.Rows L2 RT
variable [Tabl]

theorem eqv_refl_lk : ∀ {y : D}, (∃ s, y = .str s) ∨ (∃ i, y = .int i) → D.eqv y y = true := by
  rintro y (⟨s, rfl⟩ | ⟨i, rfl⟩)
  · simp [D.eqv, D.py, PyData.eqv]
  · simp [D.eqv, D.py, PyData.eqv]
/-- the loop of like, over two things of one kind -/
theorem like_loop {m : Nat} {x y : D} {xs ys : List D} {Φ : Sl → Prop} (hx : ∀ k Ψ, ixL xs k Ψ → ixD x k Ψ) (hy : ∀ k Ψ, ixL ys k Ψ → ixD y k Ψ) (hl : ∀ Ψ, Ψ (.val (.int ys.length)) → lenD [y] Ψ) (hlen : ys.length ≤ 1000000) (e : xs.length = ys.length)
    (h1 : D.lkL xs m = true) (h2 : D.lkL ys m = true) (ne : x = y → xs = ys) (k : ∀ b : Bool, (x = y → b = true) → Φ (.val (.bl b))) :
    dSeq (dFor (diRng1 (dV (dCB lenD (dCons (dVar 1) dNil)))) (dgName 2) (dIfS (dNot (dTest (dV (dCall (F_L_like (m + 1)) (dCons (dOp ixD (dVar 0) (dVar 2)) (dCons (dOp ixD (dVar 1) (dVar 2)) dNil)))))) (dRet (dR (dC (.bl false)))) dNext)) (dRet (dR (dC (.bl true)))) (rtV Φ) [.val x, .val y, .un] := by
  show dFor _ _ _ { rtV Φ with nx := _ } _
  refine for_inv' (ρ1 := [.val x, .val y, .un]) (rng ys.length 0 1) (fun Ψ h => hl _ ⟨⟨by omega, by omega⟩, h⟩) (fun rest ρ => ∃ j : Nat, rest = rng (ys.length - j) j 1 ∧ j ≤ ys.length ∧ ∃ s, ρ = [.val x, .val y, s] ∧ free [.val x, .val y, s] 2)
    ⟨0, rfl, Nat.zero_le _, _, rfl, trivial⟩ ?_ ?_
  · rintro d rest ρ ⟨j, e1, hj, s, rfl, fr⟩ K hK
    have hlt : j < ys.length := by
      rcases Nat.lt_or_ge j ys.length with h | h
      · exact h
      · rw [show ys.length - j = 0 by omega] at e1
        cases e1
    rw [show ys.length - j = (ys.length - (j + 1)) + 1 by omega] at e1
    cases e1
    refine ⟨fr, ?_⟩
    have ex : atI xs ((j : Nat) : Int) = some (xs[j]'(by omega)) := atI_nat (List.getElem?_eq_getElem (by omega))
    have ey : atI ys ((j : Nat) : Int) = some ys[j] := atI_nat (List.getElem?_eq_getElem hlt)
    refine hx _ _ ?_
    unfold ixL
    dsimp only
    rw [ex]
    refine hy _ _ ?_
    unfold ixL
    dsimp only
    rw [ey]
    refine ⟨_, _, rfl, lkL_get h1 (List.getElem?_eq_getElem (by omega)), lkL_get h2 (List.getElem?_eq_getElem hlt), fun b hb => ?_⟩
    cases b with
    | true => exact hK _ ⟨j + 1, by push_cast; rfl, hlt, _, rfl, trivial⟩
    | false => exact k false fun q => absurd (hb (by simp only [ne q])) (by decide)
  · rintro ρ ⟨j, e1, hj, s, rfl, fr⟩
    exact k true fun _ => rfl
theorem like_len {m : Nat} {x y : D} {xs ys : List D} {Φ : Sl → Prop} (hx : ∀ k Ψ, ixL xs k Ψ → ixD x k Ψ) (hy : ∀ k Ψ, ixL ys k Ψ → ixD y k Ψ) (hl0 : ∀ Ψ, Ψ (.val (.int xs.length)) → lenD [x] Ψ) (hl : ∀ Ψ, Ψ (.val (.int ys.length)) → lenD [y] Ψ) (hlen : ys.length ≤ 1000000)
    (h1 : D.lkL xs m = true) (h2 : D.lkL ys m = true) (ne : x = y → xs = ys) (k : ∀ b : Bool, (x = y → b = true) → Φ (.val (.bl b))) :
    dSeq (dIfS (dTest (dOp neD (dV (dCB lenD (dCons (dVar 0) dNil))) (dV (dCB lenD (dCons (dVar 1) dNil))))) (dRet (dR (dC (.bl false)))) dNext)
  (dSeq (dFor (diRng1 (dV (dCB lenD (dCons (dVar 1) dNil)))) (dgName 2) (dIfS (dNot (dTest (dV (dCall (F_L_like (m + 1)) (dCons (dOp ixD (dVar 0) (dVar 2)) (dCons (dOp ixD (dVar 1) (dVar 2)) dNil)))))) (dRet (dR (dC (.bl false)))) dNext)) (dRet (dR (dC (.bl true))))) (rtV Φ) [.val x, .val y, .un] := by
  refine hl0 _ (hl _ ⟨ok_int _ _, ok_int _ _, ?_⟩)
  rw [eqv_int]
  by_cases c : (xs.length : Int) = ys.length
  · rw [decide_eq_true c]
    exact like_loop hx hy hl hlen (by omega) h1 h2 ne k
  · rw [decide_eq_false c]
    exact k false fun q => absurd (by rw [ne q]) c
theorem rd_L_like (n : Nat) : ∀ xs Φ, F_L_like (n + 1) xs Φ → b_L_like n (rtV Φ) (slots xs 3) := by
  rintro xs Φ ⟨x, y, rfl, hx, hy, k⟩
  have tn : ∀ {n : Nat} {x : D}, x.lk n = true → tname x ∈ ["NoneType", "bool", "int", "str", "tuple", "list", "dict"] := fun {n x} h => by
    cases x <;> first | (simp [tname]; done) | (simp [D.lk] at h; done)
  have tx := tn hx
  refine ⟨by decide, tn hy, ?_⟩
  cases y with
  | str s =>
    refine ⟨by decide, tx, ?_⟩
    show if isiB x "str" = true then _ else _
    refine iteB (fun c => ?_) (fun c => ?_)
    · cases x with
      | str t =>
        refine ⟨by simpa [D.lk, D.okN] using hx, by simpa [D.lk, D.okN] using hy, ?_⟩
        refine k _ fun q => ?_
        rw [q]
        exact eqv_refl_lk (.inl ⟨s, rfl⟩)
      | _ => simp [isiB, tname] at c
    · exact k false fun q => absurd c (by rw [q]; simp [isiB, tname])
  | int i =>
    refine ⟨by decide, by simp [tname], ?_⟩
    refine ⟨by decide, tx, ?_⟩
    show if isiB x "int" = true then _ else _
    refine iteB (fun c => ?_) (fun c => ?_)
    · refine ⟨by decide, tx, ?_⟩
      show if (!isiB x "bool") = true then _ else _
      refine iteB (fun c2 => ?_) (fun c2 => ?_)
      · cases x with
        | int t =>
          refine ⟨ok_int _ _, ok_int _ _, ?_⟩
          refine k _ fun q => ?_
          rw [q]
          exact eqv_refl_lk (.inr ⟨i, rfl⟩)
        | _ => simp [D.lk, isiB, tname] at hx c c2
      · exact k false fun q => absurd c2 (by rw [q]; simp [isiB, tname])
    · exact k false fun q => absurd c (by rw [q]; simp [isiB, tname])
  | non =>
    refine ⟨by decide, by decide, ?_⟩
    exact k _ fun q => by rw [q]
  | tup ys =>
    cases n with
    | zero => simp [D.lk] at hy
    | succ m =>
      simp only [D.lk, Bool.and_eq_true, decide_eq_true_eq] at hy
      refine ⟨by decide, by simp [tname], ?_⟩
      refine ⟨by decide, by simp [tname], ⟨by decide, tx, ok_bl _ _, ok_bl _ _, ?_⟩⟩
      have ne : ∀ b : Bool, D.eqv (.bl true) (.bl b) = b := fun b => by cases b <;> rfl
      have nf : ∀ b : Bool, D.eqv (.bl false) (.bl b) = !b := fun b => by cases b <;> rfl
      show if (!D.eqv (.bl true) (.bl (isiB x "tuple"))) = true then _ else _
      rw [ne]
      refine iteB (fun c => ?_) (fun c => ?_)
      · exact k false fun q => absurd c (by rw [q]; simp [isiB, tname])
      · cases x with
        | tup xs =>
          simp only [D.lk, Bool.and_eq_true, decide_eq_true_eq] at hx
          refine ⟨by decide, by simp [tname], ⟨by decide, by simp [tname], ok_bl _ _, ok_bl _ _, ?_⟩⟩
          exact like_len (x := .tup xs) (y := .tup ys) (xs := xs) (ys := ys) (fun _ _ h => h) (fun _ _ h => h) (fun _ h => h) (fun _ h => h) hy.1 hx.2 hy.2 (fun q => by cases q; rfl) k
        | _ => simp [D.lk, isiB, tname] at hx c
  | lst ys =>
    cases n with
    | zero => simp [D.lk] at hy
    | succ m =>
      simp only [D.lk, Bool.and_eq_true, decide_eq_true_eq] at hy
      refine ⟨by decide, by simp [tname], ?_⟩
      refine ⟨by decide, by simp [tname], ⟨by decide, tx, ok_bl _ _, ok_bl _ _, ?_⟩⟩
      have ne : ∀ b : Bool, D.eqv (.bl true) (.bl b) = b := fun b => by cases b <;> rfl
      have nf : ∀ b : Bool, D.eqv (.bl false) (.bl b) = !b := fun b => by cases b <;> rfl
      show if (!D.eqv (.bl false) (.bl (isiB x "tuple"))) = true then _ else _
      rw [nf]
      refine iteB (fun c => ?_) (fun c => ?_)
      · exact k false fun q => absurd c (by rw [q]; simp [isiB, tname])
      · refine ⟨by decide, by simp [tname], ⟨by decide, tx, ok_bl _ _, ok_bl _ _, ?_⟩⟩
        show if (!D.eqv (.bl true) (.bl (isiB x "list"))) = true then _ else _
        rw [ne]
        refine iteB (fun c => ?_) (fun c => ?_)
        · exact k false fun q => absurd c (by rw [q]; simp [isiB, tname])
        · cases x with
          | lst xs =>
            simp only [D.lk, Bool.and_eq_true, decide_eq_true_eq] at hx
            exact like_len (x := .lst xs) (y := .lst ys) (xs := xs) (ys := ys) (fun _ _ h => h) (fun _ _ h => h) (fun _ h => h) (fun _ h => h) hy.1 hx.2 hy.2 (fun q => by cases q; rfl) k
          | _ => simp [D.lk, isiB, tname] at hx c
  | _ => simp [D.lk] at hy
end DL
set_option Elab.async false
set_option linter.all false
set_option maxRecDepth 100000
set_option maxHeartbeats 2000000
namespace DL
open PySem PySem.Spec PyProof.Rows L2 RT
variable [Tabl]

theorem iteE {a b : Int} {A B : Prop} (h1 : a = b → A) (h2 : ¬ a = b → B) : if D.eqv (.int a) (.int b) = true then A else B := by
  rw [eqv_int]
  exact iteD h1 h2
theorem iteN {a b : Int} {A B : Prop} (h1 : ¬ a = b → A) (h2 : a = b → B) : if (!D.eqv (.int a) (.int b)) = true then A else B := by
  rw [eqv_int]
  by_cases h : a = b
  · rw [decide_eq_true h]; exact h2 h
  · rw [decide_eq_false h]; exact h1 h
theorem cutD_map {α β : Type} (f : α → β) (xs : List α) (lo hi : Option Int) : cutD (xs.map f) lo hi = (cutD xs lo hi).map f := by
  unfold cutD
  rw [List.length_map, List.map_take, List.map_drop]
theorem cutD_sub {α : Type} (xs : List α) (lo hi : Option Int) : (cutD xs lo hi).Sublist xs := (List.take_sublist _ _).trans (List.drop_sublist _ _)

/-! ### the dice's seed -/
def F_L_dice : DF := fun xs Φ => ∃ ns : List Int, xs = [.rd (ns.map D.int)] ∧ ns.length ≤ 63 ∧ ∀ m, 0 ≤ m → m < 2147483647 → Φ (.own [.rd (ns.map D.int), .int 0, .int m, .int 0])
/- slots of _law_dice: 0 _law_script, 1 _law_mixed, 2 _law_cell -/
def b_L_dice : DS := (dSeq (dSet 1 (dR (dC (.int 0))))
  (dSeq (dFor (diAny (dVar 0)) (dgName 2) (dSet 1 (dR (dOp modD (dV (dOpR addD (dV (dOpR addD (dV (dOpR mulD (dVar 1) (dC (.int 48271)))) (dV (dOpR mulD (dOp modD (dVar 2) (dC (.int 2147483647))) (dC (.int 69621)))))) (dC (.int 11)))) (dC (.int 2147483647))))))
  (dRet (dLst (dCons (dVar 0) (dCons (dC (.int 0)) (dCons (dV (dOpR mulD (dVar 1) (dV (dCB intD (dCons (dOp gtD (dV (dCB lenD (dCons (dVar 0) dNil))) (dC (.int 2))) dNil))))) (dCons (dC (.int 0)) dNil))))))))
theorem rd_L_dice : ∀ xs Φ, F_L_dice xs Φ → b_L_dice (rtV Φ) (slots xs 3) := by
  rintro xs Φ ⟨ns, rfl, hl, k⟩
  refine ⟨trivial, ?_⟩
  show dFor _ _ _ _ _
  refine for_inv' (ns.map D.int) (fun Ψ h => h) (fun rest ρ => ∃ (post : List Int) (m : Int) (s : Sl), rest = post.map D.int ∧ 0 ≤ m ∧ m < 2147483647 ∧ ρ = [.val (.rd (ns.map D.int)), .val (.int m), s] ∧ free [.val (.rd (ns.map D.int)), .val (.int m), s] 2)
    ⟨ns, 0, .un, rfl, by decide, by decide, rfl, trivial⟩ ?_ ?_
  · rintro d rest ρ ⟨post, m, s, e, m0, m1, rfl, fr⟩ K hK
    cases post with
    | nil => cases e
    | cons i post =>
      cases e
      refine ⟨fr, .inl ⟨by omega, by omega⟩, (by show (0 : Int) < 2147483647; decide), .inr ⟨by decide, by decide⟩, (by show (0 : Int) < 2147483647; decide), trivial, ?_⟩
      exact hK _ ⟨post, _, _, rfl, Int.emod_nonneg _ (by decide), Int.emod_lt_of_pos _ (by decide), rfl, trivial⟩
  · rintro ρ ⟨post, m, s, e, m0, m1, rfl, fr⟩
    show CMul _ _ ∧ _
    refine ⟨.inl ⟨by omega, by omega⟩, (by show 4 ≤ 1000000; decide), ?_⟩
    refine k _ ?_ ?_
    · split
      · omega
      · omega
    · split
      · omega
      · omega

/-! ### the signs' columns -/
def blockC (o : Col) : List Col := o :: (List.range 10).map fun f => ((f : Nat) : Int) :: o
def every : List Col := [([] : Col), [10], [11]].flatMap blockC
def F_L_columns : DF := fun xs Φ => xs = [] ∧ Φ (.val (.lst (every.map colD)))
/- slots of _law_columns: 0 _law_found, 1 _law_over, 2 _law_figure_here -/
def b_L_columns : DS := (dSeq (dSet 0 (dR (dV (dLst dNil))))
  (dSeq (dFor (diAny (dV (dLst (dCons (dTup dNil) (dCons (dTup (dCons (dC (.int 10)) dNil)) (dCons (dTup (dCons (dC (.int 11)) dNil)) dNil)))))) (dgName 1) (dSet 0 (dR (dV (dOpR addD (dV (dOpR addD (dVar 0) (dV (dLst (dCons (dVar 1) dNil))))) (dV (dLc (diRng1 (dC (.int 10))) (dgName 2) dYes (dV (dOpR addD (dTup (dCons (dVar 2) dNil)) (dVar 1))) [2])))))))
  (dRet (dR (dVar 0)))))
theorem rd_L_columns : ∀ xs Φ, F_L_columns xs Φ → b_L_columns (rtV Φ) (slots xs 3) := by
  rintro xs Φ ⟨rfl, k⟩
  refine ⟨by decide, trivial, ?_⟩
  show dFor _ _ _ _ _
  refine for_inv' ([([] : Col), [10], [11]].map colD) (fun Ψ h => ⟨by decide, by decide, by decide, by decide, h⟩) (fun rest ρ => ∃ (pre post : List Col) (s : Sl), [([] : Col), [10], [11]] = pre ++ post ∧ rest = post.map colD ∧ ρ = [.val (.lst ((pre.flatMap blockC).map colD)), s, .un] ∧ free [.val (.lst ((pre.flatMap blockC).map colD)), s, .un] 1)
    ⟨[], _, .un, rfl, rfl, rfl, trivial⟩ ?_ ?_
  · rintro d rest ρ ⟨pre, post, s, e1, e, rfl, fr⟩ K hK
    cases post with
    | nil => cases e
    | cons o post =>
      cases e
      have ho : o ∈ [([] : Col), [10], [11]] := by rw [e1]; exact List.mem_append_right _ List.mem_cons_self
      have ol : o.length ≤ 1 := by
        have : ∀ x ∈ [([] : Col), [10], [11]], x.length ≤ 1 := by decide
        exact this o ho
      have pl : pre.length ≤ 3 := by
        have := congrArg List.length e1
        rw [List.length_append] at this
        simp at this
        omega
      have bl : ((pre.flatMap blockC).map colD).length ≤ 33 := by
        rw [List.length_map, List.length_flatMap]
        have : ∀ l : List Col, (l.map fun x => (blockC x).length).sum = 11 * l.length := fun l => by
          induction l with
          | nil => rfl
          | cons x l ih =>
            rw [List.map_cons, List.sum_cons, ih, List.length_cons]
            simp [blockC]
            omega
        rw [this]
        omega
      refine ⟨fr, by simp, ?_⟩
      refine ⟨(by show _ + 1 ≤ 1000000; omega), ?_⟩
      refine lc_map (List.range 10) (fun f => .int f) (fun f => colD ((f : Int) :: o)) (fun Ψ h => ⟨by unfold inR; decide, h⟩) (by decide) (.inl rfl) (fun d _ Ψ h => ?_) ?_
      · exact ⟨by simp, (by show 1 + (o.map D.int).length ≤ 1000000; rw [List.length_map]; omega), h⟩
      · refine ⟨?_, trivial, ?_⟩
        · have hb : (pre.flatMap blockC).length ≤ 33 := by rw [List.length_map] at bl; exact bl
          simp only [List.length_append, List.length_map, List.length_range, List.length_cons, List.length_nil]
          omega
        · refine hK _ ⟨pre ++ [o], post, .val (colD o), (by rw [e1, List.append_assoc]; rfl), rfl, ?_, trivial⟩
          congr 2
          rw [List.flatMap_append, List.map_append, List.append_assoc]
          simp [blockC, Function.comp_def]
  · rintro ρ ⟨pre, post, s, e1, e, rfl, fr⟩
    have : post = [] := by
      cases post with
      | nil => rfl
      | cons _ _ => cases e
    subst this
    rw [List.append_nil] at e1
    subst e1
    exact k

/-! ### a card's column -/
def colAt (c : Card) (at_ : Int) : Col := c.getD at_.toNat []
def F_L_column : DF := fun xs Φ => ∃ (c : Card) (a : Int), xs = [cardD c, .int a] ∧ c.length ≤ 1000 ∧ 0 ≤ a ∧ a < 12 ∧ Φ (.val (colD (colAt c a)))
/- slots of _law_column: 0 _law_card, 1 _law_at -/
def b_L_column : DS := (dRet (dR (dOp ixD (dV (dOpR addD (dV (dCB listD (dCons (dVar 0) dNil))) (dV (dOpR mulD (dV (dLst (dCons (dTup dNil) dNil))) (dC (.int 12)))))) (dVar 1))))
theorem colAt_at {c : Card} {a : Int} (h0 : 0 ≤ a) (h1 : a < 12) : atI (c.map colD ++ (List.replicate 12 [D.tup []]).flatten) a = some (colD (colAt c a)) := by
  have e : a = ((a.toNat : Nat) : Int) := (Int.toNat_of_nonneg h0).symm
  rw [e]
  have hr : (List.replicate 12 [D.tup []]).flatten = List.replicate 12 (colD []) := rfl
  refine atI_nat ?_
  rw [hr]
  unfold colAt
  rw [Int.toNat_natCast]
  by_cases h : a.toNat < c.length
  · rw [List.getElem?_append_left (by rw [List.length_map]; exact h), List.getElem?_map, List.getElem?_eq_getElem h, List.getD_eq_getElem?_getD, List.getElem?_eq_getElem h]
    rfl
  · rw [List.getElem?_append_right (by rw [List.length_map]; omega), List.length_map, List.getElem?_replicate, if_pos (by omega), List.getD_eq_getElem?_getD, List.getElem?_eq_none (by omega)]
    rfl
theorem rd_L_column : ∀ xs Φ, F_L_column xs Φ → b_L_column (rtV Φ) (slots xs 2) := by
  rintro xs Φ ⟨c, a, rfl, hl, h0, h1, k⟩
  refine ⟨by decide, by decide, ?_⟩
  refine ⟨by decide, by decide, by decide, (by show (c.map colD).length + 12 ≤ 1000000; rw [List.length_map]; omega), ?_⟩
  show ixL (c.map colD ++ (List.replicate 12 [D.tup []]).flatten) (.int a) _
  unfold ixL
  dsimp only
  rw [colAt_at h0 h1]
  exact k
end DL
set_option Elab.async false
set_option linter.all false
set_option maxRecDepth 100000
set_option maxHeartbeats 2000000
namespace DL
open PySem PySem.Spec PyProof.Rows L2 RT
variable [Tabl]

/-! ### palettes -/
def palD (p : List Col) : D := .lst (p.map colD)
def PalOk (p : List Col) : Prop := p ≠ [] ∧ p.Sublist every
theorem PalOk.len {p : List Col} (h : PalOk p) : p.length ≤ 33 := by
  have := h.2.length_le
  have e : every.length = 33 := by decide
  omega
theorem PalOk.pos {p : List Col} (h : PalOk p) : 0 < p.length := List.length_pos_iff.mpr h.1
/-- what the dice have left -/
def After (S S' : OT) : Prop := Dice S' ∧ S'.root = S.root
theorem After.trans {S S' S'' : OT} (h : After S S') (g : After S' S'') : After S S'' := ⟨g.1, g.2.trans h.2⟩
def F_L_palette : DFO := fun S xs Φ => Dice S ∧ xs = [] ∧ ∀ p S', PalOk p → After S S' → Φ (.own (p.map colD)) S' ∧ Φ (.val (palD p)) S'
/- slots of _law_palette: 0 _law_d, 1 _law_every, 2 _law_way, 3 _law_found, 4 _law_k, 5 _law_column_here -/
def b_L_palette : DS := (dSeq (dSet 1 (dR (dV (dCall F_L_columns dNil))))
  (dSeq (dSet 2 (dR (dV (dCallO F_L_next 0 (dCons (dC (.int 6)) dNil)))))
  (dSeq (dIfS (dTest (dOp eqD (dVar 2) (dC (.int 0)))) (dRet (dSl (dV (dLst (dCons (dTup dNil) (dCons (dTup (dCons (dC (.int 1)) dNil)) (dCons (dTup (dCons (dC (.int 2)) dNil)) dNil))))) (dPart (dV (dCallO F_L_next 0 (dCons (dC (.int 2)) dNil)))) dNoPart)) dNext)
  (dSeq (dIfS (dTest (dOp eqD (dVar 2) (dC (.int 1)))) (dRet (dSl (dVar 1) (dPart (dC (.int 1))) (dPart (dC (.int 11))))) dNext)
  (dSeq (dIfS (dTest (dOp eqD (dVar 2) (dC (.int 2)))) (dRet (dSl (dVar 1) (dPart (dV (dCallO F_L_next 0 (dCons (dC (.int 2)) dNil)))) (dPart (dV (dOpR addD (dC (.int 12)) (dV (dCallO F_L_next 0 (dCons (dC (.int 4)) dNil)))))))) dNext)
  (dSeq (dIfS (dTest (dOp eqD (dVar 2) (dC (.int 3)))) (dRet (dR (dVar 1))) dNext)
  (dSeq (dSet 3 (dR (dV (dLc (diRng1 (dV (dOpR addD (dC (.int 1)) (dV (dCallO F_L_next 0 (dCons (dC (.int 6)) dNil)))))) (dgName 4) dYes (dOp ixD (dVar 1) (dV (dCallO F_L_next 0 (dCons (dC (.int 33)) dNil)))) [4]))))
  (dRet (dLc (diAny (dVar 1)) (dgName 5) (dTest (dOp memV (dVar 5) (dVar 3))) (dVar 5) [5])))))))))
theorem rd_L_palette : ∀ S xs Φ, F_L_palette S xs Φ → b_L_palette (rtO S Φ) (.arg S :: slots xs 5) := by
  rintro S xs Φ ⟨dS, rfl, k⟩
  refine ⟨rfl, trivial, dS, 6, rfl, by decide, by decide, fun way S1 w0 w1 d1 r1 => ⟨trivial, ?_⟩⟩
  have a1 : After S S1 := ⟨d1, r1⟩
  refine ⟨ok_int _ _, ok_int _ _, iteE (fun c => ?_) (fun c => ?_)⟩
  · refine ⟨by simp, by simp, by simp, by simp, d1, 2, rfl, by decide, by decide, fun i S2 i0 i1 d2 r2 => ?_⟩
    have a2 := a1.trans ⟨d2, r2⟩
    obtain rfl | rfl : i = 0 ∨ i = 1 := by omega
    · exact ⟨a2.2, (k [[], [1], [2]] S2 ⟨by decide, by decide⟩ a2).1⟩
    · exact ⟨a2.2, (k [[1], [2]] S2 ⟨by decide, by decide⟩ a2).1⟩
  refine ⟨ok_int _ _, ok_int _ _, iteE (fun c => ?_) (fun c => ?_)⟩
  · have e : Φ (.own (cutD (every.map colD) (some 1) (some 11))) S1 := by
      rw [cutD_map]
      exact (k _ S1 ⟨by decide, cutD_sub _ _ _⟩ a1).1
    exact ⟨a1.2, e⟩
  refine ⟨ok_int _ _, ok_int _ _, iteE (fun c => ?_) (fun c => ?_)⟩
  · refine ⟨d1, 2, rfl, by decide, by decide, fun i S2 i0 i1 d2 r2 => ⟨d2, 4, rfl, by decide, by decide, fun j S3 j0 j1 d3 r3 => ?_⟩⟩
    have a3 := (a1.trans ⟨d2, r2⟩).trans ⟨d3, r3⟩
    have e : Φ (.own (cutD (every.map colD) (some i) (some (12 + j)))) S3 := by
      rw [cutD_map]
      refine (k _ S3 ⟨?_, cutD_sub _ _ _⟩ a3).1
      obtain rfl | rfl : i = 0 ∨ i = 1 := by omega
      all_goals (obtain rfl | rfl | rfl | rfl : j = 0 ∨ j = 1 ∨ j = 2 ∨ j = 3 := by omega) <;> decide
    exact ⟨a3.2, e⟩
  refine ⟨ok_int _ _, ok_int _ _, iteE (fun c => ?_) (fun c => ?_)⟩
  · exact ⟨a1.2, (k every S1 ⟨by decide, List.Sublist.refl _⟩ a1).2⟩
  refine lc_open ⟨d1, 6, rfl, by decide, by decide, fun n S2 n0 n1 d2 r2 => ?_⟩
  have a2 := a1.trans ⟨d2, r2⟩
  refine ⟨(by unfold inR; omega), by rw [rng_length]; omega, ⟨trivial, trivial⟩, ?_⟩
  refine lcL_inv (fun rest acc ρ => ∃ (ch : List Col) (S' : OT) (s : Sl), acc = ch.map colD ∧ (∀ c ∈ ch, c ∈ every) ∧ ch.length + rest.length = (1 + n).toNat ∧ After S S' ∧ ρ = [.arg S', .val (.lst (every.map colD)), .val (.int way), .un, s, .un]) ?_ ?_ ⟨[], S2, .un, rfl, (by simp), by rw [rng_length]; simp, a2, rfl⟩
  · rintro d rest acc ρ ⟨ch, S', s, rfl, hc, hl, a', rfl⟩ K hK
    refine ⟨trivial, ?_⟩
    refine ⟨a'.1, 33, rfl, by decide, by decide, fun i S3 i0 i1 d3 r3 => ?_⟩
    obtain ⟨x, hx, ex⟩ := atI_map colD every (i := i) i0 (by show i < ((33 : Nat) : Int); omega)
    have e : ∀ Ψ : D → Prop, Ψ (colD x) → ixL (every.map colD) (.int i) Ψ := fun Ψ h => by
      unfold ixL
      dsimp only
      rw [ex]
      exact h
    refine e _ ?_
    refine ⟨⟨trivial, trivial⟩, hK _ _ ⟨ch ++ [x], S3, _, by rw [List.map_append]; rfl, fun c hc' => ?_, by rw [List.length_append]; simp at hl ⊢; omega, a'.trans ⟨d3, r3⟩, rfl⟩⟩
    rcases List.mem_append.mp hc' with h | h
    · exact hc c h
    · rw [List.mem_singleton.mp h]; exact hx
  · rintro acc ρ ⟨ch, S', s, rfl, hc, hl, a', rfl⟩
    refine ⟨trivial, ?_⟩
    refine lc_pure every colD (fun c => decide (c ∈ ch)) colD (fun Ψ h => h) (by decide) (.inl rfl) (fun c hc Ψ h => ?_) (fun c hc _ Ψ h => h) ?_
    · refine ⟨ok_col _ _, okL_map colD fun c _ => ok_col c _, ?_⟩
      rw [any_map colD eqv_col]
      exact h
    · refine ⟨a'.2, (k _ S' ⟨?_, List.filter_sublist⟩ a').1⟩
      intro e
      cases ch with
      | nil =>
        simp at hl
        omega
      | cons c ch =>
        have := List.filter_eq_nil_iff.mp e c (hc c List.mem_cons_self)
        simp at this
end DL
set_option Elab.async false
set_option linter.all false
set_option maxRecDepth 100000
set_option maxHeartbeats 2000000
namespace DL
open PySem PySem.Spec PyProof.Rows L2 RT
variable [Tabl]

theorem ixL_map {α : Type} (f : α → D) {xs : List α} {i : Int} (h0 : 0 ≤ i) (h1 : i < xs.length) {Ψ : D → Prop} (k : ∀ x ∈ xs, Ψ (f x)) : ixL (xs.map f) (.int i) Ψ := by
  obtain ⟨x, hx, ex⟩ := atI_map f xs h0 h1
  unfold ixL
  dsimp only
  rw [ex]
  exact k x hx
/-- a card of these palettes -/
def Pick : Card → List (List Col) → Prop
  | [], [] => True
  | c :: cs, p :: ps => c ∈ p ∧ Pick cs ps
  | _, _ => False
theorem Pick.snoc {c : Col} {p : List Col} (h : c ∈ p) : ∀ {cs : Card} {ps : List (List Col)}, Pick cs ps → Pick (cs ++ [c]) (ps ++ [p])
  | [], [], _ => ⟨h, trivial⟩
  | _ :: _, _ :: _, g => ⟨g.1, Pick.snoc h g.2⟩
  | [], _ :: _, g => g.elim
  | _ :: _, [], g => g.elim
theorem Pick.length : ∀ {cs : Card} {ps : List (List Col)}, Pick cs ps → cs.length = ps.length
  | [], [], _ => rfl
  | _ :: _, _ :: _, g => by rw [List.length_cons, List.length_cons, Pick.length g.2]
  | [], _ :: _, g => g.elim
  | _ :: _, [], g => g.elim
theorem Pick.mem {P : Col → Prop} : ∀ {cs : Card} {ps : List (List Col)}, Pick cs ps → (∀ p ∈ ps, ∀ c ∈ p, P c) → ∀ c ∈ cs, P c
  | [], [], _, _, c, h => nomatch h
  | x :: cs, p :: ps, g, k, c, h => by
    rcases List.mem_cons.mp h with e | h
    · rw [e]; exact k p List.mem_cons_self x g.1
    · exact Pick.mem g.2 (fun q hq => k q (List.mem_cons_of_mem _ hq)) c h
  | [], _ :: _, g, _, _, _ => g.elim
  | _ :: _, [], g, _, _, _ => g.elim
/-- a card of this office -/
def CardOk (c : Card) : Prop := c.length ≤ 12 ∧ ∀ x ∈ c, x ∈ every
theorem Pick.ok {c : Card} {ps : List (List Col)} (h : Pick c ps) (hl : ps.length ≤ 12) (hp : ∀ p ∈ ps, PalOk p) : CardOk c :=
  ⟨by rw [h.length]; exact hl, h.mem fun p hp' c hc => (hp p hp').2.subset hc⟩
def F_L_deck : DFO := fun S xs Φ => Dice S ∧ ∃ (ps : List (List Col)) (most : Int), xs = [.lst (ps.map palD), .int most] ∧ ps.length ≤ 12 ∧ (∀ p ∈ ps, PalOk p) ∧ 0 ≤ most ∧ most ≤ 900 ∧
  ∀ (d : List Card) S', d.length ≤ most → (∀ c ∈ d, Pick c ps) → After S S' → Φ (.own (d.map cardD)) S'
/- slots of _law_deck: 0 _law_d, 1 _law_palettes_here, 2 _law_most, 3 _law_deck_here, 4 _law_k, 5 _law_palette_here -/
def b_L_deck : DS := (dSeq (dSet 3 (dLst dNil))
  (dSeq (dFor (diRng1 (dV (dCallO F_L_next 0 (dCons (dV (dOpR addD (dVar 2) (dC (.int 1)))) dNil)))) (dgName 4) (dDrop (dApp 3 (dV (dCB tupleD (dCons (dV (dLc (diAny (dVar 1)) (dgName 5) dYes (dOp ixD (dVar 5) (dV (dCallO F_L_next 0 (dCons (dV (dCB lenD (dCons (dVar 5) dNil))) dNil)))) [5])) dNil))))))
  (dRetM 3)))
theorem rd_L_deck : ∀ S xs Φ, F_L_deck S xs Φ → b_L_deck (rtO S Φ) (.arg S :: slots xs 5) := by
  rintro S xs Φ ⟨dS, ps, most, rfl, hp, hpo, m0, m1, k⟩
  refine ⟨by simp, trivial, ?_⟩
  refine for_open ⟨dS, most + 1, rfl, by omega, by omega, fun n S1 n0 n1 d1 r1 => ⟨(by unfold inR; omega), ?_⟩⟩
  refine forL_inv (fun rest ρ => ∃ (d : List Card) (S' : OT) (s : Sl), d.length + rest.length = n.toNat ∧ (∀ c ∈ d, Pick c ps) ∧ After S S' ∧ ρ = [.arg S', .val (.lst (ps.map palD)), .val (.int most), .own (d.map cardD), s, .un] ∧ free [.arg S', .val (.lst (ps.map palD)), .val (.int most), .own (d.map cardD), s, .un] 4) ?_ ?_ ⟨[], S1, .un, by rw [rng_length]; simp, by simp, ⟨d1, r1⟩, rfl, trivial⟩
  · rintro x rest ρ ⟨d, S', s, hl, hd, a', rfl, fr⟩ K hK
    rw [List.length_cons] at hl
    refine ⟨fr, ?_⟩
    refine lc_open ⟨by rw [List.length_map]; omega, ⟨trivial, trivial⟩, ?_⟩
    refine lcL_inv (fun rest' acc ρ => ∃ (pre post : List (List Col)) (c : Card) (S2 : OT) (s' : Sl), ps = pre ++ post ∧ rest' = post.map palD ∧ acc = c.map colD ∧ Pick c pre ∧ After S S2 ∧ ρ = [.arg S2, .val (.lst (ps.map palD)), .val (.int most), .own (d.map cardD), .val x, s']) ?_ ?_
      ⟨[], ps, [], S', .un, rfl, rfl, rfl, trivial, a', rfl⟩
    · rintro y rest' acc ρ ⟨pre, post, c, S2, s', e1, e2, rfl, pc, a2, rfl⟩ K' hK'
      cases post with
      | nil => cases e2
      | cons p post =>
        cases e2
        have pok := hpo p (by rw [e1]; exact List.mem_append_right _ List.mem_cons_self)
        have pl := pok.len
        have pp := pok.pos
        refine ⟨trivial, ?_⟩
        refine ⟨a2.1, ((p.map colD).length : Int), rfl, by rw [List.length_map]; omega, by rw [List.length_map]; omega, fun i S3 i0 i1 d3 r3 => ?_⟩
        rw [List.length_map] at i1
        refine ixL_map colD i0 i1 fun z hz => ?_
        exact ⟨⟨trivial, trivial⟩, hK' _ _ ⟨pre ++ [p], post, c ++ [z], S3, _, by rw [e1, List.append_assoc]; rfl, rfl, by rw [List.map_append]; rfl, pc.snoc hz, a2.trans ⟨d3, r3⟩, rfl⟩⟩
    · rintro acc ρ ⟨pre, post, c, S2, s', e1, e2, rfl, pc, a2, rfl⟩
      have : post = [] := by
        cases post with
        | nil => rfl
        | cons _ _ => cases e2
      subst this
      rw [List.append_nil] at e1
      subst e1
      refine ⟨by rw [List.length_map]; omega, ?_⟩
      refine hK _ ⟨d ++ [c], S2, .val x, by rw [List.length_append]; simp; omega, fun z hz => ?_, a2, ?_, trivial⟩
      · rcases List.mem_append.mp hz with h | h
        · exact hd z h
        · rw [List.mem_singleton.mp h]; exact pc
      · rw [List.map_append]
        rfl
  · rintro ρ ⟨d, S', s, hl, hd, a', rfl, fr⟩
    exact ⟨a'.2, k d S' (by simp at hl; omega) hd a'⟩
def F_L_palettes : DFO := fun S xs Φ => Dice S ∧ xs = [] ∧ ∀ (ps : List (List Col)) S', 1 ≤ ps.length → ps.length ≤ 12 → (∀ p ∈ ps, PalOk p) → After S S' → Φ (.own (ps.map palD)) S'
/- slots of _law_palettes: 0 _law_d, 1 _law_k -/
def b_L_palettes : DS := (dRet (dLc (diRng1 (dOp ixD (dV (dLst (dCons (dV (dOpR addD (dC (.int 1)) (dV (dCallO F_L_next 0 (dCons (dC (.int 5)) dNil))))) (dCons (dC (.int 12)) dNil)))) (dV (dCB intD (dCons (dOp eqD (dV (dCallO F_L_next 0 (dCons (dC (.int 8)) dNil))) (dC (.int 7))) dNil))))) (dgName 1) dYes (dV (dCallO F_L_palette 0 dNil)) [1]))
theorem rd_L_palettes : ∀ S xs Φ, F_L_palettes S xs Φ → b_L_palettes (rtO S Φ) (.arg S :: slots xs 1) := by
  rintro S xs Φ ⟨dS, rfl, k⟩
  refine lc_open ⟨dS, 5, rfl, by decide, by decide, fun n S1 n0 n1 d1 r1 => ⟨by simp, d1, 8, rfl, by decide, by decide, fun m S2 m0 m1 d2 r2 => ⟨ok_int _ _, ok_int _ _, ?_⟩⟩⟩
  have a2 : After S S2 := After.trans ⟨d1, r1⟩ ⟨d2, r2⟩
  rw [eqv_int]
  have main : ∀ j : Int, 1 ≤ j → j ≤ 12 → dLcL [1] (dgName 1) dYes (dV (dCallO F_L_palette 0 dNil)) (rng j.toNat 0 1) [] [.arg S2, .un] fun acc ρ2 => (rtO S Φ).rt (.own acc) (restR [.arg S2, .un] ρ2 [1]) := by
    intro j j0 j1
    refine lcL_inv (fun rest acc ρ => ∃ (ps : List (List Col)) (S' : OT) (s : Sl), acc = ps.map palD ∧ (∀ p ∈ ps, PalOk p) ∧ ps.length + rest.length = j.toNat ∧ After S S' ∧ ρ = [.arg S', s]) ?_ ?_ ⟨[], S2, .un, rfl, by simp, by rw [rng_length]; simp, a2, rfl⟩
    · rintro x rest acc ρ ⟨ps, S', s, rfl, hp, hl, a', rfl⟩ K hK
      refine ⟨trivial, ?_⟩
      refine ⟨a'.1, rfl, fun p S3 hp3 a3 => ?_⟩
      have h : ∀ r, r = Sl.own (p.map colD) ∨ r = Sl.val (palD p) → asD (fun y ρ4 => clean ρ4 [1] ∧ K (ps.map palD ++ [y]) ρ4) r [.arg S3, .val x] := by
        have : ∀ y, y = palD p → clean [.arg S3, .val x] [1] ∧ K (ps.map palD ++ [y]) [.arg S3, .val x] := fun y ey => by
          refine ⟨⟨trivial, trivial⟩, hK _ _ ⟨ps ++ [p], S3, _, by rw [List.map_append, ey]; rfl, fun q hq => ?_, by rw [List.length_append]; simp at hl ⊢; omega, a'.trans a3, rfl⟩⟩
          rcases List.mem_append.mp hq with h | h
          · exact hp q h
          · rw [List.mem_singleton.mp h]; exact hp3
        rintro r (rfl | rfl)
        · exact this _ rfl
        · exact this _ rfl
      exact ⟨h _ (.inl rfl), h _ (.inr rfl)⟩
    · rintro acc ρ ⟨ps, S', s, rfl, hp, hl, a', rfl⟩
      have hl' : ps.length = j.toNat := by simpa using hl
      exact ⟨a'.2, k ps S' (by omega) (by omega) hp a'⟩
  by_cases c : m = 7
  · rw [decide_eq_true c]
    exact ⟨(by unfold inR; decide), by decide, ⟨trivial, trivial⟩, main 12 (by decide) (by decide)⟩
  · rw [decide_eq_false c]
    refine ⟨(by unfold inR; omega), by rw [rng_length]; omega, ⟨trivial, trivial⟩, main (1 + n) (by omega) (by omega)⟩
end DL
set_option Elab.async false
set_option linter.all false
set_option maxRecDepth 100000
set_option maxHeartbeats 2000000
namespace DL
open PySem PySem.Spec PyProof.Rows L2 RT
variable [Tabl]

theorem papp_ix {ρ : List Sl} {i : Nat} {dk de : DE} {Φ : Sl → List Sl → Prop} {q r : Addr} {ts xs : List OT} {j : Nat} {x : D} (hs : ρ[i]? = some (.loc (.lst q ts))) (hk : ∀ Ψ : D → List Sl → Prop, Ψ (.int (j : Nat)) ρ → dk ρ Ψ) (hj : ts[j]? = some (.lst r xs))
    (he : ∀ Ψ : D → List Sl → Prop, Ψ x ρ → de ρ Ψ) (hl : xs.length ≤ 1000000) (k : Φ (.val .non) (ρ.set i (.loc (.lst q (ts.set j (.lst r (xs ++ [.val x]))))))) : dPApp (dpIx (dpVar i) dk) de ρ Φ := by
  have g1 : OT.get (.lst q ts) [.ix j] = some (.lst r xs) := by
    unfold OT.get
    rw [hj]
    unfold OT.get
    rfl
  have g2 : OT.put (.lst q ts) [.ix j] (.lst r (xs ++ [.val x])) = .lst q (ts.set j (.lst r (xs ++ [.val x]))) := by
    unfold OT.put
    rw [hj]
    unfold OT.put
    rfl
  unfold dPApp dpIx dpVar
  rw [hs]
  refine hk _ ?_
  rw [hs]
  show nodeRoot (.lst q ts) (.lst q ts) ∧ 0 ≤ ((j : Nat) : Int) ∧ match ts[((j : Nat) : Int).toNat]? with | some y => _ | none => _
  rw [Int.toNat_natCast, hj]
  refine ⟨⟨rfl, rfl⟩, Int.natCast_nonneg _, trivial, he _ ?_⟩
  rw [hs]
  show match OT.get (.lst q ts) [.ix j] with | some (.lst p xs) => _ | _ => _
  rw [g1]
  refine ⟨rfl, hl, ?_⟩
  show Φ _ (ρ.set i (.loc (OT.put (.lst q ts) [.ix j] (.lst r (xs ++ [.val x])))))
  rw [g2]
  exact k

/-! ### the program's column_of, pocket_of -/
theorem colAt_lt {c : Card} {a : Int} (h0 : 0 ≤ a) (h1 : a < c.length) : atI (c.map colD) a = some (colD (colAt c a)) := by
  have e : a = ((a.toNat : Nat) : Int) := (Int.toNat_of_nonneg h0).symm
  rw [e]
  refine atI_nat ?_
  unfold colAt
  rw [Int.toNat_natCast, List.getElem?_map, List.getD_eq_getElem?_getD, List.getElem?_eq_getElem (by omega)]
  rfl
theorem colAt_ge {c : Card} {a : Int} (h1 : ¬ a < c.length) : colAt c a = [] := by
  unfold colAt
  rw [List.getD_eq_getElem?_getD, List.getElem?_eq_none (by omega)]
  rfl
theorem colAt_mem {c : Card} {a : Int} {P : Col → Prop} (h : ∀ x ∈ c, P x) (h0 : P []) : P (colAt c a) := by
  unfold colAt
  rw [List.getD_eq_getElem?_getD]
  by_cases hl : a.toNat < c.length
  · rw [List.getElem?_eq_getElem hl]
    exact h _ (List.getElem_mem hl)
  · rw [List.getElem?_eq_none (by omega)]
    exact h0
theorem CardOk.col {c : Card} (h : CardOk c) (a : Int) : colAt c a ∈ every := colAt_mem h.2 (by decide)
def F_column_of : DF := fun xs Φ => ∃ (c : Card) (a : Int), xs = [cardD c, .int a] ∧ 0 ≤ a ∧ Φ (.val (colD (colAt c a)))
/- slots of column_of: 0 card, 1 at -/
def b_column_of : DS := (dSeq (dIfS (dTest (dOp ltD (dVar 1) (dV (dCB lenD (dCons (dVar 0) dNil))))) (dRet (dR (dOp ixD (dVar 0) (dVar 1)))) dNext)
  (dRet (dR (dTup dNil))))
theorem rd_column_of : ∀ xs Φ, F_column_of xs Φ → b_column_of (rtV Φ) (slots xs 2) := by
  rintro xs Φ ⟨c, a, rfl, h0, k⟩
  refine iteD (fun h => ?_) (fun h => ?_)
  · have e : ixL (c.map colD) (.int a) fun z => Φ (.val z) := by
      unfold ixL
      dsimp only
      rw [colAt_lt h0 (by rw [List.length_map] at h; exact h)]
      exact k
    exact e
  · refine ⟨by decide, ?_⟩
    rw [colAt_ge (by rw [List.length_map] at h; exact h)] at k
    exact k
/-- the first of these in a column, and one more; 0 for none -/
def firstIn (ps : List Int) : Col → Int
  | [] => 0
  | x :: r => if x ∈ ps then x + 1 else firstIn ps r
theorem firstIn_rng {ps : List Int} {n : Int} (h0 : 0 ≤ n) : ∀ {c : Col}, (∀ x ∈ c, 0 ≤ x ∧ x < n) → 0 ≤ firstIn ps c ∧ firstIn ps c ≤ n
  | [], _ => ⟨Int.le_refl _, h0⟩
  | x :: r, h => by
    unfold firstIn
    have hx := h x List.mem_cons_self
    split
    · omega
    · exact firstIn_rng h0 fun y hy => h y (List.mem_cons_of_mem _ hy)
theorem every_holes : ∀ c ∈ every, ∀ x ∈ c, 0 ≤ x ∧ x < 12 := by decide
def pocketOf (c : Card) (a : Int) (ps : List Int) : Int := firstIn ps (colAt c a)
theorem pocketOf_rng {c : Card} {a : Int} {ps : List Int} (h : CardOk c) : 0 ≤ pocketOf c a ps ∧ pocketOf c a ps ≤ 12 := firstIn_rng (by decide) (every_holes _ (h.col a))
def F_pocket_of : DF := fun xs Φ => ∃ (c : Card) (a : Int) (ps : List Int), xs = [cardD c, .int a, .tup (ps.map D.int)] ∧ 0 ≤ a ∧ Φ (.val (.int (pocketOf c a ps)))
/- slots of pocket_of: 0 card, 1 column, 2 places, 3 place -/
def b_pocket_of : DS := (dSeq (dFor (diAny (dV (dCall F_column_of (dCons (dVar 0) (dCons (dVar 1) dNil))))) (dgName 3) (dIfS (dTest (dOp memV (dVar 3) (dVar 2))) (dRet (dOpR addD (dVar 3) (dC (.int 1)))) dNext))
  (dRet (dR (dC (.int 0)))))
theorem rd_pocket_of : ∀ xs Φ, F_pocket_of xs Φ → b_pocket_of (rtV Φ) (slots xs 4) := by
  rintro xs Φ ⟨c, a, ps, rfl, h0, k⟩
  refine for_open ⟨c, a, rfl, h0, ?_⟩
  refine forL_inv (fun rest ρ => ∃ (r : Col) (s : Sl), rest = r.map D.int ∧ Φ (.val (.int (firstIn ps r))) ∧ ρ = [.val (cardD c), .val (.int a), .val (.tup (ps.map D.int)), s] ∧ free [.val (cardD c), .val (.int a), .val (.tup (ps.map D.int)), s] 3) ?_ ?_ ⟨colAt c a, .un, rfl, k, rfl, trivial⟩
  · rintro d rest ρ ⟨r, s, e, k, rfl, fr⟩ K hK
    cases r with
    | nil => cases e
    | cons x r =>
      cases e
      refine ⟨fr, ok_int _ _, okL_map D.int fun _ _ => ok_int _ _, ?_⟩
      rw [any_map D.int eqv_int]
      unfold firstIn at k
      refine iteD (fun h => ?_) (fun h => ?_)
      · rw [if_pos h] at k
        exact k
      · rw [if_neg h] at k
        exact hK _ ⟨r, .val (.int x), rfl, k, rfl, trivial⟩
  · rintro ρ ⟨r, s, e, k, rfl, fr⟩
    cases r with
    | nil => exact k
    | cons x r => cases e

/-! ### pockets, passed, sorted_by -/
structure Pass where
  col : Int
  places : List Int
  falling : Bool
deriving DecidableEq
def passD (p : Pass) : D := .tup [.int p.col, .tup (p.places.map D.int), .bl p.falling]
def PassOk (p : Pass) : Prop := 0 ≤ p.col ∧ p.col < 12
def pocket (d : List Card) (p : Pass) (k : Nat) : List Card := d.filter fun c => decide (pocketOf c p.col p.places = (k : Int))
def pockets (d : List Card) (p : Pass) : List (List Card) := (List.range 13).map (pocket d p)
def rowT (x : Addr × List Card) : OT := .lst x.1 (x.2.map fun c => .val (cardD c))
def F_pockets : DF := fun xs Φ => ∃ (d : List Card) (p : Pass), xs = [deckD d, passD p] ∧ d.length ≤ 1000 ∧ (∀ c ∈ d, CardOk c) ∧ PassOk p ∧ ∀ (q : Addr) (qs : List Addr), qs.length = 13 → Φ (.loc (.lst q ((qs.zip (pockets d p)).map rowT)))
/- slots of pockets: 0 deck, 1 one, 2 column, 3 places, 4 falling, 5 found, 6 card, 7 pocket -/
def b_pockets : DS := (dSeq (dAsg (dVar 1) (dgTup 3 (dgCons (dgName 2) (dgCons (dgName 3) (dgCons (dgName 4) dgNil)))))
  (dSeq (dSet 5 (dLcO (diRng1 (dC (.int 13))) (dgName 7) (dLst dNil) [7]))
  (dSeq (dFor (diAny (dVar 0)) (dgName 6) (dDrop (dPApp (dpIx (dpVar 5) (dV (dCall F_pocket_of (dCons (dVar 6) (dCons (dVar 2) (dCons (dVar 3) dNil)))))) (dVar 6))))
  (dRetM 5))))
theorem lcO_open {vs : List Nat} {di : DI} {g : DG} {te : DR} {ρ : List Sl} {Φ : Sl → List Sl → Prop} (h : di ρ fun ds ρ1 => ds.length ≤ 1000000 ∧ clean ρ1 vs ∧ dLcOL vs g te ds [] ρ1 fun acc ρ2 => ∀ p, Φ (.loc (.lst p acc)) (restR ρ1 ρ2 vs)) : dLcO di g te vs ρ Φ := by
  unfold dLcO
  exact h
theorem lcOL_inv {vs : List Nat} {g : DG} {te : DR} {Φ : List OT → List Sl → Prop} (I : List D → List OT → List Sl → Prop)
    (step : ∀ d rest acc ρ, I (d :: rest) acc ρ → ∀ K : List OT → List Sl → Prop, (∀ acc' ρ', I rest acc' ρ' → K acc' ρ') → g d (wipeR ρ vs) fun ρ2 => te ρ2 (asT fun t ρ4 => clean ρ4 vs ∧ K (acc ++ [t]) ρ4))
    (done : ∀ acc ρ, I [] acc ρ → Φ acc ρ) : ∀ {ds : List D} {acc : List OT} {ρ : List Sl}, I ds acc ρ → dLcOL vs g te ds acc ρ Φ
  | [], acc, ρ, h => done acc ρ h
  | d :: rest, acc, ρ, h => step d rest acc ρ h (fun acc' ρ' => dLcOL vs g te rest acc' ρ' Φ) fun acc' ρ' h' => lcOL_inv I step done h'
theorem pocket_snoc (d : List Card) (p : Pass) (c : Card) (k : Nat) : pocket (d ++ [c]) p k = if pocketOf c p.col p.places = (k : Int) then pocket d p k ++ [c] else pocket d p k := by
  unfold pocket
  rw [List.filter_append]
  by_cases h : pocketOf c p.col p.places = (k : Int)
  · rw [if_pos h, List.filter_cons_of_pos (by simp [h])]
    rfl
  · rw [if_neg h, List.filter_cons_of_neg (by simp [h])]
    simp
theorem zip_get {α β : Type} {as : List α} {bs : List β} {k : Nat} {a : α} {b : β} (h1 : as[k]? = some a) (h2 : bs[k]? = some b) : (as.zip bs)[k]? = some (a, b) := by
  rw [List.getElem?_zip_eq_some]
  exact ⟨h1, h2⟩
theorem pockets_get (d : List Card) (p : Pass) {k : Nat} (h : k < 13) : (pockets d p)[k]? = some (pocket d p k) := by
  unfold pockets
  rw [List.getElem?_map, List.getElem?_range h]
  rfl
theorem pockets_set (d : List Card) (p : Pass) (c : Card) (qs : List Addr) (hq : qs.length = 13) {k : Nat} (hk : pocketOf c p.col p.places = (k : Int)) (q : Addr) (e : qs[k]? = some q) :
    ((qs.zip (pockets d p)).map rowT).set k (.lst q ((pocket d p k).map (fun c => OT.val (cardD c)) ++ [.val (cardD c)])) = (qs.zip (pockets (d ++ [c]) p)).map rowT := by
  refine List.ext_getElem? fun j => ?_
  have lz : ∀ d, (qs.zip (pockets d p)).length = 13 := fun d => by
    rw [List.length_zip, hq]
    simp [pockets]
  by_cases hj : j < 13
  · have hqj : qs[j]? = some qs[j] := List.getElem?_eq_getElem (by omega)
    by_cases hjk : j = k
    · subst hjk
      rw [List.getElem?_set_self (by rw [List.length_map, lz]; exact hj), List.getElem?_map, zip_get e (pockets_get _ p hj), pocket_snoc, if_pos hk]
      simp [rowT]
    · rw [List.getElem?_set_ne (Ne.symm hjk), List.getElem?_map, List.getElem?_map, zip_get hqj (pockets_get _ p hj), zip_get hqj (pockets_get _ p hj), pocket_snoc, if_neg (by omega)]
  · rw [List.getElem?_eq_none (by rw [List.length_set, List.length_map, lz]; omega), List.getElem?_eq_none (by rw [List.length_map, lz]; omega)]
theorem rd_pockets : ∀ xs Φ, F_pockets xs Φ → b_pockets (rtV Φ) (slots xs 8) := by
  rintro xs Φ ⟨d, ⟨col, places, falling⟩, rfl, hl, hd, ⟨c0, c1⟩, k⟩
  refine ⟨rfl, trivial, trivial, trivial, ?_⟩
  refine lcO_open ⟨(by unfold inR; decide), by decide, ⟨trivial, trivial⟩, ?_⟩
  refine lcOL_inv (fun rest acc ρ => ∃ (qs : List Addr) (s : Sl), acc = qs.map (fun q => OT.lst q []) ∧ qs.length + rest.length = 13 ∧ ρ = [.val (deckD d), .val (passD ⟨col, places, falling⟩), .val (.int col), .val (.tup (places.map D.int)), .val (.bl falling), .un, .un, s]) ?_ ?_
    ⟨[], .un, rfl, rfl, rfl⟩
  · rintro x rest acc ρ ⟨qs, s, rfl, hl, rfl⟩ K hK
    refine ⟨trivial, by decide, fun q => ⟨⟨trivial, trivial⟩, hK _ _ ⟨qs ++ [q], _, by rw [List.map_append]; rfl, by rw [List.length_append]; simp at hl ⊢; omega, rfl⟩⟩⟩
  · rintro acc ρ ⟨qs, s, rfl, hq, rfl⟩ q
    have hq13 : qs.length = 13 := by simpa using hq
    refine ⟨trivial, ?_⟩
    refine for_open ?_
    have init : qs.map (fun q => OT.lst q []) = (qs.zip (pockets [] ⟨col, places, falling⟩)).map rowT := by
      refine List.ext_getElem? fun j => ?_
      by_cases hj : j < 13
      · have hqj : qs[j]? = some qs[j] := List.getElem?_eq_getElem (by omega)
        rw [List.getElem?_map, hqj, List.getElem?_map, zip_get hqj (pockets_get _ _ hj)]
        rfl
      · rw [List.getElem?_eq_none (by rw [List.length_map]; omega), List.getElem?_eq_none (by rw [List.length_map, List.length_zip]; omega)]
    show dForL _ _ _ (d.map cardD) _
    rw [init]
    refine forL_inv (fun rest ρ => ∃ (pre post : List Card) (s : Sl), d = pre ++ post ∧ rest = post.map cardD ∧ ρ = [.val (deckD d), .val (passD ⟨col, places, falling⟩), .val (.int col), .val (.tup (places.map D.int)), .val (.bl falling), .loc (.lst q ((qs.zip (pockets pre ⟨col, places, falling⟩)).map rowT)), s, .un] ∧
      free [.val (deckD d), .val (passD ⟨col, places, falling⟩), .val (.int col), .val (.tup (places.map D.int)), .val (.bl falling), .loc (.lst q ((qs.zip (pockets pre ⟨col, places, falling⟩)).map rowT)), s, .un] 6) ?_ ?_ ⟨[], d, .un, rfl, rfl, rfl, trivial⟩
    · rintro x rest ρ ⟨pre, post, s, e1, e2, rfl, fr⟩ K hK
      cases post with
      | nil => cases e2
      | cons c post =>
        cases e2
        have hc : CardOk c := hd c (by rw [e1]; exact List.mem_append_right _ List.mem_cons_self)
        have hr := pocketOf_rng (a := col) (ps := places) hc
        have hk : pocketOf c col places = ((pocketOf c col places).toNat : Int) := (Int.toNat_of_nonneg hr.1).symm
        have hlt : (pocketOf c col places).toNat < 13 := by omega
        generalize (pocketOf c col places).toNat = j at hk hlt
        refine ⟨fr, ?_⟩
        have hqj : qs[j]? = some qs[j] := List.getElem?_eq_getElem (by omega)
        have hget : ((qs.zip (pockets pre ⟨col, places, falling⟩)).map rowT)[j]? = some (.lst qs[j] ((pocket pre ⟨col, places, falling⟩ j).map fun c => .val (cardD c))) := by
          rw [List.getElem?_map, zip_get hqj (pockets_get _ _ hlt)]
          rfl
        refine papp_ix (x := cardD c) rfl (fun Ψ h => ⟨c, col, places, rfl, c0, by rw [hk]; exact h⟩) hget (fun Ψ h => h) ?_ ?_
        · have := List.length_filter_le (fun c => decide (pocketOf c col places = (j : Int))) pre
          rw [List.length_map]
          have hpl : pre.length ≤ d.length := by rw [e1, List.length_append]; omega
          exact Nat.le_trans this (by omega)
        · refine hK _ ⟨pre ++ [c], post, .val (cardD c), by rw [e1, List.append_assoc]; rfl, rfl, ?_, trivial⟩
          rw [← pockets_set pre ⟨col, places, falling⟩ c qs hq13 hk qs[j] hqj]
          rfl
    · rintro ρ ⟨pre, post, s, e1, e2, rfl, fr⟩
      have : post = [] := by
        cases post with
        | nil => rfl
        | cons _ _ => cases e2
      subst this
      rw [List.append_nil] at e1
      subst e1
      exact k q qs hq13

/-! ### passed -/
def passedL (d : List Card) (p : Pass) : List Card := (if p.falling = true then (pockets d p).reverse else pockets d p).flatten
theorem parts_perm {α : Type} (l : List α) (f : α → Int) : ∀ n : Nat, (((List.range n).map fun (k : Nat) => l.filter fun x => decide (f x = (k : Int))).flatten).Perm (l.filter fun x => decide (0 ≤ f x ∧ f x < (n : Int)))
  | 0 => by
    have : (l.filter fun x => decide (0 ≤ f x ∧ f x < ((0 : Nat) : Int))) = [] := List.filter_eq_nil_iff.mpr fun x _ => by
      simp only [decide_eq_true_eq]
      omega
    rw [this]
    exact List.Perm.refl _
  | n + 1 => by
    rw [List.range_succ, List.map_append, List.flatten_append]
    simp only [List.map_cons, List.map_nil, List.flatten_cons, List.flatten_nil, List.append_nil]
    refine (List.Perm.append_right _ (parts_perm l f n)).trans ?_
    have h := List.filter_append_perm (fun x => decide (f x < (n : Int))) (l.filter fun x => decide (0 ≤ f x ∧ f x < ((n + 1 : Nat) : Int)))
    rw [List.filter_filter, List.filter_filter] at h
    refine List.Perm.trans (List.Perm.of_eq ?_) h
    congr 1
    · congr 1
      funext x
      rw [Bool.eq_iff_iff]
      simp
      omega
    · congr 1
      funext x
      rw [Bool.eq_iff_iff]
      simp
      omega
theorem pockets_perm {d : List Card} {p : Pass} (hd : ∀ c ∈ d, CardOk c) : (pockets d p).flatten.Perm d := by
  refine (parts_perm d (fun c => pocketOf c p.col p.places) 13).trans (List.Perm.of_eq ?_)
  refine List.filter_eq_self.mpr fun c hc => ?_
  have := pocketOf_rng (a := p.col) (ps := p.places) (hd c hc)
  simp
  omega
theorem passed_perm {d : List Card} {p : Pass} (hd : ∀ c ∈ d, CardOk c) : (passedL d p).Perm d := by
  unfold passedL
  split
  · exact (List.Perm.flatten (List.reverse_perm _)).trans (pockets_perm hd)
  · exact pockets_perm hd
theorem toDs_row : ∀ xs : List (Addr × List Card), OT.toDs (xs.map rowT) = some (xs.map fun x => deckD x.2)
  | [] => rfl
  | (q, r) :: xs => by
    have e : ∀ l : List Card, OT.toDs (l.map fun c => OT.val (cardD c)) = some (l.map cardD) := fun l => by
      induction l with
      | nil => rfl
      | cons c l ih => rw [List.map_cons, OT.toDs, ih]; rfl
    rw [List.map_cons, OT.toDs, toDs_row xs]
    have e2 : (rowT (q, r)).toD = some (deckD r) := by
      show (OT.lst q (r.map fun c => OT.val (cardD c))).toD = _
      rw [OT.toD, e]
      rfl
    rw [e2]
    rfl
theorem toD_pockets {q : Addr} {qs : List Addr} {rows : List (List Card)} (h : qs.length = rows.length) : OT.toD (.lst q ((qs.zip rows).map rowT)) = some (.lst (rows.map deckD)) := by
  rw [OT.toD, toDs_row]
  have : (qs.zip rows).map (fun x => deckD x.2) = rows.map deckD := by
    have e := List.map_map (g := deckD) (f := Prod.snd) (l := qs.zip rows)
    rw [List.map_snd_zip (by omega)] at e
    exact e.symm
  rw [this]
def F_passed : DF := fun xs Φ => ∃ (d : List Card) (p : Pass), xs = [deckD d, passD p] ∧ d.length ≤ 1000 ∧ (∀ c ∈ d, CardOk c) ∧ PassOk p ∧ Φ (.own ((passedL d p).map cardD))
/- slots of passed: 0 deck, 1 one, 2 column, 3 places, 4 falling, 5 found, 6 rows, 7 row -/
def b_passed : DS := (dSeq (dAsg (dVar 1) (dgTup 3 (dgCons (dgName 2) (dgCons (dgName 3) (dgCons (dgName 4) dgNil)))))
  (dSeq (dSet 5 (dLst dNil))
  (dSeq (dSet 6 (dR (dV (dCall F_pockets (dCons (dVar 0) (dCons (dVar 1) dNil))))))
  (dSeq (dIfS (dTest (dVar 4)) (dSet 6 (dR (dV (dRevL (dVar 6))))) dNext)
  (dSeq (dFor (diAny (dVar 6)) (dgName 7) (dDrop (dExt 5 (dVar 7))))
  (dRetM 5))))))
theorem flatten_len {α : Type} {n : Nat} : ∀ {rows : List (List α)}, (∀ r ∈ rows, r.length ≤ n) → rows.flatten.length ≤ rows.length * n
  | [], _ => by simp
  | r :: rows, h => by
    have h1 := h r List.mem_cons_self
    have h2 := flatten_len (rows := rows) fun x hx => h x (List.mem_cons_of_mem _ hx)
    rw [List.flatten_cons, List.length_append, List.length_cons, Nat.add_mul]
    omega
theorem rd_passed : ∀ xs Φ, F_passed xs Φ → b_passed (rtV Φ) (slots xs 8) := by
  rintro xs Φ ⟨d, ⟨col, places, falling⟩, rfl, hl, hd, hp, k⟩
  refine ⟨rfl, trivial, trivial, trivial, by simp, trivial, d, ⟨col, places, falling⟩, rfl, hl, hd, hp, fun q qs hq => ?_⟩
  have lp : (pockets d ⟨col, places, falling⟩).length = 13 := by simp [pockets]
  have rowl : ∀ r ∈ pockets d ⟨col, places, falling⟩, r.length ≤ 1000 := fun r hr => by
    obtain ⟨j, _, rfl⟩ := List.mem_map.mp hr
    exact Nat.le_trans (List.length_filter_le _ _) hl
  have main : ∀ rows : List (List Card), rows.length = 13 → (∀ r ∈ rows, r.length ≤ 1000) → Φ (.own (rows.flatten.map cardD)) →
      dSeq (dFor (diAny (dVar 6)) (dgName 7) (dDrop (dExt 5 (dVar 7)))) (dRetM 5) (rtV Φ) [.val (deckD d), .val (passD ⟨col, places, falling⟩), .val (.int col), .val (.tup (places.map D.int)), .val (.bl falling), .own [], .val (.lst (rows.map deckD)), .un] := by
    intro rows h13 hr k
    refine for_open ?_
    show dForL _ _ _ (rows.map deckD) _
    refine forL_inv (fun rest ρ => ∃ (pre post : List (List Card)) (s : Sl), rows = pre ++ post ∧ rest = post.map deckD ∧ ρ = [.val (deckD d), .val (passD ⟨col, places, falling⟩), .val (.int col), .val (.tup (places.map D.int)), .val (.bl falling), .own (pre.flatten.map cardD), .val (.lst (rows.map deckD)), s] ∧
      free [.val (deckD d), .val (passD ⟨col, places, falling⟩), .val (.int col), .val (.tup (places.map D.int)), .val (.bl falling), .own (pre.flatten.map cardD), .val (.lst (rows.map deckD)), s] 7) ?_ ?_ ⟨[], rows, .un, rfl, rfl, rfl, trivial⟩
    · rintro x rest ρ ⟨pre, post, s, e1, e2, rfl, fr⟩ K hK
      cases post with
      | nil => cases e2
      | cons r post =>
        cases e2
        refine ⟨fr, ?_⟩
        have hrl := hr r (by rw [e1]; exact List.mem_append_right _ List.mem_cons_self)
        have hpl := flatten_len (rows := pre) fun x hx => hr x (by rw [e1]; exact List.mem_append_left _ hx)
        have hpn : pre.length ≤ 13 := by rw [← h13, e1, List.length_append]; omega
        refine ⟨?_, hK _ ⟨pre ++ [r], post, .val (deckD r), by rw [e1, List.append_assoc]; rfl, rfl, ?_, trivial⟩⟩
        · rw [List.length_map, List.length_map]
          have : pre.length * 1000 ≤ 13 * 1000 := Nat.mul_le_mul_right _ hpn
          omega
        · rw [List.flatten_append, List.map_append]
          simp
    · rintro ρ ⟨pre, post, s, e1, e2, rfl, fr⟩
      have : post = [] := by
        cases post with
        | nil => rfl
        | cons _ _ => cases e2
      subst this
      rw [List.append_nil] at e1
      subst e1
      exact k
  show match OT.toD (.lst q ((qs.zip (pockets d ⟨col, places, falling⟩)).map rowT)) with | some d => _ | none => False
  rw [toD_pockets (by rw [hq, lp])]
  refine ⟨trivial, ?_⟩
  cases falling with
  | true =>
    refine ⟨trivial, ?_⟩
    have := main (pockets d ⟨col, places, true⟩).reverse (by rw [List.length_reverse, lp]) (fun r hr => rowl r (List.mem_reverse.mp hr)) k
    rw [List.map_reverse] at this
    exact this
  | false => exact main (pockets d ⟨col, places, false⟩) lp rowl k
def F_sorted_by : DF := fun xs Φ => ∃ (d : List Card) (ps : List Pass), xs = [deckD d, .lst (ps.map passD)] ∧ d.length ≤ 1000 ∧ (∀ c ∈ d, CardOk c) ∧ (∀ p ∈ ps, PassOk p) ∧ Φ (.own ((ps.foldl passedL d).map cardD))
/- slots of sorted_by: 0 deck, 1 passes, 2 found, 3 one -/
def b_sorted_by : DS := (dSeq (dSet 2 (dCB listD (dCons (dVar 0) dNil)))
  (dSeq (dFor (diAny (dVar 1)) (dgName 3) (dSet 2 (dCall F_passed (dCons (dVar 2) (dCons (dVar 3) dNil)))))
  (dRetM 2)))
theorem rd_sorted_by : ∀ xs Φ, F_sorted_by xs Φ → b_sorted_by (rtV Φ) (slots xs 4) := by
  rintro xs Φ ⟨d, ps, rfl, hl, hd, hp, k⟩
  refine ⟨trivial, ?_⟩
  refine for_open ?_
  show dForL _ _ _ (ps.map passD) _
  refine forL_inv (fun rest ρ => ∃ (post : List Pass) (d' : List Card) (s : Sl), rest = post.map passD ∧ d'.length ≤ 1000 ∧ (∀ c ∈ d', CardOk c) ∧ (∀ p ∈ post, PassOk p) ∧ Φ (.own ((post.foldl passedL d').map cardD)) ∧ ρ = [.val (deckD d), .val (.lst (ps.map passD)), .own (d'.map cardD), s] ∧
      free [.val (deckD d), .val (.lst (ps.map passD)), .own (d'.map cardD), s] 3) ?_ ?_ ⟨ps, d, .un, rfl, hl, hd, hp, k, rfl, trivial⟩
  · rintro x rest ρ ⟨post, d', s, e2, hl', hd', hp', k', rfl, fr⟩ K hK
    cases post with
    | nil => cases e2
    | cons p post =>
      cases e2
      refine ⟨fr, ?_⟩
      have pm := passed_perm (p := p) hd'
      refine ⟨d', p, rfl, hl', hd', hp' p List.mem_cons_self, trivial, hK _ ⟨post, passedL d' p, .val (passD p), rfl, by rw [pm.length_eq]; exact hl', fun c hc => hd' c (pm.subset hc), fun q hq => hp' q (List.mem_cons_of_mem _ hq), k', rfl, trivial⟩⟩
  · rintro ρ ⟨post, d', s, e2, hl', hd', hp', k', rfl, fr⟩
    cases post with
    | nil => exact k'
    | cons _ _ => cases e2
end DL
set_option Elab.async false
set_option linter.all false
set_option maxRecDepth 100000
set_option maxHeartbeats 2000000
namespace DL
open PySem PySem.Spec PyProof.Rows L2 RT
variable [Tabl]

/-! ### the law's pocket -/
def F_L_pocket : DF := fun xs Φ => ∃ (c : Card) (p : Pass), xs = [cardD c, passD p] ∧ CardOk c ∧ PassOk p ∧ Φ (.val (.int (pocketOf c p.col p.places)))
/- slots of _law_pocket: 0 _law_card, 1 _law_one, 2 _law_some, 3 _law_place -/
def b_L_pocket : DS := (dSeq (dSet 2 (dR (dV (dLc (diAny (dV (dCall F_L_column (dCons (dVar 0) (dCons (dOp ixD (dVar 1) (dC (.int 0))) dNil))))) (dgName 3) (dTest (dOp memV (dVar 3) (dOp ixD (dVar 1) (dC (.int 1))))) (dV (dOpR addD (dVar 3) (dC (.int 1)))) [3]))))
  (dRet (dR (dOp modD (dV (dCB minLD (dCons (dV (dOpR addD (dVar 2) (dV (dLst (dCons (dC (.int 99)) dNil))))) dNil))) (dC (.int 99))))))
theorem every_form : ∀ c ∈ every, c = [] ∨ (∃ a, 0 ≤ a ∧ a < 12 ∧ c = [a]) ∨ ∃ a b, 0 ≤ a ∧ a < b ∧ b < 12 ∧ c = [a, b] := by
  intro c hc
  unfold every at hc
  rw [List.mem_flatMap] at hc
  obtain ⟨o, ho, hc⟩ := hc
  unfold blockC at hc
  have ho' : o = [] ∨ o = [10] ∨ o = [11] := by simpa using ho
  rcases List.mem_cons.mp hc with e | hc
  · rcases ho' with e2 | e2 | e2 <;> subst e <;> subst e2
    · exact .inl rfl
    · exact .inr (.inl ⟨10, by decide, by decide, rfl⟩)
    · exact .inr (.inl ⟨11, by decide, by decide, rfl⟩)
  · obtain ⟨f, hf, rfl⟩ := List.mem_map.mp hc
    have hf' := List.mem_range.mp hf
    rcases ho' with e2 | e2 | e2 <;> subst e2
    · exact .inr (.inl ⟨f, by omega, by omega, rfl⟩)
    · exact .inr (.inr ⟨f, 10, by omega, by omega, by decide, rfl⟩)
    · exact .inr (.inr ⟨f, 11, by omega, by omega, by decide, rfl⟩)
theorem minL_one (x : Int) (h : x ≤ 99) : minL [x, 99] = x := by
  show (if (99 : Int) < x then 99 else x) = x
  rw [if_neg (by omega)]
theorem minL_two (x y : Int) (h : y ≤ 99) (h2 : x ≤ y) : minL [x, y, 99] = x := by
  show (if minL [y, 99] < x then minL [y, 99] else x) = x
  rw [minL_one y h, if_neg (by omega)]
theorem min_first (ps : List Int) {c : Col} (h : c ∈ every) : minL (((c.filter fun x => decide (x ∈ ps)).map fun x => x + 1) ++ [99]) % 99 = firstIn ps c := by
  rcases every_form c h with rfl | ⟨a, h0, h1, rfl⟩ | ⟨a, b, h0, h1, h2, rfl⟩
  · rfl
  · by_cases ha : a ∈ ps
    · have e : ([a].filter fun x => decide (x ∈ ps)).map (fun x => x + 1) ++ [99] = [a + 1, 99] := by simp [List.filter_cons, ha]
      have e2 : firstIn ps [a] = a + 1 := by simp [firstIn, ha]
      rw [e, e2, minL_one _ (by omega)]
      omega
    · have e : ([a].filter fun x => decide (x ∈ ps)).map (fun x => x + 1) ++ [99] = [99] := by simp [List.filter_cons, ha]
      have e2 : firstIn ps [a] = 0 := by simp [firstIn, ha]
      rw [e, e2]
      rfl
  · by_cases ha : a ∈ ps
    · have e2 : firstIn ps [a, b] = a + 1 := by simp [firstIn, ha]
      by_cases hb : b ∈ ps
      · have e : ([a, b].filter fun x => decide (x ∈ ps)).map (fun x => x + 1) ++ [99] = [a + 1, b + 1, 99] := by simp [List.filter_cons, ha, hb]
        rw [e, e2, minL_two _ _ (by omega) (by omega)]
        omega
      · have e : ([a, b].filter fun x => decide (x ∈ ps)).map (fun x => x + 1) ++ [99] = [a + 1, 99] := by simp [List.filter_cons, ha, hb]
        rw [e, e2, minL_one _ (by omega)]
        omega
    · by_cases hb : b ∈ ps
      · have e : ([a, b].filter fun x => decide (x ∈ ps)).map (fun x => x + 1) ++ [99] = [b + 1, 99] := by simp [List.filter_cons, ha, hb]
        have e2 : firstIn ps [a, b] = b + 1 := by simp [firstIn, ha, hb]
        rw [e, e2, minL_one _ (by omega)]
        omega
      · have e : ([a, b].filter fun x => decide (x ∈ ps)).map (fun x => x + 1) ++ [99] = [99] := by simp [List.filter_cons, ha, hb]
        have e2 : firstIn ps [a, b] = 0 := by simp [firstIn, ha, hb]
        rw [e, e2]
        rfl
theorem rd_L_pocket : ∀ xs Φ, F_L_pocket xs Φ → b_L_pocket (rtV Φ) (slots xs 4) := by
  rintro xs Φ ⟨c, ⟨col, places, falling⟩, rfl, hc, ⟨p0, p1⟩, k⟩
  refine lc_pure (colAt c col) D.int (fun x => decide (x ∈ places)) (fun x => .int (x + 1)) (fun Ψ h => ⟨c, col, rfl, by have := hc.1; omega, p0, p1, h⟩) ?_ (.inl rfl) (fun x hx Ψ h => ?_) (fun x hx _ Ψ h => h) ?_
  · have : ∀ x ∈ every, x.length ≤ 2 := by decide
    have := this _ (hc.col col)
    omega
  · refine ⟨ok_int _ _, okL_map D.int fun _ _ => ok_int _ _, ?_⟩
    rw [any_map D.int eqv_int]
    exact h
  · have hl2 : ((colAt c col).filter fun x => decide (x ∈ places)).length ≤ 2 := by
      have h1 : ∀ x ∈ every, x.length ≤ 2 := by decide
      exact Nat.le_trans (List.length_filter_le _ _) (h1 _ (hc.col col))
    have e : (((colAt c col).filter fun x => decide (x ∈ places)).map fun x => D.int (x + 1)) ++ [D.int 99] = (((((colAt c col).filter fun x => decide (x ∈ places)).map fun x => x + 1) ++ [99]).map D.int) := by
      rw [List.map_append, List.map_map]
      rfl
    refine ⟨trivial, by simp, ?_⟩
    refine ⟨by rw [List.length_map]; simp; omega, ?_⟩
    show match D.ints _ with | some ns => _ | none => _
    rw [e, ints_map]
    refine ⟨by simp, (by show (0 : Int) < 99; decide), ?_⟩
    have := min_first places (hc.col col)
    unfold pocketOf at k
    rw [← this] at k
    exact k

/-! ### the law's passing -/
def F_L_passed : DF := fun xs Φ => ∃ (d : List Card) (p : Pass), xs = [deckD d, passD p] ∧ d.length ≤ 1000 ∧ (∀ c ∈ d, CardOk c) ∧ PassOk p ∧ Φ (.val (deckD (passedL d p)))
/- slots of _law_passed: 0 _law_deck_here, 1 _law_one, 2 _law_found, 3 _law_turn, 4 _law_pocket_here, 5 _law_card -/
def b_L_passed : DS := (dSeq (dSet 2 (dR (dV (dLst dNil))))
  (dSeq (dFor (diRng1 (dC (.int 13))) (dgName 3) (dSeq (dSet 4 (dR (dOp ixD (dV (dLst (dCons (dVar 3) (dCons (dOp subD (dC (.int 12)) (dVar 3)) dNil)))) (dV (dCB intD (dCons (dOp ixD (dVar 1) (dC (.int 2))) dNil))))))
  (dSet 2 (dR (dV (dOpR addD (dVar 2) (dV (dLc (diAny (dVar 0)) (dgName 5) (dTest (dOp eqD (dV (dCall F_L_pocket (dCons (dVar 5) (dCons (dVar 1) dNil)))) (dVar 4))) (dVar 5) [5]))))))))
  (dRet (dR (dVar 2)))))
def turnOf (p : Pass) (t : Nat) : Nat := if p.falling = true then 12 - t else t
theorem passedL_turn (d : List Card) (p : Pass) : passedL d p = ((List.range 13).map fun t => pocket d p (turnOf p t)).flatten := by
  unfold passedL turnOf
  by_cases h : p.falling = true
  · simp only [if_pos h]
    rfl
  · simp only [if_neg h]
    rfl
theorem rd_L_passed : ∀ xs Φ, F_L_passed xs Φ → b_L_passed (rtV Φ) (slots xs 6) := by
  rintro xs Φ ⟨d, ⟨col, places, falling⟩, rfl, hl, hd, hp, k⟩
  refine ⟨by simp, trivial, ?_⟩
  refine for_open ⟨(by unfold inR; decide), ?_⟩
  refine forL_inv (fun rest ρ => ∃ (j : Nat) (s3 s4 : Sl), rest = rng (13 - j) j 1 ∧ j ≤ 13 ∧ ρ = [.val (deckD d), .val (passD ⟨col, places, falling⟩), .val (deckD (((List.range j).map fun t => pocket d ⟨col, places, falling⟩ (turnOf ⟨col, places, falling⟩ t)).flatten)), s3, s4, .un] ∧
      free [.val (deckD d), .val (passD ⟨col, places, falling⟩), .val (deckD (((List.range j).map fun t => pocket d ⟨col, places, falling⟩ (turnOf ⟨col, places, falling⟩ t)).flatten)), s3, s4, .un] 3 ∧
      free [.val (deckD d), .val (passD ⟨col, places, falling⟩), .val (deckD (((List.range j).map fun t => pocket d ⟨col, places, falling⟩ (turnOf ⟨col, places, falling⟩ t)).flatten)), s3, s4, .un] 4) ?_ ?_ ⟨0, .un, .un, rfl, by decide, rfl, trivial, trivial⟩
  · rintro x rest ρ ⟨j, s3, s4, e, hj, rfl, f3, f4⟩ K hK
    have hlt : j < 13 := by
      rcases Nat.lt_or_ge j 13 with h | h
      · exact h
      · rw [show 13 - j = 0 by omega] at e
        cases e
    rw [show 13 - j = (13 - (j + 1)) + 1 by omega] at e
    cases e
    refine ⟨f3, by simp, ?_⟩
    have body : ∀ t : Int, t = ((turnOf ⟨col, places, falling⟩ j : Nat) : Int) → dSet 2 (dR (dV (dOpR addD (dVar 2) (dV (dLc (diAny (dVar 0)) (dgName 5) (dTest (dOp eqD (dV (dCall F_L_pocket (dCons (dVar 5) (dCons (dVar 1) dNil)))) (dVar 4))) (dVar 5) [5])))))
        { rtV Φ with nx := K, ct := K, bk := dRet (dR (dVar 2)) (rtV Φ) } [.val (deckD d), .val (passD ⟨col, places, falling⟩), .val (deckD (((List.range j).map fun t => pocket d ⟨col, places, falling⟩ (turnOf ⟨col, places, falling⟩ t)).flatten)), .val (.int (j : Nat)), .val (.int t), .un] := by
      rintro t rfl
      refine lc_pure d cardD (fun c => decide (pocketOf c col places = ((turnOf ⟨col, places, falling⟩ j : Nat) : Int))) cardD (fun Ψ h => h) (by omega) (.inl rfl) (fun c hc Ψ h => ?_) (fun c hc _ Ψ h => h) ?_
      · refine ⟨c, ⟨col, places, falling⟩, rfl, hd c hc, hp, ok_int _ _, ok_int _ _, ?_⟩
        rw [eqv_int]
        exact h
      · refine ⟨?_, trivial, hK _ ⟨j + 1, .val (.int (j : Nat)), .val (.int ((turnOf ⟨col, places, falling⟩ j : Nat) : Int)), by push_cast; rfl, hlt, ?_, trivial, trivial⟩⟩
        · rw [List.length_map, List.length_map]
          have h1 := flatten_len (n := 1000) (rows := (List.range j).map fun t => pocket d ⟨col, places, falling⟩ (turnOf ⟨col, places, falling⟩ t)) fun r hr => by
            obtain ⟨i, _, rfl⟩ := List.mem_map.mp hr
            exact Nat.le_trans (List.length_filter_le _ _) hl
          rw [List.length_map, List.length_range] at h1
          have h2 := List.length_filter_le (fun c => decide (pocketOf c col places = ((turnOf ⟨col, places, falling⟩ j : Nat) : Int))) d
          have h3 : j * 1000 ≤ 13 * 1000 := Nat.mul_le_mul_right _ hj
          omega
        · have e : deckD (((List.range (j + 1)).map fun t => pocket d ⟨col, places, falling⟩ (turnOf ⟨col, places, falling⟩ t)).flatten) = .lst ((((List.range j).map fun t => pocket d ⟨col, places, falling⟩ (turnOf ⟨col, places, falling⟩ t)).flatten).map cardD ++ (d.filter fun c => decide (pocketOf c col places = ((turnOf ⟨col, places, falling⟩ j : Nat) : Int))).map cardD) := by
            rw [List.range_succ, List.map_append, List.flatten_append]
            unfold deckD
            rw [List.map_append]
            congr 2
            simp only [List.map_cons, List.map_nil, List.flatten_cons, List.flatten_nil, List.append_nil]
            rfl
          rw [e]
          rfl
    cases falling with
    | true => exact ⟨f4, body (12 - (j : Int)) (by show (12 : Int) - j = ((12 - j : Nat) : Int); omega)⟩
    | false => exact ⟨f4, body (j : Int) rfl⟩
  · rintro ρ ⟨j, s3, s4, e, hj, rfl, f3, f4⟩
    have : j = 13 := by
      rcases Nat.lt_or_ge j 13 with h | h
      · rw [show 13 - j = (13 - (j + 1)) + 1 by omega] at e
        cases e
      · omega
    subst this
    rw [passedL_turn] at k
    exact k
def F_L_by : DF := fun xs Φ => ∃ (d : List Card) (ps : List Pass), xs = [deckD d, .lst (ps.map passD)] ∧ d.length ≤ 1000 ∧ (∀ c ∈ d, CardOk c) ∧ (∀ p ∈ ps, PassOk p) ∧ Φ (.val (deckD (ps.foldl passedL d)))
/- slots of _law_by: 0 _law_deck_here, 1 _law_passes, 2 _law_one -/
def b_L_by : DS := (dSeq (dFor (diAny (dVar 1)) (dgName 2) (dSet 0 (dR (dV (dCall F_L_passed (dCons (dVar 0) (dCons (dVar 2) dNil)))))))
  (dRet (dR (dVar 0))))
theorem rd_L_by : ∀ xs Φ, F_L_by xs Φ → b_L_by (rtV Φ) (slots xs 3) := by
  rintro xs Φ ⟨d, ps, rfl, hl, hd, hp, k⟩
  refine for_open ?_
  show dForL _ _ _ (ps.map passD) _
  refine forL_inv (fun rest ρ => ∃ (post : List Pass) (d' : List Card) (s : Sl), rest = post.map passD ∧ d'.length ≤ 1000 ∧ (∀ c ∈ d', CardOk c) ∧ (∀ p ∈ post, PassOk p) ∧ Φ (.val (deckD (post.foldl passedL d'))) ∧ ρ = [.val (deckD d'), .val (.lst (ps.map passD)), s] ∧
      free [.val (deckD d'), .val (.lst (ps.map passD)), s] 2) ?_ ?_ ⟨ps, d, .un, rfl, hl, hd, hp, k, rfl, trivial⟩
  · rintro x rest ρ ⟨post, d', s, e2, hl', hd', hp', k', rfl, fr⟩ K hK
    cases post with
    | nil => cases e2
    | cons p post =>
      cases e2
      refine ⟨fr, ?_⟩
      have pm := passed_perm (p := p) hd'
      refine ⟨d', p, rfl, hl', hd', hp' p List.mem_cons_self, trivial, hK _ ⟨post, passedL d' p, .val (passD p), rfl, by rw [pm.length_eq]; exact hl', fun c hc => hd' c (pm.subset hc), fun q hq => hp' q (List.mem_cons_of_mem _ hq), k', rfl, trivial⟩⟩
  · rintro ρ ⟨post, d', s, e2, hl', hd', hp', k', rfl, fr⟩
    cases post with
    | nil => exact k'
    | cons _ _ => cases e2

/-! ### drawn passes -/
def F_L_pass : DFO := fun S xs Φ => Dice S ∧ ∃ cols : List Int, xs = [.lst (cols.map D.int)] ∧ cols ≠ [] ∧ cols.length ≤ 1000 ∧ (∀ x ∈ cols, 0 ≤ x ∧ x < 12) ∧
  ∀ (p : Pass) S', PassOk p → p.col ∈ cols → p.places.length ≤ 12 → (∀ x ∈ p.places, 0 ≤ x ∧ x < 12) → After S S' → Φ (.val (passD p)) S'
/- slots of _law_pass: 0 _law_d, 1 _law_columns_here, 2 _law_places, 3 _law_place -/
def b_L_pass : DS := (dSeq (dSet 2 (dR (dV (dCB tupleD (dCons (dV (dLc (diRng1 (dC (.int 12))) (dgName 3) (dTest (dOp eqD (dV (dCallO F_L_next 0 (dCons (dC (.int 2)) dNil))) (dC (.int 1)))) (dVar 3) [3])) dNil)))))
  (dSeq (dIfS (dTest (dOp eqD (dV (dCallO F_L_next 0 (dCons (dC (.int 2)) dNil))) (dC (.int 1)))) (dSet 2 (dR (dOp ixD (dV (dLst (dCons (dV (dRg1 (dC (.int 10)) fun xs => .val (.tup xs))) (dCons (dTup (dCons (dC (.int 10)) (dCons (dC (.int 11)) dNil))) (dCons (dV (dRg1 (dC (.int 12)) fun xs => .val (.tup xs))) dNil))))) (dV (dCallO F_L_next 0 (dCons (dC (.int 3)) dNil)))))) dNext)
  (dRet (dR (dTup (dCons (dOp ixD (dVar 1) (dV (dCallO F_L_next 0 (dCons (dV (dCB lenD (dCons (dVar 1) dNil))) dNil)))) (dCons (dVar 2) (dCons (dOp eqD (dV (dCallO F_L_next 0 (dCons (dC (.int 3)) dNil))) (dC (.int 2))) dNil))))))))
theorem rd_L_pass : ∀ S xs Φ, F_L_pass S xs Φ → b_L_pass (rtO S Φ) (.arg S :: slots xs 3) := by
  rintro S xs Φ ⟨dS, cols, rfl, hne, hl, hc, k⟩
  refine lc_open ⟨(by unfold inR; decide), by decide, ⟨trivial, trivial⟩, ?_⟩
  refine lcL_inv (fun rest acc ρ => ∃ (j : Nat) (ps : List Int) (S' : OT) (s : Sl), rest = rng (12 - j) j 1 ∧ j ≤ 12 ∧ acc = ps.map D.int ∧ ps.length ≤ j ∧ (∀ x ∈ ps, 0 ≤ x ∧ x < 12) ∧ After S S' ∧ ρ = [.arg S', .val (.lst (cols.map D.int)), .un, s]) ?_ ?_ ⟨0, [], S, .un, rfl, by decide, rfl, Nat.le_refl _, by simp, ⟨dS, rfl⟩, rfl⟩
  · rintro x rest acc ρ ⟨j, ps, S', s, e, hj, rfl, hps, hpr, a', rfl⟩ K hK
    have hlt : j < 12 := by
      rcases Nat.lt_or_ge j 12 with h | h
      · exact h
      · rw [show 12 - j = 0 by omega] at e
        cases e
    rw [show 12 - j = (12 - (j + 1)) + 1 by omega] at e
    cases e
    refine ⟨trivial, ?_⟩
    refine ⟨a'.1, 2, rfl, by decide, by decide, fun i S2 i0 i1 d2 r2 => ⟨ok_int _ _, ok_int _ _, iteE (fun c => ?_) (fun c => ?_)⟩⟩
    · refine ⟨⟨trivial, trivial⟩, hK _ _ ⟨j + 1, ps ++ [(j : Int)], S2, _, by push_cast; rfl, hlt, by rw [List.map_append]; rfl, by rw [List.length_append]; simp; omega, fun y hy => ?_, a'.trans ⟨d2, r2⟩, rfl⟩⟩
      rcases List.mem_append.mp hy with h | h
      · exact hpr y h
      · rw [List.mem_singleton.mp h]; omega
    · exact ⟨⟨trivial, trivial⟩, hK _ _ ⟨j + 1, ps, S2, _, by push_cast; rfl, hlt, rfl, by omega, hpr, a'.trans ⟨d2, r2⟩, rfl⟩⟩
  · rintro acc ρ ⟨j, ps, S', s, e, hj, rfl, hps, hpr, a', rfl⟩
    refine ⟨trivial, ?_⟩
    have fin : ∀ (ps : List Int) (S2 : OT), ps.length ≤ 12 → (∀ x ∈ ps, 0 ≤ x ∧ x < 12) → After S S2 → (dRet (dR (dTup (dCons (dOp ixD (dVar 1) (dV (dCallO F_L_next 0 (dCons (dV (dCB lenD (dCons (dVar 1) dNil))) dNil)))) (dCons (dVar 2) (dCons (dOp eqD (dV (dCallO F_L_next 0 (dCons (dC (.int 3)) dNil))) (dC (.int 2))) dNil))))))
        (rtO S Φ) [.arg S2, .val (.lst (cols.map D.int)), .val (.tup (ps.map D.int)), .un] := by
      intro ps S2 hps hpr a2
      have lp := List.length_pos_iff.mpr hne
      refine ⟨a2.1, ((cols.map D.int).length : Int), rfl, by rw [List.length_map]; omega, by rw [List.length_map]; omega, fun i S3 i0 i1 d3 r3 => ?_⟩
      rw [List.length_map] at i1
      refine ixL_map D.int i0 i1 fun col hcol => ?_
      refine ⟨d3, 3, rfl, by decide, by decide, fun m S4 m0 m1 d4 r4 => ⟨ok_int _ _, ok_int _ _, by simp, ?_⟩⟩
      rw [eqv_int]
      have a4 := (a2.trans ⟨d3, r3⟩).trans ⟨d4, r4⟩
      exact ⟨a4.2, k ⟨col, ps, decide (m = 2)⟩ S4 (hc col hcol) hcol hps hpr a4⟩
    refine ⟨a'.1, 2, rfl, by decide, by decide, fun i S2 i0 i1 d2 r2 => ⟨ok_int _ _, ok_int _ _, iteE (fun c => ?_) (fun c => ?_)⟩⟩
    · refine ⟨by decide, by decide, by simp, by decide, by decide, by simp, d2, 3, rfl, by decide, by decide, fun m S3 m0 m1 d3 r3 => ?_⟩
      have a3 := (a'.trans ⟨d2, r2⟩).trans ⟨d3, r3⟩
      obtain rfl | rfl | rfl : m = 0 ∨ m = 1 ∨ m = 2 := by omega
      · exact ⟨trivial, fin [0, 1, 2, 3, 4, 5, 6, 7, 8, 9] S3 (by decide) (by decide) a3⟩
      · exact ⟨trivial, fin [10, 11] S3 (by decide) (by decide) a3⟩
      · exact ⟨trivial, fin [0, 1, 2, 3, 4, 5, 6, 7, 8, 9, 10, 11] S3 (by decide) (by decide) a3⟩
    · exact fin ps S2 (by omega) hpr (a'.trans ⟨d2, r2⟩)
end DL
set_option Elab.async false
set_option linter.all false
set_option maxRecDepth 100000
set_option maxHeartbeats 2000000
namespace DL
open PySem PySem.Spec PyProof.Rows L2 RT
variable [Tabl]

mutual
theorem eqv_self : ∀ (d : D) (n : Nat), d.okN n = true → PyData.eqv d.py d.py = true
  | .non, _, _ => rfl
  | .bl b, _, _ => by simp [D.py, PyData.eqv]
  | .int i, _, _ => by simp [D.py, PyData.eqv]
  | .str s, _, _ => by simp [D.py, PyData.eqv]
  | .tup xs, n, h => by
    cases n with
    | zero => simp [D.okN] at h
    | succ n =>
      simp only [D.py, PyData.eqv]
      exact eqv_selfL xs n (by simpa [D.okN] using h)
  | .lst xs, n, h => by
    cases n with
    | zero => simp [D.okN] at h
    | succ n =>
      simp only [D.py, PyData.eqv]
      exact eqv_selfL xs n (by simpa [D.okN] using h)
  | .rd xs, n, h => by
    cases n with
    | zero => simp [D.okN] at h
    | succ n =>
      simp only [D.py, PyData.eqv]
      exact eqv_selfL xs n (by simpa [D.okN] using h)
  | .dic _, _, h => by simp [D.okN] at h
  | .ins _ _, _, h => by simp [D.okN] at h
  | .ty _, _, h => by simp [D.okN] at h
  | .cls _, _, h => by simp [D.okN] at h
theorem eqv_selfL : ∀ (xs : List D) (n : Nat), D.okL xs n = true → PyData.eqvAll (D.pyL xs) (D.pyL xs) = true
  | [], _, _ => rfl
  | x :: xs, n, h => by
    simp only [D.okL, Bool.and_eq_true] at h
    simp only [D.pyL, PyData.eqvAll, Bool.and_eq_true]
    exact ⟨eqv_self x n h.1, eqv_selfL xs n h.2⟩
end
theorem eqD_self {d : D} {Φ : D → Prop} (h : d.okN 60 = true) (k : Φ (.bl true)) : eqD d d Φ := ⟨h, h, by
  have : D.eqv d d = true := eqv_self d 60 h
  rw [this]; exact k⟩
theorem neD_self {d : D} {Φ : D → Prop} (h : d.okN 60 = true) (k : Φ (.bl false)) : neD d d Φ := ⟨h, h, by
  have : D.eqv d d = true := eqv_self d 60 h
  rw [this]; exact k⟩
theorem iteS {x : D} {A B : Prop} (h : x.okN 60 = true) (k : B) : if (!D.eqv x x) = true then A else B := by
  have : D.eqv x x = true := eqv_self x 60 h
  rw [this]; exact k
theorem iteT {x : D} {A B : Prop} (h : x.okN 60 = true) (k : A) : if D.eqv x x = true then A else B := by
  have : D.eqv x x = true := eqv_self x 60 h
  rw [this]; exact k
theorem ok_pass (p : Pass) (n : Nat) : (passD p).okN (n + 2) = true := by
  have := ok_tup D.int (n := n) (xs := p.places) fun i _ => ok_int i n
  rw [passD, D.okN, D.okL, ok_int, D.okL, this, D.okL, ok_bl, D.okL]
  rfl
theorem lk_col (c : Col) (h : c.length ≤ 1000000) (n : Nat) : (colD c).lk (n + 1) = true := lk_tup D.int h fun i _ => lk_int i n
theorem CardOk.lk {c : Card} (h : CardOk c) (n : Nat) : (cardD c).lk (n + 2) = true := lk_tup colD (by have := h.1; omega) fun x hx => lk_col x (by
  have : ∀ x ∈ every, x.length ≤ 2 := by decide
  have := this x (h.2 x hx)
  omega) n
theorem lk_deck {d : List Card} (h : d.length ≤ 1000000) (hd : ∀ c ∈ d, CardOk c) (n : Nat) : (deckD d).lk (n + 3) = true := lk_lst cardD h fun c hc => (hd c hc).lk n
/-- like of two things that are alike -/
theorem like_same {n : Nat} {x : D} {Φ : Sl → Prop} (h : x.lk n = true) (k : Φ (.val (.bl true))) : F_L_like (n + 1) [x, x] Φ := ⟨x, x, rfl, h, h, fun b hb => by rw [hb rfl]; exact k⟩
theorem dbOwn_of {i : Nat} {d : DA} {ρ ρ1 : List Sl} {Φ : List D → List Sl → Prop} {y : D} {xs : List D} (h : ownD (ρ[i]?) = some y) (hd : ∀ Ψ : List D → List Sl → Prop, Ψ xs ρ1 → d ρ Ψ) (h1 : ownD (ρ1[i]?) = some y) (k : Φ (y :: xs) ρ1) : dbOwn i d ρ Φ := by
  unfold dbOwn
  rw [h]
  refine hd _ ?_
  rw [h1]
  exact k
theorem cmpOwn_of {f : D → D → (D → Prop) → Prop} {i : Nat} {d : DE} {ρ ρ1 : List Sl} {Φ : D → List Sl → Prop} {x y : D} (h : ownD (ρ[i]?) = some x) (hd : ∀ Ψ : D → List Sl → Prop, Ψ y ρ1 → d ρ Ψ) (h1 : ownD (ρ1[i]?) = some x) (k : f x y fun z => Φ z ρ1) : dCmpOwn f i d ρ Φ := by
  unfold dCmpOwn
  rw [h]
  refine hd _ ?_
  rw [h1]
  exact k
theorem papp_root {ρ : List Sl} {i : Nat} {de : DE} {Φ : Sl → List Sl → Prop} {r : Addr} {xs : List OT} {x : D} (hs : ρ[i]? = some (.loc (.lst r xs))) (he : ∀ Ψ : D → List Sl → Prop, Ψ x ρ → de ρ Ψ) (hl : xs.length ≤ 1000000) (k : Φ (.val .non) (ρ.set i (.loc (.lst r (xs ++ [.val x]))))) : dPApp (dpVar i) de ρ Φ := by
  unfold dPApp dpVar
  rw [hs]
  refine ⟨trivial, he _ ?_⟩
  rw [hs]
  exact ⟨rfl, hl, k⟩
theorem forT_open {i j : Nat} {b : DS} {Δ : Ds} {ρ : List Sl} {p : Addr} {ts : List OT} (h : ρ[i]? = some (.loc (.lst p ts))) (k : dForTL j b Δ ts (ρ.set i .un)) : dForT i j b Δ ρ := by
  unfold dForT
  rw [h]
  exact k
end DL
set_option Elab.async false
set_option linter.all false
set_option maxRecDepth 100000
set_option maxHeartbeats 2000000
namespace DL
open PySem PySem.Spec PyProof.Rows L2 RT
variable [Tabl]

/-! ### sorting, stable, by any order: there is just one answer -/
section
variable {α : Type} {lt : α → α → Bool}
def insL (lt : α → α → Bool) (y : α) : List α → List α
  | [] => [y]
  | x :: l => if lt y x = true then y :: x :: l else x :: insL lt y l
def sortOf (lt : α → α → Bool) (d : List α) : List α := d.foldl (fun l y => insL lt y l) []
theorem insL_split (y : α) : ∀ l : List α, ∃ A B, l = A ++ B ∧ insL lt y l = A ++ y :: B ∧ (∀ x ∈ A, lt y x = false) ∧ (∀ b B', B = b :: B' → lt y b = true)
  | [] => ⟨[], [], rfl, rfl, fun x h => (nomatch h), fun b B' h => nomatch h⟩
  | x :: l => by
    unfold insL
    by_cases c : lt y x = true
    · rw [if_pos c]
      exact ⟨[], x :: l, rfl, rfl, fun x h => (nomatch h), fun b B' h => by cases h; exact c⟩
    · rw [if_neg c]
      obtain ⟨A, B, e1, e2, h1, h2⟩ := insL_split y l
      refine ⟨x :: A, B, by rw [e1]; rfl, by rw [e2]; rfl, fun z hz => ?_, h2⟩
      rcases List.mem_cons.mp hz with e | hz
      · rw [e]; simpa using c
      · exact h1 z hz
theorem insL_ok (O : SrtO.Swo lt) {y : α} {l d : List α} (h : SrtO.Srtd lt l) (s : SrtO.Stb lt l d) : SrtO.Srtd lt (insL lt y l) ∧ SrtO.Stb lt (insL lt y l) (d ++ [y]) := by
  obtain ⟨A, B, e1, e2, h1, h2⟩ := insL_split (lt := lt) y l
  rw [e2]
  rw [e1] at h s
  have h3 : ∀ x ∈ B, lt y x = true := by
    cases B with
    | nil => exact fun x h => nomatch h
    | cons b B => exact O.lt_all (SrtO.srtd_app.mp h).2.1 (h2 b B rfl)
  exact ⟨SrtO.ins_srtd O h h1 h3, SrtO.ins_stb O h3 s⟩
theorem sortOf_spec (O : SrtO.Swo lt) (d : List α) : SrtO.Srtd lt (sortOf lt d) ∧ SrtO.Stb lt (sortOf lt d) d := by
  have : ∀ (post l pre : List α), SrtO.Srtd lt l → SrtO.Stb lt l pre → SrtO.Srtd lt (post.foldl (fun l y => insL lt y l) l) ∧ SrtO.Stb lt (post.foldl (fun l y => insL lt y l) l) (pre ++ post) := by
    intro post
    induction post with
    | nil => exact fun l pre h s => ⟨h, by rw [List.append_nil]; exact s⟩
    | cons y post ih =>
      intro l pre h s
      obtain ⟨h', s'⟩ := insL_ok O (y := y) h s
      have := ih _ _ h' s'
      rw [List.append_assoc] at this
      exact this
  exact this d [] [] List.Pairwise.nil (SrtO.Stb.refl _)
theorem Stb.symm' {l m : List α} (h : SrtO.Stb lt l m) : SrtO.Stb lt m l := ⟨h.perm.symm, fun x => (h.cls x).symm⟩
theorem sort_uniq (O : SrtO.Swo lt) {l d : List α} (h : SrtO.Srtd lt l) (s : SrtO.Stb lt l d) : l = sortOf lt d :=
  have q := sortOf_spec O d
  SrtO.stb_uniq O h q.1 (s.trans (Stb.symm' q.2))
theorem sortOf_sorted (O : SrtO.Swo lt) {l : List α} (h : SrtO.Srtd lt l) : sortOf lt l = l := (sort_uniq O h (SrtO.Stb.refl l)).symm
theorem sortOf_perm (O : SrtO.Swo lt) (d : List α) : (sortOf lt d).Perm d := (sortOf_spec O d).2.perm
/-- what holds in each class holds of the like ones -/
theorem cls_pair {R : α → α → Prop} (O : SrtO.Swo lt) : ∀ {r : List α}, (∀ x, (r.filter (SrtO.eqv lt x)).Pairwise R) → r.Pairwise fun x y => SrtO.eqv lt x y = true → R x y
  | [], _ => List.Pairwise.nil
  | x :: r, h => by
    refine List.pairwise_cons.mpr ⟨fun y hy e => ?_, cls_pair O fun z => ?_⟩
    · have hx := h x
      rw [List.filter_cons_of_pos (SrtO.eqv_iff.mpr ⟨O.refl x, O.refl x⟩)] at hx
      exact (List.pairwise_cons.mp hx).1 y (List.mem_filter.mpr ⟨hy, e⟩)
    · exact (h z).sublist ((List.sublist_cons_self x r).filter _)
end

/-! ### the office's order -/
def figOf : Col → Int
  | x :: _ => if x < 10 then x else -1
  | [] => -1
def overOf (c : Col) : Int := match c.getLast? with
  | some x => if x > 9 then x else -1
  | none => -1
def keyOf (c : Col) : Int × Int := (overOf c, figOf c)
abbrev Order := List (Int × Bool)
def keyAt (p : Int × Bool) (x : Card) : Int × Int := keyOf (colAt x p.1)
/-- x before y by one column -/
def ltC (p : Int × Bool) (x y : Card) : Bool := if p.2 = true then SrtO.lexB (keyAt p y) (keyAt p x) else SrtO.lexB (keyAt p x) (keyAt p y)
def ltO : Order → Card → Card → Bool
  | [], _, _ => false
  | p :: o, x, y => if keyAt p x = keyAt p y then ltO o x y else ltC p x y
theorem lex_swo : SrtO.Swo SrtO.lexB := by
  refine ⟨fun x y h => ?_, fun x y z h1 h2 => ?_⟩
  · have := SrtO.lexB_iff.mp h
    refine SrtO.lexB_no.mpr ?_
    omega
  · have a := SrtO.lexB_no.mp h1
    have b := SrtO.lexB_no.mp h2
    refine SrtO.lexB_no.mpr ?_
    omega
theorem lex_tri {a b : Int × Int} (h1 : SrtO.lexB a b = false) (h2 : SrtO.lexB b a = false) : a = b := by
  have a1 := SrtO.lexB_no.mp h1
  have a2 := SrtO.lexB_no.mp h2
  exact Prod.ext (by omega) (by omega)
theorem ltC_swo (p : Int × Bool) : SrtO.Swo (ltC p) := by
  unfold ltC
  by_cases h : p.2 = true
  · simp only [if_pos h]
    exact ⟨fun x y q => lex_swo.asym _ _ q, fun x y z q1 q2 => lex_swo.tr _ _ _ q2 q1⟩
  · simp only [if_neg h]
    exact ⟨fun x y q => lex_swo.asym _ _ q, fun x y z q1 q2 => lex_swo.tr _ _ _ q1 q2⟩
theorem ltC_key {p : Int × Bool} {x y : Card} (h1 : ltC p x y = false) (h2 : ltC p y x = false) : keyAt p x = keyAt p y := by
  unfold ltC at h1 h2
  split at h1
  · rename_i h
    rw [if_pos h] at h2
    exact lex_tri h2 h1
  · rename_i h
    rw [if_neg h] at h2
    exact lex_tri h1 h2
theorem ltC_same {p : Int × Bool} {x y : Card} (h : keyAt p x = keyAt p y) : ltC p x y = false := by
  unfold ltC
  rw [h]
  split <;> exact lex_swo.refl _
theorem eqvC {p : Int × Bool} {x y : Card} : SrtO.eqv (ltC p) x y = true ↔ keyAt p x = keyAt p y :=
  ⟨fun h => ltC_key (SrtO.eqv_iff.mp h).1 (SrtO.eqv_iff.mp h).2, fun h => SrtO.eqv_iff.mpr ⟨ltC_same h, ltC_same h.symm⟩⟩
theorem ltO_swo : ∀ o : Order, SrtO.Swo (ltO o)
  | [] => ⟨fun _ _ h => (nomatch h), fun _ _ _ _ _ => rfl⟩
  | p :: o => by
    have Oo := ltO_swo o
    have Oc := ltC_swo p
    refine ⟨fun x y h => ?_, fun x y z h1 h2 => ?_⟩
    · unfold ltO at h ⊢
      by_cases c : keyAt p x = keyAt p y
      · rw [if_pos c] at h
        rw [if_pos c.symm]
        exact Oo.asym _ _ h
      · rw [if_neg c] at h
        rw [if_neg fun e => c e.symm]
        exact Oc.asym _ _ h
    · -- h1 : ltO y x = false, h2 : ltO z y = false
      unfold ltO at h1 h2 ⊢
      by_cases c1 : keyAt p y = keyAt p x
      · by_cases c2 : keyAt p z = keyAt p y
        · rw [if_pos c1] at h1
          rw [if_pos c2] at h2
          rw [if_pos (c2.trans c1)]
          exact Oo.tr _ _ _ h1 h2
        · rw [if_neg c2] at h2
          rw [if_neg fun e => c2 (e.trans c1.symm)]
          exact Oc.tr _ _ _ (ltC_same c1) h2
      · rw [if_neg c1] at h1
        by_cases c2 : keyAt p z = keyAt p y
        · rw [if_neg fun e => c1 (c2.symm.trans e)]
          exact Oc.tr _ _ _ h1 (ltC_same c2)
        · rw [if_neg c2] at h2
          by_cases c3 : keyAt p z = keyAt p x
          · -- then y lies strictly on both sides
            exfalso
            have h3 : ltC p z x = false := ltC_same c3
            have h4 : ltC p x z = false := ltC_same c3.symm
            have h5 : ltC p x y = false := Oc.tr _ _ _ h2 h4
            exact c1 (ltC_key h1 h5)
          · rw [if_neg c3]
            exact Oc.tr _ _ _ h1 h2
theorem eqvO_cons {p : Int × Bool} {o : Order} {x y : Card} : SrtO.eqv (ltO (p :: o)) x y = (SrtO.eqv (ltO o) x y && SrtO.eqv (ltC p) x y) := by
  rw [Bool.eq_iff_iff, Bool.and_eq_true, eqvC]
  rw [SrtO.eqv_iff, SrtO.eqv_iff]
  show (if keyAt p x = keyAt p y then ltO o x y else ltC p x y) = false ∧ (if keyAt p y = keyAt p x then ltO o y x else ltC p y x) = false ↔ _
  by_cases c : keyAt p x = keyAt p y
  · rw [if_pos c, if_pos c.symm]
    exact ⟨fun h => ⟨h, c⟩, fun h => h.1⟩
  · rw [if_neg c, if_neg fun e => c e.symm]
    exact ⟨fun h => absurd (ltC_key h.1 h.2) c, fun h => absurd h.2 c⟩
/-- a stable sort by one column of what is sorted by the others -/
theorem radix {p : Int × Bool} {o : Order} {r d' d : List Card} (h1 : SrtO.Srtd (ltC p) r) (s1 : SrtO.Stb (ltC p) r d') (h2 : SrtO.Srtd (ltO o) d') (s2 : SrtO.Stb (ltO o) d' d) : SrtO.Srtd (ltO (p :: o)) r ∧ SrtO.Stb (ltO (p :: o)) r d := by
  refine ⟨?_, s1.perm.trans s2.perm, fun x => ?_⟩
  · have cls := cls_pair (R := fun x y => ltO o y x = false) (ltC_swo p) (r := r) fun x => by
      rw [s1.cls x]
      exact h2.sublist List.filter_sublist
    refine (h1.and cls).imp fun {x y} ⟨a, b⟩ => ?_
    show ltO (p :: o) y x = false
    unfold ltO
    by_cases c : keyAt p y = keyAt p x
    · rw [if_pos c]
      exact b (eqvC.mpr c.symm)
    · rw [if_neg c]
      exact a
  · have e : SrtO.eqv (ltO (p :: o)) x = fun y => SrtO.eqv (ltO o) x y && SrtO.eqv (ltC p) x y := funext fun y => eqvO_cons
    have e2 : (fun y => SrtO.eqv (ltO o) x y && SrtO.eqv (ltC p) x y) = fun y => SrtO.eqv (ltC p) x y && SrtO.eqv (ltO o) x y := funext fun y => Bool.and_comm _ _
    rw [e]
    calc r.filter (fun y => SrtO.eqv (ltO o) x y && SrtO.eqv (ltC p) x y) = (r.filter (SrtO.eqv (ltC p) x)).filter (SrtO.eqv (ltO o) x) := by rw [List.filter_filter]
      _ = (d'.filter (SrtO.eqv (ltC p) x)).filter (SrtO.eqv (ltO o) x) := by rw [s1.cls x]
      _ = (d'.filter (SrtO.eqv (ltO o) x)).filter (SrtO.eqv (ltC p) x) := by rw [List.filter_filter, List.filter_filter, e2]
      _ = (d.filter (SrtO.eqv (ltO o) x)).filter (SrtO.eqv (ltC p) x) := by rw [s2.cls x]
      _ = d.filter (fun y => SrtO.eqv (ltO o) x y && SrtO.eqv (ltC p) x y) := by rw [List.filter_filter, e2]
/-- groups by the key of a column, in the keys' order: a stable sort -/
theorem groups {p : Int × Bool} {d : List Card} {qs : List (Int × Int)} (hm : ∀ q, q ∈ qs ↔ q ∈ d.map (keyAt p)) (ho : qs.Pairwise fun a b => SrtO.lexB a b = true) :
    SrtO.Srtd (ltC p) ((if p.2 = true then qs.reverse else qs).flatMap fun q => d.filter fun c => decide (keyAt p c = q)) ∧ SrtO.Stb (ltC p) ((if p.2 = true then qs.reverse else qs).flatMap fun q => d.filter fun c => decide (keyAt p c = q)) d := by
  generalize hks : (if p.2 = true then qs.reverse else qs) = ks
  have ltk : ks.Pairwise fun a b => ∀ x y : Card, keyAt p x = a → keyAt p y = b → ltC p y x = false ∧ a ≠ b := by
    rw [← hks]
    unfold ltC
    by_cases h : p.2 = true
    · simp only [if_pos h]
      rw [List.pairwise_reverse]
      refine ho.imp fun {a b} q x y ex ey => ?_
      rw [ex, ey]
      refine ⟨lex_swo.asym _ _ q, fun e => ?_⟩
      rw [e, lex_swo.refl] at q
      cases q
    · simp only [if_neg h]
      refine ho.imp fun {a b} q x y ex ey => ?_
      rw [ex, ey]
      refine ⟨lex_swo.asym _ _ q, fun e => ?_⟩
      rw [e, lex_swo.refl] at q
      cases q
  have nd : ks.Nodup := by
    rw [List.nodup_iff_pairwise_ne, ← hks]
    have ne : qs.Pairwise (· ≠ ·) := ho.imp fun {a b} q e => by
      rw [e, lex_swo.refl] at q
      cases q
    split
    · rw [List.pairwise_reverse]
      exact ne.imp fun h => Ne.symm h
    · exact ne
  have hmk : ∀ c ∈ d, keyAt p c ∈ ks := fun c hc => by
    have : keyAt p c ∈ qs := (hm _).mpr (List.mem_map_of_mem hc)
    rw [← hks]
    split
    · exact List.mem_reverse.mpr this
    · exact this
  have srt : ∀ ks : List (Int × Int), ks.Pairwise (fun a b => ∀ x y : Card, keyAt p x = a → keyAt p y = b → ltC p y x = false ∧ a ≠ b) → SrtO.Srtd (ltC p) (ks.flatMap fun q => d.filter fun c => decide (keyAt p c = q)) := by
    intro ks
    induction ks with
    | nil => exact fun _ => List.Pairwise.nil
    | cons k ks ih =>
      intro h
      obtain ⟨h1, h2⟩ := List.pairwise_cons.mp h
      rw [List.flatMap_cons]
      refine SrtO.srtd_app.mpr ⟨SrtO.srtd_eq fun x hx y hy => ?_, ih h2, fun x hx y hy => ?_⟩
      · have ex := of_decide_eq_true (List.mem_filter.mp hx).2
        have ey := of_decide_eq_true (List.mem_filter.mp hy).2
        exact ltC_same (ex.trans ey.symm)
      · have ex := of_decide_eq_true (List.mem_filter.mp hx).2
        obtain ⟨k', hk', hy⟩ := List.mem_flatMap.mp hy
        have ey := of_decide_eq_true (List.mem_filter.mp hy).2
        exact (h1 k' hk' x y ex ey).1
  have cls : ∀ (x : Card) (ks : List (Int × Int)), ks.Nodup → (ks.flatMap fun q => d.filter fun c => decide (keyAt p c = q)).filter (fun y => decide (keyAt p y = keyAt p x)) = if keyAt p x ∈ ks then d.filter (fun y => decide (keyAt p y = keyAt p x)) else [] := by
    intro x ks
    induction ks with
    | nil => exact fun _ => rfl
    | cons k ks ih =>
      intro nd
      obtain ⟨n1, n2⟩ := List.nodup_cons.mp nd
      rw [List.flatMap_cons, List.filter_append, ih n2]
      by_cases c : k = keyAt p x
      · have : ¬ keyAt p x ∈ ks := by rw [← c]; exact n1
        rw [if_neg this, List.append_nil, if_pos (by rw [c]; exact List.mem_cons_self), c, List.filter_filter]
        congr 1
        funext y
        simp
      · have e : (d.filter fun c => decide (keyAt p c = k)).filter (fun y => decide (keyAt p y = keyAt p x)) = [] := by
          rw [List.filter_filter, List.filter_eq_nil_iff]
          intro y _
          simp only [Bool.and_eq_true, decide_eq_true_eq, not_and]
          exact fun h1 h2 => c (h2.symm.trans h1)
        rw [e, List.nil_append]
        have : (keyAt p x ∈ k :: ks) ↔ keyAt p x ∈ ks := by
          rw [List.mem_cons]
          exact ⟨fun h => h.resolve_left fun e => c e.symm, fun h => .inr h⟩
        simp only [this]
  have eC : ∀ x, SrtO.eqv (ltC p) x = fun y => decide (keyAt p y = keyAt p x) := fun x => funext fun y => by
    rw [Bool.eq_iff_iff, eqvC, decide_eq_true_eq]
    exact ⟨fun h => h.symm, fun h => h.symm⟩
  refine ⟨srt ks ltk, ?_, fun x => ?_⟩
  · -- each card stands in the group of its key
    have : ∀ ks : List (Int × Int), ks.Nodup → (ks.flatMap fun q => d.filter fun c => decide (keyAt p c = q)).Perm (d.filter fun c => decide (keyAt p c ∈ ks)) := by
      intro ks
      induction ks with
      | nil =>
        intro _
        have : (d.filter fun c => decide (keyAt p c ∈ ([] : List (Int × Int)))) = [] := List.filter_eq_nil_iff.mpr fun c _ => by simp
        rw [this]
        exact List.Perm.refl _
      | cons k ks ih =>
        intro nd
        obtain ⟨n1, n2⟩ := List.nodup_cons.mp nd
        rw [List.flatMap_cons]
        refine (List.Perm.append_left _ (ih n2)).trans ?_
        have h := List.filter_append_perm (fun c => decide (keyAt p c = k)) (d.filter fun c => decide (keyAt p c ∈ k :: ks))
        rw [List.filter_filter, List.filter_filter] at h
        refine List.Perm.trans (List.Perm.of_eq ?_) h
        congr 1
        · congr 1
          funext c
          rw [Bool.eq_iff_iff]
          simp
          exact fun h => .inl h
        · congr 1
          funext c
          rw [Bool.eq_iff_iff]
          simp
          constructor
          · exact fun h => ⟨fun e => n1 (by rw [← e]; exact h), .inr h⟩
          · rintro ⟨h1, h2⟩
            exact h2.resolve_left h1
    refine (this ks nd).trans (List.Perm.of_eq (List.filter_eq_self.mpr fun c hc => ?_))
    simpa using hmk c hc
  · rw [eC, cls x ks nd]
    by_cases c : keyAt p x ∈ ks
    · rw [if_pos c]
    · rw [if_neg c]
      symm
      rw [List.filter_eq_nil_iff]
      intro y hy h
      exact c (by rw [← of_decide_eq_true h]; exact hmk y hy)
end DL
set_option Elab.async false
set_option linter.all false
set_option maxRecDepth 100000
set_option maxHeartbeats 2000000
namespace DL
open PySem PySem.Spec PyProof.Rows L2 RT
variable [Tabl]

theorem while_open {c : DT} {b : DS} {Δ : Ds} {ρ : List Sl} (W : Nat → List Sl → Prop) (m : Nat) (h : W m ρ)
    (step : ∀ m ρ, W m ρ → ∀ K : List Sl → Prop, (∀ m' ρ', m' < m → W m' ρ' → K ρ') → c ρ fun k ρ1 => if k = true then b { Δ with nx := K, ct := K, bk := Δ.nx } ρ1 else Δ.nx ρ1) : dWhile c b Δ ρ := by
  unfold dWhile
  exact ⟨W, ⟨m, h⟩, fun m ρ w => step m ρ w _ fun m' ρ' lt w' => ⟨m', lt, w'⟩⟩
theorem ixL_zero {d : D} {ds : List D} {Ψ : D → Prop} (k : Ψ d) : ixL (d :: ds) (.int 0) Ψ := by
  unfold ixL
  have : atI (d :: ds) 0 = some d := atI_nat (j := 0) rfl
  dsimp only
  rw [this]
  exact k
theorem ixL_last {d : D} {ds : List D} {Ψ : D → Prop} (k : Ψ d) : ixL (ds ++ [d]) (.int (-1)) Ψ := by
  unfold ixL
  dsimp only
  rw [atI_last]
  exact k
theorem ixL_nat {ds : List D} {j : Nat} {d : D} {Ψ : D → Prop} (h : ds[j]? = some d) (k : Ψ d) : ixL ds (.int (j : Nat)) Ψ := by
  unfold ixL
  dsimp only
  rw [atI_nat h]
  exact k
/-! ### keys -/
def F_figure_of : DF := fun xs Φ => ∃ c : Col, xs = [colD c] ∧ Φ (.val (.int (figOf c)))
/- slots of figure_of: 0 column -/
def b_figure_of : DS := (dSeq (dIfS (dAnd (dTest (dOp neD (dVar 0) (dTup dNil))) (dTest (dOp ltD (dOp ixD (dVar 0) (dC (.int 0))) (dC (.int 10))))) (dRet (dR (dOp ixD (dVar 0) (dC (.int 0))))) dNext)
  (dRet (dR (dUn negD (dC (.int 1))))))
theorem rd_figure_of : ∀ xs Φ, F_figure_of xs Φ → b_figure_of (rtV Φ) (slots xs 1) := by
  rintro xs Φ ⟨c, rfl, k⟩
  cases c with
  | nil => exact ⟨by simp, ok_col _ _, rfl, k⟩
  | cons x r =>
    refine ⟨by simp, ok_col _ _, rfl, ?_⟩
    refine ixL_zero ?_
    have e : figOf (x :: r) = if x < 10 then x else -1 := rfl
    rw [e] at k
    refine iteD (fun h => ?_) (fun h => ?_)
    · rw [if_pos h] at k
      exact ixL_zero k
    · rw [if_neg h] at k
      exact k
def F_over_of : DF := fun xs Φ => ∃ c : Col, xs = [colD c] ∧ Φ (.val (.int (overOf c)))
/- slots of over_of: 0 column -/
def b_over_of : DS := (dSeq (dIfS (dAnd (dTest (dOp neD (dVar 0) (dTup dNil))) (dTest (dOp gtD (dOp ixD (dVar 0) (dUn negD (dC (.int 1)))) (dC (.int 9))))) (dRet (dR (dOp ixD (dVar 0) (dUn negD (dC (.int 1)))))) dNext)
  (dRet (dR (dUn negD (dC (.int 1))))))
theorem snoc_or_nil {α : Type} (l : List α) : l = [] ∨ ∃ r x, l = r ++ [x] := by
  cases l with
  | nil => exact .inl rfl
  | cons a l => exact .inr ⟨(a :: l).dropLast, (a :: l).getLast (by simp), (List.dropLast_concat_getLast (by simp)).symm⟩
theorem rd_over_of : ∀ xs Φ, F_over_of xs Φ → b_over_of (rtV Φ) (slots xs 1) := by
  rintro xs Φ ⟨c, rfl, k⟩
  rcases snoc_or_nil c with rfl | ⟨r, x, rfl⟩
  · exact ⟨by simp, ok_col _ _, rfl, k⟩
  · refine ⟨by simp, ok_col _ _, rfl, ?_⟩
    have e1 : D.eqv (colD (r ++ [x])) (.tup []) = false := by
      have := eqv_col (r ++ [x]) []
      rw [decide_eq_false (by simp)] at this
      exact this
    have e2 : (r ++ [x]).map D.int = r.map D.int ++ [.int x] := by simp
    have e3 : (r ++ [x]).getLast? = some x := by simp
    have kk : x > 9 ∧ Φ (.val (.int x)) ∨ ¬ x > 9 ∧ Φ (.val (.int (-1))) := by
      unfold overOf at k
      rw [e3] at k
      dsimp only at k
      by_cases h : x > 9
      · rw [if_pos h] at k
        exact .inl ⟨h, k⟩
      · rw [if_neg h] at k
        exact .inr ⟨h, k⟩
    have ix : ∀ Ψ : D → Prop, Ψ (.int x) → ixL ((r ++ [x]).map D.int) (.int (-1)) Ψ := fun Ψ h => by
      rw [e2]
      exact ixL_last h
    show if (!D.eqv (colD (r ++ [x])) (.tup [])) = true then _ else _
    rw [e1]
    refine ix _ ?_
    refine iteD (fun h => ?_) (fun h => ?_)
    · rcases kk with ⟨_, k⟩ | ⟨n, _⟩
      · exact ix _ k
      · exact absurd h n
    · rcases kk with ⟨n, _⟩ | ⟨_, k⟩
      · exact absurd n h
      · exact k
def F_key_of : DF := fun xs Φ => ∃ c : Col, xs = [colD c] ∧ Φ (.val (pairD (keyOf c)))
/- slots of key_of: 0 column -/
def b_key_of : DS := (dRet (dR (dTup (dCons (dV (dCall F_over_of (dCons (dVar 0) dNil))) (dCons (dV (dCall F_figure_of (dCons (dVar 0) dNil))) dNil)))))
theorem rd_key_of : ∀ xs Φ, F_key_of xs Φ → b_key_of (rtV Φ) (slots xs 1) := by
  rintro xs Φ ⟨c, rfl, k⟩
  exact ⟨c, rfl, c, rfl, by simp, k⟩
/-! ### orders -/
def ordD (p : Int × Bool) : D := .tup [.int p.1, .bl p.2]
def orderD (o : Order) : D := .lst (o.map ordD)
structure OrderOk (o : Order) : Prop where
  few : o.length ≤ 6
  nd : (o.map (·.1)).Nodup
  rng : ∀ p ∈ o, 0 ≤ p.1 ∧ p.1 < 12
def F_need_order : DF := fun xs Φ => ∃ o : Order, xs = [orderD o] ∧ OrderOk o ∧ Φ (.val .non)
/- slots of need_order: 0 order, 1 at, 2 row -/
def b_need_order : DS := (dSeq (dIfS (dTest (dOp gtD (dV (dCB lenD (dCons (dVar 0) dNil))) (dC (.int 6)))) (fun _ _ => False) dNext)
  (dFor (diRng1 (dV (dCB lenD (dCons (dVar 0) dNil)))) (dgName 1) (dIfS (dOr (dNot (dTest (dChain leD ltD (dC (.int 0)) (dOp ixD (dOp ixD (dVar 0) (dVar 1)) (dC (.int 0))) (dC (.int 12))))) (dTest (dOp memV (dOp ixD (dOp ixD (dVar 0) (dVar 1)) (dC (.int 0))) (dV (dLc (diAny (dV (dSl (dVar 0) dNoPart (dPart (dVar 1))))) (dgName 2) dYes (dOp ixD (dVar 2) (dC (.int 0))) [2]))))) (fun _ _ => False) dNext)))
theorem cutD_take {α : Type} (xs : List α) (j : Nat) : cutD xs none (some (j : Int)) = xs.take j := by
  unfold cutD
  have h1 : HT.sIx xs.length 0 none = 0 := rfl
  rw [h1, HT.sIx_nat, List.drop_zero, Nat.sub_zero]
  rcases Nat.le_total j xs.length with h | h
  · rw [Nat.min_eq_left h]
  · rw [Nat.min_eq_right h, List.take_of_length_le (Nat.le_refl _), List.take_of_length_le h]
theorem cutD_drop {α : Type} (xs : List α) (j : Nat) : cutD xs (some (j : Int)) none = xs.drop j := by
  unfold cutD
  have h1 : HT.sIx xs.length xs.length none = xs.length := rfl
  rw [h1, HT.sIx_nat]
  rcases Nat.le_total j xs.length with h | h
  · rw [Nat.min_eq_left h, List.take_of_length_le (by rw [List.length_drop]; omega)]
  · rw [Nat.min_eq_right h, List.drop_eq_nil_of_le (Nat.le_refl _), List.drop_eq_nil_of_le h, List.take_nil]
theorem rd_need_order : ∀ xs Φ, F_need_order xs Φ → b_need_order (rtV Φ) (slots xs 3) := by
  rintro xs Φ ⟨o, rfl, ok, k⟩
  have few := ok.few
  refine iteD (fun h => ?_) (fun _ => ?_)
  · rw [List.length_map] at h
    omega
  refine for_open ⟨(by unfold inR; rw [List.length_map]; omega), ?_⟩
  refine forL_inv (fun rest ρ => ∃ (j : Nat) (s : Sl), rest = rng (o.length - j) j 1 ∧ j ≤ o.length ∧ ρ = [.val (orderD o), s, .un] ∧ free [.val (orderD o), s, .un] 1) ?_ ?_ ⟨0, .un, by rw [List.length_map]; rfl, Nat.zero_le _, rfl, trivial⟩
  · rintro d rest ρ ⟨j, s, e, hj, rfl, fr⟩ K hK
    have hlt : j < o.length := by
      rcases Nat.lt_or_ge j o.length with h | h
      · exact h
      · rw [show o.length - j = 0 by omega] at e
        cases e
    rw [show o.length - j = (o.length - (j + 1)) + 1 by omega] at e
    cases e
    have hat : (o.map ordD)[j]? = some (ordD o[j]) := by rw [List.getElem?_map, List.getElem?_eq_getElem hlt]; rfl
    have rg := ok.rng o[j] (List.getElem_mem hlt)
    refine ⟨fr, ?_⟩
    refine ixL_nat hat ?_
    refine iteD (fun _ => ?_) (fun h => absurd rg.1 h)
    show if (!decide ((o[j]).1 < 12)) = true then _ else _
    rw [decide_eq_true rg.2]
    refine ixL_nat hat ?_
    refine lc_map (ρ1 := [.val (orderD o), .val (.int (j : Nat)), .un]) (o.take j) ordD (fun p => .int p.1) (fun Ψ h => ?_) (by rw [List.length_take]; omega) (.inl rfl) (fun p _ Ψ h => h) ?_
    · have e : Ψ (cutD (o.map ordD) none (some (j : Int))) [.val (orderD o), .val (.int (j : Nat)), .un] := by
        rw [cutD_take, ← List.map_take]
        exact h
      exact e
    · have em : (o.take j).map (fun p => D.int p.1) = ((o.take j).map (·.1)).map D.int := by rw [List.map_map]; rfl
      refine ⟨ok_int _ _, ?_, ?_⟩
      · rw [em]
        exact okL_map D.int fun _ _ => ok_int _ _
      · rw [em, any_map D.int eqv_int]
        have nin : ¬ (o[j]).1 ∈ (o.take j).map (·.1) := by
          intro h
          have nd := ok.nd
          have e2 : o.map (·.1) = (o.take j).map (·.1) ++ (o[j]).1 :: (o.drop (j + 1)).map (·.1) := by
            rw [← List.map_cons, ← List.map_append, ← List.drop_eq_getElem_cons hlt, List.take_append_drop]
          rw [e2] at nd
          exact (List.nodup_append.mp nd).2.2 _ h _ List.mem_cons_self rfl
        rw [decide_eq_false nin]
        exact hK _ ⟨j + 1, .val (.int (j : Nat)), by push_cast; rfl, hlt, rfl, trivial⟩
  · rintro ρ ⟨j, s, e, hj, rfl, fr⟩
    exact k
/-! ### which card comes first -/
theorem eqv_pair (a b : Int × Int) : D.eqv (pairD a) (pairD b) = decide (a = b) := by
  have := eqv_col [a.1, a.2] [b.1, b.2]
  refine this.trans ?_
  by_cases h : a = b
  · rw [h]; simp
  · rw [decide_eq_false h, decide_eq_false fun e => h (Prod.ext (by simp at e; exact e.1) (by simp at e; exact e.2))]
theorem ok_pair (a : Int × Int) (n : Nat) : (pairD a).okN (n + 1) = true := ok_col [a.1, a.2] n
def F_is_ahead : DF := fun xs Φ => ∃ (x y : Card) (o : Order), xs = [cardD x, cardD y, orderD o] ∧ (∀ p ∈ o, 0 ≤ p.1) ∧ Φ (.val (.bl (ltO o x y)))
/- slots of is_ahead: 0 one, 1 other, 2 order, 3 column, 4 falling, 5 mine, 6 theirs -/
def b_is_ahead : DS := (dSeq (dFor (diAny (dVar 2)) (dgTup 2 (dgCons (dgName 3) (dgCons (dgName 4) dgNil))) (dSeq (dSet 5 (dR (dV (dCall F_key_of (dCons (dV (dCall F_column_of (dCons (dVar 0) (dCons (dVar 3) dNil)))) dNil)))))
  (dSeq (dSet 6 (dR (dV (dCall F_key_of (dCons (dV (dCall F_column_of (dCons (dVar 1) (dCons (dVar 3) dNil)))) dNil)))))
  (dIfS (dTest (dOp neD (dVar 5) (dVar 6))) (dRet (dR (dOp eqD (dOp gtD (dVar 5) (dVar 6)) (dVar 4)))) dNext))))
  (dRet (dR (dC (.bl false)))))
def fr4 (x y : Card) (o : Order) (a b c d : Sl) : List Sl := [.val (cardD x), .val (cardD y), .val (orderD o), a, b, c, d]
theorem rd_is_ahead : ∀ xs Φ, F_is_ahead xs Φ → b_is_ahead (rtV Φ) (slots xs 7) := by
  rintro xs Φ ⟨x, y, o, rfl, hp, k⟩
  refine for_open ?_
  show dForL _ _ _ (o.map ordD) _
  refine forL_inv (fun rest ρ => ∃ (post : Order) (a b c d : Sl), rest = post.map ordD ∧ (∀ p ∈ post, 0 ≤ p.1) ∧ Φ (.val (.bl (ltO post x y))) ∧ ρ = [.val (cardD x), .val (cardD y), .val (orderD o), a, b, c, d] ∧ (a = .un ∨ ∃ z, a = .val z) ∧ (b = .un ∨ ∃ z, b = .val z) ∧ (c = .un ∨ ∃ z, c = .val z) ∧ (d = .un ∨ ∃ z, d = .val z)) ?_ ?_
    ⟨o, .un, .un, .un, .un, rfl, hp, k, rfl, .inl rfl, .inl rfl, .inl rfl, .inl rfl⟩
  · rintro d rest ρ ⟨post, s1, s2, s3, s4, e, hp, k, rfl, f1, f2, f3, f4⟩ K hK
    cases post with
    | nil => cases e
    | cons p post =>
      cases e
      have h0 := hp p List.mem_cons_self
      refine ⟨rfl, ?_, ?_, x, p.1, rfl, h0, _, rfl, ?_, y, p.1, rfl, h0, _, rfl, ?_, ?_⟩
      · rcases f1 with rfl | ⟨_, rfl⟩ <;> trivial
      · rcases f2 with rfl | ⟨_, rfl⟩ <;> trivial
      · rcases f3 with rfl | ⟨_, rfl⟩ <;> trivial
      · rcases f4 with rfl | ⟨_, rfl⟩ <;> trivial
      · refine ⟨ok_pair _ _, ok_pair _ _, ?_⟩
        rw [eqv_pair]
        unfold ltO keyAt at k
        by_cases c : keyOf (colAt x p.1) = keyOf (colAt y p.1)
        · rw [if_pos c] at k
          rw [decide_eq_true c]
          exact hK _ ⟨post, .val (.int p.1), .val (.bl p.2), .val (pairD (keyOf (colAt x p.1))), .val (pairD (keyOf (colAt y p.1))), rfl, fun q hq => hp q (List.mem_cons_of_mem _ hq), k, rfl, .inr ⟨_, rfl⟩, .inr ⟨_, rfl⟩, .inr ⟨_, rfl⟩, .inr ⟨_, rfl⟩⟩
        · rw [if_neg c] at k
          rw [decide_eq_false c]
          have main : ltC p x y = (decide ((keyOf (colAt y p.1)).1 < (keyOf (colAt x p.1)).1 ∨ ((keyOf (colAt x p.1)).1 = (keyOf (colAt y p.1)).1 ∧ (keyOf (colAt y p.1)).2 < (keyOf (colAt x p.1)).2)) == p.2) := by
            unfold ltC keyAt
            generalize keyOf (colAt x p.1) = a at c ⊢
            generalize keyOf (colAt y p.1) = b at c ⊢
            have c' : ¬ (a.1 = b.1 ∧ a.2 = b.2) := fun h => c (Prod.ext h.1 h.2)
            cases p.2 with
            | true =>
              rw [if_pos rfl, Bool.eq_iff_iff, SrtO.lexB_iff]
              simp
              omega
            | false =>
              rw [if_neg (by decide), Bool.eq_iff_iff, SrtO.lexB_iff]
              simp
              omega
          rw [main] at k
          refine ⟨ok_bl _ _, ok_bl _ _, ?_⟩
          exact k
  · rintro ρ ⟨post, s1, s2, s3, s4, e, hp, k, rfl, f1, f2, f3, f4⟩
    cases post with
    | nil => exact k
    | cons _ _ => cases e
def F_is_like : DF := fun xs Φ => ∃ (x y : Card) (o : Order), xs = [cardD x, cardD y, orderD o] ∧ (∀ p ∈ o, 0 ≤ p.1) ∧ Φ (.val (.bl (SrtO.eqv (ltO o) x y)))
/- slots of is_like: 0 one, 1 other, 2 order -/
def b_is_like : DS := (dRet (dR (dAndV (dNotV (dV (dCall F_is_ahead (dCons (dVar 0) (dCons (dVar 1) (dCons (dVar 2) dNil)))))) (dNotV (dV (dCall F_is_ahead (dCons (dVar 1) (dCons (dVar 0) (dCons (dVar 2) dNil)))))))))
theorem rd_is_like : ∀ xs Φ, F_is_like xs Φ → b_is_like (rtV Φ) (slots xs 3) := by
  rintro xs Φ ⟨x, y, o, rfl, hp, k⟩
  refine ⟨x, y, o, rfl, hp, ?_⟩
  unfold SrtO.eqv at k
  show if (!ltO o x y) = true then _ else _
  cases h : ltO o x y with
  | true =>
    rw [h] at k
    exact k
  | false =>
    rw [h] at k
    exact ⟨y, x, o, rfl, hp, k⟩
end DL
set_option Elab.async false
set_option linter.all false
set_option maxRecDepth 100000
set_option maxHeartbeats 2000000
namespace DL
open PySem PySem.Spec PyProof.Rows L2 RT
variable [Tabl]

/-! ### plainly -/
def sortO (o : Order) (d : List Card) : List Card := sortOf (ltO o) d
theorem sortO_len (o : Order) (d : List Card) : (sortO o d).length = d.length := (sortOf_perm (ltO_swo o) d).length_eq
theorem sortO_mem {o : Order} {d : List Card} {P : Card → Prop} (h : ∀ c ∈ d, P c) : ∀ c ∈ sortO o d, P c := fun c hc => h c ((sortOf_perm (ltO_swo o) d).subset hc)
def F_plainly : DF := fun xs Φ => ∃ (d : List Card) (o : Order), xs = [deckD d, orderD o] ∧ OrderOk o ∧ d.length ≤ 1000 ∧ Φ (.own ((sortO o d).map cardD))
/- slots of plainly: 0 deck, 1 order, 2 found, 3 card, 4 place -/
def b_plainly : DS := (dSeq (dDrop (dCall F_need_order (dCons (dVar 1) dNil)))
  (dSeq (dSet 2 (dLst dNil))
  (dSeq (dFor (diAny (dVar 0)) (dgName 3) (dSeq (dSet 4 (dR (dV (dLenOwn 2))))
  (dSeq (dWhile (dAnd (dTest (dOp gtD (dVar 4) (dC (.int 0)))) (dTest (dV (dCall F_is_ahead (dCons (dVar 3) (dCons (dOp ixD (dVar 2) (dOp subD (dVar 4) (dC (.int 1)))) (dCons (dVar 1) dNil))))))) (dSet 4 (dR (dOp subD (dVar 4) (dC (.int 1))))))
  (dSet 2 (dOpR addD (dV (dOpR addD (dV (dSl (dVar 2) dNoPart (dPart (dVar 4)))) (dV (dLst (dCons (dVar 3) dNil))))) (dV (dSl (dVar 2) (dPart (dVar 4)) dNoPart)))))))
  (dRetM 2))))
theorem rd_plainly : ∀ xs Φ, F_plainly xs Φ → b_plainly (rtV Φ) (slots xs 5) := by
  rintro xs Φ ⟨d, o, rfl, ok, hl, k⟩
  have h0 : ∀ p ∈ o, 0 ≤ p.1 := fun p hp => (ok.rng p hp).1
  have O := ltO_swo o
  refine ⟨o, rfl, ok, by simp, trivial, ?_⟩
  refine for_open ?_
  show dForL _ _ _ (d.map cardD) _
  refine forL_inv (fun rest ρ => ∃ (pre post l : List Card) (s3 s4 : Sl), d = pre ++ post ∧ rest = post.map cardD ∧ SrtO.Srtd (ltO o) l ∧ SrtO.Stb (ltO o) l pre ∧ ρ = [.val (deckD d), .val (orderD o), .own (l.map cardD), s3, s4] ∧ (s3 = .un ∨ ∃ z, s3 = .val z) ∧ (s4 = .un ∨ ∃ z, s4 = .val z)) ?_ ?_
    ⟨[], d, [], .un, .un, rfl, rfl, List.Pairwise.nil, SrtO.Stb.refl _, rfl, .inl rfl, .inl rfl⟩
  · rintro x rest ρ ⟨pre, post, l, s3, s4, e1, e2, hs, hb, rfl, f3, f4⟩ K hK
    cases post with
    | nil => cases e2
    | cons c post =>
      cases e2
      have ll : l.length ≤ 1000 := by
        rw [hb.len]
        have := congrArg List.length e1
        rw [List.length_append] at this
        omega
      refine ⟨by rcases f3 with rfl | ⟨_, rfl⟩ <;> trivial, by rcases f4 with rfl | ⟨_, rfl⟩ <;> trivial, ?_⟩
      refine while_open (fun m ρ => ∃ s2, (s2 = .own (l.map cardD) ∨ s2 = .val (deckD l)) ∧ m ≤ l.length ∧ (∀ x ∈ l.drop m, ltO o c x = true) ∧ ρ = [.val (deckD d), .val (orderD o), s2, .val (cardD c), .val (.int (m : Nat))]) l.length ⟨.own (l.map cardD), .inl rfl, Nat.le_refl _, by rw [List.drop_length]; exact fun x h => (nomatch h), by rw [List.length_map]; rfl⟩ ?_
      rintro m ρ ⟨s2, f2, hm, hd, rfl⟩ K2 hK2
      have fin : (∀ x ∈ l.take m, ltO o c x = false) → dSet 2 (dOpR addD (dV (dOpR addD (dV (dSl (dVar 2) dNoPart (dPart (dVar 4)))) (dV (dLst (dCons (dVar 3) dNil))))) (dV (dSl (dVar 2) (dPart (dVar 4)) dNoPart)))
          { rtV Φ with nx := K, ct := K, bk := dRetM 2 (rtV Φ) } [.val (deckD d), .val (orderD o), .val (deckD l), .val (cardD c), .val (.int (m : Nat))] := by
        intro ht
        have hs' : SrtO.Srtd (ltO o) (l.take m ++ l.drop m) := by rw [List.take_append_drop]; exact hs
        have hb' : SrtO.Stb (ltO o) (l.take m ++ l.drop m) pre := by rw [List.take_append_drop]; exact hb
        have r1 := SrtO.ins_srtd O hs' ht hd
        have r2 := SrtO.ins_stb O hd hb'
        have l1 : (l.take m).length ≤ 1000 := by rw [List.length_take]; omega
        have l2 : (l.drop m).length ≤ 1000 := by rw [List.length_drop]; omega
        have e3 : cutD (l.map cardD) none (some ((m : Nat) : Int)) = (l.take m).map cardD := by rw [cutD_take, List.map_take]
        have e4 : cutD (l.map cardD) (some ((m : Nat) : Int)) none = (l.drop m).map cardD := by rw [cutD_drop, List.map_drop]
        have goal : (cutD (l.map cardD) none (some ((m : Nat) : Int))).length + 1 ≤ 1000000 ∧ (cutD (l.map cardD) none (some ((m : Nat) : Int)) ++ [cardD c]).length + (cutD (l.map cardD) (some ((m : Nat) : Int)) none).length ≤ 1000000 ∧
            K [.val (deckD d), .val (orderD o), .own (cutD (l.map cardD) none (some ((m : Nat) : Int)) ++ [cardD c] ++ cutD (l.map cardD) (some ((m : Nat) : Int)) none), .val (cardD c), .val (.int (m : Nat))] := by
          rw [e3, e4]
          refine ⟨by rw [List.length_map]; omega, by rw [List.length_append, List.length_map, List.length_map, List.length_singleton]; omega, hK _ ⟨pre ++ [c], post, l.take m ++ c :: l.drop m, .val (cardD c), .val (.int (m : Nat)), by rw [e1, List.append_assoc]; rfl, rfl, r1, r2, ?_, .inr ⟨_, rfl⟩, .inr ⟨_, rfl⟩⟩⟩
          simp
        obtain ⟨g1, g2, g3⟩ := goal
        exact ⟨by simp, g1, g2, trivial, g3⟩
      have fin2 : (∀ x ∈ l.take m, ltO o c x = false) → dSet 2 (dOpR addD (dV (dOpR addD (dV (dSl (dVar 2) dNoPart (dPart (dVar 4)))) (dV (dLst (dCons (dVar 3) dNil))))) (dV (dSl (dVar 2) (dPart (dVar 4)) dNoPart)))
          { rtV Φ with nx := K, ct := K, bk := dRetM 2 (rtV Φ) } [.val (deckD d), .val (orderD o), s2, .val (cardD c), .val (.int (m : Nat))] := by
        intro ht
        rcases f2 with rfl | rfl
        · exact fin ht
        · exact fin ht
      refine iteD (fun hpos => ?_) (fun hpos => ?_)
      · have hm1 : m - 1 < l.length := by omega
        have hat : (l.map cardD)[m - 1]? = some (cardD l[m - 1]) := by rw [List.getElem?_map, List.getElem?_eq_getElem hm1]; rfl
        have ei : ((m : Nat) : Int) - 1 = ((m - 1 : Nat) : Int) := by omega
        have test : ∀ ρ' : List Sl, ρ' = [.val (deckD d), .val (orderD o), .val (deckD l), .val (cardD c), .val (.int (m : Nat))] → ∀ Ψ : Bool → List Sl → Prop, Ψ (ltO o c l[m - 1]) ρ' → ixL (l.map cardD) (.int (((m : Nat) : Int) - 1)) fun z => F_is_ahead [cardD c, z, orderD o] fun r => asD (fun x ρ1 => match x with | .bl b => Ψ b ρ1 | _ => False) r ρ' := by
          intro ρ' _ Ψ h
          rw [ei]
          exact ixL_nat hat ⟨c, l[m - 1], o, rfl, h0, h⟩
        have go : ∀ Ψ : Bool → List Sl → Prop, Ψ (ltO o c l[m - 1]) [.val (deckD d), .val (orderD o), .val (deckD l), .val (cardD c), .val (.int (m : Nat))] →
            dTest (dV (dCall F_is_ahead (dCons (dVar 3) (dCons (dOp ixD (dVar 2) (dOp subD (dVar 4) (dC (.int 1)))) (dCons (dVar 1) dNil))))) [.val (deckD d), .val (orderD o), s2, .val (cardD c), .val (.int (m : Nat))] Ψ := by
          intro Ψ h
          rcases f2 with rfl | rfl
          · exact test _ rfl Ψ h
          · exact test _ rfl Ψ h
        refine go _ ?_
        cases hlt : ltO o c l[m - 1] with
        | true =>
          refine ⟨trivial, hK2 (m - 1) _ (by omega) ⟨.val (deckD l), .inr rfl, by omega, fun x hx => ?_, by rw [← ei]; rfl⟩⟩
          rw [List.drop_eq_getElem_cons hm1] at hx
          rcases List.mem_cons.mp hx with e | hx
          · rw [e]; exact hlt
          · rw [show m - 1 + 1 = m by omega] at hx
            exact hd x hx
        | false =>
          refine fin fun x hx => ?_
          have et : l.take m = l.take (m - 1) ++ [l[m - 1]] := by
            have := List.take_append_getElem hm1
            rw [show m - 1 + 1 = m by omega] at this
            exact this.symm
          rw [et] at hx
          rcases List.mem_append.mp hx with hx | hx
          · have hs2 : SrtO.Srtd (ltO o) (l.take m) := hs.sublist (List.take_sublist _ _)
            rw [et] at hs2
            have h2 := (SrtO.srtd_app.mp hs2).2.2 x hx l[m - 1] (List.mem_singleton.mpr rfl)
            exact O.tr x l[m - 1] c h2 hlt
          · rw [List.mem_singleton.mp hx]; exact hlt
      · have m0 : m = 0 := by omega
        exact fin2 (by rw [m0]; exact fun x h => nomatch h)
  · rintro ρ ⟨pre, post, l, s3, s4, e1, e2, hs, hb, rfl, f3, f4⟩
    have : post = [] := by
      cases post with
      | nil => rfl
      | cons _ _ => cases e2
    subst this
    rw [List.append_nil] at e1
    subst e1
    have := sort_uniq O hs hb
    rw [sortO, ← this] at k
    exact k
end DL
set_option Elab.async false
set_option linter.all false
set_option maxRecDepth 100000
set_option maxHeartbeats 2000000
namespace DL
open PySem PySem.Spec PyProof.Rows L2 RT
variable [Tabl]

theorem rng_stop {j n : Nat} {d : D} {rest : List D} {i c : Int} (e : d :: rest = rng (n - j) i c) : j < n := by
  rcases Nat.lt_or_ge j n with h | h
  · exact h
  · rw [show n - j = 0 by omega] at e
    cases e
theorem rng_step {j n : Nat} (h : j < n) (i c : Int) : rng (n - j) i c = .int i :: rng (n - (j + 1)) (i + c) c := by
  rw [show n - j = (n - (j + 1)) + 1 by omega]
  rfl
def dat (s : Sl) : Prop := s = .un ∨ ∃ d, s = .val d
theorem dat.free {ρ : List Sl} {i : Nat} {s : Sl} (h : dat s) (e : ρ[i]? = some s) : free ρ i := by
  unfold DL.free
  rw [e]
  rcases h with rfl | ⟨d, rfl⟩ <;> trivial
theorem dat.un : dat .un := .inl rfl
theorem dat.val (d : D) : dat (.val d) := .inr ⟨d, rfl⟩
/-! ### need_sorted -/
def F_need_sorted : DF := fun xs Φ => ∃ (ds : List (List Card)) (o : Order), xs = [.lst (ds.map deckD), orderD o] ∧ OrderOk o ∧ ds.length ≤ 1000 ∧ (∀ d ∈ ds, d.length ≤ 1000 ∧ SrtO.Srtd (ltO o) d) ∧ Φ (.val .non)
/- slots of need_sorted: 0 decks, 1 order, 2 number, 3 at -/
def b_need_sorted : DS := (dSeq (dDrop (dCall F_need_order (dCons (dVar 1) dNil)))
  (dFor (diRng1 (dV (dCB lenD (dCons (dVar 0) dNil)))) (dgName 2) (dFor (diRng2 (dC (.int 1)) (dV (dCB lenD (dCons (dOp ixD (dVar 0) (dVar 2)) dNil)))) (dgName 3) (dIfS (dTest (dV (dCall F_is_ahead (dCons (dOp ixD (dOp ixD (dVar 0) (dVar 2)) (dVar 3)) (dCons (dOp ixD (dOp ixD (dVar 0) (dVar 2)) (dOp subD (dVar 3) (dC (.int 1)))) (dCons (dVar 1) dNil)))))) (fun _ _ => False) dNext))))
theorem rd_need_sorted : ∀ xs Φ, F_need_sorted xs Φ → b_need_sorted (rtV Φ) (slots xs 4) := by
  rintro xs Φ ⟨ds, o, rfl, ok, hl, hd, k⟩
  have h0 : ∀ p ∈ o, 0 ≤ p.1 := fun p hp => (ok.rng p hp).1
  refine ⟨o, rfl, ok, ?_⟩
  refine for_open ⟨(by unfold inR; rw [List.length_map]; omega), ?_⟩
  refine forL_inv (fun rest ρ => ∃ (j : Nat) (s2 s3 : Sl), rest = rng (ds.length - j) j 1 ∧ dat s2 ∧ dat s3 ∧ ρ = [.val (.lst (ds.map deckD)), .val (orderD o), s2, s3]) ?_ ?_ ⟨0, .un, .un, by rw [List.length_map]; rfl, .un, .un, rfl⟩
  · rintro x rest ρ ⟨j, s2, s3, e, f2, f3, rfl⟩ K hK
    have hj := rng_stop e
    rw [rng_step hj] at e
    cases e
    refine ⟨f2.free rfl, ?_⟩
    obtain ⟨hdl, hds⟩ := hd ds[j] (List.getElem_mem hj)
    generalize hD : ds[j] = dk at hdl hds
    have hat : (ds.map deckD)[j]? = some (deckD dk) := by rw [List.getElem?_map, List.getElem?_eq_getElem hj, hD]; rfl
    refine for_open ?_
    refine ixL_nat hat ?_
    refine ⟨(by unfold inR; decide), (by unfold inR; rw [List.length_map]; omega), ?_⟩
    have er : ((((dk.map cardD).length : Nat) : Int) - 1).toNat = dk.length - 1 := by rw [List.length_map]; omega
    rw [er]
    refine forL_inv (fun rest ρ => ∃ (i : Nat) (s3 : Sl), 1 ≤ i ∧ rest = rng (dk.length - i) i 1 ∧ dat s3 ∧ ρ = [.val (.lst (ds.map deckD)), .val (orderD o), .val (.int (j : Nat)), s3]) ?_ ?_ ⟨1, s3, Nat.le_refl _, rfl, f3, rfl⟩
    · rintro y rest ρ ⟨i, s3, hi, e, f3, rfl⟩ K2 hK2
      have hlt := rng_stop e
      rw [rng_step hlt] at e
      cases e
      have hi1 : i - 1 < dk.length := by omega
      have a1 : (dk.map cardD)[i]? = some (cardD dk[i]) := by rw [List.getElem?_map, List.getElem?_eq_getElem hlt]; rfl
      have a2 : (dk.map cardD)[i - 1]? = some (cardD dk[i - 1]) := by rw [List.getElem?_map, List.getElem?_eq_getElem hi1]; rfl
      have no : ltO o dk[i] dk[i - 1] = false := (List.pairwise_iff_getElem.mp hds) (i - 1) i hi1 hlt (by omega)
      refine ⟨f3.free rfl, ?_⟩
      refine ixL_nat hat ?_
      refine ixL_nat a1 ?_
      refine ixL_nat hat ?_
      have ei : ((i : Nat) : Int) - 1 = ((i - 1 : Nat) : Int) := by omega
      have step : ∀ ρ' : List Sl, ∀ Ψ : D → Prop, Ψ (cardD dk[i - 1]) → ixL (dk.map cardD) (.int (((i : Nat) : Int) - 1)) Ψ := by
        intro ρ' Ψ h
        rw [ei]
        exact ixL_nat a2 h
      refine step [] _ ?_
      refine ⟨dk[i], dk[i - 1], o, rfl, h0, ?_⟩
      rw [no]
      exact hK2 _ ⟨i + 1, .val (.int (i : Nat)), by omega, by push_cast; rfl, .val _, rfl⟩
    · rintro ρ ⟨i, s3, hi, e, f3, rfl⟩
      exact hK _ ⟨j + 1, .val (.int (j : Nat)), s3, by push_cast; rfl, .val _, f3, rfl⟩
  · rintro ρ ⟨j, s2, s3, e, f2, f3, rfl⟩
    exact k
/-! ### laid -/
def F_laid : DF := fun xs Φ => ∃ (a b : List Card) (o : Order), xs = [deckD a, deckD b, orderD o] ∧ OrderOk o ∧ a.length ≤ 1000 ∧ b.length ≤ 1000 ∧ SrtO.Srtd (ltO o) a ∧ SrtO.Srtd (ltO o) b ∧ Φ (.own ((sortO o (a ++ b)).map cardD))
/- slots of laid: 0 one, 1 other, 2 order, 3 found, 4 mine, 5 theirs, 6 takes -/
def b_laid : DS := (dSeq (dDrop (dCall F_need_sorted (dCons (dV (dLst (dCons (dVar 0) (dCons (dVar 1) dNil)))) (dCons (dVar 2) dNil))))
  (dSeq (dSet 3 (dLst dNil))
  (dSeq (dSet 4 (dR (dC (.int 0))))
  (dSeq (dSet 5 (dR (dC (.int 0))))
  (dSeq (dWhile (dOr (dTest (dOp ltD (dVar 4) (dV (dCB lenD (dCons (dVar 0) dNil))))) (dTest (dOp ltD (dVar 5) (dV (dCB lenD (dCons (dVar 1) dNil)))))) (dSeq (dSet 6 (dR (dOp eqD (dVar 5) (dV (dCB lenD (dCons (dVar 1) dNil))))))
  (dSeq (dIfS (dAnd (dTest (dOp ltD (dVar 4) (dV (dCB lenD (dCons (dVar 0) dNil))))) (dTest (dOp ltD (dVar 5) (dV (dCB lenD (dCons (dVar 1) dNil)))))) (dSet 6 (dR (dNotV (dV (dCall F_is_ahead (dCons (dOp ixD (dVar 1) (dVar 5)) (dCons (dOp ixD (dVar 0) (dVar 4)) (dCons (dVar 2) dNil)))))))) dNext)
  (dIfS (dTest (dVar 6)) (dSeq (dDrop (dApp 3 (dOp ixD (dVar 0) (dVar 4))))
  (dSet 4 (dR (dV (dOpR addD (dVar 4) (dC (.int 1))))))) (dSeq (dDrop (dApp 3 (dOp ixD (dVar 1) (dVar 5))))
  (dSet 5 (dR (dV (dOpR addD (dVar 5) (dC (.int 1)))))))))))
  (dRetM 3))))))
theorem rd_laid : ∀ xs Φ, F_laid xs Φ → b_laid (rtV Φ) (slots xs 7) := by
  rintro xs Φ ⟨a, b, o, rfl, ok, la, lb, sa, sb, k⟩
  have h0 : ∀ p ∈ o, 0 ≤ p.1 := fun p hp => (ok.rng p hp).1
  have O := ltO_swo o
  refine ⟨by simp, [a, b], o, rfl, ok, by simp, fun d hd => ?_, ?_⟩
  · rcases List.mem_cons.mp hd with e | hd
    · rw [e]; exact ⟨la, sa⟩
    · rw [List.mem_singleton.mp hd]; exact ⟨lb, sb⟩
  refine ⟨by simp, trivial, trivial, trivial, ?_⟩
  refine while_open (fun m ρ => ∃ (i j : Nat) (out : List Card) (s6 : Sl), m = (a.length - i) + (b.length - j) ∧ i ≤ a.length ∧ j ≤ b.length ∧ out.length = i + j ∧ SrtO.MLo (ltO o) out (a.drop i) (b.drop j) (a ++ b) ∧ dat s6 ∧ ρ = [.val (deckD a), .val (deckD b), .val (orderD o), .own (out.map cardD), .val (.int (i : Nat)), .val (.int (j : Nat)), s6]) (a.length + b.length)
    ⟨0, 0, [], .un, rfl, Nat.zero_le _, Nat.zero_le _, rfl, ⟨sa, sb, SrtO.Stb.refl _⟩, .un, rfl⟩ ?_
  rintro m ρ ⟨i, j, out, s6, hm, hi, hj, ho, ml, f6, rfl⟩ K hK
  -- one card of the first
  have takeA : ∀ (hia : i < a.length), (∀ y ∈ b.drop j, ltO o y a[i] = false) → K [.val (deckD a), .val (deckD b), .val (orderD o), .own ((out ++ [a[i]]).map cardD), .val (.int ((i : Nat) + 1)), .val (.int (j : Nat)), .val (.bl true)] := fun hia h => by
    refine hK (m - 1) _ (by omega) ⟨i + 1, j, out ++ [a[i]], .val (.bl true), by omega, hia, hj, by rw [List.length_append, List.length_singleton, ho]; omega, ?_, .val _, by push_cast; rfl⟩
    refine SrtO.MLo.a (A1 := [a[i]]) ?_ fun x hx y hy => by rw [List.mem_singleton.mp hx]; exact h y hy
    have : a.drop i = [a[i]] ++ a.drop (i + 1) := List.drop_eq_getElem_cons hia
    rw [← this]
    exact ml
  have takeB : ∀ (hjb : j < b.length), (∀ x ∈ a.drop i, ltO o b[j] x = true) → K [.val (deckD a), .val (deckD b), .val (orderD o), .own ((out ++ [b[j]]).map cardD), .val (.int (i : Nat)), .val (.int ((j : Nat) + 1)), .val (.bl false)] := fun hjb h => by
    refine hK (m - 1) _ (by omega) ⟨i, j + 1, out ++ [b[j]], .val (.bl false), by omega, hi, hjb, by rw [List.length_append, List.length_singleton, ho]; omega, ?_, .val _, by push_cast; rfl⟩
    refine SrtO.MLo.b O (B1 := [b[j]]) ?_ fun y hy x hx => by rw [List.mem_singleton.mp hy]; exact h x hx
    have : b.drop j = [b[j]] ++ b.drop (j + 1) := List.drop_eq_getElem_cons hjb
    rw [← this]
    exact ml
  have outl : (out.map cardD).length ≤ 1000000 := by rw [List.length_map, ho]; omega
  have atA : ∀ (hia : i < a.length) (Ψ : D → Prop), Ψ (cardD a[i]) → ixL (a.map cardD) (.int (i : Nat)) Ψ := fun hia Ψ h => ixL_nat (by rw [List.getElem?_map, List.getElem?_eq_getElem hia]; rfl) h
  have atB : ∀ (hjb : j < b.length) (Ψ : D → Prop), Ψ (cardD b[j]) → ixL (b.map cardD) (.int (j : Nat)) Ψ := fun hjb Ψ h => ixL_nat (by rw [List.getElem?_map, List.getElem?_eq_getElem hjb]; rfl) h
  have eA : ∀ x, (out ++ [x]).map cardD = out.map cardD ++ [cardD x] := fun x => by simp
  have srtA : ∀ (hia : i < a.length), ∀ x ∈ a.drop i, ltO o x a[i] = false := fun hia x hx => by
    have hs : SrtO.Srtd (ltO o) (a.drop i) := sa.sublist (List.drop_sublist _ _)
    rw [List.drop_eq_getElem_cons hia] at hx hs
    rcases List.mem_cons.mp hx with e | hx
    · rw [e]; exact O.refl _
    · exact SrtO.srtd_head hs x hx
  have srtB : ∀ (hjb : j < b.length), ∀ x ∈ b.drop j, ltO o x b[j] = false := fun hjb x hx => by
    have hs : SrtO.Srtd (ltO o) (b.drop j) := sb.sublist (List.drop_sublist _ _)
    rw [List.drop_eq_getElem_cons hjb] at hx hs
    rcases List.mem_cons.mp hx with e | hx
    · rw [e]; exact O.refl _
    · exact SrtO.srtd_head hs x hx
  have cA : decide (((i : Nat) : Int) < (((a.map cardD).length : Nat) : Int)) = decide (i < a.length) := by rw [List.length_map]; simp
  have cB : decide (((j : Nat) : Int) < (((b.map cardD).length : Nat) : Int)) = decide (j < b.length) := by rw [List.length_map]; simp
  have body : (i < a.length ∨ j < b.length) → (dSeq (dSet 6 (dR (dOp eqD (dVar 5) (dV (dCB lenD (dCons (dVar 1) dNil))))))
  (dSeq (dIfS (dAnd (dTest (dOp ltD (dVar 4) (dV (dCB lenD (dCons (dVar 0) dNil))))) (dTest (dOp ltD (dVar 5) (dV (dCB lenD (dCons (dVar 1) dNil)))))) (dSet 6 (dR (dNotV (dV (dCall F_is_ahead (dCons (dOp ixD (dVar 1) (dVar 5)) (dCons (dOp ixD (dVar 0) (dVar 4)) (dCons (dVar 2) dNil)))))))) dNext)
  (dIfS (dTest (dVar 6)) (dSeq (dDrop (dApp 3 (dOp ixD (dVar 0) (dVar 4))))
  (dSet 4 (dR (dV (dOpR addD (dVar 4) (dC (.int 1))))))) (dSeq (dDrop (dApp 3 (dOp ixD (dVar 1) (dVar 5))))
  (dSet 5 (dR (dV (dOpR addD (dVar 5) (dC (.int 1)))))))))) { rtV Φ with nx := K, ct := K, bk := dRetM 3 (rtV Φ) } [.val (deckD a), .val (deckD b), .val (orderD o), .own (out.map cardD), .val (.int (i : Nat)), .val (.int (j : Nat)), s6] := by
    intro hor
    refine ⟨ok_int _ _, ok_int _ _, f6.free rfl, ?_⟩
    rw [eqv_int]
    have eqB : decide (((j : Nat) : Int) = (((b.map cardD).length : Nat) : Int)) = decide (j = b.length) := by
      rw [List.length_map]
      by_cases h : j = b.length
      · rw [decide_eq_true h, decide_eq_true (by omega)]
      · rw [decide_eq_false h, decide_eq_false (by omega)]
    rw [eqB]
    have last : ∀ t : Bool, (t = true → i < a.length ∧ ∀ (hia : i < a.length), ∀ y ∈ b.drop j, ltO o y a[i] = false) → (t = false → j < b.length ∧ ∀ (hjb : j < b.length), ∀ x ∈ a.drop i, ltO o b[j] x = true) →
        dIfS (dTest (dVar 6)) (dSeq (dDrop (dApp 3 (dOp ixD (dVar 0) (dVar 4)))) (dSet 4 (dR (dV (dOpR addD (dVar 4) (dC (.int 1))))))) (dSeq (dDrop (dApp 3 (dOp ixD (dVar 1) (dVar 5)))) (dSet 5 (dR (dV (dOpR addD (dVar 5) (dC (.int 1)))))))
          { rtV Φ with nx := K, ct := K, bk := dRetM 3 (rtV Φ) } [.val (deckD a), .val (deckD b), .val (orderD o), .own (out.map cardD), .val (.int (i : Nat)), .val (.int (j : Nat)), .val (.bl t)] := by
      intro t ht hf
      cases t with
      | true =>
        obtain ⟨hia, h⟩ := ht rfl
        have kk := takeA hia (h hia)
        rw [eA] at kk
        refine atA hia _ ?_
        exact ⟨outl, trivial, kk⟩
      | false =>
        obtain ⟨hjb, h⟩ := hf rfl
        have kk := takeB hjb (h hjb)
        rw [eA] at kk
        refine atB hjb _ ?_
        exact ⟨outl, trivial, kk⟩
    refine iteB (fun h1 => ?_) (fun h1 => ?_)
    · rw [cA] at h1
      have hia : i < a.length := of_decide_eq_true h1
      refine iteB (fun h2 => ?_) (fun h2 => ?_)
      · rw [cB] at h2
        have hjb : j < b.length := of_decide_eq_true h2
        refine atB hjb _ ?_
        refine atA hia _ ?_
        refine ⟨b[j], a[i], o, rfl, h0, trivial, ?_⟩
        refine last (!ltO o b[j] a[i]) (fun ht => ⟨hia, fun _ y hy => ?_⟩) (fun hf => ⟨hjb, fun _ x hx => ?_⟩)
        · have e : ltO o b[j] a[i] = false := by simpa using ht
          exact O.tr _ _ _ e (srtB hjb y hy)
        · have e : ltO o b[j] a[i] = true := by simpa using hf
          exact O.ltle e (srtA hia x hx)
      · rw [cB] at h2
        have hjb : ¬ j < b.length := of_decide_eq_false h2
        have je : j = b.length := by omega
        refine last (decide (j = b.length)) (fun _ => ⟨hia, fun _ y hy => ?_⟩) (fun hf => absurd je (of_decide_eq_false hf))
        rw [je, List.drop_length] at hy
        cases hy
    · rw [cA] at h1
      have hia : ¬ i < a.length := of_decide_eq_false h1
      have hjb : j < b.length := hor.resolve_left hia
      have ie : i = a.length := by omega
      refine last (decide (j = b.length)) (fun ht => absurd (of_decide_eq_true ht) (by omega)) (fun _ => ⟨hjb, fun _ x hx => ?_⟩)
      rw [ie, List.drop_length] at hx
      cases hx
  refine iteB (fun h1 => ?_) (fun h1 => ?_)
  · rw [cA] at h1
    exact body (.inl (of_decide_eq_true h1))
  · rw [cA] at h1
    refine iteB (fun h2 => ?_) (fun h2 => ?_)
    · rw [cB] at h2
      exact body (.inr (of_decide_eq_true h2))
    · rw [cB] at h2
      have ie : a.length ≤ i := Nat.le_of_not_lt (of_decide_eq_false h1)
      have je : b.length ≤ j := Nat.le_of_not_lt (of_decide_eq_false h2)
      obtain ⟨r1, r2⟩ := ml.done (.inl (List.drop_eq_nil_of_le ie))
      rw [List.drop_eq_nil_of_le ie, List.drop_eq_nil_of_le je, List.append_nil, List.append_nil] at r1 r2
      have := sort_uniq O r1 r2
      rw [sortO, ← this] at k
      exact k
end DL
set_option Elab.async false
set_option linter.all false
set_option maxRecDepth 100000
set_option maxHeartbeats 2000000
namespace DL
open PySem PySem.Spec PyProof.Rows L2 RT
variable [Tabl]

theorem papp_ixT {ρ : List Sl} {i : Nat} {dk de : DE} {Φ : Sl → List Sl → Prop} {q r : Addr} {ts xs : List OT} {j : Nat} {x : D} (hs : ρ[i]? = some (.loc (.tup q ts))) (hk : ∀ Ψ : D → List Sl → Prop, Ψ (.int (j : Nat)) ρ → dk ρ Ψ) (hj : ts[j]? = some (.lst r xs))
    (he : ∀ Ψ : D → List Sl → Prop, Ψ x ρ → de ρ Ψ) (hl : xs.length ≤ 1000000) (k : Φ (.val .non) (ρ.set i (.loc (.tup q (ts.set j (.lst r (xs ++ [.val x]))))))) : dPApp (dpIx (dpVar i) dk) de ρ Φ := by
  have g1 : OT.get (.tup q ts) [.ix j] = some (.lst r xs) := by
    unfold OT.get
    rw [hj]
    unfold OT.get
    rfl
  have g2 : OT.put (.tup q ts) [.ix j] (.lst r (xs ++ [.val x])) = .tup q (ts.set j (.lst r (xs ++ [.val x]))) := by
    unfold OT.put
    rw [hj]
    unfold OT.put
    rfl
  unfold dPApp dpIx dpVar
  rw [hs]
  refine hk _ ?_
  rw [hs]
  show nodeRoot (.tup q ts) (.tup q ts) ∧ 0 ≤ ((j : Nat) : Int) ∧ match ts[((j : Nat) : Int).toNat]? with | some y => _ | none => _
  rw [Int.toNat_natCast, hj]
  refine ⟨⟨rfl, rfl⟩, Int.natCast_nonneg _, trivial, he _ ?_⟩
  rw [hs]
  show match OT.get (.tup q ts) [.ix j] with | some (.lst p xs) => _ | _ => _
  rw [g1]
  refine ⟨rfl, hl, ?_⟩
  show Φ _ (ρ.set i (.loc (OT.put (.tup q ts) [.ix j] (.lst r (xs ++ [.val x])))))
  rw [g2]
  exact k
theorem cons_open {d : DR} {da : DAO} {ρ : List Sl} {Φ : List OT → List Sl → Prop} (h : d ρ (asT fun t ρ1 => da ρ1 fun ts ρ2 => Φ (t :: ts) ρ2)) : doCons d da ρ Φ := by
  unfold doCons
  exact h
/-! ### parted -/
def hasL (o : Order) (other : List Card) (c : Card) : Bool := other.any fun e => SrtO.eqv (ltO o) e c
def cardsT (d : List Card) : List OT := d.map fun c => .val (cardD c)
def partT (o : Order) (d other : List Card) (p q1 q2 : Addr) : OT := .tup p [.lst q1 (cardsT (d.filter (hasL o other))), .lst q2 (cardsT (d.filter fun c => !hasL o other c))]
def F_parted : DF := fun xs Φ => ∃ (d other : List Card) (o : Order), xs = [deckD d, deckD other, orderD o] ∧ OrderOk o ∧ d.length ≤ 1000 ∧ other.length ≤ 1000 ∧ SrtO.Srtd (ltO o) d ∧ SrtO.Srtd (ltO o) other ∧ ∀ p q1 q2, Φ (.loc (partT o d other p q1 q2))
/- slots of parted: 0 deck, 1 other, 2 order, 3 found, 4 at, 5 card, 6 has -/
def b_parted : DS := (dSeq (dDrop (dCall F_need_sorted (dCons (dV (dLst (dCons (dVar 0) (dCons (dVar 1) dNil)))) (dCons (dVar 2) dNil))))
  (dSeq (dSet 3 (dTupO (doCons (dLst dNil) (doCons (dLst dNil) doNil))))
  (dSeq (dSet 4 (dR (dC (.int 0))))
  (dSeq (dFor (diAny (dVar 0)) (dgName 5) (dSeq (dWhile (dAnd (dTest (dOp ltD (dVar 4) (dV (dCB lenD (dCons (dVar 1) dNil))))) (dTest (dV (dCall F_is_ahead (dCons (dOp ixD (dVar 1) (dVar 4)) (dCons (dVar 5) (dCons (dVar 2) dNil))))))) (dSet 4 (dR (dV (dOpR addD (dVar 4) (dC (.int 1)))))))
  (dSeq (dSet 6 (dR (dAndV (dOp ltD (dVar 4) (dV (dCB lenD (dCons (dVar 1) dNil)))) (dV (dCall F_is_like (dCons (dOp ixD (dVar 1) (dVar 4)) (dCons (dVar 5) (dCons (dVar 2) dNil))))))))
  (dDrop (dPApp (dpIx (dpVar 3) (dOp subD (dC (.int 1)) (dV (dCB intD (dCons (dVar 6) dNil))))) (dVar 5))))))
  (dRetM 3)))))
theorem rd_parted : ∀ xs Φ, F_parted xs Φ → b_parted (rtV Φ) (slots xs 7) := by
  rintro xs Φ ⟨d, other, o, rfl, ok, ld, lo, sd, so, k⟩
  have h0 : ∀ p ∈ o, 0 ≤ p.1 := fun p hp => (ok.rng p hp).1
  have O := ltO_swo o
  refine ⟨by simp, [d, other], o, rfl, ok, by simp, fun x hx => ?_, ?_⟩
  · rcases List.mem_cons.mp hx with e | hx
    · rw [e]; exact ⟨ld, sd⟩
    · rw [List.mem_singleton.mp hx]; exact ⟨lo, so⟩
  refine cons_open ⟨by simp, fun q1 => ?_⟩
  refine cons_open ⟨by simp, fun q2 => ⟨by simp, fun p => ⟨trivial, trivial, ?_⟩⟩⟩
  refine for_open ?_
  show dForL _ _ _ (d.map cardD) _
  refine forL_inv (fun rest ρ => ∃ (pre post : List Card) (j : Nat) (s5 s6 : Sl), d = pre ++ post ∧ rest = post.map cardD ∧ j ≤ other.length ∧ (∀ e ∈ other.take j, ∀ c ∈ post, ltO o e c = true) ∧ dat s5 ∧ dat s6 ∧
      ρ = [.val (deckD d), .val (deckD other), .val (orderD o), .loc (partT o pre other p q1 q2), .val (.int (j : Nat)), s5, s6]) ?_ ?_ ⟨[], d, 0, .un, .un, rfl, rfl, Nat.zero_le _, fun e he => (nomatch he), .un, .un, rfl⟩
  · rintro x rest ρ ⟨pre, post, j, s5, s6, e1, e2, hj, hb, f5, f6, rfl⟩ K hK
    cases post with
    | nil => cases e2
    | cons c post =>
      cases e2
      refine ⟨f5.free rfl, ?_⟩
      have sd2 : SrtO.Srtd (ltO o) (c :: post) := by
        rw [e1] at sd
        exact (SrtO.srtd_app.mp sd).2.1
      have lp : pre.length ≤ 1000 := by
        have := congrArg List.length e1
        rw [List.length_append] at this
        omega
      refine while_open (fun m ρ => ∃ i : Nat, m = other.length - i ∧ i ≤ other.length ∧ (∀ e ∈ other.take i, ∀ x ∈ c :: post, ltO o e x = true) ∧ ρ = [.val (deckD d), .val (deckD other), .val (orderD o), .loc (partT o pre other p q1 q2), .val (.int (i : Nat)), .val (cardD c), s6]) (other.length - j) ⟨j, rfl, hj, hb, rfl⟩ ?_
      rintro m ρ ⟨i, hm, hi, hb, rfl⟩ K2 hK2
      have cO : decide (((i : Nat) : Int) < (((other.map cardD).length : Nat) : Int)) = decide (i < other.length) := by rw [List.length_map]; simp
      have atO : ∀ (h : i < other.length) (Ψ : D → Prop), Ψ (cardD other[i]) → ixL (other.map cardD) (.int (i : Nat)) Ψ := fun h Ψ q => ixL_nat (by rw [List.getElem?_map, List.getElem?_eq_getElem h]; rfl) q
      -- the end of a turn
      have turn : ∀ t : Bool, t = hasL o other c → K [.val (deckD d), .val (deckD other), .val (orderD o), .loc (partT o (pre ++ [c]) other p q1 q2), .val (.int (i : Nat)), .val (cardD c), .val (.bl t)] := fun t ht =>
        hK _ ⟨pre ++ [c], post, i, .val (cardD c), .val (.bl t), by rw [e1, List.append_assoc]; rfl, rfl, hi, fun e he x hx => hb e he x (List.mem_cons_of_mem _ hx), .val _, .val _, rfl⟩
      have put : ∀ t : Bool, t = hasL o other c → dDrop (dPApp (dpIx (dpVar 3) (dOp subD (dC (.int 1)) (dV (dCB intD (dCons (dVar 6) dNil))))) (dVar 5)) { rtV Φ with nx := K, ct := K, bk := dRetM 3 (rtV Φ) }
          [.val (deckD d), .val (deckD other), .val (orderD o), .loc (partT o pre other p q1 q2), .val (.int (i : Nat)), .val (cardD c), .val (.bl t)] := by
        intro t ht
        have lf : ∀ g : Card → Bool, (cardsT (pre.filter g)).length ≤ 1000000 := fun g => by
          unfold cardsT
          rw [List.length_map]
          have := List.length_filter_le g pre
          omega
        have tk := turn t ht
        cases t with
        | true =>
          have e : partT o (pre ++ [c]) other p q1 q2 = .tup p ([OT.lst q1 (cardsT (pre.filter (hasL o other))), .lst q2 (cardsT (pre.filter fun c => !hasL o other c))].set 0 (.lst q1 (cardsT (pre.filter (hasL o other)) ++ [.val (cardD c)]))) := by
            unfold partT cardsT
            rw [List.filter_append, List.filter_append, List.filter_cons_of_pos ht.symm, List.filter_cons_of_neg (by rw [← ht]; decide)]
            simp
          rw [e] at tk
          exact papp_ixT (ρ := [.val (deckD d), .val (deckD other), .val (orderD o), .loc (partT o pre other p q1 q2), .val (.int (i : Nat)), .val (cardD c), .val (.bl true)]) (j := 0) (x := cardD c) rfl (fun Ψ h => h) rfl (fun Ψ h => h) (lf _) tk
        | false =>
          have e : partT o (pre ++ [c]) other p q1 q2 = .tup p ([OT.lst q1 (cardsT (pre.filter (hasL o other))), .lst q2 (cardsT (pre.filter fun c => !hasL o other c))].set 1 (.lst q2 (cardsT (pre.filter fun c => !hasL o other c) ++ [.val (cardD c)]))) := by
            unfold partT cardsT
            rw [List.filter_append, List.filter_append, List.filter_cons_of_neg (by rw [← ht]; decide), List.filter_cons_of_pos (by rw [← ht]; decide)]
            simp
          rw [e] at tk
          exact papp_ixT (ρ := [.val (deckD d), .val (deckD other), .val (orderD o), .loc (partT o pre other p q1 q2), .val (.int (i : Nat)), .val (cardD c), .val (.bl false)]) (j := 1) (x := cardD c) rfl (fun Ψ h => h) rfl (fun Ψ h => h) (lf _) tk
      have early : ∀ e ∈ other.take i, SrtO.eqv (ltO o) e c = false := fun e he => by
        have := hb e he c List.mem_cons_self
        unfold SrtO.eqv
        rw [this]
        rfl
      have split : hasL o other c = ((other.take i).any (fun e => SrtO.eqv (ltO o) e c) || (other.drop i).any fun e => SrtO.eqv (ltO o) e c) := by
        unfold hasL
        rw [← List.any_append, List.take_append_drop]
      have early' : (other.take i).any (fun e => SrtO.eqv (ltO o) e c) = false := List.any_eq_false.mpr fun e he => by rw [early e he]; decide
      rw [early', Bool.false_or] at split
      refine iteB (fun h1 => ?_) (fun h1 => ?_)
      · rw [cO] at h1
        have hlt : i < other.length := of_decide_eq_true h1
        have hd : other.drop i = other[i] :: other.drop (i + 1) := List.drop_eq_getElem_cons hlt
        refine atO hlt _ ?_
        refine ⟨other[i], c, o, rfl, h0, ?_⟩
        cases hl : ltO o other[i] c with
        | true =>
          refine ⟨trivial, hK2 (m - 1) _ (by omega) ⟨i + 1, by omega, hlt, fun e he x hx => ?_, by push_cast; rfl⟩⟩
          have et := (List.take_append_getElem hlt).symm
          rw [et] at he
          rcases List.mem_append.mp he with he | he
          · exact hb e he x hx
          · rw [List.mem_singleton.mp he]
            rcases List.mem_cons.mp hx with ex | hx
            · rw [ex]; exact hl
            · exact O.ltle hl (SrtO.srtd_head sd2 x hx)
        | false =>
          have so2 : SrtO.Srtd (ltO o) (other[i] :: other.drop (i + 1)) := by
            rw [← hd]
            exact so.sublist (List.drop_sublist _ _)
          have ev : SrtO.eqv (ltO o) other[i] c = hasL o other c := by
            rw [split, hd, List.any_cons]
            cases hq : SrtO.eqv (ltO o) other[i] c with
            | true => rfl
            | false =>
              rw [Bool.false_or]
              symm
              refine List.any_eq_false.mpr fun e he => ?_
              have gt : ltO o c other[i] = true := by
                unfold SrtO.eqv at hq
                rw [hl] at hq
                simpa using hq
              have : ltO o c e = true := O.ltle gt (SrtO.srtd_head so2 e he)
              unfold SrtO.eqv
              rw [this]
              simp
          show if decide (((i : Nat) : Int) < (((other.map cardD).length : Nat) : Int)) = true then _ else _
          rw [cO, decide_eq_true hlt]
          refine atO hlt _ ?_
          refine ⟨other[i], c, o, rfl, h0, f6.free rfl, ?_⟩
          exact put _ ev
      · have h1' := h1
        rw [cO] at h1'
        have hge : other.length ≤ i := Nat.le_of_not_lt (of_decide_eq_false h1')
        rw [List.drop_eq_nil_of_le hge] at split
        show if decide (((i : Nat) : Int) < (((other.map cardD).length : Nat) : Int)) = true then _ else _
        rw [h1]
        refine ⟨f6.free rfl, ?_⟩
        exact put false split.symm
  · rintro ρ ⟨pre, post, j, s5, s6, e1, e2, hj, hb, f5, f6, rfl⟩
    have : post = [] := by
      cases post with
      | nil => rfl
      | cons _ _ => cases e2
    subst this
    rw [List.append_nil] at e1
    subst e1
    exact k p q1 q2
end DL
set_option Elab.async false
set_option linter.all false
set_option maxRecDepth 100000
set_option maxHeartbeats 2000000
namespace DL
open PySem PySem.Spec PyProof.Rows L2 RT
variable [Tabl]

/-! ### the law's keys -/
theorem every_fig : ∀ c ∈ every, maxL ((c.filter fun x => decide (x < 10)) ++ [-1]) = figOf c := by decide
theorem every_over : ∀ c ∈ every, maxL ((c.filter fun x => decide (9 < x)) ++ [-1]) = overOf c := by decide
theorem every_len : ∀ c ∈ every, c.length ≤ 2 := by decide
def F_L_figure : DF := fun xs Φ => ∃ c : Col, xs = [colD c] ∧ c ∈ every ∧ Φ (.val (.int (figOf c)))
/- slots of _law_figure: 0 _law_column_here, 1 _law_hole -/
def b_L_figure : DS := (dRet (dCB maxLD (dCons (dV (dOpR addD (dV (dLc (diAny (dVar 0)) (dgName 1) (dTest (dOp ltD (dVar 1) (dC (.int 10)))) (dVar 1) [1])) (dV (dLst (dCons (dUn negD (dC (.int 1))) dNil))))) dNil)))
theorem rd_L_figure : ∀ xs Φ, F_L_figure xs Φ → b_L_figure (rtV Φ) (slots xs 2) := by
  rintro xs Φ ⟨c, rfl, hc, k⟩
  have hl := every_len c hc
  refine lc_pure c D.int (fun x => decide (x < 10)) D.int (fun Ψ h => h) (by omega) (.inl rfl) (fun x _ Ψ h => h) (fun x _ _ Ψ h => h) ?_
  have hf := List.length_filter_le (fun x => decide (x < 10)) c
  refine ⟨by simp, by rw [List.length_map]; simp; omega, ?_⟩
  have e : (c.filter fun x => decide (x < 10)).map D.int ++ [D.int (-1)] = ((c.filter fun x => decide (x < 10)) ++ [-1]).map D.int := by rw [List.map_append]; rfl
  show match D.ints _ with | some ns => _ | none => _
  rw [e, ints_map]
  refine ⟨by simp, ?_⟩
  rw [every_fig c hc]
  exact k
def F_L_key : DF := fun xs Φ => ∃ c : Col, xs = [colD c] ∧ c ∈ every ∧ Φ (.val (pairD (keyOf c)))
/- slots of _law_key: 0 _law_column_here, 1 _law_hole -/
def b_L_key : DS := (dRet (dR (dTup (dCons (dV (dCB maxLD (dCons (dV (dOpR addD (dV (dLc (diAny (dVar 0)) (dgName 1) (dTest (dOp gtD (dVar 1) (dC (.int 9)))) (dVar 1) [1])) (dV (dLst (dCons (dUn negD (dC (.int 1))) dNil))))) dNil))) (dCons (dV (dCall F_L_figure (dCons (dVar 0) dNil))) dNil)))))
theorem rd_L_key : ∀ xs Φ, F_L_key xs Φ → b_L_key (rtV Φ) (slots xs 2) := by
  rintro xs Φ ⟨c, rfl, hc, k⟩
  have hl := every_len c hc
  refine lc_pure c D.int (fun x => decide (9 < x)) D.int (fun Ψ h => h) (by omega) (.inl rfl) (fun x _ Ψ h => h) (fun x _ _ Ψ h => h) ?_
  have hf := List.length_filter_le (fun x => decide (9 < x)) c
  refine ⟨by simp, by rw [List.length_map]; simp; omega, ?_⟩
  have e : (c.filter fun x => decide (9 < x)).map D.int ++ [D.int (-1)] = ((c.filter fun x => decide (9 < x)) ++ [-1]).map D.int := by rw [List.map_append]; rfl
  show match D.ints _ with | some ns => _ | none => _
  rw [e, ints_map]
  refine ⟨by simp, ?_⟩
  rw [every_over c hc]
  exact ⟨c, rfl, hc, by simp, k⟩
/-! ### drawn orders -/
def F_L_order : DFO := fun S xs Φ => Dice S ∧ ∃ most : Int, xs = [.int most] ∧ 0 ≤ most ∧ most ≤ 12 ∧ ∀ (o : Order) S', OrderOk o → (∀ p ∈ o, p.1 < most) → After S S' → Φ (.own (o.map ordD)) S'
/- slots of _law_order: 0 _law_d, 1 _law_most, 2 _law_left, 3 _law_order_here, 4 _law_k -/
def b_L_order : DS := (dSeq (dSet 2 (dRg1 (dVar 1) Sl.own))
  (dSeq (dSet 3 (dLst dNil))
  (dSeq (dFor (diRng1 (dOp ixD (dV (dLst (dCons (dV (dCallO F_L_next 0 (dCons (dC (.int 4)) dNil))) (dCons (dV (dCallO F_L_next 0 (dCons (dC (.int 7)) dNil))) dNil)))) (dV (dCallO F_L_next 0 (dCons (dC (.int 2)) dNil))))) (dgName 4) (dIfS (dTest (dCmpOwn neD 2 (dV (dLst dNil)))) (dDrop (dApp 3 (dTup (dCons (dV (dPop 2 (dV (dCallO F_L_next 0 (dCons (dV (dLenOwn 2)) dNil))))) (dCons (dOp eqD (dV (dCallO F_L_next 0 (dCons (dC (.int 3)) dNil))) (dC (.int 2))) dNil))))) dNext))
  (dRetM 3))))
theorem eqv_nil_ints (xs : List Int) : D.eqv (.lst (xs.map D.int)) (.lst []) = decide (xs = []) := eqv_lst D.int eqv_int xs []
theorem rng_ints (n : Nat) : rng n 0 1 = ((List.range n).map fun i => ((i : Nat) : Int)).map D.int := by
  rw [rng_map, List.map_map]
  congr 1
  funext i
  simp
theorem rd_L_order : ∀ S xs Φ, F_L_order S xs Φ → b_L_order (rtO S Φ) (.arg S :: slots xs 4) := by
  rintro S xs Φ ⟨dS, most, rfl, m0, m1, k⟩
  refine ⟨m0, by omega, trivial, by simp, trivial, ?_⟩
  refine for_open ⟨dS, 4, rfl, by decide, by decide, fun a S1 a0 a1 d1 r1 => ⟨d1, 7, rfl, by decide, by decide, fun b S2 b0 b1 d2 r2 => ⟨by simp, d2, 2, rfl, by decide, by decide, fun c S3 c0 c1 d3 r3 => ?_⟩⟩⟩
  have a3 : After S S3 := (After.trans ⟨d1, r1⟩ ⟨d2, r2⟩).trans ⟨d3, r3⟩
  have main : ∀ n : Int, 0 ≤ n → n ≤ 6 → dForL (dgName 4) (dIfS (dTest (dCmpOwn neD 2 (dV (dLst dNil)))) (dDrop (dApp 3 (dTup (dCons (dV (dPop 2 (dV (dCallO F_L_next 0 (dCons (dV (dLenOwn 2)) dNil))))) (dCons (dOp eqD (dV (dCallO F_L_next 0 (dCons (dC (.int 3)) dNil))) (dC (.int 2))) dNil))))) dNext)
      { rtO S Φ with nx := dRetM 3 (rtO S Φ) } (rng n.toNat 0 1) [.arg S3, .val (.int most), .own (rng most.toNat 0 1), .own [], .un] := by
    intro n n0 n1
    refine forL_inv (fun rest ρ => ∃ (left : List Int) (o : Order) (S' : OT) (s : Sl), o.length + rest.length ≤ 6 ∧ left.Nodup ∧ (o.map (·.1)).Nodup ∧ (∀ p ∈ o, p.1 ∉ left) ∧ (∀ x ∈ left, 0 ≤ x ∧ x < most) ∧ (∀ p ∈ o, 0 ≤ p.1 ∧ p.1 < most) ∧ left.length ≤ 12 ∧ After S S' ∧ dat s ∧
        ρ = [.arg S', .val (.int most), .own (left.map D.int), .own (o.map ordD), s]) ?_ ?_
      ⟨(List.range most.toNat).map fun i => ((i : Nat) : Int), [], S3, .un, by rw [rng_length]; simp; omega, ?_, List.nodup_nil, by simp, ?_, by simp, by simp; omega, a3, .un, by rw [rng_ints]; rfl⟩
    · rintro x rest ρ ⟨left, o, S', s, hlen, nl, no, dis, rl, ro, ll, a', fs, rfl⟩ K hK
      rw [List.length_cons] at hlen
      refine ⟨fs.free rfl, ?_⟩
      refine cmpOwn_of (i := 2) (ρ := [.arg S', .val (.int most), .own (left.map D.int), .own (o.map ordD), .val x]) (ρ1 := [.arg S', .val (.int most), .own (left.map D.int), .own (o.map ordD), .val x]) (x := .lst (left.map D.int)) (y := .lst []) rfl (fun Ψ h => ⟨by simp, h⟩) rfl ?_
      refine ⟨ok_lst D.int fun _ _ => ok_int _ _, rfl, ?_⟩
      rw [eqv_nil_ints]
      by_cases he : left = []
      · rw [decide_eq_true he]
        exact hK _ ⟨left, o, S', .val x, by omega, nl, no, dis, rl, ro, ll, a', .val _, rfl⟩
      · rw [decide_eq_false he]
        have lp := List.length_pos_iff.mpr he
        refine ⟨a'.1, ((left.map D.int).length : Int), rfl, by rw [List.length_map]; omega, by rw [List.length_map]; omega, fun i S4 i0 i1 d4 r4 => ?_⟩
        rw [List.length_map] at i1
        have hi : i.toNat < left.length := by omega
        have hat : (left.map D.int)[i.toNat]? = some (.int left[i.toNat]) := by rw [List.getElem?_map, List.getElem?_eq_getElem hi]; rfl
        refine ⟨i0, by omega, ?_⟩
        show match (left.map D.int)[i.toNat]? with | some y => _ | none => _
        rw [hat]
        refine ⟨d4, 3, rfl, by decide, by decide, fun f S5 f0 f1 d5 r5 => ⟨ok_int _ _, ok_int _ _, by simp, by rw [List.length_map]; omega, ?_⟩⟩
        rw [eqv_int]
        have el : (left.map D.int).eraseIdx i.toNat = (left.eraseIdx i.toNat).map D.int := by rw [List.eraseIdx_eq_take_drop_succ, List.eraseIdx_eq_take_drop_succ, List.map_append, List.map_take, List.map_drop]
        have sub := List.eraseIdx_sublist left i.toNat
        have hm : left[i.toNat] ∈ left := List.getElem_mem hi
        have nin : left[i.toNat] ∉ left.eraseIdx i.toNat := by
          have e1 : left = left.take i.toNat ++ left[i.toNat] :: left.drop (i.toNat + 1) := by rw [← List.drop_eq_getElem_cons hi, List.take_append_drop]
          have nd2 := nl
          rw [e1] at nd2
          obtain ⟨_, n2, n3⟩ := List.nodup_append.mp nd2
          rw [List.eraseIdx_eq_take_drop_succ]
          intro h
          rcases List.mem_append.mp h with h | h
          · exact n3 _ h _ List.mem_cons_self rfl
          · exact (List.nodup_cons.mp n2).1 h
        have fin : K [.arg S5, .val (.int most), .own ((left.eraseIdx i.toNat).map D.int), .own ((o ++ [(left[i.toNat], decide (f = 2))]).map ordD), .val x] := by
          refine hK _ ⟨left.eraseIdx i.toNat, o ++ [(left[i.toNat], decide (f = 2))], S5, .val x, by rw [List.length_append]; simp; omega, nl.sublist sub, ?_, fun p hp => ?_, fun y hy => rl y (sub.subset hy), fun p hp => ?_, Nat.le_trans sub.length_le ll, (a'.trans ⟨d4, r4⟩).trans ⟨d5, r5⟩, .val _, rfl⟩
          · rw [List.map_append]
            refine List.nodup_append.mpr ⟨no, by simp, fun y hy z hz e => ?_⟩
            obtain ⟨p, hp, rfl⟩ := List.mem_map.mp hy
            simp at hz
            exact dis p hp (by rw [e, hz]; exact hm)
          · rcases List.mem_append.mp hp with h | h
            · exact fun q => dis p h (sub.subset q)
            · rw [List.mem_singleton.mp h]; exact nin
          · rcases List.mem_append.mp hp with h | h
            · exact ro p h
            · rw [List.mem_singleton.mp h]; exact rl _ hm
        rw [← el, List.map_append] at fin
        exact fin
    · rintro ρ ⟨left, o, S', s, hlen, nl, no, dis, rl, ro, ll, a', fs, rfl⟩
      refine ⟨a'.2, k o S' ⟨by simp at hlen; exact hlen, no, fun p hp => ⟨(ro p hp).1, by have := (ro p hp).2; omega⟩⟩ (fun p hp => (ro p hp).2) a'⟩
    · rw [List.nodup_iff_pairwise_ne, List.pairwise_map]
      exact (List.nodup_iff_pairwise_ne.mp List.nodup_range).imp fun h e => h (by omega)
    · intro x hx
      obtain ⟨i, hi, rfl⟩ := List.mem_map.mp hx
      have := List.mem_range.mp hi
      omega
  obtain rfl | rfl : c = 0 ∨ c = 1 := by omega
  · exact ⟨(by unfold inR; omega), main a a0 (by omega)⟩
  · exact ⟨(by unfold inR; omega), main b b0 (by omega)⟩
/-! ### the law's sorting -/
def F_L_sorted : DF := fun xs Φ => ∃ (d : List Card) (o : Order), xs = [deckD d, orderD o] ∧ d.length < 64 ∧ (∀ c ∈ d, CardOk c) ∧ (∀ p ∈ o, 0 ≤ p.1 ∧ p.1 < 12) ∧ Φ (.val (deckD (sortO o d)))
/- slots of _law_sorted: 0 _law_deck_here, 1 _law_order_here, 2 _law_found, 3 _law_column_here, 4 _law_falling, 5 _law_rows, 6 _law_later, 7 _law_row, 8 _law_card -/
def b_L_sorted : DS := (dSeq (dSet 2 (dR (dV (dCB listD (dCons (dVar 0) dNil)))))
  (dSeq (dFor (diAny (dV (dRevL (dVar 1)))) (dgTup 2 (dgCons (dgName 3) (dgCons (dgName 4) dgNil))) (dSeq (dSet 5 (dR (dV (dSortSet (dV (dLc (diAny (dVar 2)) (dgName 8) dYes (dV (dCall F_L_key (dCons (dV (dCall F_L_column (dCons (dVar 8) (dCons (dVar 3) dNil)))) dNil))) [8]))))))
  (dSeq (dIfS (dTest (dVar 4)) (dSet 5 (dR (dV (dRevL (dVar 5))))) dNext)
  (dSeq (dSet 6 (dR (dV (dLst dNil))))
  (dSeq (dFor (diAny (dVar 5)) (dgName 7) (dSet 6 (dR (dV (dOpR addD (dVar 6) (dV (dLc (diAny (dVar 2)) (dgName 8) (dTest (dOp eqD (dV (dCall F_L_key (dCons (dV (dCall F_L_column (dCons (dVar 8) (dCons (dVar 3) dNil)))) dNil))) (dVar 7))) (dVar 8) [8])))))))
  (dSet 2 (dR (dVar 6))))))))
  (dRet (dR (dVar 2)))))
theorem sortSet_open {d : DE} {ρ ρ1 : List Sl} {Φ : Sl → List Sl → Prop} (ps : List (Int × Int)) (h : ∀ Ψ : D → List Sl → Prop, Ψ (.lst (ps.map pairD)) ρ1 → d ρ Ψ) (few : ps.length < 64) (k : ∀ qs : List (Int × Int), (∀ q, q ∈ qs ↔ q ∈ ps) → qs.Pairwise (fun a b => SrtO.lexB a b = true) → Φ (.own (qs.map pairD)) ρ1) : dSortSet d ρ Φ := by
  unfold dSortSet
  refine h _ ?_
  show match D.pairs (ps.map pairD) with | some ps => _ | none => _
  rw [pairs_map]
  exact ⟨few, k⟩
theorem rd_L_sorted : ∀ xs Φ, F_L_sorted xs Φ → b_L_sorted (rtV Φ) (slots xs 9) := by
  rintro xs Φ ⟨d, o, rfl, hl, hd, hp, k⟩
  refine ⟨trivial, ?_⟩
  refine for_open ?_
  have er : (o.map ordD).reverse = o.reverse.map ordD := List.map_reverse.symm
  show dForL _ _ _ ((o.map ordD).reverse) _
  rw [er]
  refine forL_inv (fun rest ρ => ∃ (pre post : Order) (d' : List Card) (s3 s4 s5 s6 s7 : Sl), o = post ++ pre ∧ rest = post.reverse.map ordD ∧ SrtO.Srtd (ltO pre) d' ∧ SrtO.Stb (ltO pre) d' d ∧ dat s3 ∧ dat s4 ∧ dat s5 ∧ dat s6 ∧ dat s7 ∧ ρ = [.val (deckD d), .val (orderD o), .val (deckD d'), s3, s4, s5, s6, s7, .un]) ?_ ?_
    ⟨[], o, d, .un, .un, .un, .un, .un, (List.append_nil o).symm, rfl, SrtO.srtd_eq fun _ _ _ _ => rfl, SrtO.Stb.refl d, .un, .un, .un, .un, .un, rfl⟩
  · rintro x rest ρ ⟨pre, post, d', s3, s4, s5, s6, s7, e1, e2, hs, hb, f3, f4, f5, f6, f7, rfl⟩ K hK
    rcases snoc_or_nil post with rfl | ⟨post, p, rfl⟩
    · cases e2
    · rw [List.reverse_append] at e2
      cases e2
      have pm : p ∈ o := by rw [e1]; simp
      obtain ⟨p0, p1⟩ := hp p pm
      have dl : d'.length = d.length := hb.len
      have dm : ∀ c ∈ d', CardOk c := fun c hc => hd c (hb.perm.subset hc)
      refine ⟨rfl, f3.free rfl, f4.free rfl, ?_⟩
      refine sortSet_open (d'.map (keyAt p)) (ρ1 := [.val (deckD d), .val (orderD o), .val (deckD d'), .val (.int p.1), .val (.bl p.2), s5, s6, s7, .un]) (fun Ψ h => ?_) (by rw [List.length_map]; omega) fun qs hm ho => ⟨f5.free rfl, ?_⟩
      · refine lc_map (ρ1 := [.val (deckD d), .val (orderD o), .val (deckD d'), .val (.int p.1), .val (.bl p.2), s5, s6, s7, .un]) d' cardD (fun c => pairD (keyAt p c)) (fun Ψ h => h) (by omega) (.inl rfl) (fun c hc Ψ h => ?_) ?_
        · exact ⟨c, p.1, rfl, by have := (dm c hc).1; omega, p0, p1, colAt c p.1, rfl, (dm c hc).col p.1, h⟩
        · rw [List.map_map] at h
          exact h
      have groupsOk := groups (p := p) (d := d') hm ho
      have main : ∀ ks : List (Int × Int), ks = (if p.2 = true then qs.reverse else qs) →
          dSeq (dSet 6 (dR (dV (dLst dNil)))) (dSeq (dFor (diAny (dVar 5)) (dgName 7) (dSet 6 (dR (dV (dOpR addD (dVar 6) (dV (dLc (diAny (dVar 2)) (dgName 8) (dTest (dOp eqD (dV (dCall F_L_key (dCons (dV (dCall F_L_column (dCons (dVar 8) (dCons (dVar 3) dNil)))) dNil))) (dVar 7))) (dVar 8) [8])))))))
  (dSet 2 (dR (dVar 6)))) { rtV Φ with nx := K, ct := K, bk := dRet (dR (dVar 2)) (rtV Φ) } [.val (deckD d), .val (orderD o), .val (deckD d'), .val (.int p.1), .val (.bl p.2), .val (.lst (ks.map pairD)), s6, s7, .un] := by
        intro ks hks
        refine ⟨by simp, f6.free rfl, ?_⟩
        refine for_open ?_
        show dForL _ _ _ (ks.map pairD) _
        refine forL_inv (fun rest ρ => ∃ (k1 k2 : List (Int × Int)) (s7 : Sl), ks = k1 ++ k2 ∧ rest = k2.map pairD ∧ dat s7 ∧ ρ = [.val (deckD d), .val (orderD o), .val (deckD d'), .val (.int p.1), .val (.bl p.2), .val (.lst (ks.map pairD)), .val (deckD (k1.flatMap fun q => d'.filter fun c => decide (keyAt p c = q))), s7, .un]) ?_ ?_
          ⟨[], ks, s7, rfl, rfl, f7, rfl⟩
        · rintro x rest ρ ⟨k1, k2, s7, e3, e4, f7, rfl⟩ K2 hK2
          cases k2 with
          | nil => cases e4
          | cons q k2 =>
            cases e4
            refine ⟨f7.free rfl, ?_⟩
            have sz : (k1.flatMap fun q => d'.filter fun c => decide (keyAt p c = q)).length ≤ d'.length := by
              have := groupsOk.2.len
              rw [← hks, e3, List.flatMap_append, List.length_append] at this
              omega
            refine lc_pure (ρ1 := [.val (deckD d), .val (orderD o), .val (deckD d'), .val (.int p.1), .val (.bl p.2), .val (.lst (ks.map pairD)), .val (deckD (k1.flatMap fun q => d'.filter fun c => decide (keyAt p c = q))), .val (pairD q), .un]) d' cardD (fun c => decide (keyAt p c = q)) cardD (fun Ψ h => h) (by omega) (.inl rfl) (fun c hc Ψ h => ?_) (fun c hc _ Ψ h => h) ?_
            · refine ⟨c, p.1, rfl, by have := (dm c hc).1; omega, p0, p1, colAt c p.1, rfl, (dm c hc).col p.1, ok_pair _ _, ok_pair _ _, ?_⟩
              rw [eqv_pair]
              exact h
            · refine ⟨?_, trivial, hK2 _ ⟨k1 ++ [q], k2, .val (pairD q), by rw [e3, List.append_assoc]; rfl, rfl, .val _, ?_⟩⟩
              · rw [List.length_map, List.length_map]
                have := List.length_filter_le (fun c => decide (keyAt p c = q)) d'
                omega
              · have : deckD ((k1 ++ [q]).flatMap fun q => d'.filter fun c => decide (keyAt p c = q)) = .lst ((k1.flatMap fun q => d'.filter fun c => decide (keyAt p c = q)).map cardD ++ (d'.filter fun c => decide (keyAt p c = q)).map cardD) := by
                  unfold deckD
                  rw [List.flatMap_append, List.map_append]
                  simp
                rw [this]
                rfl
        · rintro ρ ⟨k1, k2, s7, e3, e4, f7, rfl⟩
          have : k2 = [] := by
            cases k2 with
            | nil => rfl
            | cons _ _ => cases e4
          subst this
          rw [List.append_nil] at e3
          subst e3
          rw [← hks] at groupsOk
          obtain ⟨r1, r2⟩ := radix groupsOk.1 groupsOk.2 hs hb
          exact ⟨trivial, hK _ ⟨p :: pre, post, _, .val (.int p.1), .val (.bl p.2), .val (.lst (ks.map pairD)), _, s7, by rw [e1, List.append_assoc]; rfl, rfl, r1, r2, .val _, .val _, .val _, .val _, f7, rfl⟩⟩
      cases hf : p.2 with
      | true =>
        rw [hf] at main
        refine ⟨trivial, ?_⟩
        have e : (qs.map pairD).reverse = qs.reverse.map pairD := List.map_reverse.symm
        have := main qs.reverse (by rw [if_pos rfl])
        rw [← e] at this
        exact this
      | false =>
        rw [hf] at main
        exact main qs (by rw [if_neg (by decide)])
  · rintro ρ ⟨pre, post, d', s3, s4, s5, s6, s7, e1, e2, hs, hb, f3, f4, f5, f6, f7, rfl⟩
    have : post = [] := by
      rcases snoc_or_nil post with rfl | ⟨post, p, rfl⟩
      · rfl
      · rw [List.reverse_append] at e2
        cases e2
    subst this
    rw [List.nil_append] at e1
    subst e1
    have := sort_uniq (ltO_swo o) hs hb
    rw [sortO, ← this] at k
    exact k
end DL
set_option Elab.async false
set_option linter.all false
set_option maxRecDepth 100000
set_option maxHeartbeats 2000000
namespace DL
open PySem PySem.Spec PyProof.Rows L2 RT
variable [Tabl]

/-! ### signs -/
def signsS : Str := " 0123456789-KLMNOPQRST+ABCDEFGHIJ"
def cpOf (c : Col) : Nat := signsS.cps.toList.getD (every.idxOf c) 0
def signOf (c : Col) : Str := ⟨#[cpOf c]⟩
def figsS : Str := "0123456789"
def over3 : List (Int × Str) := [(-1, " "), (10, "-"), (11, "+")]
def letters : List (Int × Str) := [(10, "KLMNOPQRST"), (11, "ABCDEFGHIJ")]
theorem fact1 : ∀ c ∈ every, figOf c < 0 → over3.lookup (overOf c) = some (signOf c) := by decide +kernel
theorem fact2 : ∀ c ∈ every, 0 ≤ figOf c → overOf c < 0 → atI figsS.cps.toList (figOf c) = some (cpOf c) := by decide +kernel
theorem fact3 : ∀ c ∈ every, 0 ≤ figOf c → 0 ≤ overOf c → ((letters.lookup (overOf c)).bind fun s => atI s.cps.toList (figOf c)) = some (cpOf c) := by decide +kernel
theorem fact4 : ∀ c ∈ every, indexL (colD c) (every.map colD) = some (every.idxOf c) := by decide +kernel
theorem fact5 : ∀ c ∈ every, atI signsS.cps.toList ((every.idxOf c : Nat) : Int) = some (cpOf c) := by decide +kernel
theorem fact6 : ∀ c ∈ every, cpOf c < 1114112 ∧ cpOf c ≠ 10 := by decide +kernel
theorem fact7 : ∀ c ∈ every, every.find? (fun x => decide (cpOf x = cpOf c)) = some c := by decide +kernel
theorem fact8 : ∀ c ∈ every, overOf c = -1 ∨ overOf c = 10 ∨ overOf c = 11 := by decide +kernel
def F_all_columns : DF := fun xs Φ => xs = [] ∧ Φ (.own (every.map colD))
/- slots of all_columns: 0 found, 1 over, 2 figure -/
def b_all_columns : DS := (dSeq (dSet 0 (dLst dNil))
  (dSeq (dFor (diAny (dV (dLst (dCons (dTup dNil) (dCons (dTup (dCons (dC (.int 10)) dNil)) (dCons (dTup (dCons (dC (.int 11)) dNil)) dNil)))))) (dgName 1) (dSeq (dDrop (dApp 0 (dVar 1)))
  (dDrop (dExt 0 (dV (dLc (diRng1 (dC (.int 10))) (dgName 2) dYes (dV (dOpR addD (dTup (dCons (dVar 2) dNil)) (dVar 1))) [2]))))))
  (dRetM 0)))
theorem rd_all_columns : ∀ xs Φ, F_all_columns xs Φ → b_all_columns (rtV Φ) (slots xs 3) := by
  rintro xs Φ ⟨rfl, k⟩
  refine ⟨by decide, trivial, ?_⟩
  refine for_inv' ([([] : Col), [10], [11]].map colD) (fun Ψ h => ⟨by decide, by decide, by decide, by decide, h⟩) (fun rest ρ => ∃ (pre post : List Col) (s : Sl), [([] : Col), [10], [11]] = pre ++ post ∧ rest = post.map colD ∧ ρ = [.own ((pre.flatMap blockC).map colD), s, .un] ∧ free [.own ((pre.flatMap blockC).map colD), s, .un] 1)
    ⟨[], _, .un, rfl, rfl, rfl, trivial⟩ ?_ ?_
  · rintro d rest ρ ⟨pre, post, s, e1, e, rfl, fr⟩ K hK
    cases post with
    | nil => cases e
    | cons o post =>
      cases e
      have ho : o ∈ [([] : Col), [10], [11]] := by rw [e1]; exact List.mem_append_right _ List.mem_cons_self
      have ol : o.length ≤ 1 := by
        have : ∀ x ∈ [([] : Col), [10], [11]], x.length ≤ 1 := by decide
        exact this o ho
      have pl : pre.length ≤ 3 := by
        have := congrArg List.length e1
        rw [List.length_append] at this
        simp at this
        omega
      have bl : ((pre.flatMap blockC).map colD).length ≤ 33 := by
        rw [List.length_map, List.length_flatMap]
        have : ∀ l : List Col, (l.map fun x => (blockC x).length).sum = 11 * l.length := fun l => by
          induction l with
          | nil => rfl
          | cons x l ih =>
            rw [List.map_cons, List.sum_cons, ih, List.length_cons]
            simp [blockC]
            omega
        rw [this]
        omega
      refine ⟨fr, by omega, ?_⟩
      refine lc_map (ρ1 := [.own ((pre.flatMap blockC).map colD ++ [colD o]), .val (colD o), .un]) (List.range 10) (fun f => .int f) (fun f => colD ((f : Int) :: o)) (fun Ψ h => ⟨by unfold inR; decide, h⟩) (by decide) (.inl rfl) (fun d _ Ψ h => ?_) ?_
      · exact ⟨by simp, (by show 1 + (o.map D.int).length ≤ 1000000; rw [List.length_map]; omega), h⟩
      · refine ⟨?_, hK _ ⟨pre ++ [o], post, .val (colD o), by rw [e1, List.append_assoc]; rfl, rfl, ?_, trivial⟩⟩
        · have hb : (pre.flatMap blockC).length ≤ 33 := by rw [List.length_map] at bl; exact bl
          simp only [List.length_append, List.length_map, List.length_range, List.length_cons, List.length_nil]
          omega
        · have : (List.flatMap blockC (pre ++ [o])).map colD = (pre.flatMap blockC).map colD ++ [colD o] ++ (List.range 10).map fun f => colD (((f : Nat) : Int) :: o) := by
            rw [List.flatMap_append, List.map_append, List.append_assoc]
            simp [blockC, Function.comp_def]
          rw [this]
          rfl
  · rintro ρ ⟨pre, post, s, e1, e, rfl, fr⟩
    have : post = [] := by
      cases post with
      | nil => rfl
      | cons _ _ => cases e
    subst this
    rw [List.append_nil] at e1
    subst e1
    exact k
def F_sign_of : DF := fun xs Φ => ∃ c : Col, xs = [colD c] ∧ c ∈ every ∧ Φ (.val (.str (signOf c)))
/- slots of sign_of: 0 column, 1 figure, 2 over -/
def b_sign_of : DS := (dSeq (dSet 1 (dR (dV (dCall F_figure_of (dCons (dVar 0) dNil)))))
  (dSeq (dSet 2 (dR (dV (dCall F_over_of (dCons (dVar 0) dNil)))))
  (dSeq (dIfS (dTest (dOp ltD (dVar 1) (dC (.int 0)))) (dRet (dR (dOp ixD (dV (dDict (dpCons (dUn negD (dC (.int 1))) (dC (.str " ")) (dpCons (dC (.int 10)) (dC (.str "-")) (dpCons (dC (.int 11)) (dC (.str "+")) dpNil))))) (dVar 2)))) dNext)
  (dSeq (dIfS (dTest (dOp ltD (dVar 2) (dC (.int 0)))) (dRet (dR (dOp ixD (dC (.str "0123456789")) (dVar 1)))) dNext)
  (dRet (dR (dOp ixD (dIxI [(10, "KLMNOPQRST"), (11, "ABCDEFGHIJ")] (dVar 2)) (dVar 1))))))))
theorem ixS {z : Str} {i : Int} {cp : Nat} {Ψ : D → Prop} (hl : z.length ≤ 1000000) (h : atI z.cps.toList i = some cp) (k : Ψ (.str ⟨#[cp]⟩)) : ixD (.str z) (.int i) Ψ := by
  show z.length ≤ 1000000 ∧ match atI z.cps.toList i with | some c => _ | none => _
  rw [h]
  exact ⟨hl, k⟩
theorem rd_sign_of : ∀ xs Φ, F_sign_of xs Φ → b_sign_of (rtV Φ) (slots xs 3) := by
  rintro xs Φ ⟨c, rfl, hc, k⟩
  refine ⟨c, rfl, trivial, c, rfl, trivial, ?_⟩
  refine iteD (fun h => ?_) (fun h => ?_)
  · have f1 := fact1 c hc h
    have leaf : ∀ o : Int, over3.lookup o = some (signOf c) → (o = -1 ∨ o = 10 ∨ o = 11) → ∀ s0 s1 : Sl, dRet (dR (dOp ixD (dV (dDict (dpCons (dUn negD (dC (.int 1))) (dC (.str " ")) (dpCons (dC (.int 10)) (dC (.str "-")) (dpCons (dC (.int 11)) (dC (.str "+")) dpNil))))) (dVar 2))) (rtV Φ) [s0, s1, .val (.int o)] := by
      rintro o ho (rfl | rfl | rfl) s0 s1
      · have e : signOf c = " " := (Option.some.inj ho).symm
        rw [e] at k
        exact ⟨by decide, by decide, k⟩
      · have e : signOf c = "-" := (Option.some.inj ho).symm
        rw [e] at k
        exact ⟨by decide, by decide, k⟩
      · have e : signOf c = "+" := (Option.some.inj ho).symm
        rw [e] at k
        exact ⟨by decide, by decide, k⟩
    exact leaf _ f1 (fact8 c hc) _ _
  · refine iteD (fun h2 => ?_) (fun h2 => ?_)
    · have q : ixD (.str figsS) (.int (figOf c)) (fun z => Φ (.val z)) := ixS (by decide +kernel) (fact2 c hc (by omega) h2) k
      exact q
    · have f3 := fact3 c hc (by omega) (by omega)
      have leaf : ∀ o : Int, ((letters.lookup o).bind fun s => atI s.cps.toList (figOf c)) = some (cpOf c) → (o = -1 ∨ o = 10 ∨ o = 11) → ∀ s0 : Sl, dRet (dR (dOp ixD (dIxI [(10, "KLMNOPQRST"), (11, "ABCDEFGHIJ")] (dVar 2)) (dVar 1))) (rtV Φ) [s0, .val (.int (figOf c)), .val (.int o)] := by
        rintro o ho (rfl | rfl | rfl) s0
        · cases ho
        · have q : ixD (.str "KLMNOPQRST") (.int (figOf c)) (fun z => Φ (.val z)) := ixS (by decide +kernel) ho k
          exact q
        · have q : ixD (.str "ABCDEFGHIJ") (.int (figOf c)) (fun z => Φ (.val z)) := ixS (by decide +kernel) ho k
          exact q
      exact leaf _ f3 (fact8 c hc) _
/-! ### a sign's column -/
def columnBy (s : Str) : Option Col := every.find? fun c => decide (signOf c = s)
def optD : Option Col → D
  | some c => colD c
  | none => .non
def F_column_by : DF := fun xs Φ => ∃ s : Str, xs = [.str s] ∧ PyData.strOk s = true ∧ Φ (.val (optD (columnBy s)))
/- slots of column_by: 0 sign, 1 column -/
def b_column_by : DS := (dSeq (dFor (diAny (dV (dCall F_all_columns dNil))) (dgName 1) (dIfS (dTest (dOp eqD (dV (dCall F_sign_of (dCons (dVar 1) dNil))) (dVar 0))) (dRet (dR (dVar 1))) dNext))
  (dRet (dR (dC .non))))
theorem eqv_str (a b : Str) : D.eqv (.str a) (.str b) = decide (a = b) := by
  show (a == b) = _
  by_cases h : a = b <;> simp [h]
theorem sign_ok {c : Col} (h : c ∈ every) : PyData.strOk (signOf c) = true := by
  have := (fact6 c h).1
  show (#[cpOf c] : Array Nat).all (· < 0x110000) = true
  simp
  exact this
theorem rd_column_by : ∀ xs Φ, F_column_by xs Φ → b_column_by (rtV Φ) (slots xs 2) := by
  rintro xs Φ ⟨s, rfl, ok, k⟩
  refine for_open ⟨rfl, ?_⟩
  refine forL_inv (fun rest ρ => ∃ (post : List Col) (s1 : Sl), rest = post.map colD ∧ (∀ c ∈ post, c ∈ every) ∧ Φ (.val (optD (post.find? fun c => decide (signOf c = s)))) ∧ ρ = [.val (.str s), s1] ∧ free [.val (.str s), s1] 1) ?_ ?_ ⟨every, .un, rfl, fun _ h => h, k, rfl, trivial⟩
  · rintro d rest ρ ⟨post, s1, e, hm, k, rfl, fr⟩ K hK
    cases post with
    | nil => cases e
    | cons c post =>
      cases e
      have hc := hm c List.mem_cons_self
      refine ⟨fr, c, rfl, hc, sign_ok hc, ok, ?_⟩
      rw [eqv_str]
      rw [List.find?_cons] at k
      refine iteD (fun h => ?_) (fun h => ?_)
      · rw [decide_eq_true h] at k
        exact k
      · rw [decide_eq_false h] at k
        exact hK _ ⟨post, .val (colD c), rfl, fun x hx => hm x (List.mem_cons_of_mem _ hx), k, rfl, trivial⟩
  · rintro ρ ⟨post, s1, e, hm, k, rfl, fr⟩
    cases post with
    | nil => exact k
    | cons _ _ => cases e
theorem signOf_inj {a b : Col} : signOf a = signOf b ↔ cpOf a = cpOf b := by
  constructor
  · intro h
    have : (⟨#[cpOf a]⟩ : Str) = ⟨#[cpOf b]⟩ := h
    injection this with h
    simpa using h
  · intro h
    unfold signOf
    rw [h]
theorem columnBy_sign {c : Col} (h : c ∈ every) : columnBy (signOf c) = some c := by
  have := fact7 c h
  unfold columnBy
  rw [← this]
  congr 1
  funext x
  simp only [signOf_inj]
/-! ### texts -/
def textOf (c : Card) : Str := Txt.join "" (c.map signOf)
def textD (d : List Card) : Str := Txt.join "\n" (d.map textOf)
theorem joinL_nil : ∀ ls : List (List Nat), TL.joinL [] ls = ls.flatten
  | [] => rfl
  | [p] => by simp [TL.joinL]
  | p :: q :: r => by
    show p ++ ([] ++ TL.joinL [] (q :: r)) = _
    rw [joinL_nil (q :: r)]
    simp
theorem tl_empty : TL.tl ("" : Str) = [] := by decide +kernel
theorem tl_line : TL.tl ("\n" : Str) = [10] := by decide +kernel
theorem tl_text (c : Card) : TL.tl (textOf c) = c.map cpOf := by
  unfold textOf
  rw [TL.join_eq, TL.tl_join, tl_empty, joinL_nil, List.map_map]
  induction c with
  | nil => rfl
  | cons x c ih =>
    rw [List.map_cons, List.flatten_cons, ih]
    rfl
theorem tl_len (x : Str) : (TL.tl x).length = x.length := by
  show x.cps.toList.length = x.cps.size
  simp
theorem text_len (c : Card) : (textOf c).length = c.length := by
  rw [← tl_len, tl_text, List.length_map]
theorem strOk_tl {x : Str} (h : ∀ n ∈ TL.tl x, n < 1114112) : PyData.strOk x = true := by
  unfold PyData.strOk
  rw [Array.all_eq_true']
  intro n hn
  have : n ∈ TL.tl x := by
    show n ∈ x.cps.toList
    simpa using hn
  simpa using h n this
theorem text_ok {c : Card} (h : CardOk c) : PyData.strOk (textOf c) = true := strOk_tl fun n hn => by
  rw [tl_text] at hn
  obtain ⟨x, hx, rfl⟩ := List.mem_map.mp hn
  exact (fact6 x (h.2 x hx)).1
theorem joinL_mem {S : List Nat} {n : Nat} : ∀ {ls : List (List Nat)}, n ∈ TL.joinL S ls → n ∈ S ∨ ∃ l ∈ ls, n ∈ l
  | [], h => nomatch h
  | [p], h => .inr ⟨p, List.mem_singleton.mpr rfl, h⟩
  | p :: q :: r, h => by
    have h' : n ∈ p ++ (S ++ TL.joinL S (q :: r)) := h
    rcases List.mem_append.mp h' with h1 | h1
    · exact .inr ⟨p, List.mem_cons_self, h1⟩
    · rcases List.mem_append.mp h1 with h2 | h2
      · exact .inl h2
      · rcases joinL_mem h2 with h3 | ⟨l, hl, h3⟩
        · exact .inl h3
        · exact .inr ⟨l, List.mem_cons_of_mem _ hl, h3⟩
theorem tl_deck (d : List Card) : TL.tl (textD d) = TL.joinL [10] (d.map fun c => c.map cpOf) := by
  unfold textD
  rw [TL.join_eq, TL.tl_join, tl_line, List.map_map]
  congr 1
  exact List.map_congr_left fun c _ => tl_text c
theorem deck_ok {d : List Card} (h : ∀ c ∈ d, CardOk c) : PyData.strOk (textD d) = true := strOk_tl fun n hn => by
  rw [tl_deck] at hn
  rcases joinL_mem hn with q | ⟨l, hl, q⟩
  · rw [List.mem_singleton.mp q]; decide
  · obtain ⟨c, hc, rfl⟩ := List.mem_map.mp hl
    obtain ⟨x, hx, rfl⟩ := List.mem_map.mp q
    exact (fact6 x ((h c hc).2 x hx)).1
theorem split_deck {d : List Card} (hne : d ≠ []) (h : ∀ c ∈ d, CardOk c) : Txt.split (textD d) "\n" = d.map textOf := by
  refine TL.split_join (s := 10) (S := []) tl_line (by decide +kernel) (fun e => hne (List.map_eq_nil_iff.mp e)) fun p hp hm => ?_
  obtain ⟨c, hc, rfl⟩ := List.mem_map.mp hp
  rw [tl_text] at hm
  obtain ⟨x, hx, e⟩ := List.mem_map.mp hm
  exact (fact6 x ((h c hc).2 x hx)).2 e
theorem joinL_len {S : List Nat} : ∀ ls : List (List Nat), (TL.joinL S ls).length ≤ (ls.map fun l => l.length + S.length).sum
  | [] => Nat.zero_le _
  | [p] => by simp [TL.joinL]
  | p :: q :: r => by
    have := joinL_len (S := S) (q :: r)
    show (p ++ (S ++ TL.joinL S (q :: r))).length ≤ _
    rw [List.length_append, List.length_append, List.map_cons, List.sum_cons]
    omega
theorem sum_le {α : Type} {f : α → Nat} {n : Nat} : ∀ {l : List α}, (∀ x ∈ l, f x ≤ n) → (l.map f).sum ≤ l.length * n
  | [], _ => Nat.zero_le _
  | x :: l, h => by
    have h1 := h x List.mem_cons_self
    have h2 := sum_le (l := l) fun y hy => h y (List.mem_cons_of_mem _ hy)
    rw [List.map_cons, List.sum_cons, List.length_cons, Nat.add_mul]
    omega
theorem deck_len {d : List Card} (h : ∀ c ∈ d, CardOk c) : (textD d).length ≤ d.length * 13 := by
  rw [← tl_len, tl_deck]
  refine Nat.le_trans (joinL_len _) ?_
  rw [List.map_map]
  refine sum_le fun c hc => ?_
  have := (h c hc).1
  show (c.map cpOf).length + 1 ≤ 13
  rw [List.length_map]
  omega
theorem deck_ne {d : List Card} (hne : d ≠ []) (h1 : ∀ c ∈ d, 1 ≤ c.length) : ¬ textD d = ("" : Str) := by
  intro e
  have := congrArg TL.tl e
  rw [tl_deck, tl_empty] at this
  cases d with
  | nil => exact hne rfl
  | cons c d =>
    have hc := h1 c List.mem_cons_self
    have hl : c.map cpOf = [] := by
      cases d with
      | nil => exact this
      | cons c2 d =>
        have q : c.map cpOf ++ ([10] ++ TL.joinL [10] ((c2 :: d).map fun c => c.map cpOf)) = [] := this
        exact (List.append_eq_nil_iff.mp q).1
    rw [List.map_eq_nil_iff] at hl
    rw [hl] at hc
    simp at hc
/-- the signs of a card's text, one by one -/
theorem signs_text (c : Card) : signs (textOf c) = c.map fun x => D.str (signOf x) := by
  show (textOf c).cps.toList.map _ = _
  have : (textOf c).cps.toList = c.map cpOf := tl_text c
  rw [this, List.map_map]
  rfl
theorem join_open {a : Str} {ds : List D} {ys : List Str} {Φ : Sl → Prop} (e : ds = ys.map D.str) (hl : (ys.map (·.length)).sum + ys.length * a.length ≤ 1000000) (k : Φ (.val (.str (Txt.join a ys)))) : joinD (.str a) [.lst ds] Φ := by
  subst e
  unfold joinD
  show match D.strs (ys.map D.str) with | some ys => _ | none => _
  rw [strs_map]
  exact ⟨hl, k⟩
end DL
set_option Elab.async false
set_option linter.all false
set_option maxRecDepth 100000
set_option maxHeartbeats 2000000
namespace DL
open PySem PySem.Spec PyProof.Rows L2 RT
variable [Tabl]

/-! ### a card's text, a deck's -/
theorem join_text {c : Card} (h : CardOk c) {Φ : Sl → Prop} (k : Φ (.val (.str (textOf c)))) : joinD (.str "") [.lst (c.map fun x => D.str (signOf x))] Φ := by
  refine join_open (ys := c.map signOf) (by rw [List.map_map]; rfl) ?_ k
  have h1 : ((c.map signOf).map (·.length)).sum ≤ (c.map signOf).length * 1 := sum_le fun x hx => by
    obtain ⟨y, _, rfl⟩ := List.mem_map.mp hx
    exact Nat.le_refl 1
  have h2 : ("" : Str).length = 0 := by decide +kernel
  rw [List.length_map] at h1 ⊢
  have := h.1
  rw [h2]
  omega
theorem join_deck {d : List Card} (hl : d.length ≤ 1000) (h : ∀ c ∈ d, CardOk c) {Φ : Sl → Prop} (k : Φ (.val (.str (textD d)))) : joinD (.str "\n") [.lst (d.map fun c => D.str (textOf c))] Φ := by
  refine join_open (ys := d.map textOf) (by rw [List.map_map]; rfl) ?_ k
  have h1 : ((d.map textOf).map (·.length)).sum ≤ (d.map textOf).length * 12 := sum_le fun x hx => by
    obtain ⟨c, hc, rfl⟩ := List.mem_map.mp hx
    rw [text_len]
    exact (h c hc).1
  have h2 : ("\n" : Str).length = 1 := by decide +kernel
  rw [List.length_map] at h1 ⊢
  rw [h2]
  omega
def F_text_of : DF := fun xs Φ => ∃ c : Card, xs = [cardD c] ∧ CardOk c ∧ Φ (.val (.str (textOf c)))
/- slots of text_of: 0 card, 1 column -/
def b_text_of : DS := (dRet (dMt isS joinD (dC (.str "")) (dCons (dV (dLc (diAny (dVar 0)) (dgName 1) dYes (dV (dCall F_sign_of (dCons (dVar 1) dNil))) [1])) dNil)))
theorem rd_text_of : ∀ xs Φ, F_text_of xs Φ → b_text_of (rtV Φ) (slots xs 2) := by
  rintro xs Φ ⟨c, rfl, hc, k⟩
  refine ⟨trivial, ?_⟩
  refine lc_map (ρ1 := [.val (cardD c), .un]) c colD (fun x => .str (signOf x)) (fun Ψ h => h) (by have := hc.1; omega) (.inl rfl) (fun x hx Ψ h => ⟨x, rfl, hc.2 x hx, h⟩) ?_
  exact join_text hc k
def F_written : DF := fun xs Φ => ∃ d : List Card, xs = [deckD d] ∧ d.length ≤ 1000 ∧ (∀ c ∈ d, CardOk c) ∧ Φ (.val (.str (textD d)))
/- slots of written: 0 deck, 1 card -/
def b_written : DS := (dRet (dMt isS joinD (dC (.str "\n")) (dCons (dV (dLc (diAny (dVar 0)) (dgName 1) dYes (dV (dCall F_text_of (dCons (dVar 1) dNil))) [1])) dNil)))
theorem rd_written : ∀ xs Φ, F_written xs Φ → b_written (rtV Φ) (slots xs 2) := by
  rintro xs Φ ⟨d, rfl, hl, hd, k⟩
  refine ⟨trivial, ?_⟩
  refine lc_map (ρ1 := [.val (deckD d), .un]) d cardD (fun c => .str (textOf c)) (fun Ψ h => h) (by omega) (.inl rfl) (fun c hc Ψ h => ⟨c, rfl, hd c hc, h⟩) ?_
  exact join_deck hl hd k
def F_read : DF := fun xs Φ => ∃ d : List Card, xs = [.str (textD d)] ∧ d.length ≤ 200 ∧ (∀ c ∈ d, CardOk c ∧ 1 ≤ c.length) ∧ Φ (.own (d.map cardD))
/- slots of read: 0 text, 1 deck, 2 rows, 3 at, 4 card, 5 sign -/
def b_read : DS := (dSeq (dIfS (dTest (dOp eqD (dVar 0) (dC (.str "")))) (dRet (dLst dNil)) dNext)
  (dSeq (dSet 1 (dLst dNil))
  (dSeq (dSet 2 (dR (dV (dMt isS splitD (dVar 0) (dCons (dC (.str "\n")) dNil)))))
  (dSeq (dFor (diRng1 (dV (dCB lenD (dCons (dVar 2) dNil)))) (dgName 3) (dSeq (dSet 4 (dR (dV (dCB tupleD (dCons (dV (dLc (diAny (dOp ixD (dVar 2) (dVar 3))) (dgName 5) dYes (dV (dCall F_column_by (dCons (dVar 5) dNil))) [5])) dNil)))))
  (dSeq (dIfS (dOr (dTest (dOp memV (dC .non) (dVar 4))) (dOr (dNot (dTest (dChain leD leD (dC (.int 1)) (dV (dCB lenD (dCons (dVar 4) dNil))) (dC (.int 12))))) (dTest (dOp geD (dVar 3) (dC (.int 200)))))) (fun _ _ => False) dNext)
  (dDrop (dApp 1 (dVar 4))))))
  (dRetM 1)))))
theorem rd_read : ∀ xs Φ, F_read xs Φ → b_read (rtV Φ) (slots xs 6) := by
  rintro xs Φ ⟨d, rfl, hl, hd, k⟩
  have hok : ∀ c ∈ d, CardOk c := fun c hc => (hd c hc).1
  refine ⟨deck_ok hok, by decide +kernel, ?_⟩
  rw [eqv_str]
  refine iteD (fun h => ?_) (fun h => ?_)
  · cases d with
    | nil => exact ⟨by simp, k⟩
    | cons c d => exact absurd h (deck_ne (by simp) fun x hx => (hd x hx).2)
  · have hne : d ≠ [] := fun e => h (by rw [e]; decide +kernel)
    have tl := deck_len hok
    refine ⟨by simp, trivial, ?_⟩
    have rows : splitD (.str (textD d)) [.str "\n"] fun z => asD (fun x ρ1 => free ρ1 2 ∧ dSeq (dFor (diRng1 (dV (dCB lenD (dCons (dVar 2) dNil)))) (dgName 3) (dSeq (dSet 4 (dR (dV (dCB tupleD (dCons (dV (dLc (diAny (dOp ixD (dVar 2) (dVar 3))) (dgName 5) dYes (dV (dCall F_column_by (dCons (dVar 5) dNil))) [5])) dNil)))))
  (dSeq (dIfS (dOr (dTest (dOp memV (dC .non) (dVar 4))) (dOr (dNot (dTest (dChain leD leD (dC (.int 1)) (dV (dCB lenD (dCons (dVar 4) dNil))) (dC (.int 12))))) (dTest (dOp geD (dVar 3) (dC (.int 200)))))) (fun _ _ => False) dNext)
  (dDrop (dApp 1 (dVar 4))))))
  (dRetM 1) (rtV Φ) (ρ1.set 2 (.val x))) z [.val (.str (textD d)), .own [], .un, .un, .un, .un] := by
      refine ⟨by decide +kernel, by omega, ?_⟩
      rw [split_deck hne hok, List.map_map]
      refine ⟨trivial, ?_⟩
      refine for_open ⟨(by unfold inR; rw [List.length_map]; omega), ?_⟩
      refine forL_inv (fun rest ρ => ∃ (j : Nat) (s3 s4 : Sl), rest = rng (d.length - j) j 1 ∧ j ≤ d.length ∧ (s3 = .un ∨ ∃ z, s3 = .val z) ∧ (s4 = .un ∨ ∃ z, s4 = .val z) ∧ ρ = [.val (.str (textD d)), .own ((d.take j).map cardD), .val (.lst (d.map fun c => D.str (textOf c))), s3, s4, .un]) ?_ ?_
        ⟨0, .un, .un, by rw [List.length_map]; rfl, Nat.zero_le _, .inl rfl, .inl rfl, rfl⟩
      · rintro x rest ρ ⟨j, s3, s4, e, hj, f3, f4, rfl⟩ K hK
        have hlt : j < d.length := by
          rcases Nat.lt_or_ge j d.length with h | h
          · exact h
          · rw [show d.length - j = 0 by omega] at e
            cases e
        rw [show d.length - j = (d.length - (j + 1)) + 1 by omega] at e
        cases e
        obtain ⟨ck, cl⟩ := hd d[j] (List.getElem_mem hlt)
        have et : d.take (j + 1) = d.take j ++ [d[j]] := (List.take_append_getElem hlt).symm
        generalize hc : d[j] = c at ck cl et
        refine ⟨by rcases f3 with rfl | ⟨_, rfl⟩ <;> trivial, ?_⟩
        have at_j : ∀ Ψ : D → Prop, Ψ (.str (textOf c)) → ixL (d.map fun c => D.str (textOf c)) (.int (j : Nat)) Ψ := fun Ψ h => ixL_nat (d := .str (textOf c)) (by rw [List.getElem?_map, List.getElem?_eq_getElem hlt, hc]; rfl) h
        refine lc_map (ρ1 := [.val (.str (textD d)), .own ((d.take j).map cardD), .val (.lst (d.map fun c => D.str (textOf c))), .val (.int (j : Nat)), s4, .un]) c (fun x => .str (signOf x)) colD (fun Ψ h => ?_) (by have := ck.1; omega) (.inl rfl) (fun x hx Ψ h => ⟨signOf x, rfl, sign_ok (ck.2 x hx), by rw [columnBy_sign (ck.2 x hx)]; exact h⟩) ?_
        · refine at_j _ ?_
          have q : Ψ (signs (textOf c)) [.val (.str (textD d)), .own ((d.take j).map cardD), .val (.lst (d.map fun c => D.str (textOf c))), .val (.int (j : Nat)), s4, .un] := by
            rw [signs_text]
            exact h
          exact q
        · refine ⟨by rcases f4 with rfl | ⟨_, rfl⟩ <;> trivial, ?_⟩
          refine ⟨rfl, okL_map colD fun x _ => ok_col x _, ?_⟩
          have nn : ((c.map colD).any fun z => D.eqv z .non) = false := by
            rw [List.any_map, List.any_eq_false]
            intro x _
            simp [colD, D.eqv, D.py, PyData.eqv]
          rw [nn]
          have c1 : (1 : Int) ≤ ((c.map colD).length : Nat) := by rw [List.length_map]; omega
          have c2 : (((c.map colD).length : Nat) : Int) ≤ 12 := by rw [List.length_map]; have := ck.1; omega
          refine iteD (fun _ => ?_) (fun h => absurd c1 h)
          show if (!decide ((((c.map colD).length : Nat) : Int) ≤ 12)) = true then _ else _
          rw [decide_eq_true c2]
          refine iteD (fun h => ?_) (fun _ => ?_)
          · omega
          · refine ⟨by rw [List.length_map, List.length_take]; omega, hK _ ⟨j + 1, .val (.int (j : Nat)), .val (cardD c), by push_cast; rfl, hlt, .inr ⟨_, rfl⟩, .inr ⟨_, rfl⟩, ?_⟩⟩
            rw [et, List.map_append]
            rfl
      · rintro ρ ⟨j, s3, s4, e, hj, f3, f4, rfl⟩
        have : j = d.length := by
          rcases Nat.lt_or_ge j d.length with h | h
          · rw [show d.length - j = (d.length - (j + 1)) + 1 by omega] at e
            cases e
          · omega
        rw [this, List.take_of_length_le (Nat.le_refl _)]
        exact k
    exact ⟨trivial, rows⟩
def F_L_sign : DF := fun xs Φ => ∃ c : Col, xs = [colD c] ∧ c ∈ every ∧ Φ (.val (.str (signOf c)))
/- slots of _law_sign: 0 _law_column_here -/
def b_L_sign : DS := (dRet (dR (dOp ixD (dC (.str " 0123456789-KLMNOPQRST+ABCDEFGHIJ")) (dV (dMt isL indexD (dV (dCall F_L_columns dNil)) (dCons (dVar 0) dNil))))))
theorem rd_L_sign : ∀ xs Φ, F_L_sign xs Φ → b_L_sign (rtV Φ) (slots xs 1) := by
  rintro xs Φ ⟨c, rfl, hc, k⟩
  refine ⟨rfl, trivial, okL_map colD fun x _ => ok_col x _, ok_col _ _, ?_⟩
  rw [fact4 c hc]
  have q : ixD (.str signsS) (.int ((every.idxOf c : Nat) : Int)) (fun z => Φ (.val z)) := ixS (by decide +kernel) (fact5 c hc) k
  exact q
end DL
set_option Elab.async false
set_option linter.all false
set_option maxRecDepth 100000
set_option maxHeartbeats 2000000
namespace DL
open PySem PySem.Spec PyProof.Rows L2
variable [Tabl]

/-! ### instances: fields, stores, making, methods -/
def OT.adr : OT → Addr
  | .val _ => 0
  | .lst p _ => p
  | .tup p _ => p
  | .ins p _ _ _ => p
  | .dic p _ => p
theorem OT.root_adr {t : OT} (h : t.node = true) : t.root = .ref t.adr := by
  cases t with
  | val _ => cases h
  | _ => rfl
section
variable {K : PySem.W.Frag} {M : Addr → Prop} {Z G0 H0 G H : Hp} {σ : L2.St} {ρ : List Sl} {F : Nat → Addr → Prop}
/-- as put; who owns what behind it is known -/
theorem At.put2T {i : Nat} {t s' : OT} {π : List Stp} {B A' R C : List Addr} {v' : V} {G' H' : Hp} (A : At K M Z G0 H0 G H σ ρ F) (h : treeOf (ρ[i]?) = some t) (hv : σ[i]? = some (some t.root)) (nd : B.Nodup) (hF : ∀ a, F i a ↔ a ∈ B) (pm : B.Perm (A' ++ R))
    (b : ∀ (G' H' : Hp) (s' : OT) (C : List Addr), Same G G' → (∀ a ∈ R, H' a = H a) → Own K G' H' v' s' C → ∃ E, Own K G' H' t.root (t.put π s') E ∧ E.Perm (C ++ R))
    (eG : Same G G') (eGH : Same G' H') (tb' : TabG G' H') (old : ∀ a, H a ≠ none → G' a = G a) (hn : ∀ a, H a ≠ none → H' a ≠ none) (eH : ∀ a o, H a = some o → a ∉ A' → ¬ IsTab a → H' a = some o) (o : Own K G' H' v' s' C) (ndC : C.Nodup)
    (hC : ∀ a ∈ C, G' a = none ∧ H' a ≠ none ∧ (a ∈ A' ∨ H a = none ∨ (H0 a = none ∧ Z a = none ∧ ∀ j, ¬ F j a))) (node : (t.put π s').node = true) :
    ∃ F', At K M Z G0 H0 G' H' σ (ρ.set i (withTree (t.put π s') (ρ[i]?))) F' ∧ ∀ j a, F' j a → a ∈ C ∨ (a ∉ A' ∧ F j a) := by
  have hi : i < ρ.length := by
    rcases tree_sl h with e | e <;> exact (List.getElem?_eq_some_iff.mp e).1
  have ndB := (pm.nodup_iff).mp nd
  have hd := List.nodup_append.mp ndB
  have inF : ∀ a, a ∈ A' ∨ a ∈ R → F i a := fun a z => (hF a).mpr (pm.mem_iff.mpr (List.mem_append.mpr z))
  obtain ⟨E, oE, pE⟩ := b G' H' s' C eG (fun a ha => by
    have fa := inF a (.inr ha)
    obtain ⟨_, h2, _⟩ := A.fp i a fa
    cases q : H a with
    | none => exact absurd q h2
    | some u => exact eH a u q (fun z => hd.2.2 a z a ha rfl) (A.nt fa)) o
  have ndE : E.Nodup := by
    rw [pE.nodup_iff, List.nodup_append]
    refine ⟨ndC, hd.2.1, fun a ha c hc e => ?_⟩
    subst e
    have fa := inF a (.inr hc)
    rcases (hC a ha).2.2 with z | z | z
    · exact hd.2.2 a z a hc rfl
    · exact (A.fp i a fa).2.1 z
    · exact z.2.2 i fa
  have ok : (t.put π s').ok K G' H' t.root (fun a => a ∈ E) := ⟨node, E, oE, ndE, fun _ => Iff.rfl⟩
  refine ⟨_, A.chgT (i := i) (x := withTree (t.put π s') (ρ[i]?)) (Fn := fun a => a ∈ E) hi eG eGH tb' old hn (fun a u q nf nt => eH a u q (fun z => nf (inF a (.inl z))) nt) ?_ ?_ (fun a ha => ?_), fun j a z => ?_⟩
  · rw [hv]
    rcases tree_sl h with e | e
    · rw [e]
      exact ⟨t.root, rfl, ok⟩
    · rw [e]
      exact ⟨t.root, rfl, ok⟩
  · intro z
    rcases tree_sl h with e | e
    · rw [e] at z
      exact z.elim
    · rw [e]
      trivial
  · rcases List.mem_append.mp (pE.mem_iff.mp ha) with z | z
    · obtain ⟨h1, h2, h3⟩ := hC a z
      refine ⟨h1, h2, ?_⟩
      rcases h3 with h3 | h3
      · exact .inl (inF a (.inl h3))
      · exact .inr h3
    · have fa := inF a (.inr z)
      obtain ⟨g1, g2, _⟩ := A.fp i a fa
      exact ⟨(old a g2).trans g1, hn a g2, .inl fa⟩
  · by_cases hj : j = i
    · rw [if_pos hj] at z
      rcases List.mem_append.mp (pE.mem_iff.mp z) with z | z
      · exact .inl z
      · exact .inr ⟨fun q => hd.2.2 a q a z rfl, by rw [hj]; exact inF a (.inr z)⟩
    · rw [if_neg hj] at z
      refine .inr ⟨fun q => hj (A.dj j i a z (inF a (.inl q))), z⟩
theorem At.put2 {i : Nat} {t s' : OT} {π : List Stp} {B A' R C : List Addr} {v' : V} {G' H' : Hp} (A : At K M Z G0 H0 G H σ ρ F) (h : treeOf (ρ[i]?) = some t) (hv : σ[i]? = some (some t.root)) (nd : B.Nodup) (hF : ∀ a, F i a ↔ a ∈ B) (pm : B.Perm (A' ++ R))
    (b : ∀ (G' H' : Hp) (s' : OT) (C : List Addr), Same G G' → (∀ a ∈ R, H' a = H a) → Own K G' H' v' s' C → ∃ E, Own K G' H' t.root (t.put π s') E ∧ E.Perm (C ++ R))
    (eG : Same G G') (eGH : Same G' H') (old : ∀ a, H a ≠ none → G' a = G a) (hn : ∀ a, H a ≠ none → H' a ≠ none) (eH : ∀ a o, H a = some o → a ∉ A' → H' a = some o) (o : Own K G' H' v' s' C) (ndC : C.Nodup)
    (hC : ∀ a ∈ C, G' a = none ∧ H' a ≠ none ∧ (a ∈ A' ∨ H a = none ∨ (H0 a = none ∧ Z a = none ∧ ∀ j, ¬ F j a))) (node : (t.put π s').node = true) :
    ∃ F', At K M Z G0 H0 G' H' σ (ρ.set i (withTree (t.put π s') (ρ[i]?))) F' ∧ ∀ j a, F' j a → a ∈ C ∨ (a ∉ A' ∧ F j a) :=
  A.put2T h hv nd hF pm b eG eGH (A.tb.up eG (fun a z => (old a (A.tb.ne z)).trans (A.tb.at z).1) fun a z => by
    obtain ⟨_, ps, e⟩ := A.tb.at z
    rw [eH a _ e fun ha => A.nt ((hF a).mpr (pm.mem_iff.mpr (List.mem_append_left _ ha))) z, e]) old hn (fun a o e n _ => eH a o e n) o ndC hC node
end
/-! fields -/
/-- place.f -/
def dpFd (C : Addr) (d : DP) (f : Str) : DP := fun ρ Φ => d ρ fun i π s ρ1 => match s with
  | .ins _ _ C' fs => C' = C ∧ match fs.lookup f with
    | some y => Φ i (π ++ [.fd f]) y ρ1
    | none => False
  | _ => False
/-- data.f -/
def dFld (C : Addr) (d : DE) (f : Str) : DE := fun ρ Φ => d ρ fun x ρ1 => match x with
  | .ins C' fs => C' = C ∧ match fs.lookup f with
    | some y => Φ y ρ1
    | none => False
  | _ => False
theorem OwnF.get {K : PySem.W.Frag} {G H : Hp} {vs : List (Str × V)} {ts : List (Str × OT)} {A : List Addr} {f : Str} {t : OT} (h : OwnF K G H vs ts A) (e : ts.lookup f = some t) : ∃ v A', vs.lookup f = some v ∧ Own K G H v t A' := by
  obtain ⟨v, A', _, h1, h2, _⟩ := h.at e
  exact ⟨v, A', h1, h2⟩
theorem RpF.get {K : PySem.W.Frag} {G : Hp} : ∀ {vs : List (Str × V)} {ds : List (Str × D)} {f : Str} {d : D}, RpF K G vs ds → ds.lookup f = some d → ∃ v, vs.lookup f = some v ∧ Rp K G v d
  | _, _, _, _, .nil, e => by simp at e
  | (g, v0) :: vs, (_, d0) :: ds, f, d, .cons h r, e => by
    by_cases c : f = g
    · subst c
      have e' : d0 = d := by simpa [List.lookup] using e
      subst e'
      exact ⟨v0, by simp [List.lookup], h⟩
    · have cb : (f == g) = false := by simpa using c
      have e' : ds.lookup f = some d := by simpa [List.lookup, cb] using e
      obtain ⟨v, h1, h2⟩ := RpF.get r e'
      exact ⟨v, by simpa [List.lookup, cb] using h1, h2⟩
theorem OwnF.len {K : PySem.W.Frag} {G H : Hp} : ∀ {vs : List (Str × V)} {ts : List (Str × OT)} {A : List Addr}, OwnF K G H vs ts A → vs.length = ts.length
  | _, _, _, .nil => rfl
  | _, _, _, .cons _ r => by rw [List.length_cons, List.length_cons, OwnF.len r]
theorem OwnF.lookN {K : PySem.W.Frag} {G H : Hp} {f : Str} : ∀ {vs : List (Str × V)} {ts : List (Str × OT)} {A : List Addr}, OwnF K G H vs ts A → ts.lookup f = none → vs.lookup f = none
  | _, _, _, .nil, _ => rfl
  | (g, v0) :: vs, (_, t0) :: ts, _, .cons h r, e => by
    by_cases c : f = g
    · subst c
      simp [List.lookup] at e
    · have cb : (f == g) = false := by simpa using c
      have e' : ts.lookup f = none := by simpa [List.lookup, cb] using e
      have := OwnF.lookN r e'
      simpa [List.lookup, cb] using this
section
variable {K : PySem.W.Frag} {C : Addr} {f : Str}
theorem sim_pfd {t : TE} {d : DP} (c : Cls K C) (n : NoAttr K C f) (h : SimP K t d) : SimP K (tFld K t f) (dpFd C d f) := by
  intro M Z G0 H0 G H σ ρ F Φ Q A hd k
  refine h A hd fun v i π s ρ1 F1 G1 H1 A1 e1 p1 q1 => ?_
  split at q1
  · rename_i p dx C' fs
    obtain ⟨ec, q1⟩ := q1
    subst ec
    split at q1
    · rename_i y ey
      obtain ⟨B, o⟩ := p1.own
      cases o with
      | ins hp hdx of =>
        obtain ⟨u, A', e3, o3⟩ := of.get ey
        refine ⟨p, C', dx, _, u, rfl, hp, c, n, e3, ?_⟩
        obtain ⟨t0, et, eg⟩ := p1.ex
        refine k u i (π ++ [.fd f]) y ρ1 F1 G1 H1 A1 e1 ⟨⟨t0, et, ?_⟩, ⟨A', o3⟩⟩ q1
        rw [get_app eg]
        show (match fs.lookup f with | some t => t.get [] | none => none) = _
        rw [ey]
        rfl
    · exact q1.elim
  · exact q1.elim
theorem sim_dfld {t : TE} {d : DE} (c : Cls K C) (n : NoAttr K C f) (h : SimE K t d) : SimE K (tFld K t f) (dFld C d f) := by
  intro M Z G0 H0 G H σ ρ F Φ Q A hd k
  refine h A hd fun v x ρ1 F1 G1 H1 A1 e1 r1 q1 => ?_
  split at q1
  · rename_i C' fs
    obtain ⟨ec, q1⟩ := q1
    subst ec
    split at q1
    · rename_i y ey
      cases r1 with
      | ins hp rf =>
        rename_i a dx vs
        obtain ⟨u, e3, r3⟩ := rf.get ey
        exact ⟨a, C', dx, _, u, rfl, A1.gh _ _ hp, c, n, e3, k u y ρ1 F1 G1 H1 A1 e1 r3 q1⟩
    · exact q1.elim
  · exact q1.elim
end
/-! stores -/
/-- the tree of a result -/
def asTr (Φ : OT → Prop) : Sl → Prop
  | .val d => Φ (.val d)
  | .own ds => ∀ p, Φ (.lst p (ds.map OT.val))
  | .loc t => Φ t
  | _ => False
/-- place.f = e -/
def dFSet (C : Addr) (d : DP) (f : Str) (e : DR) : DS := fun Δ ρ => e ρ (asT fun r ρ0 => d ρ0 fun i π s ρ1 => match s, treeOf (ρ1[i]?) with
  | .ins p dx C' fs, some t => C' = C ∧ fs.length < 1000 ∧ Δ.nx (ρ1.set i (withTree (t.put π (.ins p dx C' (putFs f r fs))) (ρ1[i]?)))
  | _, _ => False)
/-- place[k] = e, e a new thing -/
def dPSetT (d : DP) (k : DE) (e : DR) : DS := fun Δ ρ => e ρ (asT fun r ρ0 => d ρ0 fun i π s ρ1 => k ρ1 fun x ρ2 => match treeOf (ρ2[i]?), x with
  | some t, .int j => match t.get π with
    | some (.lst p xs) => s.node = true ∧ s.root = .ref p ∧ 0 ≤ j ∧ j < xs.length ∧ Δ.nx (ρ2.set i (withTree (t.put π (.lst p (xs.set j.toNat r))) (ρ2[i]?)))
    | _ => False
  | _, _ => False)
theorem OwnF.put {K : PySem.W.Frag} {G H : Hp} {v : V} {t : OT} {B : List Addr} {f : Str} (o : Own K G H v t B) : ∀ {vs : List (Str × V)} {ts : List (Str × OT)} {A : List Addr}, OwnF K G H vs ts A → ∃ A', OwnF K G H (putF f v vs) (putFs f t ts) A' ∧ ∃ A0 : List Addr, A'.Perm (A0 ++ B) ∧ A0.Sublist A
  | _, _, _, .nil => ⟨B ++ [], .cons o .nil, [], by simp, List.Sublist.refl _⟩
  | (g, v0) :: vs, (_, t0) :: ts, _, .cons (A := A1) (B := A2) h r => by
    by_cases c : g = f
    · subst c
      have e1 : putF g v ((g, v0) :: vs) = (g, v) :: vs := by simp [putF]
      have e2 : putFs g t ((g, t0) :: ts) = (g, t) :: ts := by simp [putFs]
      rw [e1, e2]
      exact ⟨B ++ A2, .cons o r, A2, List.perm_append_comm, List.sublist_append_right A1 A2⟩
    · have e1 : putF f v ((g, v0) :: vs) = (g, v0) :: putF f v vs := by
        show (if g = f then _ else _) = _
        rw [if_neg c]
      have e2 : putFs f t ((g, t0) :: ts) = (g, t0) :: putFs f t ts := by
        show (if g = f then _ else _) = _
        rw [if_neg c]
      obtain ⟨A', h1, A0, h2, h3⟩ := OwnF.put (f := f) o r
      rw [e1, e2]
      refine ⟨A1 ++ A', .cons h h1, A1 ++ A0, ?_, List.Sublist.append (List.Sublist.refl A1) h3⟩
      rw [List.append_assoc]
      exact List.Perm.append_left A1 h2
theorem OwnL.sett {K : PySem.W.Frag} {G H : Hp} {v : V} {t : OT} {B : List Addr} (o : Own K G H v t B) : ∀ {vs : List V} {ts : List OT} {A : List Addr} (k : Nat), OwnL K G H vs ts A → ∃ A', OwnL K G H (vs.set k v) (ts.set k t) A' ∧ ∃ A0 : List Addr, (A'.Perm (A0 ++ B) ∨ A' = A0) ∧ A0.Sublist A
  | _, _, _, _, .nil => ⟨[], .nil, [], .inr rfl, List.Sublist.refl _⟩
  | _, _, _, 0, .cons (A := A1) (B := A2) h r => ⟨B ++ A2, .cons o r, A2, .inl List.perm_append_comm, List.sublist_append_right A1 A2⟩
  | _, _, _, k + 1, .cons (A := A1) (B := A2) h r => by
    obtain ⟨A', h1, A0, h2, h3⟩ := OwnL.sett o k r
    refine ⟨A1 ++ A', .cons h h1, A1 ++ A0, ?_, List.Sublist.append (List.Sublist.refl A1) h3⟩
    rcases h2 with h2 | h2
    · left
      rw [List.append_assoc]
      exact List.Perm.append_left A1 h2
    · right
      rw [h2]
theorem sim_fset {K : PySem.W.Frag} {C : Addr} {f : Str} {tv tp : TE} {d : DP} {e : DR} (c : Cls K C) (n : NoAttr K C f) (hv : SimR K tv e) (h : SimP K tp d) : SimS K (sFld K tp tv f) (dFSet C d f e) := by
  intro M Z G0 H0 G H σ ρ F Δ Q A hd k1 k2 k3 k4
  refine hv A hd fun v x Fn ρ0 F0 G1 H1 A0 e0 r0 q0 => ?_
  obtain ⟨tr, Cr, q0, or, ndr, fr⟩ := res_tree r0 q0
  refine h (A0.asideS (A' := Cr) (fun a ha => ⟨(fr a ha).1, (fr a ha).2.2.2.2⟩) fun a ha => A0.n0 (fr a ha).2.2.1) q0 fun w i π s ρ1 F1 G2 H2 A1 e1 p1 q1 => ?_
  have keep : ∀ a ∈ Cr, H2 a = H1 a ∧ G2 a = none ∧ ∀ j, ¬ F1 j a := fun a ha => by
    cases q : H1 a with
    | none => exact absurd q (fr a ha).2.1
    | some u => exact A1.hz a u (by unfold aside; rw [if_pos ha]; exact q)
  have A2 : At K M Z G0 H0 G2 H2 σ ρ1 F1 := A1.less fun a u q => by
    unfold aside
    by_cases c : a ∈ Cr
    · rw [(fr a c).2.2.2.1] at q
      cases q
    · rw [if_neg c]; exact q
  have or2 : Own K G2 H2 v tr Cr := or.st e1 fun a ha => (keep a ha).1
  split at q1
  · rename_i s0 o0 p dx C' fs t et
    obtain ⟨ec, hl, q1⟩ := q1
    subst ec
    obtain ⟨t', et', eg⟩ := p1.ex
    rw [et] at et'
    cases et'
    obtain ⟨g1, nn, B, v', A', R, o, nd, hF, o2, pm, b⟩ := A2.tree et eg
    cases o2 with
    | ins hp hdx of =>
      rename_i vs A''
      obtain ⟨Bp, op⟩ := p1.own
      have hw : w = .ref p := op.root rfl
      refine ⟨p, C', dx, vs, hw, hp, c, n, by rw [of.len]; exact hl, ?_⟩
      have ndA : (p :: dx :: A'').Nodup := (List.nodup_append.mp ((pm.nodup_iff).mp nd)).1
      have hpA : p ∉ dx :: A'' := (List.nodup_cons.mp ndA).1
      have inB : ∀ a ∈ p :: dx :: A'', F1 i a := fun a ha => (hF a).mpr (pm.mem_iff.mpr (List.mem_append_left _ ha))
      have gp : G2 p = none := (A2.fp i p (inB p List.mem_cons_self)).1
      have pC : ∀ a ∈ Cr, a ≠ p := fun a ha z => (keep a ha).2.2 i (by rw [z]; exact inB p List.mem_cons_self)
      have of' := of.st (G' := G2) (H' := upd H2 p (.ins C' dx (putF f v vs))) (Same.refl G2) fun a ha => upd_ne fun z => hpA (by rw [← z]; exact List.mem_cons_of_mem _ ha)
      have or3 : Own K G2 (upd H2 p (.ins C' dx (putF f v vs))) v tr Cr := or2.st (Same.refl G2) fun a ha => upd_ne (pC a ha)
      obtain ⟨A3, of3, A4, pm3, sub⟩ := OwnF.put (f := f) or3 of'
      have dxp : dx ≠ p := fun z => hpA (by rw [z]; exact List.mem_cons_self)
      have onew : Own K G2 (upd H2 p (.ins C' dx (putF f v vs))) (.ref p) (.ins p dx C' (putFs f tr fs)) (p :: dx :: A3) := .ins upd_same (by rw [upd_ne dxp]; exact hdx) of3
      have mem3 : ∀ a ∈ A3, a ∈ A'' ∨ a ∈ Cr := fun a ha => by
        rcases List.mem_append.mp (pm3.mem_iff.mp ha) with z | z
        · exact .inl (sub.mem z)
        · exact .inr z
      have nd3 : A3.Nodup := by
        rw [pm3.nodup_iff, List.nodup_append]
        refine ⟨((List.nodup_cons.mp (List.nodup_cons.mp ndA).2).2).sublist sub, ndr, fun a ha c hc e => ?_⟩
        subst e
        exact (keep a hc).2.2 i (inB a (List.mem_cons_of_mem _ (List.mem_cons_of_mem _ (sub.mem ha))))
      have ndC : (p :: dx :: A3).Nodup := by
        refine List.nodup_cons.mpr ⟨fun z => ?_, List.nodup_cons.mpr ⟨fun z => ?_, nd3⟩⟩
        · rcases List.mem_cons.mp z with z | z
          · exact dxp z.symm
          · rcases mem3 p z with z | z
            · exact hpA (List.mem_cons_of_mem _ z)
            · exact pC p z rfl
        · rcases mem3 dx z with z | z
          · exact (List.nodup_cons.mp (List.nodup_cons.mp ndA).2).1 z
          · exact (keep dx z).2.2 i (inB dx (by simp))
      obtain ⟨F3, B3, _⟩ := A2.put2 et g1 nd hF pm b (Same.refl G2) (fun a u q => by rw [upd_ne (ne_of_none q gp)]; exact A2.gh a u q) (fun _ _ => rfl) (fun a ha => by
          by_cases z : a = p
          · rw [z, upd_same]; exact Option.some_ne_none _
          · rw [upd_ne z]; exact ha)
        (fun a u q na => by rw [upd_ne fun z => na (by rw [z]; exact List.mem_cons_self)]; exact q) onew ndC (fun a ha => by
          have old : a ∈ p :: dx :: A'' → G2 a = none ∧ upd H2 p (.ins C' dx (putF f v vs)) a ≠ none ∧ (a ∈ p :: dx :: A'' ∨ H2 a = none ∨ (H0 a = none ∧ Z a = none ∧ ∀ j, ¬ F1 j a)) := fun hm => by
            obtain ⟨g1, g2, _⟩ := A2.fp i a (inB a hm)
            refine ⟨g1, ?_, .inl hm⟩
            by_cases z : a = p
            · rw [z, upd_same]; exact Option.some_ne_none _
            · rw [upd_ne z]; exact g2
          rcases List.mem_cons.mp ha with z | ha
          · exact old (by rw [z]; exact List.mem_cons_self)
          · rcases List.mem_cons.mp ha with z | ha
            · exact old (by rw [z]; simp)
            · rcases mem3 a ha with z | z
              · exact old (List.mem_cons_of_mem _ (List.mem_cons_of_mem _ z))
              · refine ⟨(keep a z).2.1, ?_, .inr (.inr ⟨(fr a z).2.2.1, (fr a z).2.2.2.1, (keep a z).2.2⟩)⟩
                rw [upd_ne (pC a z), (keep a z).1]
                exact (fr a z).2.1) (put_node nn (.inl rfl))
      exact k1 _ _ F3 G2 _ B3 (e0.trans e1) q1
  · exact q1.elim
theorem sim_psetT {K : PySem.W.Frag} {tv tp tk : TE} {d : DP} {ek : DE} {ev : DR} (hv : SimR K tv ev) (h : SimP K tp d) (g : SimE K tk ek) : SimS K (tAsg tv (gSub tp tk rSetL)) (dPSetT d ek ev) := by
  intro M Z G0 H0 G H σ ρ F Δ Q A hd k1 k2 k3 k4
  refine hv A hd fun v x Fn ρ0 F0 G1 H1 A0 e0 r0 q0 => ?_
  obtain ⟨tr, Cr, q0, or, ndr, fr⟩ := res_tree r0 q0
  refine h (A0.asideS (A' := Cr) (fun a ha => ⟨(fr a ha).1, (fr a ha).2.2.2.2⟩) fun a ha => A0.n0 (fr a ha).2.2.1) q0 fun w i π s ρ1 F1 G2 H2 A1 e1 p1 q1 => g A1 q1 fun u x ρ2 F2 G3 H3 A1' e2 r2 q2 => ?_
  have keep : ∀ a ∈ Cr, H3 a = H1 a ∧ G3 a = none ∧ ∀ j, ¬ F2 j a := fun a ha => by
    cases q : H1 a with
    | none => exact absurd q (fr a ha).2.1
    | some u => exact A1'.hz a u (by unfold aside; rw [if_pos ha]; exact q)
  have A2 : At K M Z G0 H0 G3 H3 σ ρ2 F2 := A1'.less fun a u q => by
    unfold aside
    by_cases c : a ∈ Cr
    · rw [(fr a c).2.2.2.1] at q
      cases q
    · rw [if_neg c]; exact q
  have or2 : Own K G3 H3 v tr Cr := or.st (e1.trans e2) fun a ha => (keep a ha).1
  split at q2
  · rename_i t j et
    split at q2
    · rename_i p xs eg
      obtain ⟨hn, hr, hj, hl, q2⟩ := q2
      obtain ⟨h1, nn, B, v', A', R, o, nd, hF, o2, pm, b⟩ := A2.tree et eg
      cases r2
      have hvr : w = .ref p := by
        obtain ⟨A1', o1⟩ := p1.own
        rw [o1.root hn, hr]
      cases o2 with
      | lst hp ol =>
        rename_i vs' A''
        have hlen := ol.len
        have hix : ixN vs'.length j = some j.toNat := by
          unfold ixN
          rw [if_pos hj, if_pos (by omega)]
        refine ⟨p, vs', j, j.toNat, hvr, rfl, hp, hix, ?_⟩
        have ndA : (p :: A'').Nodup := (List.nodup_append.mp ((pm.nodup_iff).mp nd)).1
        have hpA : p ∉ A'' := (List.nodup_cons.mp ndA).1
        have inB : ∀ a ∈ p :: A'', F2 i a := fun a ha => (hF a).mpr (pm.mem_iff.mpr (List.mem_append_left _ ha))
        have gp : G3 p = none := (A2.fp i p (inB p List.mem_cons_self)).1
        have pC : ∀ a ∈ Cr, a ≠ p := fun a ha z => (keep a ha).2.2 i (by rw [z]; exact inB p List.mem_cons_self)
        have ol' := ol.st (G' := G3) (H' := upd H3 p (.lst (vs'.set j.toNat v))) (Same.refl G3) fun a ha => upd_ne fun z => hpA (by rw [← z]; exact ha)
        have or3 : Own K G3 (upd H3 p (.lst (vs'.set j.toNat v))) v tr Cr := or2.st (Same.refl G3) fun a ha => upd_ne (pC a ha)
        obtain ⟨A3, ol3, A4, pm3, sub⟩ := OwnL.sett or3 j.toNat ol'
        have onew : Own K G3 (upd H3 p (.lst (vs'.set j.toNat v))) (.ref p) (.lst p (xs.set j.toNat tr)) (p :: A3) := .lst upd_same ol3
        have mem3 : ∀ a ∈ A3, a ∈ A'' ∨ a ∈ Cr := fun a ha => by
          rcases pm3 with pm3 | pm3
          · rcases List.mem_append.mp (pm3.mem_iff.mp ha) with z | z
            · exact .inl (sub.mem z)
            · exact .inr z
          · rw [pm3] at ha
            exact .inl (sub.mem ha)
        have nd4 : A4.Nodup := ((List.nodup_cons.mp ndA).2).sublist sub
        have nd3 : A3.Nodup := by
          rcases pm3 with pm3 | pm3
          · rw [pm3.nodup_iff, List.nodup_append]
            refine ⟨nd4, ndr, fun a ha c hc e => ?_⟩
            subst e
            exact (keep a hc).2.2 i (inB a (List.mem_cons_of_mem _ (sub.mem ha)))
          · rw [pm3]; exact nd4
        have ndC : (p :: A3).Nodup := List.nodup_cons.mpr ⟨fun z => by
          rcases mem3 p z with z | z
          · exact hpA z
          · exact pC p z rfl, nd3⟩
        obtain ⟨F3, B3, _⟩ := A2.put2 et h1 nd hF pm b (Same.refl G3) (fun a u q => by rw [upd_ne (ne_of_none q gp)]; exact A2.gh a u q) (fun _ _ => rfl) (fun a ha => by
            by_cases z : a = p
            · rw [z, upd_same]; exact Option.some_ne_none _
            · rw [upd_ne z]; exact ha)
          (fun a u q na => by rw [upd_ne fun z => na (by rw [z]; exact List.mem_cons_self)]; exact q) onew ndC (fun a ha => by
            have old : a ∈ p :: A'' → G3 a = none ∧ upd H3 p (.lst (vs'.set j.toNat v)) a ≠ none ∧ (a ∈ p :: A'' ∨ H3 a = none ∨ (H0 a = none ∧ Z a = none ∧ ∀ j, ¬ F2 j a)) := fun hm => by
              obtain ⟨g1, g2, _⟩ := A2.fp i a (inB a hm)
              refine ⟨g1, ?_, .inl hm⟩
              by_cases z : a = p
              · rw [z, upd_same]; exact Option.some_ne_none _
              · rw [upd_ne z]; exact g2
            rcases List.mem_cons.mp ha with z | ha
            · exact old (by rw [z]; exact List.mem_cons_self)
            · rcases mem3 a ha with z | z
              · exact old (List.mem_cons_of_mem _ z)
              · refine ⟨(keep a z).2.1, ?_, .inr (.inr ⟨(fr a z).2.2.1, (fr a z).2.2.2.1, (keep a z).2.2⟩)⟩
                rw [upd_ne (pC a z), (keep a z).1]
                exact (fr a z).2.1) (put_node nn (.inl rfl))
        exact k1 _ _ F3 G3 _ B3 (e0.trans (e1.trans e2)) q2
    · exact q2.elim
  · exact q2.elim
end DL
set_option Elab.async false
set_option linter.all false
set_option maxRecDepth 100000
set_option maxHeartbeats 2000000
namespace DL
open PySem PySem.Spec PyProof.Rows L2 RT
variable [Tabl]

/-! ### C(..) -/
def dMk (C : Addr) (f : DFO) (da : DA) : DR := fun ρ Φ => da ρ fun xs ρ1 => ∀ p dx, f (.ins p dx C []) xs fun r S' => r = .val .non ∧ Φ (.loc S') ρ1
/-- .., lists of one's own lent -/
def dMkL (C : Addr) (f : DFO) (da : DA) : DR := fun ρ Φ => da ρ fun xs ρ1 => ∀ p dx, f (.ins p dx C []) xs fun r S' => r = .val .non ∧ S'.flat = true ∧ Φ (.loc S') ρ1
section
variable {K : PySem.W.Frag} {C : Addr} {f : DFO} {t : TA} {d : DA} {E : XK}
theorem new_obj {G H : Hp} {x dx C : Addr} (gh : Same G H) (hx : H x = none) (hdx : H dx = none) (ne : dx ≠ x) :
    Same H (upd (upd H dx (.own x)) x (.ins C dx [])) ∧ OT.ok (.ins x dx C []) K G (upd (upd H dx (.own x)) x (.ins C dx [])) (.ref x) (fun a => a ∈ [x, dx]) ∧ (∀ a ∈ [x, dx], G a = none ∧ upd (upd H dx (.own x)) x (.ins C dx []) a ≠ none) := by
  have hd : upd (upd H dx (.own x)) x (.ins C dx []) dx = some (.own x) := by rw [upd_ne ne, upd_same]
  refine ⟨fun a u q => by rw [upd_ne (ne_of_none q hx), upd_ne (ne_of_none q hdx)]; exact q, ⟨rfl, [x, dx], .ins upd_same hd .nil, by simp [Ne.symm ne], fun _ => Iff.rfl⟩, fun a ha => ?_⟩
  rcases List.mem_cons.mp ha with z | z
  · rw [z, upd_same]
    exact ⟨gh.free hx, Option.some_ne_none _⟩
  · rw [List.mem_singleton.mp z, hd]
    exact ⟨gh.free hdx, Option.some_ne_none _⟩
theorem val_non {K : PySem.W.Frag} {Z H0 G H : Hp} {F : Nat → Addr → Prop} {v : V} {Fn : Addr → Prop} (r : ResOk K Z H0 G H F v (.val .non) Fn) : v = .non := by
  obtain ⟨_, w, e, h⟩ := r.ok
  cases e
  cases h
  rfl
theorem At.fresh0 {M : Addr → Prop} {Z G0 H0 G H : Hp} {σ : L2.St} {ρ : List Sl} {F : Nat → Addr → Prop} {a : Addr} (A : At K M Z G0 H0 G H σ ρ F) (h : H a = none) : H0 a = none ∧ Z a = none ∧ ∀ j, ¬ F j a := by
  refine ⟨?_, ?_, fun j z => (A.fp j a z).2.1 h⟩
  · cases q : H0 a with
    | none => rfl
    | some o => exact absurd h (A.hn a (by rw [q]; exact Option.some_ne_none _))
  · cases q : Z a with
    | none => rfl
    | some o =>
      have := (A.hz a o q).1
      rw [h] at this
      cases this
theorem sim_mk (h : SimA K t d) : SimR K (tMake C (SpO K f) [] E t) (dMk C f d) := by
  intro M Z G0 H0 G H σ ρ F Φ Q A hd k
  refine h A hd fun vs xs ρ1 F1 G1 H1 A1 e1 r1 q1 => ?_
  intro x dx hx hdx ne
  obtain ⟨sm, ok, fr⟩ := new_obj (K := K) (C := C) A1.gh hx hdx ne
  rw [List.append_nil]
  refine ⟨G1, .ins x dx C [], fun a => a ∈ [x, dx], xs, _, .ref x, vs, rfl, ok, fr, A1.top.trans sm, r1, q1 x dx, fun v r Fr S' Fs' G2 H2 eG eH hn eGH old er hs hf hr q2 => ?_⟩
  obtain ⟨rfl, q2⟩ := q2
  have np : ∀ a, H1 a ≠ none → a ∉ [x, dx] := fun a ha z => by
    rcases List.mem_cons.mp z with z | z
    · rw [z] at ha; exact ha hx
    · rw [List.mem_singleton.mp z] at ha; exact ha hdx
  have up : ∀ a, H1 a ≠ none → upd (upd H1 dx (.own x)) x (.ins C dx []) a ≠ none := fun a ha => by
    cases q : H1 a with
    | none => exact absurd q ha
    | some u => rw [sm a u q]; exact Option.some_ne_none _
  have un : ∀ a, upd (upd H1 dx (.own x)) x (.ins C dx []) a = none → H1 a = none := fun a ha => by
    cases q : H1 a with
    | none => rfl
    | some u => rw [sm a u q] at ha; cases ha
  have sH : ∀ a o, H1 a = some o → ¬ IsTab a → H2 a = some o := fun a o q nt => eH.k a o (sm a o q) (np a (by rw [q]; exact Option.some_ne_none _)) nt
  have od : ∀ a, H1 a ≠ none → G2 a = G1 a := fun a ha => old a (up a ha)
  have A2 := A1.growT eG ⟨sH, eH.t⟩ eGH od
  refine ⟨val_non hr, k (.ref x) (.loc S') Fs' ρ1 F1 G2 H2 A2 (e1.trans eG) ⟨⟨.ref x, rfl, hs⟩, fun z => z, fun a fa => ?_⟩ q2⟩
  obtain ⟨h1, h2, h3⟩ := hf a fa
  have n1 : H1 a = none := by
    rcases h3 with h3 | h3
    · rcases List.mem_cons.mp h3 with z | z
      · rw [z]; exact hx
      · rw [List.mem_singleton.mp z]; exact hdx
    · exact un a h3
  obtain ⟨f1, f2, f3⟩ := A1.fresh0 n1
  exact ⟨h1, h2, f1, f2, f3⟩
theorem sim_mkL (h : SimAl K t d) : SimR K (tMake C (SpO K f) [] E t) (dMkL C f d) := by
  intro M Z G0 H0 G H σ ρ F Φ Q A hd k
  refine h A hd fun vs xs ρ1 F1 G1 Gp H1 A1 e1 ep ep2 el r1 q1 => ?_
  intro x dx hx hdx ne
  obtain ⟨sm, ok, fr⟩ := new_obj (K := K) (C := C) ep2.s hx hdx ne
  rw [List.append_nil]
  refine ⟨Gp, .ins x dx C [], fun a => a ∈ [x, dx], xs, _, .ref x, vs, rfl, ok, fr, ep2.trans sm, r1, q1 x dx, fun v r Fr S' Fs' Gq H2 eG eH hn eGH old er hs hf hr q2 => ?_⟩
  obtain ⟨rfl, hfl, q2⟩ := q2
  have np : ∀ a, H1 a ≠ none → a ∉ [x, dx] := fun a ha z => by
    rcases List.mem_cons.mp z with z | z
    · rw [z] at ha; exact ha hx
    · rw [List.mem_singleton.mp z] at ha; exact ha hdx
  have up : ∀ a, H1 a ≠ none → upd (upd H1 dx (.own x)) x (.ins C dx []) a ≠ none := fun a ha => by
    cases q : H1 a with
    | none => exact absurd q ha
    | some u => rw [sm a u q]; exact Option.some_ne_none _
  have un : ∀ a, upd (upd H1 dx (.own x)) x (.ins C dx []) a = none → H1 a = none := fun a ha => by
    cases q : H1 a with
    | none => rfl
    | some u => rw [sm a u q] at ha; cases ha
  have sH : ∀ a o, H1 a = some o → ¬ IsTab a → H2 a = some o := fun a o q nt => eH.k a o (sm a o q) (np a (by rw [q]; exact Option.some_ne_none _)) nt
  classical
  have hG : ∃ G2 : Hp, Same G1 G2 ∧ Same G2 H2 ∧ (∀ a, H1 a ≠ none → G2 a = G1 a) ∧ ∀ a, H1 a = none → G2 a = Gq a := by
    refine ⟨fun a => if H1 a = none then Gq a else G1 a, fun a o q => ?_, fun a o q => ?_, fun a n => if_neg n, fun a n => if_pos n⟩
    · show (if H1 a = none then Gq a else G1 a) = some o
      rw [if_neg (by rw [A1.gh a o q]; exact Option.some_ne_none _)]
      exact q
    · have q' : (if H1 a = none then Gq a else G1 a) = some o := q
      split at q'
      · exact eGH a o q'
      · exact sH a o (A1.gh a o q') fun z => by rw [(A1.tb.at z).1] at q'; cases q'
  obtain ⟨G2, g1, g2, g3, g4⟩ := hG
  have fl : ButLists Gq G2 := fun a u q => by
    by_cases n : H1 a = none
    · exact .inl (by rw [g4 a n]; exact q)
    · rw [old a (up a n)] at q
      rw [g3 a n]
      exact el a u q
  have A2 := A1.growT g1 ⟨sH, tab_lent eH.t A1.tb (fun a φ q => by
    rcases el a _ q with z | ⟨vs, z⟩
    · exact z
    · cases z) (fun a ha => old a (up a ha)) g3 g4⟩ g2 g3
  obtain ⟨nn, B, oB, nd, hB⟩ := hs
  refine ⟨val_non hr, k (.ref x) (.loc S') Fs' ρ1 F1 G2 H2 A2 (e1.trans g1) ⟨⟨.ref x, rfl, nn, B, oB.fl fl hfl, nd, hB⟩, fun z => z, fun a fa => ?_⟩ q2⟩
  obtain ⟨h1, h2, h3⟩ := hf a fa
  have n1 : H1 a = none := by
    rcases h3 with h3 | h3
    · rcases List.mem_cons.mp h3 with z | z
      · rw [z]; exact hx
      · rw [List.mem_singleton.mp z]; exact hdx
    · exact un a h3
  obtain ⟨f1, f2, f3⟩ := A1.fresh0 n1
  exact ⟨by rw [g4 a n1]; exact h1, h2, f1, f2, f3⟩
end
/-! ### o.m(..), o a place -/
def isInst (C : Addr) (m : Str) : OT → Prop
  | .ins _ _ C' fs => C' = C ∧ fs.lookup m = none
  | _ => False
def dCallM (C : Addr) (m : Str) (f : DFO) (d : DP) (da : DA) : DR := fun ρ Φ => d ρ fun i π s ρ1 => isInst C m s ∧ da ρ1 fun xs ρ2 => match treeOf (ρ2[i]?) with
  | some t => match t.get π with
    | some s2 => s2.node = true ∧ s2.adr = s.adr ∧ f s2 xs fun r S' => Φ r (ρ2.set i (withTree (t.put π S') (ρ2[i]?)))
    | none => False
  | none => False
theorem sim_callM {K : PySem.W.Frag} {C : Addr} {m : Str} {f : DFO} {tp : TE} {t : TA} {d : DP} {da : DA} {E : XK} (h : SimP K tp d) (g : SimA K t da) : SimR K (tMeth C m (SpO K f) [] E tp t) (dCallM C m f d da) := by
  intro M Z G0 H0 G H σ ρ F Φ Q A hd k
  refine h A hd fun v i π s ρ1 F1 G1 H1 A1 e1 p1 ⟨qi, q1⟩ => ?_
  have hv : ∃ a dx fs, v = .ref a ∧ s.adr = a ∧ H1 a = some (.ins C dx fs) ∧ fs.lookup m = none := by
    obtain ⟨B, o⟩ := p1.own
    cases s with
    | ins p dx C' fs =>
      obtain ⟨ec, hl⟩ := qi
      cases o with
      | ins hp hdx of => exact ⟨p, dx, _, rfl, rfl, by rw [← ec]; exact hp, of.lookN hl⟩
    | _ => exact qi.elim
  obtain ⟨a, dx, fs, hv1, hv2, hv3, hv4⟩ := hv
  refine ⟨a, dx, fs, hv1, hv3, hv4, g A1 q1 fun vs xs ρ2 F2 G2 H2 A2 e2 r2 q2 => ?_⟩
  rw [List.append_nil]
  split at q2
  · rename_i t0 et
    split at q2
    · rename_i s2 eg
      obtain ⟨hn, ha, q2⟩ := q2
      obtain ⟨h1, n, B, v', A', R, o, nd, hF, o2, pm, b⟩ := A2.tree et eg
      have ev : v' = v := by rw [o2.root hn, OT.root_adr hn, ha, hv2, hv1]
      subst ev
      have ndA : A'.Nodup := (List.nodup_append.mp ((pm.nodup_iff).mp nd)).1
      have inB : ∀ a ∈ A', F2 i a := fun a ha => (hF a).mpr (pm.mem_iff.mpr (List.mem_append_left _ ha))
      refine ⟨G2, s2, fun a => a ∈ A', xs, _, v', vs, rfl, ⟨hn, A', o2, ndA, fun _ => Iff.rfl⟩, fun a ha => ⟨(A2.fp i a (inB a ha)).1, (A2.fp i a (inB a ha)).2.1⟩, A2.top, r2, q2, fun v r Fr S' Fs' G3 H3 eG eH hn3 eGH old er hs hf hr q3 => ?_⟩
      obtain ⟨nn, C', oC, ndC, hC⟩ := hs
      obtain ⟨F3, A3, f3⟩ := A2.put2T et h1 nd hF pm b eG eGH eH.t old hn3 eH.k oC ndC (fun a ha => by
        obtain ⟨g1, g2, g3⟩ := hf a ((hC a).mpr ha)
        exact ⟨g1, g2, g3.elim .inl fun z => .inr (.inl z)⟩) (put_node n (.inl nn))
      refine k v r Fr _ F3 G3 H3 A3 (e1.trans (e2.trans eG)) ⟨hr.ok, hr.na, fun a fa => ?_⟩ q3
      obtain ⟨g1, g2, g3, _, g5⟩ := hr.fr a fa
      obtain ⟨f1, f2, f4⟩ := A2.fresh0 g3
      refine ⟨g1, g2, f1, f2, fun j z => ?_⟩
      rcases f3 j a z with z | z
      · exact g5 0 ((hC a).mpr z)
      · exact f4 j z.2
    · exact q2.elim
  · exact q2.elim
/-! ### parts of a new thing are known for good -/
def frzL : List (List Stp) → OT → (OT → Prop) → Prop
  | [], t, Φ => Φ t
  | π :: r, t, Φ => match t.get π with
    | some s => match s.toD with
      | some x => (t.put π (.val x)).node = true ∧ frzL r (t.put π (.val x)) Φ
      | none => False
    | none => False
def dFrz (πs : List (List Stp)) (d : DR) : DR := fun ρ Φ => d ρ fun x ρ1 => match x with
  | .loc t => frzL πs t fun t' => Φ (.loc t') ρ1
  | _ => False
section
variable {K : PySem.W.Frag} {M : Addr → Prop} {Z G0 H0 G H : Hp} {σ : L2.St} {ρ : List Sl} {F : Nat → Addr → Prop}
theorem frz_core {v : V} {Ψ : OT → Prop} : ∀ {πs : List (List Stp)} {t : OT} {G : Hp} {Fn : Addr → Prop}, At K M Z G0 H0 G H σ ρ F → ResOk K Z H0 G H F v (.loc t) Fn → frzL πs t Ψ → ∃ G' Fn' t', At K M Z G0 H0 G' H σ ρ F ∧ Same G G' ∧ ResOk K Z H0 G' H F v (.loc t') Fn' ∧ Ψ t'
  | [], t, G, Fn, A, r, q => ⟨G, Fn, t, A, Same.refl G, r, q⟩
  | π :: πs, t, G, Fn, A, r, q => by
    unfold frzL at q
    split at q
    · rename_i s eg
      split at q
      · rename_i x ex
        obtain ⟨nn, q⟩ := q
        obtain ⟨w, ew, n, B, o, nd, hB⟩ := r.ok
        cases ew
        obtain ⟨v', A', R, o2, pm, b⟩ := o.at nd eg
        have ndB := (pm.nodup_iff).mp nd
        have hd := List.nodup_append.mp ndB
        have frA : ∀ a ∈ B, G a = none ∧ H a ≠ none ∧ H0 a = none ∧ Z a = none ∧ ∀ j, ¬ F j a := fun a ha => r.fr a ((hB a).mpr ha)
        have inA : ∀ a ∈ A', a ∈ B := fun a ha => pm.mem_iff.mpr (List.mem_append_left _ ha)
        have inR : ∀ a ∈ R, a ∈ B := fun a ha => pm.mem_iff.mpr (List.mem_append_right _ ha)
        obtain ⟨A2, e2⟩ := A.knowS (B := A') (fun a ha => (frA a (inA a ha)).1) (fun a ha => (frA a (inA a ha)).2.2.1) (fun a ha => (frA a (inA a ha)).2.2.2.1) fun a ha => (frA a (inA a ha)).2.2.2.2
        have rx : Rp K (knowA G H A') v' x := o2.rp ex e2 fun a ha => by
          unfold knowA
          rw [if_pos ha]
        obtain ⟨E, oE, pE⟩ := b (knowA G H A') H (.val x) [] e2 (fun _ _ => rfl) (.val rx)
        have pE' : E.Perm R := by simpa using pE
        obtain ⟨G', Fn', t', A3, e3, r3, q3⟩ := frz_core (πs := πs) A2 (Fn := fun a => a ∈ E) ⟨⟨v, rfl, nn, E, oE, (pE'.nodup_iff).mpr hd.2.1, fun _ => Iff.rfl⟩, fun z => z, fun a ha => by
          have hr := pE'.mem_iff.mp ha
          obtain ⟨h1, h2⟩ := frA a (inR a hr)
          refine ⟨?_, h2⟩
          unfold knowA
          rw [if_neg fun z => hd.2.2 a z a hr rfl]
          exact h1⟩ q
        exact ⟨G', Fn', t', A3, e2.trans e3, r3, q3⟩
      · exact q.elim
    · exact q.elim
end
theorem sim_frz {K : PySem.W.Frag} {t : TE} {d : DR} {πs : List (List Stp)} (h : SimR K t d) : SimR K t (dFrz πs d) := fun {M Z G0 H0 G H σ ρ F Φ Q} A hd k => h A hd fun v x Fn ρ' F' G' H' A' eG r q => by
  split at q
  · obtain ⟨G2, Fn2, t', A2, e2, r2, q2⟩ := frz_core A' r q
    exact k v (.loc t') Fn2 ρ' F' G2 H' A2 (eG.trans e2) r2 q2
  · exact q.elim
theorem PR.frz {X : Cx} {e : Expr} {t : TE} {d : DR} (πs : List (List Stp)) (h : PR X e t d) : PR X e t (dFrz πs d) := ⟨h.pe, sim_frz h.sim⟩
/-- a place of a thing of one's own is known for good from now on -/
def dFrzP (d : DP) : DE := fun ρ Φ => d ρ fun i π s ρ1 => match ρ1[i]?, s.toD with
  | some (.loc t), some x => s.node = true ∧ (t.put π (.val x)).node = true ∧ Φ x (ρ1.set i (.loc (t.put π (.val x))))
  | _, _ => False
theorem sim_frzP {K : PySem.W.Frag} {t : TE} {d : DP} (h : SimP K t d) : SimE K t (dFrzP d) := fun {M Z G0 H0 G H σ ρ F Φ Q} A hd k => h A hd fun v i π s ρ1 F1 G1 H1 A1 e1 p1 q1 => by
  split at q1
  · rename_i o1 o2 t0 x ei ex
    obtain ⟨hs, nn, q1⟩ := q1
    obtain ⟨t', et, eg⟩ := p1.ex
    have et' : t' = t0 := by
      rw [ei] at et
      exact (Option.some.inj et).symm
    subst et'
    obtain ⟨h1, n, B, v', A', R, o, nd, hF, o2, pm, b⟩ := A1.tree (t := t') (by rw [ei]; rfl) eg
    have hi : i < ρ1.length := (List.getElem?_eq_some_iff.mp ei).1
    have ndB := (pm.nodup_iff).mp nd
    have hd := List.nodup_append.mp ndB
    have frA : ∀ a ∈ B, G1 a = none ∧ H1 a ≠ none ∧ H0 a = none ∧ Z a = none := fun a ha => by
      have fa := (hF a).mpr ha
      obtain ⟨g1, g2, g3⟩ := A1.fp i a fa
      refine ⟨g1, g2, ?_, ?_⟩
      · rcases g3 with g3 | g3
        · exact g3
        · rw [ei] at g3
          exact g3.2.elim
      · cases q : Z a with
        | none => rfl
        | some u => exact absurd fa ((A1.hz a u q).2.2 i)
    have inA : ∀ a ∈ A', a ∈ B := fun a ha => pm.mem_iff.mpr (List.mem_append_left _ ha)
    have inR : ∀ a ∈ R, a ∈ B := fun a ha => pm.mem_iff.mpr (List.mem_append_right _ ha)
    have A2 := A1.forget hi (by rw [ei]; exact fun z => z)
    have nob : ∀ a ∈ B, ∀ j, ¬ (if j = i then False else F1 j a) := fun a ha j z => by
      by_cases hj : j = i
      · rw [if_pos hj] at z; exact z
      · rw [if_neg hj] at z; exact hj (A1.dj j i a z ((hF a).mpr ha))
    obtain ⟨A3, e3⟩ := A2.knowS (B := A') (fun a ha => (frA a (inA a ha)).1) (fun a ha => (frA a (inA a ha)).2.2.1) (fun a ha => (frA a (inA a ha)).2.2.2) fun a ha => nob a (inA a ha)
    have rx : Rp K (knowA G1 H1 A') v' x := o2.rp ex e3 fun a ha => by
      unfold knowA
      rw [if_pos ha]
    obtain ⟨E, oE, pE⟩ := b (knowA G1 H1 A') H1 (.val x) [] e3 (fun _ _ => rfl) (.val rx)
    have pE' : E.Perm R := by simpa using pE
    have A4 := A3.chg (i := i) (x := .loc (t'.put π (.val x))) (Fn := fun a => a ∈ E) (G' := knowA G1 H1 A') (H' := H1) (by rw [List.length_set]; exact hi) (Same.refl _) A3.gh (fun _ _ => rfl) (fun _ h => h) (fun _ _ h _ => h)
      (by rw [h1]; exact ⟨_, rfl, nn, E, oE, (pE'.nodup_iff).mpr hd.2.1, fun _ => Iff.rfl⟩) (fun z => by rw [List.getElem?_set_self hi] at z; exact z.elim) (fun a ha => by
        have hr := pE'.mem_iff.mp ha
        obtain ⟨g1, g2, g3, g4⟩ := frA a (inR a hr)
        refine ⟨?_, g2, .inr (.inr ⟨g3, g4, nob a (inR a hr)⟩)⟩
        unfold knowA
        rw [if_neg fun z => hd.2.2 a z a hr rfl]
        exact g1)
    rw [List.set_set] at A4
    have ev : v' = v := by
      obtain ⟨Bv, ov⟩ := p1.own
      rw [o2.root hs, ov.root hs]
    subst ev
    exact k v' x _ _ _ H1 A4 (e1.trans e3) rx q1
  · exact q1.elim

/-! ### for x in place: .., each x taken out of the place while its turn lasts -/
section
variable {K : PySem.W.Frag} {M : Addr → Prop} {Z G0 H0 G H : Hp} {σ : L2.St} {ρ : List Sl} {F : Nat → Addr → Prop}
/-- another account of the slots -/
theorem At.move {σ' : L2.St} {ρ' : List Sl} {F' : Nat → Addr → Prop} (A : At K M Z G0 H0 G H σ ρ F) (len : σ'.length = ρ'.length) (sl : ∀ i x, ρ'[i]? = some x → SlOk K G H ((σ'[i]?).join) (F' i) x) (no : ∀ i, ρ'[i]? = none → ∀ a, ¬ F' i a)
    (fp : ∀ i a, F' i a → ∃ j, F j a ∧ (Sl.isArg (ρ[j]?) → Sl.isArg (ρ'[i]?))) (dj : ∀ i j a, F' i a → F' j a → i = j) : At K M Z G0 H0 G H σ' ρ' F' where
  gh := A.gh
  g0 := A.g0
  h0 := A.h0
  fr := A.fr
  hn := A.hn
  len := len
  sl := sl
  no := no
  fp := fun i a fa => by
    obtain ⟨j, f1, f2⟩ := fp i a fa
    obtain ⟨h1, h2, h3⟩ := A.fp j a f1
    refine ⟨h1, h2, ?_⟩
    rcases h3 with h3 | h3
    · exact .inl h3
    · exact .inr ⟨h3.1, f2 h3.2⟩
  dj := dj
  hz := fun a o q => by
    obtain ⟨h1, h2, h3⟩ := A.hz a o q
    exact ⟨h1, h2, fun i z => by
      obtain ⟨j, f1, _⟩ := fp i a z
      exact h3 j f1⟩
  tb := A.tb
  mt := A.mt
theorem withTree_ok {t : OT} {o : Option Sl} {v : V} {Fn : Addr → Prop} (h : t.ok K G H v Fn) : SlOk K G H (some v) Fn (withTree t o) := by
  unfold withTree
  split <;> exact ⟨v, rfl, h⟩
theorem withTree_arg {t t' : OT} {o : Option Sl} (h : Sl.isArg o) : Sl.isArg (some (withTree t o)) := by
  cases o with
  | none => exact h.elim
  | some x =>
    cases x with
    | arg s => trivial
    | _ => exact h.elim
/-- a part is taken out into slot j -/
theorem At.take {i j : Nat} {t s : OT} {π : List Stp} (A : At K M Z G0 H0 G H σ ρ F) (h : treeOf (ρ[i]?) = some t) (hg : t.get π = some s) (hs : s.node = true) (hp : (t.put π (.val (.cls s.adr))).node = true) (ij : i ≠ j) (fj : free ρ j) :
    ∃ F', At K M Z G0 H0 G H (σ.set j (some (.ref s.adr))) ((ρ.set i (withTree (t.put π (.val (.cls s.adr))) (ρ[i]?))).set j (withTree s (ρ[i]?))) F' := by
  obtain ⟨h1, n, B, v', A', R, o, nd, hF, o2, pm, b⟩ := A.tree h hg
  have ev : v' = .ref s.adr := by rw [o2.root hs, OT.root_adr hs]
  subst ev
  have ndB := (pm.nodup_iff).mp nd
  have hd := List.nodup_append.mp ndB
  obtain ⟨E, oE, pE⟩ := b G H (.val (.cls s.adr)) [] (Same.refl G) (fun _ _ => rfl) (.val (.cls _))
  have pE' : E.Perm R := by simpa using pE
  obtain ⟨fl, fna⟩ := fj.lt
  have hi : i < ρ.length := by
    rcases tree_sl h with e | e <;> exact (List.getElem?_eq_some_iff.mp e).1
  have inF : ∀ a, a ∈ A' ∨ a ∈ R → F i a := fun a z => (hF a).mpr (pm.mem_iff.mpr (List.mem_append.mpr z))
  have atj : ((ρ.set i (withTree (t.put π (.val (.cls s.adr))) (ρ[i]?))).set j (withTree s (ρ[i]?)))[j]? = some (withTree s (ρ[i]?)) := List.getElem?_set_self (by rw [List.length_set]; exact fl)
  have ati : ((ρ.set i (withTree (t.put π (.val (.cls s.adr))) (ρ[i]?))).set j (withTree s (ρ[i]?)))[i]? = some (withTree (t.put π (.val (.cls s.adr))) (ρ[i]?)) := by
    rw [List.getElem?_set_ne (Ne.symm ij), List.getElem?_set_self hi]
  have atm : ∀ m, m ≠ i → m ≠ j → ((ρ.set i (withTree (t.put π (.val (.cls s.adr))) (ρ[i]?))).set j (withTree s (ρ[i]?)))[m]? = ρ[m]? := fun m hi hj => by
    rw [List.getElem?_set_ne (Ne.symm hj), List.getElem?_set_ne (Ne.symm hi)]
  refine ⟨fun m a => if m = j then a ∈ A' else if m = i then a ∈ R else F m a, A.move (by rw [List.length_set, List.length_set, List.length_set]; exact A.len) (fun m x hx => ?_) (fun m hm a z => ?_) (fun m a z => ?_) fun m m' a y z => ?_⟩
  · by_cases hj : m = j
    · subst hj
      rw [atj] at hx
      cases hx
      rw [List.getElem?_set_self (by rw [A.len]; exact fl)]
      have e : (fun a => if m = m then a ∈ A' else if m = i then a ∈ R else F m a) = fun a => a ∈ A' := by funext a; exact if_pos rfl
      show SlOk K G H (some (.ref s.adr)) (fun a => if m = m then a ∈ A' else if m = i then a ∈ R else F m a) _
      rw [e]
      exact withTree_ok ⟨hs, A', o2, hd.1, fun _ => Iff.rfl⟩
    · rw [List.getElem?_set_ne (Ne.symm hj)]
      by_cases hm : m = i
      · subst hm
        rw [ati] at hx
        cases hx
        have e : (fun a => if m = j then a ∈ A' else if m = m then a ∈ R else F m a) = fun a => a ∈ R := by funext a; rw [if_neg hj, if_pos rfl]
        show SlOk K G H _ (fun a => if m = j then a ∈ A' else if m = m then a ∈ R else F m a) _
        rw [e, h1]
        exact withTree_ok ⟨hp, E, oE, (pE'.nodup_iff).mpr hd.2.1, fun a => pE'.mem_iff.symm⟩
      · rw [atm m hm hj] at hx
        have e : (fun a => if m = j then a ∈ A' else if m = i then a ∈ R else F m a) = F m := by funext a; rw [if_neg hj, if_neg hm]
        show SlOk K G H _ (fun a => if m = j then a ∈ A' else if m = i then a ∈ R else F m a) _
        rw [e]
        exact A.sl m x hx
  · by_cases hj : m = j
    · subst hj
      rw [atj] at hm
      cases hm
    · by_cases hm2 : m = i
      · subst hm2
        rw [ati] at hm
        cases hm
      · rw [atm m hm2 hj] at hm
        rw [if_neg hj, if_neg hm2] at z
        exact A.no m hm a z
  · by_cases hj : m = j
    · subst hj
      rw [if_pos rfl] at z
      refine ⟨i, inF a (.inl z), fun q => ?_⟩
      rw [atj]
      exact withTree_arg (t' := s) q
    · by_cases hm : m = i
      · subst hm
        rw [if_neg hj, if_pos rfl] at z
        refine ⟨m, inF a (.inr z), fun q => ?_⟩
        rw [ati]
        exact withTree_arg (t' := s) q
      · rw [if_neg hj, if_neg hm] at z
        exact ⟨m, z, fun q => by rw [atm m hm hj]; exact q⟩
  · have dis : ∀ m, m ≠ i → F m a → ¬ (a ∈ A' ∨ a ∈ R) := fun m hm q1 q2 => hm (A.dj m i a q1 (inF a q2))
    by_cases hj : m = j
    · rw [if_pos hj] at y
      by_cases hj' : m' = j
      · exact hj.trans hj'.symm
      · rw [if_neg hj'] at z
        by_cases hm' : m' = i
        · rw [if_pos hm'] at z
          exact absurd rfl (hd.2.2 a y a z)
        · rw [if_neg hm'] at z
          exact absurd (.inl y) (dis m' hm' z)
    · rw [if_neg hj] at y
      by_cases hm : m = i
      · rw [if_pos hm] at y
        by_cases hj' : m' = j
        · rw [if_pos hj'] at z
          exact absurd rfl (hd.2.2 a z a y)
        · rw [if_neg hj'] at z
          by_cases hm' : m' = i
          · exact hm.trans hm'.symm
          · rw [if_neg hm'] at z
            exact absurd (.inr y) (dis m' hm' z)
      · rw [if_neg hm] at y
        by_cases hj' : m' = j
        · rw [if_pos hj'] at z
          exact absurd (.inl z) (dis m hm y)
        · rw [if_neg hj'] at z
          by_cases hm' : m' = i
          · rw [if_pos hm'] at z
            exact absurd (.inr z) (dis m hm y)
          · rw [if_neg hm'] at z
            exact A.dj m m' a y z
/-- .. and given back -/
theorem At.give {i j : Nat} {t s : OT} {π : List Stp} {p : Addr} (A : At K M Z G0 H0 G H σ ρ F) (h : treeOf (ρ[i]?) = some t) (hj : treeOf (ρ[j]?) = some s) (hg : t.get π = some (.val (.cls p))) (hs : s.adr = p) (ij : i ≠ j) (hk : Sl.isArg (ρ[j]?) → Sl.isArg (ρ[i]?)) (hp : (t.put π s).node = true) :
    ∃ F', At K M Z G0 H0 G H σ ((ρ.set i (withTree (t.put π s) (ρ[i]?))).set j .un) F' := by
  obtain ⟨h1, n, B, v', A', R, o, nd, hF, o2, pm, b⟩ := A.tree h hg
  obtain ⟨g1, ns, C, _, _, _, oC, ndC, hC, _⟩ := A.tree (π := []) hj rfl
  cases o2 with
  | val r =>
    cases r with
    | cls _ =>
      have hR : ∀ a, F i a ↔ a ∈ R := fun a => by
        rw [hF a, pm.mem_iff]
        simp
      have ndR : R.Nodup := by
        have := (pm.nodup_iff).mp nd
        simpa using this
      have er : s.root = .ref p := by rw [OT.root_adr ns, hs]
      rw [er] at oC
      obtain ⟨E, oE, pE⟩ := b G H s C (Same.refl G) (fun _ _ => rfl) oC
      have hi : i < ρ.length := by
        rcases tree_sl h with e | e <;> exact (List.getElem?_eq_some_iff.mp e).1
      have hjl : j < ρ.length := by
        rcases tree_sl hj with e | e <;> exact (List.getElem?_eq_some_iff.mp e).1
      have ndE : E.Nodup := by
        rw [pE.nodup_iff, List.nodup_append]
        refine ⟨ndC, ndR, fun a ha c hc e => ?_⟩
        subst e
        exact ij (A.dj i j a ((hR a).mpr hc) ((hC a).mpr ha))
      have inE : ∀ a, a ∈ E ↔ (a ∈ C ∨ a ∈ R) := fun a => by rw [pE.mem_iff, List.mem_append]
      have atj : ((ρ.set i (withTree (t.put π s) (ρ[i]?))).set j Sl.un)[j]? = some .un := List.getElem?_set_self (by rw [List.length_set]; exact hjl)
      have ati : ((ρ.set i (withTree (t.put π s) (ρ[i]?))).set j Sl.un)[i]? = some (withTree (t.put π s) (ρ[i]?)) := by
        rw [List.getElem?_set_ne (Ne.symm ij), List.getElem?_set_self hi]
      have atm : ∀ m, m ≠ i → m ≠ j → ((ρ.set i (withTree (t.put π s) (ρ[i]?))).set j Sl.un)[m]? = ρ[m]? := fun m hi hj => by
        rw [List.getElem?_set_ne (Ne.symm hj), List.getElem?_set_ne (Ne.symm hi)]
      refine ⟨fun m a => if m = i then a ∈ E else if m = j then False else F m a, A.move (by rw [List.length_set, List.length_set]; exact A.len) (fun m x hx => ?_) (fun m hm a z => ?_) (fun m a z => ?_) fun m m' a y z => ?_⟩
      · by_cases hm : m = i
        · subst hm
          rw [ati] at hx
          cases hx
          have e : (fun a => if m = m then a ∈ E else if m = j then False else F m a) = fun a => a ∈ E := by funext a; exact if_pos rfl
          show SlOk K G H _ (fun a => if m = m then a ∈ E else if m = j then False else F m a) _
          rw [e, h1]
          exact withTree_ok ⟨hp, E, oE, ndE, fun _ => Iff.rfl⟩
        · by_cases hmj : m = j
          · subst hmj
            rw [atj] at hx
            cases hx
            intro a z
            have z' : if m = i then a ∈ E else if m = m then False else F m a := z
            rw [if_neg hm, if_pos rfl] at z'
            exact z'
          · rw [atm m hm hmj] at hx
            have e : (fun a => if m = i then a ∈ E else if m = j then False else F m a) = F m := by funext a; rw [if_neg hm, if_neg hmj]
            show SlOk K G H _ (fun a => if m = i then a ∈ E else if m = j then False else F m a) _
            rw [e]
            exact A.sl m x hx
      · by_cases hm2 : m = i
        · subst hm2
          rw [ati] at hm
          cases hm
        · rw [if_neg hm2] at z
          by_cases hmj : m = j
          · rw [if_pos hmj] at z
            exact z
          · rw [if_neg hmj] at z
            rw [atm m hm2 hmj] at hm
            exact A.no m hm a z
      · by_cases hm : m = i
        · subst hm
          rw [if_pos rfl] at z
          rcases (inE a).mp z with z | z
          · exact ⟨j, (hC a).mpr z, fun q => by rw [ati]; exact withTree_arg (t' := s) (hk q)⟩
          · exact ⟨m, (hR a).mpr z, fun q => by rw [ati]; exact withTree_arg (t' := s) q⟩
        · rw [if_neg hm] at z
          by_cases hmj : m = j
          · rw [if_pos hmj] at z
            exact z.elim
          · rw [if_neg hmj] at z
            exact ⟨m, z, fun q => by rw [atm m hm hmj]; exact q⟩
      · have dis : ∀ m, m ≠ i → m ≠ j → F m a → ¬ a ∈ E := fun m hm hmj q1 q2 => by
          rcases (inE a).mp q2 with z | z
          · exact hmj (A.dj m j a q1 ((hC a).mpr z))
          · exact hm (A.dj m i a q1 ((hR a).mpr z))
        by_cases hm : m = i
        · rw [if_pos hm] at y
          by_cases hm' : m' = i
          · exact hm.trans hm'.symm
          · rw [if_neg hm'] at z
            by_cases hj' : m' = j
            · rw [if_pos hj'] at z; exact z.elim
            · rw [if_neg hj'] at z
              exact absurd y (dis m' hm' hj' z)
        · rw [if_neg hm] at y
          by_cases hmj : m = j
          · rw [if_pos hmj] at y; exact y.elim
          · rw [if_neg hmj] at y
            by_cases hm' : m' = i
            · rw [if_pos hm'] at z
              exact absurd z (dis m hm hmj y)
            · rw [if_neg hm'] at z
              by_cases hj' : m' = j
              · rw [if_pos hj'] at z; exact z.elim
              · rw [if_neg hj'] at z
                exact A.dj m m' a y z
end
/-- i, π: the place of the list; n turns are left, k were -/
def dForPL (i j : Nat) (π : List Stp) (b : DS) (Δ : Ds) : Nat → Nat → List Sl → Prop
  | 0, _, ρ => Δ.nx ρ
  | n + 1, k, ρ => i ≠ j ∧ free ρ j ∧ ∃ t s, treeOf (ρ[i]?) = some t ∧ t.get (π ++ [.ix k]) = some s ∧ s.node = true ∧
      let hole := t.put (π ++ [.ix k]) (.val (.cls s.adr))
      let back : List Sl → Prop := fun ρ2 => ∃ s', ρ2[j]? = some (withTree s' (ρ[i]?)) ∧ s'.node = true ∧ s'.adr = s.adr ∧ ρ2[i]? = some (withTree hole (ρ[i]?)) ∧ dForPL i j π b Δ n (k + 1) ((ρ2.set i (withTree (hole.put (π ++ [.ix k]) s') (ρ[i]?))).set j .un)
      b { nx := back, rt := fun _ _ => False, bk := fun _ => False, ct := back } ((ρ.set i (withTree hole (ρ[i]?))).set j (withTree s (ρ[i]?)))
@[irreducible] def dForP (d : DP) (j : Nat) (b : DS) : DS := fun Δ ρ => d ρ fun i π s ρ1 => match s with
  | .lst _ xs => (∀ x ∈ xs, x.node = true) ∧ dForPL i j π b Δ xs.length 0 ρ1
  | _ => False
theorem get_put : ∀ {π : List Stp} {t s u : OT}, t.get π = some s → (t.put π u).get π = some u
  | [], t, s, u, h => rfl
  | .ix k :: π, .lst p xs, s, u, h => by
    unfold OT.get at h
    split at h
    · rename_i t e
      have hk : k < xs.length := (List.getElem?_eq_some_iff.mp e).1
      unfold OT.put
      rw [e]
      show (match (xs.set k (t.put π u))[k]? with | some t => t.get π | none => none) = _
      rw [List.getElem?_set_self hk]
      exact get_put h
    · cases h
  | .ix k :: π, .tup p xs, s, u, h => by
    unfold OT.get at h
    split at h
    · rename_i t e
      have hk : k < xs.length := (List.getElem?_eq_some_iff.mp e).1
      unfold OT.put
      rw [e]
      show (match (xs.set k (t.put π u))[k]? with | some t => t.get π | none => none) = _
      rw [List.getElem?_set_self hk]
      exact get_put h
    · cases h
  | .fd f :: π, .ins p dx C fs, s, u, h => by
    unfold OT.get at h
    split at h
    · rename_i t e
      unfold OT.put
      rw [e]
      show (match (putFs f (t.put π u) fs).lookup f with | some t => t.get π | none => none) = _
      have : ∀ fs : List (Str × OT), (putFs f (t.put π u) fs).lookup f = some (t.put π u) := by
        intro fs
        induction fs with
        | nil => simp [putFs, List.lookup]
        | cons x r ih =>
          obtain ⟨g, y⟩ := x
          show (if g = f then (g, t.put π u) :: r else (g, y) :: putFs f (t.put π u) r).lookup f = _
          by_cases c : g = f
          · rw [if_pos c, c]; simp [List.lookup]
          · rw [if_neg c]
            have cb : (f == g) = false := by simpa using fun z => c z.symm
            simpa [List.lookup, cb] using ih
      rw [this]
      exact get_put h
    · cases h
  | .ix _ :: _, .val _, _, _, h => by cases h
  | .fd _ :: _, .val _, _, _, h => by cases h
  | .fd _ :: _, .lst _ _, _, _, h => by cases h
  | .fd _ :: _, .tup _ _, _, _, h => by cases h
  | .ix _ :: _, .ins _ _ _ _, _, _, h => by cases h
  | .ix _ :: _, .dic _ _, _, _, h => by cases h
  | .fd _ :: _, .dic _ _, _, _, h => by cases h
theorem put_put : ∀ {π : List Stp} {t s u w : OT}, t.get π = some s → (t.put π u).put π w = t.put π w
  | [], t, s, u, w, h => rfl
  | .ix k :: π, .lst p xs, s, u, w, h => by
    unfold OT.get at h
    split at h
    · rename_i t e
      have hk : k < xs.length := (List.getElem?_eq_some_iff.mp e).1
      have e1 : OT.put (.lst p xs) (.ix k :: π) u = .lst p (xs.set k (t.put π u)) := by
        show (match xs[k]? with | some t => OT.lst p (xs.set k (t.put π u)) | none => .lst p xs) = _
        rw [e]
      have e2 : OT.put (.lst p xs) (.ix k :: π) w = .lst p (xs.set k (t.put π w)) := by
        show (match xs[k]? with | some t => OT.lst p (xs.set k (t.put π w)) | none => .lst p xs) = _
        rw [e]
      rw [e1, e2]
      show (match (xs.set k (t.put π u))[k]? with | some t' => OT.lst p ((xs.set k (t.put π u)).set k (t'.put π w)) | none => _) = _
      rw [List.getElem?_set_self hk]
      show OT.lst p _ = _
      rw [List.set_set, put_put h]
    · cases h
  | .ix k :: π, .tup p xs, s, u, w, h => by
    unfold OT.get at h
    split at h
    · rename_i t e
      have hk : k < xs.length := (List.getElem?_eq_some_iff.mp e).1
      have e1 : OT.put (.tup p xs) (.ix k :: π) u = .tup p (xs.set k (t.put π u)) := by
        show (match xs[k]? with | some t => OT.tup p (xs.set k (t.put π u)) | none => .tup p xs) = _
        rw [e]
      have e2 : OT.put (.tup p xs) (.ix k :: π) w = .tup p (xs.set k (t.put π w)) := by
        show (match xs[k]? with | some t => OT.tup p (xs.set k (t.put π w)) | none => .tup p xs) = _
        rw [e]
      rw [e1, e2]
      show (match (xs.set k (t.put π u))[k]? with | some t' => OT.tup p ((xs.set k (t.put π u)).set k (t'.put π w)) | none => _) = _
      rw [List.getElem?_set_self hk]
      show OT.tup p _ = _
      rw [List.set_set, put_put h]
    · cases h
  | .fd f :: π, .ins p dx C fs, s, u, w, h => by
    unfold OT.get at h
    split at h
    · rename_i t e
      have lk : ∀ (y : OT) (fs : List (Str × OT)), (putFs f y fs).lookup f = some y := by
        intro y fs
        induction fs with
        | nil => simp [putFs, List.lookup]
        | cons x r ih =>
          obtain ⟨g, z⟩ := x
          show (if g = f then (g, y) :: r else (g, z) :: putFs f y r).lookup f = _
          by_cases c : g = f
          · rw [if_pos c, c]; simp [List.lookup]
          · rw [if_neg c]
            have cb : (f == g) = false := by simpa using fun z => c z.symm
            simpa [List.lookup, cb] using ih
      have pp : ∀ (y z : OT) (fs : List (Str × OT)), putFs f z (putFs f y fs) = putFs f z fs := by
        intro y z fs
        induction fs with
        | nil => simp [putFs]
        | cons x r ih =>
          obtain ⟨g, q⟩ := x
          by_cases c : g = f
          · subst c; simp [putFs]
          · have e1 : ∀ y, putFs f y ((g, q) :: r) = (g, q) :: putFs f y r := fun y => if_neg c
            rw [e1, e1]
            have e2 : putFs f z ((g, q) :: putFs f y r) = (g, q) :: putFs f z (putFs f y r) := if_neg c
            rw [e2, ih]
      have e1 : ∀ u, OT.put (.ins p dx C fs) (.fd f :: π) u = .ins p dx C (putFs f (t.put π u) fs) := by
        intro u
        show (match fs.lookup f with | some t => OT.ins p dx C (putFs f (t.put π u) fs) | none => .ins p dx C fs) = _
        rw [e]
      rw [e1, e1]
      show (match (putFs f (t.put π u) fs).lookup f with | some t' => OT.ins p dx C (putFs f (t'.put π w) (putFs f (t.put π u) fs)) | none => _) = _
      rw [lk]
      show OT.ins p dx C _ = _
      rw [pp, put_put h]
    · cases h
  | .ix _ :: _, .val _, _, _, _, h => by cases h
  | .fd _ :: _, .val _, _, _, _, h => by cases h
  | .fd _ :: _, .lst _ _, _, _, _, h => by cases h
  | .fd _ :: _, .tup _ _, _, _, _, h => by cases h
  | .ix _ :: _, .ins _ _ _ _, _, _, _, h => by cases h
  | .ix _ :: _, .dic _ _, _, _, _, h => by cases h
  | .fd _ :: _, .dic _ _, _, _, _, h => by cases h
theorem get_pre : ∀ {π : List Stp} {t s : OT} {k : Stp}, t.get (π ++ [k]) = some s → ∃ u, t.get π = some u ∧ u.get [k] = some s
  | [], t, s, k, h => ⟨t, rfl, h⟩
  | .ix j :: π, .lst p xs, s, k, h => by
    have h' : (match xs[j]? with | some t => t.get (π ++ [k]) | none => none) = some s := h
    split at h'
    · rename_i t e
      obtain ⟨u, h1, h2⟩ := get_pre h'
      exact ⟨u, by show (match xs[j]? with | some t => t.get π | none => none) = _; rw [e]; exact h1, h2⟩
    · cases h'
  | .ix j :: π, .tup p xs, s, k, h => by
    have h' : (match xs[j]? with | some t => t.get (π ++ [k]) | none => none) = some s := h
    split at h'
    · rename_i t e
      obtain ⟨u, h1, h2⟩ := get_pre h'
      exact ⟨u, by show (match xs[j]? with | some t => t.get π | none => none) = _; rw [e]; exact h1, h2⟩
    · cases h'
  | .fd f :: π, .ins p dx C fs, s, k, h => by
    have h' : (match fs.lookup f with | some t => t.get (π ++ [k]) | none => none) = some s := h
    split at h'
    · rename_i t e
      obtain ⟨u, h1, h2⟩ := get_pre h'
      exact ⟨u, by show (match fs.lookup f with | some t => t.get π | none => none) = _; rw [e]; exact h1, h2⟩
    · cases h'
  | .ix _ :: _, .val _, _, _, h => by cases h
  | .fd _ :: _, .val _, _, _, h => by cases h
  | .fd _ :: _, .lst _ _, _, _, h => by cases h
  | .fd _ :: _, .tup _ _, _, _, h => by cases h
  | .ix _ :: _, .ins _ _ _ _, _, _, h => by cases h
  | .ix _ :: _, .dic _ _, _, _, h => by cases h
  | .fd _ :: _, .dic _ _, _, _, h => by cases h
/-- the list of a place, an item of it put -/
theorem get_put_ix : ∀ {π : List Stp} {t : OT} {q : Addr} {xs : List OT} {k : Nat} {s : OT}, t.get π = some (.lst q xs) → k < xs.length → (t.put (π ++ [Stp.ix k]) s).get π = some (.lst q (xs.set k s))
  | [], t, q, xs, k, s, h, hk => by
    cases h
    show OT.get (match xs[k]? with | some t => OT.lst q (xs.set k (t.put [] s)) | none => .lst q xs) [] = _
    rw [List.getElem?_eq_getElem hk]
    rfl
  | .ix j :: π, .lst p ys, q, xs, k, s, h, hk => by
    unfold OT.get at h
    split at h
    · rename_i t e
      have hj : j < ys.length := (List.getElem?_eq_some_iff.mp e).1
      have e1 : OT.put (.lst p ys) (Stp.ix j :: (π ++ [Stp.ix k])) s = .lst p (ys.set j (t.put (π ++ [Stp.ix k]) s)) := by
        show (match ys[j]? with | some t => OT.lst p (ys.set j (t.put (π ++ [Stp.ix k]) s)) | none => .lst p ys) = _
        rw [e]
      rw [List.cons_append, e1]
      show (match (ys.set j (t.put (π ++ [Stp.ix k]) s))[j]? with | some t => t.get π | none => none) = _
      rw [List.getElem?_set_self hj]
      exact get_put_ix h hk
    · cases h
  | .ix j :: π, .tup p ys, q, xs, k, s, h, hk => by
    unfold OT.get at h
    split at h
    · rename_i t e
      have hj : j < ys.length := (List.getElem?_eq_some_iff.mp e).1
      have e1 : OT.put (.tup p ys) (Stp.ix j :: (π ++ [Stp.ix k])) s = .tup p (ys.set j (t.put (π ++ [Stp.ix k]) s)) := by
        show (match ys[j]? with | some t => OT.tup p (ys.set j (t.put (π ++ [Stp.ix k]) s)) | none => .tup p ys) = _
        rw [e]
      rw [List.cons_append, e1]
      show (match (ys.set j (t.put (π ++ [Stp.ix k]) s))[j]? with | some t => t.get π | none => none) = _
      rw [List.getElem?_set_self hj]
      exact get_put_ix h hk
    · cases h
  | .fd f :: π, .ins p dx C fs, q, xs, k, s, h, hk => by
    unfold OT.get at h
    split at h
    · rename_i t e
      have e1 : OT.put (.ins p dx C fs) (Stp.fd f :: (π ++ [Stp.ix k])) s = .ins p dx C (putFs f (t.put (π ++ [Stp.ix k]) s) fs) := by
        show (match fs.lookup f with | some t => OT.ins p dx C (putFs f (t.put (π ++ [Stp.ix k]) s) fs) | none => .ins p dx C fs) = _
        rw [e]
      have lk : ∀ (y : OT) (fs : List (Str × OT)), (putFs f y fs).lookup f = some y := by
        intro y fs
        induction fs with
        | nil => simp [putFs, List.lookup]
        | cons x r ih =>
          obtain ⟨g, z⟩ := x
          show (if g = f then (g, y) :: r else (g, z) :: putFs f y r).lookup f = _
          by_cases c : g = f
          · rw [if_pos c, c]; simp [List.lookup]
          · rw [if_neg c]
            have cb : (f == g) = false := by simpa using fun z => c z.symm
            simpa [List.lookup, cb] using ih
      rw [List.cons_append, e1]
      show (match (putFs f (t.put (π ++ [Stp.ix k]) s) fs).lookup f with | some t => t.get π | none => none) = _
      rw [lk]
      exact get_put_ix h hk
    · cases h
  | .ix _ :: _, .val _, _, _, _, _, h, _ => by cases h
  | .fd _ :: _, .val _, _, _, _, _, h, _ => by cases h
  | .fd _ :: _, .lst _ _, _, _, _, _, h, _ => by cases h
  | .fd _ :: _, .tup _ _, _, _, _, _, h, _ => by cases h
  | .ix _ :: _, .ins _ _ _ _, _, _, _, _, h, _ => by cases h
  | .ix _ :: _, .dic _ _, _, _, _, _, h, _ => by cases h
  | .fd _ :: _, .dic _ _, _, _, _, _, h, _ => by cases h
end DL
set_option Elab.async false
set_option linter.all false
set_option maxRecDepth 100000
set_option maxHeartbeats 2000000
namespace DL
open PySem PySem.Spec PyProof.Rows L2 RT
variable [Tabl]

theorem OwnL.roots {K : PySem.W.Frag} {G H : Hp} : ∀ {vs : List V} {ts : List OT} {A : List Addr}, OwnL K G H vs ts A → (∀ t ∈ ts, t.node = true) → vs = ts.map OT.root
  | _, _, _, .nil, _ => rfl
  | _, _, _, .cons h r, n => by
    rw [List.map_cons, h.root (n _ List.mem_cons_self), OwnL.roots r fun t ht => n t (List.mem_cons_of_mem _ ht)]
theorem treeOf_with {t : OT} {o : Option Sl} : treeOf (some (withTree t o)) = some t := by
  unfold withTree
  split <;> rfl
theorem with_with {t u : OT} {o : Option Sl} : withTree t (some (withTree u o)) = withTree t o := by
  cases o with
  | none => rfl
  | some x => cases x <;> rfl
theorem isArg_with {t u : OT} {o : Option Sl} : Sl.isArg (some (withTree t o)) → Sl.isArg (some (withTree u o)) := by
  unfold withTree
  cases o with
  | none => exact id
  | some x =>
    cases x with
    | arg y => exact id
    | _ => exact id
theorem sim_forP {K : PySem.W.Frag} {tp : TE} {d : DP} {j : Nat} {t : TS} {b : DS} (h : SimP K tp d) (hb : SimS K t b) : SimS K (tFor (iAny K tp) (gName j) t) (dForP d j b) := by
  intro M Z G0 H0 G H σ ρ F Δ Q A hd k1 k2 k3 k4
  unfold dForP at hd
  refine h A hd fun v i π s ρ1 F1 G1 H1 A1 e1 p1 q1 => ?_
  split at q1
  · rename_i q xs
    obtain ⟨hn, q1⟩ := q1
    obtain ⟨t0, et, eg⟩ := p1.ex
    obtain ⟨B, o⟩ := p1.own
    cases o with
    | lst hp ol =>
      rename_i vs A0
      have hvs : vs = xs.map OT.root := ol.roots hn
      have hlen : vs.length = xs.length := by rw [hvs, List.length_map]
      refine .inl ⟨q, rfl, ⟨vs, SqL.of hp⟩, ?_⟩
      refine for_it (walk_list (K := K) (a := q) (xs := vs)) (fun n σ' H' => ∃ ρ' F' G' tr xs', At K M Z G0 H0 G' H' σ' ρ' F' ∧ Same G1 G' ∧ treeOf (ρ'[i]?) = some tr ∧ tr.get π = some (.lst q xs') ∧ (∀ x ∈ xs', x.node = true) ∧ xs'.map OT.root = xs.map OT.root ∧ dForPL i j π b Δ (xs.length - n) n ρ')
        ⟨ρ1, F1, G1, t0, xs, A1, Same.refl G1, et, eg, hn, rfl, q1⟩ ?_ ?_ ?_
      · rintro n σ' H' _ ⟨ρ', F', G', tr, xs', A', e', ht, hg, hn', hr, _⟩
        obtain ⟨_, _, _, _, _, _, _, _, _, o2, _⟩ := A'.tree ht hg
        cases o2 with
        | lst hp' ol' =>
          have e2 := ol'.roots hn'
          rw [hr, ← hvs] at e2
          rw [e2] at hp'
          exact SqL.of hp'
      · rintro n x σ' H' H'' hnl ⟨ρ', F', G', tr, xs', A', e', ht, hg, hn', hr, qd⟩ ⟨rfl, hx⟩
        have hlt : n < xs.length := by rw [← hlen]; exact hnl
        have em : xs.length - n = (xs.length - (n + 1)) + 1 := by omega
        rw [em] at qd
        obtain ⟨ij, fj, t1, s, ht1, hg1, hs, qb⟩ := qd
        rw [ht] at ht1
        cases ht1
        obtain ⟨u, hu1, hu2⟩ := get_pre hg1
        rw [hg] at hu1
        cases hu1
        have hxs : xs'[n]? = some s := by
          have hu3 : (match xs'[n]? with | some t => t.get [] | none => none) = some s := hu2
          split at hu3
          · rename_i t e
            cases hu3
            exact e
          · cases hu3
        have hn2 : n < xs'.length := (List.getElem?_eq_some_iff.mp hxs).1
        have ex : x = .ref s.adr := by
          rw [hvs, ← hr, List.getElem?_map, hxs] at hx
          have := Option.some.inj hx
          rw [← this, OT.root_adr hs]
        subst ex
        obtain ⟨_, nn, _⟩ := A'.tree ht hg
        obtain ⟨F2, A2⟩ := A'.take ht hg1 hs (put_node nn (.inr (by simp))) ij fj
        have fin : ∀ σ3 ρ3 F3 G3 H3, At K M Z G0 H0 G3 H3 σ3 ρ3 F3 → Same G' G3 → (∃ s', ρ3[j]? = some (withTree s' (ρ'[i]?)) ∧ s'.node = true ∧ s'.adr = s.adr ∧ ρ3[i]? = some (withTree (tr.put (π ++ [.ix n]) (.val (.cls s.adr))) (ρ'[i]?)) ∧ dForPL i j π b Δ (xs.length - (n + 1)) (n + 1) ((ρ3.set i (withTree ((tr.put (π ++ [.ix n]) (.val (.cls s.adr))).put (π ++ [.ix n]) s') (ρ'[i]?))).set j .un)) →
            ∃ ρ' F' G' tr xs', At K M Z G0 H0 G' H3 σ3 ρ' F' ∧ Same G1 G' ∧ treeOf (ρ'[i]?) = some tr ∧ tr.get π = some (.lst q xs') ∧ (∀ x ∈ xs', x.node = true) ∧ xs'.map OT.root = xs.map OT.root ∧ dForPL i j π b Δ (xs.length - (n + 1)) (n + 1) ρ' := by
          rintro σ3 ρ3 F3 G3 H3 A3 e3 ⟨s', hj', ns', as', hi', q'⟩
          have et3 : treeOf (ρ3[i]?) = some (tr.put (π ++ [.ix n]) (.val (.cls s.adr))) := by rw [hi', treeOf_with]
          obtain ⟨F4, A4⟩ := A3.give et3 (by rw [hj', treeOf_with]) (get_put hg1) as' ij (fun z => by rw [hj'] at z; rw [hi']; exact isArg_with z) (put_node (put_node nn (.inr (by simp))) (.inr (by simp)))
          rw [hi', with_with] at A4
          have epp : (tr.put (π ++ [.ix n]) (.val (.cls s.adr))).put (π ++ [.ix n]) s' = tr.put (π ++ [.ix n]) s' := put_put hg1
          rw [epp] at A4 q'
          have hil : i < ρ3.length := (List.getElem?_eq_some_iff.mp hi').1
          refine ⟨_, F4, G3, tr.put (π ++ [.ix n]) s', xs'.set n s', A4, e'.trans e3, ?_, get_put_ix hg hn2, fun y hy => ?_, ?_, q'⟩
          · rw [List.getElem?_set_ne (Ne.symm ij), List.getElem?_set_self hil, treeOf_with]
          · rcases List.mem_or_eq_of_mem_set hy with z | z
            · exact hn' y z
            · rw [z]; exact ns'
          · rw [← hr, List.map_set]
            have er : s'.root = s.root := by rw [OT.root_adr ns', OT.root_adr hs, as']
            rw [er]
            exact set_self (by rw [List.getElem?_map, hxs]; rfl)
        exact hb A2 qb (fun σ3 ρ3 F3 G3 H3 A3 e3 q3 => fin σ3 ρ3 F3 G3 H3 A3 e3 q3) (fun _ _ _ _ _ _ _ _ _ _ _ z => z.elim) (fun _ _ _ _ _ _ _ z => z.elim) (fun σ3 ρ3 F3 G3 H3 A3 e3 q3 => fin σ3 ρ3 F3 G3 H3 A3 e3 q3)
      · rintro σ' H' ⟨ρ', F', G', tr, xs', A', e', ht, hg, hn', hr, qd⟩
        rw [hlen, Nat.sub_self] at qd
        exact k1 σ' ρ' F' G' H' A' (e1.trans e') qd
  · exact q1.elim
/-- place.clear() -/
def dPClear (d : DP) : DR := fun ρ Φ => d ρ fun i π s ρ1 => match s, treeOf (ρ1[i]?) with
  | .lst p _, some t => Φ (.val .non) (ρ1.set i (withTree (t.put π (.lst p [])) (ρ1[i]?)))
  | _, _ => False
theorem sim_pclear {K : PySem.W.Frag} {tp : TE} {d : DP} (h : SimP K tp d) : SimR K (tBM0 K "list" rClear tp) (dPClear d) := by
  intro M Z G0 H0 G H σ ρ F Φ Q A hd k
  refine h A hd fun v i π s ρ1 F1 G1 H1 A1 e1 p1 q1 => ?_
  split at q1
  · rename_i s0 o0 p xs t et
    obtain ⟨t', et', eg⟩ := p1.ex
    rw [et] at et'
    cases et'
    obtain ⟨h1, n, B, v', A', R, o, nd, hF, o2, pm, b⟩ := A1.tree et eg
    obtain ⟨Bp, op⟩ := p1.own
    have hv : v = .ref p := op.root rfl
    subst hv
    cases o2 with
    | lst hp ol =>
      rename_i vs A''
      refine ⟨.inl ⟨rfl, vs, SqL.of hp⟩, p, vs, rfl, rfl, hp, ?_⟩
      have ndA : (p :: A'').Nodup := (List.nodup_append.mp ((pm.nodup_iff).mp nd)).1
      have inB : ∀ a ∈ p :: A'', F1 i a := fun a ha => (hF a).mpr (pm.mem_iff.mpr (List.mem_append_left _ ha))
      have gp : G1 p = none := (A1.fp i p (inB p List.mem_cons_self)).1
      have onew : Own K G1 (upd H1 p (.lst [])) (.ref p) (.lst p []) [p] := .lst upd_same .nil
      obtain ⟨F3, A3, _⟩ := A1.put2 et h1 nd hF pm b (Same.refl G1) (fun a u q => by rw [upd_ne (ne_of_none q gp)]; exact A1.gh a u q) (fun _ _ => rfl) (fun a ha => by
          by_cases z : a = p
          · rw [z, upd_same]; exact Option.some_ne_none _
          · rw [upd_ne z]; exact ha)
        (fun a u q na => by rw [upd_ne fun z => na (by rw [z]; exact List.mem_cons_self)]; exact q) onew (by simp) (fun a ha => by
          rw [List.mem_singleton.mp ha]
          exact ⟨gp, by rw [upd_same]; exact Option.some_ne_none _, .inl List.mem_cons_self⟩) (put_node n (.inl rfl))
      exact k _ (.val .non) _ _ F3 G1 _ A3 e1 (.val .non) q1
  · exact q1.elim
/-! ### a tree of lists and tuples lent -/
mutual
def OT.listy : OT → Bool
  | .val _ => true
  | .lst _ xs => OT.listyL xs
  | .tup _ xs => OT.listyL xs
  | .ins _ _ _ _ => false
  | .dic _ _ => false
def OT.listyL : List OT → Bool
  | [] => true
  | x :: xs => x.listy && OT.listyL xs
end
section
variable {K : PySem.W.Frag} {G H : Hp}
mutual
theorem Own.listy : ∀ {v : V} {t : OT} {A : List Addr}, Own K G H v t A → t.listy = true → ∀ a ∈ A, ∃ vs, H a = some (.lst vs)
  | _, _, _, .val _, _, _, ha => nomatch ha
  | _, _, _, .lst h r, q, a, ha => by
    rcases List.mem_cons.mp ha with z | z
    · rw [z]; exact ⟨_, h⟩
    · exact OwnL.listy r (by simpa [OT.listy] using q) a z
  | _, _, _, .tup h r, q, a, ha => OwnL.listy r (by simpa [OT.listy] using q) a ha
  | _, _, _, .ins _ _ _, q, _, _ => by simp [OT.listy] at q
  | _, _, _, .dic _ _, q, _, _ => by simp [OT.listy] at q
theorem OwnL.listy : ∀ {v : List V} {t : List OT} {A : List Addr}, OwnL K G H v t A → OT.listyL t = true → ∀ a ∈ A, ∃ vs, H a = some (.lst vs)
  | _, _, _, .nil, _, _, ha => nomatch ha
  | _, _, _, .cons h r, q, a, ha => by
    simp only [OT.listyL, Bool.and_eq_true] at q
    rcases List.mem_append.mp ha with z | z
    · exact Own.listy h q.1 a z
    · exact OwnL.listy r q.2 a z
end
end
@[irreducible] def dlTree (i : Nat) (d : DA) : DA := fun ρ Φ => match ρ[i]? with
  | some (.loc _) => d ρ fun xs ρ1 => match ρ1[i]? with
    | some (.loc t) => t.listy = true ∧ match t.toD with
      | some x => Φ (x :: xs) ρ1
      | none => False
    | _ => False
  | _ => False
theorem sim_ltree {K : PySem.W.Frag} {i : Nat} {ta : TA} {da : DA} (ha : SimAl K ta da) : SimAl K (tCons (tVar i) ta) (dlTree i da) := by
  intro M Z G0 H0 G H σ ρ F Φ Q A hd k
  unfold dlTree at hd
  split at hd
  · rename_i t0 e0
    obtain ⟨h1, _⟩ := A.mut_at (S := t0) (.inl e0)
    refine ⟨t0.root, h1, ha A hd fun vs xs ρ1 F1 G1 Gp H1 A1 e1 ep ep2 el r1 q1 => ?_⟩
    split at q1
    · rename_i t e2
      obtain ⟨hl, q1⟩ := q1
      split at q1
      · rename_i x ex
        obtain ⟨h2, ⟨n, B, o, nd, hB⟩, _⟩ := A1.mut_at (S := t) (.inl e2)
        rw [h1] at h2
        have er : t.root = t0.root := (Option.some.inj (Option.some.inj h2)).symm
        have k1 := (same_knowA (B := B) ep2.s).1
        have k2 := top_knowA (B := B) ep2 fun a ha => A1.nt ((hB a).mpr ha)
        have rx : Rp K (knowA Gp H1 B) t.root x := o.rp ex (ep.trans k1) fun a ha => by
          unfold knowA
          rw [if_pos ha]
        rw [er] at rx
        refine k _ _ ρ1 F1 G1 (knowA Gp H1 B) H1 A1 e1 (ep.trans k1) k2 (fun a u h => ?_) (.cons rx (r1.mono k1)) q1
        unfold knowA at h
        split at h
        · rename_i hm
          obtain ⟨vs, hv⟩ := o.listy hl a hm
          rw [hv] at h
          exact .inr ⟨vs, (Option.some.inj h).symm⟩
        · exact el a u h
      · exact q1.elim
    · exact q1.elim
  · exact hd.elim
/-! ### the rules -/
section
variable {X : Cx} {CX : CXT} {k : Nat} {C fa : Addr} {fd : FuncData} {ps : List Str} {f m x y : Str} {o e ei : Expr} {es : List Expr} {tp te ti : TE} {t : TA} {d : DP} {de di : DE} {dr : DR} {da : DA} {fo : DFO} {p p' pos pos' apos cpos q : Pos} {pl : Sem Bool}
theorem pp_fd (c : Cls X.K C) (n : NoAttr X.K C f) (h : PP X o tp d) (hb : attributeBase o f X.env (eval o X.env) = eval o X.env := by rfl) : PP X (.Attribute o f pos) (tFld X.K tp f) (dpFd C d f) := ⟨pe_fld h.pe hb, sim_pfd c n h.sim⟩
theorem pd_fld (c : Cls X.K C) (n : NoAttr X.K C f) (h : PD X o te de) (hb : attributeBase o f X.env (eval o X.env) = eval o X.env := by rfl) : PD X (.Attribute o f pos) (tFld X.K te f) (dFld C de f) := ⟨pe_fld h.pe hb, sim_dfld c n h.sim⟩
theorem pd_fset (c : Cls X.K C) (n : NoAttr X.K C f) (hv : PR X e te dr) (h : PP X o tp d) (hs : swapsWith e (some (.Attribute o f p')) pos.line X.env = pure false := by rfl) : PDS X (.Assign [.Attribute o f p'] e pos) (sFld X.K tp te f) (dFSet C d f dr) := ⟨ps_fld h.pe hv.pe hs, sim_fset c n hv.sim h.sim⟩
theorem pd_psetT (hv : PR X e te dr) (h : PP X o tp d) (hi : PD X ei ti di) (hs : swapsWithSole [.Subscript o ei pos'] e pos.line X.env = pure false := by rfl) (hw : swappedStores [.Subscript o ei pos'] e X.env = pure none := by rfl)
    (h1 : (assignEach [.Subscript o ei pos'] X.env).map (·.2) = [assign (.Subscript o ei pos') X.env] := by rfl)
    (ha : ∀ v, assign (.Subscript o ei pos') X.env v = (do
      let ov ← holding [v] (eval o X.env)
      let iv ← holding [v, ov] (eval ei X.env)
      standAt pos'
      holding [v, ov, iv] (setItem ov iv v)
      release [v, ov, iv] []) := by intro _; rfl) : PDS X (.Assign [.Subscript o ei pos'] e pos) (tAsg te (gSub tp ti rSetL)) (dPSetT d di dr) :=
  ⟨ps_asg hv.pe (pg_sub h.pe hi.pe set_list ha) hs hw h1, sim_psetT hv.sim h.sim hi.sim⟩
theorem pr_mk (Mk_ : Mk X.K C fa) (G : FnOk X.prog X.w X.K X.mg X.base CX0 k fa fd ps (SpO X.K fo)) (hr : Room (k + 1) X.A) (hm : X.mg x = some (.ref C)) (hb : Binds X.K fd ps []) (ha : PDA X (e :: es) t da) (hg : Gl X x := by rfl)
    (hdb : (x == ("__debug__" : Str)) = false := by decide) (he : starEach (e :: es) X.env = (false, eval e X.env) :: starEach es X.env := by rfl) (hpl : (backTo pos (starEach es X.env)).any (·.1) = false := by rfl) :
    PR X (.Call (.Name x p) (e :: es) [] pos) (tMake C (SpO X.K fo) [] E0 t) (dMk C fo da) := ⟨pe_make Mk_ G hr hg hm hb .nil pass0 ha.pe hdb he hpl, sim_mk ha.sim⟩
theorem pr_mk0 (Mk_ : Mk X.K C fa) (G : FnOk X.prog X.w X.K X.mg X.base CX0 k fa fd ps (SpO X.K fo)) (hr : Room (k + 1) X.A) (hm : X.mg x = some (.ref C)) (hb : Binds X.K fd ps []) (hg : Gl X x := by rfl)
    (hdb : (x == ("__debug__" : Str)) = false := by decide) : PR X (.Call (.Name x p) [] [] pos) (tMake C (SpO X.K fo) [] E0 tNil) (dMk C fo dNil) := ⟨pe_make0 Mk_ G hr hg hm hb .nil pass0 hdb, sim_mk sim_nil⟩
theorem pr_mkL (Mk_ : Mk X.K C fa) (G : FnOk X.prog X.w X.K X.mg X.base CX0 k fa fd ps (SpO X.K fo)) (hr : Room (k + 1) X.A) (hm : X.mg x = some (.ref C)) (hb : Binds X.K fd ps []) (ha : PDAl X (e :: es) t da) (hg : Gl X x := by rfl)
    (hdb : (x == ("__debug__" : Str)) = false := by decide) (he : starEach (e :: es) X.env = (false, eval e X.env) :: starEach es X.env := by rfl) (hpl : (backTo pos (starEach es X.env)).any (·.1) = false := by rfl) :
    PR X (.Call (.Name x p) (e :: es) [] pos) (tMake C (SpO X.K fo) [] E0 t) (dMkL C fo da) := ⟨pe_make Mk_ G hr hg hm hb .nil pass0 ha.pe hdb he hpl, sim_mkL ha.sim⟩
theorem pr_callM (c : Cls X.K C) (hM : Meth X.K C m fa) (G : FnOk X.prog X.w X.K X.mg X.base CX0 k fa fd ps (SpO X.K fo)) (hr : Room k X.A) (hb : Binds X.K fd ps []) (h : PP X o tp d) (ha : PDA X (e :: es) t da)
    (hst : starEach (e :: es) X.env = (false, eval e X.env) :: starEach es X.env := by rfl) (hpl : (backTo pos (starEach es X.env)).any (·.1) = false := by rfl)
    (ht : eval (.Call (.Attribute o m apos) (e :: es) [] pos) X.env = (do
      let ov ← eval o X.env
      standAt apos.atName
      let (f, first) ← holding [ov] (getMethod ov m pl)
      callWith pos f first (backTo pos (starEach (e :: es) X.env)) (backToKw pos (keywordEach [] X.env))) := by rfl) :
    PR X (.Call (.Attribute o m apos) (e :: es) [] pos) (tMeth C m (SpO X.K fo) [] E0 tp t) (dCallM C m fo d da) := ⟨pe_meth h.pe c hM G hr hb .nil pass0 ha.pe hst hpl ht, sim_callM h.sim ha.sim⟩
theorem pr_callM0 (c : Cls X.K C) (hM : Meth X.K C m fa) (G : FnOk X.prog X.w X.K X.mg X.base CX0 k fa fd ps (SpO X.K fo)) (hr : Room k X.A) (hb : Binds X.K fd ps []) (h : PP X o tp d)
    (ht : eval (.Call (.Attribute o m apos) [] [] pos) X.env = (do
      let ov ← eval o X.env
      standAt apos.atName
      let (f, first) ← holding [ov] (getMethod ov m pl)
      callWith pos f first (backTo pos (starEach [] X.env)) (backToKw pos (keywordEach [] X.env))) := by rfl) :
    PR X (.Call (.Attribute o m apos) [] [] pos) (tMeth C m (SpO X.K fo) [] E0 tp tNil) (dCallM C m fo d dNil) := ⟨pe_meth0 h.pe c hM G hr hb .nil pass0 ht, sim_callM h.sim sim_nil⟩
theorem pr_pclear (h : PP X o tp d) (hbase : attributeBase o "clear" X.env (eval o X.env) = eval o X.env := by rfl) (hline : (apos.endLine == cpos.line) = true := by rfl) :
    PR X (.Call (.Attribute o "clear" apos) [] [] cpos) (tBM0 X.K "list" rClear tp) (dPClear d) := ⟨pe_bm0 PySem.F.plainAttrs_list PySem.F.slot_list_clear PySem.F.type_list_clear mt_clear h.pe hbase hline, sim_pclear h.sim⟩
theorem pdal_tree (i : Nat) (ha : PDAl X es t da) (hN : X.N[i]? = some x := by rfl) (hv : Vis X.env.scope x := by first | exact Or.inl rfl | exact Or.inr (Or.inl rfl) | exact Or.inr (Or.inr rfl)) (hd : (x == ("__debug__" : Str)) = false := by decide)
    (hcd : (x == ("__classdict__" : Str)) = false := by decide) (hs : starEach (.Name x p :: es) X.env = (false, eval (.Name x p) X.env) :: starEach es X.env := by rfl) : PDAl X (.Name x p :: es) (tCons (tVar i) t) (dlTree i da) := ⟨pa_cons (pe_var hN hv hd hcd) ha.pe hs, sim_ltree ha.sim⟩
theorem PP.frz (h : PP X e tp d) : PD X e tp (dFrzP d) := ⟨h.pe, sim_frzP h.sim⟩
theorem pd_forP {body : List Stmt} {tb : TS} {b : DS} (j : Nat) (nd : X.N.Nodup) (h : PP X o tp d) (hb : PDSs X body tb b) (hi : X.N[j]? = some y := by rfl) (hx : Loc X.env.scope y := by first | exact Or.inl rfl | exact Or.inr rfl)
    (hf : X.fn y = true ∨ X.env.scope.names.lookup y = some .local := by first | exact .inl rfl | exact .inr rfl | assumption)
    (hp : PassesOwn (model X.prog X.w) X.A X.env X.xe := by first | exact PassesOwn.never | assumption) (hc : X.calm = true := by rfl)
    (hs : ∀ z, foldedSetIterable o X.env z = pure z := by intro _; rfl) : PDS X (.For (.Name y p') o body [] pos) (tFor (iAny X.K tp) (gName j) tb) (dForP d j b) :=
  ⟨ps_for hp hc (pi_any h.pe) (pdg_name nd hi hx hf).pg hb.pe hs, sim_forP h.sim hb.sim⟩
end
end DL
set_option Elab.async false
set_option linter.all false
set_option maxRecDepth 100000
set_option maxHeartbeats 2000000
namespace DL
open PySem PySem.Spec PyProof.Rows L2 RT
variable [Tabl]

/-! ### an expression for which lists of one's own are locked -/
def Locked (L : List Addr) (H H1 : Hp) : Prop := (∀ a, a ∉ L → H1 a = H a) ∧ ∀ q ∈ L, ∃ od vs, H q = some (.lst vs) ∧ H1 q = some (.frz od (.lst vs))
open Classical in
noncomputable def thaw (L : List Addr) (H H2 : Hp) : Hp := fun a => if a ∈ L then H a else H2 a
def tLocks (t : TE) : TE := fun σ H Q => ∃ L : List Addr, L.Nodup ∧ (∀ q ∈ L, ∃ vs, H q = some (.lst vs)) ∧ ∀ H1, Locked L H H1 → t σ H1 fun v H2 => (∀ q ∈ L, H2 q = H1 q) ∧ Q v (thaw L H H2)
section
variable {X : Cx} {pins : List (Addr × Obj)} {σ : L2.St} {H : Hp} {s : Shared}
theorem lock_all (I : Inv X pins σ H s) : ∀ {L : List Addr}, L.Nodup → (∀ q ∈ L, ∃ vs, H q = some (.lst vs)) → ∃ H1, Inv X pins σ H1 s ∧ Locked L H H1
  | [], _, _ => ⟨H, I, fun _ _ => rfl, fun q hq => nomatch hq⟩
  | q :: L, nd, h => by
    obtain ⟨n1, n2⟩ := List.nodup_cons.mp nd
    obtain ⟨H1, I1, l1, l2⟩ := lock_all I n2 fun x hx => h x (List.mem_cons_of_mem _ hx)
    obtain ⟨vs, hq⟩ := h q List.mem_cons_self
    have h1 : H1 q = some (.lst vs) := by rw [l1 q n1, hq]
    obtain ⟨od, I2⟩ := I1.lock h1 True.intro
    refine ⟨_, I2, fun a ha => ?_, fun x hx => ?_⟩
    · rw [upd_ne fun z => ha (by rw [z]; exact List.mem_cons_self)]
      exact l1 a fun z => ha (List.mem_cons_of_mem _ z)
    · by_cases e : x = q
      · subst e
        exact ⟨od, vs, hq, upd_same⟩
      · obtain ⟨od', vs', g1, g2⟩ := l2 x ((List.mem_cons.mp hx).resolve_left e)
        exact ⟨od', vs', g1, by rw [upd_ne e]; exact g2⟩
theorem unlock_all {H H1 H2 : Hp} (hn : ∀ q o' u', H q ≠ none → (∃ vs, H q = some (.lst vs)) → X.H_0 q ≠ some (.frz o' u')) : ∀ {L : List Addr} {H3 : Hp} {s : Shared}, Inv X pins σ H3 s → L.Nodup → (∀ q ∈ L, ∃ od vs, H q = some (.lst vs) ∧ H3 q = some (.frz od (.lst vs))) → Inv X pins σ (thaw L H H3) s
  | [], H3, s, I, _, _ => by
    have : thaw [] H H3 = H3 := by
      funext a
      unfold thaw
      rw [if_neg (by simp)]
    rw [this]
    exact I
  | q :: L, H3, s, I, nd, h => by
    obtain ⟨n1, n2⟩ := List.nodup_cons.mp nd
    obtain ⟨od, vs, g1, g2⟩ := h q List.mem_cons_self
    have I2 := I.unlock g2 fun o' u' => hn q o' u' (by rw [g1]; exact Option.some_ne_none _) ⟨vs, g1⟩
    have I3 := unlock_all (H1 := H1) (H2 := H2) hn (L := L) I2 n2 fun x hx => by
      obtain ⟨od', vs', k1, k2⟩ := h x (List.mem_cons_of_mem _ hx)
      exact ⟨od', vs', k1, by rw [upd_ne fun z => n1 (by rw [← z]; exact hx)]; exact k2⟩
    have e : thaw L H (upd H3 q (.lst vs)) = thaw (q :: L) H H3 := by
      funext a
      unfold thaw
      by_cases hq : a = q
      · subst hq
        rw [if_neg n1, if_pos List.mem_cons_self, upd_same, g1]
      · by_cases ha : a ∈ L
        · rw [if_pos ha, if_pos (List.mem_cons_of_mem _ ha)]
        · rw [if_neg ha, if_neg (by simp [hq, ha]), upd_ne hq]
    rw [e] at I3
    exact I3
end
theorem pe_locks {X : Cx} {e : Expr} {t : TE} (he : PE X e t) : PE X e (tLocks t) := by
  refine ⟨fun pins s σ H Q I h => ?_⟩
  obtain ⟨L, nd, hl, h⟩ := h
  obtain ⟨H1, I1, lk⟩ := lock_all I nd hl
  have hn : ∀ q o' u', H q ≠ none → (∃ vs, H q = some (.lst vs)) → X.H_0 q ≠ some (.frz o' u') := fun q o' u' _ ⟨vs, e⟩ => I.nofrz e True.intro o' u'
  refine thn (he.run pins s σ H1 _ I1 (h H1 lk)) fun u s1 ⟨v, H2, I2, r, keep, q⟩ => ⟨v, _, ?_, r, q⟩
  refine unlock_all (H1 := H1) (H2 := H2) hn I2 nd fun x hx => ?_
  obtain ⟨od, vs, g1, g2⟩ := lk.2 x hx
  exact ⟨od, vs, g1, by rw [keep x hx]; exact g2⟩
/-! ### data of a tree whose lists are locked -/
mutual
def OT.toRd : OT → Option D
  | .val d => some d
  | .lst _ xs => match OT.toRds xs with
    | some ds => some (.rd ds)
    | none => none
  | .tup _ xs => match OT.toRds xs with
    | some ds => some (.tup ds)
    | none => none
  | .ins _ _ _ _ => none
  | .dic _ _ => none
def OT.toRds : List OT → Option (List D)
  | [] => some []
  | t :: r => match t.toRd, OT.toRds r with
    | some d, some ds => some (d :: ds)
    | _, _ => none
end
section
variable {K : PySem.W.Frag} {G H G' H1 : Hp}
mutual
theorem Own.rd : ∀ {t : OT} {v : V} {A : List Addr} {d : D}, Own K G H v t A → t.toRd = some d → Same G G' → (∀ a ∈ A, ∀ vs, H a = some (.lst vs) → ∃ od, G' a = some (.frz od (.lst vs))) → Rp K G' v d
  | .val x, _, _, d, .val r, e, g, _ => by
    cases e
    exact r.mono g
  | .lst p xs, _, _, d, .lst h r, e, g, k => by
    unfold OT.toRd at e
    split at e
    · rename_i ds e1
      cases e
      obtain ⟨od, q⟩ := k _ List.mem_cons_self _ h
      exact .rd (.inl (.inr ⟨od, q⟩)) (OwnL.rd r e1 g fun a ha => k a (List.mem_cons_of_mem _ ha))
    · cases e
  | .tup p xs, _, _, d, .tup h r, e, g, k => by
    unfold OT.toRd at e
    split at e
    · rename_i ds e1
      cases e
      exact .tup (SqT.of (g _ _ h)) (OwnL.rd r e1 g k)
    · cases e
  | .ins _ _ _ _, _, _, d, _, e, _, _ => by cases e
  | .dic _ _, _, _, d, _, e, _, _ => by cases e
theorem OwnL.rd : ∀ {ts : List OT} {vs : List V} {A : List Addr} {ds : List D}, OwnL K G H vs ts A → OT.toRds ts = some ds → Same G G' → (∀ a ∈ A, ∀ vs, H a = some (.lst vs) → ∃ od, G' a = some (.frz od (.lst vs))) → RpL K G' vs ds
  | [], _, _, ds, .nil, e, _, _ => by
    cases e
    exact .nil
  | t :: r, _, _, ds, .cons h q, e, g, k => by
    unfold OT.toRds at e
    split at e
    · rename_i d es e1 e2
      cases e
      exact .cons (Own.rd h e1 g fun a ha => k a (List.mem_append_left _ ha)) (OwnL.rd q e2 g fun a ha => k a (List.mem_append_right _ ha))
    · cases e
end
end
/-! data without read-only lists -/
mutual
def D.noRd : D → Bool
  | .tup xs => D.noRdL xs
  | .lst xs => D.noRdL xs
  | .dic kvs => D.noRdK kvs
  | .ins _ fs => D.noRdF fs
  | .rd _ => false
  | .exc _ _ _ _ _ => false
  | _ => true
def D.noRdL : List D → Bool
  | [] => true
  | x :: xs => x.noRd && D.noRdL xs
def D.noRdK : List (Key × D) → Bool
  | [] => true
  | (_, x) :: xs => x.noRd && D.noRdK xs
def D.noRdF : List (Str × D) → Bool
  | [] => true
  | (_, x) :: xs => x.noRd && D.noRdF xs
end
mutual
def OT.noRd : OT → Bool
  | .val d => d.noRd
  | .lst _ xs => OT.noRdL xs
  | .tup _ xs => OT.noRdL xs
  | .ins _ _ _ fs => OT.noRdF fs
  | .dic _ kvs => D.noRdK kvs
def OT.noRdL : List OT → Bool
  | [] => true
  | x :: xs => x.noRd && OT.noRdL xs
def OT.noRdF : List (Str × OT) → Bool
  | [] => true
  | (_, x) :: xs => x.noRd && OT.noRdF xs
end
/-- G' knows what G knows, but for some locked lists -/
def ButLocks (G G' : Hp) : Prop := ∀ a u, G a = some u → G' a = some u ∨ ∃ od vs, u = .frz od (.lst vs)
theorem ButLocks.t {K : PySem.W.Frag} {G G' : Hp} {a : Addr} {xs : List V} (e : ButLocks G G') (h : SqT K G a xs) : SqT K G' a xs := by
  rcases h with (h | ⟨o, h⟩) | h
  · rcases e _ _ h with q | ⟨od, vs, q⟩
    · exact .inl (.inl q)
    · cases q
  · rcases e _ _ h with q | ⟨od, vs, q⟩
    · exact .inl (.inr ⟨o, q⟩)
    · cases q
  · exact .inr h
section
variable {K : PySem.W.Frag} {G G' H : Hp}
mutual
theorem Rp.ul (e : ButLocks G G') : ∀ {v : V} {d : D}, Rp K G v d → d.noRd = true → Rp K G' v d
  | _, _, .non, _ => .non
  | _, _, .bl b, _ => .bl b
  | _, _, .int i, _ => .int i
  | _, _, .str x, _ => .str x
  | _, _, .lst h r, q => .lst (by
    rcases e _ _ h with z | ⟨od, vs, z⟩
    · exact z
    · cases z) (RpL.ul e r (by simpa [D.noRd] using q))
  | _, _, .rd _ _, h => by simp [D.noRd] at h
  | _, _, .ty n, h => .ty n
  | _, _, .cls a, h => .cls a
  | _, _, .tup h r, q => .tup (e.t h) (RpL.ul e r (by simpa [D.noRd] using q))
  | _, _, .dic h r, q => .dic (by
    rcases h with h | ⟨o, h⟩
    · rcases e _ _ h with z | ⟨od, vs, z⟩
      · exact .inl z
      · cases z
    · rcases e _ _ h with z | ⟨od, vs, z⟩
      · exact .inr ⟨o, z⟩
      · cases z) (RpK.ul e r (by simpa [D.noRd] using q))
  | _, _, .ins h r, q => .ins (by
    rcases e _ _ h with z | ⟨od, vs, z⟩
    · exact z
    · cases z) (RpF.ul e r (by simpa [D.noRd] using q))
  | _, _, .exc _ _ _, h => by simp [D.noRd] at h
theorem RpL.ul (e : ButLocks G G') : ∀ {v : List V} {d : List D}, RpL K G v d → D.noRdL d = true → RpL K G' v d
  | _, _, .nil, _ => .nil
  | _, _, .cons h r, q => by
    simp only [D.noRdL, Bool.and_eq_true] at q
    exact .cons (Rp.ul e h q.1) (RpL.ul e r q.2)
theorem RpK.ul (e : ButLocks G G') : ∀ {v : List (Key × V)} {d : List (Key × D)}, RpK K G v d → D.noRdK d = true → RpK K G' v d
  | _, _, .nil, _ => .nil
  | _, _, .cons h r, q => by
    simp only [D.noRdK, Bool.and_eq_true] at q
    exact .cons (Rp.ul e h q.1) (RpK.ul e r q.2)
theorem RpF.ul (e : ButLocks G G') : ∀ {v : List (Str × V)} {d : List (Str × D)}, RpF K G v d → D.noRdF d = true → RpF K G' v d
  | _, _, .nil, _ => .nil
  | _, _, .cons h r, q => by
    simp only [D.noRdF, Bool.and_eq_true] at q
    exact .cons (Rp.ul e h q.1) (RpF.ul e r q.2)
end
mutual
theorem Own.ul (e : ButLocks G G') : ∀ {v : V} {t : OT} {C : List Addr}, Own K G H v t C → t.noRd = true → Own K G' H v t C
  | _, _, _, .val r, q => .val (r.ul e (by simpa [OT.noRd] using q))
  | _, _, _, .lst h r, q => .lst h (OwnL.ul e r (by simpa [OT.noRd] using q))
  | _, _, _, .tup h r, q => .tup (by
    rcases e _ _ h with z | ⟨od, vs, z⟩
    · exact z
    · cases z) (OwnL.ul e r (by simpa [OT.noRd] using q))
  | _, _, _, .ins h h2 r, q => .ins h h2 (OwnF.ul e r (by simpa [OT.noRd] using q))
  | _, _, _, .dic h r, q => .dic h (r.ul e (by simpa [OT.noRd] using q))
theorem OwnL.ul (e : ButLocks G G') : ∀ {v : List V} {t : List OT} {C : List Addr}, OwnL K G H v t C → OT.noRdL t = true → OwnL K G' H v t C
  | _, _, _, .nil, _ => .nil
  | _, _, _, .cons h r, q => by
    simp only [OT.noRdL, Bool.and_eq_true] at q
    exact .cons (Own.ul e h q.1) (OwnL.ul e r q.2)
theorem OwnF.ul (e : ButLocks G G') : ∀ {v : List (Str × V)} {t : List (Str × OT)} {C : List Addr}, OwnF K G H v t C → OT.noRdF t = true → OwnF K G' H v t C
  | _, _, _, .nil, _ => .nil
  | _, _, _, .cons h r, q => by
    simp only [OT.noRdF, Bool.and_eq_true] at q
    exact .cons (Own.ul e h q.1) (OwnF.ul e r q.2)
end
end
/-- C(x), x a tree of one's own, its lists locked meanwhile -/
def dMkK (C : Addr) (f : DFO) (i : Nat) : DR := fun ρ Φ => match ρ[i]? with
  | some (.loc t) => t.listy = true ∧ match t.toRd with
    | some x => ∀ p dx, f (.ins p dx C []) [x] fun r S' => r = .val .non ∧ S'.noRd = true ∧ Φ (.loc S') ρ
    | none => False
  | _ => False
theorem sim_mkK {K : PySem.W.Frag} {C : Addr} {f : DFO} {i : Nat} {E : XK} : SimR K (tLocks (tMake C (SpO K f) [] E (tCons (tVar i) tNil))) (dMkK C f i) := by
  intro M Z G0 H0 G H σ ρ F Φ Q A hd k
  unfold dMkK at hd
  split at hd
  · rename_i t ei
    obtain ⟨hl, hd⟩ := hd
    split at hd
    · rename_i x0 ex
      obtain ⟨h1, ⟨n, B, o, nd, hB⟩, hfp⟩ := A.mut_at (S := t) (.inl ei)
      have lB := o.listy hl
      refine ⟨B, nd, lB, fun H1 ⟨l1, l2⟩ => ⟨t.root, h1, ?_⟩⟩
      intro x dx hx hdx ne
      classical
      -- what is known meanwhile
      have hGp : ∃ Gp : Hp, Same G Gp ∧ Same Gp H1 ∧ (∀ a ∈ B, Gp a = H1 a) ∧ ∀ a, a ∉ B → Gp a = G a := by
        refine ⟨fun a => if a ∈ B then H1 a else G a, fun a u q => ?_, fun a u q => ?_, fun a ha => if_pos ha, fun a ha => if_neg ha⟩
        · show (if a ∈ B then H1 a else G a) = some u
          rw [if_neg fun z => by
            have := (hfp a ((hB a).mpr z)).1
            rw [q] at this
            cases this]
          exact q
        · have q' : (if a ∈ B then H1 a else G a) = some u := q
          split at q'
          · exact q'
          · rename_i hn
            rw [l1 a hn]
            exact A.gh a u q'
      obtain ⟨Gp, ep, ep2, gB, gN⟩ := hGp
      have rx : Rp K Gp t.root x0 := o.rd ex ep fun a ha vs hv => by
        obtain ⟨od, vs', q1, q2⟩ := l2 a ha
        rw [hv] at q1
        cases q1
        exact ⟨od, by rw [gB a ha]; exact q2⟩
      have tB : ∀ a, IsTab a → a ∉ B := fun a z hb => o.nt A.tb a hb z
      have top : Top Gp H1 := ⟨ep2, A.tb.up ep (fun a z => (gN a (tB a z)).trans (A.tb.at z).1) fun a z => l1 a (tB a z)⟩
      obtain ⟨sm, ok, fr⟩ := new_obj (K := K) (C := C) ep2 hx hdx ne
      rw [List.append_nil]
      refine ⟨Gp, .ins x dx C [], fun a => a ∈ [x, dx], [x0], _, .ref x, [t.root], rfl, ok, fr, top.trans sm, .cons rx .nil, hd x dx, fun v r Fr S' Fs' Gq H2 eG eH hn eGH old er hs hf hr q2 => ?_⟩
      obtain ⟨rfl, hnr, q2⟩ := q2
      have np : ∀ a, H1 a ≠ none → a ∉ [x, dx] := fun a ha z => by
        rcases List.mem_cons.mp z with z | z
        · rw [z] at ha; exact ha hx
        · rw [List.mem_singleton.mp z] at ha; exact ha hdx
      have up : ∀ a, H1 a ≠ none → upd (upd H1 dx (.own x)) x (.ins C dx []) a ≠ none := fun a ha => by
        cases q : H1 a with
        | none => exact absurd q ha
        | some u => rw [sm a u q]; exact Option.some_ne_none _
      have un : ∀ a, upd (upd H1 dx (.own x)) x (.ins C dx []) a = none → H1 a = none := fun a ha => by
        cases q : H1 a with
        | none => rfl
        | some u => rw [sm a u q] at ha; cases ha
      have sH1 : ∀ a o, H1 a = some o → ¬ IsTab a → H2 a = some o := fun a o q nt => eH.k a o (sm a o q) (np a (by rw [q]; exact Option.some_ne_none _)) nt
      have nB : ∀ a ∈ B, H1 a ≠ none := fun a ha => by
        obtain ⟨od, vs, _, q⟩ := l2 a ha
        rw [q]
        exact Option.some_ne_none _
      have nH : ∀ a, H a = none ↔ H1 a = none := fun a => by
        by_cases ha : a ∈ B
        · obtain ⟨od, vs, q1, q2⟩ := l2 a ha
          rw [q1, q2]
          simp
        · rw [l1 a ha]
      refine ⟨val_non hr, fun q hq => ?_, ?_⟩
      · cases e : H1 q with
        | none => exact absurd e (nB q hq)
        | some u => exact sH1 q u e fun z => tB q z hq
      -- behind it
      have t1 : ∀ a ∈ B, thaw B H H2 a = H a := fun a ha => by unfold thaw; exact if_pos ha
      have t2 : ∀ a, a ∉ B → thaw B H H2 a = H2 a := fun a ha => by unfold thaw; exact if_neg ha
      have sH : ∀ a u, H a = some u → ¬ IsTab a → thaw B H H2 a = some u := fun a u q nt => by
        by_cases ha : a ∈ B
        · rw [t1 a ha]; exact q
        · rw [t2 a ha]
          exact sH1 a u (by rw [l1 a ha]; exact q) nt
      have hG : ∃ G2 : Hp, Same G G2 ∧ Same G2 (thaw B H H2) ∧ (∀ a, H a ≠ none → G2 a = G a) ∧ ∀ a, H a = none → G2 a = Gq a := by
        refine ⟨fun a => if H a = none then Gq a else G a, fun a o q => ?_, fun a o q => ?_, fun a n => if_neg n, fun a n => if_pos n⟩
        · show (if H a = none then Gq a else G a) = some o
          rw [if_neg (by rw [A.gh a o q]; exact Option.some_ne_none _)]
          exact q
        · have q' : (if H a = none then Gq a else G a) = some o := q
          split at q'
          · rename_i hz
            rw [t2 a fun z => nB a z ((nH a).mp hz)]
            exact eGH a o q'
          · exact sH a o (A.gh a o q') fun z => by rw [(A.tb.at z).1] at q'; cases q'
      obtain ⟨G2, g1, g2, g3, g4⟩ := hG
      have fl : ButLocks Gq G2 := fun a u q => by
        by_cases hz : H a = none
        · exact .inl (by rw [g4 a hz]; exact q)
        · rw [old a (up a fun z => hz ((nH a).mpr z))] at q
          by_cases ha : a ∈ B
          · rw [gB a ha] at q
            obtain ⟨od, vs, _, q'⟩ := l2 a ha
            rw [q'] at q
            exact .inr ⟨od, vs, (Option.some.inj q).symm⟩
          · rw [gN a ha] at q
            exact .inl (by rw [g3 a hz]; exact q)
      have tl : TabG G2 H2 := tab_lent eH.t A.tb (fun a φ q => by
        by_cases ha : a ∈ B
        · obtain ⟨od, vs, _, q'⟩ := l2 a ha
          rw [gB a ha, q'] at q
          cases q
        · rw [gN a ha] at q
          exact q) (fun a h => old a (up a fun z => h ((nH a).mpr z))) g3 g4
      have A2 := A.growT g1 ⟨sH, tl.up (Same.refl G2) (fun a z => (tl.at z).1) fun a z => t2 a (tB a z)⟩ g2 g3
      obtain ⟨nn, C', oC, ndC, hC⟩ := hs
      have frs : ∀ a, Fs' a → H1 a = none := fun a fa => by
        rcases (hf a fa).2.2 with h3 | h3
        · rcases List.mem_cons.mp h3 with z | z
          · rw [z]; exact hx
          · rw [List.mem_singleton.mp z]; exact hdx
        · exact un a h3
      have oC2 : Own K G2 (thaw B H H2) (.ref x) S' C' := (oC.ul fl hnr).st (Same.refl G2) fun a ha => t2 a fun z => nB a z (frs a ((hC a).mpr ha))
      refine k (.ref x) (.loc S') Fs' ρ F G2 _ A2 g1 ⟨⟨.ref x, rfl, nn, C', oC2, ndC, hC⟩, fun z => z, fun a fa => ?_⟩ q2
      have n1 := frs a fa
      obtain ⟨h1', h2', _⟩ := hf a fa
      obtain ⟨f1, f2, f3⟩ := A.fresh0 ((nH a).mpr n1)
      exact ⟨by rw [g4 a ((nH a).mpr n1)]; exact h1', by rw [t2 a fun z => nB a z n1]; exact h2', f1, f2, f3⟩
    · exact hd.elim
  · exact hd.elim
theorem pr_mkK {X : Cx} {k : Nat} {C fa : Addr} {fd : FuncData} {ps : List Str} {x y : Str} {fo : DFO} {p q pos : Pos} (i : Nat) (Mk_ : Mk X.K C fa) (G : FnOk X.prog X.w X.K X.mg X.base CX0 k fa fd ps (SpO X.K fo)) (hr : Room (k + 1) X.A) (hm : X.mg x = some (.ref C)) (hb : Binds X.K fd ps []) (hg : Gl X x := by rfl)
    (hN : X.N[i]? = some y := by rfl) (hv : Vis X.env.scope y := by first | exact Or.inl rfl | exact Or.inr (Or.inl rfl) | exact Or.inr (Or.inr rfl)) (hdy : (y == ("__debug__" : Str)) = false := by decide) (hcd : (y == ("__classdict__" : Str)) = false := by decide)
    (hdb : (x == ("__debug__" : Str)) = false := by decide) (he : starEach (.Name y q :: []) X.env = (false, eval (.Name y q) X.env) :: starEach [] X.env := by rfl) (hpl : (backTo pos (starEach [] X.env)).any (·.1) = false := by rfl) :
    PR X (.Call (.Name x p) [.Name y q] [] pos) (tLocks (tMake C (SpO X.K fo) [] E0 (tCons (tVar i) tNil))) (dMkK C fo i) := ⟨pe_locks (pe_make Mk_ G hr hg hm hb .nil pass0 (pa_cons (pe_var hN hv hdy hcd) pa_nil he) hdb he hpl), sim_mkK⟩
end DL
set_option Elab.async false
set_option linter.all false
set_option maxRecDepth 100000
set_option maxHeartbeats 2000000
namespace DL
open PySem PySem.Spec PyProof.Rows L2 RT
variable [Tabl]

/-! ### a dict of the module with texts as keys, its values whole numbers -/
def datS (kvs : List (Str × Int)) : List (Str × KTD.Dat) := kvs.map fun p => (p.1, KTD.Dat.flat (.int p.2))
structure DictS (K : PySem.W.Frag) (a : Addr) (kvs : List (Str × Int)) : Prop where
  no : (a == sysModules) = false
  ex : ∃ (es : List DictEntry) (n : Nat), K.lookup a = some ⟨.type "dict", none, .dict es.toArray n, #[]⟩ ∧ ∀ h, KTD.Rows (KTD.Dat.At h) es (datS kvs)
theorem datS_at {k : Str} {i : Int} : ∀ {kvs : List (Str × Int)}, kvs.lookup k = some i → KTD.datumAt k (datS kvs) = some (.flat (.int i))
  | [], e => by cases e
  | (x, j) :: r, e => by
    rw [List.lookup_cons] at e
    show (if decide (k = x) = true then some (KTD.Dat.flat (.int j)) else KTD.datumAt k (datS r)) = _
    by_cases c : k = x
    · subst c
      simp at e
      subst e
      simp
    · have cb : (k == x) = false := by simpa using c
      rw [cb] at e
      simp only [c, decide_false, Bool.false_eq_true, if_false]
      exact datS_at e
theorem datS_in {k : Str} : ∀ {kvs : List (Str × Int)}, KTD.inKeys k (datS kvs) = (kvs.lookup k).isSome
  | [] => rfl
  | (x, j) :: r => by
    rw [List.lookup_cons]
    show (decide (k = x) || KTD.inKeys k (datS r)) = _
    by_cases c : k = x
    · subst c
      simp
    · have cb : (k == x) = false := by simpa using c
      rw [cb]
      simp only [c, decide_false, Bool.false_or]
      exact datS_in
theorem datS_each {h : Heap} {k : Str} {P : Value → Prop} {i : Int} (hP : ∀ t, P (.int i t)) : ∀ {kvs : List (Str × Int)}, kvs.lookup k = some i → KTD.EachL h k P (datS kvs)
  | [], e => by cases e
  | [(x, j)], e => fun c => by
    subst c
    simp at e
    subst e
    exact hP
  | (x, j) :: (y, l) :: r, e => by
    rw [List.lookup_cons] at e
    show if decide (k = x) = true then KTD.Opened h P (.flat (.int j)) else KTD.EachL h k P (datS ((y, l) :: r))
    by_cases c : k = x
    · subst c
      simp at e
      subst e
      rw [if_pos (by simp)]
      exact hP
    · have cb : (k == x) = false := by simpa using c
      rw [cb] at e
      rw [if_neg (by simpa using c)]
      exact datS_each hP e
theorem datS_plain : ∀ {kvs : List (Str × Int)}, ((datS kvs).all fun p => KTD.plain p.2) = true
  | [] => rfl
  | _ :: r => by
    show (true && _) = true
    rw [Bool.true_and]
    exact datS_plain (kvs := r)
theorem datS_int {h : Heap} (i : Int) (t : Tok) : KTD.Dat.At h (.flat (.int i)) (.int i t) := PyProof.V.Flat.int i t
def rDicS (a : Addr) (kvs : List (Str × Int)) : R2 := fun x y H Q => x = .ref a ∧ ∃ k i, y = .str k ∧ kvs.lookup k = some i ∧ Q (.int i) H
def rNotInS (a : Addr) (kvs : List (Str × Int)) : R2 := fun x y H Q => y = .ref a ∧ ∃ k, x = .str k ∧ Q (.bl (!(kvs.lookup k).isSome)) H
section
variable {X : Cx} {a : Addr} {kvs : List (Str × Int)}
theorem DictS.here (T : DictS X.K a kvs) {pins : List (Addr × Obj)} {s : Shared} {σ : L2.St} {H : Hp} (I : Inv X pins σ H s) : KTD.Here s.heap s.heap a (datS kvs) := by
  obtain ⟨es, n, hl, hr⟩ := T.ex
  exact ⟨⟨T.no, _, es.toArray, n, I.kIn _ _ hl, ⟨rfl, rfl, rfl⟩, rfl, by simpa using hr s.heap⟩, fun _ _ h => h⟩
theorem ix_dictS (T : DictS X.K a kvs) : IxR X (rDicS a kvs) := by
  intro value slice pins s σ H x y v u Q I rx ry h hs
  obtain ⟨rfl, k, i, rfl, el, q⟩ := h
  cases rx
  obtain ⟨t, rfl⟩ := ry
  exact KTD.item_textA (T.here I) datS_plain (by rw [datS_in, el]; rfl) (datS_each (fun t2 => ⟨.int i, H, I.tok _, ⟨t2, rfl⟩, q⟩) el) hs
theorem op_notInS (T : DictS X.K a kvs) : OpR X (compareOp .NotIn) (rNotInS a kvs) := by
  intro pins s σ H x y v u Q I rx ry h
  obtain ⟨rfl, k, rfl, q⟩ := h
  cases ry
  obtain ⟨t, rfl⟩ := rx
  refine KTD.notin_text (T.here I) ?_
  rw [datS_in]
  exact ⟨.bl _, H, I.tok _, rfl, q⟩
end
/-- TABLE[e] -/
def dIxS (kvs : List (Str × Int)) (d : DE) : DE := fun ρ Φ => d ρ fun y ρ1 => match y with
  | .str k => match kvs.lookup k with
    | some i => Φ (.int i) ρ1
    | none => False
  | _ => False
/-- e not in TABLE -/
def dNotInS (kvs : List (Str × Int)) (d : DE) : DE := fun ρ Φ => d ρ fun y ρ1 => match y with
  | .str k => Φ (.bl (!(kvs.lookup k).isSome)) ρ1
  | _ => False
section
variable {K : PySem.W.Frag} {a : Addr} {kvs : List (Str × Int)} {t : TE} {d : DE}
theorem sim_ixS (h : SimE K t d) : SimE K (tOp (rDicS a kvs) (tC (.ref a)) t) (dIxS kvs d) := by
  intro M Z G0 H0 G H σ ρ F Φ Q A hd k
  refine h A hd fun v y ρ1 F1 G1 H1 A1 e1 r1 q1 => ?_
  split at q1
  · rename_i z
    split at q1
    · rename_i i es
      cases r1
      exact ⟨rfl, z, i, rfl, es, k _ _ ρ1 F1 G1 H1 A1 e1 (.int i) q1⟩
    · exact q1.elim
  · exact q1.elim
theorem sim_notInS (h : SimE K t d) : SimE K (tOp (rNotInS a kvs) t (tC (.ref a))) (dNotInS kvs d) := by
  intro M Z G0 H0 G H σ ρ F Φ Q A hd k
  refine h A hd fun v y ρ1 F1 G1 H1 A1 e1 r1 q1 => ?_
  split at q1
  · rename_i z
    cases r1
    exact ⟨rfl, z, rfl, k _ _ ρ1 F1 G1 H1 A1 e1 (.bl _) q1⟩
  · exact q1.elim
end
section
variable {X : Cx} {x : Str} {a : Addr} {kvs : List (Str × Int)} {e : Expr} {t : TE} {d : DE} {p pos : Pos}
theorem pd_ixS (T : DictS X.K a kvs) (hm : X.mg x = some (.ref a)) (h : PD X e t d) (hs : PlainIx e) (hg : Gl X x := by rfl) (hd : (x == ("__debug__" : Str)) = false := by decide) :
    PD X (.Subscript (.Name x p) e pos) (tOp (rDicS a kvs) (tC (.ref a)) t) (dIxS kvs d) := ⟨pe_ix (ix_dictS T) (pe_glob hg hm rfl hd) h.pe hs, sim_ixS h.sim⟩
theorem pd_notInS (T : DictS X.K a kvs) (hm : X.mg x = some (.ref a)) (h : PD X e t d) (hg : Gl X x := by rfl) (hd : (x == ("__debug__" : Str)) = false := by decide) (hb : behindInMarks .NotIn (.Name x p) = false := by rfl) :
    PD X (.Compare e [.NotIn] [.Name x p] pos) (tOp (rNotInS a kvs) t (tC (.ref a))) (dNotInS kvs d) := ⟨pe_cmpR (op_notInS T) h.pe (pe_glob hg hm rfl hd) hb, sim_notInS h.sim⟩
theorem pdt_notInS (T : DictS X.K a kvs) (hm : X.mg x = some (.ref a)) (h : PD X e t d) (hg : Gl X x := by rfl) (hd : (x == ("__debug__" : Str)) = false := by decide) (hb : behindInMarks .NotIn (.Name x p) = false := by rfl) :
    PDT X (.Compare e [.NotIn] [.Name x p] pos) (tTest (tOp (rNotInS a kvs) t (tC (.ref a)))) (dTest (dNotInS kvs d)) := ⟨pt_cmpR (op_notInS T) h.pe (pe_glob hg hm rfl hd) hb, sim_test (sim_notInS h.sim)⟩
end
section
variable {X : Cx}
/-- x = [..], x a tree from now on -/
theorem pd_setLcT {i : Nat} {y : Str} {py : Pos} {elt tg iter : Expr} {ifs : List Expr} {scope : Scope} {pos spos : Pos} {wi : TI} {di : DI} {g : Shared → Hp → Addr → List (Str × Addr) → List Addr → TG} {dg : DG} {tt : Shared → Hp → Addr → List (Str × Addr) → List Addr → TT} {dt : DT} {te : Shared → Hp → Addr → List (Str × Addr) → List Addr → TE} {de : DE} (own : List (Str × Nat)) (hN : X.N.Nodup) (hyl : X.env.scope.names.lookup y = some .local)
    (hsw : swapsWith (.ListComp elt [⟨tg, iter, ifs, 0⟩] scope pos) (some (.Name y py)) spos.line X.env = pure true) (hi : PDI X tg iter wi di) (ok : BlkOk X.N X.env.scope scope own)
    (hg : ∀ (s : Shared) (H : Hp) (C : Addr) (cl : List (Str × Addr)) (fp : List Addr), PDG (X.blk s H scope (compEnvC scope cl C X.env) fp) tg (g s H C cl fp) dg) (hm : MonoG (g X.s_0 X.H_0 0 [] [])) (hst : Sets (own.map (·.2)) (g X.s_0 X.H_0 0 [] []))
    (ht : ∀ (s : Shared) (H : Hp) (C : Addr) (cl : List (Str × Addr)) (fp : List Addr), PDTs (X.blk s H scope (compEnvC scope cl C X.env) fp) ifs (tt s H C cl fp) dt) (he : ∀ (s : Shared) (H : Hp) (C : Addr) (cl : List (Str × Addr)) (fp : List Addr), PD (X.blk s H scope (compEnvC scope cl C X.env) fp) elt (te s H C cl fp) de)
    (hgE : ∀ (s : Shared) (H : Hp) (C : Addr) (cl : List (Str × Addr)) (fp : List Addr), g s H C cl fp = g X.s_0 X.H_0 0 [] [] := by intros; rfl) (htE : ∀ (s : Shared) (H : Hp) (C : Addr) (cl : List (Str × Addr)) (fp : List Addr), tt s H C cl fp = tt X.s_0 X.H_0 0 [] [] := by intros; rfl) (heE : ∀ (s : Shared) (H : Hp) (C : Addr) (cl : List (Str × Addr)) (fp : List Addr), te s H C cl fp = te X.s_0 X.H_0 0 [] [] := by intros; rfl)
    (hy : X.N[i]? = some y := by rfl) (hc : X.calm = true := by rfl) (hs : ∀ x, foldedSetIterable iter X.env x = pure x := by intro _; rfl) :
    PDS X (.Assign [.Name y py] (.ListComp elt [⟨tg, iter, ifs, 0⟩] scope pos) spos) (tAsg (tLc wi (g X.s_0 X.H_0 0 [] []) (tt X.s_0 X.H_0 0 [] []) (te X.s_0 X.H_0 0 [] []) (own.map (·.2))) (gName i)) (dSetT i (dLc di dg dt de (own.map (·.2)))) :=
  ⟨ps_setLc hc hN hy hyl hsw hi.pi ok (fun s H C cl fp => hgE s H C cl fp ▸ (hg s H C cl fp).pg) (fun s H C cl fp => htE s H C cl fp ▸ (ht s H C cl fp).pts) (fun s H C cl fp => heE s H C cl fp ▸ (he s H C cl fp).pe) hs,
    sim_setT (sim_lc hi.sim (hg X.s_0 X.H_0 0 [] []).sim hm hst (ht X.s_0 X.H_0 0 [] []).sim (he X.s_0 X.H_0 0 [] []).sim)⟩
end
/-- the classes of the house -/
structure CA where
  Counter : Addr
  Table : Addr
  Judge : Addr
  Parting : Addr
end DL
set_option Elab.async false
set_option linter.all false
set_option maxRecDepth 100000
set_option maxHeartbeats 2000000
namespace DL
open PySem PySem.Spec PyProof.Rows L2 RT
variable [Tabl]

/-! ### evaluation, big steps: the state stays -/
def Ev (e : DE) (ρ : List Sl) (x : D) : Prop := ∀ Ψ : D → List Sl → Prop, Ψ x ρ → e ρ Ψ
def EvT (c : DT) (ρ : List Sl) (b : Bool) : Prop := ∀ Ψ : Bool → List Sl → Prop, Ψ b ρ → c ρ Ψ
def EvP (d : DP) (ρ : List Sl) (i : Nat) (π : List Stp) (s : OT) : Prop := ∀ Ψ : Nat → List Stp → OT → List Sl → Prop, Ψ i π s ρ → d ρ Ψ
section
variable {e e' a b : DE} {c c' : DT} {d : DP} {ρ : List Sl} {x y : D} {i j : Nat} {π : List Stp} {s t : OT}
theorem ev_c : Ev (dC x) ρ x := fun Ψ h => h
theorem ev_var (h : ρ[i]? = some (.val x)) : Ev (dVar i) ρ x := fun Ψ k => by
  unfold dVar
  rw [h]
  exact k
theorem ev_op {f : D → D → (D → Prop) → Prop} {z : D} (h : Ev a ρ x) (g : Ev b ρ y) (k : ∀ Ψ : D → Prop, Ψ z → f x y Ψ) : Ev (dOp f a b) ρ z := fun Ψ q => h _ (g _ (k _ q))
theorem ev_ix {xs : List D} (h : Ev a ρ (.tup xs)) (g : Ev b ρ (.int (j : Int))) (k : xs[j]? = some x) : Ev (dOp ixD a b) ρ x := ev_op h g fun Ψ q => by
  show ixL xs (.int (j : Int)) Ψ
  unfold ixL
  dsimp only
  rw [atI_nat k]
  exact q
theorem ev_ixl {xs : List D} (h : Ev a ρ (.lst xs)) (g : Ev b ρ (.int (j : Int))) (k : xs[j]? = some x) : Ev (dOp ixD a b) ρ x := ev_op h g fun Ψ q => by
  show ixL xs (.int (j : Int)) Ψ
  unfold ixL
  dsimp only
  rw [atI_nat k]
  exact q
/-- a[j], j a literal -/
theorem ev_at {xs : List D} (j : Nat) (h : ρ[i]? = some (.val (.tup xs))) (k : xs[j]? = some x) : Ev (dOp ixD (dVar i) (dC (.int (j : Int)))) ρ x := ev_ix (ev_var h) ev_c k
theorem ev_r {k : List Sl → Prop} {Ψ : Sl → List Sl → Prop} (h : Ev e ρ x) (q : Ψ (.val x) ρ) : dR e ρ Ψ := h _ q
theorem evt_of {v : Bool} (h : Ev e ρ (.bl v)) : EvT (dTest e) ρ v := fun Ψ q => h _ q
theorem evt_not {v : Bool} (h : EvT c ρ v) : EvT (dNot c) ρ (!v) := fun Ψ q => h _ q
theorem evt_and {v w : Bool} (h : EvT c ρ v) (g : v = true → EvT c' ρ w) (hw : v = false → w = false) : EvT (dAnd c c') ρ w := fun Ψ q => h _ (by
  cases v with
  | true =>
    rw [if_pos rfl]
    exact g rfl _ q
  | false =>
    rw [if_neg (by simp)]
    rw [hw rfl] at q
    exact q)
theorem evt_or {v w : Bool} (h : EvT c ρ v) (g : v = false → EvT c' ρ w) (hw : v = true → w = true) : EvT (dOr c c') ρ w := fun Ψ q => h _ (by
  cases v with
  | false =>
    rw [if_neg (by simp)]
    exact g rfl _ q
  | true =>
    rw [if_pos rfl]
    rw [hw rfl] at q
    exact q)
theorem evt_andF (h : EvT c ρ false) : EvT (dAnd c c') ρ false := evt_and h (fun z => nomatch z) fun _ => rfl
theorem evt_andT {w : Bool} (h : EvT c ρ true) (g : EvT c' ρ w) : EvT (dAnd c c') ρ w := evt_and h (fun _ => g) fun z => nomatch z
theorem evt_orF {w : Bool} (h : EvT c ρ false) (g : EvT c' ρ w) : EvT (dOr c c') ρ w := evt_or h (fun _ => g) fun z => nomatch z
/-- e == "text" -/
theorem evt_eqS {u z : Str} {v : Bool} (h : Ev e ρ (.str u)) (hv : decide (u = z) = v := by first | rfl | decide +kernel) (h1 : (D.str u).okN 60 = true := by first | rfl | decide +kernel) (h2 : (D.str z).okN 60 = true := by first | rfl | decide +kernel) : EvT (dTest (dOp eqD e (dC (.str z)))) ρ v :=
  evt_of (ev_op h ev_c fun Ψ q => ⟨h1, h2, by
    rw [eqv_str, hv]
    exact q⟩)
/-- e in ("text", ..) -/
theorem ev_in {xs : List D} {u : Str} {v : Bool} (h : Ev e ρ (.str u)) (g : Ev e' ρ (.tup xs)) (hv : (xs.any fun z => D.eqv z (.str u)) = v := by first | rfl | decide +kernel) (h1 : (D.str u).okN 60 = true := by first | rfl | decide +kernel) (h2 : D.okL xs 60 = true := by first | rfl | decide +kernel) : Ev (dOp memV e e') ρ (.bl v) :=
  ev_op h g fun Ψ q => ⟨h1, h2, by rw [hv]; exact q⟩
/-- m <= e < k -/
theorem ev_rangeL {m n : Int} {k : Int} {v : Bool} (h : Ev a ρ (.int m)) (g : Ev e ρ (.int n)) (l : Ev b ρ (.int k)) (hv : (decide (m ≤ n) && decide (n < k)) = v) : Ev (dChain leD ltD a e b) ρ (.bl v) := fun Ψ q => by
  refine h _ (g _ ?_)
  show if decide (m ≤ n) = true then _ else _
  by_cases c : m ≤ n
  · rw [if_pos (by simpa using c)]
    refine l _ ?_
    rw [show decide (m ≤ n) = true by simpa using c, Bool.true_and] at hv
    show Ψ (.bl (decide (n < k))) ρ
    rw [hv]
    exact q
  · rw [if_neg (by simpa using c)]
    rw [show decide (m ≤ n) = false by simpa using c, Bool.false_and] at hv
    rw [hv]
    exact q
theorem ev_rangeE {m n : Int} {k : Int} {v : Bool} (h : Ev a ρ (.int m)) (g : Ev e ρ (.int n)) (l : Ev b ρ (.int k)) (hv : (decide (m ≤ n) && decide (n ≤ k)) = v) : Ev (dChain leD leD a e b) ρ (.bl v) := fun Ψ q => by
  refine h _ (g _ ?_)
  show if decide (m ≤ n) = true then _ else _
  by_cases c : m ≤ n
  · rw [if_pos (by simpa using c)]
    refine l _ ?_
    rw [show decide (m ≤ n) = true by simpa using c, Bool.true_and] at hv
    show Ψ (.bl (decide (n ≤ k))) ρ
    rw [hv]
    exact q
  · rw [if_neg (by simpa using c)]
    rw [show decide (m ≤ n) = false by simpa using c, Bool.false_and] at hv
    rw [hv]
    exact q
theorem ev_and {v w : Bool} (h : Ev a ρ (.bl v)) (g : v = true → Ev b ρ (.bl w)) (hw : v = false → w = false) : Ev (dAndV a b) ρ (.bl w) := fun Ψ q => h _ (by
  cases v with
  | true =>
    show if true = true then _ else _
    rw [if_pos rfl]
    exact g rfl _ q
  | false =>
    show if false = true then _ else _
    rw [if_neg (by simp)]
    rw [hw rfl] at q
    exact q)
theorem ev_len {xs : List D} (h : Ev e ρ (.tup xs)) : Ev (dV (dCB lenD (dCons e dNil))) ρ (.int xs.length) := fun Ψ q => h _ q
theorem ev_lenl {xs : List D} (h : Ev e ρ (.lst xs)) : Ev (dV (dCB lenD (dCons e dNil))) ρ (.int xs.length) := fun Ψ q => h _ q
theorem ev_ixS {kvs : List (Str × Int)} {u : Str} {n : Int} (h : Ev e ρ (.str u)) (hn : kvs.lookup u = some n := by first | rfl | decide +kernel) : Ev (dIxS kvs e) ρ (.int n) := fun Ψ q => h _ (by
  dsimp only
  rw [hn]
  exact q)
theorem evt_notInS {kvs : List (Str × Int)} {u : Str} {v : Bool} (h : Ev e ρ (.str u)) (hn : (!(kvs.lookup u).isSome) = v := by first | rfl | decide +kernel) : EvT (dTest (dNotInS kvs e)) ρ v := evt_of fun Ψ q => h _ (by
  dsimp only
  rw [hn]
  exact q)
theorem ev_add {m n k : Int} (h : Ev a ρ (.int m)) (g : Ev b ρ (.int n)) (hk : m + n = k) : Ev (dV (dOpR addD a b)) ρ (.int k) := fun Ψ q => h _ (g _ (by subst hk; exact q))
/-! statements -/
variable {Δ : Ds} {p q : DS}
theorem if_f (h : EvT c ρ false) (k : q Δ ρ) : dIfS c p q Δ ρ := h _ (by rw [if_neg (by simp)]; exact k)
theorem if_t (h : EvT c ρ true) (k : p Δ ρ) : dIfS c p q Δ ρ := h _ (by rw [if_pos rfl]; exact k)
theorem if_b {v : Bool} (h : EvT c ρ v) (k1 : v = true → p Δ ρ) (k2 : v = false → q Δ ρ) : dIfS c p q Δ ρ := by
  cases v with
  | true => exact if_t h (k1 rfl)
  | false => exact if_f h (k2 rfl)
theorem ret_e (h : Ev e ρ x) (k : Δ.rt (.val x) ρ) : dRet (dR e) Δ ρ := h _ k
theorem set_e (h : Ev e ρ x) (f : free ρ i) (k : Δ.nx (ρ.set i (.val x))) : dSet i (dR e) Δ ρ := h _ ⟨f, k⟩
/-! places -/
theorem evp_var (h : treeOf (ρ[i]?) = some t) : EvP (dpVar i) ρ i [] t := fun Ψ k => by
  unfold dpVar
  rw [h]
  exact k
theorem evp_fd {C p' dx : Addr} {fs : List (Str × OT)} {f : Str} (h : EvP d ρ i π (.ins p' dx C fs)) (e : fs.lookup f = some t) : EvP (dpFd C d f) ρ i (π ++ [.fd f]) t := fun Ψ k => h _ (by
  refine ⟨rfl, ?_⟩
  rw [e]
  exact k)
theorem evp_ix {t0 : OT} {p' : Addr} {xs : List OT} (h : EvP d ρ i π (.lst p' xs)) (g : Ev e ρ (.int (j : Int))) (ht : treeOf (ρ[i]?) = some t0) (hg : t0.get π = some (.lst p' xs)) (k : xs[j]? = some t) : EvP (dpIx d e) ρ i (π ++ [.ix j]) t := fun Ψ q => h _ (g _ (by
  rw [ht]
  dsimp only
  rw [hg]
  refine ⟨⟨rfl, rfl⟩, Int.natCast_nonneg _, ?_⟩
  rw [Int.toNat_natCast, k]
  exact q))
theorem evp_ixT {t0 : OT} {p' : Addr} {xs : List OT} (h : EvP d ρ i π (.tup p' xs)) (g : Ev e ρ (.int (j : Int))) (ht : treeOf (ρ[i]?) = some t0) (hg : t0.get π = some (.tup p' xs)) (k : xs[j]? = some t) : EvP (dpIx d e) ρ i (π ++ [.ix j]) t := fun Ψ q => h _ (g _ (by
  rw [ht]
  dsimp only
  rw [hg]
  refine ⟨⟨rfl, rfl⟩, Int.natCast_nonneg _, ?_⟩
  rw [Int.toNat_natCast, k]
  exact q))
theorem ev_leaf (h : EvP d ρ i π (.val x)) : Ev (dLeaf d) ρ x := fun Ψ k => h _ k
end
theorem seq_go {a b : DS} {Δ : Ds} {ρ : List Sl} (h : a { Δ with nx := b Δ } ρ) : dSeq a b Δ ρ := h
theorem set_go {i : Nat} {d : DR} {Δ : Ds} {ρ : List Sl} (h : d ρ fun x ρ1 => free ρ1 i ∧ Δ.nx (ρ1.set i x)) : dSet i d Δ ρ := h
theorem if_go {c : DT} {a b : DS} {Δ : Ds} {ρ : List Sl} (h : c ρ fun k ρ1 => if k = true then a Δ ρ1 else b Δ ρ1) : dIfS c a b Δ ρ := h
theorem next_go {Δ : Ds} {ρ : List Sl} (h : Δ.nx ρ) : dNext Δ ρ := h
theorem evt_geI {a b : DE} {ρ : List Sl} {m n : Int} (h : Ev a ρ (.int m)) (g : Ev b ρ (.int n)) : EvT (dTest (dOp geD a b)) ρ (decide (n ≤ m)) := evt_of (ev_op h g fun Ψ q => q)
section
variable {a b c : DE} {ρ : List Sl} {x y z u : D}
theorem ev_tup2 (h : Ev a ρ x) (g : Ev b ρ y) : Ev (dTup (dCons a (dCons b dNil))) ρ (.tup [x, y]) := fun Ψ q => h _ (g _ ⟨by simp, q⟩)
theorem ev_call1 {f : DF} (h : Ev a ρ x) (k : ∀ Ψ : Sl → Prop, Ψ (.val u) → f [x] Ψ) : Ev (dV (dCall f (dCons a dNil))) ρ u := fun Ψ q => h _ (k _ q)
theorem ev_call2 {f : DF} (h : Ev a ρ x) (g : Ev b ρ y) (k : ∀ Ψ : Sl → Prop, Ψ (.val u) → f [x, y] Ψ) : Ev (dV (dCall f (dCons a (dCons b dNil)))) ρ u := fun Ψ q => h _ (g _ (k _ q))
theorem ev_call3 {f : DF} (h : Ev a ρ x) (g : Ev b ρ y) (l : Ev c ρ z) (k : ∀ Ψ : Sl → Prop, Ψ (.val u) → f [x, y, z] Ψ) : Ev (dV (dCall f (dCons a (dCons b (dCons c dNil))))) ρ u := fun Ψ q => h _ (g _ (l _ (k _ q)))
theorem ev_str {n : Int} (h : Ev a ρ (.int n)) (hn : n.natAbs.log2 < 1920) : Ev (dV (dCB strD (dCons a dNil))) ρ (.str (toString n : String)) := fun Ψ q => h _ ⟨hn, q⟩
end
theorem app_own {i : Nat} {e : DE} {Δ : Ds} {ρ : List Sl} {ds : List D} {x : D} (h : ρ[i]? = some (.own ds)) (g : Ev e ρ x) (hl : ds.length ≤ 1000000) (q : Δ.nx (ρ.set i (.own (ds ++ [x])))) : dDrop (dApp i e) Δ ρ := by
  show dApp i e ρ _
  unfold dApp
  rw [h]
  refine g _ ?_
  rw [h]
  exact ⟨hl, q⟩
theorem rng1_open {a : DE} {ρ : List Sl} {n : Nat} (h : Ev a ρ (.int (n : Int))) (hn : n ≤ 1000) : ∀ Ψ : List D → List Sl → Prop, Ψ (rng n 0 1) ρ → diRng1 a ρ Ψ := fun Ψ q => h _ ⟨by unfold inR; omega, q⟩
theorem any_open {a : DE} {ρ : List Sl} {xs : List D} (h : Ev a ρ (.lst xs)) : ∀ Ψ : List D → List Sl → Prop, Ψ xs ρ → diAny a ρ Ψ := fun Ψ q => h _ q
theorem ret_go {d : DR} {Δ : Ds} {ρ : List Sl} (h : d ρ fun x ρ1 => Δ.rt x ρ1) : dRet d Δ ρ := h
section
variable {a b e : DE} {d : DA} {f : DF} {ρ : List Sl}
theorem cons_go {Ψ : List D → List Sl → Prop} (h : e ρ fun x ρ1 => d ρ1 fun xs ρ2 => Ψ (x :: xs) ρ2) : dCons e d ρ Ψ := h
theorem add_go {Ψ : D → List Sl → Prop} (h : a ρ fun x ρ1 => b ρ1 fun y ρ2 => addD x y fun z => asD Ψ z ρ2) : dV (dOpR addD a b) ρ Ψ := h
theorem call_go {Φ : Sl → List Sl → Prop} (h : d ρ fun xs ρ1 => f xs fun r => Φ r ρ1) : dCall f d ρ Φ := h
theorem callv_go {Ψ : D → List Sl → Prop} (h : d ρ fun xs ρ1 => f xs fun r => asD Ψ r ρ1) : dV (dCall f d) ρ Ψ := h
theorem lst1_go {Ψ : D → List Sl → Prop} (h : e ρ fun x ρ1 => Ψ (.lst [x]) ρ1) : dV (dLst (dCons e dNil)) ρ Ψ := by
  unfold dV dLst dCons dNil
  have mono : ∀ x ρ1, Ψ (.lst [x]) ρ1 → ([x] : List D).length ≤ 1000000 ∧ asD Ψ (.own [x]) ρ1 := fun x ρ1 q => ⟨by show 1 ≤ 1000000; decide, q⟩
  have e2 : (fun x ρ1 => ([x] : List D).length ≤ 1000000 ∧ asD Ψ (.own [x]) ρ1) = fun x ρ1 => Ψ (.lst [x]) ρ1 := by
    funext x ρ1
    exact propext ⟨fun q => q.2, mono x ρ1⟩
  show e ρ (fun x ρ1 => ([x] : List D).length ≤ 1000000 ∧ asD Ψ (.own [x]) ρ1)
  rw [e2]
  exact h
theorem ix_go {Ψ : D → List Sl → Prop} (h : a ρ fun x ρ1 => b ρ1 fun y ρ2 => ixD x y fun z => Ψ z ρ2) : dOp ixD a b ρ Ψ := h
theorem not_go {c : DT} {Ψ : Bool → List Sl → Prop} (h : c ρ fun k ρ1 => Ψ (!k) ρ1) : dNot c ρ Ψ := h
theorem test_go {v : Bool} {ρ1 : List Sl} {Ψ : Bool → List Sl → Prop} (h : ∀ Θ : D → List Sl → Prop, Θ (.bl v) ρ1 → e ρ Θ) (k : Ψ v ρ1) : dTest e ρ Ψ := h _ k
end
theorem asd_own {Ψ : D → List Sl → Prop} {l : List D} {ρ : List Sl} (h : Ψ (.lst l) ρ) : asD Ψ (.own l) ρ := h
theorem ite_nt {A B : Prop} (h : B) : if (!true) = true then A else B := h
end DL
set_option Elab.async false
set_option linter.all false
set_option maxRecDepth 100000
set_option maxHeartbeats 2000000
namespace DL
open PySem PySem.Spec PyProof.Rows L2
variable [Tabl]

/-! ### lists walked while an exception is handled -/
section
variable {pr : Program} {wd : World} {A : Around} {Er : Value → Shared → Prop} {sh : Shared}
theorem list_stop_hot {it l x1 : Addr} {i : Nat} {vals : Array Value} {Q : Option Value → Shared → Prop} (hot : HotX.HotAt A x1 sh.heap) (hi : sh.heap.IsListIter it l i) (hl : sh.heap.IsList l vals) (hx : vals[i]? = none)
    (hq : ∀ hp, (∀ b o, b ≠ it → sh.heap.get? b = some o → hp.get? b = some o) → Q none { sh with heap := hp }) : wpAny (model pr wd) A (pyNext (.ref it)) Q Er sh := by
  obtain ⟨oi, hoi, hci, hdi⟩ := id hi
  obtain ⟨ol, hol, _, nl, hdl⟩ := hl
  obtain ⟨hh, ox, vx, hx1, dx1, cx1⟩ := hot
  have x1it : x1 ≠ it := fun z => by
    rw [z, hoi] at hx1
    cases hx1
    rw [hdi] at dx1
    cases dx1
    simp at cx1
  unfold pyNext
  refine wpAny_bind (wpAny_attempt (wpAny_callSpecial?_slot (name := Str.ofString "__next__") hi.typeIs slot_listiter_next
      (wpAny_call_entry slot_listiter_next hi.typeIs entry_listiter_next ?_ (args_listiter_next _))))
  show wpAny _ _ (field (.ref it) 0 >>= _) _ _ sh
  refine wpAny_bind (wpAny_field hoi hdi (x := .ref l) rfl ?_)
  show wpAny _ _ (if (Value.ref l == Value.none) = true then _ else _) _ _ sh
  rw [if_neg (fun z : (Value.ref l == Value.none) = true => Bool.noConfusion z)]
  show wpAny _ _ (field (.ref it) 1 >>= _) _ _ sh
  refine wpAny_bind (wpAny_field hoi hdi (x := .int i 0) rfl ?_)
  show wpAny _ _ (seqItems? (.ref l) >>= _) _ _ sh
  refine wpAny_bind (wpAny_seqItems hol hdl ?_)
  simp only [Int.toNat_natCast, hx]
  refine wpAny_bind (wpAny_rule (wpAny_bind (wpAny_setField hoi hdi (by simp) ?_)))
  show wpAny _ _ (newExc (.type "StopIteration") [] >>= _) _ _ _
  refine wpAny_bind ?_
  simp only [newExc, newTuple]
  refine wpAny_bind (wpAny_newObj_type ?_ (by size_fits))
  refine wpAny_bind (m := firstArgMember _ _) (wpAny_of_eq (a := Value.none) (by first | rfl | (simp only [firstArgMember]; rfl)) ?_)
  refine wpAny_newObj_type ?_ (by size_fits)
  have keep : ∀ b o, b ≠ it → sh.heap.get? b = some o → ∀ f, (sh.heap.update it f).get? b = some o := fun b o hb e f => by
    rw [Heap.get?_update_other _ _ (Ne.symm hb)]
    exact e
  refine HotX.raiseNew_hot (x1 := x1) ?hot ?ne (Heap.get?_push_size _ rfl) rfl ?hi ?_
  case hot => exact ⟨hh, ox, vx, Heap.get?_push_of_some _ (Heap.get?_push_of_some _ (keep _ _ x1it hx1 _)), dx1, cx1⟩
  case ne => exact Nat.ne_of_lt (Heap.lt_size (Heap.get?_push_of_some _ (keep _ _ x1it hx1 _)))
  case hi => first | (simp; done) | (show (2 : Nat) < 6; decide)
  refine wpAny_bind (wpAny_isInstance (T := "StopIteration") (b := true) ⟨_, Heap.get?_update_self _ (Heap.get?_push_size _ rfl) rfl, rfl⟩ isSubtype_stop ?_)
  refine wpAny_pure (hq _ fun b o hb e => ?_)
  have e2 := keep b o hb e (Obj.mapFields (·.setIfInBounds 0 Value.none))
  rw [Heap.get?_update_other _ _ (Nat.ne_of_gt (Heap.lt_size (Heap.get?_push_of_some _ e2)))]
  exact Heap.get?_push_of_some _ (Heap.get?_push_of_some _ e2)
end

section
variable {X : Cx}
theorem list_turn {pins : List (Addr × Obj)} {sh : Shared} {σ : L2.St} {H : Hp} {tg : Expr} {a it : Addr} {i : Nat} {Er : Value → Shared → Prop} (I : Inv X pins σ H sh) (hf : FpOk X pins H it) (hi : sh.heap.IsListIter it a i) (hg : (Itl X.K a).go i H) :
    wpAny (model X.prog X.w) X.A (pyNext (.ref it)) (fun r s1 => ∃ u, r = some u ∧ wpAny (model X.prog X.w) X.A (letOwnedTupleGo tg (.ref it) u) (fun _ s2 => ∃ x, Inv X pins σ H s2 ∧ RelV x u ∧ (Itl X.K a).yld i H x H ∧ s2.heap.IsListIter it a (i + 1)) Er s1) Er sh := by
  obtain ⟨xs, x, hq, hx⟩ := hg
  obtain ⟨its, rv, pl, hz⟩ := I.list hq
  obtain ⟨u, hu, ru⟩ := rv.get hx
  obtain ⟨f0, f1, f2, f3, f4, f5⟩ := hf
  refine wpAny_pyNext_list_item hi pl.isList (x := u) (by simpa using hu) fun hp hi' sb => ?_
  have I1 : Inv X pins σ H { sh with heap := hp } := I.turned (t' := sh.toks) (fun b o hb e => (sb.2 b hb).trans e) f0 f1 f3 f4 f5
  obtain ⟨oi, e1, e2, e3⟩ := id hi'
  exact ⟨u, rfl, go_of (s := { sh with heap := hp }) e1 e2 e3 (by decide) ⟨x, I1, ru, ⟨rfl, fun ys hy => by rw [I.list_inj hy hq]; exact hx⟩, hi'⟩⟩
theorem list_last {pins : List (Addr × Obj)} {sh : Shared} {σ : L2.St} {H : Hp} {a it x1 : Addr} {i : Nat} {Er : Value → Shared → Prop} (I : Inv X pins σ H sh) (hot : HotX.HotAt X.A x1 sh.heap) (hf : FpOk X pins H it) (hi : sh.heap.IsListIter it a i) (hg : (Itl X.K a).stop i H) :
    wpAny (model X.prog X.w) X.A (pyNext (.ref it)) (fun r s1 => r = none ∧ Inv X pins σ H s1) Er sh := by
  obtain ⟨xs, hq, hx⟩ := hg
  obtain ⟨its, rv, pl, hz⟩ := I.list hq
  obtain ⟨f0, f1, f2, f3, f4, f5⟩ := hf
  have hl := rv.length
  exact list_stop_hot hot hi pl.isList (by simp; omega) fun hp keep => ⟨rfl, I.turned (t' := sh.toks) (fun b o hb e => keep b o hb e) f0 f1 f3 f4 f5⟩
/-- [.. for .. in a list] while an exception is handled -/
theorem lc_hot {pins : List (Addr × Obj)} {sh : Shared} {σ : L2.St} {H : Hp} {Q : VK} {elt tg iter : Expr} {ifs : List Expr} {scope : Scope} {own : List (Str × Nat)} {pos ps : Pos} {tl te : TE} {g : TG} {tt : TT} {use : Option (Value → Sem Unit)} {Qf : Value → Shared → Prop}
    (hot : L2H.HotC X) (nd : X.N.Nodup) (I : Inv X pins σ H sh) (hl : PE X iter tl) (ok : BlkOk X.N X.env.scope scope own)
    (hg : ∀ (z : Shared) (Hz : Hp) (C : Addr) (cl : List (Str × Addr)) (fp : List Addr), PG (X.blk z Hz scope (compEnvC scope cl C X.env) fp) tg g)
    (ht : ∀ (z : Shared) (Hz : Hp) (C : Addr) (cl : List (Str × Addr)) (fp : List Addr), PTs (X.blk z Hz scope (compEnvC scope cl C X.env) fp) ifs tt)
    (he : ∀ (z : Shared) (Hz : Hp) (C : Addr) (cl : List (Str × Addr)) (fp : List Addr), PE (X.blk z Hz scope (compEnvC scope cl C X.env) fp) elt te) (hs : ∀ y, foldedSetIterable iter X.env y = pure y)
    (h : tLc (iList X.K tl) g tt te (own.map (·.2)) σ H Q)
    (back : ∀ D C z m Hz, Inv X pins σ Hz z → Q (.ref D) Hz → z.heap.Ns C m → FpOk X pins Hz C → compPost (model X.prog X.w) X.A X.xe use Qf (.ref D) C (.ok .next) z) :
    wpAny (model X.prog X.w) X.A (comprehension (.ListComp elt [⟨tg, iter, ifs, 0⟩] scope pos) scope X.env ps (newList []) false (eval iter X.env) use) Qf X.xe sh := by
  have clo : ∀ y ∈ scope.names, y.2 = .free → ∃ c, X.env.cells.lookup y.1 = some c := fun y hy e => (ok.free y hy e).elim (fun k => I.ok.has _ (.inl k)) fun k => I.ok.has _ (.inr k)
  refine wpAny_comprehension_free (use := use) rfl hs (closure_ok clo) ok.kind (fun y hy e => by rw [ok.uniq y hy, e]) (thn (hl.run pins sh σ H _ I h) fun v s1 ⟨x, H2, I2', rx, a, ex, ⟨xs0, hq0⟩, q⟩ => ?_)
  subst ex
  cases rx
  obtain ⟨its0, rv0, pl0, hz0⟩ := I2'.list hq0
  refine wpAny_pyIter_list pl0.isList ?_
  -- the iterator
  generalize hit : s1.heap.objs.size = it
  generalize hs2 : ({ s1 with heap := s1.heap.push { cls := .type "list_iterator", data := .fields #[.ref a, .int 0 0] } } : Shared) = s2
  have I2 : Inv X pins σ H2 s2 := by
    rw [← hs2]
    exact I2'.kept (t' := s1.toks) fun b o e => Heap.get?_push_of_some _ e
  have st2 : s2.heap.IsListIter it a 0 := by
    rw [← hs2, ← hit]
    exact ⟨_, Heap.get?_push_size _ rfl, rfl, rfl⟩
  have f2 : FpOk X pins H2 it := by
    rw [← hit]
    exact I2'.fpOk (Nat.le_refl _) (I2'.hok.fresh (Nat.le_refl _))
  refine wpAny_newObj_type (newEnv_comp ?_) (by show 0 ≤ sizeLine; decide)
  generalize hD : s2.heap.objs.size = D
  have nD : H2 D = none := I2.hok.fresh (Nat.le_of_eq hD)
  obtain ⟨W, ⟨m0, w0⟩, turn⟩ := q D nD
  generalize hs3 : ({ s2 with heap := s2.heap.push { cls := .type "list", data := .seq ([] : List Value).toArray } } : Shared) = s3
  have I3 : Inv X pins σ (upd H2 D (.lst [])) s3 := by
    rw [← hs3]
    refine I2.laid (t' := s2.toks) (fun b o e => Heap.get?_push_of_some _ e) (Nat.le_of_eq hD) ⟨Nat.zero_le _, [], 0, .nil, ?_⟩
    rw [← hD]
    exact Heap.get?_push_size _ rfl
  have h3 : s3.heap = s2.heap.push { cls := .type "list", data := .seq ([] : List Value).toArray } := by rw [← hs3]
  have szi : it < s2.heap.objs.size := by
    obtain ⟨oi, e1, _, _⟩ := st2
    exact Heap.lt_size e1
  have f3 : FpOk X pins (upd H2 D (.lst [])) it ∧ it < s3.heap.objs.size := by
    refine ⟨⟨?_, f2.2⟩, by rw [h3, Heap.size_push]; exact Nat.lt_succ_of_lt szi⟩
    rw [upd_ne (by rw [← hD]; exact Nat.ne_of_lt szi)]
    exact f2.1
  have st3 : s3.heap.IsListIter it a 0 := st2.at fun o e => by rw [h3]; exact Heap.get?_push_of_some _ e
  have I4 := block_start (fp := [it]) I3 ok nd fun b hb => by
    rw [List.mem_singleton.mp hb]
    exact f3
  have pg := hg s3 (upd H2 D (.lst [])) s3.heap.objs.size (cellsFrom (s3.heap.objs.size + 1) scope.names (cloFrom X.env.cells scope.names [])) [it]
  have pt := ht s3 (upd H2 D (.lst [])) s3.heap.objs.size (cellsFrom (s3.heap.objs.size + 1) scope.names (cloFrom X.env.cells scope.names [])) [it]
  have pe := he s3 (upd H2 D (.lst [])) s3.heap.objs.size (cellsFrom (s3.heap.objs.size + 1) scope.names (cloFrom X.env.cells scope.names [])) [it]
  show codeAny _ _ (.compStart (.ListComp elt [⟨tg, iter, ifs, 0⟩] scope pos) 0 (.ref it) (.ref D) (compEnvC scope (cellsFrom (s3.heap.objs.size + 1) scope.names (cloFrom X.env.cells scope.names [])) s3.heap.objs.size X.env)) (compPost (model X.prog X.w) X.A X.xe use Qf (.ref D) s3.heap.objs.size) { s3 with heap := pushCells (s3.heap.push { cls := .type "dict", data := .dict #[] }) scope.names }
  generalize hce : compEnvC scope (cellsFrom (s3.heap.objs.size + 1) scope.names (cloFrom X.env.cells scope.names [])) s3.heap.objs.size X.env = ce at I4 pg pt pe ⊢
  have cL : ce.locals = s3.heap.objs.size := by
    subst hce
    rfl
  generalize hH3 : upd H2 D (.lst []) = H3 at I3 I4 pg pt pe w0 f3
  generalize hs4 : ({ s3 with heap := pushCells (s3.heap.push { cls := .type "dict", data := .dict #[] }) scope.names } : Shared) = s4 at I4 ⊢
  have st4 : s4.heap.IsListIter it a 0 := st3.at fun o e => by rw [← hs4]; exact pushCells_keeps _ _ _ _ (Heap.get?_push_of_some _ e)
  have stat : ∀ {σ' : L2.St} {H' : Hp} {z : Shared}, Inv (X.blk s3 H3 scope ce [it]) [] σ' H' z → H' it = none → FpOk (X.blk s3 H3 scope ce [it]) [] H' it := fun {σ' H' z} I' hn =>
    ⟨hn, (I'.ok.exf it List.mem_cons_self).1, I'.ok.exfs it List.mem_cons_self, .inl List.mem_cons_self, fun x c e => (I'.ok.exf it List.mem_cons_self).2 x c e, fun p hp => absurd (show p ∈ ([] : List (Addr × Obj)) ++ [] from hp) (by simp)⟩
  -- the handled exception stands through the block
  obtain ⟨p, ⟨hh, v1, d1, c1⟩, hp⟩ := hot
  have P3 := I3.pin p (List.mem_append_left _ hp)
  have pit : p.1 ≠ it := f2.2.2.2.2.2 p (List.mem_append_left _ hp)
  have hotB : ∀ {pins' : List (Addr × Obj)} {σ' : L2.St} {H' : Hp} {z : Shared}, Inv (X.blk s3 H3 scope ce [it]) pins' σ' H' z → HotX.HotAt X.A p.1 z.heap := fun {pins' σ' H' z} I' =>
    ⟨hh, p.2, v1, I'.base.keep p.1 p.2 P3.1 P3.2.1 (fun hm => (List.mem_cons.mp (I3.stkSub p.1 hm)).elim P3.2.2.1 P3.2.2.2.1) (fun hm => pit (List.mem_singleton.mp hm)), d1, c1⟩
  have loop : codeAny (model X.prog X.w) X.A (.compLoop (.ListComp elt [⟨tg, iter, ifs, 0⟩] scope pos) 0 (.ref it) (.ref D) ce) (compPost (model X.prog X.w) X.A X.xe use Qf (.ref D) s3.heap.objs.size) s4 := by
    refine compLoop_any (fun n z => ∃ i Hz, Inv (X.blk s3 H3 scope ce [it]) [] (L2.wipe σ (own.map (·.2))) Hz z ∧ z.heap.IsListIter it a i ∧ Hz it = none ∧ W i n Hz) ?_ m0 ⟨0, H3, I4, st4, f3.1.1, w0⟩
    rintro n s5 ⟨i, H5, I5, st5, n5, w5⟩
    rcases turn i n H5 w5 with ⟨stop, qq⟩ | ⟨go, Nx, hNx, step⟩
    · refine thnF (list_last (X := X.blk s3 H3 scope ce [it]) (Er := fun _ _ => False) I5 (hotB I5) (stat I5 n5) st5 stop) fun r s6 ⟨hr, I6⟩ => ?_
      subst hr
      have I7 : Inv X pins σ H5 s6 := I3.call' (ch := [it]) I6.os I6.base I6.hok I6.bare fun b hb => by
        rw [List.mem_singleton.mp hb]
        exact ⟨f3.1.2.2.2.1, f3.1.2.1, f3.1.2.2.2.2.1, f3.1.2.2.2.2.2⟩
      have nC : H5 s3.heap.objs.size = none := by
        have y : H5 ce.locals = none := I6.free
        rw [cL] at y
        exact y
      obtain ⟨m, hn, _⟩ := I6.loc
      have hn2 : s6.heap.Ns ce.locals m := hn
      rw [cL] at hn2
      exact back D s3.heap.objs.size s6 m H5 I7 qq hn2 (I3.fpOk (Nat.le_refl _) nC)
    · refine thnF (list_turn (X := X.blk s3 H3 scope ce [it]) (tg := tg) (Er := fun _ _ => False) I5 (stat I5 n5) st5 go) fun r s6 ⟨u, hr, h6⟩ => ?_
      subst hr
      refine thnF h6 fun _ s7 ⟨x, I7, r7, y7, st7⟩ => ?_
      have ob7 : ∀ b ∈ [it], ∃ o, s7.heap.get? b = some o ∧ ∀ v, o.data ≠ .cell v := fun b hb => by
        rw [List.mem_singleton.mp hb]
        obtain ⟨oi, e1, _, e3⟩ := st7
        exact ⟨oi, e1, fun v y => by rw [e3] at y; cases y⟩
      have I7' := I7.pinned (fp := [it]) (fun b hb => by rw [List.mem_singleton.mp hb]; exact stat I7 n5) ob7
      refine thnF (pg.run _ s7 _ H5 x u _ I7' r7 (step x H5 y7)) fun _ s8 ⟨σ8, H8, I8, hw8, q8⟩ => ?_
      refine thnF (pt.run _ s8 σ8 H8 _ I8 q8) fun b s9 ⟨H9, I9, q9⟩ => ?_
      have fin : ∀ {z : Shared} {Hz : Hp}, Inv (X.blk s3 H3 scope ce [it]) ([] ++ pinsAt [it] s7.heap) σ8 Hz z → Nx Hz → ∃ m, m < n ∧ ∃ i Hy, Inv (X.blk s3 H3 scope ce [it]) [] (L2.wipe σ (own.map (·.2))) Hy z ∧ z.heap.IsListIter it a i ∧ Hy it = none ∧ W i m Hy := fun {z Hz} I' nx => by
        obtain ⟨m', hm, w'⟩ := hNx Hz nx
        obtain ⟨oi, e1, _⟩ := ob7 it List.mem_cons_self
        have pin' : ∀ o, s7.heap.get? it = some o → z.heap.get? it = some o ∧ Hz it = none := fun o e =>
          let y := I'.pin (it, o) (List.mem_append_right _ (List.mem_append_right _ (mem_pinsAt List.mem_cons_self e)))
          ⟨y.1, y.2.1⟩
        have hlen : (L2.wipe σ (own.map (·.2))).length = σ8.length := by rw [← hw8, wipe_length]
        refine ⟨m', hm, i + 1, Hz, (I'.unpinned (pins := [])).weak hlen (fun j v e => ?_), st7.at fun o e => (pin' o e).1, (pin' oi e1).2, w'⟩
        rw [← hw8] at e
        exact (wipe_some e).1
      cases b with
      | false =>
        simp only [Bool.false_eq_true, if_false] at q9 ⊢
        exact fin I9 q9
      | true =>
        simp only [if_true] at q9 ⊢
        refine thnF (pe.run _ s9 σ8 H9 _ I9 q9) fun w s10 ⟨yv, H10, I10, r10, acc, hD10, hz10, nx⟩ => ?_
        exact app_ok (X := X.blk s3 H3 scope ce [it]) I10 hD10 hz10 r10 fun s11 I11 => fin I11 nx
  exact codeAny_compStart_list loop (wpAny_pyIter_listiter st4 loop)
theorem pe_lcHot {elt tg iter : Expr} {ifs : List Expr} {scope : Scope} {own : List (Str × Nat)} {pos : Pos} {tl te : TE} {g : TG} {tt : TT} (hot : L2H.HotC X) (nd : X.N.Nodup) (hl : PE X iter tl) (ok : BlkOk X.N X.env.scope scope own)
    (hg : ∀ (z : Shared) (Hz : Hp) (C : Addr) (cl : List (Str × Addr)) (fp : List Addr), PG (X.blk z Hz scope (compEnvC scope cl C X.env) fp) tg g)
    (ht : ∀ (z : Shared) (Hz : Hp) (C : Addr) (cl : List (Str × Addr)) (fp : List Addr), PTs (X.blk z Hz scope (compEnvC scope cl C X.env) fp) ifs tt)
    (he : ∀ (z : Shared) (Hz : Hp) (C : Addr) (cl : List (Str × Addr)) (fp : List Addr), PE (X.blk z Hz scope (compEnvC scope cl C X.env) fp) elt te) (hs : ∀ y, foldedSetIterable iter X.env y = pure y := by intro _; rfl) :
    PE X (.ListComp elt [⟨tg, iter, ifs, 0⟩] scope pos) (tLc (iList X.K tl) g tt te (own.map (·.2))) := by
  refine ⟨fun pins sh σ H Q I h => ?_⟩
  rw [eval_ListComp]
  refine lc_hot hot nd I hl ok hg ht he hs h fun D C z m Hz I' q hn f => ⟨m, hn, fun hp sb => ?_⟩
  obtain ⟨f0, f1, f2, f3, f4, f5⟩ := f
  exact ⟨.ref D, Hz, I'.turned (t' := z.toks) (fun b o hb e => (sb.2 b hb).trans e) f0 f1 f3 f4 f5, rfl, q⟩
end
end DL
set_option Elab.async false
set_option linter.all false
set_option maxRecDepth 100000
set_option maxHeartbeats 2000000
namespace DL
open PySem PySem.Spec PyProof.Rows L2
variable [Tabl]

/-! ### what may be raised: its class, its fields, the slots then -/
abbrev EX := Addr → List (Str × D) → List Sl → Prop
abbrev DXS := EX → DS
abbrev DXR := EX → DR
abbrev DXE := EX → DE
abbrev DXA := EX → DA
/-- what is wished of an exception: that Ξ leads to W -/
def Flies (K : PySem.W.Frag) (M : Addr → Prop) (Z G0 H0 G : Hp) (Ξ : EX) (P : Value → Option Addr → L2.St → Hp → Prop) : Prop := ∀ (C dx : Addr) (ws : List (Str × V)) (fs : List (Str × D)) (σ' : L2.St) (ρ' : List Sl) (F' : Nat → Addr → Prop) (G' H' : Hp),
  At K M Z G0 H0 G' H' σ' ρ' F' → Same G G' → G' dx = some (.xd ws) → RpF K G' ws fs → Ξ C fs ρ' → P (.ref C) (some dx) σ' H'
theorem Flies.later {K : PySem.W.Frag} {M : Addr → Prop} {Z G0 H0 G G1 : Hp} {Ξ : EX} {P : Value → Option Addr → L2.St → Hp → Prop} (h : Flies K M Z G0 H0 G Ξ P) (e : Same G G1) : Flies K M Z G0 H0 G1 Ξ P :=
  fun C dx ws fs σ' ρ' F' G' H' A' e' => h C dx ws fs σ' ρ' F' G' H' A' (e.trans e')
/-- at the slots as they are -/
def FliesAt (K : PySem.W.Frag) (M : Addr → Prop) (Z G0 H0 G : Hp) (σ : L2.St) (Ξ : EX) (P : Value → Option Addr → L2.St → Hp → Prop) : Prop := ∀ (C dx : Addr) (ws : List (Str × V)) (fs : List (Str × D)) (ρ' : List Sl) (F' : Nat → Addr → Prop) (G' H' : Hp),
  At K M Z G0 H0 G' H' σ ρ' F' → Same G G' → G' dx = some (.xd ws) → RpF K G' ws fs → Ξ C fs ρ' → P (.ref C) (some dx) σ H'
theorem FliesAt.later {K : PySem.W.Frag} {M : Addr → Prop} {Z G0 H0 G G1 : Hp} {σ : L2.St} {Ξ : EX} {P : Value → Option Addr → L2.St → Hp → Prop} (h : FliesAt K M Z G0 H0 G σ Ξ P) (e : Same G G1) : FliesAt K M Z G0 H0 G1 σ Ξ P :=
  fun C dx ws fs ρ' F' G' H' A' e' => h C dx ws fs ρ' F' G' H' A' (e.trans e')
theorem Flies.at {K : PySem.W.Frag} {M : Addr → Prop} {Z G0 H0 G : Hp} {Ξ : EX} {P : Value → Option Addr → L2.St → Hp → Prop} (h : Flies K M Z G0 H0 G Ξ P) (σ : L2.St) : FliesAt K M Z G0 H0 G σ Ξ P :=
  fun C dx ws fs ρ' F' G' H' A' e' => h C dx ws fs σ ρ' F' G' H' A' e'

def SimX (K : PySem.W.Frag) (t : WX → TS) (d : DXS) : Prop := ∀ {M : Addr → Prop} {Z G0 H0 G H : Hp} {σ : L2.St} {ρ : List Sl} {F : Nat → Addr → Prop} {Δ : Ds} {Ξ : EX} {Q : Ends} {W : WX}, At K M Z G0 H0 G H σ ρ F → d Ξ Δ ρ →
  (∀ σ' ρ' F' G' H', At K M Z G0 H0 G' H' σ' ρ' F' → Same G G' → Δ.nx ρ' → Q.nx σ' H') →
  (∀ v x Fn σ' ρ' F' G' H', At K M Z G0 H0 G' H' σ' ρ' F' → Same G G' → ResOk K Z H0 G' H' (fun j a => Sl.isArg (ρ'[j]?) ∧ F' j a) v x Fn → Δ.rt x ρ' → Q.rt v H') →
  (∀ σ' ρ' F' G' H', At K M Z G0 H0 G' H' σ' ρ' F' → Same G G' → Δ.bk ρ' → Q.bk σ' H') →
  (∀ σ' ρ' F' G' H', At K M Z G0 H0 G' H' σ' ρ' F' → Same G G' → Δ.ct ρ' → Q.ct σ' H') → Flies K M Z G0 H0 G Ξ W → t W Q σ H
def SimXR (K : PySem.W.Frag) (t : WX → TE) (d : DXR) : Prop := ∀ {M : Addr → Prop} {Z G0 H0 G H : Hp} {σ : L2.St} {ρ : List Sl} {F : Nat → Addr → Prop} {Φ : Sl → List Sl → Prop} {Ξ : EX} {Q : VK} {W : WX}, At K M Z G0 H0 G H σ ρ F → d Ξ ρ Φ →
  (∀ v x Fn ρ' F' G' H', At K M Z G0 H0 G' H' σ ρ' F' → Same G G' → ResOk K Z H0 G' H' F' v x Fn → Φ x ρ' → Q v H') → FliesAt K M Z G0 H0 G σ Ξ W → t W σ H Q
def SimXE (K : PySem.W.Frag) (t : WX → TE) (d : DXE) : Prop := ∀ {M : Addr → Prop} {Z G0 H0 G H : Hp} {σ : L2.St} {ρ : List Sl} {F : Nat → Addr → Prop} {Φ : D → List Sl → Prop} {Ξ : EX} {Q : VK} {W : WX}, At K M Z G0 H0 G H σ ρ F → d Ξ ρ Φ →
  (∀ v x ρ' F' G' H', At K M Z G0 H0 G' H' σ ρ' F' → Same G G' → Rp K G' v x → Φ x ρ' → Q v H') → FliesAt K M Z G0 H0 G σ Ξ W → t W σ H Q
def SimXA (K : PySem.W.Frag) (t : WX → TA) (d : DXA) : Prop := ∀ {M : Addr → Prop} {Z G0 H0 G H : Hp} {σ : L2.St} {ρ : List Sl} {F : Nat → Addr → Prop} {Φ : List D → List Sl → Prop} {Ξ : EX} {Q : List V → Hp → Prop} {W : WX}, At K M Z G0 H0 G H σ ρ F → d Ξ ρ Φ →
  (∀ vs xs ρ' F' G' H', At K M Z G0 H0 G' H' σ ρ' F' → Same G G' → RpL K G' vs xs → Φ xs ρ' → Q vs H') → FliesAt K M Z G0 H0 G σ Ξ W → t W σ H Q
structure PDX (X : Cx) (st : Stmt) (t : WX → TS) (d : DXS) : Prop where
  pe : ∀ W, L2N.Takes X W → PS X st (t W)
  sim : SimX X.K t d
structure PDXs (X : Cx) (sts : List Stmt) (t : WX → TS) (d : DXS) : Prop where
  pe : ∀ W, L2N.Takes X W → PSs X sts (t W)
  sim : SimX X.K t d
structure PRX (X : Cx) (e : Expr) (t : WX → TE) (d : DXR) : Prop where
  pe : ∀ W, L2N.Takes X W → PE X e (t W)
  sim : SimXR X.K t d
structure PDXE (X : Cx) (e : Expr) (t : WX → TE) (d : DXE) : Prop where
  pe : ∀ W, L2N.Takes X W → PE X e (t W)
  sim : SimXE X.K t d
structure PDXA (X : Cx) (es : List Expr) (t : WX → TA) (d : DXA) : Prop where
  pe : ∀ W, L2N.Takes X W → PA X es (t W)
  sim : SimXA X.K t d

/-! ### statements -/
def xSeq (a b : DXS) : DXS := fun Ξ => dSeq (a Ξ) (b Ξ)
def xIf (c : DT) (a b : DXS) : DXS := fun Ξ => dIfS c (a Ξ) (b Ξ)
def xOf (d : DS) : DXS := fun _ => d
def xDrop (d : DXR) : DXS := fun Ξ => dDrop (d Ξ)
def xRet (d : DXR) : DXS := fun Ξ => dRet (d Ξ)
def xSet (i : Nat) (d : DXR) : DXS := fun Ξ => dSet i (d Ξ)
def xFor (di : DI) (g : DG) (b : DXS) : DXS := fun Ξ => dFor di g (b Ξ)
def xV (d : DXR) : DXE := fun Ξ => dV (d Ξ)
def xR (d : DXE) : DXR := fun Ξ => dR (d Ξ)
section
variable {K : PySem.W.Frag} {t u : WX → TS} {a b : DXS}
theorem simx_of {t : TS} {d : DS} (h : SimS K t d) : SimX K (fun _ => t) (xOf d) := fun {M Z G0 H0 G H σ ρ F Δ Ξ Q W} A hd k1 k2 k3 k4 _ => h A hd k1 k2 k3 k4
theorem simx_seq (h : SimX K t a) (g : SimX K u b) : SimX K (fun W => tSeq (t W) (u W)) (xSeq a b) := fun {M Z G0 H0 G H σ ρ F Δ Ξ Q W} A hd k1 k2 k3 k4 k5 =>
  h (Δ := { Δ with nx := b Ξ Δ }) (Q := { Q with nx := u W Q }) A hd (fun σ1 ρ1 F1 G1 H1 A1 e1 q1 => g A1 q1 (fun σ2 ρ2 F2 G2 H2 A2 e2 q2 => k1 σ2 ρ2 F2 G2 H2 A2 (e1.trans e2) q2)
    (fun v x Fn σ2 ρ2 F2 G2 H2 A2 e2 r2 q2 => k2 v x Fn σ2 ρ2 F2 G2 H2 A2 (e1.trans e2) r2 q2) (fun σ2 ρ2 F2 G2 H2 A2 e2 q2 => k3 σ2 ρ2 F2 G2 H2 A2 (e1.trans e2) q2) (fun σ2 ρ2 F2 G2 H2 A2 e2 q2 => k4 σ2 ρ2 F2 G2 H2 A2 (e1.trans e2) q2) (k5.later e1)) k2 k3 k4 k5
theorem simx_if {c : TT} {dc : DT} (h : SimT K c dc) (h1 : SimX K t a) (h2 : SimX K u b) : SimX K (fun W => tIfS c (t W) (u W)) (xIf dc a b) := fun {M Z G0 H0 G H σ ρ F Δ Ξ Q W} A hd k1 k2 k3 k4 k5 =>
  h A hd fun c ρ1 F1 G1 H1 A1 e1 q1 => by
    cases c with
    | true => exact h1 A1 q1 (fun σ2 ρ2 F2 G2 H2 A2 e2 q2 => k1 σ2 ρ2 F2 G2 H2 A2 (e1.trans e2) q2) (fun v x Fn σ2 ρ2 F2 G2 H2 A2 e2 r2 q2 => k2 v x Fn σ2 ρ2 F2 G2 H2 A2 (e1.trans e2) r2 q2) (fun σ2 ρ2 F2 G2 H2 A2 e2 q2 => k3 σ2 ρ2 F2 G2 H2 A2 (e1.trans e2) q2) (fun σ2 ρ2 F2 G2 H2 A2 e2 q2 => k4 σ2 ρ2 F2 G2 H2 A2 (e1.trans e2) q2) (k5.later e1)
    | false => exact h2 A1 q1 (fun σ2 ρ2 F2 G2 H2 A2 e2 q2 => k1 σ2 ρ2 F2 G2 H2 A2 (e1.trans e2) q2) (fun v x Fn σ2 ρ2 F2 G2 H2 A2 e2 r2 q2 => k2 v x Fn σ2 ρ2 F2 G2 H2 A2 (e1.trans e2) r2 q2) (fun σ2 ρ2 F2 G2 H2 A2 e2 q2 => k3 σ2 ρ2 F2 G2 H2 A2 (e1.trans e2) q2) (fun σ2 ρ2 F2 G2 H2 A2 e2 q2 => k4 σ2 ρ2 F2 G2 H2 A2 (e1.trans e2) q2) (k5.later e1)
theorem simx_drop {te : WX → TE} {d : DXR} (h : SimXR K te d) : SimX K (fun W => tDrop (te W)) (xDrop d) := fun {M Z G0 H0 G H σ ρ F Δ Ξ Q W} A hd k1 _ _ _ k5 => h A hd (fun v x Fn ρ1 F1 G1 H1 A1 e1 r1 q1 => k1 σ ρ1 F1 G1 H1 A1 e1 q1) (k5.at σ)
theorem simx_ret {te : WX → TE} {d : DXR} (h : SimXR K te d) : SimX K (fun W => tRet (te W)) (xRet d) := fun {M Z G0 H0 G H σ ρ F Δ Ξ Q W} A hd _ k2 _ _ k5 => h A hd (fun v x Fn ρ1 F1 G1 H1 A1 e1 r1 q1 => k2 v x Fn σ ρ1 F1 G1 H1 A1 e1 (r1.weak fun _ _ z => z.2) q1) (k5.at σ)
theorem simx_set {te : WX → TE} {d : DXR} {i : Nat} (h : SimXR K te d) : SimX K (fun W => tAsg (te W) (gName i)) (xSet i d) := fun {M Z G0 H0 G H σ ρ F Δ Ξ Q W} A hd k1 _ _ _ k5 => h A hd (fun v x Fn ρ1 F1 G1 H1 A1 e1 r1 q1 => by
  obtain ⟨h1, h2⟩ := q1.1.lt
  exact k1 _ _ _ G1 H1 (A1.set r1 h1 h2) e1 q1.2) (k5.at σ)
theorem simx_for {wi : TI} {di : DI} {g : TG} {dg : DG} (hi : SimI K wi di) (hg : SimG K g dg) (hb : SimX K t b) : SimX K (fun W => tFor wi g (t W)) (xFor di dg b) := by
  intro M Z G0 H0 G H σ ρ F Δ Ξ Q W A hd k1 k2 k3 k4 k5
  unfold xFor dFor at hd
  refine hi A hd fun J ds ρ1 F1 G1 H1 A1 e1 w q1 => ?_
  refine for_it w (fun i σ' H' => ∃ ρ' F' G', At K M Z G0 H0 G' H' σ' ρ' F' ∧ Same G1 G' ∧ dForL dg (b Ξ) Δ (ds.drop i) ρ') ⟨ρ1, F1, G1, A1, Same.refl G1, q1⟩ (fun i σ' H' _ ⟨ρ', F', G', A', e', _⟩ => e'.trans A'.gh) ?_ ?_
  · rintro i x σ' H' H'' hi ⟨ρ', F', G', A', e', q'⟩ ⟨rfl, d, hd1, hr⟩
    have hdr : ds.drop i = d :: ds.drop (i + 1) := by
      have hlt : i < ds.length := hi
      rw [List.drop_eq_getElem_cons hlt]
      rw [List.getElem?_eq_getElem hlt] at hd1
      rw [Option.some.inj hd1]
    rw [hdr] at q'
    refine hg A' (hr.mono e') q' fun σ2 ρ2 F2 G2 H2 A2 e2 q2 => ?_
    have e12 : Same G1 G2 := e'.trans e2
    refine hb A2 q2 (fun σ3 ρ3 F3 G3 H3 A3 e3 q3 => ⟨ρ3, F3, G3, A3, e12.trans e3, q3⟩) (fun v x Fn σ3 ρ3 F3 G3 H3 A3 e3 r3 q3 => k2 v x Fn σ3 ρ3 F3 G3 H3 A3 (e1.trans (e12.trans e3)) r3 q3)
      (fun σ3 ρ3 F3 G3 H3 A3 e3 q3 => k1 σ3 ρ3 F3 G3 H3 A3 (e1.trans (e12.trans e3)) q3) (fun σ3 ρ3 F3 G3 H3 A3 e3 q3 => ⟨ρ3, F3, G3, A3, e12.trans e3, q3⟩) (k5.later (e1.trans e12))
  · rintro σ' H' ⟨ρ', F', G', A', e', q'⟩
    rw [List.drop_length] at q'
    exact k1 σ' ρ' F' G' H' A' (e1.trans e') q'
theorem simx_v {te : WX → TE} {d : DXR} (h : SimXR K te d) : SimXE K te (xV d) := by
  intro M Z G0 H0 G H σ ρ F Φ Ξ Q W A hd k k5
  refine h A hd (fun v x Fn ρ' F' G' H' A' eG r q => ?_) k5
  cases x with
  | un => exact q.elim
  | val d =>
    obtain ⟨_, w, e1, hr⟩ := r.ok
    cases e1
    exact k v d ρ' F' G' H' A' eG hr q
  | own ds =>
    obtain ⟨G2, A2, e2, hr⟩ := A'.freezeR r
    exact k v (.lst ds) ρ' F' G2 H' A2 (eG.trans e2) hr q
  | loc t =>
    change (match t.toD with | some d => Φ d ρ' | none => False) at q
    split at q
    · rename_i d ed
      obtain ⟨w, e1, n, B, o, nd, hB⟩ := r.ok
      cases e1
      have fr : ∀ a ∈ B, G' a = none ∧ H' a ≠ none ∧ H0 a = none ∧ Z a = none ∧ ∀ j, ¬ F' j a := fun a ha => r.fr a ((hB a).mpr ha)
      obtain ⟨A2, e2⟩ := A'.knowS (B := B) (fun a ha => (fr a ha).1) (fun a ha => (fr a ha).2.2.1) (fun a ha => (fr a ha).2.2.2.1) fun a ha => (fr a ha).2.2.2.2
      exact k v d ρ' F' _ H' A2 (eG.trans e2) (o.rp ed e2 fun a ha => by
        unfold knowA
        rw [if_pos ha]) q
    · exact q.elim
  | arg S => exact q.elim
theorem simx_r {te : WX → TE} {d : DXE} (h : SimXE K te d) : SimXR K te (xR d) := fun {M Z G0 H0 G H σ ρ F Φ Ξ Q W} A hd k k5 => h A hd (fun v x ρ' F' G' H' A' eG r q => k v (.val x) _ ρ' F' G' H' A' eG (.val r) q) k5
theorem simx_oE {te : TE} {d : DE} (h : SimE K te d) : SimXE K (fun _ => te) (fun _ => d) := fun {M Z G0 H0 G H σ ρ F Φ Ξ Q W} A hd k _ => h A hd k
end
section
variable {X : Cx} {st : Stmt} {rest as bs : List Stmt} {e c tg iter : Expr} {t u : WX → TS} {a b : DXS} {te : WX → TE} {d : DXR} {tc : TT} {dc : DT} {wi : TI} {di : DI} {g : TG} {dg : DG} {pos pos' : Pos}
theorem PDS.x {t : TS} {d : DS} (h : PDS X st t d) : PDX X st (fun _ => t) (xOf d) := ⟨fun _ _ => h.pe, simx_of h.sim⟩
theorem PDSs.x {t : TS} {d : DS} (h : PDSs X as t d) : PDXs X as (fun _ => t) (xOf d) := ⟨fun _ _ => h.pe, simx_of h.sim⟩
theorem pdxs_cons (h : PDX X st t a) (g : PDXs X rest u b) : PDXs X (st :: rest) (fun W => tSeq (t W) (u W)) (xSeq a b) := ⟨fun W k => pss_cons (h.pe W k) (g.pe W k), simx_seq h.sim g.sim⟩
theorem pdxs_one (h : PDX X st t a) : PDXs X [st] t a := ⟨fun W k => pss_one (h.pe W k), h.sim⟩
theorem pdx_if (hc : PDT X c tc dc) (ha : PDXs X as t a) (hb : PDXs X bs u b) : PDX X (.If c as bs pos) (fun W => tIfS tc (t W) (u W)) (xIf dc a b) := ⟨fun W k => ps_if hc.pe (ha.pe W k) (hb.pe W k), simx_if hc.sim ha.sim hb.sim⟩
theorem pdx_expr (h : PRX X e te d) (hs : swapsWith e none pos.line X.env = pure false := by rfl) : PDX X (.Expr e pos) (fun W => tDrop (te W)) (xDrop d) := ⟨fun W k => ps_expr (h.pe W k) hs, simx_drop h.sim⟩
theorem pdx_ret (h : PRX X e te d) : PDX X (.Return (some e) pos) (fun W => tRet (te W)) (xRet d) := ⟨fun W k => ps_ret (h.pe W k), simx_ret h.sim⟩
theorem pdx_set {i : Nat} {x : Str} (hN : X.N.Nodup) (h : PRX X e te d) (hi : X.N[i]? = some x := by rfl) (hx : Loc X.env.scope x := by first | exact Or.inl rfl | exact Or.inr rfl) (hs : swapsWith e (some (.Name x pos')) pos.line X.env = pure false := by rfl)
    (hf : X.fn x = true ∨ X.env.scope.names.lookup x = some .local := by first | exact .inl rfl | exact .inr rfl | assumption) : PDX X (.Assign [.Name x pos'] e pos) (fun W => tAsg (te W) (gName i)) (xSet i d) :=
  ⟨fun W k => ps_set hN hi hx (h.pe W k) hs hf, simx_set h.sim⟩
theorem pdx_for (hi : PDI X tg iter wi di) (hg : PDG X tg g dg) (hb : PDXs X as t a) (hp : PassesOwn (model X.prog X.w) X.A X.env X.xe := by first | assumption | exact PassesOwn.never) (hc : X.calm = true := by rfl)
    (hs : ∀ x, foldedSetIterable iter X.env x = pure x := by intro _; rfl) : PDX X (.For tg iter as [] pos) (fun W => tFor wi g (t W)) (xFor di dg a) := ⟨fun W k => ps_for hp hc hi.pi hg.pg (hb.pe W k) hs, simx_for hi.sim hg.sim hb.sim⟩
theorem PRX.v (h : PRX X e te d) : PDXE X e te (xV d) := ⟨h.pe, simx_v h.sim⟩
theorem PDXE.r {d : DXE} (h : PDXE X e te d) : PRX X e te (xR d) := ⟨h.pe, simx_r h.sim⟩
theorem PD.x {t : TE} {d : DE} (h : PD X e t d) : PDXE X e (fun _ => t) (fun _ => d) := ⟨fun _ _ => h.pe, simx_oE h.sim⟩
end
end DL
set_option Elab.async false
set_option linter.all false
set_option maxRecDepth 100000
set_option maxHeartbeats 4000000
namespace DL
open PySem PySem.Spec PyProof.Rows L2
variable [Tabl]

/-! ### exceptions' classes -/
/-- the base of all, a class without own __init__ -/
structure ExB (K : PySem.W.Frag) (mg : Str → Option Value) (x : Str) (B : Addr) : Prop where
  m : mg x = some (.ref B)
  hg : PySem.W.specialIn K (.ref B) "__getattribute__" = some (some (.builtin "type.__getattribute__"))
  hr : PySem.W.readsIn K B (.type "type") = true
  hv : PySem.W.findCls K (.ref B) (.type "type") "__init__" = some (.val (.builtin "ValueError.__init__"))
/-- a class over it -/
structure ExK (K : PySem.W.Frag) (mg : Str → Option Value) (x : Str) (C fI : Addr) : Prop where
  m : mg x = some (.ref C)
  cls : OexC K C
  iC : PySem.W.findIn K (.ref C) "__init__" = some (some (.ref fI))
  tI : PySem.W.typeIn K (.ref fI) = some (.type "function")
/-- B.__init__(self, ..) -/
theorem pe_binit {X : Cx} {B : Addr} {b : Str} {e : Expr} {es : List Expr} {ta : TA} {p1 p2 pos : Pos} {pl : Sem Bool} (T : ExB X.K X.mg b B) (ha : PA X (e :: es) ta) (hg : Gl X b := by rfl) (hdb : (b == ("__debug__" : Str)) = false := by decide)
    (hc : eval (.Call (.Attribute (.Name b p1) "__init__" p2) (e :: es) [] pos) X.env = (do
      let ov ← eval (.Name b p1) X.env
      standAt p2.atName
      let (f, first) ← holding [ov] (getMethod ov "__init__" pl)
      callWith pos f first (backTo pos (starEach (e :: es) X.env)) (backToKw pos (keywordEach [] X.env))) := by rfl)
    (he : starEach (e :: es) X.env = (false, eval e X.env) :: starEach es X.env := by rfl) (hpl : (backTo pos (starEach es X.env)).any (·.1) = false := by rfl) :
    PE X (.Call (.Attribute (.Name b p1) "__init__" p2) (e :: es) [] pos) (tVeI X.K ta) := by
  refine ⟨fun pins sh σ H Q I h => ?_⟩
  refine PySem.W.methodCall_KW (ld_glob I hg T.m ?_ hdb) hc
  refine PySem.W.method_cls I.kIn T.hg (PySem.W.cls_value I.kIn T.hr T.hv (by decide +kernel) ?_)
  show wpAny _ _ (callWith pos (Value.builtin "ValueError.__init__") [] (backTo pos (starEach (e :: es) X.env)) []) _ _ _
  refine PyProof.Rows.callWith_method1 (thn (ha.run pos pins _ σ H _ (I.tok _) h) fun us s1 ⟨vs, H1, I1, r1, a, C, ws, ev, hl, TC, ea, q⟩ => ?_) he hpl
  subst ev
  cases r1 with
  | @cons _ u0 _ ur ra rest =>
    obtain rfl : u0 = Value.ref a := ra
    have hlen : ur.length ≤ sizeLine := by
      rw [← Paired.length rest, sizeLine_eq]
      omega
    exact oinit_ok TC I1 ea hlen fun s' J => ⟨.non, H1, J, rfl, q⟩
/-- what an __init__ leaves: one field; two -/
def spI1 (C : Addr) (f : Str) : Sp := fun vs H Q _ => ∃ (a : Addr) (v : V), vs = [.ref a, v] ∧ H a = some (exo a C none) ∧ ∀ (dx : Addr) (H' : Hp), H dx = none → dx ≠ a → H' a = some (exo a C (some dx)) → H' dx = some (exd dx [(f, v)]) → (∀ b, b ≠ a → b ≠ dx → H' b = H b) → Q .non H'
def spI2 (C : Addr) (f g : Str) : Sp := fun vs H Q _ => ∃ (a : Addr) (v w : V), vs = [.ref a, v, w] ∧ H a = some (exo a C none) ∧ ∀ (dx : Addr) (H' : Hp), H dx = none → dx ≠ a → H' a = some (exo a C (some dx)) → H' dx = some (exd dx [(g, w), (f, v)]) → (∀ b, b ≠ a → b ≠ dx → H' b = H b) → Q .non H'
/-- an argument that can be had -/
def Had (t : TE) (n : Nat) : Prop := ∀ (vs : List V) (N : List Str) (H : Hp) (Q : VK), vs.length = n → (∀ v, Q v H) → t (L2.start N vs) H Q
theorem had_c {v : V} {n : Nat} : Had (tC v) n := fun _ _ _ _ _ q => q v
theorem had_var {i n : Nat} (hi : i < n) : Had (tVar i) n := fun vs N H Q hl q => by
  have e : (L2.start N vs)[i]? = some (some vs[i]) := by
    unfold L2.start
    rw [List.getElem?_append_left (by simpa using (by omega : i < vs.length)), List.getElem?_map, List.getElem?_eq_getElem (by omega)]
    rfl
  exact ⟨_, e, q _⟩
def t_init1 (K : PySem.W.Frag) (f : Str) (tx : TE) : TS := tSeq (tDrop (tVeI K (tCons (tVar 0) (tCons tx tNil)))) (tOst K f (tVar 0) (tVar 1))
def t_init2 (K : PySem.W.Frag) (f g : Str) (tx : TE) : TS := tSeq (tDrop (tVeI K (tCons (tVar 0) (tCons tx tNil)))) (tSeq (tOst K f (tVar 0) (tVar 1)) (tOst K g (tVar 0) (tVar 2)))
section
variable {P : Program} {w : World} {K : PySem.W.Frag} {mg : Str → Option Value} {base : Heap} {x qual : Str} {st : Stmt} {fI C : Addr} {fd : FuncData} {N ps : List Str} {f g : Str} {tx : TE}
theorem ok_init1 (T : OexC K C) (F : Fun K x qual st fI fd) (S : FnScope N ps (defScope st)) (hps : ps.length = 2) (nf : PySem.W.findIn K (.ref C) f = some none) (hx : Had tx 2)
    (body : ∀ (cdv : Value) (A : Around) (outer : List Env) (s : Shared) (H : Hp) (E : XK), PSs (cxOf CX0 P w K mg base N qual (defScope st) fI cdv A outer s H E).nox (defBody st) (t_init1 K f tx)) : FnOk P w K mg base CX0 1 fI fd ps (spI1 C f) := by
  refine F.ok S (fun vs H Q E h => ?_) fun cdv A outer s H vs Q E _ h => ⟨_, body cdv A outer s H E, ?_⟩
  · obtain ⟨a, v, rfl, _⟩ := h
    rw [hps]
    rfl
  · obtain ⟨a, v, rfl, ha, k⟩ := h
    refine ⟨.ref a, rfl, hx _ _ _ _ rfl fun y => ⟨a, C, [y], rfl, by show 1 ≤ 1000; decide, T, ha, ?_⟩⟩
    refine ⟨v, rfl, .ref a, rfl, a, C, rfl, T, nf, .inl ⟨ha, fun dx hdx ne => k dx _ hdx ne upd_same ?_ fun b h1 h2 => ?_⟩⟩
    · rw [upd_ne ne, upd_same]
    · rw [upd_ne h1, upd_ne h2]
theorem ok_init2 (T : OexC K C) (F : Fun K x qual st fI fd) (S : FnScope N ps (defScope st)) (hps : ps.length = 3) (nf : PySem.W.findIn K (.ref C) f = some none) (ng : PySem.W.findIn K (.ref C) g = some none) (hx : Had tx 3)
    (body : ∀ (cdv : Value) (A : Around) (outer : List Env) (s : Shared) (H : Hp) (E : XK), PSs (cxOf CX0 P w K mg base N qual (defScope st) fI cdv A outer s H E).nox (defBody st) (t_init2 K f g tx)) : FnOk P w K mg base CX0 1 fI fd ps (spI2 C f g) := by
  refine F.ok S (fun vs H Q E h => ?_) fun cdv A outer s H vs Q E _ h => ⟨_, body cdv A outer s H E, ?_⟩
  · obtain ⟨a, v, y, rfl, _⟩ := h
    rw [hps]
    rfl
  · obtain ⟨a, v, y, rfl, ha, k⟩ := h
    refine ⟨.ref a, rfl, hx _ _ _ _ rfl fun z => ⟨a, C, [z], rfl, by show 1 ≤ 1000; decide, T, ha, ?_⟩⟩
    refine ⟨v, rfl, .ref a, rfl, a, C, rfl, T, nf, .inl ⟨ha, fun dx hdx ne => ?_⟩⟩
    have e1 : upd (upd H dx (exd dx [(f, v)])) a (exo a C (some dx)) dx = some (exd dx [(f, v)]) := by rw [upd_ne ne, upd_same]
    refine ⟨y, rfl, .ref a, rfl, a, C, rfl, T, ng, .inr ⟨dx, [(f, v)], upd_same, e1, by show 1 ≤ 900; decide, k dx _ hdx ne ?_ upd_same fun b h1 h2 => ?_⟩⟩
    · rw [upd_ne (Ne.symm ne), upd_same]
    · rw [upd_ne h2, upd_ne h1, upd_ne h2]
end

/-! ### raise C(..) -/
theorem pmk_ex {X : Cx} {CXi : CXT} {x : Str} {e : Expr} {es : List Expr} {ta : TA} {p pos : Pos} {C fI : Addr} {k : Nat} {fd : FuncData} {ps : List Str} {sp : Sp} (T : ExK X.K X.mg x C fI) (F1 : FnOk X.prog X.w X.K X.mg X.base CXi k fI fd ps sp) (hr : Room (k + 1) X.A)
    (hb : Binds X.K fd ps []) (hx : Passes CXi X (fun _ _ _ => False)) (ha : PA X (e :: es) ta) (hg : Gl X x := by rfl)
    (hdb : (x == ("__debug__" : Str)) = false := by decide) (he : starEach (e :: es) X.env = (false, eval e X.env) :: starEach es X.env := by rfl) (hpl : (backTo pos (starEach es X.env)).any (·.1) = false := by rfl) :
    L2N.PMk X (.Call (.Name x p) (e :: es) [] pos) (tMkO C sp [] ta) := by
  intro pins sh σ H Q I h
  obtain ⟨nm, q, N, bs, bm, sn, sub, ab, col, dd, k0, k1, k2, k3, k5, hC, hbm⟩ := T.cls.cls
  refine wpAny_Call_Name_kw (ld_glob I hg T.m ?_ hdb)
  refine PySem.W.callWith_K (h₀ := X.base) I.ok.mod.kin T.cls.kC (thn (ha.run pos pins sh σ H _ I h) fun us s1 ⟨vs, H1, I1, r1, hz, q1⟩ => ⟨I1.kIn, ?_⟩) he hpl
  show wpAny _ _ (call (.ref C) us) _ _ _
  obtain ⟨hp, gn, dr, tk, os⟩ := s1
  let nw := hp.objs.size + 1
  have hsz : hp.objs.size ≤ nw := Nat.le_succ _
  have hn : H1 nw = none := I1.hok.fresh hsz
  have hq := q1 nw hn
  rw [List.append_nil] at hq
  have old : ∀ b o, hp.get? b = some o → ((hp.push (PySem.W.kdv_tup us)).push (PySem.HandSPX.excO C hp.objs.size)).get? b = some o := fun b o z => Heap.get?_push_of_some _ (Heap.get?_push_of_some _ z)
  have made : ((hp.push (PySem.W.kdv_tup us)).push (PySem.HandSPX.excO C hp.objs.size)).get? nw = some (PySem.HandSPX.excO C hp.objs.size) := by
    show Heap.get? _ (hp.objs.size + 1) = _
    heap_get
  have I2 : Inv X pins σ (upd H1 nw (exo nw C none)) ⟨(hp.push (PySem.W.kdv_tup us)).push (PySem.HandSPX.excO C hp.objs.size), gn, dr, tk, os⟩ :=
    I1.laid (t' := tk) (a := nw) (o := exo nw C none) (h' := (hp.push (PySem.W.kdv_tup us)).push (PySem.HandSPX.excO C hp.objs.size)) old hsz (exo_ok made)
  have r2 : Vals (V.ref nw :: vs) (Value.ref nw :: us) := .cons rfl r1
  have hl : (Value.ref nw :: us ++ []).length = ps.length := by
    have z := r2.length
    rw [F1.len _ _ _ _ hq] at z
    rw [List.append_nil]
    exact z.symm
  have hus : us.length ≤ sizeLine := by
    rw [← Paired.length r1, sizeLine_eq]
    omega
  have b2 := hb _ (Value.ref nw :: us) I2.kIn hl
  rw [List.append_nil] at b2
  refine wpAny_call (PySem.HandSPX.call_own F.excBase_ValueError (fun Y => PySem.HandSPX.refsVE_contains Y bm hbm) (I1.kIn _ _ hC) (PySem.W.looks_findIn I1.kIn T.iC) (fun self => PySem.W.bind_fn I1.kIn self T.tI) hus
      (codeAny_mono (F1.run _ X.stack _ _ ⟨Value.ref nw :: us, []⟩ (Value.ref nw :: us) _ _ (fun _ _ _ => False) (hr.make C us []) (I2.env0.make C us []) b2 r2 hq) fun r s' hq' => ?_))
  cases r with
  | error er => exact hx pins σ _ _ er s' I2 hq'
  | ok fl =>
    cases fl with
    | ret u =>
      obtain ⟨v, H2, os2, bare2, un2, hok2, rv, ev, d, fs, ea, ed, hd1, q2⟩ := hq'
      subst ev
      obtain ⟨h2, g2, d2, t2, os'⟩ := s'
      obtain ⟨t0, G, J, kG, ge, hoe, na⟩ := mk_end0 (d2 := d2) (t2 := t2) I1 hsz old un2 hok2 os2 bare2 ea ed hd1
      refine ⟨rv, nw, _, _, ⟨G, g2, d2, t2, os'⟩, _, .ref C, some d, rfl, J, kG, ge, hoe, ⟨rfl, rfl, fun ws hv => ?_⟩, rfl, rfl, na, rfl, bare2, raises_own T.cls.exC T.cls.tyC, q2⟩
      cases hv
      rfl
    | next => exact False.elim hq'
    | brk => exact False.elim hq'
    | cont => exact False.elim hq'
/-- C(..) made: the state behind it -/
theorem made_at {K : PySem.W.Frag} {M : Addr → Prop} {Z G0 H0 G H : Hp} {σ : L2.St} {ρ : List Sl} {F : Nat → Addr → Prop} {a d C : Addr} {H2 : Hp} {ws : List (Str × V)} {fs : List (Str × D)} (A : At K M Z G0 H0 G H σ ρ F) (ha : H a = none) (hd : H d = none) (ne : d ≠ a)
    (hk : ∀ b, b ≠ a → b ≠ d → H2 b = upd H a (exo a C none) b) (r : RpF K G ws fs) : ∃ G', At K M Z G0 H0 G' (upd (del H2 a) d (.xd ws)) σ ρ F ∧ Same G G' ∧ G' d = some (.xd ws) ∧ RpF K G' ws fs := by
  have e : upd (del H2 a) d (.xd ws) = upd H d (.xd ws) := by
    funext b
    by_cases h1 : b = d
    · rw [h1, upd_same, upd_same]
    · rw [upd_ne h1, upd_ne h1]
      by_cases h2 : b = a
      · rw [h2, del_same, ha]
      · rw [del_ne h2, hk b h2 h1, upd_ne h2]
  rw [e]
  obtain ⟨A2, e2⟩ := A.new (o := .xd ws) hd
  exact ⟨_, A2, e2, upd_same, RpF.mono e2 r⟩
def xRaise1 (C : Addr) (f : Str) (d : DA) : DXS := fun Ξ _ ρ => d ρ fun xs ρ1 => match xs with
  | [x] => Ξ C [(f, x)] ρ1
  | _ => False
def xRaise2 (C : Addr) (f g : Str) (d : DA) : DXS := fun Ξ _ ρ => d ρ fun xs ρ1 => match xs with
  | [x, y] => Ξ C [(g, y), (f, x)] ρ1
  | _ => False
section
variable {K : PySem.W.Frag} {C : Addr} {f g : Str} {ta : TA} {d : DA}
theorem simx_raise1 (h : SimA K ta d) : SimX K (fun W _ σ H => tMkO C (spI1 C f) [] ta σ H fun cls d H' => W cls d σ H') (xRaise1 C f d) := by
  intro M Z G0 H0 G H σ ρ F Δ Ξ Q W A hd k1 k2 k3 k4 k5
  refine h A hd fun vs xs ρ1 F1 G1 H1 A1 e1 r1 q1 => ?_
  split at q1
  · rename_i x
    cases r1 with
    | @cons v _ _ _ rv rn =>
      cases rn
      refine ⟨by show 1 ≤ 1000; decide, fun a ha => ⟨a, v, rfl, upd_same, fun dx H2 hdx ne ea ed hk => ?_⟩⟩
      have hdx1 : H1 dx = none := by
        rw [upd_ne ne] at hdx
        exact hdx
      obtain ⟨G2, A2, e2, gd, rf⟩ := made_at (C := C) (H2 := H2) (ws := [(f, v)]) (fs := [(f, x)]) A1 ha hdx1 ne hk (.cons rv .nil)
      exact ⟨rfl, dx, [(f, v)], ea, ed, hdx1, k5 C dx _ _ σ ρ1 F1 G2 _ A2 (e1.trans e2) gd rf q1⟩
  · exact q1.elim
theorem simx_raise2 (h : SimA K ta d) : SimX K (fun W _ σ H => tMkO C (spI2 C f g) [] ta σ H fun cls d H' => W cls d σ H') (xRaise2 C f g d) := by
  intro M Z G0 H0 G H σ ρ F Δ Ξ Q W A hd k1 k2 k3 k4 k5
  refine h A hd fun vs xs ρ1 F1 G1 H1 A1 e1 r1 q1 => ?_
  split at q1
  · rename_i x y
    cases r1 with
    | @cons v _ _ _ rv rn =>
      cases rn with
      | @cons v2 _ _ _ rv2 rn =>
        cases rn
        refine ⟨by show 2 ≤ 1000; decide, fun a ha => ⟨a, v, v2, rfl, upd_same, fun dx H2 hdx ne ea ed hk => ?_⟩⟩
        have hdx1 : H1 dx = none := by
          rw [upd_ne ne] at hdx
          exact hdx
        obtain ⟨G2, A2, e2, gd, rf⟩ := made_at (C := C) (H2 := H2) (ws := [(g, v2), (f, v)]) (fs := [(g, y), (f, x)]) A1 ha hdx1 ne hk (.cons rv2 (.cons rv .nil))
        exact ⟨rfl, dx, [(g, v2), (f, v)], ea, ed, hdx1, k5 C dx _ _ σ ρ1 F1 G2 _ A2 (e1.trans e2) gd rf q1⟩
  · exact q1.elim
end
section
variable {X : Cx} {x : Str} {e : Expr} {es : List Expr} {ta : TA} {d : DA} {p pos pos2 : Pos} {C fI : Addr} {k : Nat} {fd : FuncData} {ps : List Str} {f g : Str}
theorem pdx_raise1 (T : ExK X.K X.mg x C fI) (F1 : FnOk X.prog X.w X.K X.mg X.base CX0 k fI fd ps (spI1 C f)) (hr : Room (k + 1) X.A) (hb : Binds X.K fd ps []) (ha : PDA X (e :: es) ta d) (hg : Gl X x := by rfl) (hc : X.calm = true := by rfl)
    (hdb : (x == ("__debug__" : Str)) = false := by decide) (he : starEach (e :: es) X.env = (false, eval e X.env) :: starEach es X.env := by rfl) (hpl : (backTo pos (starEach es X.env)).any (·.1) = false := by rfl) :
    PDX X (.Raise (some (.Call (.Name x p) (e :: es) [] pos)) none pos2) (fun W _ σ H => tMkO C (spI1 C f) [] ta σ H fun cls d H' => W cls d σ H') (xRaise1 C f d) :=
  ⟨fun W tk => L2N.ps_raise hc tk (pmk_ex T F1 hr hb pass0 ha.pe hg hdb he hpl), simx_raise1 ha.sim⟩
theorem pdx_raise2 (T : ExK X.K X.mg x C fI) (F1 : FnOk X.prog X.w X.K X.mg X.base CX0 k fI fd ps (spI2 C f g)) (hr : Room (k + 1) X.A) (hb : Binds X.K fd ps []) (ha : PDA X (e :: es) ta d) (hg : Gl X x := by rfl) (hc : X.calm = true := by rfl)
    (hdb : (x == ("__debug__" : Str)) = false := by decide) (he : starEach (e :: es) X.env = (false, eval e X.env) :: starEach es X.env := by rfl) (hpl : (backTo pos (starEach es X.env)).any (·.1) = false := by rfl) :
    PDX X (.Raise (some (.Call (.Name x p) (e :: es) [] pos)) none pos2) (fun W _ σ H => tMkO C (spI2 C f g) [] ta σ H fun cls d H' => W cls d σ H') (xRaise2 C f g d) :=
  ⟨fun W tk => L2N.ps_raise hc tk (pmk_ex T F1 hr hb pass0 ha.pe hg hdb he hpl), simx_raise2 ha.sim⟩
end
end DL
set_option Elab.async false
set_option linter.all false
set_option maxRecDepth 100000
set_option maxHeartbeats 2000000
namespace DL
open PySem PySem.Spec PyProof.Rows L2
variable [Tabl]

/-! ### defs that may raise -/
abbrev DFX := List D → (Sl → Prop) → (Addr → List (Str × D) → Prop) → Prop
def SpX (K : PySem.W.Frag) (f : DFX) : Sp := fun vs H Q E => ∃ (G : Hp) (ds : List D) (Φ : Sl → Prop) (Ψ : Addr → List (Str × D) → Prop), Top G H ∧ RpL K G vs ds ∧ f ds Φ Ψ ∧
  (∀ v r Fr G' H', Same G G' → SamT G' H H' → Same G' H' → (∀ a, H a ≠ none → G' a = G a) → ResOk K (fun _ => none) H G' H' (fun _ _ => False) v r Fr → Φ r → Q v H') ∧
  ∀ (C dx : Addr) (ws : List (Str × V)) (fs : List (Str × D)) (G' H' : Hp), Same G G' → SamT G' H H' → Same G' H' → (∀ a, H a ≠ none → G' a = G a) → G' dx = some (.xd ws) → RpF K G' ws fs → Ψ C fs → E (.ref C) (some dx) H'
/-- used where nothing is raised -/
def noX (f : DFX) : DF := fun xs Φ => f xs Φ fun _ _ => False
theorem FnOk.calm {P : Program} {w : World} {K : PySem.W.Frag} {mg : Str → Option Value} {base : Heap} {k : Nat} {fa : Addr} {fd : FuncData} {ps : List Str} {f : DFX} (F : FnOk P w K mg base (L2N.CX P w) k fa fd ps (SpX K f)) : FnOk P w K mg base CX0 k fa fd ps (SpV K (noX f)) := by
  have up : ∀ vs H Q E, SpV K (noX f) vs H Q E → SpX K f vs H Q E0 := fun vs H Q E ⟨G, ds, Φ, h1, h2, h3, h4⟩ => ⟨G, ds, Φ, fun _ _ => False, h1, h2, h3, h4, fun _ _ _ _ _ _ _ _ _ _ _ _ z => z.elim⟩
  refine ⟨fun vs H Q E h => F.len _ _ _ _ (up vs H Q E h), fun A outer s H args us vs Q E hr he hb hv hs => codeAny_mono (F.run A outer s H args us vs Q E0 hr he hb hv (up vs H Q E hs)) fun r s' q => ?_⟩
  cases r with
  | error e =>
    obtain ⟨_, _, _, _, _, _, _, _, _, _, _, _, z⟩ := q
    exact z.elim
  | ok fl => cases fl <;> exact q
def dCallX (f : DFX) (d : DA) : DXR := fun Ξ ρ Φ => d ρ fun xs ρ1 => f xs (fun r => Φ r ρ1) fun C fs => Ξ C fs ρ1
theorem simx_call {K : PySem.W.Frag} {f : DFX} {t : TA} {d : DA} (h : SimA K t d) : SimXR K (fun W => tCallS (SpX K f) (WE W) t) (dCallX f d) := by
  intro M Z G0 H0 G H σ ρ F Φ Ξ Q W A hd k k5
  refine h A hd fun vs xs ρ1 F1 G1 H1 A1 e1 r1 q1 => ?_
  refine ⟨G1, xs, _, _, A1.top, r1, q1, fun v r Fr G2 H2 eG eH eGH old hr q2 => ?_, fun C dx ws fs G2 H2 eG eH eGH old gd rf q2 => ?_⟩
  · have A2 := A1.growT eG eH eGH old
    refine k v r Fr ρ1 F1 G2 H2 A2 (e1.trans eG) ⟨hr.ok, hr.na, fun a fa => ?_⟩ q2
    obtain ⟨h1, h2, h3, _, _⟩ := hr.fr a fa
    refine ⟨h1, h2, ?_, ?_, fun j z => (A1.fp j a z).2.1 h3⟩
    · cases q : H0 a with
      | none => rfl
      | some o => exact absurd h3 (A1.hn a (by rw [q]; exact Option.some_ne_none _))
    · cases q : Z a with
      | none => rfl
      | some o =>
        have := (A1.hz a o q).1
        rw [h3] at this
        cases this
  · exact k5 C dx ws fs ρ1 F1 G2 H2 (A1.growT eG eH eGH old) (e1.trans eG) gd rf q2
section
variable {X : Cx} {k : Nat} {f : DFX} {fa : Addr} {fd : FuncData} {ps : List Str} {x : Str} {e : Expr} {es : List Expr} {t : TA} {d : DA} {p pos : Pos}
theorem prx_call (G : FnOk X.prog X.w X.K X.mg X.base (L2N.CX X.prog X.w) k fa fd ps (SpX X.K f)) (hr : Room k X.A) (hm : X.mg x = some (.ref fa)) (hk : PySem.W.keepIn X.K (.ref fa) = true) (hb : Binds X.K fd ps []) (ha : PDA X (e :: es) t d) (hg : Gl X x := by rfl)
    (hdb : (x == ("__debug__" : Str)) = false := by decide) (hs : starEach (e :: es) X.env = (false, eval e X.env) :: starEach es X.env := by rfl) (hpl : (backTo pos (starEach es X.env)).any (·.1) = false := by rfl) :
    PRX X (.Call (.Name x p) (e :: es) [] pos) (fun W => tCallS (SpX X.K f) (WE W) t) (dCallX f d) := ⟨fun W tk => pe_callS G hr hg hm hk hb (fun σ => L2N.passAt tk σ) ha.pe hdb hs hpl, simx_call ha.sim⟩
end
section
variable {P : Program} {w : World} {K : PySem.W.Frag} {mg : Str → Option Value} {base : Heap} {x qual : Str} {st : Stmt} {fa : Addr} {fd : FuncData} {N ps : List Str} {k : Nat} {b : DXS}
theorem okX {f : DFX} (F : Fun K x qual st fa fd) (S : FnScope N ps (defScope st)) (len : ∀ ds Φ Ψ, f ds Φ Ψ → ds.length = ps.length)
    (body : ∀ (cdv : Value) (A : Around) (outer : List Env) (s : Shared) (H : Hp) (E : XK), Room k (A.deeper (envOfC qual (defScope st) s.heap.objs.size fa cdv)) →
      PassesOwn (model P w) (cxOf (L2N.CX P w) P w K mg base N qual (defScope st) fa cdv A outer s H E).A (cxOf (L2N.CX P w) P w K mg base N qual (defScope st) fa cdv A outer s H E).env (cxOf (L2N.CX P w) P w K mg base N qual (defScope st) fa cdv A outer s H E).xe →
      ∃ t, PDXs (cxOf (L2N.CX P w) P w K mg base N qual (defScope st) fa cdv A outer s H E) (defBody st) t b)
    (rd : ∀ ds Φ Ψ, f ds Φ Ψ → b (fun C fs _ => Ψ C fs) (rtV Φ) (slots ds N.length)) : FnOk P w K mg base (L2N.CX P w) (k + 1) fa fd ps (SpX K f) := by
  obtain ⟨oc, od, kV, doc, pm, an, cdv, ct, osl, rfl, lk, hcd⟩ := F.ex
  refine fn_of lk hcd S (fun vs H Q E h => ?_) fun A outer s H vs Q E hr h => ?_
  · obtain ⟨G, ds, Φ, Ψ, _, r, hf, _⟩ := h
    rw [r.length]
    exact len ds Φ Ψ hf
  · obtain ⟨G, ds, Φ, Ψ, gh, r, hf, k1, k5⟩ := h
    obtain ⟨t, ht⟩ := body cdv A outer s H E hr (L2.passes_of rfl)
    refine ⟨t fun cls d _ H' => E cls d H', ht.pe _ (L2N.takes_of rfl rfl rfl rfl), ht.sim (At.start gh r N) (rd ds Φ Ψ hf) (fun σ' ρ' F' G' H' A' e q => ?_) (fun v y Fn σ' ρ' F' G' H' A' e r q => ?_) (fun _ _ _ _ _ _ _ z => z.elim) (fun _ _ _ _ _ _ _ z => z.elim) fun C dx ws fs σ' ρ' F' G' H' A' e gd rf q => ?_⟩
    · exact k1 .non (.val .non) (fun _ => False) G' H' e ⟨fun a o h n => A'.h0 a o h n, A'.tb⟩ A'.gh A'.fr (.val .non) q
    · refine k1 v y Fn G' H' e ⟨fun a o h n => A'.h0 a o h n, A'.tb⟩ A'.gh A'.fr ⟨r.ok, r.na, fun a fa => ?_⟩ q
      obtain ⟨h1, h2, h3, h4, _⟩ := r.fr a fa
      exact ⟨h1, h2, h3, h4, fun _ z => z⟩
    · exact k5 C dx ws fs G' H' e ⟨fun a o h n => A'.h0 a o h n, A'.tb⟩ A'.gh A'.fr gd rf q
end
end DL
set_option Elab.async false
set_option linter.all false
set_option maxRecDepth 100000
set_option maxHeartbeats 4000000
namespace DL
open PySem PySem.Spec PyProof.Rows L2
variable [Tabl]

/-! ### the exception that is handled -/
/-- the data of the exception at p -/
def OfPin (p : Addr × Obj) (d : D) : Prop := ∀ b a C dx fs, d = .exc b a C dx fs → a = p.1 ∧ Zc (.ref C) (some dx) p.2 ∧ ∃ vs, p.2.data = .fields vs
/-- isinstance(e, c): e at a, of class C, its dict at dx; the class as data y; the answer b -/
def rIsX (K : PySem.W.Frag) (C a dx : Addr) : List V → Hp → VK → Prop := fun xs H Q => ∃ (c : V) (cv : Value) (b : Bool) (ws : List (Str × V)), xs = [.ref a, c] ∧ (∀ u, RelV c u → u = cv) ∧ PySem.W.kitOne K (.ref C) cv = some b ∧ H dx = some (.xd ws) ∧ Q (.bl b) H
theorem call_isX {X : Cx} {C : Addr} {dx : Addr} {p : Addr × Obj} (T : ExcC X.K C) (hp : p ∈ X.pn) (hz : Zc (.ref C) (some dx) p.2) (hf : ∃ vs, p.2.data = .fields vs) : CallR X (.builtin "isinstance") (rIsX X.K C p.1 dx) := by
  intro pins s σ H xs us Q I r h
  obtain ⟨c, cv, b, ws, rfl, hcv, e, hd, q⟩ := h
  cases r with
  | cons rx rr =>
    cases rr with
    | cons rt rr =>
      cases rr
      cases rx
      have ec := hcv _ rt
      subst ec
      obtain ⟨at_, _⟩ := I.pin p (List.mem_append.mpr (.inl hp))
      obtain ⟨vs, hv⟩ := hf
      have hx : ObjOk X.prog X.w H s.heap dx (.xd ws) := I.hok dx _ hd
      obtain ⟨mA, hns, hr⟩ := hx
      obtain ⟨od, ho, hl⟩ := lookIn_ns hns
      have J : PySem.W.InstAt s.heap p.1 p.2 C (some od) := ⟨at_, hz.1, by unfold PySem.W.notCls; rw [hv] <;> rfl, by rw [hz.2]; exact ho⟩
      have hcl : (PySem.W.clsIn X.K C).isSome = true := by
        have := T.hd
        unfold PySem.W.hasDictIn at this
        cases z : PySem.W.clsIn X.K C with
        | none => rw [z] at this; cases this
        | some _ => rfl
      exact PySem.W.kia_one (PySem.W.kitx_exc hcl T.hg T.hk T.hs T.ha T.hn T.ht T.hm) I.kIn J e (fun z => nomatch z) fun tk => ⟨.bl b, H, I.kept (t' := tk) fun _ _ z => z, rfl, q⟩
def isXD (C a dx : Addr) (yc : D) (b : Bool) : List D → (Sl → Prop) → Prop
  | [.exc _ a' C' dx' _, y], Φ => a' = a ∧ C' = C ∧ dx' = dx ∧ y = yc ∧ Φ (.val (.bl b))
  | _, _ => False
/-- a class as a value -/
inductive ClsV (K : PySem.W.Frag) : D → Value → Prop
  | own (c : Addr) : ClsV K (.cls c) (.ref c)
  | ty (n : String) : ClsV K (.ty n) (.type n)
theorem simc_isX {K : PySem.W.Frag} {C a dx : Addr} {yc : D} {cv : Value} {b : Bool} (hc : ClsV K yc cv) (hk : PySem.W.kitOne K (.ref C) cv = some b) : SimC K (rIsX K C a dx) (isXD C a dx yc b) := by
  intro M Z G0 H0 G H σ ρ F vs xs Φ Q A r hf k
  unfold isXD at hf
  split at hf
  · obtain ⟨rfl, rfl, rfl, rfl, q⟩ := hf
    cases r with
    | cons r1 rr =>
      cases rr with
      | cons r2 rr =>
        cases rr
        cases r1 with
        | exc h1 h2 h3 =>
          refine ⟨_, cv, b, _, rfl, fun u hu => ?_, hk, A.gh _ _ h2, k _ _ _ G H A (Same.refl G) (.val (.bl b)) q⟩
          cases hc with
          | own c => cases r2; exact hu
          | ty n => cases r2; exact hu
  · exact hf.elim
section
variable {X : Cx} {C dx fa : Addr} {p : Addr × Obj} {yc : D} {cv : Value} {b : Bool} {e : Expr} {es : List Expr} {t : TA} {d : DA} {pp pos : Pos} {x : Str}
theorem pr_isX (T : ExcC X.K C) (hp : p ∈ X.pn) (hz : Zc (.ref C) (some dx) p.2) (hf : ∃ vs, p.2.data = .fields vs) (hc : ClsV X.K yc cv) (hk : PySem.W.kitOne X.K (.ref C) cv = some b) (hm : X.mg "isinstance" = none) (ha : PDA X (e :: es) t d) (hg : Gl X "isinstance" := by rfl)
    (hst : starEach (e :: es) X.env = (false, eval e X.env) :: starEach es X.env := by rfl) (hpl : (backTo pos (starEach es X.env)).any (·.1) = false := by rfl) : PR X (.Call (.Name "isinstance" pp) (e :: es) [] pos) (tCB (rIsX X.K C p.1 dx) t) (dCB (isXD C p.1 dx yc b) d) :=
  pr_callB (call_isX T hp hz hf) (simc_isX hc hk) hm (by decide +kernel) ha hg (by decide) (by decide) hst hpl
/-- an own class as a value -/
theorem pd_cls (hm : X.mg x = some (.ref C)) (hg : Gl X x := by rfl) (hdb : (x == ("__debug__" : Str)) = false := by decide) : PD X (.Name x pos) (tC (.ref C)) (dC (.cls C)) := pd_glob hm (by rfl) (fun _ => .cls C) hg hdb
end
/-- e.f, e the exception that the suite holds -/
def dXf (a C dx : Addr) (f : Str) (d : DE) : DE := fun ρ Φ => d ρ fun x ρ1 => match x with
  | .exc _ a' C' dx' fs => a' = a ∧ C' = C ∧ dx' = dx ∧ match fs.lookup f with
    | some y => Φ y ρ1
    | none => False
  | _ => False
theorem RpF.find {K : PySem.W.Frag} {G : Hp} {f : Str} : ∀ {ws : List (Str × V)} {fs : List (Str × D)} {y : D}, RpF K G ws fs → fs.lookup f = some y → ∃ v, ws.lookup f = some v ∧ Rp K G v y
  | _, _, _, .nil, e => by cases e
  | (g, v) :: ws, (_, d) :: fs, y, .cons h r, e => by
    rw [List.lookup_cons] at e ⊢
    cases c : f == g with
    | true =>
      rw [c] at e
      cases e
      exact ⟨v, rfl, h⟩
    | false =>
      rw [c] at e
      exact RpF.find r e
theorem sim_xf {K : PySem.W.Frag} {a C dx : Addr} {f : Str} {t : TE} {d : DE} (h : SimE K t d) : SimE K (tXf a (.ref C) (some dx) C f t) (dXf a C dx f d) := fun {M Z G0 H0 G H σ ρ F Φ Q} A hd k => h A hd fun v x ρ1 F1 G1 H1 A1 e1 r1 q1 => by
  cases r1 with
  | exc h1 h2 h3 =>
    obtain ⟨rfl, rfl, rfl, q⟩ := q1
    split at q
    · rename_i y ey
      obtain ⟨u, hu, ru⟩ := h3.find ey
      exact ⟨rfl, rfl, _, _, u, rfl, A1.gh _ _ h2, hu, k u y ρ1 F1 G1 H1 A1 e1 ru q⟩
    · exact q.elim
  | _ => exact q1.elim
theorem pd_xf {X : Cx} {a C dx : Addr} {oe : Obj} {pn : List (Addr × Obj)} {e : Expr} {te : TE} {d : DE} {pos : Pos} {n : Str} (T : XfC X.K C) (hno : PySem.W.findIn X.K (.ref C) n = some none) (hz : Zc (.ref C) (some dx) oe) (hf : ∃ vs, oe.data = .fields vs) (he : PD (X.suite a ((a, oe) :: pn)) e te d)
    (hb : attributeBase e n X.env (eval e X.env) = eval e X.env := by rfl) : PD (X.suite a ((a, oe) :: pn)) (.Attribute e n pos) (tXf a (.ref C) (some dx) C n te) (dXf a C dx n d) := ⟨pe_xf T hno hz hf he.pe hb, sim_xf he.sim⟩

/-! ### defs called while an exception is handled -/
structure FnE (P : Program) (w : World) (K : PySem.W.Frag) (mg : Str → Option Value) (base : Heap) (k : Nat) (fa : Addr) (fd : FuncData) (ps : List Str) (sp : Addr × Obj → Sp) : Prop where
  len : ∀ p vs H Q E, sp p vs H Q E → vs.length = ps.length
  run : ∀ (p : Addr × Obj) (A : Around) (outer : List Env) (sh : Shared) (H : Hp) (args : Args) (us : List Value) (vs : List V) (Q : VK) (E : XK), L2H.RoomH k A → L2H.Hot1 A p → L2H.PinOk outer H sh p → Env0 P w K mg base A outer sh H → BindsTo sh fd args (ps.zip us) → Vals vs us → sp p vs H Q E →
    codeAny (model P w) A (.call (.ref fa) args) (CR CX0 outer P w H sh Q E) sh
theorem fnE_of {P : Program} {w : World} {K : PySem.W.Frag} {mg : Str → Option Value} {base : Heap} {k : Nat} {fa : Addr} {x qual : Str} {st : Stmt} {fd : FuncData} {N ps : List Str} {sp : Addr × Obj → Sp} (Fn : Fun K x qual st fa fd) (S : FnScope N ps (defScope st)) (len : ∀ p vs H Q E, sp p vs H Q E → vs.length = ps.length)
    (hbody : ∀ (cdv : Value) (p : Addr × Obj) (A : Around) (outer : List Env) (sh : Shared) (H : Hp) (vs : List V) (Q : VK) (E : XK), L2H.Hot1 A p → L2H.RoomH k (A.deeper (envOfC qual (defScope st) sh.heap.objs.size fa cdv)) → sp p vs H Q E →
      ∃ t, PSs (L2H.cxH CX0 P w K mg base N qual (defScope st) fa cdv A outer sh H E p).nox (defBody st) t ∧ t { nx := fun _ H' => Q .non H', rt := Q } (L2.start N vs) H) : FnE P w K mg base (k + 1) fa fd ps sp := by
  obtain ⟨oc, od, kV, doc, pm, an, cdv, ct, osl, rfl, lk, hcd⟩ := Fn.ex
  refine ⟨len, fun p A outer sh H args us vs Q E hr hot hpin e0 hb rv hsp => ?_⟩
  have hl := len _ _ _ _ _ hsp
  have kin : K.In sh.heap := e0.mod.kin.keeps fun b o e => (e0.bs b o e).1
  have lim : sh.heap.NoLimit := e0.mod.nolimit.keeps fun b o e => (e0.bs b o e).1
  have kinds : ∀ y ∈ ps.zip us, (defScope st).names.lookup y.1 = some .local ∨ ((defScope st).names.lookup y.1 = some .cell ∧ ((cellsFrom (sh.heap.objs.size + 1) (defScope st).names []).lookup y.1).isSome = true) := fun ⟨n, v⟩ hy =>
    (S.par n (List.of_mem_zip hy).1).elim .inl fun q => .inr ⟨q, PySem.W.cellsFrom_some _ _ _ (.inl q)⟩
  refine codeAny_call_function hr.depth (kin _ _ lk) rfl S.co S.gen rfl (PySem.W.codeRec_of kin hcd) (hb _ _ _ _ (wpAny_newFunctionEnv_cells S.kind kinds fun env he s1 ic => ?_))
  subst he
  refine ⟨lim.keeps ic.toInCall.keep, codeAny_func ?_⟩
  obtain ⟨t, ht, hq⟩ := hbody cdv p A outer sh H vs Q E hot (hr.deeper _) hsp
  have I := L2H.inv_startH (CX := CX0) (cd := cdv) (mg := mg) (E := E) S hpin e0 hl rv ic
  refine wpAny_mono (ht.nox.run [] s1 (L2.start N vs) H _ I hq) (fun fl s' hs => ?_) fun e s' hs => hs
  have fin : ∀ {σ' : L2.St} {H' : Hp} {v : V} {u : Value}, Inv (L2H.cxH CX0 P w K mg base N qual (defScope st) fa cdv A outer sh H E p) [] σ' H' s' → RelV v u → Q v H' → CE outer P w H sh Q u s' := fun {σ' H' v u} J r q => ⟨v, H', J.os, J.bare, J.base, J.hok, r, q⟩
  cases fl with
  | ret u =>
    obtain ⟨v, σ', H', J, r, q⟩ := hs
    exact fin J r q
  | next =>
    obtain ⟨σ', H', J, q⟩ := hs
    exact fin (v := V.non) (u := Value.none) J rfl q
  | brk => exact hs.choose_spec.choose_spec.2.elim
  | cont => exact hs.choose_spec.choose_spec.2.elim
/-- its promise over data: what is handed in of exceptions is the handled one -/
def SpE (K : PySem.W.Frag) (f : DF) (p : Addr × Obj) : Sp := fun vs H Q _ => ∃ (G : Hp) (ds : List D) (Φ : Sl → Prop), Top G H ∧ RpL K G vs ds ∧ (∀ d ∈ ds, OfPin p d) ∧ f ds Φ ∧
  ∀ v r Fr G' H', Same G G' → SamT G' H H' → Same G' H' → (∀ a, H a ≠ none → G' a = G a) → ResOk K (fun _ => none) H G' H' (fun _ _ => False) v r Fr → Φ r → Q v H'
section
variable {P : Program} {w : World} {K : PySem.W.Frag} {mg : Str → Option Value} {base : Heap} {x qual : Str} {st : Stmt} {fa : Addr} {fd : FuncData} {N ps : List Str} {k : Nat}
theorem okE {f : DF} (b : Addr × Obj → DS) (F : Fun K x qual st fa fd) (S : FnScope N ps (defScope st)) (len : ∀ ds Φ, f ds Φ → ds.length = ps.length)
    (body : ∀ (cdv : Value) (p : Addr × Obj) (A : Around) (outer : List Env) (sh : Shared) (H : Hp) (E : XK), L2H.HotC (L2H.cxH CX0 P w K mg base N qual (defScope st) fa cdv A outer sh H E p).nox → L2H.RoomH k (A.deeper (envOfC qual (defScope st) sh.heap.objs.size fa cdv)) →
      p ∈ (L2H.cxH CX0 P w K mg base N qual (defScope st) fa cdv A outer sh H E p).nox.pn → (∃ ds Φ, (∀ d ∈ ds, OfPin p d) ∧ f ds Φ) → ∃ t, PDSs (L2H.cxH CX0 P w K mg base N qual (defScope st) fa cdv A outer sh H E p).nox (defBody st) t (b p))
    (rd : ∀ p ds Φ, (∀ d ∈ ds, OfPin p d) → f ds Φ → b p (rtV Φ) (slots ds N.length)) : FnE P w K mg base (k + 1) fa fd ps (SpE K f) := by
  refine fnE_of F S (fun p vs H Q E h => ?_) fun cdv p A outer sh H vs Q E hot hr h => ?_
  · obtain ⟨G, ds, Φ, _, r, _, hf, _⟩ := h
    rw [r.length]
    exact len ds Φ hf
  · obtain ⟨G, ds, Φ, gh, r, hp, hf, k⟩ := h
    obtain ⟨t, ht⟩ := body cdv p A outer sh H E ⟨p, hot, List.mem_singleton.mpr rfl⟩ hr (List.mem_singleton.mpr rfl) ⟨ds, Φ, hp, hf⟩
    refine ⟨t, ht.pe, ht.sim (At.start gh r N) (rd p ds Φ hp hf) (fun σ' ρ' F' G' H' A' e q => ?_) (fun v y Fn σ' ρ' F' G' H' A' e r q => ?_) (fun _ _ _ _ _ _ _ z => z.elim) (fun _ _ _ _ _ _ _ z => z.elim)⟩
    · exact k .non (.val .non) (fun _ => False) G' H' e ⟨fun a o h n => A'.h0 a o h n, A'.tb⟩ A'.gh A'.fr (.val .non) q
    · refine k v y Fn G' H' e ⟨fun a o h n => A'.h0 a o h n, A'.tb⟩ A'.gh A'.fr ⟨r.ok, r.na, fun a fa => ?_⟩ q
      obtain ⟨h1, h2, h3, h4, _⟩ := r.fr a fa
      exact ⟨h1, h2, h3, h4, fun _ z => z⟩
end
/-- f(..) there -/
def tCallE (sp : Addr × Obj → Sp) (p : Addr × Obj) (t : TA) : TE := fun σ H Q => t σ H fun vs H1 => sp p vs H1 Q fun _ _ _ => False
theorem pe_callE {X : Cx} {p : Addr × Obj} {k : Nat} {fa : Addr} {fd : FuncData} {ps : List Str} {sp : Addr × Obj → Sp} {x : Str} {e : Expr} {es : List Expr} {t : TA} {q pos : Pos} (Fe : FnE X.prog X.w X.K X.mg X.base k fa fd ps sp) (hr : L2H.RoomH k X.A) (hot : L2H.Hot1 X.A p) (hp : p ∈ X.pn) (hm : X.mg x = some (.ref fa)) (hk : PySem.W.keepIn X.K (.ref fa) = true)
    (hb : Binds X.K fd ps []) (ha : PA X (e :: es) t) (hg : Gl X x := by rfl) (hdb : (x == ("__debug__" : Str)) = false := by decide) (he : starEach (e :: es) X.env = (false, eval e X.env) :: starEach es X.env := by rfl) (hpl : (backTo pos (starEach es X.env)).any (·.1) = false := by rfl) :
    PE X (.Call (.Name x q) (e :: es) [] pos) (tCallE sp p t) := by
  refine ⟨fun pins sh σ H Q I h => ?_⟩
  refine wpAny_Call_Name_kw (ld_glob I hg hm ?_ hdb)
  refine PySem.W.callWith_K (h₀ := X.base) I.ok.mod.kin hk (thn (ha.run pos pins sh σ H _ I h) fun us s1 ⟨vs, H1, I1, r, hs⟩ => ⟨I1.kIn, ?_⟩) he hpl
  have hl : us.length = ps.length := by rw [← r.length]; exact Fe.len _ _ _ _ _ hs
  have b := hb s1 us I1.kIn (by rw [List.append_nil]; exact hl)
  rw [List.append_nil] at b
  have P1 := I1.pin p (List.mem_append_left _ hp)
  refine wpAny_call (codeAny_mono (Fe.run p X.A X.stack s1 H1 ⟨us, []⟩ us vs Q _ hr hot ⟨P1.1, P1.2.1, fun hm => (List.mem_cons.mp (I1.stkSub p.1 hm)).elim P1.2.2.1 P1.2.2.2.1, P1.2.2.2.2⟩ I1.env0 b r hs) fun res s' hq => ?_)
  cases res with
  | error er => exact hq.elim
  | ok fl =>
    cases fl with
    | ret u => exact I1.after hq
    | next => exact False.elim hq
    | brk => exact False.elim hq
    | cont => exact False.elim hq
def dCallE (f : DF) (p : Addr × Obj) (d : DA) : DR := fun ρ Φ => d ρ fun xs ρ1 => (∀ x ∈ xs, OfPin p x) ∧ f xs fun r => Φ r ρ1
theorem sim_callE {K : PySem.W.Frag} {f : DF} {p : Addr × Obj} {t : TA} {d : DA} (h : SimA K t d) : SimR K (tCallE (SpE K f) p t) (dCallE f p d) := by
  intro M Z G0 H0 G H σ ρ F Φ Q A hd k
  refine h A hd fun vs xs ρ1 F1 G1 H1 A1 e1 r1 q1 => ?_
  refine ⟨G1, xs, _, A1.top, r1, q1.1, q1.2, fun v r Fr G2 H2 eG eH eGH old hr q2 => ?_⟩
  have A2 := A1.growT eG eH eGH old
  refine k v r Fr ρ1 F1 G2 H2 A2 (e1.trans eG) ⟨hr.ok, hr.na, fun a fa => ?_⟩ q2
  obtain ⟨h1, h2, h3, _, _⟩ := hr.fr a fa
  refine ⟨h1, h2, ?_, ?_, fun j z => (A1.fp j a z).2.1 h3⟩
  · cases q : H0 a with
    | none => rfl
    | some o => exact absurd h3 (A1.hn a (by rw [q]; exact Option.some_ne_none _))
  · cases q : Z a with
    | none => rfl
    | some o =>
      have := (A1.hz a o q).1
      rw [h3] at this
      cases this
theorem pr_callE {X : Cx} (p : Addr × Obj) {k : Nat} {fa : Addr} {fd : FuncData} {ps : List Str} {f : DF} {x : Str} {e : Expr} {es : List Expr} {t : TA} {d : DA} {q pos : Pos} (Fe : FnE X.prog X.w X.K X.mg X.base k fa fd ps (SpE X.K f)) (hr : L2H.RoomH k X.A) (hot : L2H.Hot1 X.A p) (hp : p ∈ X.pn) (hm : X.mg x = some (.ref fa)) (hk : PySem.W.keepIn X.K (.ref fa) = true)
    (hb : Binds X.K fd ps []) (ha : PDA X (e :: es) t d) (hg : Gl X x := by rfl) (hdb : (x == ("__debug__" : Str)) = false := by decide) (he : starEach (e :: es) X.env = (false, eval e X.env) :: starEach es X.env := by rfl) (hpl : (backTo pos (starEach es X.env)).any (·.1) = false := by rfl) :
    PR X (.Call (.Name x q) (e :: es) [] pos) (tCallE (SpE X.K f) p t) (dCallE f p d) := ⟨pe_callE Fe hr hot hp hm hk hb ha.pe hg hdb he hpl, sim_callE ha.sim⟩
/-- for i in range(n): .. there -/
theorem pd_forRH {X : Cx} {tg : Expr} {e1 : Expr} {t1 : TE} {d1 : DE} {p : Pos} {body : List Stmt} {g : TG} {dg : DG} {t : TS} {b : DS} {pos pos2 : Pos} (hot : L2H.HotC X) (hm : X.mg "range" = none) (h : PD X e1 t1 d1) (hg : PDG X tg g dg) (hb : PDSs X body t b) (hG : Gl X "range" := by rfl)
    (hp : PassesOwn (model X.prog X.w) X.A X.env X.xe := by first | exact PassesOwn.never | assumption) (hs : starEach [e1] X.env = [(false, eval e1 X.env)] := by rfl) (hs1 : starEach (e1 :: []) X.env = (false, eval e1 X.env) :: starEach [] X.env := by rfl)
    (hf : ∀ x, foldedSetIterable (.Call (.Name "range" p) [e1] [] pos) X.env x = pure x := by intro _; rfl) : PDS X (.For tg (.Call (.Name "range" p) [e1] [] pos) body [] pos2) (tFor (iRng1 (tCons t1 tNil)) g t) (dFor (diRng1 d1) dg b) :=
  ⟨L2H.ps_forH hp hot (L2H.pi_range1H hG hm (pa_cons h.pe pa_nil hs1) hs) hg.pg hb.pe hf, sim_for (sim_rng1 h.sim) hg.sim hb.sim⟩
/-- lists alone -/
def diLs (d : DE) : DI := fun ρ Φ => d ρ fun x ρ1 => match x with
  | .lst xs => Φ xs ρ1
  | .rd xs => Φ xs ρ1
  | _ => False
theorem sim_iLs {K : PySem.W.Frag} {tl : TE} {d : DE} (h : SimE K tl d) : SimI K (iList K tl) (diLs d) := by
  intro M Z G0 H0 G H σ ρ F Φ R A hd k
  refine h A hd fun v x ρ1 F1 G1 H1 A1 e1 r1 q1 => ?_
  cases r1 with
  | lst hx px => exact ⟨_, rfl, ⟨_, SqL.of (A1.gh _ _ hx)⟩, k _ _ ρ1 F1 G1 H1 A1 e1 (walkD_of walk_list px fun H2 s => SqL.of (s _ _ hx)) q1⟩
  | rd hx px => exact ⟨_, rfl, ⟨_, same_l A1.gh hx⟩, k _ _ ρ1 F1 G1 H1 A1 e1 (walkD_of walk_list px fun H2 s => same_l s hx) q1⟩
  | _ => exact q1.elim
theorem pr_lcH {X : Cx} {elt tg iter : Expr} {ifs : List Expr} {scope : Scope} {own : List (Str × Nat)} {pos : Pos} {tl : TE} {dl : DE} {g : Shared → Hp → Addr → List (Str × Addr) → List Addr → TG} {dg : DG} {tt : Shared → Hp → Addr → List (Str × Addr) → List Addr → TT} {dt : DT} {te : Shared → Hp → Addr → List (Str × Addr) → List Addr → TE} {de : DE} (hot : L2H.HotC X) (hN : X.N.Nodup) (hi : PD X iter tl dl) (ok : BlkOk X.N X.env.scope scope own)
    (hg : ∀ (s : Shared) (H : Hp) (C : Addr) (cl : List (Str × Addr)) (fp : List Addr), PDG (X.blk s H scope (compEnvC scope cl C X.env) fp) tg (g s H C cl fp) dg) (hm : MonoG (g X.s_0 X.H_0 0 [] [])) (hst : Sets (own.map (·.2)) (g X.s_0 X.H_0 0 [] []))
    (ht : ∀ (s : Shared) (H : Hp) (C : Addr) (cl : List (Str × Addr)) (fp : List Addr), PDTs (X.blk s H scope (compEnvC scope cl C X.env) fp) ifs (tt s H C cl fp) dt) (he : ∀ (s : Shared) (H : Hp) (C : Addr) (cl : List (Str × Addr)) (fp : List Addr), PD (X.blk s H scope (compEnvC scope cl C X.env) fp) elt (te s H C cl fp) de)
    (hgE : ∀ (s : Shared) (H : Hp) (C : Addr) (cl : List (Str × Addr)) (fp : List Addr), g s H C cl fp = g X.s_0 X.H_0 0 [] [] := by intros; rfl) (htE : ∀ (s : Shared) (H : Hp) (C : Addr) (cl : List (Str × Addr)) (fp : List Addr), tt s H C cl fp = tt X.s_0 X.H_0 0 [] [] := by intros; rfl) (heE : ∀ (s : Shared) (H : Hp) (C : Addr) (cl : List (Str × Addr)) (fp : List Addr), te s H C cl fp = te X.s_0 X.H_0 0 [] [] := by intros; rfl)
    (hs : ∀ x, foldedSetIterable iter X.env x = pure x := by intro _; rfl) : PR X (.ListComp elt [⟨tg, iter, ifs, 0⟩] scope pos) (tLc (iList X.K tl) (g X.s_0 X.H_0 0 [] []) (tt X.s_0 X.H_0 0 [] []) (te X.s_0 X.H_0 0 [] []) (own.map (·.2))) (dLc (diLs dl) dg dt de (own.map (·.2))) :=
  ⟨pe_lcHot hot hN hi.pe ok (fun s H C cl fp => hgE s H C cl fp ▸ (hg s H C cl fp).pg) (fun s H C cl fp => htE s H C cl fp ▸ (ht s H C cl fp).pts) (fun s H C cl fp => heE s H C cl fp ▸ (he s H C cl fp).pe) hs,
    sim_lc (sim_iLs hi.sim) (hg X.s_0 X.H_0 0 [] []).sim hm hst (ht X.s_0 X.H_0 0 [] []).sim (he X.s_0 X.H_0 0 [] []).sim⟩

/-! ### try: .. except B as e: .. (its suite returns) -/
def dTry (i : Nat) (C : Addr) (b : DXS) (su : Addr × Obj → Addr → DS) : DS := fun Δ ρ => b (fun C' fs ρ1 => C' = C ∧ free ρ1 i ∧ ∀ (p : Addr × Obj) (dx : Addr), OfPin p (.exc false p.1 C dx fs) → su p dx { Δ with nx := fun _ => False, bk := fun _ => False, ct := fun _ => False } (ρ1.set i (.val (.exc false p.1 C dx fs)))) Δ ρ
theorem takes0N {X : Cx} : L2N.Takes X (fun _ _ _ _ => False) := fun _ _ q => by
  obtain ⟨_, _, _, _, _, _, _, _, _, _, _, _, _, _, _, _, z⟩ := q
  exact z.elim
def tSuite (C : Addr) (tsu : Addr × Obj → Addr → TS) : Addr → Value → Option Addr → TS := fun a cls d D σ H => ∃ dx, cls = .ref C ∧ d = some dx ∧ ∀ oe, L2N.Zn (.ref C) (some dx) oe → (∃ vs, oe.data = .fields vs) → tsu (a, oe) dx D σ H
theorem pd_try {X : Cx} {x n : Str} {B C : Addr} {i : Nat} {body suite : List Stmt} {b0 : Stmt} {np pos pos' : Pos} {tb : List (Addr × Obj) → (Value → Shared → Prop) → WX → TS} {b : DXS} {tsu : Addr → Obj → Addr → List (Addr × Obj) → TS} {su : Addr × Obj → Addr → DS} (nd : X.N.Nodup) (hx : PySem.W.exmOne X.K (.ref C) (.ref B) = some true) (hm : X.mg x = some (.ref B))
    (hb : ∀ (pn : List (Addr × Obj)) (xe : Value → Shared → Prop), PassesOwn (model X.prog X.w) X.A X.env xe → PDXs (X.tr pn xe) body (tb pn xe) b)
    (hsu : ∀ (a : Addr) (oe : Obj) (dx : Addr) (pn : List (Addr × Obj)), Zc (.ref C) (some dx) oe → (∃ vs, oe.data = .fields vs) → L2H.Hot1 (X.suite a ((a, oe) :: pn)).A (a, oe) → PDSs (X.suite a ((a, oe) :: pn)) (b0 :: suite) (tsu a oe dx pn) (su (a, oe) dx))
    (hbE : ∀ pn xe, tb pn xe = tb [] (fun _ _ => False) := by intros; rfl) (hsE : ∀ a oe dx pn, tsu a oe dx pn = tsu a oe dx [] := by intros; rfl)
    (hi : X.N[i]? = some n := by rfl) (hln : X.env.kindOf n = some .local := by rfl) (hs : X.stack = X.env :: X.outer := by rfl) (hf : X.env.frame = some X.env.locals := by rfl) (hg : Gl X x := by rfl) (hdb : (x == ("__debug__" : Str)) = false := by decide) :
    PDS X (.Try body [.ExceptHandler (some (.Name x np)) (some n) (b0 :: suite) pos'] [] [] pos) (fun D σ H => tb [] (fun _ _ => False) (wAs X.K (.ref B) i (tSuite C fun p dx => tsu p.1 p.2 dx []) (fun _ _ _ _ => False) D) D σ H) (dTry i C b su) := by
  refine ⟨L2N.ps_try_as (tb := tb [] fun _ _ => False) hs hf nd hi hln ⟨hg, hdb, .inl hm⟩ takes0N (fun W pn xe tk hp => hbE pn xe ▸ (hb pn xe hp).pe W tk) fun a oe cls d pn hz hv => ⟨fun pins sh σ H D I h => ?_⟩, ?_⟩
  · obtain ⟨dx, rfl, rfl, h⟩ := h
    obtain ⟨vs, hv'⟩ := hv
    refine (hsu a oe dx pn hz.zc ⟨vs, hv'⟩ ⟨rfl, vs, hv', hz.2.2 vs hv'⟩).pe.run pins sh σ H D I ?_
    rw [hsE]
    exact h oe hz ⟨vs, hv'⟩
  · intro M Z G0 H0 G H σ ρ F Δ Q A hd k1 k2 k3 k4
    refine (hb [] (fun _ _ => False) PassesOwn.never).sim A hd k1 k2 k3 k4 fun C' dx ws fs σ' ρ' F' G' H' A' e gd rf q => ?_
    obtain ⟨rfl, fr, q⟩ := q
    obtain ⟨lt, na⟩ := fr.lt
    refine ⟨true, hx, fun _ a ha => ⟨dx, rfl, rfl, fun oe hz hv => ?_⟩, fun z => nomatch z⟩
    obtain ⟨vs, hv'⟩ := hv
    have hr : Rp X.K G' (.ref a) (.exc false a C' dx fs) := .exc (fun z => nomatch z) gd rf
    have A2 := A'.set (i := i) (x := .val (.exc false a C' dx fs)) (v := .ref a) (.val hr) lt na
    refine (hsu a oe dx [] hz.zc ⟨vs, hv'⟩ ⟨rfl, vs, hv', hz.2.2 vs hv'⟩).sim A2 (q (a, oe) dx fun b a' C2 dx2 fs2 z => ?_) (fun _ _ _ _ _ _ _ z => z.elim) (fun v y Fn σ2 ρ2 F2 G2 H2 A2 e2 r2 q2 => k2 v y Fn σ2 ρ2 F2 G2 H2 A2 (e.trans e2) r2 q2) (fun _ _ _ _ _ _ _ z => z.elim) (fun _ _ _ _ _ _ _ z => z.elim)
    cases z
    exact ⟨rfl, hz.zc, vs, hv'⟩
end DL
set_option Elab.async false
set_option linter.all false
set_option maxRecDepth 100000
set_option maxHeartbeats 4000000
namespace DL
open PySem PySem.Spec PyProof.Rows L2
variable [Tabl]

/-- the exceptions' classes -/
structure XA where
  DeckError : Addr
  BadCard : Addr
  BadWish : Addr
  BadWire : Addr
  Unsorted : Addr
  BadText : Addr
def dxOf (p : Addr × Obj) : Addr := p.2.dict.getD 0
theorem dxOf_eq {p : Addr × Obj} {C dx : Addr} (h : Zc (.ref C) (some dx) p.2) : dxOf p = dx := by
  unfold dxOf
  rw [h.2]
  rfl
/-! ### defs called there that look at no exception -/
def tCallEV (sp : Sp) (p : Addr × Obj) (t : TA) : TE := tCallE (fun _ => sp) p t
theorem sim_callEV {K : PySem.W.Frag} {f : DF} {p : Addr × Obj} {t : TA} {d : DA} (h : SimA K t d) : SimR K (tCallEV (SpV K f) p t) (dCall f d) := by
  intro M Z G0 H0 G H σ ρ F Φ Q A hd k
  refine h A hd fun vs xs ρ1 F1 G1 H1 A1 e1 r1 q1 => ?_
  refine ⟨G1, xs, _, A1.top, r1, q1, fun v r Fr G2 H2 eG eH eGH old hr q2 => ?_⟩
  have A2 := A1.growT eG eH eGH old
  refine k v r Fr ρ1 F1 G2 H2 A2 (e1.trans eG) ⟨hr.ok, hr.na, fun a fa => ?_⟩ q2
  obtain ⟨h1, h2, h3, _, _⟩ := hr.fr a fa
  refine ⟨h1, h2, ?_, ?_, fun j z => (A1.fp j a z).2.1 h3⟩
  · cases q : H0 a with
    | none => rfl
    | some o => exact absurd h3 (A1.hn a (by rw [q]; exact Option.some_ne_none _))
  · cases q : Z a with
    | none => rfl
    | some o =>
      have := (A1.hz a o q).1
      rw [h3] at this
      cases this
theorem pr_callEV {X : Cx} (p : Addr × Obj) {k : Nat} {fa : Addr} {fd : FuncData} {ps : List Str} {f : DF} {x : Str} {e : Expr} {es : List Expr} {t : TA} {d : DA} {q pos : Pos} (Fe : FnE X.prog X.w X.K X.mg X.base k fa fd ps (fun _ => SpV X.K f)) (hr : L2H.RoomH k X.A) (hot : L2H.Hot1 X.A p) (hp : p ∈ X.pn) (hm : X.mg x = some (.ref fa)) (hk : PySem.W.keepIn X.K (.ref fa) = true)
    (hb : Binds X.K fd ps []) (ha : PDA X (e :: es) t d) (hg : Gl X x := by rfl) (hdb : (x == ("__debug__" : Str)) = false := by decide) (he : starEach (e :: es) X.env = (false, eval e X.env) :: starEach es X.env := by rfl) (hpl : (backTo pos (starEach es X.env)).any (·.1) = false := by rfl) :
    PR X (.Call (.Name x q) (e :: es) [] pos) (tCallEV (SpV X.K f) p t) (dCall f d) := ⟨pe_callE Fe hr hot hp hm hk hb ha.pe hg hdb he hpl, sim_callEV ha.sim⟩
section
variable {P : Program} {w : World} {K : PySem.W.Frag} {mg : Str → Option Value} {base : Heap} {x qual : Str} {st : Stmt} {fa : Addr} {fd : FuncData} {N ps : List Str} {k : Nat}
theorem okEV {f : DF} {b : DS} (F : Fun K x qual st fa fd) (S : FnScope N ps (defScope st)) (len : ∀ ds Φ, f ds Φ → ds.length = ps.length)
    (body : ∀ (cdv : Value) (p : Addr × Obj) (A : Around) (outer : List Env) (sh : Shared) (H : Hp) (E : XK), L2H.Hot1 (L2H.cxH CX0 P w K mg base N qual (defScope st) fa cdv A outer sh H E p).nox.A p → L2H.RoomH k (A.deeper (envOfC qual (defScope st) sh.heap.objs.size fa cdv)) →
      p ∈ (L2H.cxH CX0 P w K mg base N qual (defScope st) fa cdv A outer sh H E p).nox.pn → ∃ t, PDSs (L2H.cxH CX0 P w K mg base N qual (defScope st) fa cdv A outer sh H E p).nox (defBody st) t b)
    (rd : ∀ ds Φ, f ds Φ → b (rtV Φ) (slots ds N.length)) : FnE P w K mg base (k + 1) fa fd ps (fun _ => SpV K f) := by
  refine fnE_of F S (fun p vs H Q E h => ?_) fun cdv p A outer sh H vs Q E hot hr h => ?_
  · obtain ⟨G, ds, Φ, _, r, hf, _⟩ := h
    rw [r.length]
    exact len ds Φ hf
  · obtain ⟨G, ds, Φ, gh, r, hf, k⟩ := h
    obtain ⟨t, ht⟩ := body cdv p A outer sh H E hot hr (List.mem_singleton.mpr rfl)
    refine ⟨t, ht.pe, ht.sim (At.start gh r N) (rd ds Φ hf) (fun σ' ρ' F' G' H' A' e q => ?_) (fun v y Fn σ' ρ' F' G' H' A' e r q => ?_) (fun _ _ _ _ _ _ _ z => z.elim) (fun _ _ _ _ _ _ _ z => z.elim)⟩
    · exact k .non (.val .non) (fun _ => False) G' H' e ⟨fun a o h n => A'.h0 a o h n, A'.tb⟩ A'.gh A'.fr (.val .non) q
    · refine k v y Fn G' H' e ⟨fun a o h n => A'.h0 a o h n, A'.tb⟩ A'.gh A'.fr ⟨r.ok, r.na, fun a fa => ?_⟩ q
      obtain ⟨h1, h2, h3, h4, _⟩ := r.fr a fa
      exact ⟨h1, h2, h3, h4, fun _ z => z⟩
end
theorem hotC_of {X : Cx} {p : Addr × Obj} (h : L2H.Hot1 X.A p) (hp : p ∈ X.pn) : L2H.HotC X := ⟨p, h, hp⟩

theorem u0_of {k : Nat} {A : Around} (r : L2H.RoomH k A) : A.units < cLine := by
  have := r.un
  omega
theorem u1_of {k : Nat} {A : Around} (r : L2H.RoomH k A) : A.units + 1 < cLine := by
  have := r.un
  omega
theorem u64_of {k : Nat} {A : Around} (r : L2H.RoomH k A) : A.units + 64 < cLine := by
  have := r.un
  omega
theorem u65_of {k : Nat} {A : Around} (r : L2H.RoomH k A) : A.units + 65 < cLine := by
  have := r.un
  omega
theorem room_mark {k : Nat} {A : Around} (r : Room k A) (h : Option Value) : L2H.RoomH k (A.mark h) := ⟨r.dp, r.un⟩
end DL
set_option Elab.async false
set_option linter.all false
set_option maxRecDepth 100000
set_option maxHeartbeats 4000000
namespace DL
open PySem PySem.Spec PyProof.Rows L2
variable [Tabl]

/-! ### tuple * 1, tuple * 0 -/
theorem tmul_one (l : Addr) (its : Array Value) (n : Nat) (dd : Option Addr) (sl : Array (Option Value)) (u : Tok) :
    Meets (Builtin.«tuple.__mul__» ⟨[.ref l, .int 1 u], []⟩) (fun _ R sh => sh.heap.get? l = some { cls := .type "tuple", dict := dd, data := .seq its n, slots := sl } ∧ R (.ok (.ret (Value.ref l))) sh) :=
  .of_wp fun pr wd A R sh h => by
    obtain ⟨hp, gn, dr, tk, os⟩ := sh
    obtain ⟨hl, hR⟩ := h
    have ixi := AutoSeq1.idx_int
    have c1 : (its.isEmpty || (1 : Int) == 1) = true := by simp
    wp_walk using wpAny_loadPart' hl
    repeat (first
      | (refine wpAny_ite_false (decide_eq_false (by simp)) ?_; wp_walk using wpAny_loadPart' hl)
      | (refine wpAny_ite_true (decide_eq_true (by rw [c1])) ?_; wp_walk using wpAny_loadPart' hl))
    exact ⟨_, rfl, hR⟩
theorem tmul_zero (l : Addr) (its : Array Value) (n : Nat) (dd : Option Addr) (sl : Array (Option Value)) (k : Int) (u : Tok) (k0 : k ≤ 0) (klo : -(2 ^ 63) ≤ k) (ne : its.isEmpty = false) :
    Meets (Builtin.«tuple.__mul__» ⟨[.ref l, .int k u], []⟩) (fun _ R sh => sh.heap.get? l = some { cls := .type "tuple", dict := dd, data := .seq its n, slots := sl } ∧
      R (.ok (.ret (Value.ref sh.heap.objs.size))) { sh with heap := sh.heap.push { cls := Value.type "tuple", data := Data.seq #[] }, toks := sh.toks }) :=
  .of_wp fun pr wd A R sh h => by
    obtain ⟨hp, gn, dr, tk, os⟩ := sh
    obtain ⟨hl, hR⟩ := h
    have ixi := AutoSeq1.idx_int
    have c0 : (decide (k < -(2 ^ 63)) || decide (k ≥ 2 ^ 63)) = false := by
      rw [decide_eq_false (by omega), decide_eq_false (by omega)]
      rfl
    have c1 : (its.isEmpty || k == 1) = false := by
      rw [ne, Bool.false_or]
      exact beq_eq_false_iff_ne.mpr (by omega)
    have c2 : (decide (k ≤ 0) || its.isEmpty) = true := by
      rw [decide_eq_true k0]
      rfl
    wp_walk using wpAny_loadPart' hl
    repeat (first
      | (refine wpAny_ite_false (decide_eq_false (by rw [c0]; exact Bool.false_ne_true)) ?_; wp_walk using wpAny_loadPart' hl)
      | (refine wpAny_ite_false (decide_eq_false (by rw [c1]; exact Bool.false_ne_true)) ?_; wp_walk using wpAny_loadPart' hl)
      | (refine wpAny_ite_true (decide_eq_true (by rw [c2])) ?_; wp_walk using wpAny_loadPart' hl))
    exact ⟨_, rfl, hR⟩
def rRep1 (K : PySem.W.Frag) : R2 := fun x y H Q => ∃ l xs, x = .ref l ∧ y = .int 1 ∧ SqT K H l xs ∧ Q (.ref l) H
def rRep0 (K : PySem.W.Frag) : R2 := fun x y H Q => ∃ l xs k, x = .ref l ∧ y = .int k ∧ SqT K H l xs ∧ xs ≠ [] ∧ k ≤ 0 ∧ -1000000 ≤ k ∧ ∀ p, H p = none → Q (.ref p) (upd H p (.tup []))
section
variable {X : Cx}
theorem op_rep1 : OpR X (binaryOp .Mult) (rRep1 X.K) := by
  intro pins sh σ H x y v u Q I rx ry h
  obtain ⟨l, xs, rfl, rfl, hT, q⟩ := h
  cases rx
  obtain ⟨t, rfl⟩ := ry
  obtain ⟨its, r, ⟨⟨cls, dd, data, sl⟩, ho, hc, n, hd⟩, hs⟩ := I.tuple hT
  simp only at hc hd
  subst hc hd
  exact wpAny_binaryOp_repeat_ref (T := "tuple") (U := "int") (by decide) ⟨_, ho, rfl⟩ (fun s' => typeIs_int s' 1 t) noFill_tuple_mul F.fills_int_mul F.slot_int_rmul repeat_tuple F.slot_int_index.lookup
    (call_meets F.slot_int_rmul (typeIs_int sh 1 t) F.entry_int_rmul (F.args_int_rmul_2 _ _) (int_rmul_tuple 1 t l its.toArray n dd sl)
      ⟨ho, rfl, ⟨_, ho, rfl⟩, call_meets F.slot_tuple_mul ⟨_, ho, rfl⟩ F.entry_tuple_mul (F.args_tuple_mul_2 _ _) (tmul_one l its.toArray n dd sl t) ⟨ho, ⟨.ref l, H, I, rfl, q⟩⟩⟩)
theorem op_rep0 : OpR X (binaryOp .Mult) (rRep0 X.K) := by
  intro pins sh σ H x y v u Q I rx ry h
  obtain ⟨l, xs, k, rfl, rfl, hT, hne, k0, klo, q⟩ := h
  cases rx
  obtain ⟨t, rfl⟩ := ry
  obtain ⟨its, r, ⟨⟨cls, dd, data, sl⟩, ho, hc, n, hd⟩, hs⟩ := I.tuple hT
  simp only at hc hd
  subst hc hd
  have hle : its.length = xs.length := r.length.symm
  have hi : its.toArray.isEmpty = false := by
    cases its with
    | nil => exact absurd (List.eq_nil_of_length_eq_zero hle.symm) hne
    | cons a b => rfl
  refine wpAny_binaryOp_repeat_ref (T := "tuple") (U := "int") (by decide) ⟨_, ho, rfl⟩ (fun s' => typeIs_int s' k t) noFill_tuple_mul F.fills_int_mul F.slot_int_rmul repeat_tuple F.slot_int_index.lookup
    (call_meets F.slot_int_rmul (typeIs_int sh k t) F.entry_int_rmul (F.args_int_rmul_2 _ _) (int_rmul_tuple k t l its.toArray n dd sl)
      ⟨ho, rfl, ⟨_, ho, rfl⟩, call_meets F.slot_tuple_mul ⟨_, ho, rfl⟩ F.entry_tuple_mul (F.args_tuple_mul_2 _ _) (tmul_zero l its.toArray n dd sl k t k0 (by omega) hi) ⟨ho, ?_⟩⟩)
  exact ⟨.ref sh.heap.objs.size, _, I.laid (t' := sh.toks) (o := .tup []) (fun b ob z => Heap.get?_push_of_some _ z) (Nat.le_refl _) ⟨Nat.zero_le _, [], .nil, IsTup.new _ _⟩, rfl, q _ (I.hok.fresh (Nat.le_refl _))⟩
end
/-- tuple * int, any -/
def mulTD : D → D → (D → Prop) → Prop
  | .tup xs, .int k, Φ => xs ≠ [] ∧ -1000000 ≤ k ∧ k ≤ 1000 ∧ xs.length ≤ 1000 ∧ Φ (.tup (List.replicate k.toNat xs).flatten)
  | _, _, _ => False
def rMulT (K : PySem.W.Frag) : R2 := fun x y H Q => rRep1 K x y H Q ∨ rRep0 K x y H Q ∨ rRepT K x y H Q
theorem sim_mulT {K : PySem.W.Frag} : SimV2 K (rMulT K) mulTD := by
  intro M Z G0 H0 G H σ ρ F v w x y Φ Q A rx ry hf k
  unfold mulTD at hf
  split at hf
  · rename_i xs n
    obtain ⟨h0, h1, h2, h3, hf⟩ := hf
    cases ry
    cases rx with
    | tup hx px =>
      have hne : ∀ {ws : List V}, RpL K G ws xs → ws ≠ [] := fun p z => h0 ((rpl_nil p).mp z)
      by_cases c1 : n = 1
      · subst c1
        refine .inl ⟨_, _, rfl, rfl, same_t A.gh hx, k _ _ G H A (Same.refl G) (.tup hx ?_) hf⟩
        show RpL K G _ (xs ++ [])
        rw [List.append_nil]
        exact px
      · by_cases c0 : n ≤ 0
        · refine .inr (.inl ⟨_, _, _, rfl, rfl, same_t A.gh hx, hne px, c0, h1, fun p hp => ?_⟩)
          obtain ⟨G2, A2, e2, r2⟩ := A.tup_new hp (.nil : RpL K G [] [])
          have e : (List.replicate n.toNat xs).flatten = [] := by
            rw [show n.toNat = 0 by omega]
            rfl
          rw [e] at hf
          exact k _ _ G2 _ A2 e2 r2 hf
        · refine .inr (.inr ⟨_, _, _, rfl, rfl, same_t A.gh hx, hne px, by omega, h2, by rw [px.length]; exact h3, fun p hp => ?_⟩)
          obtain ⟨G2, A2, e2, r2⟩ := A.tup_new hp (px.rep _)
          exact k _ _ G2 _ A2 e2 r2 hf
  · exact hf.elim
theorem pd_mulT {X : Cx} {a b : Expr} {ta tb : TE} {da db : DE} {pos : Pos} (ha : PD X a ta da) (hb : PD X b tb db) : PD X (.BinOp a .Mult b pos) (tOp (rMulT X.K) ta tb) (dOp mulTD da db) := ⟨pe_op (OpR.or op_rep1 (OpR.or op_rep0 op_repT)) ha.pe hb.pe, sim_op sim_mulT ha.sim hb.sim⟩
end DL
set_option Elab.async false
set_option linter.all false
set_option maxRecDepth 100000
set_option maxHeartbeats 2000000
namespace DL
open PySem PySem.Spec PyProof.Rows L2
variable [Tabl]

/-! ### sorted(rows, key=lambda row: (len(row), row)), rows tuples of ints -/
def keyRow (xs : List Int) : PyData := .tuple [.int xs.length, .tuple (xs.map .int)]
/-- what a lambda of one parameter is to be -/
structure Lam1 (params : Arguments) (scope : Scope) (x : Str) : Prop where
  kind : scope.kind = .function
  co : scope.isCoroutine = false
  gen : scope.isGenerator = false
  nocell : ∀ y ∈ scope.names, y.2 ≠ .cell
  nofree : ∀ y ∈ scope.names, y.2 ≠ .free
  loc : scope.names.lookup x = some .local
  len : scope.names.lookup ("len" : Str) = some .globalImplicit
  bind : ∀ (q : Str) (body : Expr) (cl : List (Str × Addr)) (pm cv ctv v : Value), bindArgs (PySem.W.kla_fn "<lambda>" q params body scope cl pm cv ctv) ⟨[v], []⟩ = pure [(x, v)]
  def0 : ∀ env : Env, defaultsOf params env = ([], [])
abbrev keyBody (x : Str) (k : Nat) (p1 p2 p3 p4 p5 : Pos) : Expr := .Tuple [.Call (.Name "len" p1) [.Name x p2] [] p3, .Name x p4] k p5
theorem reads_ints {h : Heap} : ∀ {vs : List Value} {ns : List Int}, IntsAre vs ns → ReadsAll h vs (ns.map PyData.int) []
  | _, _, .nil => .nil
  | _, _, .cons n t r => .cons (as := []) (.int n t) (reads_ints r)
theorem key_call {prog : Program} {w : World} {A : Around} {s : Shared} {f c1 a : Addr} {qual x : Str} {params : Arguments} {scope : Scope} {cl : List (Str × Addr)} {pm ctv : Value} {mg mb : Str → Option Value} {items : Array Value} {ns : List Int} {k : Nat} {p1 p2 p3 p4 p5 : Pos}
    (L : Lam1 params scope x) (hdx : (x == ("__debug__" : Str)) = false) (dp : A.depth < recursionLimit) (hf : s.heap.get? f = some (PySem.W.kla_obj "<lambda>" qual params (keyBody x k p1 p2 p3 p4 p5) scope cl pm c1 ctv)) (rec : s.heap.CodeRec (.ref c1) qual)
    (g : s.heap.Ns mainGlobals mg) (g0 : mg "len" = none) (b : s.heap.Ns builtinsNs mb) (b0 : mb "len" = some (.builtin "len")) (lim : s.heap.NoLimit) (ht : IsTup s.heap a items) (hi : IntsAre items.toList ns) (hz : items.size ≤ 1000) :
    wpAny (model prog w) A (call (.ref f) [.ref a]) (PySem.W.KeyPure (keyRow ns) s) (fun _ _ => False) s := by
  have rc : codeAny (model prog w) A (.call (.ref f) ⟨[.ref a], []⟩) (fun r s' => ∃ u, r = .ok (.ret u) ∧ PySem.W.KeyPure (keyRow ns) s u s') s := by
    refine PySem.W.kla_callFunE dp hf rfl L.co L.gen rfl rec ?_
    rw [L.bind]
    refine wpAny_pure (wpAny_newFunctionEnv L.nocell (fun y hy => ?_) (fun h1 hns hsb => ⟨lim.fresh _ hsb, ?_⟩) L.kind)
    · rw [List.mem_singleton.mp hy]
      exact L.loc
    have kp : ∀ b o, s.heap.get? b = some o → h1.get? b = some o := fun b o e =>
      hsb.extBut b o (Nat.ne_of_lt (Heap.lt_size e)) (Heap.get?_push_of_some _ e)
    refine PySem.W.kla_codeExpr (wpAny_Tuple_spliced ?_)
    have vx : ∀ {Q : Value → Shared → Prop} {E : Value → Shared → Prop} {A' : Around} {t : Nat} {p : Pos}, Q (.ref a) { s with heap := h1, toks := t } →
        wpAny (model prog w) A' (eval (.Name x p) (PySem.W.envX qual scope s.heap.objs.size f (.ref c1) cl)) Q E { s with heap := h1, toks := t } := fun {Q E A' t p} hq =>
      wpAny_Name (wpAny_loadName_local L.kind L.loc hns (v := .ref a) (by simp) hq) hdx
    refine Calls.spliced_cons (wpAny_Call_Name_kw (Calls.Name_function_global L.kind L.len (Calls.loadGlobal_builtin (g.keeps kp) g0 (b.keeps kp) b0 ?_)))
    refine PyProof.Rows.callWith_builtin1 (Calls.spliced_cons (vx (Calls.spliced_nil ?_)))
    refine len_tuple (let ⟨o, e, q⟩ := ht; ⟨o, kp _ _ e, q⟩) (by omega) ?_
    refine Calls.spliced_cons (vx (Calls.spliced_nil ⟨by rw [sizeLine_eq]; simp, _, rfl, _, _, rfl, fun b o e => Heap.get?_push_of_some _ (kp b o e), ?_⟩))
    have hn : (items.size : Int) = ns.length := by
      have := hi.length
      rw [Array.length_toList] at this
      rw [this]
    obtain ⟨o, e, q1, n, q2⟩ := ht
    refine .tuple (as := []) (Heap.get?_push_size _ rfl) rfl rfl ?_
    show ReadsAll _ [.int items.size _, .ref a] [.int ns.length, .tuple (ns.map .int)] []
    rw [hn]
    refine .cons (as := []) (.int _ _) (.cons (as := []) (bs := []) ?_ .nil)
    exact .tuple (Heap.get?_push_of_some _ (kp _ _ e)) q1 q2 (reads_ints hi)
  refine wpAny_call (codeAny_mono rc fun r s1 hq => ?_)
  obtain ⟨u, rfl, hq⟩ := hq
  exact hq

/-! ### a lambda is made -/
/-- the table at P with one more code object at c1 -/
def tabMore (P : Addr) (q : Str) (pos : Pos) (ps : Array Value) (c1 : Addr) (H : Hp) : Hp := upd (upd H P (.tbl (ps ++ #[rawInt pos.line, rawInt pos.col, .ref c1]))) c1 (LamX.CodeO c1 q)
def tMkLam (P : Addr) (q : Str) (pos : Pos) (k : Hp → Prop) : Hp → Prop := fun H => ∃ ps : Array Value, H P = some (.tbl ps) ∧ TriplesOk ps.toList ∧ (∀ (ps1 : Pos) (cv : Value), codeAmong ps1 ps.toList = some cv → ∃ c1, cv = .ref c1 ∧ H c1 = some (LamX.CodeO c1 q)) ∧
  ((∃ cv, codeAmong pos ps.toList = some cv) → k H) ∧ (codeAmong pos ps.toList = none → ∀ c1, H c1 = none → k (tabMore P q pos ps c1 H))
section
variable {X : Cx} {pins : List (Addr × Obj)} {σ : L2.St} {H : Hp} {s : Shared}
/-- the function object that a lambda makes -/
abbrev lamObj (X : Cx) (params : Arguments) (body : Expr) (scope : Scope) (pm : Value) (c1 : Addr) (ctv : Value) : Obj :=
  PySem.W.kla_obj "<lambda>" (X.env.qual ++ "<lambda>") params body scope (cloFrom X.env.cells scope.names []) pm c1 ctv
theorem mk_lam {c P : Addr} {params : Arguments} {body : Expr} {scope : Scope} {pos : Pos} {E Q : Value → Shared → Prop} {k : Hp → Prop} (I : Inv X pins σ H s) (TB : LamX.TabB X.base X.mg c P) (hc : X.env.code = .ref c)
    (hdef : defaultsOf params X.env = ([], [])) (hfree : ∀ y ∈ scope.names, y.2 = .free → ∃ c, X.env.cells.lookup y.1 = some c) (h : tMkLam P (X.env.qual ++ "<lambda>") pos k H)
    (fin : ∀ (f c1 : Addr) (pm ctv : Value) (H1 : Hp) (s1 : Shared), Inv X pins σ H1 s1 → k H1 → s1.heap.get? f = some (lamObj X params body scope pm c1 ctv) → H1 f = none → f ∉ frs X.stack → H1 c1 = some (LamX.CodeO c1 (X.env.qual ++ "<lambda>")) → Q (.ref f) s1) :
    wpAny (model X.prog X.w) X.A (eval (.Lambda params body scope pos) X.env) Q E s := by
  obtain ⟨ps, tP, ok, al, kh, kn⟩ := h
  have objP : s.heap.get? P = some { cls := .none, data := .fields ps } := I.hok P _ tP
  have far : ∀ f, s.heap.objs.size ≤ f → f ∉ frs X.stack := fun f hf z =>
    (List.mem_cons.mp (I.stkSub _ z)).elim (fun e => by
      have lt := I.lt
      rw [← e] at lt
      exact Nat.lt_irrefl _ (Nat.lt_of_lt_of_le lt hf)) (I.nofs hf)
  refine PySem.W.kla_eval hdef ?_
  rcases e0 : codeAmong pos ps.toList with _ | cv
  · refine PySem.W.kla_makeFunction (closure_ok hfree) I.ok.glob (I.mod.glob.keeps I.bk) hc (TB.code.keeps I.bk) objP ok e0 TB.gP (TB.bm.keeps I.bk)
      fun c1 ctv h1 tk old big less rc tab => ?_
    obtain ⟨c2, oc, vs, t, ec, g1, g2, g3⟩ := rc
    obtain rfl : c1 = c2 := by injection ec
    have fr1 := I.hok.fresh big
    have push : ∀ {b o}, h1.get? b = some o → (h1.push (lamObj X params body scope ((X.mg "__name__").getD .none) c1 ctv)).get? b = some o := fun e => Heap.get?_push_of_some _ e
    have J := LamX.inv_table (t' := tk) I tP (fun b o hb e => push (old b o hb e)) (push tab) big ⟨oc, vs, t, push g1, g2, g3⟩
    refine fin h1.objs.size c1 ((X.mg "__name__").getD .none) ctv _ _ J (kn e0 c1 fr1) (Heap.get?_push_size _ rfl) ?_ (far _ (Nat.le_trans big (Nat.le_of_lt less))) upd_same
    have below : s.heap.objs.size ≤ h1.objs.size := Nat.le_trans big (Nat.le_of_lt less)
    rw [upd_ne (Nat.ne_of_gt less), upd_ne (Nat.ne_of_gt (Nat.lt_of_lt_of_le (Heap.lt_size objP) below))]
    exact I.hok.fresh below
  · obtain ⟨c1, rfl, at1⟩ := al pos cv e0
    refine PySem.W.kla_makeFunctionHit (closure_ok hfree) I.ok.glob (I.mod.glob.keeps I.bk) hc (TB.code.keeps I.bk) objP ok e0 (TB.bm.keeps I.bk)
      fun ctv h1 tk old big => ?_
    refine fin h1.objs.size c1 ((X.mg "__name__").getD .none) ctv H _ (I.kept fun b o e => Heap.get?_push_of_some _ (old b o e)) (kh ⟨_, e0⟩) (Heap.get?_push_size _ rfl) (I.hok.fresh big) (far _ big) at1
end
/-- .., in the calculus -/
theorem At.mkLam {K : PySem.W.Frag} {M : Addr → Prop} {Z G0 H0 G H : Hp} {σ : L2.St} {ρ : List Sl} {F : Nat → Addr → Prop} {P : Addr} {q : Str} {pos : Pos} {k : Hp → Prop} (A : At K M Z G0 H0 G H σ ρ F) (hT : (P, q) ∈ Tabl.T) (hu : ∀ p ∈ Tabl.T, p.1 = P → p.2 = q)
    (fin : ∀ G1 H1, At K M Z G0 H0 G1 H1 σ ρ F → Same G G1 → k H1) : tMkLam P q pos k H := by
  obtain ⟨gP, ps, tP, ok, al⟩ := A.tb _ hT
  refine ⟨ps, tP, ok, fun ps1 cv e => ?_, fun _ => fin G H A (Same.refl G), fun e0 c1 n1 => ?_⟩
  · obtain ⟨c1, e1, e2⟩ := al ps1 cv e
    exact ⟨c1, e1, A.gh _ _ e2⟩
  have nP : P ≠ c1 := ne_of_none tP n1
  have gn : G c1 = none := A.gh.free n1
  have eG : Same G (upd G c1 (LamX.CodeO c1 q)) := fun a u h => by rw [upd_ne (ne_of_none h gn)]; exact h
  have isP : IsTab P := ⟨_, hT, rfl⟩
  have kT : ∀ a o, H a = some o → ¬ IsTab a → tabMore P q pos ps c1 H a = some o := fun a o h nt => by
    unfold tabMore
    rw [upd_ne (ne_of_none h n1), upd_ne fun z => nt (by rw [z]; exact isP)]
    exact h
  refine fin (upd G c1 (LamX.CodeO c1 q)) _ (A.growT eG ⟨kT, fun p hp => ?_⟩ (fun a u h => ?_) fun a h => upd_ne fun z => h (by rw [z]; exact n1)) eG
  · obtain ⟨g1, ps1, g2, g3, g4⟩ := A.tb p hp
    have pc : p.1 ≠ c1 := ne_of_none g2 n1
    refine ⟨by rw [upd_ne pc]; exact g1, ?_⟩
    by_cases e : p.1 = P
    · have e2 := hu p hp e
      rw [e, e2]
      refine ⟨_, by unfold tabMore; rw [upd_ne nP, upd_same], by simpa using TriplesOk_snoc _ _ _ _ ok, fun ps2 cv h2 => ?_⟩
      have h3 : codeAmong ps2 (ps.toList ++ [rawInt pos.line, rawInt pos.col, .ref c1]) = some cv := by simpa using h2
      rcases LamX.among_app _ ok h3 with z | z
      · obtain ⟨c2, f1, f2⟩ := al ps2 cv z
        exact ⟨c2, f1, eG _ _ f2⟩
      · exact ⟨c1, z, upd_same⟩
    · refine ⟨ps1, by unfold tabMore; rw [upd_ne pc, upd_ne e]; exact g2, g3, fun ps2 cv h2 => ?_⟩
      obtain ⟨c2, f1, f2⟩ := g4 ps2 cv h2
      exact ⟨c2, f1, eG _ _ f2⟩
  · by_cases ha : a = c1
    · subst ha
      rw [upd_same] at h
      unfold tabMore
      rw [upd_same]
      exact h
    · rw [upd_ne ha] at h
      exact kT a u (A.gh a u h) fun z => by
        rw [(A.tb.at z).1] at h
        cases h

/-! ### the sort -/
abbrev keyLe : Addr × List Int → Addr × List Int → Bool := PySem.W.dataLe false fun b => keyRow b.2
def RowsAt (K : PySem.W.Frag) (a : Addr) (bs : List (Addr × List Int)) (H : Hp) : Prop := SqL K H a (bs.map fun b => V.ref b.1) ∧ ∀ b ∈ bs, SqT K H b.1 (b.2.map V.int) ∧ b.2.length ≤ 1000
def tSortK (K : PySem.W.Frag) (P : Addr) (q : Str) (lpos : Pos) (te : TE) : TE := fun σ H Q => te σ H fun v H1 => ∃ (a : Addr) (bs : List (Addr × List Int)), v = .ref a ∧
  tMkLam P q lpos (fun H2 => RowsAt K a bs H2 ∧ ∀ p, H2 p = none → Q (.ref p) (upd H2 p (.lst ((bs.mergeSort keyLe).map fun b => V.ref b.1)))) H1
theorem keyRow_alike (xs ys : List Int) : PySem.W.alike (keyRow xs) (keyRow ys) = true := by
  unfold keyRow
  simp [PySem.W.alike, PySem.W.alikeAll, PySem.W.alike_ints]
theorem vals_refs : ∀ {bs : List (Addr × List Int)} {its : List Value}, Vals (bs.map fun b => V.ref b.1) its → PySem.W.EachIs (fun v b => v = Value.ref b.1) its bs
  | [], _, r => by
    cases r
    exact .nil
  | b :: bs, _, r => by
    cases r with
    | cons h t => exact .cons h (vals_refs t)
theorem refs_vals : ∀ {bs : List (Addr × List Int)} {its : List Value}, PySem.W.EachIs (fun v b => v = Value.ref b.1) its bs → Vals (bs.map fun b => V.ref b.1) its
  | _, _, .nil => .nil
  | _, _, .cons h t => .cons h (refs_vals t)
section
variable {X : Cx} {x : Str} {k : Nat} {params : Arguments} {scope : Scope} {c P : Addr} {e : Expr} {te : TE} {p kp pos lpos p1 p2 p3 p4 p5 : Pos}
theorem pe_sortK (hu : X.A.units + 64 < cLine) (dp : X.A.depth < recursionLimit) (hm : X.mg "sorted" = none) (hm2 : X.mg "len" = none) (L : Lam1 params scope x) (TB : LamX.TabB X.base X.mg c P) (hc : X.env.code = .ref c) (he : PE X e te)
    (hg : Gl X "sorted" := by rfl) (hdx : (x == ("__debug__" : Str)) = false := by decide)
    (hst : starEach [e] X.env = (false, eval e X.env) :: starEach [] X.env := by rfl) :
    PE X (.Call (.Name "sorted" p) [e] [⟨some "key", .Lambda params (keyBody x k p1 p2 p3 p4 p5) scope lpos, kp⟩] pos) (tSortK X.K P (X.env.qual ++ "<lambda>") lpos te) := by
  refine ⟨fun pins s σ H Q I h => ?_⟩
  refine wpAny_Call_Name_kw (ld_blt I hg hm boot_sorted ?_)
  have hst2 : backTo pos (starEach [e] X.env) = (false, eval e X.env) :: backTo pos (starEach [] X.env) := by rw [hst]; rfl
  refine PyProof.Rows.callWith_kw ?_ hst2 (by rw [hst2]; rfl) rfl rfl
  rw [hst2]
  refine Calls.spliced_cons (thn (he.run pins s σ H _ I h) fun v s1 ⟨v', H1, I1, r1, a, bs, ev, h1⟩ => Calls.spliced_nil ?_)
  subst ev
  obtain rfl : v = Value.ref a := r1
  refine PyProof.Rows.kws_cons (mk_lam I1 TB hc (L.def0 _) (fun y hy z => absurd z (L.nofree y hy)) h1 fun f c1 pm ctv H2 s2 I2 ⟨⟨rl, rt⟩, fin⟩ of nf _ co => PyProof.Rows.kws_nil ?_)
  show wpAny _ _ (call (.builtin "sorted") [.ref a] [(Str.ofString "key", .ref f)]) _ _ s2
  obtain ⟨its, rv, pl, hz⟩ := I2.list rl
  rw [List.length_map] at hz
  obtain ⟨⟨oc, us, t, g1, g2, g3⟩, _, _⟩ := I2.hok c1 _ co
  obtain ⟨mb, b1, b2⟩ := I2.mod.blt
  have b3 : mb "len" = some (.builtin "len") := (b2 _ (by decide)).trans PySem.boot_len
  refine PySem.W.sorted_key_data (b := false) (vs := its) (bs := bs) (R := fun v b => v = Value.ref b.1) (fun b => keyRow b.2) pl.isList (vals_refs rv) (PySem.W.AllAlike.of fun _ _ => keyRow_alike _ _) (PySem.W.Sortable.tuples fun _ => ⟨_, _, rfl⟩) hz
    (fun b hb => ?_) (ksk_s1 _ _) (fun _ => ksk_l1 _ _) (fun y => ksk_t1 f y) (fun v b hv hb h' tk kp => ?_) fun out cc h' tk kp fr at_ len eo => ?_
  · have hd : (keyRow b.2).depth = 2 := by simp [keyRow, PyData.depth, PyData.depthAll, PySem.W.depth_ints]
    omega
  · subst hv
    obtain ⟨rt1, rt2⟩ := rt b hb
    obtain ⟨js, rj, ht, _⟩ := I2.tuple rt1
    have hi := rj.ints
    refine key_call (s := { s2 with heap := h', toks := tk }) (ns := b.2) (mb := mb) L hdx (by show X.A.depth < _; exact dp) (kp _ _ of) ⟨c1, oc, us, t, rfl, kp _ _ g1, g2, g3⟩ ((I2.mod.glob.keeps I2.bk).keeps kp) hm2 ((b1.keeps I2.bk).keeps kp) b3 (I2.nolimit.keeps kp)
      (let ⟨o, e, q⟩ := ht; ⟨o, kp _ _ e, q⟩) (by simpa using hi) ?_
    have q := hi.length
    rw [List.size_toArray]
    omega
  · have hl : (bs.mergeSort keyLe).length ≤ sizeLine := by rw [List.length_mergeSort]; exact hz
    have nf2 : H2 (s2.heap.objs.size + 1) = none := I2.hok.fresh (Nat.le_succ _)
    exact ⟨.ref _, upd H2 (s2.heap.objs.size + 1) (.lst ((bs.mergeSort keyLe).map fun b => V.ref b.1)), I2.laid (t' := tk) kp (Nat.le_succ _) ⟨by rw [List.length_map]; exact hl, out, cc, refs_vals eo, at_⟩, rfl, fin _ nf2⟩
end

/-! ### over data -/
def rowD (r : List Int) : D := .tup (r.map .int)
/-- by length, then by the places -/
def sortRows (rows : List (List Int)) : List (List Int) := rows.mergeSort (PySem.W.dataLe false keyRow)
def dSortK (d : DE) : DR := fun ρ Φ => d ρ fun x ρ1 => ∃ rows : List (List Int), x = .lst (rows.map rowD) ∧ (∀ r ∈ rows, r.length ≤ 1000) ∧ Φ (.own ((sortRows rows).map rowD)) ρ1
theorem rpl_rowI {K : PySem.W.Frag} {G : Hp} : ∀ {vs : List V} {r : List Int}, RpL K G vs (r.map D.int) → vs = r.map V.int
  | _, [], h => by cases h; rfl
  | _, i :: r, h => by
    cases h with
    | cons h1 h2 =>
      cases h1
      rw [rpl_rowI h2]
      rfl
theorem rows_at {K : PySem.W.Frag} {G : Hp} : ∀ {vs : List V} {rows : List (List Int)}, RpL K G vs (rows.map rowD) → ∃ bs : List (Addr × List Int), vs = bs.map (fun b => V.ref b.1) ∧ bs.map (·.2) = rows ∧ ∀ b ∈ bs, SqT K G b.1 (b.2.map V.int)
  | _, [], h => by
    cases h
    exact ⟨[], rfl, rfl, fun b hb => nomatch hb⟩
  | _, r :: rows, h => by
    cases h with
    | cons h1 h2 =>
      obtain ⟨bs, e1, e2, e3⟩ := rows_at h2
      have h1' : Rp K G _ (D.tup (r.map .int)) := h1
      cases h1' with
      | tup hx px =>
        rename_i a xs
        rw [rpl_rowI px] at hx
        refine ⟨(a, r) :: bs, by rw [e1]; rfl, by rw [List.map_cons, e2], fun b hb => ?_⟩
        rcases List.mem_cons.mp hb with z | z
        · rw [z]
          exact hx
        · exact e3 b z
theorem int_rpl {K : PySem.W.Frag} {G : Hp} : ∀ r : List Int, RpL K G (r.map V.int) (r.map D.int)
  | [] => .nil
  | i :: r => .cons (.int i) (int_rpl r)
theorem sorted_rpl {K : PySem.W.Frag} {G : Hp} : ∀ {bs : List (Addr × List Int)}, (∀ b ∈ bs, SqT K G b.1 (b.2.map V.int)) → RpL K G (bs.map fun b => V.ref b.1) ((bs.map (·.2)).map rowD)
  | [], _ => .nil
  | b :: bs, h => .cons (.tup (h b List.mem_cons_self) (int_rpl _)) (sorted_rpl fun c hc => h c (List.mem_cons_of_mem _ hc))
theorem sim_sortK {K : PySem.W.Frag} {P : Addr} {q : Str} {lpos : Pos} {te : TE} {d : DE} (hT : (P, q) ∈ Tabl.T) (hu : ∀ p ∈ Tabl.T, p.1 = P → p.2 = q) (h : SimE K te d) : SimR K (tSortK K P q lpos te) (dSortK d) := by
  intro M Z G0 H0 G H σ ρ F Φ Q A hd k
  refine h A hd fun v x ρ1 F1 G1 H1 A1 e1 r1 ⟨rows, ex, hl, q1⟩ => ?_
  subst ex
  cases r1 with
  | lst hx px =>
    rename_i a vs
    obtain ⟨bs, eb1, eb2, eb3⟩ := rows_at px
    subst eb1
    refine ⟨a, bs, rfl, A1.mkLam hT hu fun G2 H2 A2 e2 => ⟨⟨SqL.of (A2.gh _ _ (e2 _ _ hx)), fun b hb => ⟨same_t A2.gh (same_t e2 (eb3 b hb)), ?_⟩⟩, fun p hp => ?_⟩⟩
    · exact hl _ (by rw [← eb2]; exact List.mem_map_of_mem hb)
    have em : (bs.mergeSort keyLe).map (·.2) = sortRows rows := by
      unfold sortRows
      rw [← eb2]
      exact List.map_mergeSort fun a _ b _ => rfl
    have rl : RpL K G2 ((bs.mergeSort keyLe).map fun b => V.ref b.1) ((sortRows rows).map rowD) := by
      rw [← em]
      exact sorted_rpl fun b hb => same_t e2 (eb3 b ((List.mergeSort_perm _ _).mem_iff.mp hb))
    obtain ⟨A3, r3⟩ := A2.lst_new hp rl
    exact k _ _ _ ρ1 F1 G2 _ A3 (e1.trans e2) r3 q1
section
variable {X : Cx} {x : Str} {k : Nat} {params : Arguments} {scope : Scope} {c P : Addr} {e : Expr} {te : TE} {d : DE} {p kp pos lpos p1 p2 p3 p4 p5 : Pos}
theorem pr_sortK (hu : X.A.units + 64 < cLine) (dp : X.A.depth < recursionLimit) (hm : X.mg "sorted" = none) (hm2 : X.mg "len" = none) (L : Lam1 params scope x) (TB : LamX.TabB X.base X.mg c P) (hc : X.env.code = .ref c)
    (hT : (P, X.env.qual ++ "<lambda>") ∈ Tabl.T) (hun : ∀ p ∈ Tabl.T, p.1 = P → p.2 = X.env.qual ++ "<lambda>") (he : PD X e te d)
    (hg : Gl X "sorted" := by rfl) (hdx : (x == ("__debug__" : Str)) = false := by decide)
    (hst : starEach [e] X.env = (false, eval e X.env) :: starEach [] X.env := by rfl) :
    PR X (.Call (.Name "sorted" p) [e] [⟨some "key", .Lambda params (keyBody x k p1 p2 p3 p4 p5) scope lpos, kp⟩] pos) (tSortK X.K P (X.env.qual ++ "<lambda>") lpos te) (dSortK d) :=
  ⟨pe_sortK hu dp hm hm2 L TB hc he.pe hg hdx hst, sim_sortK hT hun he.sim⟩
end
end DL
set_option Elab.async false
set_option linter.all false
set_option maxRecDepth 100000
set_option maxHeartbeats 2000000
namespace DL
open PySem PySem.Spec PyProof.Rows L2
variable [Tabl]

theorem dp_of {k : Nat} {A : Around} (hr : Room k A) : A.depth < recursionLimit := by
  have := hr.dp
  omega
/-- the name of the code objects that q's lambdas have -/
abbrev lamQ (q : Str) : Str := (q ++ (".<locals>." : Str)) ++ ("<lambda>" : Str)
/-- what is known of the table of the def q, whose code object stands at c -/
structure TabOf (q : Str) (d : FuncData) (c P : Addr) : Prop where
  code : d.code = .ref c
  mem : (P, lamQ q) ∈ Tabl.T
  uniq : ∀ p ∈ Tabl.T, p.1 = P → p.2 = lamQ q
section
variable {P : Program} {w : World} {K : PySem.W.Frag} {mg : Str → Option Value} {base : Heap} {x qual : Str} {st : Stmt} {fa c : Addr} {fd : FuncData} {N ps : List Str} {k : Nat} {b : DS}
/-- a def that makes lambdas: its code object is known -/
theorem okVT {f : DF} (F : Fun K x qual st fa fd) (hc : fd.code = .ref c) (S : FnScope N ps (defScope st)) (len : ∀ ds Φ, f ds Φ → ds.length = ps.length)
    (body : ∀ (A : Around) (outer : List Env) (s : Shared) (H : Hp) (E : XK), Room k (A.deeper (envOfC qual (defScope st) s.heap.objs.size fa (.ref c))) → ∃ t, PDSs (cxOf CX0 P w K mg base N qual (defScope st) fa (.ref c) A outer s H E).nox (defBody st) t b)
    (rd : ∀ ds Φ, f ds Φ → b (rtV Φ) (slots ds N.length)) : FnOk P w K mg base CX0 (k + 1) fa fd ps (SpV K f) := by
  obtain ⟨oc, od, kV, doc, pm, an, cdv, ct, osl, rfl, lk, hcd⟩ := F.ex
  have hc2 : cdv = .ref c := hc
  subst hc2
  refine fn_of lk hcd S (fun vs H Q E h => ?_) fun A outer s H vs Q E hr h => ?_
  · obtain ⟨G, ds, Φ, _, r, hf, _⟩ := h
    rw [r.length]
    exact len ds Φ hf
  · obtain ⟨G, ds, Φ, gh, r, hf, k⟩ := h
    obtain ⟨t, ht⟩ := body A outer s H E hr
    refine ⟨t, ht.pe.nox, ht.sim (At.start gh r N) (rd ds Φ hf) (fun σ' ρ' F' G' H' A' e q => ?_) (fun v y Fn σ' ρ' F' G' H' A' e r q => ?_) (fun _ _ _ _ _ _ _ z => z.elim) (fun _ _ _ _ _ _ _ z => z.elim)⟩
    · exact k .non (.val .non) (fun _ => False) G' H' e ⟨fun a o h n => A'.h0 a o h n, A'.tb⟩ A'.gh A'.fr (.val .non) q
    · refine k v y Fn G' H' e ⟨fun a o h n => A'.h0 a o h n, A'.tb⟩ A'.gh A'.fr ⟨r.ok, r.na, fun a fa => ?_⟩ q
      obtain ⟨h1, h2, h3, h4, _⟩ := r.fr a fa
      exact ⟨h1, h2, h3, h4, fun _ z => z⟩
end
end DL
set_option Elab.async false
set_option linter.all false
set_option maxRecDepth 100000
set_option maxHeartbeats 4000000
namespace DL
open PySem PySem.Spec PyProof.Rows L2
variable [Tabl]

/-! ### sorted(set(xs)), xs a list or a tuple of ints -/
abbrev set0 (w : World) : Obj := { cls := .type "set", dict := none, data := .set #[] 0 (.fresh 0 0 (!w.params.followText "set-order")) }
section
variable {P : Program} {w : World} {A : Around} {E : Value → Shared → Prop} {s : Shared}
set_option maxHeartbeats 6400000 in
/-- set(xs), xs a list of ints -/
theorem set_of_list {l : Addr} {its : Array Value} (ns : List Int) {Q : Value → Shared → Prop} (calm : A.handled = none) (hl : s.heap.IsList l its) (isI : IntsAre its.toList ns) (few : ns.length + 1 < scanBound)
    (fin : ∀ (g : Heap) (tk c : Nat), SetR w g s.heap.objs.size (fun j => decide (j ∈ ns)) c → c ≤ ns.length → (∀ b o, s.heap.get? b = some o → g.get? b = some o) → Q (.ref s.heap.objs.size) { s with heap := g, toks := tk }) :
    wpAny (model P w) A (call (.type "set") [.ref l]) Q E s := by
  have size_eq : its.size = ns.length := by
    have := isI.length
    rwa [Array.length_toList] at this
  have made := F.called_set.made
  have issub := F.called_set.sub
  have ⟨mc, mt, mro⟩ := F.called_set.mro
  refine wpAny_call (codeAny_of_tree ?_)
  show wpAny _ _ (callAny (.type "set") _) _ _ _
  refine wpAny_pure ⟨Code.quiet_builtin _ (by decide +kernel), codeAny_builtin F.entry_type_call ?_⟩
  rw [Around.under_plain (weight_type_call_type "set" [.ref l] []) rfl]
  have f1 := F.called_set.notType
  have f2 := F.called_set.canCreate
  have f3 := F.typeCall_set_1 (.ref l)
  repeat (any_goals (first | assumption | wp_step))
  refine codeAny_mono (code_set_led1 (.ref l) (E := E)
    (Q₁ := fun v s1 => v = .ref s.heap.objs.size ∧ s1 = { s with heap := s.heap.push (set0 w) }) ⟨rfl, rfl⟩) fun r s1 hr => ?_
  rcases r with e | fl
  · exact hr
  cases fl <;> first | exact hr.elim | skip
  · obtain ⟨rfl, rfl⟩ := hr
    have at0 : (s.heap.push (set0 w)).get? s.heap.objs.size = some (set0 w) := Heap.get?_push_size _ rfl
    have ty : Shared.TypeIs { s with heap := s.heap.push (set0 w) } (.ref s.heap.objs.size) "set" := ⟨_, at0, rfl⟩
    have look := F.called_set.init.lookup
    have bound := F.called_set.init.bind (.ref s.heap.objs.size)
    repeat (any_goals (first | assumption | wp_step))
    refine codeAny_mono (codeAny_call_builtin (R := wants (fun r s2 => r = .none ∧ ∃ g tk c, s2 = { s with heap := g, toks := tk } ∧ SetR w g s.heap.objs.size (fun j => decide (j ∈ ns)) c ∧ c ≤ ns.length ∧
      (∀ b o, s.heap.get? b = some o → g.get? b = some o)) E) F.called_set.init.plain F.entry_set_init (check_set_init_1 ty ?_)) fun r s2 hr => ?_
    · obtain ⟨⟨oc, od, odata, osl⟩, lo, lc, ln, ld⟩ := hl
      simp only at lc ld
      subst lc
      subst ld
      have lo1 : (s.heap.push (set0 w)).get? l = some { cls := .type "list", dict := od, data := .seq its ln, slots := osl } := Heap.get?_push_of_some _ lo
      have n1 := F.sub_list_set
      have n2 := F.sub_list_frozenset
      have n3 : (Value.type "list" == Value.type "dict") = false := by decide
      have isl : (s.heap.push (set0 w)).IsList l its := ⟨_, lo1, rfl, ln, rfl⟩
      unfold Builtin.«set.__init__» noKeywords Builtin.Frozenset.updateFrom
      generalize iterName : pyIter = it0
      wp_walk
      subst iterName
      refine wpAny_pyIter_list isl ?_
      refine wpAny_bind (wpAny_runValue ?_)
      have below : l < s.heap.objs.size := Heap.lt_size lo
      have calm3 : A.in1.in1.in1.handled = none := by simp [calm]
      have size1 : (s.heap.push (set0 w)).objs.size = s.heap.objs.size + 1 := Heap.size_push ..
      have apart : l ≠ (s.heap.push (set0 w)).objs.size := by
        rw [size1]
        exact Nat.ne_of_lt (Nat.lt_succ_of_lt below)
      have out : s.heap.objs.size ∉ [(s.heap.push (set0 w)).objs.size, l] := by
        rw [size1]
        simp only [List.mem_cons, List.mem_singleton, List.not_mem_nil, or_false, not_or]
        exact ⟨Nat.ne_of_lt (Nat.lt_succ_self _), Nat.ne_of_gt below⟩
      have vals : ∀ (i : Nat) (v : Value), its[i]? = some v → ∃ k t, ns[i]? = some k ∧ v = .int k t := fun i v hv => by
        have hi : i < ns.length := by
          rw [← size_eq]
          exact (Array.getElem?_eq_some_iff.mp hv).1
        obtain ⟨t, e⟩ := PyProof.Rows.IntsAre.int_at isI i v (by rw [Array.getElem?_toList]; exact hv)
        exact ⟨ns[i], t, List.getElem?_eq_getElem hi, by rw [e, List.getD_eq_getElem?_getD, List.getElem?_eq_getElem hi]; rfl⟩
      refine set_update_ints ((Walks.list calm3 _ l apart its).toS) s.heap.objs.size out ns size_eq few vals (its.size - 0) 0 _ (by omega) (Nat.zero_le _) ⟨⟨_, Heap.get?_push_size _ rfl, rfl, rfl⟩, isl.push _⟩ ⟨0, Nat.le_refl 0, setR_new_at (Heap.get?_push_of_some _ at0)⟩ ?_
      intro s3 c3 moved le3 set3
      obtain ⟨g, gg, dd, tk, os⟩ := s3
      obtain rfl : gg = s.gens := moved.gens
      obtain rfl : dd = s.drawn := moved.drawn
      obtain rfl : os = s.os := moved.os
      show wpAny _ _ _ _ _ _
      refine wpAny_pure ?_
      show wpAny _ _ (ret Value.none) _ _ _
      rw [size_eq] at le3
      refine wpAny_pure ⟨rfl, g, tk, c3, rfl, set3, le3, fun b o e => ?_⟩
      have lt := Heap.lt_size e
      refine moved.heap b o ?_ (Heap.get?_push_of_some _ (Heap.get?_push_of_some _ e))
      rw [size1]
      simp only [List.mem_cons, List.mem_singleton, List.not_mem_nil, or_false, not_or]
      exact ⟨Nat.ne_of_lt lt, Nat.ne_of_lt (Nat.lt_succ_of_lt lt)⟩
    · rcases r with e | fl
      · exact hr
      cases fl <;> first | exact hr.elim | skip
      · obtain ⟨rfl, g, tk, c, rfl, h1, h2, h3⟩ := hr
        repeat (any_goals (first | assumption | wp_step))
        exact fin _ _ _ h1 h2 h3
end
end DL
set_option Elab.async false
set_option linter.all false
set_option maxRecDepth 100000
set_option maxHeartbeats 2000000
namespace DL
open PySem PySem.Spec PyProof.Rows L2
variable [Tabl]

def rSetOfI (K : PySem.W.Frag) (w : World) : List V → Hp → VK → Prop := fun xs H Q => ∃ (l : Addr) (ns : List Int), xs = [.ref l] ∧ (SqL K H l (ns.map V.int) ∨ SqT K H l (ns.map V.int)) ∧ ns.length ≤ 1000 ∧
  ∀ a c, H a = none → c ≤ ns.length → Q (.ref a) (upd H a (SetO w a (fun j => decide (j ∈ ns)) c))
theorem cr_setOfI {X : Cx} (hc : X.calm = true) : CallR X (.type "set") (rSetOfI X.K X.w) := by
  intro pins s σ H xs us Q I r h
  obtain ⟨l, ns, rfl, hl, few, q⟩ := h
  obtain ⟨u, rfl, ru⟩ := r.one
  obtain rfl : u = Value.ref l := ru
  have calm := I.ok.hd hc
  have room : ns.length + 1 < scanBound := by unfold scanBound; omega
  have fin : ∀ (g : Heap) (tk c : Nat), SetR X.w g s.heap.objs.size (fun j => decide (j ∈ ns)) c → c ≤ ns.length → (∀ b o, s.heap.get? b = some o → g.get? b = some o) → EP X pins σ Q (.ref s.heap.objs.size) { s with heap := g, toks := tk } := fun g tk c h1 h2 h3 =>
    ⟨.ref s.heap.objs.size, upd H s.heap.objs.size (SetO X.w s.heap.objs.size (fun j => decide (j ∈ ns)) c), I.laid (t' := tk) h3 (Nat.le_refl _) (setO_new h1), rfl, q _ c (I.hok.fresh (Nat.le_refl _)) h2⟩
  rcases hl with hl | hl
  · obtain ⟨its, rv, pl, _⟩ := I.list hl
    exact set_of_list ns calm pl.isList (by simpa using rv.ints) room fin
  · obtain ⟨its, rv, ⟨o, e, q1, n, q2⟩, _⟩ := I.tuple hl
    exact call_set_tupI ns calm ⟨o, e, q1, n, q2⟩ (by simpa using rv.ints) room fin
def intsL : List D → Option (List Int)
  | [] => some []
  | .int i :: r => match intsL r with
    | some ns => some (i :: ns)
    | none => none
  | _ :: _ => none
def intsOf : D → Option (List Int)
  | .lst xs => intsL xs
  | .tup xs => intsL xs
  | _ => none
theorem intsL_eq : ∀ {xs : List D} {ns : List Int}, intsL xs = some ns → xs = ns.map D.int
  | [], ns, h => by
    cases h
    rfl
  | .int i :: r, ns, h => by
    unfold intsL at h
    split at h
    · rename_i ms e
      cases h
      rw [intsL_eq e]
      rfl
    · cases h
  | .non :: _, _, h => nomatch h
  | .bl _ :: _, _, h => nomatch h
  | .str _ :: _, _, h => nomatch h
  | .tup _ :: _, _, h => nomatch h
  | .lst _ :: _, _, h => nomatch h
  | .dic _ :: _, _, h => nomatch h
  | .ins _ _ :: _, _, h => nomatch h
  | .rd _ :: _, _, h => nomatch h
  | .ty _ :: _, _, h => nomatch h
  | .cls _ :: _, _, h => nomatch h
  | .exc _ _ _ _ _ :: _, _, h => nomatch h
theorem intsL_of : ∀ ns : List Int, intsL (ns.map D.int) = some ns
  | [] => rfl
  | i :: r => by
    show (match intsL (r.map D.int) with | some ns => some (i :: ns) | none => none) = _
    rw [intsL_of r]
/-- sorted(set(x)), x of ints -/
@[irreducible] def dSortSetI (d : DE) : DR := fun ρ Φ => d ρ fun x ρ1 => match intsOf x with
  | some ns => ns.length < 64 ∧ ∀ out : List Int, out.Pairwise (· < ·) → (∀ k, k ∈ out ↔ k ∈ ns) → Φ (.own (out.map D.int)) ρ1
  | none => False
theorem sim_sortSetI {K : PySem.W.Frag} {w : World} {t : TE} {d : DE} (h : SimE K t d) : SimR K (tCB (rSortedSet w) (tCons (tCB (rSetOfI K w) (tCons t tNil)) tNil)) (dSortSetI d) := by
  intro M Z G0 H0 G H σ ρ F Φ Q A hd k
  unfold dSortSetI at hd
  refine h A hd fun v x ρ1 F1 G1 H1 A1 e1 r1 q1 => ?_
  split at q1
  · rename_i ns en
    obtain ⟨few, q1⟩ := q1
    have hx : ∃ a, v = .ref a ∧ (SqL K H1 a (ns.map V.int) ∨ SqT K H1 a (ns.map V.int)) := by
      unfold intsOf at en
      split at en
      · cases r1 with
        | lst hx px =>
          have e := intsL_eq en
          subst e
          rw [rpl_rowI px] at hx
          exact ⟨_, rfl, .inl (SqL.of (A1.gh _ _ hx))⟩
      · cases r1 with
        | tup hx px =>
          have e := intsL_eq en
          subst e
          rw [rpl_rowI px] at hx
          exact ⟨_, rfl, .inr (same_t A1.gh hx)⟩
      · cases en
    obtain ⟨a, rfl, hs⟩ := hx
    refine ⟨a, ns, rfl, hs, by omega, fun b c hb hc => ?_⟩
    have A2 := A1.newH (o := SetO w b (fun j => decide (j ∈ ns)) c) hb
    refine ⟨b, _, c, rfl, upd_same, by omega, fun out p pw mem ln hp => ?_⟩
    obtain ⟨A3, r3⟩ := A2.lst_new hp (int_rpl out)
    exact k _ _ _ ρ1 F1 G1 _ A3 e1 r3 (q1 out pw fun j => by rw [mem j]; simp)
  · exact q1.elim
section
variable {X : Cx} {e : Expr} {t : TE} {d : DE} {p p2 pos pos2 : Pos}
theorem pr_sortedSetI (hm : X.mg "sorted" = none) (hm2 : X.mg "set" = none) (h : PD X e t d) (hc : X.calm = true := by rfl) (hg : Gl X "sorted" := by rfl) (hg2 : Gl X "set" := by rfl) (hs2 : starEach [e] X.env = (false, eval e X.env) :: starEach [] X.env := by rfl)
    (hs : starEach [.Call (.Name "set" p2) [e] [] pos2] X.env = (false, eval (.Call (.Name "set" p2) [e] [] pos2) X.env) :: starEach [] X.env := by rfl) (hpl : (backTo pos (starEach [] X.env)).any (·.1) = false := by rfl) (hpl2 : (backTo pos2 (starEach [] X.env)).any (·.1) = false := by rfl) :
    PR X (.Call (.Name "sorted" p) [.Call (.Name "set" p2) [e] [] pos2] [] pos) (tCB (rSortedSet X.w) (tCons (tCB (rSetOfI X.K X.w) (tCons t tNil)) tNil)) (dSortSetI d) :=
  ⟨pe_callB (cr_sortedSet hc) hg hm (by rfl) (pa_cons (pe_callTy (cr_setOfI hc) hg2 hm2 (by rfl) (pa_cons h.pe pa_nil hs2) (by decide) (by decide) hs2 hpl2) pa_nil hs) (by decide) (by decide) hs hpl, sim_sortSetI h.sim⟩
end
/-! ### a module's tuple -/
theorem rp_tupK {K : PySem.W.Frag} {a : Addr} {its : Array Value} {n : Nat} {od : Option Addr} {sl : Array (Option Value)} {ns : List Int} (lk : K.lookup a = some ⟨.type "tuple", od, .seq its n, sl⟩) (z : its.size ≤ 1000) (r : IntsAre its.toList ns) (G : Hp) : Rp K G (.ref a) (.tup (ns.map D.int)) :=
  .tup (.inr ⟨_, its, n, lk, rfl, rfl, by rw [sizeLine_eq]; omega, vals_of_ints r⟩) (int_rpl ns)
end DL
set_option Elab.async false
set_option linter.all false
set_option maxRecDepth 100000
set_option maxHeartbeats 2000000
namespace DL
open PySem PySem.Spec PyProof.Rows L2 RT
variable [Tabl]

/-! ### a dict of one's own: {}, d[k] = v -/
def putKD (kvs : List (Key × D)) (k : Key) (d : D) : List (Key × D) := if (kvs.any fun kv => decide (kv.1 = k)) = true then kvs.map (fun kv => if kv.1 = k then (kv.1, d) else kv) else kvs ++ [(k, d)]
theorem rpk_any {K : PySem.W.Frag} {G : Hp} {k : Key} : ∀ {vs : List (Key × V)} {ds : List (Key × D)}, RpK K G vs ds → (vs.any fun kv => decide (kv.1 = k)) = (ds.any fun kv => decide (kv.1 = k))
  | _, _, .nil => rfl
  | _, _, .cons h r => by rw [List.any_cons, List.any_cons, rpk_any r]
theorem rpk_map {K : PySem.W.Frag} {G : Hp} {k : Key} {v : V} {d : D} (q : Rp K G v d) : ∀ {vs : List (Key × V)} {ds : List (Key × D)}, RpK K G vs ds → RpK K G (vs.map fun kv => if kv.1 = k then (kv.1, v) else kv) (ds.map fun kv => if kv.1 = k then (kv.1, d) else kv)
  | _, _, .nil => .nil
  | _, _, .cons (k := j) h r => by
    rw [List.map_cons, List.map_cons]
    by_cases e : j = k
    · rw [if_pos e, if_pos e]
      exact .cons q (rpk_map q r)
    · rw [if_neg e, if_neg e]
      exact .cons h (rpk_map q r)
theorem rpk_snoc {K : PySem.W.Frag} {G : Hp} {k : Key} {v : V} {d : D} (q : Rp K G v d) : ∀ {vs : List (Key × V)} {ds : List (Key × D)}, RpK K G vs ds → RpK K G (vs ++ [(k, v)]) (ds ++ [(k, d)])
  | _, _, .nil => .cons q .nil
  | _, _, .cons h r => .cons h (rpk_snoc q r)
theorem rpk_put {K : PySem.W.Frag} {G : Hp} {k : Key} {v : V} {d : D} {vs : List (Key × V)} {ds : List (Key × D)} (r : RpK K G vs ds) (q : Rp K G v d) : RpK K G (putK vs k v) (putKD ds k d) := by
  unfold putK putKD
  rw [rpk_any r]
  split
  · exact rpk_map q r
  · exact rpk_snoc q r
def dNewDict : DR := fun ρ Φ => ∀ p, Φ (.loc (.dic p [])) ρ
theorem sim_dnew {K : PySem.W.Frag} : SimR K tDNewK dNewDict := by
  intro M Z G0 H0 G H σ ρ F Φ Q A hd k p hp
  obtain ⟨f1, f2, f3⟩ := A.fresh0 hp
  have B := A.newH (o := .dK []) hp
  refine k (.ref p) (.loc (.dic p [])) (fun a => a = p) ρ F G _ B (Same.refl G) ⟨⟨.ref p, rfl, rfl, [p], .dic upd_same .nil, by simp, fun a => by simp⟩, fun z => z, fun a fa => ?_⟩ (hd p)
  subst fa
  exact ⟨A.gh.free hp, by rw [upd_same]; exact Option.some_ne_none _, f1, f2, f3⟩
/-- x[k] = v, x a dict of one's own -/
def dDSet (i : Nat) (dk dv : DE) : DS := fun Δ ρ => dv ρ fun y ρ0 => match ρ0[i]? with
  | some (.loc (.dic _ _)) => dk ρ0 fun x ρ2 => match ρ2[i]? with
    | some (.loc (.dic p kvs)) => match x.key with
      | some k => kvs.length ≤ 1000 ∧ Δ.nx (ρ2.set i (.loc (.dic p (putKD kvs k y))))
      | none => False
    | _ => False
  | _ => False
theorem sim_dset {K : PySem.W.Frag} {i : Nat} {tk tv : TE} {dk dv : DE} (hk : SimE K tk dk) (hv : SimE K tv dv) : SimS K (tAsg tv (gSub (tVar i) tk rSetD)) (dDSet i dk dv) := by
  intro M Z G0 H0 G H σ ρ F Δ Q A hd k1 k2 k3 k4
  refine hv A hd fun w y ρ0 F0 G1 H1 A0 e0 r0 q0 => ?_
  split at q0
  · rename_i p0 kvs0 ei0
    obtain ⟨h1, _, _⟩ := A0.mut_at (.inl ei0)
    refine ⟨.ref p0, h1, hk A0 q0 fun u x ρ2 F2 G2 H2 A2 e2 r2 q2 => ?_⟩
    split at q2
    · rename_i p kvs ei
      split at q2
      · rename_i k ek
        obtain ⟨few, q2⟩ := q2
        obtain ⟨v', hv', nd, B, o, nb, hB⟩ := A2.sl i _ ei
        have eu := key_rp r2 ek
        subst eu
        cases o with
        | dic hp rk =>
          rename_i vs
          have ev := join_some hv'
          rw [h1] at ev
          obtain rfl : p0 = p := by
            have := Option.some.inj (Option.some.inj ev)
            injection this
          have hi : i < ρ2.length := (List.getElem?_eq_some_iff.mp ei).1
          have fp : F2 i p0 := (hB p0).mpr (by simp)
          obtain ⟨g1, g2, g3⟩ := A2.fp i p0 fp
          refine ⟨p0, _, rfl, DPut.k hp (by rw [rk.length, sizeLine_eq]; omega), ?_⟩
          have A3 := A2.chg (i := i) (x := .loc (.dic p0 (putKD kvs k y))) (Fn := F2 i) (G' := G2) (H' := upd H2 p0 (.dK (putK vs k w))) hi (Same.refl G2) (fun a u q => by rw [upd_ne (ne_of_none q g1)]; exact A2.gh a u q) (fun _ _ => rfl)
            (fun a ha => by
              by_cases e : a = p0
              · rw [e, upd_same]; exact Option.some_ne_none _
              · rw [upd_ne e]; exact ha)
            (fun a u q nf => by rw [upd_ne fun z => nf (by rw [z]; exact fp)]; exact q)
            ⟨.ref p0, hv', rfl, [p0], .dic upd_same (rpk_put rk (r0.mono e2)), by simp, hB⟩ (fun z => by rw [ei] at z; exact z.elim)
            (fun a fa => by
              obtain ⟨q1, q3, _⟩ := A2.fp i a fa
              refine ⟨q1, ?_, .inl fa⟩
              by_cases e : a = p0
              · rw [e, upd_same]; exact Option.some_ne_none _
              · rw [upd_ne e]; exact q3)
          exact k1 σ _ _ G2 _ A3 (e0.trans e2) q2
      · exact q2.elim
    · exact q2.elim
  · exact q0.elim
section
variable {X : Cx} {e ei : Expr} {te ti : TE} {de di : DE} {pos pos' p : Pos} {x : Str}
theorem pr_dnew : PR X (.Dict [] [] pos) tDNewK dNewDict := ⟨pe_dnewK, sim_dnew⟩
theorem pd_dset (i : Nat) (hu : X.A.units + 1 < cLine) (hv : PD X e te de) (hi : PD X ei ti di) (hN : X.N[i]? = some x := by rfl) (hvis : Vis X.env.scope x := by first | exact Or.inl rfl | exact Or.inr (Or.inl rfl) | exact Or.inr (Or.inr rfl)) (hd : (x == ("__debug__" : Str)) = false := by decide)
    (hcd : (x == ("__classdict__" : Str)) = false := by decide) (hs : swapsWithSole [.Subscript (.Name x p) ei pos'] e pos.line X.env = pure false := by rfl) (hw : swappedStores [.Subscript (.Name x p) ei pos'] e X.env = pure none := by rfl)
    (h1 : (assignEach [.Subscript (.Name x p) ei pos'] X.env).map (·.2) = [assign (.Subscript (.Name x p) ei pos') X.env] := by rfl)
    (ha : ∀ v, assign (.Subscript (.Name x p) ei pos') X.env v = (do
      let ov ← holding [v] (eval (.Name x p) X.env)
      let iv ← holding [v, ov] (eval ei X.env)
      standAt pos'
      holding [v, ov, iv] (setItem ov iv v)
      release [v, ov, iv] []) := by intro _; rfl) : PDS X (.Assign [.Subscript (.Name x p) ei pos'] e pos) (tAsg te (gSub (tVar i) ti rSetD)) (dDSet i di de) :=
  ⟨ps_asg hv.pe (pg_sub (pe_var hN hvis hd hcd) hi.pe (set_dict hu) ha) hs hw h1, sim_dset hi.sim hv.sim⟩
end
end DL
set_option Elab.async false
set_option linter.all false
set_option maxRecDepth 100000
set_option maxHeartbeats 2000000
namespace DL
open PySem PySem.Spec PyProof.Rows L2 RT
variable [Tabl]

/-! ### text[::-1] -/
def revS (z : Str) : Str := Txt.sliceBy z none none (-1, 0)
theorem revS_list (z : Str) : (revS z).cps.toList = z.cps.toList.reverse := by
  have e : (revS z).cps.toList = (List.range z.length).map fun k => z.cps.getD (z.length - 1 - k) 0 := PyProof.Rows.step_rev_list z 0
  rw [e]
  have hl : z.length = z.cps.toList.length := by rw [Array.length_toList]; rfl
  apply List.ext_getElem
  · simp [hl]
  · intro i h1 h2
    simp only [List.length_map, List.length_range] at h1
    rw [List.getElem_map, List.getElem_range, List.getElem_reverse]
    have h4 : z.cps.size = z.length := rfl
    have h3 : z.length - 1 - i < z.cps.size := by omega
    have e2 : z.cps.getD (z.length - 1 - i) 0 = z.cps[z.length - 1 - i] := by simp [Array.getD, h3]
    rw [e2, Array.getElem_toList]
    congr 1
def tRevS (te : TE) : TE := fun σ H Q => te σ H fun x H1 => ∃ z : Str, x = .str z ∧ z.length ≤ sizeLine ∧ Q (.str (revS z)) H1
section
variable {X : Cx} {e : Expr} {te : TE} {d : DE} {k : Nat} {p1 p2 p3 pos : Pos}
theorem pe_revS (he : PE X e te) (ht : ∀ (z : Str) (t : Tok) (r : Value), letTemporaryGo e (.str z t) r = pure () := by intro _ _ _; with_unfolding_all rfl) : PE X (.Subscript e (.Slice none none (some (.UnaryOp .USub (.Constant (.int 1) k p1) p2)) p3) pos) (tRevS te) := by
  refine ⟨fun pins s σ H Q I h => Subscript_ (thn (he.run pins s σ H _ I h) fun v s1 ⟨x, H1, I1, r1, z, ex, hz, q⟩ => ?_)⟩
  subst ex
  obtain ⟨t, rfl⟩ := r1
  have step : PO X (some (.UnaryOp .USub (.Constant (.int 1) k p1) p2)) (tPart (tUn (rU fun i => .int (-i)) (tC (.int 1)))) := po_some (pe_un un_neg pe_int)
  refine wpAny_Slice (thn (po_none.run pins s1 σ H1 (fun o G => o = none ∧ G = H1) I1 ⟨rfl, rfl⟩) fun v1 s2 ⟨o1, H2, I2, a1, b1, c1⟩ => ?_)
  subst b1 c1
  refine thn (po_none.run pins s2 σ H2 (fun o G => o = none ∧ G = H2) I2 ⟨rfl, rfl⟩) fun v2 s3 ⟨o2, H3, I3, a2, b2, c2⟩ => ?_
  subst b2 c2
  refine thn (step.run pins s3 σ H3 (fun o G => o = some (-1) ∧ G = H3) I3 ⟨1, rfl, -1, rfl, rfl, rfl⟩) fun v3 s4 ⟨o3, H4, I4, a3, b3, c3⟩ => ?_
  subst b3 c3
  cases a1
  cases a2
  have hv : ∃ uk, v3 = Value.int (-1) uk := by
    cases a3
    exact ⟨_, rfl⟩
  obtain ⟨uk, rfl⟩ := hv
  have J : L2.Inv X pins σ H4 { s4 with heap := s4.heap.push { cls := .type "slice", data := .fields #[.none, .none, .int (-1) uk] } } := I4.kept (t' := s4.toks) fun b ob q => Heap.get?_push_of_some _ q
  exact tail_of_ItemOn ⟨"str", _, F.slot_str_getitem.lookup, typeIs_str _ _ _, wpAny_getItem_str_slice (l := none) (u := none) (st := some (-1, uk)) ⟨_, Heap.get?_push_size _ rfl, rfl, rfl⟩ rfl
    (post_val_or_str ⟨Nat.le_trans (Txt.sliceBy_le z none none (-1, uk) (fun z => by cases z)) hz, fun t' n => ⟨.str (revS z), H4, J.tok n, ⟨t', rfl⟩, q⟩⟩)⟩ (by with_unfolding_all rfl) (ht z t)
def dRevS (d : DE) : DE := fun ρ Φ => d ρ fun x ρ1 => match x with
  | .str z => z.length ≤ 1000000 ∧ Φ (.str (revS z)) ρ1
  | _ => False
theorem sim_revS {K : PySem.W.Frag} (h : SimE K te d) : SimE K (tRevS te) (dRevS d) := by
  intro M Z G0 H0 G H σ ρ F Φ Q A hd kk
  refine h A hd fun v x ρ1 F1 G1 H1 A1 e1 r1 q1 => ?_
  split at q1
  · rename_i z
    cases r1
    exact ⟨z, rfl, by rw [sizeLine_eq]; omega, kk _ _ ρ1 F1 G1 H1 A1 e1 (.str _) q1.2⟩
  · exact q1.elim
theorem pd_revS (h : PD X e te d) (ht : ∀ (z : Str) (t : Tok) (r : Value), letTemporaryGo e (.str z t) r = pure () := by intro _ _ _; with_unfolding_all rfl) : PD X (.Subscript e (.Slice none none (some (.UnaryOp .USub (.Constant (.int 1) k p1) p2)) p3) pos) (tRevS te) (dRevS d) := ⟨pe_revS h.pe ht, sim_revS h.sim⟩
end
end DL
set_option Elab.async false
set_option linter.all false
set_option maxRecDepth 100000
set_option maxHeartbeats 2000000
namespace DL
open PySem PySem.Spec PyProof.Rows L2 RT
variable [Tabl]

/-! ### does_part, one_pass -/
/-- a pass that looks at these places lays these columns in their order -/
def parts (ps : List Int) (cols : List Col) : Bool := decide ((cols.map (firstIn ps)).Pairwise (· < ·))
def F_does_part : DF := fun xs Φ => ∃ (ps : List Int) (cols : List Col), xs = [rowD ps, .lst (cols.map colD)] ∧ cols.length ≤ 60 ∧ Φ (.val (.bl (parts ps cols)))
/- slots of does_part: 0 places, 1 columns, 2 rows, 3 one -/
def b_does_part : DS := (dSeq (dSet 2 (dR (dV (dLc (diAny (dVar 1)) (dgName 3) dYes (dV (dCall F_pocket_of (dCons (dTup (dCons (dVar 3) dNil)) (dCons (dC (.int 0)) (dCons (dVar 0) dNil))))) [3]))))
  (dRet (dR (dOp eqD (dVar 2) (dV (dSortSetI (dVar 2)))))))
theorem sortI_open {d : DE} {ρ ρ1 : List Sl} {Φ : Sl → List Sl → Prop} (ns : List Int) {x : D} (hx : intsOf x = some ns) (h : ∀ Ψ : D → List Sl → Prop, Ψ x ρ1 → d ρ Ψ) (few : ns.length < 64)
    (k : ∀ out : List Int, out.Pairwise (· < ·) → (∀ j, j ∈ out ↔ j ∈ ns) → Φ (.own (out.map D.int)) ρ1) : dSortSetI d ρ Φ := by
  unfold dSortSetI
  refine h _ ?_
  rw [hx]
  exact ⟨few, k⟩
theorem sorted_uniq : ∀ {a b : List Int}, a.Pairwise (· < ·) → b.Pairwise (· < ·) → (∀ j, j ∈ a ↔ j ∈ b) → a = b
  | [], [], _, _, _ => rfl
  | [], y :: b, _, _, h => by simpa using (h y).mpr List.mem_cons_self
  | x :: a, [], _, _, h => by simpa using (h x).mp List.mem_cons_self
  | x :: a, y :: b, ha, hb, h => by
    obtain ⟨h1, h2⟩ := List.pairwise_cons.mp ha
    obtain ⟨h3, h4⟩ := List.pairwise_cons.mp hb
    have e : x = y := by
      rcases List.mem_cons.mp ((h x).mp List.mem_cons_self) with e | e
      · exact e
      rcases List.mem_cons.mp ((h y).mpr List.mem_cons_self) with e' | e'
      · exact e'.symm
      have := h1 y e'
      have := h3 x e
      omega
    subst e
    rw [sorted_uniq h2 h4 fun j => ?_]
    have hj := h j
    rw [List.mem_cons, List.mem_cons] at hj
    constructor
    · intro m
      rcases hj.mp (.inr m) with e | e
      · have := h1 j m
        omega
      · exact e
    · intro m
      rcases hj.mpr (.inr m) with e | e
      · have := h3 j m
        omega
      · exact e
theorem rd_does_part : ∀ xs Φ, F_does_part xs Φ → b_does_part (rtV Φ) (slots xs 4) := by
  rintro xs Φ ⟨ps, cols, rfl, hl, k⟩
  refine lc_map (ρ1 := [.val (rowD ps), .val (.lst (cols.map colD)), .un, .un]) cols colD (fun c => .int (firstIn ps c)) (fun Ψ h => h) (by omega) (.inl rfl) (fun c hc Ψ h => ?_) ?_
  · refine ⟨by simp, [c], 0, ps, rfl, by decide, ?_⟩
    exact h
  refine ⟨trivial, ?_⟩
  have e1 : (cols.map fun c => D.int (firstIn ps c)) = (cols.map (firstIn ps)).map D.int := by rw [List.map_map]; rfl
  rw [e1]
  refine sortI_open (ρ1 := [.val (rowD ps), .val (.lst (cols.map colD)), .val (.lst ((cols.map (firstIn ps)).map D.int)), .un]) (cols.map (firstIn ps)) (x := .lst ((cols.map (firstIn ps)).map D.int)) (intsL_of _) (fun Ψ h => h) (by rw [List.length_map]; omega) fun out pw mem => ?_
  have ok : ∀ ns : List Int, (D.lst (ns.map D.int)).okN 60 = true := fun ns => by
    show D.okL (ns.map D.int) 59 = true
    exact okL_map D.int fun _ _ => rfl
  refine ⟨ok _, ok _, ?_⟩
  rw [eqv_lst D.int eqv_int]
  have e : decide (cols.map (firstIn ps) = out) = parts ps cols := by
    unfold parts
    refine decide_eq_decide.mpr ⟨fun h => by rw [h]; exact pw, fun h => sorted_uniq h pw fun j => (mem j).symm⟩
  rw [e]
  exact k
end DL
set_option Elab.async false
set_option linter.all false
set_option maxRecDepth 100000
set_option maxHeartbeats 2000000
namespace DL
open PySem PySem.Spec PyProof.Rows L2 RT
variable [Tabl]

/-! ### one_pass -/
/-- the places to look at, one more place that a column has -/
def growP (cols : List Col) (rows : List (List Int)) (p : Int) : List (List Int) := if cols.any (fun c => decide (p ∈ c)) = true then rows ++ rows.map (fun r => r ++ [p]) else rows
def places12 : List Int := [0, 1, 2, 3, 4, 5, 6, 7, 8, 9, 10, 11]
def subsets (cols : List Col) : List (List Int) := places12.foldl (growP cols) [[]]
def tryP (cols : List Col) (ps : List Int) : Option (List Int × Bool) := if parts ps cols = true then some (ps, false) else if parts ps cols.reverse = true then some (ps, true) else none
def onePass (cols : List Col) : Option (List Int × Bool) := if 13 < cols.length then none else (sortRows (subsets cols)).findSome? (tryP cols)
def oneD : Option (List Int × Bool) → D
  | none => .non
  | some x => .tup [rowD x.1, .bl x.2]
theorem growP_len (cols : List Col) (rows : List (List Int)) (p : Int) : (growP cols rows p).length ≤ 2 * rows.length := by
  unfold growP
  split
  · rw [List.length_append, List.length_map]
    omega
  · omega
theorem growP_mem {cols : List Col} {rows : List (List Int)} {p : Int} {r : List Int} (h : r ∈ growP cols rows p) : r ∈ rows ∨ ∃ r0 ∈ rows, r = r0 ++ [p] := by
  unfold growP at h
  split at h
  · rcases List.mem_append.mp h with h | h
    · exact .inl h
    · obtain ⟨r0, h0, e⟩ := List.mem_map.mp h
      exact .inr ⟨r0, h0, e.symm⟩
  · exact .inl h
theorem grow_all (cols : List Col) : ∀ (ps : List Int) (rows : List (List Int)) (m : Nat), (∀ r ∈ rows, r.length ≤ m) → (ps.foldl (growP cols) rows).length ≤ 2 ^ ps.length * rows.length ∧ ∀ r ∈ ps.foldl (growP cols) rows, r.length ≤ m + ps.length
  | [], rows, m, h => ⟨by simp, fun r hr => h r hr⟩
  | p :: ps, rows, m, h => by
    obtain ⟨h1, h2⟩ := grow_all cols ps (growP cols rows p) (m + 1) fun r hr => by
      rcases growP_mem hr with z | ⟨r0, z, e⟩
      · exact Nat.le_succ_of_le (h r z)
      · rw [e, List.length_append]
        have := h r0 z
        simp
        omega
    refine ⟨?_, fun r hr => by have := h2 r hr; simp only [List.length_cons]; omega⟩
    show (ps.foldl (growP cols) (growP cols rows p)).length ≤ _
    have h3 := growP_len cols rows p
    have h4 : 2 ^ ps.length * (growP cols rows p).length ≤ 2 ^ ps.length * (2 * rows.length) := Nat.mul_le_mul_left _ h3
    rw [List.length_cons, Nat.pow_succ, Nat.mul_assoc]
    omega
def F_one_pass : DF := fun xs Φ => ∃ cols : List Col, xs = [.lst (cols.map colD)] ∧ cols.length ≤ 60 ∧ Φ (.val (oneD (onePass cols)))
/- slots of one_pass: 0 columns, 1 some, 2 place, 3 back, 4 places, 5 one, 6 row -/
def b_one_pass : DS := (dSeq (dIfS (dTest (dOp gtD (dV (dCB lenD (dCons (dVar 0) dNil))) (dC (.int 13)))) (dRet (dR (dC .non))) dNext)
  (dSeq (dSet 1 (dR (dV (dLst (dCons (dTup dNil) dNil)))))
  (dSeq (dFor (diRng1 (dC (.int 12))) (dgName 2) (dIfS (dTest (dOp neD (dV (dLc (diAny (dVar 0)) (dgName 5) (dTest (dOp memV (dVar 2) (dVar 5))) (dVar 5) [5])) (dV (dLst dNil)))) (dSet 1 (dR (dV (dOpR addD (dVar 1) (dV (dLc (diAny (dVar 1)) (dgName 6) dYes (dV (dOpR addD (dVar 6) (dTup (dCons (dVar 2) dNil)))) [6])))))) dNext))
  (dSeq (dSet 3 (dR (dV (dRevL (dVar 0)))))
  (dSeq (dFor (diAny (dV (dSortK (dVar 1)))) (dgName 4) (dSeq (dIfS (dTest (dV (dCall F_does_part (dCons (dVar 4) (dCons (dVar 0) dNil))))) (dRet (dR (dTup (dCons (dVar 4) (dCons (dC (.bl false)) dNil))))) dNext)
  (dIfS (dTest (dV (dCall F_does_part (dCons (dVar 4) (dCons (dVar 3) dNil))))) (dRet (dR (dTup (dCons (dVar 4) (dCons (dC (.bl true)) dNil))))) dNext)))
  (dRet (dR (dC .non))))))))
theorem rowD_snoc (r : List Int) (p : Int) : D.tup (r.map D.int ++ [D.int p]) = rowD (r ++ [p]) := by
  unfold rowD
  rw [List.map_append]
  rfl
theorem rng12 : rng 12 0 1 = places12.map D.int := by
  rw [rng_ints]
  rfl
theorem one_loop {cols : List Col} (hc : cols.length ≤ 60) {Δ : Ds} {σ1 : Sl} (K : ∀ s, Δ.nx [.val (.lst (cols.map colD)), .val (.lst ((subsets cols).map rowD)), s, .un, .un, .un, .un]) :
    dFor (diRng1 (dC (.int 12))) (dgName 2) (dIfS (dTest (dOp neD (dV (dLc (diAny (dVar 0)) (dgName 5) (dTest (dOp memV (dVar 2) (dVar 5))) (dVar 5) [5])) (dV (dLst dNil)))) (dSet 1 (dR (dV (dOpR addD (dVar 1) (dV (dLc (diAny (dVar 1)) (dgName 6) dYes (dV (dOpR addD (dVar 6) (dTup (dCons (dVar 2) dNil)))) [6])))))) dNext) Δ
      [.val (.lst (cols.map colD)), .val (.lst [rowD []]), .un, .un, .un, .un, .un] := by
  refine for_inv' (places12.map D.int) (fun Ψ h => ⟨by unfold inR; omega, by rw [← rng12] at h; exact h⟩) (fun rest ρ => ∃ (pre post : List Int) (s : Sl), places12 = pre ++ post ∧ rest = post.map D.int ∧ free [s] 0 ∧
    ρ = [.val (.lst (cols.map colD)), .val (.lst ((pre.foldl (growP cols) [[]]).map rowD)), s, .un, .un, .un, .un]) ⟨[], places12, .un, rfl, rfl, trivial, rfl⟩ ?_ ?_
  · rintro d rest ρ ⟨pre, post, s, e1, e2, fr, rfl⟩ J hJ
    cases post with
    | nil => cases e2
    | cons p post =>
      cases e2
      have hpre : pre.length ≤ 11 := by
        have := congrArg List.length e1
        rw [List.length_append] at this
        simp [places12] at this
        omega
      obtain ⟨n1, n2⟩ := grow_all cols pre [[]] 0 (by simp)
      have hp2 : 2 ^ pre.length ≤ 2 ^ 11 := Nat.pow_le_pow_right (by decide) hpre
      have few : (pre.foldl (growP cols) [[]]).length ≤ 2048 := by
        simp only [List.length_singleton, Nat.mul_one] at n1
        exact Nat.le_trans n1 hp2
      refine ⟨fr, ?_⟩
      refine lc_pure (ρ1 := [.val (.lst (cols.map colD)), .val (.lst ((pre.foldl (growP cols) [[]]).map rowD)), .val (.int p), .un, .un, .un, .un]) cols colD (fun c => decide (p ∈ c)) colD (fun Ψ h => h) (by omega) (.inl rfl) (fun c hc Ψ h => ?_) (fun c hc _ Ψ h => h) ?_
      · refine ⟨ok_int _ _, okL_map D.int fun _ _ => ok_int _ _, ?_⟩
        rw [any_map D.int eqv_int]
        exact h
      refine ⟨by simp, ?_⟩
      refine ⟨ok_lst colD (fun c _ => ok_col c _), ok_lst colD (xs := []) (fun c _ => ok_col c _), ?_⟩
      have e3 : D.eqv (.lst ((cols.filter fun c => decide (p ∈ c)).map colD)) (.lst []) = decide ((cols.filter fun c => decide (p ∈ c)) = []) := eqv_lst colD eqv_col _ []
      rw [e3]
      have step : growP cols (pre.foldl (growP cols) [[]]) p = (pre ++ [p]).foldl (growP cols) [[]] := by rw [List.foldl_append]; rfl
      by_cases hz : (cols.filter fun c => decide (p ∈ c)) = []
      · rw [decide_eq_true hz]
        refine hJ _ ⟨pre ++ [p], post, .val (.int p), by rw [List.append_assoc]; exact e1, rfl, trivial, ?_⟩
        have na : ¬ (cols.any fun c => decide (p ∈ c)) = true := fun z => by
          obtain ⟨c, hm, hp⟩ := List.any_eq_true.mp z
          have := List.filter_eq_nil_iff.mp hz c hm
          exact this hp
        rw [← step]
        unfold growP
        rw [if_neg na]
      · rw [decide_eq_false hz]
        have an : (cols.any fun c => decide (p ∈ c)) = true := by
          by_cases z : (cols.any fun c => decide (p ∈ c)) = true
          · exact z
          · exact absurd (List.filter_eq_nil_iff.mpr fun c hm hp => z (List.any_eq_true.mpr ⟨c, hm, hp⟩)) hz
        refine lc_map (ρ1 := [.val (.lst (cols.map colD)), .val (.lst ((pre.foldl (growP cols) [[]]).map rowD)), .val (.int p), .un, .un, .un, .un]) (pre.foldl (growP cols) [[]]) rowD (fun r => rowD (r ++ [p])) (fun Ψ h => h) (by omega) (.inl rfl) (fun r hr Ψ h => ?_) ?_
        · have hl := n2 r hr
          refine ⟨by simp, ?_⟩
          refine ⟨by simp; omega, ?_⟩
          rw [rowD_snoc]
          exact h
        refine ⟨by rw [List.length_map, List.length_map]; omega, trivial, ?_⟩
        refine hJ _ ⟨pre ++ [p], post, .val (.int p), by rw [List.append_assoc]; exact e1, rfl, trivial, ?_⟩
        rw [← step]
        unfold growP
        rw [if_pos an, List.map_append, List.map_map]
        rfl
  · rintro ρ ⟨pre, post, s, e1, e2, fr, rfl⟩
    cases post with
    | nil =>
      rw [List.append_nil] at e1
      rw [← e1]
      exact K s
    | cons _ _ => cases e2
end DL
set_option Elab.async false
set_option linter.all false
set_option maxRecDepth 100000
set_option maxHeartbeats 2000000
namespace DL
open PySem PySem.Spec PyProof.Rows L2 RT
variable [Tabl]

theorem find_step {cols : List Col} {ps : List Int} {rest : List (List Int)} : (ps :: rest).findSome? (tryP cols) = if parts ps cols = true then some (ps, false) else if parts ps cols.reverse = true then some (ps, true) else rest.findSome? (tryP cols) := by
  rw [List.findSome?_cons]
  unfold tryP
  by_cases h : parts ps cols = true
  · rw [if_pos h, if_pos h]
  · rw [if_neg h, if_neg h]
    by_cases h2 : parts ps cols.reverse = true
    · rw [if_pos h2, if_pos h2]
    · rw [if_neg h2, if_neg h2]
theorem subsets_ok (cols : List Col) : (subsets cols).length ≤ 4096 ∧ ∀ r ∈ subsets cols, r.length ≤ 12 := by
  obtain ⟨h1, h2⟩ := grow_all cols places12 [[]] 0 (by simp)
  exact ⟨Nat.le_trans h1 (by decide), fun r hr => h2 r hr⟩
theorem rd_one_pass : ∀ xs Φ, F_one_pass xs Φ → b_one_pass (rtV Φ) (slots xs 7) := by
  rintro xs Φ ⟨cols, rfl, hc, k⟩
  refine seq_go ?_
  have t : EvT (dTest (dOp gtD (dV (dCB lenD (dCons (dVar 0) dNil))) (dC (.int 13)))) (slots [.lst (cols.map colD)] 7) (decide ((13 : Int) < ((cols.map colD).length : Nat))) := evt_of (ev_op (ev_lenl (ev_var rfl)) ev_c fun Ψ q => q)
  refine if_b t (fun h => ?_) (fun h => ?_)
  · have h1 : 13 < cols.length := by
      have := of_decide_eq_true h
      rw [List.length_map] at this
      omega
    refine ret_e ev_c ?_
    unfold onePass at k
    rw [if_pos h1] at k
    exact k
  · have h1 : ¬ 13 < cols.length := by
      have := of_decide_eq_false h
      rw [List.length_map] at this
      omega
    unfold onePass at k
    rw [if_neg h1] at k
    refine next_go (seq_go ?_)
    refine ⟨by simp, by simp, trivial, ?_⟩
    refine seq_go (one_loop (σ1 := .un) hc fun s2 => ?_)
    refine seq_go ?_
    refine ⟨trivial, ?_⟩
    have er : (cols.map colD).reverse = cols.reverse.map colD := List.map_reverse.symm
    rw [er]
    refine seq_go (for_inv' ((sortRows (subsets cols)).map rowD) (fun Ψ q => ⟨subsets cols, rfl, fun r hr => Nat.le_trans ((subsets_ok cols).2 r hr) (by decide), q⟩) (ρ1 := [.val (.lst (cols.map colD)), .val (.lst ((subsets cols).map rowD)), s2, .val (.lst (cols.reverse.map colD)), .un, .un, .un]) (fun rest ρ => ∃ (post : List (List Int)) (s4 : Sl), rest = post.map rowD ∧ Φ (.val (oneD (post.findSome? (tryP cols)))) ∧ free [s4] 0 ∧
      ρ = [.val (.lst (cols.map colD)), .val (.lst ((subsets cols).map rowD)), s2, .val (.lst (cols.reverse.map colD)), s4, .un, .un]) ⟨_, .un, rfl, k, trivial, rfl⟩ ?_ ?_)
    · rintro d rest ρ ⟨post, s4, e, k, fr, rfl⟩ J hJ
      cases post with
      | nil => cases e
      | cons ps post =>
        cases e
        refine ⟨fr, ?_⟩
        rw [find_step] at k
        refine seq_go (if_b (v := parts ps cols) (evt_of fun Ψ q => ⟨ps, cols, rfl, hc, q⟩) (fun h => ?_) fun h => ?_)
        · rw [if_pos h] at k
          exact ⟨by simp, k⟩
        · rw [if_neg (by rw [h]; simp)] at k
          refine next_go ?_
          dsimp only
          refine (if_b (v := parts ps cols.reverse) (evt_of fun Ψ q => ⟨ps, cols.reverse, rfl, by rw [List.length_reverse]; exact hc, q⟩) (fun h2 => ?_) fun h2 => ?_)
          · rw [if_pos h2] at k
            exact ⟨by simp, k⟩
          · rw [if_neg (by rw [h2]; simp)] at k
            exact hJ _ ⟨post, .val (rowD ps), rfl, k, trivial, rfl⟩
    · rintro ρ ⟨post, s4, e, k, fr, rfl⟩
      cases post with
      | nil =>
        show dRet (dR (dC .non)) (rtV Φ) [.val (.lst (cols.map colD)), .val (.lst ((subsets cols).map rowD)), s2, .val (.lst (cols.reverse.map colD)), s4, .un, .un]
        exact ret_e ev_c k
      | cons _ _ => cases e
end DL
set_option Elab.async false
set_option linter.all false
set_option maxRecDepth 100000
set_option maxHeartbeats 2000000
namespace DL
open PySem PySem.Spec PyProof.Rows L2 RT
variable [Tabl]

/-! ### told signs -/
abbrev Signs := List (Int × List Col)
def sgnP (p : Int × List Col) : Key × D := (.inl p.1, .str (textOf p.2))
def signsD (s : Signs) : D := .dic (s.map sgnP)
def SignsOk (s : Signs) : Prop := ∀ p ∈ s, p.2 ≠ [] ∧ p.2.length ≤ 100 ∧ ∀ c ∈ p.2, c ∈ every
def columnsFor (c : Int) (s : Signs) : List Col := match s.lookup c with
  | none => every
  | some cols => every.filter fun x => decide (x ∈ cols)
theorem getK_signs (c : Int) : ∀ s : Signs, getK (s.map sgnP) (.inl c) = (s.lookup c).map fun cols => D.str (textOf cols)
  | [] => rfl
  | (i, cols) :: s => by
    have ih := getK_signs c s
    unfold getK at ih ⊢
    rw [List.map_cons]
    by_cases e : i = c
    · subst e
      rw [List.find?_cons_of_pos (by show decide ((Sum.inl i : Key) = Sum.inl i) = true; exact decide_eq_true rfl)]
      simp [List.lookup, sgnP]
    · rw [List.find?_cons_of_neg (by
        show ¬ decide ((Sum.inl i : Key) = Sum.inl c) = true
        simp [e]), ih]
      have : (c == i) = false := by simp [Ne.symm e]
      simp [List.lookup, this]
theorem lookup_ok {s : Signs} (h : SignsOk s) {c : Int} {cols : List Col} (e : s.lookup c = some cols) : cols ≠ [] ∧ cols.length ≤ 100 ∧ ∀ x ∈ cols, x ∈ every := by
  have : (c, cols) ∈ s := by
    induction s with
    | nil => cases e
    | cons p s ih =>
      obtain ⟨i, l⟩ := p
      by_cases q : c = i
      · subst q
        simp [List.lookup] at e
        rw [e]
        exact List.mem_cons_self
      · have : (c == i) = false := by simp [q]
        simp [List.lookup, this] at e
        exact List.mem_cons_of_mem _ (ih (fun p hp => h p (List.mem_cons_of_mem _ hp)) e)
  exact h _ this
def F_columns_for : DF := fun xs Φ => ∃ (c : Int) (s : Signs), xs = [.int c, signsD s] ∧ SignsOk s ∧ Φ (.own ((columnsFor c s).map colD))
/- slots of columns_for: 0 column, 1 signs, 2 found, 3 sign, 4 one -/
def b_columns_for : DS := (dSeq (dIfS (dTest (dOp notMemV (dVar 0) (dVar 1))) (dRet (dCall F_all_columns dNil)) dNext)
  (dSeq (dSet 2 (dR (dV (dLc (diAny (dOp ixD (dVar 1) (dVar 0))) (dgName 3) dYes (dV (dCall F_column_by (dCons (dVar 3) dNil))) [3]))))
  (dSeq (dIfS (dOr (dTest (dOp memV (dC .non) (dVar 2))) (dTest (dOp eqD (dVar 2) (dV (dLst dNil))))) (fun _ _ => False) dNext)
  (dRet (dLc (diAny (dV (dCall F_all_columns dNil))) (dgName 4) (dTest (dOp memV (dVar 4) (dVar 2))) (dVar 4) [4])))))
theorem columnBy_mem {c : Col} (h : c ∈ every) : optD (columnBy (signOf c)) = colD c := by rw [columnBy_sign h]; rfl
theorem rd_columns_for : ∀ xs Φ, F_columns_for xs Φ → b_columns_for (rtV Φ) (slots xs 5) := by
  rintro xs Φ ⟨c, s, rfl, ok, k⟩
  have gk := getK_signs c s
  refine seq_go ?_
  have t : EvT (dTest (dOp notMemV (dVar 0) (dVar 1))) (slots [.int c, signsD s] 5) (!(s.lookup c).isSome) := evt_of (ev_op (ev_var rfl) (ev_var rfl) fun Ψ q => by
    show Ψ (.bl (!(getK (s.map sgnP) (.inl c)).isSome))
    rw [gk]
    cases e : s.lookup c <;> (rw [e] at q; exact q))
  unfold columnsFor at k
  cases e : s.lookup c with
  | none =>
    rw [e] at k t
    exact if_t t ⟨rfl, k⟩
  | some cols =>
    rw [e] at k t gk
    obtain ⟨ne, few, mem⟩ := lookup_ok ok e
    refine if_f t (next_go (seq_go ?_))
    refine lc_map (ρ1 := [.val (.int c), .val (signsD s), .un, .un, .un]) cols (fun x => .str (signOf x)) colD (fun Ψ h => ?_) (by omega) (.inl rfl) (fun x hx Ψ h => ⟨signOf x, rfl, sign_ok (mem x hx), by rw [columnBy_mem (mem x hx)]; exact h⟩) ?_
    · show match getK (s.map sgnP) (.inl c) with | some d => itemsD d _ | none => False
      rw [gk]
      show Ψ (signs (textOf cols)) _
      rw [signs_text]
      exact h
    refine ⟨trivial, ?_⟩
    dsimp only
    refine seq_go (ρ := [.val (.int c), .val (signsD s), .val (.lst (cols.map colD)), .un, .un]) ?_
    refine (if_f (evt_or (v := false) (evt_of fun Ψ q => ⟨rfl, okL_map colD fun x _ => ok_col x _, ?_⟩) (fun _ => evt_of (ev_op (y := .lst []) (ev_var rfl) (fun Ψ q => ⟨by simp, q⟩) fun Ψ q => ⟨ok_lst colD (fun x _ => ok_col x _), rfl, ?_⟩)) fun z => nomatch z) ?_)
    · have nn : ((cols.map colD).any fun z => D.eqv z .non) = false := by
        rw [List.any_map, List.any_eq_false]
        intro x _
        simp [colD, D.eqv, D.py, PyData.eqv]
      rw [nn]
      exact q
    · have e3 : D.eqv (.lst (cols.map colD)) (.lst []) = decide (cols = []) := eqv_lst colD eqv_col _ []
      rw [e3, decide_eq_false ne]
      exact q
    refine next_go ?_
    dsimp only
    refine lc_pure (ρ1 := [.val (.int c), .val (signsD s), .val (.lst (cols.map colD)), .un, .un]) every colD (fun x => decide (x ∈ cols)) colD (fun Ψ h => ⟨rfl, h⟩) (by decide) (.inl rfl) (fun x hx Ψ h => ?_) (fun x hx _ Ψ h => h) k
    refine ⟨ok_col x _, okL_map colD fun y _ => ok_col y _, ?_⟩
    rw [any_map colD eqv_col]
    exact h
end DL
set_option Elab.async false
set_option linter.all false
set_option maxRecDepth 100000
set_option maxHeartbeats 2000000
namespace DL
open PySem PySem.Spec PyProof.Rows L2 RT
variable [Tabl]

/-! ### passes_for -/
def figs10 : List Int := [0, 1, 2, 3, 4, 5, 6, 7, 8, 9]
def overs2 : List Int := [10, 11]
def passesAt (s : Signs) (p : Int × Bool) : List Pass := match onePass (columnsFor p.1 s) with
  | none => [⟨p.1, figs10, p.2⟩, ⟨p.1, overs2, p.2⟩]
  | some (ps, b) => if ps = [] then [] else [⟨p.1, ps, p.2 != b⟩]
def passesFor (o : Order) (s : Signs) : List Pass := o.reverse.flatMap (passesAt s)
theorem passesAt_len (s : Signs) (p : Int × Bool) : (passesAt s p).length ≤ 2 := by
  unfold passesAt
  split
  · simp
  · split <;> simp
theorem columnsFor_len (c : Int) (s : Signs) : (columnsFor c s).length ≤ 33 := by
  unfold columnsFor
  split
  · decide
  · exact Nat.le_trans (List.length_filter_le _ _) (by decide)
def F_passes_for : DF := fun xs Φ => ∃ (o : Order) (s : Signs), xs = [orderD o, signsD s] ∧ OrderOk o ∧ SignsOk s ∧ Φ (.own ((passesFor o s).map passD))
/- slots of passes_for: 0 order, 1 signs, 2 found, 3 column, 4 falling, 5 columns, 6 one -/
def b_passes_for : DS := (dSeq (dDrop (dCall F_need_order (dCons (dVar 0) dNil)))
  (dSeq (dSet 2 (dLst dNil))
  (dSeq (dFor (diRev (dVar 0)) (dgTup 2 (dgCons (dgName 3) (dgCons (dgName 4) dgNil))) (dSeq (dSet 5 (dR (dV (dCall F_columns_for (dCons (dVar 3) (dCons (dVar 1) dNil))))))
  (dSeq (dSet 6 (dR (dV (dCall F_one_pass (dCons (dVar 5) dNil)))))
  (dIfS (dTest (dOp isN (dVar 6) (dC .non))) (dSeq (dDrop (dApp 2 (dTup (dCons (dVar 3) (dCons (dC (.tup [.int 0, .int 1, .int 2, .int 3, .int 4, .int 5, .int 6, .int 7, .int 8, .int 9])) (dCons (dVar 4) dNil))))))
  (dDrop (dApp 2 (dTup (dCons (dVar 3) (dCons (dC (.tup [.int 10, .int 11])) (dCons (dVar 4) dNil))))))) (dIfS (dTest (dOp neD (dOp ixD (dVar 6) (dC (.int 0))) (dTup dNil))) (dDrop (dApp 2 (dTup (dCons (dVar 3) (dCons (dOp ixD (dVar 6) (dC (.int 0))) (dCons (dOp neD (dVar 4) (dOp ixD (dVar 6) (dC (.int 1)))) dNil)))))) dNext)))))
  (dRetM 2))))
theorem ev_tup3 {a b c : DE} {ρ : List Sl} {x y z : D} (h : Ev a ρ x) (g : Ev b ρ y) (l : Ev c ρ z) : Ev (dTup (dCons a (dCons b (dCons c dNil)))) ρ (.tup [x, y, z]) := fun Ψ q => h _ (g _ (l _ ⟨by simp, q⟩))
theorem rd_passes_for : ∀ xs Φ, F_passes_for xs Φ → b_passes_for (rtV Φ) (slots xs 7) := by
  rintro xs Φ ⟨o, s, rfl, oo, so, k⟩
  refine seq_go ⟨o, rfl, oo, ?_⟩
  dsimp only
  refine seq_go (ρ := [.val (orderD o), .val (signsD s), .un, .un, .un, .un, .un]) ⟨by simp, trivial, ?_⟩
  dsimp only
  refine seq_go (for_inv' (o.reverse.map ordD) (fun Ψ h => by rw [List.map_reverse] at h; exact h) (ρ1 := [.val (orderD o), .val (signsD s), .own [], .un, .un, .un, .un]) (fun rest ρ => ∃ (pre post : Order) (s3 s4 s5 s6 : Sl), o.reverse = pre ++ post ∧ rest = post.map ordD ∧ free [s3] 0 ∧ free [s4] 0 ∧ free [s5] 0 ∧ free [s6] 0 ∧
    ρ = [.val (orderD o), .val (signsD s), .own ((pre.flatMap (passesAt s)).map passD), s3, s4, s5, s6]) ⟨[], o.reverse, .un, .un, .un, .un, rfl, rfl, trivial, trivial, trivial, trivial, rfl⟩ ?_ ?_)
  · rintro d rest ρ ⟨pre, post, s3, s4, s5, s6, e1, e2, f3, f4, f5, f6, rfl⟩ J hJ
    cases post with
    | nil => cases e2
    | cons p post =>
      cases e2
      obtain ⟨c, fl⟩ := p
      have lp : pre.length ≤ 6 := by
        have h1 := congrArg List.length e1
        rw [List.length_append, List.length_reverse] at h1
        have := oo.1
        omega
      have ll : (pre.flatMap (passesAt s)).length ≤ 12 := by
        rw [List.length_flatMap]
        have : ∀ l : Order, (l.map fun a => (passesAt s a).length).sum ≤ 2 * l.length := fun l => by
          induction l with
          | nil => simp
          | cons a l ih =>
            rw [List.map_cons, List.sum_cons, List.length_cons]
            have := passesAt_len s a
            omega
        have := this pre
        omega
      have go : ∀ (more : List Pass) (v5 v6 : Sl), more = passesAt s (c, fl) → free [v5] 0 → free [v6] 0 → J [.val (orderD o), .val (signsD s), .own (((pre.flatMap (passesAt s)).map passD) ++ more.map passD), .val (.int c), .val (.bl fl), v5, v6] := fun more v5 v6 hm g5 g6 => by
        refine hJ _ ⟨pre ++ [(c, fl)], post, .val (.int c), .val (.bl fl), v5, v6, by rw [List.append_assoc]; exact e1, rfl, trivial, trivial, g5, g6, ?_⟩
        rw [List.flatMap_append, List.map_append, hm]
        simp
      refine ⟨rfl, f3, f4, ?_⟩
      show dSeq (dSet 5 (dR (dV (dCall F_columns_for (dCons (dVar 3) (dCons (dVar 1) dNil))))))
          (dSeq (dSet 6 (dR (dV (dCall F_one_pass (dCons (dVar 5) dNil)))))
          (dIfS (dTest (dOp isN (dVar 6) (dC .non))) (dSeq (dDrop (dApp 2 (dTup (dCons (dVar 3) (dCons (dC (.tup [.int 0, .int 1, .int 2, .int 3, .int 4, .int 5, .int 6, .int 7, .int 8, .int 9])) (dCons (dVar 4) dNil))))))
          (dDrop (dApp 2 (dTup (dCons (dVar 3) (dCons (dC (.tup [.int 10, .int 11])) (dCons (dVar 4) dNil))))))) (dIfS (dTest (dOp neD (dOp ixD (dVar 6) (dC (.int 0))) (dTup dNil))) (dDrop (dApp 2 (dTup (dCons (dVar 3) (dCons (dOp ixD (dVar 6) (dC (.int 0))) (dCons (dOp neD (dVar 4) (dOp ixD (dVar 6) (dC (.int 1)))) dNil)))))) dNext))) _ [.val (orderD o), .val (signsD s), .own ((pre.flatMap (passesAt s)).map passD), .val (.int c), .val (.bl fl), s5, s6]
      refine seq_go (ρ := [.val (orderD o), .val (signsD s), .own ((pre.flatMap (passesAt s)).map passD), .val (.int c), .val (.bl fl), s5, s6]) ?_
      refine set_e (x := .lst ((columnsFor c s).map colD)) (fun Ψ q => ⟨c, s, rfl, so, q⟩) f5 ?_
      dsimp only
      refine seq_go (ρ := [.val (orderD o), .val (signsD s), .own ((pre.flatMap (passesAt s)).map passD), .val (.int c), .val (.bl fl), .val (.lst ((columnsFor c s).map colD)), s6]) ?_
      refine set_e (x := oneD (onePass (columnsFor c s))) (fun Ψ q => ⟨columnsFor c s, rfl, by have := columnsFor_len c s; omega, q⟩) f6 ?_
      dsimp only
      have pa : passesAt s (c, fl) = match onePass (columnsFor c s) with
        | none => [⟨c, figs10, fl⟩, ⟨c, overs2, fl⟩]
        | some (ps, b) => if ps = [] then [] else [⟨c, ps, fl != b⟩] := rfl
      cases e : onePass (columnsFor c s) with
      | none =>
        rw [e] at pa
        refine if_t (ρ := [.val (orderD o), .val (signsD s), .own ((pre.flatMap (passesAt s)).map passD), .val (.int c), .val (.bl fl), .val (.lst ((columnsFor c s).map colD)), .val .non]) (evt_of fun Ψ q => q) ?_
        refine seq_go (app_own rfl (ev_tup3 (ev_var rfl) ev_c (ev_var rfl)) (by rw [List.length_map]; omega) ?_)
        refine app_own (i := 2) (ds := ((pre.flatMap (passesAt s)).map passD) ++ [passD ⟨c, figs10, fl⟩]) (x := passD ⟨c, overs2, fl⟩) (ρ := [.val (orderD o), .val (signsD s), .own (((pre.flatMap (passesAt s)).map passD) ++ [passD ⟨c, figs10, fl⟩]), .val (.int c), .val (.bl fl), .val (.lst ((columnsFor c s).map colD)), .val .non]) rfl (ev_tup3 (x := .int c) (z := .bl fl) (ev_var (i := 3) rfl) (ev_c (x := .tup (overs2.map D.int))) (ev_var (i := 4) rfl)) (by rw [List.length_append, List.length_map, List.length_singleton]; omega) ?_
        have := go [⟨c, figs10, fl⟩, ⟨c, overs2, fl⟩] (.val (.lst ((columnsFor c s).map colD))) (.val .non) pa.symm trivial trivial
        rw [List.append_assoc]
        exact this
      | some x =>
        obtain ⟨ps, b⟩ := x
        rw [e] at pa
        replace pa : passesAt s (c, fl) = if ps = [] then [] else [⟨c, ps, fl != b⟩] := pa
        refine if_f (ρ := [.val (orderD o), .val (signsD s), .own ((pre.flatMap (passesAt s)).map passD), .val (.int c), .val (.bl fl), .val (.lst ((columnsFor c s).map colD)), .val (.tup [rowD ps, .bl b])]) (evt_of fun Ψ q => q) ?_
        have e0 : Ev (dOp ixD (dVar 6) (dC (.int 0))) [.val (orderD o), .val (signsD s), .own ((pre.flatMap (passesAt s)).map passD), .val (.int c), .val (.bl fl), .val (.lst ((columnsFor c s).map colD)), .val (.tup [rowD ps, .bl b])] (rowD ps) := ev_at 0 rfl rfl
        have e1 : Ev (dOp ixD (dVar 6) (dC (.int 1))) [.val (orderD o), .val (signsD s), .own ((pre.flatMap (passesAt s)).map passD), .val (.int c), .val (.bl fl), .val (.lst ((columnsFor c s).map colD)), .val (.tup [rowD ps, .bl b])] (.bl b) := ev_at 1 rfl rfl
        have tt : EvT (dTest (dOp neD (dOp ixD (dVar 6) (dC (.int 0))) (dTup dNil))) [.val (orderD o), .val (signsD s), .own ((pre.flatMap (passesAt s)).map passD), .val (.int c), .val (.bl fl), .val (.lst ((columnsFor c s).map colD)), .val (.tup [rowD ps, .bl b])] (!decide (ps = [])) := evt_of (ev_op (y := .tup []) e0 (fun Ψ q => ⟨by simp, q⟩) fun Ψ q => ⟨ok_tup D.int fun i _ => ok_int i _, rfl, by
          have e3 : D.eqv (rowD ps) (.tup []) = decide (ps = []) := eqv_tup D.int eqv_int ps []
          rw [e3]
          exact q⟩)
        refine if_b tt (fun h => ?_) fun h => ?_
        · have hn : ps ≠ [] := by simpa using h
          rw [if_neg hn] at pa
          refine app_own rfl (ev_tup3 (ev_var rfl) e0 (ev_op (z := .bl (fl != b)) (ev_var rfl) e1 fun Ψ q => ⟨rfl, rfl, by
            have e3 : (!D.eqv (.bl fl) (.bl b)) = (fl != b) := by cases fl <;> cases b <;> rfl
            rw [e3]
            exact q⟩)) (by rw [List.length_map]; omega) ?_
          exact go [⟨c, ps, fl != b⟩] (.val (.lst ((columnsFor c s).map colD))) (.val (.tup [rowD ps, .bl b])) pa.symm trivial trivial
        · have hn : ps = [] := by simpa using h
          rw [if_pos hn] at pa
          have := go [] (.val (.lst ((columnsFor c s).map colD))) (.val (.tup [rowD ps, .bl b])) pa.symm trivial trivial
          rw [List.map_nil, List.append_nil] at this
          exact next_go this
  · rintro ρ ⟨pre, post, s3, s4, s5, s6, e1, e2, f3, f4, f5, f6, rfl⟩
    cases post with
    | nil =>
      rw [List.append_nil] at e1
      rw [← e1]
      exact k
    | cons _ _ => cases e2
end DL
set_option Elab.async false
set_option linter.all false
set_option maxRecDepth 100000
set_option maxHeartbeats 2000000
namespace DL
open PySem PySem.Spec PyProof.Rows L2 RT
variable [Tabl]

/-! ### _law_whole -/
def F_L_whole : DF := fun xs Φ => ∃ n : Int, xs = [.int n] ∧ Φ (.val (.bl true))
/- slots of _law_whole: 0 _law_found -/
def b_L_whole : DS := (dRet (dR (dAndV (dV (dCB isiD (dCons (dVar 0) (dCons (dC (.ty "int")) dNil)))) (dNotV (dV (dCB isiD (dCons (dVar 0) (dCons (dC (.ty "bool")) dNil))))))))
theorem ev_isi {e : DE} {ρ : List Sl} {x : D} {n : String} {b : Bool} (h : Ev e ρ x) (h1 : n ∈ ["str", "int", "bool", "tuple", "list"]) (h2 : tname x ∈ ["NoneType", "bool", "int", "str", "tuple", "list", "dict"]) (hb : isiB x n = b) : Ev (dV (dCB isiD (dCons e (dCons (dC (.ty n)) dNil)))) ρ (.bl b) := fun Ψ q => h _ ⟨h1, h2, by rw [hb]; exact q⟩
theorem ev_notB {e : DE} {ρ : List Sl} {b : Bool} (h : Ev e ρ (.bl b)) : Ev (dNotV e) ρ (.bl (!b)) := fun Ψ q => h _ q
theorem rd_L_whole : ∀ xs Φ, F_L_whole xs Φ → b_L_whole (rtV Φ) (slots xs 1) := by
  rintro xs Φ ⟨n, rfl, k⟩
  exact ret_e (ev_and (v := true) (w := true) (ev_isi (x := .int n) (ev_var rfl) (by decide) (by show "int" ∈ _; decide) rfl) (fun _ => ev_notB (b := false) (ev_isi (x := .int n) (ev_var rfl) (by decide) (by show "int" ∈ _; decide) rfl)) fun z => nomatch z) k
/-! ### texts of signs -/
theorem str_eq {a b : Str} (h : a.cps.toList = b.cps.toList) : a = b := by
  obtain ⟨x⟩ := a
  obtain ⟨y⟩ := b
  have e : x = y := by
    have := congrArg List.toArray h
    simpa using this
  rw [e]
theorem text_list (c : List Col) : (textOf c).cps.toList = c.map cpOf := tl_text c
theorem rev_text (c : List Col) : revS (textOf c) = textOf c.reverse := str_eq (by rw [revS_list, text_list, text_list, List.map_reverse])
theorem cutS_list (z : Str) (lo hi : Option Int) : (cutS z lo hi).cps.toList = cutD z.cps.toList lo hi := by
  unfold cutS cutD
  rw [Array.length_toList, List.toList_toArray]
  rfl
theorem cut_text (c : List Col) (j : Nat) : cutS (textOf c) none (some (j : Int)) = textOf (c.take j) := str_eq (by rw [cutS_list, cutD_take, text_list, text_list, List.map_take])
theorem append_list (a b : Str) : (a ++ b).cps.toList = a.cps.toList ++ b.cps.toList := by
  show (a.cps ++ b.cps).toList = _
  rw [Array.toList_append]
theorem add_text (c d : List Col) : textOf c ++ textOf d = textOf (c ++ d) := str_eq (by rw [append_list, text_list, text_list, text_list, List.map_append])
theorem textOf_len (c : List Col) : (textOf c).length = c.length := by
  show (textOf c).cps.size = _
  rw [← Array.length_toList, text_list, List.length_map]
theorem blank_text : (" " : Str) = textOf [[]] := by decide +kernel
theorem join_signs {c : List Col} (h : c.length ≤ 1000) {Φ : Sl → Prop} (k : Φ (.val (.str (textOf c)))) : joinD (.str "") [.lst (c.map fun x => D.str (signOf x))] Φ := by
  refine join_open (ys := c.map signOf) (by rw [List.map_map]; rfl) ?_ k
  have h1 : ((c.map signOf).map (·.length)).sum ≤ (c.map signOf).length * 1 := sum_le fun x hx => by
    obtain ⟨y, _, rfl⟩ := List.mem_map.mp hx
    exact Nat.le_refl 1
  have h2 : ("" : Str).length = 0 := by decide +kernel
  rw [List.length_map] at h1 ⊢
  rw [h2]
  omega
end DL
set_option Elab.async false
set_option linter.all false
set_option maxRecDepth 100000
set_option maxHeartbeats 2000000
namespace DL
open PySem PySem.Spec PyProof.Rows L2 RT
variable [Tabl]

/-! ### _law_signs -/
/-- what is told of a column has what the deck has there -/
structure SignFit (pals : List (List Col)) (p : Int × List Col) : Prop where
  low : 0 ≤ p.1
  mem : ∀ x ∈ p.2, x ∈ every
  ne : p.2 ≠ []
  few : p.2.length ≤ 100
  has : ∀ pal, pals[p.1.toNat]? = some pal → ∀ x ∈ pal, x ∈ p.2
  blank : (pals.length : Int) ≤ p.1 → ([] : Col) ∈ p.2
def SignsFit (pals : List (List Col)) (s : Signs) : Prop := ∀ p ∈ s, SignFit pals p
def F_L_signs : DFO := fun S xs Φ => Dice S ∧ ∃ pals : List (List Col), xs = [.lst (pals.map palD)] ∧ pals.length ≤ 12 ∧ (∀ p ∈ pals, PalOk p) ∧ ∀ (s : Signs) (q : Addr) S', SignsFit pals s → After S S' → Φ (.loc (.dic q (s.map sgnP))) S'
theorem putKD_new {s : Signs} {j : Int} (h : ∀ p ∈ s, p.1 < j) (cols : List Col) : putKD (s.map sgnP) (.inl j) (.str (textOf cols)) = (s ++ [(j, cols)]).map sgnP := by
  unfold putKD
  rw [if_neg]
  · rw [List.map_append]
    rfl
  · intro z
    obtain ⟨kv, hm, e⟩ := List.any_eq_true.mp z
    obtain ⟨p, hp, rfl⟩ := List.mem_map.mp hm
    have e2 : (Sum.inl p.1 : Key) = Sum.inl j := of_decide_eq_true e
    injection e2 with e3
    have := h p hp
    omega
abbrev stS (S : OT) (pals : List (List Col)) (q : Addr) (s : Signs) (a b c : Sl) : List Sl := [.arg S, .val (.lst (pals.map palD)), .loc (.dic q (s.map sgnP)), a, b, c]
def dsetK (Δ : Ds) (i : Nat) (dk : DE) : D → List Sl → Prop := fun y ρ0 => match ρ0[i]? with
  | some (.loc (.dic _ _)) => dk ρ0 fun x ρ2 => match ρ2[i]? with
    | some (.loc (.dic p kvs)) => match x.key with
      | some k => kvs.length ≤ 1000 ∧ Δ.nx (ρ2.set i (.loc (.dic p (putKD kvs k y))))
      | none => False
    | _ => False
  | _ => False
theorem dset_eq {Δ : Ds} {i : Nat} {dk dv : DE} {ρ : List Sl} (h : dv ρ (dsetK Δ i dk)) : dDSet i dk dv Δ ρ := h
/-- d[at] = text -/
theorem dset_go {Δ : Ds} {S : OT} {pals : List (List Col)} {q : Addr} {s : Signs} {j : Int} {b c : Sl} {cols : List Col} (h : ∀ p ∈ s, p.1 < j) (few : s.length ≤ 12)
    (k : Δ.nx (stS S pals q (s ++ [(j, cols)]) (.val (.int j)) b c)) : dsetK Δ 2 (dVar 3) (.str (textOf cols)) (stS S pals q s (.val (.int j)) b c) := by
  show (s.map sgnP).length ≤ 1000 ∧ Δ.nx _
  refine ⟨by rw [List.length_map]; omega, ?_⟩
  rw [putKD_new h]
  exact k
theorem ev_list2 {a b : DE} {ρ : List Sl} {x y : D} (h : Ev a ρ x) (g : Ev b ρ y) : Ev (dV (dLst (dCons a (dCons b dNil)))) ρ (.lst [x, y]) := fun Ψ q => h _ (g _ ⟨by simp, q⟩)
theorem ev_back {ρ : List Sl} {i : Nat} {t : Str} (h : ρ[i]? = some (.val (.str t))) (hl : t.length ≤ 1000) : Ev (dV (dOpR addD (dRevS (dVar i)) (dV (dSl (dVar i) dNoPart (dPart (dC (.int 1))))))) ρ (.str (revS t ++ cutS t none (some 1))) := fun Ψ q => by
  have v := ev_var h
  have l1 : (revS t).length = t.length := PyProof.Rows.step_rev_len t 0
  have l2 : (cutS t none (some 1)).length ≤ t.length := cutS_length t _ _
  have r : Ev (dRevS (dVar i)) ρ (.str (revS t)) := fun Ψ q => by
    refine v _ ?_
    exact ⟨by omega, q⟩
  have c : Ev (dV (dSl (dVar i) dNoPart (dPart (dC (.int 1))))) ρ (.str (cutS t none (some 1))) := fun Ψ q =>
    v (fun x ρ1 => dNoPart ρ1 fun l ρ2 => dPart (dC (.int 1)) ρ2 fun h ρ3 => slD x l h fun z => asD Ψ z ρ3) ⟨by omega, q⟩
  exact add_go (r _ (c _ ⟨by omega, q⟩))
/- slots of _law_signs: 0 _law_d, 1 _law_palettes_here, 2 _law_signs_here, 3 _law_at, 4 _law_some, 5 _law_column_here -/
def b_L_signs : DS := (dSeq (dSet 2 dNewDict)
  (dSeq (dFor (diRng1 (dV (dCB lenD (dCons (dVar 1) dNil)))) (dgName 3) (dIfS (dOr (dTest (dOp ltD (dV (dCB lenD (dCons (dOp ixD (dVar 1) (dVar 3)) dNil))) (dC (.int 33)))) (dTest (dOp eqD (dV (dCallO F_L_next 0 (dCons (dC (.int 2)) dNil))) (dC (.int 1))))) (dSeq (dSet 4 (dR (dV (dMt isS joinD (dC (.str "")) (dCons (dV (dLc (diAny (dOp ixD (dVar 1) (dVar 3))) (dgName 5) dYes (dV (dCall F_L_sign (dCons (dVar 5) dNil))) [5])) dNil)))))
  (dDSet 2 (dVar 3) (dOp ixD (dV (dLst (dCons (dVar 4) (dCons (dV (dOpR addD (dRevS (dVar 4)) (dV (dSl (dVar 4) dNoPart (dPart (dC (.int 1))))))) dNil)))) (dV (dCallO F_L_next 0 (dCons (dC (.int 2)) dNil)))))) dNext))
  (dSeq (dFor (diRng2 (dV (dCB lenD (dCons (dVar 1) dNil))) (dC (.int 12))) (dgName 3) (dIfS (dTest (dOp eqD (dV (dCallO F_L_next 0 (dCons (dC (.int 2)) dNil))) (dC (.int 1)))) (dDSet 2 (dVar 3) (dC (.str " "))) dNext))
  (dRetM 2))))
/-- the text of a palette is told -/
theorem tell_go {Δ : Ds} {S0 S : OT} {pals : List (List Col)} {q : Addr} {s : Signs} {j : Nat} {b : Sl} {pal : List Col} (a' : After S0 S) (hj : pals[j]? = some pal) (po : PalOk pal) (fb : free [b] 0) (h : ∀ p ∈ s, p.1 < (j : Int)) (few : s.length ≤ 12)
    (k : ∀ (S' : OT) (cols : List Col) (b' : Sl), After S0 S' → (∀ x ∈ pal, x ∈ cols) → (∀ x ∈ cols, x ∈ every) → cols ≠ [] → cols.length ≤ 100 → free [b'] 0 → Δ.nx (stS S' pals q (s ++ [((j : Int), cols)]) (.val (.int (j : Int))) b' .un)) :
    dSeq (dSet 4 (dR (dV (dMt isS joinD (dC (.str "")) (dCons (dV (dLc (diAny (dOp ixD (dVar 1) (dVar 3))) (dgName 5) dYes (dV (dCall F_L_sign (dCons (dVar 5) dNil))) [5])) dNil)))))
      (dDSet 2 (dVar 3) (dOp ixD (dV (dLst (dCons (dVar 4) (dCons (dV (dOpR addD (dRevS (dVar 4)) (dV (dSl (dVar 4) dNoPart (dPart (dC (.int 1))))))) dNil)))) (dV (dCallO F_L_next 0 (dCons (dC (.int 2)) dNil))))) Δ (stS S pals q s (.val (.int (j : Int))) b .un) := by
  have pl := po.len
  have pm : ∀ x ∈ pal, x ∈ every := fun x hx => po.2.subset hx
  refine seq_go ⟨trivial, ?_⟩
  refine lc_map (ρ1 := stS S pals q s (.val (.int (j : Int))) b .un) pal colD (fun x => .str (signOf x)) (fun Ψ h => ixL_nat (d := palD pal) (by rw [List.getElem?_map, hj]; rfl) h) (by omega) (.inl rfl) (fun x hx Ψ h => ⟨x, rfl, pm x hx, h⟩) ?_
  refine join_signs (by omega) ?_
  refine ⟨by exact fb, ?_⟩
  have tl : (textOf pal).length ≤ 33 := by rw [textOf_len]; exact pl
  show dDSet 2 (dVar 3) (dOp ixD (dV (dLst (dCons (dVar 4) (dCons (dV (dOpR addD (dRevS (dVar 4)) (dV (dSl (dVar 4) dNoPart (dPart (dC (.int 1))))))) dNil)))) (dV (dCallO F_L_next 0 (dCons (dC (.int 2)) dNil)))) Δ (stS S pals q s (.val (.int (j : Int))) (.val (.str (textOf pal))) .un)
  refine dset_eq (ix_go (ev_list2 (ev_var rfl) (ev_back rfl (by omega)) _ ?_))
  refine ⟨a'.1, 2, rfl, by decide, by decide, fun i S2 i0 i1 d2 r2 => ?_⟩
  have a2 : After S0 S2 := a'.trans ⟨d2, r2⟩
  have one : ∀ cols : List Col, (∀ x ∈ pal, x ∈ cols) → (∀ x ∈ cols, x ∈ pal) → cols.length ≤ 34 → dsetK Δ 2 (dVar 3) (.str (textOf cols)) (stS S2 pals q s (.val (.int (j : Int))) (.val (.str (textOf pal))) .un) := fun cols h1 h2 h3 =>
    dset_go h few (k S2 cols _ a2 h1 (fun x hx => pm x (h2 x hx)) (fun z => by
      obtain ⟨x, hx⟩ := List.exists_mem_of_ne_nil pal po.1
      have := h1 x hx
      rw [z] at this
      cases this) (by omega) trivial)
  obtain rfl | rfl : i = 0 ∨ i = 1 := by omega
  · show ixL [.str (textOf pal), .str (revS (textOf pal) ++ cutS (textOf pal) none (some 1))] (.int ((0 : Nat) : Int)) (fun z => dsetK Δ 2 (dVar 3) z (stS S2 pals q s (.val (.int (j : Int))) (.val (.str (textOf pal))) .un))
    exact ixL_nat (j := 0) (d := .str (textOf pal)) rfl (one pal (fun _ h => h) (fun _ h => h) (by omega))
  · show ixL [.str (textOf pal), .str (revS (textOf pal) ++ cutS (textOf pal) none (some 1))] (.int ((1 : Nat) : Int)) (fun z => dsetK Δ 2 (dVar 3) z (stS S2 pals q s (.val (.int (j : Int))) (.val (.str (textOf pal))) .un))
    refine ixL_nat (j := 1) (d := .str (revS (textOf pal) ++ cutS (textOf pal) none (some 1))) rfl ?_
    have e : revS (textOf pal) ++ cutS (textOf pal) none (some 1) = textOf (pal.reverse ++ pal.take 1) := by
      rw [rev_text, show (some (1 : Int)) = some ((1 : Nat) : Int) from rfl, cut_text, add_text]
    rw [e]
    refine one _ (fun x hx => List.mem_append_left _ (List.mem_reverse.mpr hx)) (fun x hx => ?_) (by rw [List.length_append, List.length_reverse, List.length_take]; omega)
    rcases List.mem_append.mp hx with z | z
    · exact List.mem_reverse.mp z
    · exact List.mem_of_mem_take z
end DL
set_option Elab.async false
set_option linter.all false
set_option maxRecDepth 100000
set_option maxHeartbeats 2000000
namespace DL
open PySem PySem.Spec PyProof.Rows L2 RT
variable [Tabl]

theorem fit_snoc {pals : List (List Col)} {s : Signs} {p : Int × List Col} (h : SignsFit pals s) (g : SignFit pals p) : SignsFit pals (s ++ [p]) := fun x hx => by
  rcases List.mem_append.mp hx with z | z
  · exact h x z
  · rw [List.mem_singleton.mp z]
    exact g
theorem low_snoc {s : Signs} {j : Nat} {cols : List Col} (h : ∀ p ∈ s, p.1 < (j : Int)) : ∀ p ∈ s ++ [((j : Int), cols)], p.1 < ((j + 1 : Nat) : Int) := fun x hx => by
  rcases List.mem_append.mp hx with z | z
  · have := h x z
    omega
  · rw [List.mem_singleton.mp z]
    push_cast
    omega
theorem signs_loop1 {Δ : Ds} {S0 : OT} {pals : List (List Col)} {q : Addr} (hp : pals.length ≤ 12) (po : ∀ p ∈ pals, PalOk p) (dS : Dice S0)
    (k : ∀ (S' : OT) (s : Signs) (a b : Sl), After S0 S' → SignsFit pals s → (∀ p ∈ s, p.1 < (pals.length : Int)) → s.length ≤ pals.length → free [a] 0 → free [b] 0 → Δ.nx (stS S' pals q s a b .un)) :
    dFor (diRng1 (dV (dCB lenD (dCons (dVar 1) dNil)))) (dgName 3) (dIfS (dOr (dTest (dOp ltD (dV (dCB lenD (dCons (dOp ixD (dVar 1) (dVar 3)) dNil))) (dC (.int 33)))) (dTest (dOp eqD (dV (dCallO F_L_next 0 (dCons (dC (.int 2)) dNil))) (dC (.int 1))))) (dSeq (dSet 4 (dR (dV (dMt isS joinD (dC (.str "")) (dCons (dV (dLc (diAny (dOp ixD (dVar 1) (dVar 3))) (dgName 5) dYes (dV (dCall F_L_sign (dCons (dVar 5) dNil))) [5])) dNil)))))
      (dDSet 2 (dVar 3) (dOp ixD (dV (dLst (dCons (dVar 4) (dCons (dV (dOpR addD (dRevS (dVar 4)) (dV (dSl (dVar 4) dNoPart (dPart (dC (.int 1))))))) dNil)))) (dV (dCallO F_L_next 0 (dCons (dC (.int 2)) dNil)))))) dNext) Δ (stS S0 pals q [] .un .un .un) := by
  have hn : (pals.map palD).length = pals.length := List.length_map _
  refine for_open (rng1_open (ρ := stS S0 pals q [] .un .un .un) (n := (pals.map palD).length) (ev_lenl (ev_var rfl)) (by omega) _ ?_)
  refine forL_inv (fun rest ρ => ∃ (j : Nat) (s : Signs) (S' : OT) (a b : Sl), rest = rng (pals.length - j) j 1 ∧ j ≤ pals.length ∧ (∀ p ∈ s, p.1 < (j : Int)) ∧ s.length ≤ j ∧ SignsFit pals s ∧ After S0 S' ∧ free [a] 0 ∧ free [b] 0 ∧ ρ = stS S' pals q s a b .un) ?_ ?_
    ⟨0, [], S0, .un, .un, by rw [hn]; rfl, Nat.zero_le _, by simp, Nat.le_refl _, (by intro p hp; cases hp), ⟨dS, rfl⟩, trivial, trivial, rfl⟩
  · rintro x rest ρ ⟨j, s, S', a, b, e, hj, low, few, fit, a', fa, fb, rfl⟩ J hJ
    have hlt : j < pals.length := by
      rcases Nat.lt_or_ge j pals.length with h | h
      · exact h
      · rw [show pals.length - j = 0 by omega] at e
        cases e
    rw [show pals.length - j = (pals.length - (j + 1)) + 1 by omega] at e
    cases e
    have hat : pals[j]? = some pals[j] := List.getElem?_eq_getElem hlt
    have pok := po pals[j] (List.getElem_mem hlt)
    generalize pals[j] = pal at hat pok
    refine ⟨fa, ?_⟩
    have next : ∀ (S2 : OT) (s2 : Signs) (b2 : Sl), After S0 S2 → SignsFit pals s2 → (∀ p ∈ s2, p.1 < ((j + 1 : Nat) : Int)) → s2.length ≤ j + 1 → free [b2] 0 → J (stS S2 pals q s2 (.val (.int (j : Int))) b2 .un) := fun S2 s2 b2 h1 h2 h3 h4 h5 =>
      hJ _ ⟨j + 1, s2, S2, .val (.int (j : Int)), b2, by push_cast; rfl, hlt, h3, h4, h2, h1, trivial, h5, rfl⟩
    have tell : ∀ S2, After S0 S2 → dSeq (dSet 4 (dR (dV (dMt isS joinD (dC (.str "")) (dCons (dV (dLc (diAny (dOp ixD (dVar 1) (dVar 3))) (dgName 5) dYes (dV (dCall F_L_sign (dCons (dVar 5) dNil))) [5])) dNil)))))
      (dDSet 2 (dVar 3) (dOp ixD (dV (dLst (dCons (dVar 4) (dCons (dV (dOpR addD (dRevS (dVar 4)) (dV (dSl (dVar 4) dNoPart (dPart (dC (.int 1))))))) dNil)))) (dV (dCallO F_L_next 0 (dCons (dC (.int 2)) dNil))))) { Δ with nx := J, ct := J, bk := Δ.nx } (stS S2 pals q s (.val (.int (j : Int))) b .un) := fun S2 h2 =>
      tell_go h2 hat pok fb low (by omega) fun S3 cols b3 h3 c1 c2 c3 c4 f3 => next S3 _ b3 h3 (fit_snoc fit ⟨by show (0 : Int) ≤ (j : Int); omega, c2, c3, c4, fun pal' e' => by
          have e2 : pals[((j : Int)).toNat]? = some pal := by rw [Int.toNat_natCast]; exact hat
          have e3 : some pal' = some pal := e'.symm.trans e2
          cases e3
          exact c1, fun h => by
            have h' : (pals.length : Int) ≤ (j : Int) := h
            omega⟩) (low_snoc low) (by rw [List.length_append]; simp; omega) f3
    have skip : ∀ S2, After S0 S2 → dNext { Δ with nx := J, ct := J, bk := Δ.nx } (stS S2 pals q s (.val (.int (j : Int))) b .un) := fun S2 h2 => next S2 s b h2 fit (fun p hp => by have := low p hp; omega) (by omega) fb
    have ix : Ev (dOp ixD (dVar 1) (dVar 3)) (stS S' pals q s (.val (.int (j : Int))) b .un) (palD pal) := ev_ixl (ev_var rfl) (ev_var rfl) (by rw [List.getElem?_map, hat]; rfl)
    have t1 : EvT (dTest (dOp ltD (dV (dCB lenD (dCons (dOp ixD (dVar 1) (dVar 3)) dNil))) (dC (.int 33)))) (stS S' pals q s (.val (.int (j : Int))) b .un) (decide (((pal.map colD).length : Int) < 33)) := evt_of (ev_op (ev_lenl ix) ev_c fun Ψ q => q)
    show dIfS _ _ _ { Δ with nx := J, ct := J, bk := Δ.nx } (stS S' pals q s (.val (.int (j : Int))) b .un)
    refine if_go (t1 _ ?_)
    refine iteD (fun _ => ?_) (fun _ => ?_)
    · exact tell S' a'
    · refine ⟨a'.1, 2, rfl, by decide, by decide, fun i S2 i0 i1 d2 r2 => ⟨ok_int _ _, ok_int _ _, ?_⟩⟩
      rw [eqv_int]
      refine iteD (fun _ => ?_) (fun _ => ?_)
      · exact tell S2 (a'.trans ⟨d2, r2⟩)
      · exact skip S2 (a'.trans ⟨d2, r2⟩)
  · rintro ρ ⟨j, s, S', a, b, e, hj, low, few, fit, a', fa, fb, rfl⟩
    have : j = pals.length := by
      rcases Nat.lt_or_ge j pals.length with h | h
      · rw [show pals.length - j = (pals.length - (j + 1)) + 1 by omega] at e
        cases e
      · omega
    subst this
    exact k S' s a b a' fit low few fa fb
end DL
set_option Elab.async false
set_option linter.all false
set_option maxRecDepth 100000
set_option maxHeartbeats 2000000
namespace DL
open PySem PySem.Spec PyProof.Rows L2 RT
variable [Tabl]

theorem signs_loop2 {Δ : Ds} {S0 S1 : OT} {pals : List (List Col)} {q : Addr} {s1 : Signs} {a1 b1 : Sl} (hp : pals.length ≤ 12) (h1 : After S0 S1) (fit1 : SignsFit pals s1) (low1 : ∀ p ∈ s1, p.1 < (pals.length : Int)) (few1 : s1.length ≤ pals.length) (fa1 : free [a1] 0) (fb1 : free [b1] 0)
    (k : ∀ (S' : OT) (s : Signs) (a b : Sl), After S0 S' → SignsFit pals s → Δ.nx (stS S' pals q s a b .un)) :
    dFor (diRng2 (dV (dCB lenD (dCons (dVar 1) dNil))) (dC (.int 12))) (dgName 3) (dIfS (dTest (dOp eqD (dV (dCallO F_L_next 0 (dCons (dC (.int 2)) dNil))) (dC (.int 1)))) (dDSet 2 (dVar 3) (dC (.str " "))) dNext) Δ (stS S1 pals q s1 a1 b1 .un) := by
  have hn : (pals.map palD).length = pals.length := List.length_map _
  have ln : Ev (dV (dCB lenD (dCons (dVar 1) dNil))) (stS S1 pals q s1 a1 b1 .un) (.int (pals.length : Nat)) := by
    have := ev_lenl (e := dVar 1) (ρ := stS S1 pals q s1 a1 b1 .un) (xs := pals.map palD) (ev_var rfl)
    rw [hn] at this
    exact this
  refine for_open (ln _ ⟨by unfold inR; omega, by unfold inR; omega, ?_⟩)
  have e12 : ((12 : Int) - (pals.length : Nat)).toNat = 12 - pals.length := by omega
  rw [e12]
  refine forL_inv (fun rest ρ => ∃ (j : Nat) (s : Signs) (S' : OT) (a b : Sl), rest = rng (12 - j) j 1 ∧ pals.length ≤ j ∧ j ≤ 12 ∧ (∀ p ∈ s, p.1 < (j : Int)) ∧ s.length ≤ j ∧ SignsFit pals s ∧ After S0 S' ∧ free [a] 0 ∧ free [b] 0 ∧ ρ = stS S' pals q s a b .un) ?_ ?_
    ⟨pals.length, s1, S1, a1, b1, rfl, Nat.le_refl _, hp, low1, few1, fit1, h1, fa1, fb1, rfl⟩
  · rintro x rest ρ ⟨j, s, S', a, b, e, hj0, hj, low, few, fit, a', fa, fb, rfl⟩ J hJ
    have hlt : j < 12 := by
      rcases Nat.lt_or_ge j 12 with h | h
      · exact h
      · rw [show 12 - j = 0 by omega] at e
        cases e
    rw [show 12 - j = (12 - (j + 1)) + 1 by omega] at e
    cases e
    refine ⟨fa, ?_⟩
    refine ⟨a'.1, 2, rfl, by decide, by decide, fun i S2 i0 i1 d2 r2 => ⟨ok_int _ _, ok_int _ _, ?_⟩⟩
    have a2 := a'.trans ⟨d2, r2⟩
    rw [eqv_int]
    refine iteD (fun _ => ?_) (fun _ => ?_)
    · show dDSet 2 (dVar 3) (dC (.str " ")) { Δ with nx := J, ct := J, bk := Δ.nx } (stS S2 pals q s (.val (.int (j : Int))) b .un)
      refine dset_eq ?_
      show dsetK _ 2 (dVar 3) (.str " ") _
      rw [blank_text]
      refine dset_go low (by omega) (hJ _ ⟨j + 1, s ++ [((j : Int), [[]])], S2, .val (.int (j : Int)), b, by push_cast; rfl, by omega, hlt, low_snoc low, by rw [List.length_append]; simp; omega, fit_snoc fit ⟨by show (0 : Int) ≤ (j : Int); omega, (by show ∀ x ∈ [([] : Col)], x ∈ every; decide), by simp, by simp, fun pal e' => ?_, fun _ => by simp⟩, a2, trivial, fb, rfl⟩)
      have e2 : pals[((j : Int)).toNat]? = none := by rw [Int.toNat_natCast]; exact List.getElem?_eq_none_iff.mpr hj0
      have e3 : some pal = none := e'.symm.trans e2
      cases e3
    · exact hJ _ ⟨j + 1, s, S2, .val (.int (j : Int)), b, by push_cast; rfl, by omega, hlt, fun p hp => by have := low p hp; omega, by omega, fit, a2, trivial, fb, rfl⟩
  · rintro ρ ⟨j, s, S', a, b, e, hj0, hj, low, few, fit, a', fa, fb, rfl⟩
    exact k S' s a b a' fit
theorem rd_L_signs : ∀ S xs Φ, F_L_signs S xs Φ → b_L_signs (rtO S Φ) (.arg S :: slots xs 5) := by
  rintro S xs Φ ⟨dS, pals, rfl, hp, po, k⟩
  refine seq_go (fun q => ⟨trivial, ?_⟩)
  dsimp only
  refine seq_go (ρ := stS S pals q [] .un .un .un) (signs_loop1 hp po dS fun S1 s1 a1 b1 h1 fit1 low1 few1 fa1 fb1 => ?_)
  dsimp only
  refine seq_go (ρ := stS S1 pals q s1 a1 b1 .un) (signs_loop2 hp h1 fit1 low1 few1 fa1 fb1 fun S2 s2 a2 b2 h2 fit2 => ?_)
  show dRetM 2 (rtO S Φ) (stS S2 pals q s2 a2 b2 .un)
  exact ⟨h2.2, k s2 q S2 fit2 h2⟩
end DL
set_option Elab.async false
set_option linter.all false
set_option maxRecDepth 100000
set_option maxHeartbeats 2000000
namespace DL
open PySem PySem.Spec PyProof.Rows L2 RT
variable [Tabl]

/-! ### a pass is a stable sort by its pockets -/
theorem flat_one {α : Type} (g : Nat → List α) (t0 : Nat) : ∀ n : Nat, t0 < n → (∀ t, t < n → t ≠ t0 → g t = []) → ((List.range n).map g).flatten = g t0
  | 0, h, _ => absurd h (Nat.not_lt_zero _)
  | n + 1, h, k => by
    rw [List.range_succ, List.map_append, List.flatten_append]
    by_cases e : t0 = n
    · subst e
      have z : ((List.range t0).map g).flatten = [] := by
        rw [List.flatten_eq_nil_iff]
        intro l hl
        obtain ⟨t, ht, rfl⟩ := List.mem_map.mp hl
        have := List.mem_range.mp ht
        exact k t (by omega) (by omega)
      rw [z]
      simp
    · rw [flat_one g t0 n (by omega) fun t ht => k t (by omega)]
      have z : g n = [] := k n (by omega) fun q => e q.symm
      simp [z]
theorem eqv_join {α : Type} {lt : α → α → Bool} (O : SrtO.Swo lt) {x y z : α} (h : SrtO.eqv lt x y = true) (g : SrtO.eqv lt x z = true) : SrtO.eqv lt y z = true := by
  obtain ⟨h1, h2⟩ := SrtO.eqv_iff.mp h
  obtain ⟨g1, g2⟩ := SrtO.eqv_iff.mp g
  exact SrtO.eqv_iff.mpr ⟨O.tr z x y g1 h2, O.tr y x z h1 g2⟩
theorem by_pockets {lt : Card → Card → Bool} {d : List Card} {p : Pass} (O : SrtO.Swo lt) (hd : ∀ c ∈ d, CardOk c)
    (H1 : ∀ x ∈ d, ∀ y ∈ d, lt x y = true → if p.falling = true then pocketOf y p.col p.places < pocketOf x p.col p.places else pocketOf x p.col p.places < pocketOf y p.col p.places)
    (H2 : ∀ x ∈ d, ∀ y ∈ d, SrtO.eqv lt x y = true → pocketOf x p.col p.places = pocketOf y p.col p.places) :
    SrtO.Srtd lt (passedL d p) ∧ SrtO.Stb lt (passedL d p) d := by
  have inP : ∀ {t : Nat} {x : Card}, x ∈ pocket d p (turnOf p t) → x ∈ d ∧ pocketOf x p.col p.places = (turnOf p t : Nat) := fun h => ⟨(List.mem_filter.mp h).1, of_decide_eq_true (List.mem_filter.mp h).2⟩
  have turn2 : ∀ t, turnOf p t = if p.falling = true then 12 - t else t := fun t => rfl
  refine ⟨?_, passed_perm hd, fun x => ?_⟩
  · rw [passedL_turn]
    unfold SrtO.Srtd
    rw [List.pairwise_flatten]
    refine ⟨fun l hl => ?_, ?_⟩
    · obtain ⟨t, _, rfl⟩ := List.mem_map.mp hl
      refine List.Pairwise.imp_of_mem (R := fun _ _ => True) (fun {x y} hx hy _ => ?_) (List.pairwise_of_forall fun _ _ => trivial)
      obtain ⟨x1, x2⟩ := inP hx
      obtain ⟨y1, y2⟩ := inP hy
      cases e : lt y x with
      | false => rfl
      | true =>
        have := H1 y y1 x x1 e
        split at this <;> omega
    · rw [List.pairwise_map]
      refine List.Pairwise.imp_of_mem (fun {a b} ha hb hab x hx y hy => ?_) (List.pairwise_lt_range (n := 13))
      obtain ⟨x1, x2⟩ := inP hx
      obtain ⟨y1, y2⟩ := inP hy
      have la := List.mem_range.mp ha
      have lb := List.mem_range.mp hb
      rw [turn2] at x2 y2
      cases e : lt y x with
      | false => rfl
      | true =>
        have q := H1 y y1 x x1 e
        by_cases hf : p.falling = true
        · rw [if_pos hf] at q x2 y2
          omega
        · rw [if_neg hf] at q x2 y2
          omega
  · by_cases he : ∃ y0 ∈ d, SrtO.eqv lt x y0 = true
    · obtain ⟨y0, h0, e0⟩ := he
      have same : ∀ y ∈ d, SrtO.eqv lt x y = true → pocketOf y p.col p.places = pocketOf y0 p.col p.places := fun y hy e => H2 y hy y0 h0 (eqv_join O e e0)
      obtain ⟨r0, r1⟩ := pocketOf_rng (a := p.col) (ps := p.places) (hd y0 h0)
      have ht : ∃ t0, t0 < 13 ∧ ((turnOf p t0 : Nat) : Int) = pocketOf y0 p.col p.places := by
        by_cases hf : p.falling = true
        · refine ⟨12 - (pocketOf y0 p.col p.places).toNat, by omega, ?_⟩
          rw [turn2, if_pos hf]
          omega
        · refine ⟨(pocketOf y0 p.col p.places).toNat, by omega, ?_⟩
          rw [turn2, if_neg hf]
          omega
      obtain ⟨t0, lt0, et0⟩ := ht
      rw [passedL_turn, List.filter_flatten, List.map_map]
      have inj : ∀ t, t < 13 → t ≠ t0 → ((turnOf p t : Nat) : Int) ≠ pocketOf y0 p.col p.places := fun t ht ne q => by
        rw [← et0, turn2, turn2] at q
        by_cases hf : p.falling = true
        · rw [if_pos hf, if_pos hf] at q
          omega
        · rw [if_neg hf, if_neg hf] at q
          omega
      rw [flat_one _ t0 13 lt0 fun t ht ne => ?_]
      · show (d.filter fun c => decide (pocketOf c p.col p.places = (turnOf p t0 : Nat))).filter (SrtO.eqv lt x) = _
        rw [List.filter_filter]
        refine List.filter_congr fun y hy => ?_
        cases e : SrtO.eqv lt x y with
        | false => simp
        | true =>
          rw [Bool.true_and, decide_eq_true_eq]
          rw [et0]
          exact same y hy e
      · show (d.filter fun c => decide (pocketOf c p.col p.places = (turnOf p t : Nat))).filter (SrtO.eqv lt x) = []
        rw [List.filter_filter, List.filter_eq_nil_iff]
        intro y hy z
        rw [Bool.and_eq_true, decide_eq_true_eq] at z
        exact inj t ht ne (z.2.symm.trans (same y hy z.1))
    · have none1 : ∀ l : List Card, (∀ y ∈ l, y ∈ d) → l.filter (SrtO.eqv lt x) = [] := fun l hl => List.filter_eq_nil_iff.mpr fun y hy z => he ⟨y, hl y hy, z⟩
      rw [none1 d fun _ h => h, none1 _ fun y hy => (passed_perm hd).subset hy]
end DL
set_option Elab.async false
set_option linter.all false
set_option maxRecDepth 100000
set_option maxHeartbeats 2000000
namespace DL
open PySem PySem.Spec PyProof.Rows L2 RT
variable [Tabl]

theorem every_keys : every.Pairwise fun a b => SrtO.lexB (keyOf a) (keyOf b) = true := by decide +kernel
theorem key_inj : ∀ a ∈ every, ∀ b ∈ every, keyOf a = keyOf b → a = b := by decide +kernel
theorem pair_mem {α : Type} {R S : α → α → Prop} (as : ∀ a b, R a b → R b a → False) : ∀ {l : List α}, l.Pairwise R → l.Pairwise S → ∀ {a b : α}, a ∈ l → b ∈ l → R a b → S a b
  | [], _, _, _, _, h, _, _ => nomatch h
  | x :: l, hR, hS, a, b, ha, hb, r => by
    obtain ⟨r1, r2⟩ := List.pairwise_cons.mp hR
    obtain ⟨s1, s2⟩ := List.pairwise_cons.mp hS
    rcases List.mem_cons.mp ha with e | ha2
    · rcases List.mem_cons.mp hb with e' | hb2
      · rw [e, e'] at r
        exact (as _ _ r r).elim
      · rw [e]
        exact s1 b hb2
    · rcases List.mem_cons.mp hb with e' | hb2
      · rw [e'] at r
        exact (as _ _ r (r1 a ha2)).elim
      · exact pair_mem as r2 s2 ha2 hb2 r
theorem lex_as (a b : Col) (h : SrtO.lexB (keyOf a) (keyOf b) = true) (g : SrtO.lexB (keyOf b) (keyOf a) = true) : False := by
  rw [lex_swo.asym _ _ h] at g
  cases g
theorem parts_mono {ps : List Int} {cols : List Col} (sub : cols.Sublist every) (h : parts ps cols = true) {a b : Col} (ha : a ∈ cols) (hb : b ∈ cols) (k : SrtO.lexB (keyOf a) (keyOf b) = true) : firstIn ps a < firstIn ps b := by
  have q := of_decide_eq_true (show decide _ = true from h)
  rw [List.pairwise_map] at q
  exact pair_mem (R := fun a b => SrtO.lexB (keyOf a) (keyOf b) = true) lex_as (every_keys.sublist sub) q ha hb k
theorem parts_anti {ps : List Int} {cols : List Col} (sub : cols.Sublist every) (h : parts ps cols.reverse = true) {a b : Col} (ha : a ∈ cols) (hb : b ∈ cols) (k : SrtO.lexB (keyOf a) (keyOf b) = true) : firstIn ps b < firstIn ps a := by
  have q := of_decide_eq_true (show decide _ = true from h)
  rw [List.pairwise_map, List.pairwise_reverse] at q
  exact pair_mem (R := fun a b => SrtO.lexB (keyOf a) (keyOf b) = true) (S := fun a b => firstIn ps b < firstIn ps a) lex_as (every_keys.sublist sub) q ha hb k
/-- a pass that parts the told columns sorts by them -/
theorem one_sorts {c : Int} {f b : Bool} {ps : List Int} {cols : List Col} {d : List Card} (sub : cols.Sublist every) (hd : ∀ x ∈ d, CardOk x) (told : ∀ x ∈ d, colAt x c ∈ cols) (h : (if b = true then parts ps cols.reverse else parts ps cols) = true) :
    SrtO.Srtd (ltC (c, f)) (passedL d ⟨c, ps, f != b⟩) ∧ SrtO.Stb (ltC (c, f)) (passedL d ⟨c, ps, f != b⟩) d := by
  refine by_pockets (ltC_swo _) hd (fun x hx y hy k => ?_) fun x hx y hy k => ?_
  · have tx := told x hx
    have ty := told y hy
    unfold ltC at k
    show if (f != b) = true then firstIn ps (colAt y c) < firstIn ps (colAt x c) else firstIn ps (colAt x c) < firstIn ps (colAt y c)
    cases f <;> cases b
    · exact parts_mono sub h tx ty k
    · exact parts_anti sub h tx ty k
    · exact parts_mono sub h ty tx k
    · exact parts_anti sub h ty tx k
  · have e := eqvC.mp k
    have e2 : colAt x c = colAt y c := key_inj _ ((hd x hx).col c) _ ((hd y hy).col c) e
    show firstIn ps (colAt x c) = firstIn ps (colAt y c)
    rw [e2]
/-- no places: there is but one column -/
theorem none_sorts {c : Int} {f b : Bool} {cols : List Col} {d : List Card} (sub : cols.Sublist every) (told : ∀ x ∈ d, colAt x c ∈ cols) (h : (if b = true then parts [] cols.reverse else parts [] cols) = true) :
    SrtO.Srtd (ltC (c, f)) d ∧ SrtO.Stb (ltC (c, f)) d d := by
  have z : ∀ a : Col, firstIn [] a = 0 := fun a => by
    induction a with
    | nil => rfl
    | cons x r ih =>
      unfold firstIn
      rw [if_neg (by simp)]
      exact ih
  have no : ∀ a ∈ cols, ∀ b' ∈ cols, SrtO.lexB (keyOf a) (keyOf b') = true → False := fun a ha b' hb k => by
    cases b
    · have := parts_mono sub h ha hb k
      rw [z, z] at this
      omega
    · have := parts_anti sub h ha hb k
      rw [z, z] at this
      omega
  refine ⟨?_, SrtO.Stb.refl d⟩
  refine List.Pairwise.imp_of_mem (R := fun _ _ => True) (fun {x y} hx hy _ => ?_) (List.pairwise_of_forall fun _ _ => trivial)
  cases e : ltC (c, f) y x with
  | false => rfl
  | true =>
    unfold ltC at e
    cases f
    · exact (no _ (told y hy) _ (told x hx) e).elim
    · exact (no _ (told x hx) _ (told y hy) e).elim
end DL
set_option Elab.async false
set_option linter.all false
set_option maxRecDepth 100000
set_option maxHeartbeats 2000000
namespace DL
open PySem PySem.Spec PyProof.Rows L2 RT
variable [Tabl]

/-! ### two passes, one behind the other -/
def byI (g : Card → Int) (f : Bool) (x y : Card) : Bool := if f = true then decide (g y < g x) else decide (g x < g y)
theorem byI_swo (g : Card → Int) (f : Bool) : SrtO.Swo (byI g f) := by
  unfold byI
  cases f
  · exact ⟨fun x y h => by simp at h ⊢; omega, fun x y z h1 h2 => by simp at h1 h2 ⊢; omega⟩
  · exact ⟨fun x y h => by simp at h ⊢; omega, fun x y z h1 h2 => by simp at h1 h2 ⊢; omega⟩
theorem byI_eqv {g : Card → Int} {f : Bool} {x y : Card} : SrtO.eqv (byI g f) x y = true ↔ g x = g y := by
  rw [SrtO.eqv_iff]
  unfold byI
  cases f <;> simp <;> omega
theorem radixG {lt lt1 lt2 : Card → Card → Bool} {r d' d : List Card} (O2 : SrtO.Swo lt2) (hl : ∀ x y, lt x y = true → lt2 x y = true ∨ (SrtO.eqv lt2 x y = true ∧ lt1 x y = true)) (he : ∀ x y, SrtO.eqv lt x y = (SrtO.eqv lt2 x y && SrtO.eqv lt1 x y))
    (h1 : SrtO.Srtd lt2 r) (s1 : SrtO.Stb lt2 r d') (h2 : SrtO.Srtd lt1 d') (s2 : SrtO.Stb lt1 d' d) : SrtO.Srtd lt r ∧ SrtO.Stb lt r d := by
  refine ⟨?_, s1.perm.trans s2.perm, fun x => ?_⟩
  · have cls := cls_pair (R := fun x y => lt1 y x = false) O2 (r := r) fun x => by
      rw [s1.cls x]
      exact h2.sublist List.filter_sublist
    refine (h1.and cls).imp fun {x y} ⟨a, b⟩ => ?_
    show lt y x = false
    cases e : lt y x with
    | false => rfl
    | true =>
      rcases hl y x e with q | ⟨q, q2⟩
      · have a' : lt2 y x = false := a
        rw [q] at a'
        cases a'
      · obtain ⟨e1, e2⟩ := SrtO.eqv_iff.mp q
        rw [b (SrtO.eqv_iff.mpr ⟨e2, e1⟩)] at q2
        cases q2
  · have e : SrtO.eqv lt x = fun y => SrtO.eqv lt2 x y && SrtO.eqv lt1 x y := funext fun y => he x y
    have e2 : (fun y => SrtO.eqv lt2 x y && SrtO.eqv lt1 x y) = fun y => SrtO.eqv lt1 x y && SrtO.eqv lt2 x y := funext fun y => Bool.and_comm _ _
    rw [e, e2, ← List.filter_filter, s1.cls x, List.filter_filter, ← e2, ← List.filter_filter, s2.cls x, List.filter_filter]
theorem figs_first : ∀ a ∈ every, firstIn figs10 a = figOf a + 1 := by decide +kernel
theorem overs_first : ∀ a ∈ every, firstIn overs2 a = if overOf a < 0 then 0 else overOf a + 1 := by decide +kernel
theorem over_low : ∀ a ∈ every, -1 ≤ overOf a := by decide +kernel
def figAt (c : Int) (x : Card) : Int := figOf (colAt x c)
def overAt (c : Int) (x : Card) : Int := overOf (colAt x c)
theorem two_sorts {c : Int} {f : Bool} {d : List Card} (hd : ∀ x ∈ d, CardOk x) :
    SrtO.Srtd (ltC (c, f)) (passedL (passedL d ⟨c, figs10, f⟩) ⟨c, overs2, f⟩) ∧ SrtO.Stb (ltC (c, f)) (passedL (passedL d ⟨c, figs10, f⟩) ⟨c, overs2, f⟩) d := by
  have hd1 : ∀ x ∈ passedL d ⟨c, figs10, f⟩, CardOk x := fun x hx => hd x ((passed_perm hd).subset hx)
  obtain ⟨a1, a2⟩ := by_pockets (lt := byI (figAt c) f) (d := d) (p := ⟨c, figs10, f⟩) (byI_swo _ _) hd (fun x hx y hy k => by
    have ex := figs_first _ ((hd x hx).col c)
    have ey := figs_first _ ((hd y hy).col c)
    show if f = true then firstIn figs10 (colAt y c) < firstIn figs10 (colAt x c) else firstIn figs10 (colAt x c) < firstIn figs10 (colAt y c)
    rw [ex, ey]
    unfold byI figAt at k
    cases f <;> simp at k ⊢ <;> omega) (fun x hx y hy k => by
    have ex := figs_first _ ((hd x hx).col c)
    have ey := figs_first _ ((hd y hy).col c)
    have e := byI_eqv.mp k
    unfold figAt at e
    show firstIn figs10 (colAt x c) = firstIn figs10 (colAt y c)
    rw [ex, ey, e])
  obtain ⟨b1, b2⟩ := by_pockets (lt := byI (overAt c) f) (d := passedL d ⟨c, figs10, f⟩) (p := ⟨c, overs2, f⟩) (byI_swo _ _) hd1 (fun x hx y hy k => by
    have ex := overs_first _ ((hd1 x hx).col c)
    have ey := overs_first _ ((hd1 y hy).col c)
    have lx := over_low _ ((hd1 x hx).col c)
    have ly := over_low _ ((hd1 y hy).col c)
    show if f = true then firstIn overs2 (colAt y c) < firstIn overs2 (colAt x c) else firstIn overs2 (colAt x c) < firstIn overs2 (colAt y c)
    rw [ex, ey]
    unfold byI overAt at k
    cases f
    · simp at k ⊢
      split <;> split <;> omega
    · simp at k ⊢
      split <;> split <;> omega) (fun x hx y hy k => by
    have ex := overs_first _ ((hd1 x hx).col c)
    have ey := overs_first _ ((hd1 y hy).col c)
    have e := byI_eqv.mp k
    unfold overAt at e
    show firstIn overs2 (colAt x c) = firstIn overs2 (colAt y c)
    rw [ex, ey, e])
  refine radixG (byI_swo (overAt c) f) (fun x y k => ?_) (fun x y => ?_) b1 b2 a1 a2
  · rw [byI_eqv]
    unfold ltC at k
    unfold byI overAt figAt
    cases f
    · have q := SrtO.lexB_iff.mp (show SrtO.lexB (keyAt (c, false) x) (keyAt (c, false) y) = true from k)
      simp
      exact q
    · have q := SrtO.lexB_iff.mp (show SrtO.lexB (keyAt (c, true) y) (keyAt (c, true) x) = true from k)
      simp
      rcases q with q | q
      · exact .inl q
      · exact .inr ⟨q.1.symm, q.2⟩
  · rw [Bool.eq_iff_iff, Bool.and_eq_true, eqvC, byI_eqv, byI_eqv]
    show keyOf (colAt x c) = keyOf (colAt y c) ↔ _
    unfold keyOf overAt figAt
    rw [Prod.mk.injEq]
end DL
set_option Elab.async false
set_option linter.all false
set_option maxRecDepth 100000
set_option maxHeartbeats 2000000
namespace DL
open PySem PySem.Spec PyProof.Rows L2 RT
variable [Tabl]

/-! ### the passes made sort each deck with the told signs -/
theorem onePass_some {cols : List Col} {ps : List Int} {b : Bool} (h : onePass cols = some (ps, b)) : (if b = true then parts ps cols.reverse else parts ps cols) = true ∧ ps ∈ subsets cols := by
  unfold onePass at h
  split at h
  · cases h
  · obtain ⟨r, hr, e⟩ := List.exists_of_findSome?_eq_some h
    unfold tryP at e
    have mem : r ∈ subsets cols := (List.mergeSort_perm _ _).mem_iff.mp hr
    split at e
    · rename_i q
      cases e
      exact ⟨q, mem⟩
    · split at e
      · rename_i q
        cases e
        exact ⟨q, mem⟩
      · cases e
theorem subsets_sub (cols : List Col) : ∀ (ps pre : List Int) (rows : List (List Int)), (∀ r ∈ rows, r.Sublist pre) → ∀ r ∈ ps.foldl (growP cols) rows, r.Sublist (pre ++ ps)
  | [], pre, rows, h, r, hr => by
    rw [List.append_nil]
    exact h r hr
  | p :: ps, pre, rows, h, r, hr => by
    have := subsets_sub cols ps (pre ++ [p]) (growP cols rows p) (fun r' hr' => by
      rcases growP_mem hr' with z | ⟨r0, z, e⟩
      · exact (h r' z).trans (List.sublist_append_left _ _)
      · rw [e]
        exact (h r0 z).append (List.Sublist.refl _)) r hr
    rw [List.append_assoc] at this
    exact this
theorem subset_places {cols : List Col} {ps : List Int} (h : ps ∈ subsets cols) : ps.Pairwise (· < ·) ∧ ∀ x ∈ ps, 0 ≤ x ∧ x < 12 := by
  have q := subsets_sub cols places12 [] [[]] (by simp) ps h
  rw [List.nil_append] at q
  refine ⟨(show places12.Pairwise (· < ·) by decide).sublist q, fun x hx => ?_⟩
  have : ∀ y ∈ places12, 0 ≤ y ∧ y < 12 := by decide
  exact this x (q.subset hx)
theorem columnsFor_sub (c : Int) (s : Signs) : (columnsFor c s).Sublist every := by
  unfold columnsFor
  split
  · exact List.Sublist.refl _
  · exact List.filter_sublist
theorem passesAt_sorts {s : Signs} {c : Int} {f : Bool} {d : List Card} (hd : ∀ x ∈ d, CardOk x) (told : ∀ x ∈ d, colAt x c ∈ columnsFor c s) :
    SrtO.Srtd (ltC (c, f)) ((passesAt s (c, f)).foldl passedL d) ∧ SrtO.Stb (ltC (c, f)) ((passesAt s (c, f)).foldl passedL d) d := by
  have pa : passesAt s (c, f) = match onePass (columnsFor c s) with
    | none => [⟨c, figs10, f⟩, ⟨c, overs2, f⟩]
    | some (ps, b) => if ps = [] then [] else [⟨c, ps, f != b⟩] := rfl
  cases e : onePass (columnsFor c s) with
  | none =>
    rw [e] at pa
    rw [pa]
    exact two_sorts hd
  | some x =>
    obtain ⟨ps, b⟩ := x
    rw [e] at pa
    replace pa : passesAt s (c, f) = if ps = [] then [] else [⟨c, ps, f != b⟩] := pa
    obtain ⟨h1, h2⟩ := onePass_some e
    by_cases z : ps = []
    · rw [if_pos z] at pa
      rw [pa]
      subst z
      exact none_sorts (columnsFor_sub c s) told h1
    · rw [if_neg z] at pa
      rw [pa]
      exact one_sorts (columnsFor_sub c s) hd told h1
theorem passes_sort2 {s : Signs} : ∀ {o : Order} {d : List Card}, (∀ x ∈ d, CardOk x) → (∀ p ∈ o, ∀ x ∈ d, colAt x p.1 ∈ columnsFor p.1 s) →
    SrtO.Srtd (ltO o) ((passesFor o s).foldl passedL d) ∧ SrtO.Stb (ltO o) ((passesFor o s).foldl passedL d) d
  | [], d, _, _ => ⟨List.pairwise_of_forall fun _ _ => rfl, SrtO.Stb.refl d⟩
  | (c, f) :: o, d, hd, told => by
    have e : passesFor ((c, f) :: o) s = passesFor o s ++ passesAt s (c, f) := by
      unfold passesFor
      rw [List.reverse_cons, List.flatMap_append]
      simp
    rw [e, List.foldl_append]
    obtain ⟨a1, a2⟩ := passes_sort2 (s := s) (o := o) hd fun p hp => told p (List.mem_cons_of_mem _ hp)
    have sub : ∀ x ∈ (passesFor o s).foldl passedL d, x ∈ d := fun x hx => a2.perm.subset hx
    obtain ⟨b1, b2⟩ := passesAt_sorts (s := s) (c := c) (f := f) (d := (passesFor o s).foldl passedL d) (fun x hx => hd x (sub x hx)) fun x hx => told (c, f) List.mem_cons_self x (sub x hx)
    exact radix b1 b2 a1 a2
theorem passes_sort {s : Signs} {o : Order} {d : List Card} (hd : ∀ x ∈ d, CardOk x) (told : ∀ p ∈ o, ∀ x ∈ d, colAt x p.1 ∈ columnsFor p.1 s) : (passesFor o s).foldl passedL d = sortO o d := by
  obtain ⟨a1, a2⟩ := passes_sort2 hd told
  exact sort_uniq (ltO_swo o) a1 a2
/-- of the passes that are made -/
theorem passesFor_ok {s : Signs} {o : Order} (ho : ∀ p ∈ o, 0 ≤ p.1 ∧ p.1 < 12) : ∀ p ∈ passesFor o s, PassOk p ∧ p.places.Pairwise (· < ·) ∧ ∀ x ∈ p.places, 0 ≤ x ∧ x < 12 := by
  intro p hp
  obtain ⟨⟨c, f⟩, hc, hm⟩ := List.mem_flatMap.mp hp
  have hc' := ho _ (List.mem_reverse.mp hc)
  have pa : passesAt s (c, f) = match onePass (columnsFor c s) with
    | none => [⟨c, figs10, f⟩, ⟨c, overs2, f⟩]
    | some (ps, b) => if ps = [] then [] else [⟨c, ps, f != b⟩] := rfl
  cases e : onePass (columnsFor c s) with
  | none =>
    rw [e] at pa
    rw [pa] at hm
    rcases List.mem_cons.mp hm with z | z
    · rw [z]
      exact ⟨hc', (show (figs10 : List Int).Pairwise (· < ·) by decide), (show ∀ x ∈ figs10, 0 ≤ x ∧ x < 12 by decide)⟩
    · rw [List.mem_singleton.mp z]
      exact ⟨hc', (show (overs2 : List Int).Pairwise (· < ·) by decide), (show ∀ x ∈ overs2, 0 ≤ x ∧ x < 12 by decide)⟩
  | some x =>
    obtain ⟨ps, b⟩ := x
    rw [e] at pa
    replace pa : passesAt s (c, f) = if ps = [] then [] else [⟨c, ps, f != b⟩] := pa
    rw [pa] at hm
    split at hm
    · cases hm
    · rw [List.mem_singleton.mp hm]
      obtain ⟨h1, h2⟩ := subset_places (onePass_some e).2
      exact ⟨hc', h1, h2⟩
end DL
set_option Elab.async false
set_option linter.all false
set_option maxRecDepth 100000
set_option maxHeartbeats 2000000
namespace DL
open PySem PySem.Spec PyProof.Rows L2 RT
variable [Tabl]

theorem lookup_mem {s : Signs} {c : Int} {cols : List Col} (e : s.lookup c = some cols) : (c, cols) ∈ s := by
  induction s with
  | nil => cases e
  | cons p s ih =>
    obtain ⟨i, l⟩ := p
    by_cases q : c = i
    · subst q
      simp [List.lookup] at e
      rw [e]
      exact List.mem_cons_self
    · have : (c == i) = false := by simp [q]
      simp [List.lookup, this] at e
      exact List.mem_cons_of_mem _ (ih e)
theorem pick_get : ∀ {x : Card} {pals : List (List Col)} {j : Nat} {pal : List Col}, Pick x pals → pals[j]? = some pal → x.getD j [] ∈ pal
  | [], [], _, _, _, e => by simp at e
  | c :: cs, p :: ps, 0, pal, h, e => by
    simp at e
    subst e
    exact h.1
  | c :: cs, p :: ps, j + 1, pal, h, e => by
    have := pick_get (j := j) h.2 (by simpa using e)
    simpa using this
  | [], _ :: _, _, _, h, _ => h.elim
  | _ :: _, [], _, _, h, _ => h.elim
theorem fit_ok {pals : List (List Col)} {s : Signs} (h : SignsFit pals s) : SignsOk s := fun p hp => ⟨(h p hp).ne, (h p hp).few, (h p hp).mem⟩
theorem fit_told {pals : List (List Col)} {s : Signs} {x : Card} {c : Int} (h : SignsFit pals s) (hx : Pick x pals) (ok : CardOk x) (h0 : 0 ≤ c) : colAt x c ∈ columnsFor c s := by
  unfold columnsFor
  cases e : s.lookup c with
  | none => exact ok.col c
  | some cols =>
    have f := h _ (lookup_mem e)
    refine List.mem_filter.mpr ⟨ok.col c, decide_eq_true ?_⟩
    cases q : pals[c.toNat]? with
    | some pal => exact f.has pal q _ (pick_get hx q)
    | none =>
      have hl : pals.length ≤ c.toNat := List.getElem?_eq_none_iff.mp q
      have e2 : colAt x c = [] := by
        unfold colAt
        rw [List.getD_eq_getElem?_getD, List.getElem?_eq_none_iff.mpr (by rw [hx.length]; exact hl)]
        rfl
      rw [e2]
      exact f.blank (by show (pals.length : Int) ≤ c; omega)
/- slots of law: 0 _law_script, 1 _law_d, 2 _law_palettes_here, 3 _law_order_here, 4 _law_signs_here, 5 _law_passes, 6 _law_one, 7 _law_turn, 8 _law_deck_here, 9 _law_due, 10 _law_place -/
def b_law : DS := (dSeq (dSetT 1 (dCall F_L_dice (dCons (dVar 0) dNil)))
  (dSeq (dSet 2 (dR (dV (dCallO F_L_palettes 1 dNil))))
  (dSeq (dSet 3 (dR (dV (dCallO F_L_order 1 (dCons (dV (dCB min2D (dCons (dC (.int 12)) (dCons (dV (dOpR addD (dV (dCB lenD (dCons (dVar 2) dNil))) (dC (.int 1)))) dNil)))) dNil)))))
  (dSeq (dSet 4 (dR (dV (dCallO F_L_signs 1 (dCons (dVar 2) dNil)))))
  (dSeq (dSet 5 (dR (dV (dCall F_passes_for (dCons (dVar 3) (dCons (dVar 4) dNil))))))
  (dSeq (dIfS (dNot (dTest (dV (dCB isiD (dCons (dVar 5) (dCons (dC (.ty "list")) dNil)))))) (dRet (dR (dC (.bl false)))) dNext)
  (dSeq (dFor (diAny (dVar 5)) (dgName 6) (dSeq (dIfS (dOr (dNot (dTest (dV (dCB isiD (dCons (dVar 6) (dCons (dC (.ty "tuple")) dNil)))))) (dOr (dTest (dOp neD (dV (dCB lenD (dCons (dVar 6) dNil))) (dC (.int 3)))) (dOr (dNot (dTest (dV (dCall F_L_whole (dCons (dOp ixD (dVar 6) (dC (.int 0))) dNil))))) (dNot (dTest (dV (dCB isiD (dCons (dOp ixD (dVar 6) (dC (.int 2))) (dCons (dC (.ty "bool")) dNil))))))))) (dRet (dR (dC (.bl false)))) dNext)
  (dSeq (dIfS (dOr (dNot (dTest (dV (dCB isiD (dCons (dOp ixD (dVar 6) (dC (.int 1))) (dCons (dC (.ty "tuple")) dNil)))))) (dTest (dOp neD (dV (dCB listD (dCons (dOp ixD (dVar 6) (dC (.int 1))) dNil))) (dV (dSortSetI (dOp ixD (dVar 6) (dC (.int 1)))))))) (dRet (dR (dC (.bl false)))) dNext)
  (dIfS (dTest (dOp neD (dV (dLc (diAny (dOp ixD (dVar 6) (dC (.int 1)))) (dgName 10) (dOr (dNot (dTest (dV (dCall F_L_whole (dCons (dVar 10) dNil))))) (dNot (dTest (dChain leD ltD (dC (.int 0)) (dVar 10) (dC (.int 12)))))) (dVar 10) [10])) (dV (dLst dNil)))) (dRet (dR (dC (.bl false)))) dNext))))
  (dSeq (dFor (diRng1 (dC (.int 3))) (dgName 7) (dSeq (dSet 8 (dR (dV (dCallO F_L_deck 1 (dCons (dVar 2) (dCons (dC (.int 25)) dNil))))))
  (dSeq (dSet 9 (dR (dV (dCall F_L_sorted (dCons (dVar 8) (dCons (dVar 3) dNil))))))
  (dIfS (dOr (dTest (dOp neD (dV (dCall F_L_by (dCons (dVar 8) (dCons (dVar 5) dNil)))) (dVar 9))) (dTest (dOp neD (dV (dCall F_sorted_by (dCons (dVar 8) (dCons (dVar 5) dNil)))) (dVar 9)))) (dRet (dR (dC (.bl false)))) dNext))))
  (dRet (dR (dOp eqD (dV (dCall F_passes_for (dCons (dVar 3) (dCons (dVar 4) dNil)))) (dVar 5))))))))))))

abbrev st5 (z : D) (S : OT) (pals : List (List Col)) (o : Order) (s : Signs) (a b c d e : Sl) : List Sl := [.val z, .loc S, .val (.lst (pals.map palD)), .val (orderD o), .val (signsD s), .val (.lst ((passesFor o s).map passD)), a, b, c, d, e]
theorem check5 {Δ : Ds} {z : D} {S : OT} {pals : List (List Col)} {o : Order} {s : Signs} {p : Pass} (h1 : p.places.Pairwise (· < ·)) (h2 : ∀ x ∈ p.places, 0 ≤ x ∧ x < 12) (few : p.places.length < 64) (k : Δ.nx (st5 z S pals o s (.val (passD p)) .un .un .un .un)) :
    (dSeq (dIfS (dOr (dNot (dTest (dV (dCB isiD (dCons (dVar 6) (dCons (dC (.ty "tuple")) dNil)))))) (dOr (dTest (dOp neD (dV (dCB lenD (dCons (dVar 6) dNil))) (dC (.int 3)))) (dOr (dNot (dTest (dV (dCall F_L_whole (dCons (dOp ixD (dVar 6) (dC (.int 0))) dNil))))) (dNot (dTest (dV (dCB isiD (dCons (dOp ixD (dVar 6) (dC (.int 2))) (dCons (dC (.ty "bool")) dNil))))))))) (dRet (dR (dC (.bl false)))) dNext)
  (dSeq (dIfS (dOr (dNot (dTest (dV (dCB isiD (dCons (dOp ixD (dVar 6) (dC (.int 1))) (dCons (dC (.ty "tuple")) dNil)))))) (dTest (dOp neD (dV (dCB listD (dCons (dOp ixD (dVar 6) (dC (.int 1))) dNil))) (dV (dSortSetI (dOp ixD (dVar 6) (dC (.int 1)))))))) (dRet (dR (dC (.bl false)))) dNext)
  (dIfS (dTest (dOp neD (dV (dLc (diAny (dOp ixD (dVar 6) (dC (.int 1)))) (dgName 10) (dOr (dNot (dTest (dV (dCall F_L_whole (dCons (dVar 10) dNil))))) (dNot (dTest (dChain leD ltD (dC (.int 0)) (dVar 10) (dC (.int 12)))))) (dVar 10) [10])) (dV (dLst dNil)))) (dRet (dR (dC (.bl false)))) dNext))) Δ (st5 z S pals o s (.val (passD p)) .un .un .un .un) := by
  have e0 : Ev (dOp ixD (dVar 6) (dC (.int 0))) (st5 z S pals o s (.val (passD p)) .un .un .un .un) (.int p.col) := ev_at 0 rfl rfl
  have e1 : Ev (dOp ixD (dVar 6) (dC (.int 1))) (st5 z S pals o s (.val (passD p)) .un .un .un .un) (rowD p.places) := ev_at 1 rfl rfl
  have e2 : Ev (dOp ixD (dVar 6) (dC (.int 2))) (st5 z S pals o s (.val (passD p)) .un .un .un .un) (.bl p.falling) := ev_at 2 rfl rfl
  have ok : (D.lst (p.places.map D.int)).okN 60 = true := okL_map D.int fun _ _ => rfl
  have el : Ev (dV (dCB listD (dCons (dOp ixD (dVar 6) (dC (.int 1))) dNil))) (st5 z S pals o s (.val (passD p)) .un .un .un .un) (.lst (p.places.map D.int)) := fun Ψ q => e1 (fun x ρ1 => listD [x] fun r => asD Ψ r ρ1) q
  have es : Ev (dV (dSortSetI (dOp ixD (dVar 6) (dC (.int 1))))) (st5 z S pals o s (.val (passD p)) .un .un .un .un) (.lst (p.places.map D.int)) := fun Ψ q => by
    refine sortI_open (ρ1 := st5 z S pals o s (.val (passD p)) .un .un .un .un) p.places (x := rowD p.places) (intsL_of _) (fun Ψ h => e1 _ h) few fun out pw mem => ?_
    have eo : out = p.places := sorted_uniq pw h1 mem
    rw [eo]
    exact q
  refine seq_go (if_f (evt_orF (evt_not (v := true) (evt_of (ev_isi (x := passD p) (ev_var rfl) (by decide) (by show "tuple" ∈ _; decide) rfl))) (evt_orF (evt_of (ev_op (z := .bl false) (ev_len (ev_var rfl)) ev_c fun Ψ q => ⟨rfl, rfl, q⟩)) (evt_orF (evt_not (v := true) (evt_of (ev_call1 e0 fun Ψ q => ⟨p.col, rfl, q⟩)))
    (evt_not (v := true) (evt_of (ev_isi (x := .bl p.falling) e2 (by decide) (by show "bool" ∈ _; decide) rfl)))))) ?_)
  refine next_go (seq_go (if_f (evt_orF (evt_not (v := true) (evt_of (ev_isi (x := rowD p.places) e1 (by decide) (by show "tuple" ∈ _; decide) rfl))) (evt_of (ev_op (z := .bl false) el es fun Ψ q => ?_))) ?_))
  · refine ⟨ok, ok, ?_⟩
    rw [eqv_lst D.int eqv_int, decide_eq_true rfl]
    exact q
  refine next_go ?_
  dsimp only
  refine if_f (evt_of fun Ψ q => ?_) (next_go k)
  refine lc_pure (ρ1 := st5 z S pals o s (.val (passD p)) .un .un .un .un) p.places D.int (fun _ => false) D.int (fun Ψ h => e1 _ h) (by omega) (.inl rfl) (fun x hx Ψ h => ?_) (fun x hx e Ψ h => nomatch e) ?_
  · have t : EvT (dOr (dNot (dTest (dV (dCall F_L_whole (dCons (dVar 10) dNil))))) (dNot (dTest (dChain leD ltD (dC (.int 0)) (dVar 10) (dC (.int 12)))))) (st5 z S pals o s (.val (passD p)) .un .un .un (.val (.int x))) false :=
      evt_orF (evt_not (v := true) (evt_of (ev_call1 (ev_var rfl) fun Ψ q => ⟨x, rfl, q⟩))) (evt_not (v := true) (evt_of (ev_rangeL ev_c (ev_var rfl) ev_c (by
        obtain ⟨a, b⟩ := h2 x hx
        simp [a, b]))))
    exact t _ h
  · refine ⟨by simp, ?_⟩
    have e : p.places.filter (fun _ => false) = [] := by simp
    rw [e]
    exact ⟨rfl, rfl, q⟩
theorem turn5 {Δ : Ds} {z : D} {S0 S : OT} {pals : List (List Col)} {o : Order} {s : Signs} {a b c d : Sl} (a' : After S0 S) (l2 : pals.length ≤ 12) (hpal : ∀ p ∈ pals, PalOk p) (oo : OrderOk o) (fit : SignsFit pals s) (fc : free [c] 0) (fd : free [d] 0)
    (k : ∀ S' c' d', After S0 S' → free [c'] 0 → free [d'] 0 → Δ.nx (st5 z S' pals o s a b c' d' .un)) :
    (dSeq (dSet 8 (dR (dV (dCallO F_L_deck 1 (dCons (dVar 2) (dCons (dC (.int 25)) dNil))))))
  (dSeq (dSet 9 (dR (dV (dCall F_L_sorted (dCons (dVar 8) (dCons (dVar 3) dNil))))))
  (dIfS (dOr (dTest (dOp neD (dV (dCall F_L_by (dCons (dVar 8) (dCons (dVar 5) dNil)))) (dVar 9))) (dTest (dOp neD (dV (dCall F_sorted_by (dCons (dVar 8) (dCons (dVar 5) dNil)))) (dVar 9)))) (dRet (dR (dC (.bl false)))) dNext))) Δ (st5 z S pals o s a b c d .un) := by
  refine seq_go ⟨a'.1, pals, 25, rfl, l2, hpal, by decide, by decide, fun d1 S3 h1 p1 a3 => ?_⟩
  have a4 := a'.trans a3
  have c1 : ∀ c ∈ d1, CardOk c := fun c hc => (p1 c hc).ok l2 hpal
  refine ⟨by exact fc, ?_⟩
  have pk := passesFor_ok (s := s) oo.rng
  have due : (passesFor o s).foldl passedL d1 = sortO o d1 := passes_sort c1 fun p hp x hx => fit_told fit (p1 x hx) (c1 x hx) (oo.rng p hp).1
  show dSeq _ _ Δ (st5 z S3 pals o s a b (.val (deckD d1)) d .un)
  refine seq_go ⟨d1, o, rfl, by omega, c1, oo.rng, by exact fd, ?_⟩
  have okd : (deckD (sortO o d1)).okN 60 = true := ok_lst cardD fun x hx => ok_tup colD fun y _ => ok_col y _
  have nq : ∀ (Ψ : D → Prop), Ψ (.bl false) → neD (deckD (sortO o d1)) (deckD (sortO o d1)) Ψ := fun Ψ q => neD_self okd q
  dsimp only
  refine if_f (ρ := st5 z S3 pals o s a b (.val (deckD d1)) (.val (deckD (sortO o d1))) .un) (evt_orF (evt_of fun Ψ q => ?_) (evt_of fun Ψ q => ?_)) (next_go (k S3 _ _ a4 trivial trivial))
  · refine ⟨d1, passesFor o s, rfl, by omega, c1, fun p hp => (pk p hp).1, ?_⟩
    rw [due]
    exact nq (fun v => Ψ v (st5 z S3 pals o s a b (.val (deckD d1)) (.val (deckD (sortO o d1))) .un)) q
  · refine ⟨d1, passesFor o s, rfl, by omega, c1, fun p hp => (pk p hp).1, ?_⟩
    rw [due]
    exact nq (fun v => Ψ v (st5 z S3 pals o s a b (.val (deckD d1)) (.val (deckD (sortO o d1))) .un)) q

theorem rd_law : ∀ xs Φ, F_law xs Φ → b_law (rtV Φ) (slots xs 11) := by
  rintro xs Φ ⟨ns, rfl, hl, k⟩
  refine ⟨ns, rfl, hl, fun m m0 m1 => ⟨trivial, fun p0 => ?_⟩⟩
  have D0 : Dice (diceT p0 ns 0 m 0) := ⟨p0, ns, 0, m, 0, rfl, by decide, m0, m1⟩
  refine ⟨D0, rfl, fun pals S1 l1 l2 hpal a1 => ⟨trivial, ?_⟩⟩
  have hmost : ∀ z : Int, z = (if ((pals.map palD).length : Int) + 1 < 12 then ((pals.map palD).length : Int) + 1 else 12) → 0 ≤ z ∧ z ≤ 12 := fun z hz => by
    rw [List.length_map] at hz
    split at hz <;> omega
  refine ⟨a1.1, _, rfl, (hmost _ rfl).1, (hmost _ rfl).2, fun o S2 oo _ a2 => ⟨trivial, ?_⟩⟩
  refine ⟨a2.1, pals, rfl, l2, hpal, fun s q S3 fit a3 => ⟨trivial, ?_⟩⟩
  refine ⟨o, s, rfl, oo, fit_ok fit, trivial, ?_⟩
  dsimp only
  have pk := passesFor_ok (s := s) oo.rng
  refine seq_go (ρ := st5 (.rd (ns.map D.int)) S3 pals o s .un .un .un .un .un) (if_f (evt_not (v := true) (evt_of (ev_isi (x := .lst ((passesFor o s).map passD)) (ev_var rfl) (by decide) (by show "list" ∈ _; decide) rfl))) (next_go ?_))
  dsimp only
  refine seq_go (for_inv' ((passesFor o s).map passD) (fun Ψ h => h) (ρ1 := st5 (.rd (ns.map D.int)) S3 pals o s .un .un .un .un .un) (fun rest ρ => ∃ (post : List Pass) (a : Sl), rest = post.map passD ∧ (∀ p ∈ post, p ∈ passesFor o s) ∧ free [a] 0 ∧ ρ = st5 (.rd (ns.map D.int)) S3 pals o s a .un .un .un .un) ⟨passesFor o s, .un, rfl, fun _ h => h, trivial, rfl⟩ ?_ ?_)
  · rintro d rest ρ ⟨post, a, e, hm, fa, rfl⟩ J hJ
    cases post with
    | nil => cases e
    | cons p post =>
      cases e
      obtain ⟨h0, h1, h2⟩ := pk p (hm p List.mem_cons_self)
      refine ⟨fa, ?_⟩
      refine check5 h1 h2 ?_ (hJ _ ⟨post, .val (passD p), rfl, fun x hx => hm x (List.mem_cons_of_mem _ hx), trivial, rfl⟩)
      have nd : p.places.Nodup := h1.imp fun h => by omega
      have sub : p.places ⊆ places12 := fun x hx => by
        have := h2 x hx
        simp [places12]
        omega
      have := nd.length_le_of_subset sub
      simp [places12] at this
      omega
  · rintro ρ ⟨post, a, e, hm, fa, rfl⟩
    dsimp only
    refine seq_go (for_inv' ([0, 1, 2].map D.int) (fun Ψ h => ⟨by unfold inR; omega, h⟩) (ρ1 := st5 (.rd (ns.map D.int)) S3 pals o s a .un .un .un .un) (fun rest ρ => ∃ (post : List Int) (S' : OT) (b c d : Sl), rest = post.map D.int ∧ After S2 S' ∧ free [b] 0 ∧ free [c] 0 ∧ free [d] 0 ∧ ρ = st5 (.rd (ns.map D.int)) S' pals o s a b c d .un) ⟨[0, 1, 2], S3, .un, .un, .un, rfl, a3, trivial, trivial, trivial, rfl⟩ ?_ ?_)
    · rintro x rest ρ ⟨post, S', b, c, d, e, a', fb, fc, fd, rfl⟩ J hJ
      cases post with
      | nil => cases e
      | cons i post =>
        cases e
        refine ⟨fb, ?_⟩
        exact turn5 (b := .val (.int i)) a' l2 hpal oo fit fc fd fun S4 c' d' h4 fc' fd' => hJ _ ⟨post, S4, .val (.int i), c', d', rfl, h4, trivial, fc', fd', rfl⟩
    · rintro ρ ⟨post, S', b, c, d, e, a', fb, fc, fd, rfl⟩
      have okp : (D.lst ((passesFor o s).map passD)).okN 60 = true := ok_lst passD fun p _ => ok_pass p 57
      show dRet (dR (dOp eqD (dV (dCall F_passes_for (dCons (dVar 3) (dCons (dVar 4) dNil)))) (dVar 5))) (rtV Φ) (st5 (.rd (ns.map D.int)) S' pals o s a b c d .un)
      refine ret_e (x := .bl true) (fun Ψ q => ⟨o, s, rfl, oo, fit_ok fit, ?_⟩) k
      exact eqD_self (Φ := fun v => Ψ v (st5 (.rd (ns.map D.int)) S' pals o s a b c d .un)) okp q
end DL
set_option Elab.async false
set_option linter.all false
set_option maxRecDepth 100000
set_option maxHeartbeats 4000000
namespace DL
open PySem PySem.Spec PyProof.Rows L2 RT
def topS (i : Nat) : Stmt := PySem.Challenge.pw_holedeck_k05_whole_passes_sort_every_dec.main.body.getD i (.Pass ⟨0, 0, 0, 0⟩)
section
variable [Tabl]
abbrev s_all_columns : Stmt := topS 6
abbrev s_column_of : Stmt := topS 7
abbrev s_figure_of : Stmt := topS 8
abbrev s_over_of : Stmt := topS 9
abbrev s_need_order : Stmt := topS 23
abbrev s_L_dice : Stmt := topS 29
abbrev s_L_next : Stmt := topS 30
abbrev s_L_whole : Stmt := topS 31
abbrev s_L_columns : Stmt := topS 32
abbrev s_L_column : Stmt := topS 33
abbrev s_L_figure : Stmt := topS 34
abbrev s_sign_of : Stmt := topS 10
abbrev s_pocket_of : Stmt := topS 13
abbrev s_L_key : Stmt := topS 35
abbrev s_L_sign : Stmt := topS 36
abbrev s_L_palette : Stmt := topS 37
abbrev s_L_deck : Stmt := topS 38
abbrev s_L_order : Stmt := topS 40
abbrev s_L_pocket : Stmt := topS 43
abbrev s_column_by : Stmt := topS 11
abbrev s_pockets : Stmt := topS 14
abbrev s_does_part : Stmt := topS 25
abbrev s_L_palettes : Stmt := topS 39
abbrev s_L_sorted : Stmt := topS 41
abbrev s_L_signs : Stmt := topS 42
abbrev s_L_passed : Stmt := topS 44
abbrev s_passed : Stmt := topS 15
abbrev s_columns_for : Stmt := topS 24
abbrev s_one_pass : Stmt := topS 26
abbrev s_L_by : Stmt := topS 45
abbrev s_sorted_by : Stmt := topS 16
abbrev s_passes_for : Stmt := topS 27
abbrev s_law : Stmt := topS 47
structure Txt (K : PySem.W.Frag) (mg : Str → Option Value) where
  b_bool : mg "bool" = none
  b_int : mg "int" = none
  b_isinstance : mg "isinstance" = none
  b_len : mg "len" = none
  b_list : mg "list" = none
  b_max : mg "max" = none
  b_min : mg "min" = none
  b_range : mg "range" = none
  b_reversed : mg "reversed" = none
  b_set : mg "set" = none
  b_sorted : mg "sorted" = none
  b_tuple : mg "tuple" = none
  a_LETTERS : Addr
  m_LETTERS : mg "LETTERS" = some (.ref a_LETTERS)
  D_LETTERS : DictI K a_LETTERS [(10, "KLMNOPQRST"), (11, "ABCDEFGHIJ")]
  t_COLUMNS : Tok
  g_COLUMNS : mg "COLUMNS" = some (.int 12 t_COLUMNS)
  t_FIGURES : Tok
  g_FIGURES : mg "FIGURES" = some (.str "0123456789" t_FIGURES)
  t_MOST_ORDER : Tok
  g_MOST_ORDER : mg "MOST_ORDER" = some (.int 6 t_MOST_ORDER)
  t_POCKETS : Tok
  g_POCKETS : mg "POCKETS" = some (.int 13 t_POCKETS)
  a_FIGURE_PLACES : Addr
  g_FIGURE_PLACES : mg "FIGURE_PLACES" = some (.ref a_FIGURE_PLACES)
  p_FIGURE_PLACES : ∀ G : Hp, Rp K G (.ref a_FIGURE_PLACES) (.tup [.int 0, .int 1, .int 2, .int 3, .int 4, .int 5, .int 6, .int 7, .int 8, .int 9])
  a_OVER_PLACES : Addr
  g_OVER_PLACES : mg "OVER_PLACES" = some (.ref a_OVER_PLACES)
  p_OVER_PLACES : ∀ G : Hp, Rp K G (.ref a_OVER_PLACES) (.tup [.int 10, .int 11])
  c_one_pass : Addr
  P_one_pass : Addr
  f_all_columns : Addr
  d_all_columns : FuncData
  m_all_columns : mg "all_columns" = some (.ref f_all_columns)
  F_all_columns : Fun K "all_columns" "all_columns" s_all_columns f_all_columns d_all_columns
  B_all_columns : Binds K d_all_columns [] []
  f_column_of : Addr
  d_column_of : FuncData
  m_column_of : mg "column_of" = some (.ref f_column_of)
  F_column_of : Fun K "column_of" "column_of" s_column_of f_column_of d_column_of
  B_column_of : Binds K d_column_of ["card", "at"] []
  f_figure_of : Addr
  d_figure_of : FuncData
  m_figure_of : mg "figure_of" = some (.ref f_figure_of)
  F_figure_of : Fun K "figure_of" "figure_of" s_figure_of f_figure_of d_figure_of
  B_figure_of : Binds K d_figure_of ["column"] []
  f_over_of : Addr
  d_over_of : FuncData
  m_over_of : mg "over_of" = some (.ref f_over_of)
  F_over_of : Fun K "over_of" "over_of" s_over_of f_over_of d_over_of
  B_over_of : Binds K d_over_of ["column"] []
  f_need_order : Addr
  d_need_order : FuncData
  m_need_order : mg "need_order" = some (.ref f_need_order)
  F_need_order : Fun K "need_order" "need_order" s_need_order f_need_order d_need_order
  B_need_order : Binds K d_need_order ["order"] []
  f_L_dice : Addr
  d_L_dice : FuncData
  m_L_dice : mg "_law_dice" = some (.ref f_L_dice)
  F_L_dice : Fun K "_law_dice" "_law_dice" s_L_dice f_L_dice d_L_dice
  B_L_dice : Binds K d_L_dice ["_law_script"] []
  f_L_next : Addr
  d_L_next : FuncData
  m_L_next : mg "_law_next" = some (.ref f_L_next)
  F_L_next : Fun K "_law_next" "_law_next" s_L_next f_L_next d_L_next
  B_L_next : Binds K d_L_next ["_law_dice_here", "_law_many"] []
  f_L_whole : Addr
  d_L_whole : FuncData
  m_L_whole : mg "_law_whole" = some (.ref f_L_whole)
  F_L_whole : Fun K "_law_whole" "_law_whole" s_L_whole f_L_whole d_L_whole
  B_L_whole : Binds K d_L_whole ["_law_found"] []
  f_L_columns : Addr
  d_L_columns : FuncData
  m_L_columns : mg "_law_columns" = some (.ref f_L_columns)
  F_L_columns : Fun K "_law_columns" "_law_columns" s_L_columns f_L_columns d_L_columns
  B_L_columns : Binds K d_L_columns [] []
  f_L_column : Addr
  d_L_column : FuncData
  m_L_column : mg "_law_column" = some (.ref f_L_column)
  F_L_column : Fun K "_law_column" "_law_column" s_L_column f_L_column d_L_column
  B_L_column : Binds K d_L_column ["_law_card", "_law_at"] []
  f_L_figure : Addr
  d_L_figure : FuncData
  m_L_figure : mg "_law_figure" = some (.ref f_L_figure)
  F_L_figure : Fun K "_law_figure" "_law_figure" s_L_figure f_L_figure d_L_figure
  B_L_figure : Binds K d_L_figure ["_law_column_here"] []
  f_sign_of : Addr
  d_sign_of : FuncData
  m_sign_of : mg "sign_of" = some (.ref f_sign_of)
  F_sign_of : Fun K "sign_of" "sign_of" s_sign_of f_sign_of d_sign_of
  B_sign_of : Binds K d_sign_of ["column"] []
  f_pocket_of : Addr
  d_pocket_of : FuncData
  m_pocket_of : mg "pocket_of" = some (.ref f_pocket_of)
  F_pocket_of : Fun K "pocket_of" "pocket_of" s_pocket_of f_pocket_of d_pocket_of
  B_pocket_of : Binds K d_pocket_of ["card", "column", "places"] []
  f_L_key : Addr
  d_L_key : FuncData
  m_L_key : mg "_law_key" = some (.ref f_L_key)
  F_L_key : Fun K "_law_key" "_law_key" s_L_key f_L_key d_L_key
  B_L_key : Binds K d_L_key ["_law_column_here"] []
  f_L_sign : Addr
  d_L_sign : FuncData
  m_L_sign : mg "_law_sign" = some (.ref f_L_sign)
  F_L_sign : Fun K "_law_sign" "_law_sign" s_L_sign f_L_sign d_L_sign
  B_L_sign : Binds K d_L_sign ["_law_column_here"] []
  f_L_palette : Addr
  d_L_palette : FuncData
  m_L_palette : mg "_law_palette" = some (.ref f_L_palette)
  F_L_palette : Fun K "_law_palette" "_law_palette" s_L_palette f_L_palette d_L_palette
  B_L_palette : Binds K d_L_palette ["_law_d"] []
  f_L_deck : Addr
  d_L_deck : FuncData
  m_L_deck : mg "_law_deck" = some (.ref f_L_deck)
  F_L_deck : Fun K "_law_deck" "_law_deck" s_L_deck f_L_deck d_L_deck
  B_L_deck : Binds K d_L_deck ["_law_d", "_law_palettes_here", "_law_most"] []
  f_L_order : Addr
  d_L_order : FuncData
  m_L_order : mg "_law_order" = some (.ref f_L_order)
  F_L_order : Fun K "_law_order" "_law_order" s_L_order f_L_order d_L_order
  B_L_order : Binds K d_L_order ["_law_d", "_law_most"] []
  f_L_pocket : Addr
  d_L_pocket : FuncData
  m_L_pocket : mg "_law_pocket" = some (.ref f_L_pocket)
  F_L_pocket : Fun K "_law_pocket" "_law_pocket" s_L_pocket f_L_pocket d_L_pocket
  B_L_pocket : Binds K d_L_pocket ["_law_card", "_law_one"] []
  f_column_by : Addr
  d_column_by : FuncData
  m_column_by : mg "column_by" = some (.ref f_column_by)
  F_column_by : Fun K "column_by" "column_by" s_column_by f_column_by d_column_by
  B_column_by : Binds K d_column_by ["sign"] []
  f_pockets : Addr
  d_pockets : FuncData
  m_pockets : mg "pockets" = some (.ref f_pockets)
  F_pockets : Fun K "pockets" "pockets" s_pockets f_pockets d_pockets
  B_pockets : Binds K d_pockets ["deck", "one"] []
  f_does_part : Addr
  d_does_part : FuncData
  m_does_part : mg "does_part" = some (.ref f_does_part)
  F_does_part : Fun K "does_part" "does_part" s_does_part f_does_part d_does_part
  B_does_part : Binds K d_does_part ["places", "columns"] []
  f_L_palettes : Addr
  d_L_palettes : FuncData
  m_L_palettes : mg "_law_palettes" = some (.ref f_L_palettes)
  F_L_palettes : Fun K "_law_palettes" "_law_palettes" s_L_palettes f_L_palettes d_L_palettes
  B_L_palettes : Binds K d_L_palettes ["_law_d"] []
  f_L_sorted : Addr
  d_L_sorted : FuncData
  m_L_sorted : mg "_law_sorted" = some (.ref f_L_sorted)
  F_L_sorted : Fun K "_law_sorted" "_law_sorted" s_L_sorted f_L_sorted d_L_sorted
  B_L_sorted : Binds K d_L_sorted ["_law_deck_here", "_law_order_here"] []
  f_L_signs : Addr
  d_L_signs : FuncData
  m_L_signs : mg "_law_signs" = some (.ref f_L_signs)
  F_L_signs : Fun K "_law_signs" "_law_signs" s_L_signs f_L_signs d_L_signs
  B_L_signs : Binds K d_L_signs ["_law_d", "_law_palettes_here"] []
  f_L_passed : Addr
  d_L_passed : FuncData
  m_L_passed : mg "_law_passed" = some (.ref f_L_passed)
  F_L_passed : Fun K "_law_passed" "_law_passed" s_L_passed f_L_passed d_L_passed
  B_L_passed : Binds K d_L_passed ["_law_deck_here", "_law_one"] []
  f_passed : Addr
  d_passed : FuncData
  m_passed : mg "passed" = some (.ref f_passed)
  F_passed : Fun K "passed" "passed" s_passed f_passed d_passed
  B_passed : Binds K d_passed ["deck", "one"] []
  f_columns_for : Addr
  d_columns_for : FuncData
  m_columns_for : mg "columns_for" = some (.ref f_columns_for)
  F_columns_for : Fun K "columns_for" "columns_for" s_columns_for f_columns_for d_columns_for
  B_columns_for : Binds K d_columns_for ["column", "signs"] []
  f_one_pass : Addr
  d_one_pass : FuncData
  m_one_pass : mg "one_pass" = some (.ref f_one_pass)
  F_one_pass : Fun K "one_pass" "one_pass" s_one_pass f_one_pass d_one_pass
  B_one_pass : Binds K d_one_pass ["columns"] []
  L_one_pass : TabOf "one_pass" d_one_pass c_one_pass P_one_pass
  f_L_by : Addr
  d_L_by : FuncData
  m_L_by : mg "_law_by" = some (.ref f_L_by)
  F_L_by : Fun K "_law_by" "_law_by" s_L_by f_L_by d_L_by
  B_L_by : Binds K d_L_by ["_law_deck_here", "_law_passes"] []
  f_sorted_by : Addr
  d_sorted_by : FuncData
  m_sorted_by : mg "sorted_by" = some (.ref f_sorted_by)
  F_sorted_by : Fun K "sorted_by" "sorted_by" s_sorted_by f_sorted_by d_sorted_by
  B_sorted_by : Binds K d_sorted_by ["deck", "passes"] []
  f_passes_for : Addr
  d_passes_for : FuncData
  m_passes_for : mg "passes_for" = some (.ref f_passes_for)
  F_passes_for : Fun K "passes_for" "passes_for" s_passes_for f_passes_for d_passes_for
  B_passes_for : Binds K d_passes_for ["order", "signs"] []
structure TBs {K : PySem.W.Frag} {mg : Str → Option Value} (T : Txt K mg) (base : Heap) : Prop where
  t_one_pass : LamX.TabB base mg T.c_one_pass T.P_one_pass
theorem sc_all_columns : FnScope ["found", "over", "figure"] [] (defScope s_all_columns) := ⟨rfl, rfl, rfl, by decide +kernel, rfl, by decide +kernel, by decide +kernel⟩
theorem sc_column_of : FnScope ["card", "at"] ["card", "at"] (defScope s_column_of) := ⟨rfl, rfl, rfl, by decide +kernel, rfl, by decide +kernel, by decide +kernel⟩
theorem sc_figure_of : FnScope ["column"] ["column"] (defScope s_figure_of) := ⟨rfl, rfl, rfl, by decide +kernel, rfl, by decide +kernel, by decide +kernel⟩
theorem sc_over_of : FnScope ["column"] ["column"] (defScope s_over_of) := ⟨rfl, rfl, rfl, by decide +kernel, rfl, by decide +kernel, by decide +kernel⟩
theorem sc_need_order : FnScope ["order", "at", "row"] ["order"] (defScope s_need_order) := ⟨rfl, rfl, rfl, by decide +kernel, rfl, by decide +kernel, by decide +kernel⟩
theorem sc_L_dice : FnScope ["_law_script", "_law_mixed", "_law_cell"] ["_law_script"] (defScope s_L_dice) := ⟨rfl, rfl, rfl, by decide +kernel, rfl, by decide +kernel, by decide +kernel⟩
theorem sc_L_next : FnScope ["_law_dice_here", "_law_many", "_law_found", "_law_cell"] ["_law_dice_here", "_law_many"] (defScope s_L_next) := ⟨rfl, rfl, rfl, by decide +kernel, rfl, by decide +kernel, by decide +kernel⟩
theorem sc_L_whole : FnScope ["_law_found"] ["_law_found"] (defScope s_L_whole) := ⟨rfl, rfl, rfl, by decide +kernel, rfl, by decide +kernel, by decide +kernel⟩
theorem sc_L_columns : FnScope ["_law_found", "_law_over", "_law_figure_here"] [] (defScope s_L_columns) := ⟨rfl, rfl, rfl, by decide +kernel, rfl, by decide +kernel, by decide +kernel⟩
theorem sc_L_column : FnScope ["_law_card", "_law_at"] ["_law_card", "_law_at"] (defScope s_L_column) := ⟨rfl, rfl, rfl, by decide +kernel, rfl, by decide +kernel, by decide +kernel⟩
theorem sc_L_figure : FnScope ["_law_column_here", "_law_hole"] ["_law_column_here"] (defScope s_L_figure) := ⟨rfl, rfl, rfl, by decide +kernel, rfl, by decide +kernel, by decide +kernel⟩
theorem sc_sign_of : FnScope ["column", "figure", "over"] ["column"] (defScope s_sign_of) := ⟨rfl, rfl, rfl, by decide +kernel, rfl, by decide +kernel, by decide +kernel⟩
theorem sc_pocket_of : FnScope ["card", "column", "places", "place"] ["card", "column", "places"] (defScope s_pocket_of) := ⟨rfl, rfl, rfl, by decide +kernel, rfl, by decide +kernel, by decide +kernel⟩
theorem sc_L_key : FnScope ["_law_column_here", "_law_hole"] ["_law_column_here"] (defScope s_L_key) := ⟨rfl, rfl, rfl, by decide +kernel, rfl, by decide +kernel, by decide +kernel⟩
theorem sc_L_sign : FnScope ["_law_column_here"] ["_law_column_here"] (defScope s_L_sign) := ⟨rfl, rfl, rfl, by decide +kernel, rfl, by decide +kernel, by decide +kernel⟩
theorem sc_L_palette : FnScope ["_law_d", "_law_every", "_law_way", "_law_found", "_law_k", "_law_column_here"] ["_law_d"] (defScope s_L_palette) := ⟨rfl, rfl, rfl, by decide +kernel, rfl, by decide +kernel, by decide +kernel⟩
theorem sc_L_deck : FnScope ["_law_d", "_law_palettes_here", "_law_most", "_law_deck_here", "_law_k", "_law_palette_here"] ["_law_d", "_law_palettes_here", "_law_most"] (defScope s_L_deck) := ⟨rfl, rfl, rfl, by decide +kernel, rfl, by decide +kernel, by decide +kernel⟩
theorem sc_L_order : FnScope ["_law_d", "_law_most", "_law_left", "_law_order_here", "_law_k"] ["_law_d", "_law_most"] (defScope s_L_order) := ⟨rfl, rfl, rfl, by decide +kernel, rfl, by decide +kernel, by decide +kernel⟩
theorem sc_L_pocket : FnScope ["_law_card", "_law_one", "_law_some", "_law_place"] ["_law_card", "_law_one"] (defScope s_L_pocket) := ⟨rfl, rfl, rfl, by decide +kernel, rfl, by decide +kernel, by decide +kernel⟩
theorem sc_column_by : FnScope ["sign", "column"] ["sign"] (defScope s_column_by) := ⟨rfl, rfl, rfl, by decide +kernel, rfl, by decide +kernel, by decide +kernel⟩
theorem sc_pockets : FnScope ["deck", "one", "column", "places", "falling", "found", "card", "pocket"] ["deck", "one"] (defScope s_pockets) := ⟨rfl, rfl, rfl, by decide +kernel, rfl, by decide +kernel, by decide +kernel⟩
theorem sc_does_part : FnScope ["places", "columns", "rows", "one"] ["places", "columns"] (defScope s_does_part) := ⟨rfl, rfl, rfl, by decide +kernel, rfl, by decide +kernel, by decide +kernel⟩
theorem sc_L_palettes : FnScope ["_law_d", "_law_k"] ["_law_d"] (defScope s_L_palettes) := ⟨rfl, rfl, rfl, by decide +kernel, rfl, by decide +kernel, by decide +kernel⟩
theorem sc_L_sorted : FnScope ["_law_deck_here", "_law_order_here", "_law_found", "_law_column_here", "_law_falling", "_law_rows", "_law_later", "_law_row", "_law_card"] ["_law_deck_here", "_law_order_here"] (defScope s_L_sorted) := ⟨rfl, rfl, rfl, by decide +kernel, rfl, by decide +kernel, by decide +kernel⟩
theorem sc_L_signs : FnScope ["_law_d", "_law_palettes_here", "_law_signs_here", "_law_at", "_law_some", "_law_column_here"] ["_law_d", "_law_palettes_here"] (defScope s_L_signs) := ⟨rfl, rfl, rfl, by decide +kernel, rfl, by decide +kernel, by decide +kernel⟩
theorem sc_L_passed : FnScope ["_law_deck_here", "_law_one", "_law_found", "_law_turn", "_law_pocket_here", "_law_card"] ["_law_deck_here", "_law_one"] (defScope s_L_passed) := ⟨rfl, rfl, rfl, by decide +kernel, rfl, by decide +kernel, by decide +kernel⟩
theorem sc_passed : FnScope ["deck", "one", "column", "places", "falling", "found", "rows", "row"] ["deck", "one"] (defScope s_passed) := ⟨rfl, rfl, rfl, by decide +kernel, rfl, by decide +kernel, by decide +kernel⟩
theorem sc_columns_for : FnScope ["column", "signs", "found", "sign", "one"] ["column", "signs"] (defScope s_columns_for) := ⟨rfl, rfl, rfl, by decide +kernel, rfl, by decide +kernel, by decide +kernel⟩
theorem sc_one_pass : FnScope ["columns", "some", "place", "back", "places", "one", "row"] ["columns"] (defScope s_one_pass) := ⟨rfl, rfl, rfl, by decide +kernel, rfl, by decide +kernel, by decide +kernel⟩
theorem sc_L_by : FnScope ["_law_deck_here", "_law_passes", "_law_one"] ["_law_deck_here", "_law_passes"] (defScope s_L_by) := ⟨rfl, rfl, rfl, by decide +kernel, rfl, by decide +kernel, by decide +kernel⟩
theorem sc_sorted_by : FnScope ["deck", "passes", "found", "one"] ["deck", "passes"] (defScope s_sorted_by) := ⟨rfl, rfl, rfl, by decide +kernel, rfl, by decide +kernel, by decide +kernel⟩
theorem sc_passes_for : FnScope ["order", "signs", "found", "column", "falling", "columns", "one"] ["order", "signs"] (defScope s_passes_for) := ⟨rfl, rfl, rfl, by decide +kernel, rfl, by decide +kernel, by decide +kernel⟩
theorem sc_law : FnScope ["_law_script", "_law_d", "_law_palettes_here", "_law_order_here", "_law_signs_here", "_law_passes", "_law_one", "_law_turn", "_law_deck_here", "_law_due", "_law_place"] ["_law_script"] (defScope s_law) := ⟨rfl, rfl, rfl, by decide +kernel, rfl, by decide +kernel, by decide +kernel⟩
theorem hu65_of {k : Nat} {A : Around} (hr : Room k A) : A.units + 65 < cLine := by
  have := hr.un
  omega
section
variable {P : Program} {w : World} {K : PySem.W.Frag} {mg : Str → Option Value} {base : Heap}
theorem ok_all_columns (T : Txt K mg) (TB : TBs T base) : FnOk P w K mg base CX0 1 T.f_all_columns T.d_all_columns [] (SpV K F_all_columns) :=
  okV T.F_all_columns sc_all_columns (fun xs Φ h => by have q := h; first | (obtain ⟨rfl, _⟩ := q; rfl) | (obtain ⟨_, rfl, _⟩ := q; rfl) | (obtain ⟨_, _, rfl, _⟩ := q; rfl) | (obtain ⟨_, _, _, rfl, _⟩ := q; rfl) | (obtain ⟨_, _, _, _, rfl, _⟩ := q; rfl) | (obtain ⟨_, _, _, _, _, rfl, _⟩ := q; rfl) | (obtain ⟨_, _, _, _, _, _, rfl, _⟩ := q; rfl) | (obtain ⟨_, _, _, _, _, _, _, rfl, _⟩ := q; rfl) | (obtain ⟨_, _, _, _, _, _, _, _, rfl, _⟩ := q; rfl) | (obtain ⟨_, _, _, _, _, _, _, _, _, rfl, _⟩ := q; rfl)) (fun cdv A outer s H E hr => by
    have hu0 := hr.units0
    have hu1 := hu_of hr
    have hu64 := hr.units
    have hu65 := hu65_of hr
    exact ⟨_,
(pds_cons (pd_set (i := 0) sc_all_columns.nd (pr_lst pda_nil))
  (pds_cons (pd_for (pdi_any (PR.v (pr_lst (pda_cons (pd_tup pda_nil) (pda_cons (pd_tup (pda_cons pd_int pda_nil)) (pda_cons (pd_tup (pda_cons pd_int pda_nil)) pda_nil)))))) (pdg_name sc_all_columns.nd) (pds_cons (pd_expr (pr_app 0 (pd_var 1)))
  (pds_one (pd_expr (pr_ext 0 (PR.v (pr_lc (own := [("figure", 2)]) sc_all_columns.nd (pdi_rng1 T.b_range pd_int) (blkOk_by (N := ["found", "over", "figure"]) (sc := defScope s_all_columns) (by decide +kernel)) (fun _ _ _ _ _ => (pdg_name sc_all_columns.nd)) mono_name (sets_name (by decide)) (fun _ _ _ _ _ => pdts_nil) (fun _ _ _ _ _ => (PR.v (pr_add (pd_tup (pda_cons (pd_var 2) pda_nil)) (pd_var 1)))))))))))
  (pds_one (pd_retM 0))))⟩) rd_all_columns
theorem ok_column_of (T : Txt K mg) (TB : TBs T base) : FnOk P w K mg base CX0 1 T.f_column_of T.d_column_of ["card", "at"] (SpV K F_column_of) :=
  okV T.F_column_of sc_column_of (fun xs Φ h => by have q := h; first | (obtain ⟨rfl, _⟩ := q; rfl) | (obtain ⟨_, rfl, _⟩ := q; rfl) | (obtain ⟨_, _, rfl, _⟩ := q; rfl) | (obtain ⟨_, _, _, rfl, _⟩ := q; rfl) | (obtain ⟨_, _, _, _, rfl, _⟩ := q; rfl) | (obtain ⟨_, _, _, _, _, rfl, _⟩ := q; rfl) | (obtain ⟨_, _, _, _, _, _, rfl, _⟩ := q; rfl) | (obtain ⟨_, _, _, _, _, _, _, rfl, _⟩ := q; rfl) | (obtain ⟨_, _, _, _, _, _, _, _, rfl, _⟩ := q; rfl) | (obtain ⟨_, _, _, _, _, _, _, _, _, rfl, _⟩ := q; rfl)) (fun cdv A outer s H E hr => by
    have hu0 := hr.units0
    have hu1 := hu_of hr
    have hu64 := hr.units
    have hu65 := hu65_of hr
    exact ⟨_,
(pds_cons (pd_if (pdt_lt (pd_var 1) (PR.v (pr_len T.b_len (pda_cons (pd_var 0) pda_nil)))) (pds_one (pd_ret (PD.r (pd_ix hu1 (pd_var 0) (pd_var 1) (fun _ _ => rfl))))) pds_nil)
  (pds_one (pd_ret (PD.r (pd_tup pda_nil)))))⟩) rd_column_of
theorem ok_figure_of (T : Txt K mg) (TB : TBs T base) : FnOk P w K mg base CX0 1 T.f_figure_of T.d_figure_of ["column"] (SpV K F_figure_of) :=
  okV T.F_figure_of sc_figure_of (fun xs Φ h => by have q := h; first | (obtain ⟨rfl, _⟩ := q; rfl) | (obtain ⟨_, rfl, _⟩ := q; rfl) | (obtain ⟨_, _, rfl, _⟩ := q; rfl) | (obtain ⟨_, _, _, rfl, _⟩ := q; rfl) | (obtain ⟨_, _, _, _, rfl, _⟩ := q; rfl) | (obtain ⟨_, _, _, _, _, rfl, _⟩ := q; rfl) | (obtain ⟨_, _, _, _, _, _, rfl, _⟩ := q; rfl) | (obtain ⟨_, _, _, _, _, _, _, rfl, _⟩ := q; rfl) | (obtain ⟨_, _, _, _, _, _, _, _, rfl, _⟩ := q; rfl) | (obtain ⟨_, _, _, _, _, _, _, _, _, rfl, _⟩ := q; rfl)) (fun cdv A outer s H E hr => by
    have hu0 := hr.units0
    have hu1 := hu_of hr
    have hu64 := hr.units
    have hu65 := hu65_of hr
    exact ⟨_,
(pds_cons (pd_if (PDW.tst (pdw_and (pdt_ne hu64 (pd_var 0) (pd_tup pda_nil)) (pdw_and1 (pdt_lt (pd_ix hu1 (pd_var 0) pd_int (fun _ _ => rfl)) pd_int)))) (pds_one (pd_ret (PD.r (pd_ix hu1 (pd_var 0) pd_int (fun _ _ => rfl))))) pds_nil)
  (pds_one (pd_ret (PD.r (pd_neg pd_int)))))⟩) rd_figure_of
theorem ok_over_of (T : Txt K mg) (TB : TBs T base) : FnOk P w K mg base CX0 1 T.f_over_of T.d_over_of ["column"] (SpV K F_over_of) :=
  okV T.F_over_of sc_over_of (fun xs Φ h => by have q := h; first | (obtain ⟨rfl, _⟩ := q; rfl) | (obtain ⟨_, rfl, _⟩ := q; rfl) | (obtain ⟨_, _, rfl, _⟩ := q; rfl) | (obtain ⟨_, _, _, rfl, _⟩ := q; rfl) | (obtain ⟨_, _, _, _, rfl, _⟩ := q; rfl) | (obtain ⟨_, _, _, _, _, rfl, _⟩ := q; rfl) | (obtain ⟨_, _, _, _, _, _, rfl, _⟩ := q; rfl) | (obtain ⟨_, _, _, _, _, _, _, rfl, _⟩ := q; rfl) | (obtain ⟨_, _, _, _, _, _, _, _, rfl, _⟩ := q; rfl) | (obtain ⟨_, _, _, _, _, _, _, _, _, rfl, _⟩ := q; rfl)) (fun cdv A outer s H E hr => by
    have hu0 := hr.units0
    have hu1 := hu_of hr
    have hu64 := hr.units
    have hu65 := hu65_of hr
    exact ⟨_,
(pds_cons (pd_if (PDW.tst (pdw_and (pdt_ne hu64 (pd_var 0) (pd_tup pda_nil)) (pdw_and1 (pdt_gt hu0 (pd_ix hu1 (pd_var 0) (pd_neg pd_int) (fun _ _ => rfl)) pd_int)))) (pds_one (pd_ret (PD.r (pd_ix hu1 (pd_var 0) (pd_neg pd_int) (fun _ _ => rfl))))) pds_nil)
  (pds_one (pd_ret (PD.r (pd_neg pd_int)))))⟩) rd_over_of
theorem ok_need_order (T : Txt K mg) (TB : TBs T base) : FnOk P w K mg base CX0 1 T.f_need_order T.d_need_order ["order"] (SpV K F_need_order) :=
  okV T.F_need_order sc_need_order (fun xs Φ h => by have q := h; first | (obtain ⟨rfl, _⟩ := q; rfl) | (obtain ⟨_, rfl, _⟩ := q; rfl) | (obtain ⟨_, _, rfl, _⟩ := q; rfl) | (obtain ⟨_, _, _, rfl, _⟩ := q; rfl) | (obtain ⟨_, _, _, _, rfl, _⟩ := q; rfl) | (obtain ⟨_, _, _, _, _, rfl, _⟩ := q; rfl) | (obtain ⟨_, _, _, _, _, _, rfl, _⟩ := q; rfl) | (obtain ⟨_, _, _, _, _, _, _, rfl, _⟩ := q; rfl) | (obtain ⟨_, _, _, _, _, _, _, _, rfl, _⟩ := q; rfl) | (obtain ⟨_, _, _, _, _, _, _, _, _, rfl, _⟩ := q; rfl)) (fun cdv A outer s H E hr => by
    have hu0 := hr.units0
    have hu1 := hu_of hr
    have hu64 := hr.units
    have hu65 := hu65_of hr
    exact ⟨_,
(pds_cons (pd_if (pdt_gt hu0 (PR.v (pr_len T.b_len (pda_cons (pd_var 0) pda_nil))) (pd_globI T.g_MOST_ORDER)) (pds_one pd_never) pds_nil)
  (pds_one (pd_for (pdi_rng1 T.b_range (PR.v (pr_len T.b_len (pda_cons (pd_var 0) pda_nil)))) (pdg_name sc_need_order.nd) (pds_one (pd_if (PDW.tst (pdw_or (pdt_not (pdt_chain op_le sim_le op_lt sim_lt pd_int (pd_ix hu1 (pd_ix hu1 (pd_var 0) (pd_var 1) (fun _ _ => rfl)) pd_int (fun _ _ => rfl)) (pd_globI T.g_COLUMNS))) (pdw_or1 (pdt_in hu65 (pd_ix hu1 (pd_ix hu1 (pd_var 0) (pd_var 1) (fun _ _ => rfl)) pd_int (fun _ _ => rfl)) (PR.v (pr_lc (own := [("row", 2)]) sc_need_order.nd (pdi_any (PR.v (pr_slice (pd_var 0) pdo_none (pdo_some (pd_var 1))))) (blkOk_by (N := ["order", "at", "row"]) (sc := defScope s_need_order) (by decide +kernel)) (fun _ _ _ _ _ => (pdg_name sc_need_order.nd)) mono_name (sets_name (by decide)) (fun _ _ _ _ _ => pdts_nil) (fun _ _ _ _ _ => (pd_ix hu1 (pd_var 2) pd_int (fun _ _ => rfl))))))))) (pds_one pd_never) pds_nil)))))⟩) rd_need_order
theorem ok_L_dice (T : Txt K mg) (TB : TBs T base) : FnOk P w K mg base CX0 1 T.f_L_dice T.d_L_dice ["_law_script"] (SpV K F_L_dice) :=
  okV T.F_L_dice sc_L_dice (fun xs Φ h => by have q := h; first | (obtain ⟨rfl, _⟩ := q; rfl) | (obtain ⟨_, rfl, _⟩ := q; rfl) | (obtain ⟨_, _, rfl, _⟩ := q; rfl) | (obtain ⟨_, _, _, rfl, _⟩ := q; rfl) | (obtain ⟨_, _, _, _, rfl, _⟩ := q; rfl) | (obtain ⟨_, _, _, _, _, rfl, _⟩ := q; rfl) | (obtain ⟨_, _, _, _, _, _, rfl, _⟩ := q; rfl) | (obtain ⟨_, _, _, _, _, _, _, rfl, _⟩ := q; rfl) | (obtain ⟨_, _, _, _, _, _, _, _, rfl, _⟩ := q; rfl) | (obtain ⟨_, _, _, _, _, _, _, _, _, rfl, _⟩ := q; rfl)) (fun cdv A outer s H E hr => by
    have hu0 := hr.units0
    have hu1 := hu_of hr
    have hu64 := hr.units
    have hu65 := hu65_of hr
    exact ⟨_,
(pds_cons (pd_set (i := 1) sc_L_dice.nd (PD.r pd_int))
  (pds_cons (pd_for (pdi_any (pd_var 0)) (pdg_name sc_L_dice.nd) (pds_one (pd_set (i := 1) sc_L_dice.nd (PD.r (pd_mod (PR.v (pr_add (PR.v (pr_add (PR.v (pr_mul (pd_var 1) pd_int)) (PR.v (pr_mul (pd_mod (pd_var 2) pd_int) pd_int)))) pd_int)) pd_int)))))
  (pds_one (pd_ret (pr_lst (pda_cons (pd_var 0) (pda_cons pd_int (pda_cons (PR.v (pr_mul (pd_var 1) (PR.v (pr_int T.b_int (pda_cons (pd_gt hu0 (PR.v (pr_len T.b_len (pda_cons (pd_var 0) pda_nil))) pd_int) pda_nil))))) (pda_cons pd_int pda_nil)))))))))⟩) rd_L_dice
theorem ok_L_next (T : Txt K mg) (TB : TBs T base) : FnOk P w K mg base CX0 1 T.f_L_next T.d_L_next ["_law_dice_here", "_law_many"] (SpO K F_L_next) :=
  okO T.F_L_next sc_L_next (fun S xs Φ h => by have q := h; first | (obtain ⟨rfl, _⟩ := q; rfl) | (obtain ⟨_, rfl, _⟩ := q; rfl) | (obtain ⟨_, _, rfl, _⟩ := q; rfl) | (obtain ⟨_, _, _, rfl, _⟩ := q; rfl) | (obtain ⟨_, _, _, _, rfl, _⟩ := q; rfl) | (obtain ⟨_, _, _, _, _, rfl, _⟩ := q; rfl) | (obtain ⟨_, _, _, _, _, _, rfl, _⟩ := q; rfl) | (obtain ⟨_, _, _, _, _, _, _, rfl, _⟩ := q; rfl) | (obtain ⟨_, _, _, _, _, _, _, _, rfl, _⟩ := q; rfl) | (obtain ⟨_, _, _, _, _, _, _, _, _, rfl, _⟩ := q; rfl)) (fun cdv A outer s H E hr => by
    have hu0 := hr.units0
    have hu1 := hu_of hr
    have hu64 := hr.units
    have hu65 := hu65_of hr
    exact ⟨_,
(pds_cons (pd_if (pdt_gt hu0 (PP.leaf (pp_ix hu1 (pp_var 0) pd_int (fun _ _ => rfl))) pd_int) (pds_cons (pd_set (i := 2) sc_L_next.nd (PD.r (pd_mod (PP.leaf (pp_ix hu1 (pp_var 0) pd_int (fun _ _ => rfl))) (pd_var 1))))
  (pds_cons (pd_pset (pd_fdv (PP.leaf (pp_ix hu1 (pp_var 0) pd_int (fun _ _ => rfl))) (pd_var 1)) (pp_var 0) pd_int)
  (pds_one (pd_ret (PD.r (pd_var 2)))))) pds_nil)
  (pds_cons (pd_pset (PR.v (pr_add (PP.leaf (pp_ix hu1 (pp_var 0) pd_int (fun _ _ => rfl))) pd_int)) (pp_var 0) pd_int)
  (pds_cons (pd_if (pdt_le (PP.leaf (pp_ix hu1 (pp_var 0) pd_int (fun _ _ => rfl))) (PR.v (pr_len T.b_len (pda_cons (PP.leaf (pp_ix hu1 (pp_var 0) pd_int (fun _ _ => rfl))) pda_nil)))) (pds_cons (pd_set (i := 3) sc_L_next.nd (PD.r (pd_ix hu1 (PP.leaf (pp_ix hu1 (pp_var 0) pd_int (fun _ _ => rfl))) (pd_sub (PP.leaf (pp_ix hu1 (pp_var 0) pd_int (fun _ _ => rfl))) pd_int) (fun _ _ => rfl))))
  (pds_cons (pd_pset (pd_ifExp (pdt_ge (pd_var 3) (pd_pow pd_int pd_int)) (pd_fdv (pd_var 3) (pd_var 1)) pd_int) (pp_var 0) pd_int)
  (pds_one (pd_ret (PD.r (pd_mod (pd_var 3) (pd_var 1))))))) pds_nil)
  (pds_cons (pd_pset (pd_mod (PR.v (pr_mul (PP.leaf (pp_ix hu1 (pp_var 0) pd_int (fun _ _ => rfl))) pd_int)) pd_int) (pp_var 0) pd_int)
  (pds_one (pd_ret (PD.r (pd_mod (pd_fdv (PP.leaf (pp_ix hu1 (pp_var 0) pd_int (fun _ _ => rfl))) pd_int) (pd_var 1)))))))))⟩) rd_L_next
theorem ok_L_whole (T : Txt K mg) (TB : TBs T base) : FnOk P w K mg base CX0 1 T.f_L_whole T.d_L_whole ["_law_found"] (SpV K F_L_whole) :=
  okV T.F_L_whole sc_L_whole (fun xs Φ h => by have q := h; first | (obtain ⟨rfl, _⟩ := q; rfl) | (obtain ⟨_, rfl, _⟩ := q; rfl) | (obtain ⟨_, _, rfl, _⟩ := q; rfl) | (obtain ⟨_, _, _, rfl, _⟩ := q; rfl) | (obtain ⟨_, _, _, _, rfl, _⟩ := q; rfl) | (obtain ⟨_, _, _, _, _, rfl, _⟩ := q; rfl) | (obtain ⟨_, _, _, _, _, _, rfl, _⟩ := q; rfl) | (obtain ⟨_, _, _, _, _, _, _, rfl, _⟩ := q; rfl) | (obtain ⟨_, _, _, _, _, _, _, _, rfl, _⟩ := q; rfl) | (obtain ⟨_, _, _, _, _, _, _, _, _, rfl, _⟩ := q; rfl)) (fun cdv A outer s H E hr => by
    have hu0 := hr.units0
    have hu1 := hu_of hr
    have hu64 := hr.units
    have hu65 := hu65_of hr
    exact ⟨_,
(pds_one (pd_ret (PD.r (pd_and (PR.v (pr_isi T.b_isinstance (pda_cons (pd_var 0) (pda_cons (pd_ty T.b_int (by decide +kernel)) pda_nil)))) (pd_one (pd_not (PR.v (pr_isi T.b_isinstance (pda_cons (pd_var 0) (pda_cons (pd_ty T.b_bool (by decide +kernel)) pda_nil))))))))))⟩) rd_L_whole
theorem ok_L_columns (T : Txt K mg) (TB : TBs T base) : FnOk P w K mg base CX0 1 T.f_L_columns T.d_L_columns [] (SpV K F_L_columns) :=
  okV T.F_L_columns sc_L_columns (fun xs Φ h => by have q := h; first | (obtain ⟨rfl, _⟩ := q; rfl) | (obtain ⟨_, rfl, _⟩ := q; rfl) | (obtain ⟨_, _, rfl, _⟩ := q; rfl) | (obtain ⟨_, _, _, rfl, _⟩ := q; rfl) | (obtain ⟨_, _, _, _, rfl, _⟩ := q; rfl) | (obtain ⟨_, _, _, _, _, rfl, _⟩ := q; rfl) | (obtain ⟨_, _, _, _, _, _, rfl, _⟩ := q; rfl) | (obtain ⟨_, _, _, _, _, _, _, rfl, _⟩ := q; rfl) | (obtain ⟨_, _, _, _, _, _, _, _, rfl, _⟩ := q; rfl) | (obtain ⟨_, _, _, _, _, _, _, _, _, rfl, _⟩ := q; rfl)) (fun cdv A outer s H E hr => by
    have hu0 := hr.units0
    have hu1 := hu_of hr
    have hu64 := hr.units
    have hu65 := hu65_of hr
    exact ⟨_,
(pds_cons (pd_set (i := 0) sc_L_columns.nd (PD.r (PR.v (pr_lst pda_nil))))
  (pds_cons (pd_for (pdi_any (PR.v (pr_lst (pda_cons (pd_tup pda_nil) (pda_cons (pd_tup (pda_cons pd_int pda_nil)) (pda_cons (pd_tup (pda_cons pd_int pda_nil)) pda_nil)))))) (pdg_name sc_L_columns.nd) (pds_one (pd_set (i := 0) sc_L_columns.nd (PD.r (PR.v (pr_add (PR.v (pr_add (pd_var 0) (PR.v (pr_lst (pda_cons (pd_var 1) pda_nil))))) (PR.v (pr_lc (own := [("_law_figure_here", 2)]) sc_L_columns.nd (pdi_rng1 T.b_range pd_int) (blkOk_by (N := ["_law_found", "_law_over", "_law_figure_here"]) (sc := defScope s_L_columns) (by decide +kernel)) (fun _ _ _ _ _ => (pdg_name sc_L_columns.nd)) mono_name (sets_name (by decide)) (fun _ _ _ _ _ => pdts_nil) (fun _ _ _ _ _ => (PR.v (pr_add (pd_tup (pda_cons (pd_var 2) pda_nil)) (pd_var 1))))))))))))
  (pds_one (pd_ret (PD.r (pd_var 0))))))⟩) rd_L_columns
theorem ok_L_column (T : Txt K mg) (TB : TBs T base) : FnOk P w K mg base CX0 1 T.f_L_column T.d_L_column ["_law_card", "_law_at"] (SpV K F_L_column) :=
  okV T.F_L_column sc_L_column (fun xs Φ h => by have q := h; first | (obtain ⟨rfl, _⟩ := q; rfl) | (obtain ⟨_, rfl, _⟩ := q; rfl) | (obtain ⟨_, _, rfl, _⟩ := q; rfl) | (obtain ⟨_, _, _, rfl, _⟩ := q; rfl) | (obtain ⟨_, _, _, _, rfl, _⟩ := q; rfl) | (obtain ⟨_, _, _, _, _, rfl, _⟩ := q; rfl) | (obtain ⟨_, _, _, _, _, _, rfl, _⟩ := q; rfl) | (obtain ⟨_, _, _, _, _, _, _, rfl, _⟩ := q; rfl) | (obtain ⟨_, _, _, _, _, _, _, _, rfl, _⟩ := q; rfl) | (obtain ⟨_, _, _, _, _, _, _, _, _, rfl, _⟩ := q; rfl)) (fun cdv A outer s H E hr => by
    have hu0 := hr.units0
    have hu1 := hu_of hr
    have hu64 := hr.units
    have hu65 := hu65_of hr
    exact ⟨_,
(pds_one (pd_ret (PD.r (pd_ix hu1 (PR.v (pr_add (PR.v (pr_list T.b_list (pda_cons (pd_var 0) pda_nil))) (PR.v (pr_mul (PR.v (pr_lst (pda_cons (pd_tup pda_nil) pda_nil))) pd_int)))) (pd_var 1) (fun _ _ => rfl)))))⟩) rd_L_column
theorem ok_L_figure (T : Txt K mg) (TB : TBs T base) : FnOk P w K mg base CX0 1 T.f_L_figure T.d_L_figure ["_law_column_here"] (SpV K F_L_figure) :=
  okV T.F_L_figure sc_L_figure (fun xs Φ h => by have q := h; first | (obtain ⟨rfl, _⟩ := q; rfl) | (obtain ⟨_, rfl, _⟩ := q; rfl) | (obtain ⟨_, _, rfl, _⟩ := q; rfl) | (obtain ⟨_, _, _, rfl, _⟩ := q; rfl) | (obtain ⟨_, _, _, _, rfl, _⟩ := q; rfl) | (obtain ⟨_, _, _, _, _, rfl, _⟩ := q; rfl) | (obtain ⟨_, _, _, _, _, _, rfl, _⟩ := q; rfl) | (obtain ⟨_, _, _, _, _, _, _, rfl, _⟩ := q; rfl) | (obtain ⟨_, _, _, _, _, _, _, _, rfl, _⟩ := q; rfl) | (obtain ⟨_, _, _, _, _, _, _, _, _, rfl, _⟩ := q; rfl)) (fun cdv A outer s H E hr => by
    have hu0 := hr.units0
    have hu1 := hu_of hr
    have hu64 := hr.units
    have hu65 := hu65_of hr
    exact ⟨_,
(pds_one (pd_ret (pr_maxL T.b_max (pda_cons (PR.v (pr_add (PR.v (pr_lc (own := [("_law_hole", 1)]) sc_L_figure.nd (pdi_any (pd_var 0)) (blkOk_by (N := ["_law_column_here", "_law_hole"]) (sc := defScope s_L_figure) (by decide +kernel)) (fun _ _ _ _ _ => (pdg_name sc_L_figure.nd)) mono_name (sets_name (by decide)) (fun _ _ _ _ _ => (pdts_one (pdt_lt (pd_var 1) pd_int))) (fun _ _ _ _ _ => (pd_var 1)))) (PR.v (pr_lst (pda_cons (pd_neg pd_int) pda_nil))))) pda_nil))))⟩) rd_L_figure
theorem ok_sign_of (T : Txt K mg) (TB : TBs T base) : FnOk P w K mg base CX0 2 T.f_sign_of T.d_sign_of ["column"] (SpV K F_sign_of) :=
  okV T.F_sign_of sc_sign_of (fun xs Φ h => by have q := h; first | (obtain ⟨rfl, _⟩ := q; rfl) | (obtain ⟨_, rfl, _⟩ := q; rfl) | (obtain ⟨_, _, rfl, _⟩ := q; rfl) | (obtain ⟨_, _, _, rfl, _⟩ := q; rfl) | (obtain ⟨_, _, _, _, rfl, _⟩ := q; rfl) | (obtain ⟨_, _, _, _, _, rfl, _⟩ := q; rfl) | (obtain ⟨_, _, _, _, _, _, rfl, _⟩ := q; rfl) | (obtain ⟨_, _, _, _, _, _, _, rfl, _⟩ := q; rfl) | (obtain ⟨_, _, _, _, _, _, _, _, rfl, _⟩ := q; rfl) | (obtain ⟨_, _, _, _, _, _, _, _, _, rfl, _⟩ := q; rfl)) (fun cdv A outer s H E hr => by
    have hu0 := hr.units0
    have hu1 := hu_of hr
    have hu64 := hr.units
    have hu65 := hu65_of hr
    exact ⟨_,
(pds_cons (pd_set (i := 1) sc_sign_of.nd (PD.r (PR.v (pr_call (ok_figure_of T TB) (hr.mono (by decide)) T.m_figure_of T.F_figure_of.kp T.B_figure_of (pda_cons (pd_var 0) pda_nil)))))
  (pds_cons (pd_set (i := 2) sc_sign_of.nd (PD.r (PR.v (pr_call (ok_over_of T TB) (hr.mono (by decide)) T.m_over_of T.F_over_of.kp T.B_over_of (pda_cons (pd_var 0) pda_nil)))))
  (pds_cons (pd_if (pdt_lt (pd_var 1) pd_int) (pds_one (pd_ret (PD.r (pd_ix hu1 (PR.v (pr_dict (pdp_cons (pd_neg pd_int) pd_str (pdp_cons pd_int pd_str (pdp_cons pd_int pd_str pdp_nil))))) (pd_var 2) (fun _ _ => rfl))))) pds_nil)
  (pds_cons (pd_if (pdt_lt (pd_var 2) pd_int) (pds_one (pd_ret (PD.r (pd_ix hu1 (pd_globS T.g_FIGURES) (pd_var 1) (fun _ _ => rfl))))) pds_nil)
  (pds_one (pd_ret (PD.r (pd_ix hu1 (pd_ixI T.D_LETTERS T.m_LETTERS (pd_var 2) (fun _ _ => rfl)) (pd_var 1) (fun _ _ => rfl)))))))))⟩) rd_sign_of
theorem ok_pocket_of (T : Txt K mg) (TB : TBs T base) : FnOk P w K mg base CX0 2 T.f_pocket_of T.d_pocket_of ["card", "column", "places"] (SpV K F_pocket_of) :=
  okV T.F_pocket_of sc_pocket_of (fun xs Φ h => by have q := h; first | (obtain ⟨rfl, _⟩ := q; rfl) | (obtain ⟨_, rfl, _⟩ := q; rfl) | (obtain ⟨_, _, rfl, _⟩ := q; rfl) | (obtain ⟨_, _, _, rfl, _⟩ := q; rfl) | (obtain ⟨_, _, _, _, rfl, _⟩ := q; rfl) | (obtain ⟨_, _, _, _, _, rfl, _⟩ := q; rfl) | (obtain ⟨_, _, _, _, _, _, rfl, _⟩ := q; rfl) | (obtain ⟨_, _, _, _, _, _, _, rfl, _⟩ := q; rfl) | (obtain ⟨_, _, _, _, _, _, _, _, rfl, _⟩ := q; rfl) | (obtain ⟨_, _, _, _, _, _, _, _, _, rfl, _⟩ := q; rfl)) (fun cdv A outer s H E hr => by
    have hu0 := hr.units0
    have hu1 := hu_of hr
    have hu64 := hr.units
    have hu65 := hu65_of hr
    exact ⟨_,
(pds_cons (pd_for (pdi_any (PR.v (pr_call (ok_column_of T TB) (hr.mono (by decide)) T.m_column_of T.F_column_of.kp T.B_column_of (pda_cons (pd_var 0) (pda_cons (pd_var 1) pda_nil))))) (pdg_name sc_pocket_of.nd) (pds_one (pd_if (pdt_in hu65 (pd_var 3) (pd_var 2)) (pds_one (pd_ret (pr_add (pd_var 3) pd_int))) pds_nil)))
  (pds_one (pd_ret (PD.r pd_int))))⟩) rd_pocket_of
theorem ok_L_key (T : Txt K mg) (TB : TBs T base) : FnOk P w K mg base CX0 2 T.f_L_key T.d_L_key ["_law_column_here"] (SpV K F_L_key) :=
  okV T.F_L_key sc_L_key (fun xs Φ h => by have q := h; first | (obtain ⟨rfl, _⟩ := q; rfl) | (obtain ⟨_, rfl, _⟩ := q; rfl) | (obtain ⟨_, _, rfl, _⟩ := q; rfl) | (obtain ⟨_, _, _, rfl, _⟩ := q; rfl) | (obtain ⟨_, _, _, _, rfl, _⟩ := q; rfl) | (obtain ⟨_, _, _, _, _, rfl, _⟩ := q; rfl) | (obtain ⟨_, _, _, _, _, _, rfl, _⟩ := q; rfl) | (obtain ⟨_, _, _, _, _, _, _, rfl, _⟩ := q; rfl) | (obtain ⟨_, _, _, _, _, _, _, _, rfl, _⟩ := q; rfl) | (obtain ⟨_, _, _, _, _, _, _, _, _, rfl, _⟩ := q; rfl)) (fun cdv A outer s H E hr => by
    have hu0 := hr.units0
    have hu1 := hu_of hr
    have hu64 := hr.units
    have hu65 := hu65_of hr
    exact ⟨_,
(pds_one (pd_ret (PD.r (pd_tup (pda_cons (PR.v (pr_maxL T.b_max (pda_cons (PR.v (pr_add (PR.v (pr_lc (own := [("_law_hole", 1)]) sc_L_key.nd (pdi_any (pd_var 0)) (blkOk_by (N := ["_law_column_here", "_law_hole"]) (sc := defScope s_L_key) (by decide +kernel)) (fun _ _ _ _ _ => (pdg_name sc_L_key.nd)) mono_name (sets_name (by decide)) (fun _ _ _ _ _ => (pdts_one (pdt_gt hu0 (pd_var 1) pd_int))) (fun _ _ _ _ _ => (pd_var 1)))) (PR.v (pr_lst (pda_cons (pd_neg pd_int) pda_nil))))) pda_nil))) (pda_cons (PR.v (pr_call (ok_L_figure T TB) (hr.mono (by decide)) T.m_L_figure T.F_L_figure.kp T.B_L_figure (pda_cons (pd_var 0) pda_nil))) pda_nil))))))⟩) rd_L_key
theorem ok_L_sign (T : Txt K mg) (TB : TBs T base) : FnOk P w K mg base CX0 2 T.f_L_sign T.d_L_sign ["_law_column_here"] (SpV K F_L_sign) :=
  okV T.F_L_sign sc_L_sign (fun xs Φ h => by have q := h; first | (obtain ⟨rfl, _⟩ := q; rfl) | (obtain ⟨_, rfl, _⟩ := q; rfl) | (obtain ⟨_, _, rfl, _⟩ := q; rfl) | (obtain ⟨_, _, _, rfl, _⟩ := q; rfl) | (obtain ⟨_, _, _, _, rfl, _⟩ := q; rfl) | (obtain ⟨_, _, _, _, _, rfl, _⟩ := q; rfl) | (obtain ⟨_, _, _, _, _, _, rfl, _⟩ := q; rfl) | (obtain ⟨_, _, _, _, _, _, _, rfl, _⟩ := q; rfl) | (obtain ⟨_, _, _, _, _, _, _, _, rfl, _⟩ := q; rfl) | (obtain ⟨_, _, _, _, _, _, _, _, _, rfl, _⟩ := q; rfl)) (fun cdv A outer s H E hr => by
    have hu0 := hr.units0
    have hu1 := hu_of hr
    have hu64 := hr.units
    have hu65 := hu65_of hr
    exact ⟨_,
(pds_one (pd_ret (PD.r (pd_ix hu1 pd_str (PR.v (pr_index hu65 (PR.v (pr_call0 (ok_L_columns T TB) (hr.mono (by decide)) T.m_L_columns T.F_L_columns.kp T.B_L_columns)) (pda_cons (pd_var 0) pda_nil))) (fun _ _ => rfl)))))⟩) rd_L_sign
theorem ok_L_palette (T : Txt K mg) (TB : TBs T base) : FnOk P w K mg base CX0 2 T.f_L_palette T.d_L_palette ["_law_d"] (SpO K F_L_palette) :=
  okO T.F_L_palette sc_L_palette (fun S xs Φ h => by have q := h; first | (obtain ⟨rfl, _⟩ := q; rfl) | (obtain ⟨_, rfl, _⟩ := q; rfl) | (obtain ⟨_, _, rfl, _⟩ := q; rfl) | (obtain ⟨_, _, _, rfl, _⟩ := q; rfl) | (obtain ⟨_, _, _, _, rfl, _⟩ := q; rfl) | (obtain ⟨_, _, _, _, _, rfl, _⟩ := q; rfl) | (obtain ⟨_, _, _, _, _, _, rfl, _⟩ := q; rfl) | (obtain ⟨_, _, _, _, _, _, _, rfl, _⟩ := q; rfl) | (obtain ⟨_, _, _, _, _, _, _, _, rfl, _⟩ := q; rfl) | (obtain ⟨_, _, _, _, _, _, _, _, _, rfl, _⟩ := q; rfl)) (fun cdv A outer s H E hr => by
    have hu0 := hr.units0
    have hu1 := hu_of hr
    have hu64 := hr.units
    have hu65 := hu65_of hr
    exact ⟨_,
(pds_cons (pd_set (i := 1) sc_L_palette.nd (PD.r (PR.v (pr_call0 (ok_L_columns T TB) (hr.mono (by decide)) T.m_L_columns T.F_L_columns.kp T.B_L_columns))))
  (pds_cons (pd_set (i := 2) sc_L_palette.nd (PD.r (PR.v (pr_callO 0 (ok_L_next T TB) (hr.mono (by decide)) T.m_L_next T.F_L_next.kp T.B_L_next (pda_cons pd_int pda_nil)))))
  (pds_cons (pd_if (pdt_eq hu64 (pd_var 2) pd_int) (pds_one (pd_ret (pr_slice (PR.v (pr_lst (pda_cons (pd_tup pda_nil) (pda_cons (pd_tup (pda_cons pd_int pda_nil)) (pda_cons (pd_tup (pda_cons pd_int pda_nil)) pda_nil))))) (pdo_some (PR.v (pr_callO 0 (ok_L_next T TB) (hr.mono (by decide)) T.m_L_next T.F_L_next.kp T.B_L_next (pda_cons pd_int pda_nil)))) pdo_none))) pds_nil)
  (pds_cons (pd_if (pdt_eq hu64 (pd_var 2) pd_int) (pds_one (pd_ret (pr_slice (pd_var 1) (pdo_some pd_int) (pdo_some pd_int)))) pds_nil)
  (pds_cons (pd_if (pdt_eq hu64 (pd_var 2) pd_int) (pds_one (pd_ret (pr_slice (pd_var 1) (pdo_some (PR.v (pr_callO 0 (ok_L_next T TB) (hr.mono (by decide)) T.m_L_next T.F_L_next.kp T.B_L_next (pda_cons pd_int pda_nil)))) (pdo_some (PR.v (pr_add pd_int (PR.v (pr_callO 0 (ok_L_next T TB) (hr.mono (by decide)) T.m_L_next T.F_L_next.kp T.B_L_next (pda_cons pd_int pda_nil))))))))) pds_nil)
  (pds_cons (pd_if (pdt_eq hu64 (pd_var 2) pd_int) (pds_one (pd_ret (PD.r (pd_var 1)))) pds_nil)
  (pds_cons (pd_set (i := 3) sc_L_palette.nd (PD.r (PR.v (pr_lc (own := [("_law_k", 4)]) sc_L_palette.nd (pdi_rng1 T.b_range (PR.v (pr_add pd_int (PR.v (pr_callO 0 (ok_L_next T TB) (hr.mono (by decide)) T.m_L_next T.F_L_next.kp T.B_L_next (pda_cons pd_int pda_nil)))))) (blkOk_by (N := ["_law_d", "_law_every", "_law_way", "_law_found", "_law_k", "_law_column_here"]) (sc := defScope s_L_palette) (by decide +kernel)) (fun _ _ _ _ _ => (pdg_name sc_L_palette.nd)) mono_name (sets_name (by decide)) (fun _ _ _ _ _ => pdts_nil) (fun _ _ _ _ _ => (pd_ix hu1 (pd_var 1) (PR.v (pr_callO 0 (ok_L_next T TB) (hr.mono (by decide)) T.m_L_next T.F_L_next.kp T.B_L_next (pda_cons pd_int pda_nil))) (fun _ _ => rfl)))))))
  (pds_one (pd_ret (pr_lc (own := [("_law_column_here", 5)]) sc_L_palette.nd (pdi_any (pd_var 1)) (blkOk_by (N := ["_law_d", "_law_every", "_law_way", "_law_found", "_law_k", "_law_column_here"]) (sc := defScope s_L_palette) (by decide +kernel)) (fun _ _ _ _ _ => (pdg_name sc_L_palette.nd)) mono_name (sets_name (by decide)) (fun _ _ _ _ _ => (pdts_one (pdt_in hu65 (pd_var 5) (pd_var 3)))) (fun _ _ _ _ _ => (pd_var 5))))))))))))⟩) rd_L_palette
theorem ok_L_deck (T : Txt K mg) (TB : TBs T base) : FnOk P w K mg base CX0 2 T.f_L_deck T.d_L_deck ["_law_d", "_law_palettes_here", "_law_most"] (SpO K F_L_deck) :=
  okO T.F_L_deck sc_L_deck (fun S xs Φ h => by have q := h; first | (obtain ⟨rfl, _⟩ := q; rfl) | (obtain ⟨_, rfl, _⟩ := q; rfl) | (obtain ⟨_, _, rfl, _⟩ := q; rfl) | (obtain ⟨_, _, _, rfl, _⟩ := q; rfl) | (obtain ⟨_, _, _, _, rfl, _⟩ := q; rfl) | (obtain ⟨_, _, _, _, _, rfl, _⟩ := q; rfl) | (obtain ⟨_, _, _, _, _, _, rfl, _⟩ := q; rfl) | (obtain ⟨_, _, _, _, _, _, _, rfl, _⟩ := q; rfl) | (obtain ⟨_, _, _, _, _, _, _, _, rfl, _⟩ := q; rfl) | (obtain ⟨_, _, _, _, _, _, _, _, _, rfl, _⟩ := q; rfl)) (fun cdv A outer s H E hr => by
    have hu0 := hr.units0
    have hu1 := hu_of hr
    have hu64 := hr.units
    have hu65 := hu65_of hr
    exact ⟨_,
(pds_cons (pd_set (i := 3) sc_L_deck.nd (pr_lst pda_nil))
  (pds_cons (pd_for (pdi_rng1 T.b_range (PR.v (pr_callO 0 (ok_L_next T TB) (hr.mono (by decide)) T.m_L_next T.F_L_next.kp T.B_L_next (pda_cons (PR.v (pr_add (pd_var 2) pd_int)) pda_nil)))) (pdg_name sc_L_deck.nd) (pds_one (pd_expr (pr_app 3 (PR.v (pr_tuple T.b_tuple (pda_cons (PR.v (pr_lc (own := [("_law_palette_here", 5)]) sc_L_deck.nd (pdi_any (pd_var 1)) (blkOk_by (N := ["_law_d", "_law_palettes_here", "_law_most", "_law_deck_here", "_law_k", "_law_palette_here"]) (sc := defScope s_L_deck) (by decide +kernel)) (fun _ _ _ _ _ => (pdg_name sc_L_deck.nd)) mono_name (sets_name (by decide)) (fun _ _ _ _ _ => pdts_nil) (fun _ _ _ _ _ => (pd_ix hu1 (pd_var 5) (PR.v (pr_callO 0 (ok_L_next T TB) (hr.mono (by decide)) T.m_L_next T.F_L_next.kp T.B_L_next (pda_cons (PR.v (pr_len T.b_len (pda_cons (pd_var 5) pda_nil))) pda_nil))) (fun _ _ => rfl))))) pda_nil)))))))
  (pds_one (pd_retM 3))))⟩) rd_L_deck
theorem ok_L_order (T : Txt K mg) (TB : TBs T base) : FnOk P w K mg base CX0 2 T.f_L_order T.d_L_order ["_law_d", "_law_most"] (SpO K F_L_order) :=
  okO T.F_L_order sc_L_order (fun S xs Φ h => by have q := h; first | (obtain ⟨rfl, _⟩ := q; rfl) | (obtain ⟨_, rfl, _⟩ := q; rfl) | (obtain ⟨_, _, rfl, _⟩ := q; rfl) | (obtain ⟨_, _, _, rfl, _⟩ := q; rfl) | (obtain ⟨_, _, _, _, rfl, _⟩ := q; rfl) | (obtain ⟨_, _, _, _, _, rfl, _⟩ := q; rfl) | (obtain ⟨_, _, _, _, _, _, rfl, _⟩ := q; rfl) | (obtain ⟨_, _, _, _, _, _, _, rfl, _⟩ := q; rfl) | (obtain ⟨_, _, _, _, _, _, _, _, rfl, _⟩ := q; rfl) | (obtain ⟨_, _, _, _, _, _, _, _, _, rfl, _⟩ := q; rfl)) (fun cdv A outer s H E hr => by
    have hu0 := hr.units0
    have hu1 := hu_of hr
    have hu64 := hr.units
    have hu65 := hu65_of hr
    exact ⟨_,
(pds_cons (pd_set (i := 2) sc_L_order.nd (pr_lstRg1 T.b_list T.b_range (pd_var 1)))
  (pds_cons (pd_set (i := 3) sc_L_order.nd (pr_lst pda_nil))
  (pds_cons (pd_for (pdi_rng1 T.b_range (pd_ix hu1 (PR.v (pr_lst (pda_cons (PR.v (pr_callO 0 (ok_L_next T TB) (hr.mono (by decide)) T.m_L_next T.F_L_next.kp T.B_L_next (pda_cons pd_int pda_nil))) (pda_cons (PR.v (pr_callO 0 (ok_L_next T TB) (hr.mono (by decide)) T.m_L_next T.F_L_next.kp T.B_L_next (pda_cons pd_int pda_nil))) pda_nil)))) (PR.v (pr_callO 0 (ok_L_next T TB) (hr.mono (by decide)) T.m_L_next T.F_L_next.kp T.B_L_next (pda_cons pd_int pda_nil))) (fun _ _ => rfl))) (pdg_name sc_L_order.nd) (pds_one (pd_if (pdt_neOwn 2 hu64 (PR.v (pr_lst pda_nil))) (pds_one (pd_expr (pr_app 3 (pd_tup (pda_cons (PR.v (pr_pop 2 (PR.v (pr_callO 0 (ok_L_next T TB) (hr.mono (by decide)) T.m_L_next T.F_L_next.kp T.B_L_next (pda_cons (PR.v (pr_lenOwn 2 T.b_len)) pda_nil))))) (pda_cons (pd_eq hu64 (PR.v (pr_callO 0 (ok_L_next T TB) (hr.mono (by decide)) T.m_L_next T.F_L_next.kp T.B_L_next (pda_cons pd_int pda_nil))) pd_int) pda_nil)))))) pds_nil)))
  (pds_one (pd_retM 3)))))⟩) rd_L_order
theorem ok_L_pocket (T : Txt K mg) (TB : TBs T base) : FnOk P w K mg base CX0 2 T.f_L_pocket T.d_L_pocket ["_law_card", "_law_one"] (SpV K F_L_pocket) :=
  okV T.F_L_pocket sc_L_pocket (fun xs Φ h => by have q := h; first | (obtain ⟨rfl, _⟩ := q; rfl) | (obtain ⟨_, rfl, _⟩ := q; rfl) | (obtain ⟨_, _, rfl, _⟩ := q; rfl) | (obtain ⟨_, _, _, rfl, _⟩ := q; rfl) | (obtain ⟨_, _, _, _, rfl, _⟩ := q; rfl) | (obtain ⟨_, _, _, _, _, rfl, _⟩ := q; rfl) | (obtain ⟨_, _, _, _, _, _, rfl, _⟩ := q; rfl) | (obtain ⟨_, _, _, _, _, _, _, rfl, _⟩ := q; rfl) | (obtain ⟨_, _, _, _, _, _, _, _, rfl, _⟩ := q; rfl) | (obtain ⟨_, _, _, _, _, _, _, _, _, rfl, _⟩ := q; rfl)) (fun cdv A outer s H E hr => by
    have hu0 := hr.units0
    have hu1 := hu_of hr
    have hu64 := hr.units
    have hu65 := hu65_of hr
    exact ⟨_,
(pds_cons (pd_setLcV (i := 2) (own := [("_law_place", 3)]) sc_L_pocket.nd rfl (sw_true rfl rfl rfl (by decide +kernel)) (pdi_any (PR.v (pr_call (ok_L_column T TB) (hr.mono (by decide)) T.m_L_column T.F_L_column.kp T.B_L_column (pda_cons (pd_var 0) (pda_cons (pd_ix hu1 (pd_var 1) pd_int (fun _ _ => rfl)) pda_nil))))) (blkOk_by (N := ["_law_card", "_law_one", "_law_some", "_law_place"]) (sc := defScope s_L_pocket) (by decide +kernel)) (fun _ _ _ _ _ => (pdg_name sc_L_pocket.nd)) mono_name (sets_name (by decide)) (fun _ _ _ _ _ => (pdts_one (pdt_in hu65 (pd_var 3) (pd_ix hu1 (pd_var 1) pd_int (fun _ _ => rfl))))) (fun _ _ _ _ _ => (PR.v (pr_add (pd_var 3) pd_int))))
  (pds_one (pd_ret (PD.r (pd_mod (PR.v (pr_minL T.b_min (pda_cons (PR.v (pr_add (pd_var 2) (PR.v (pr_lst (pda_cons pd_int pda_nil))))) pda_nil))) pd_int)))))⟩) rd_L_pocket
theorem ok_column_by (T : Txt K mg) (TB : TBs T base) : FnOk P w K mg base CX0 3 T.f_column_by T.d_column_by ["sign"] (SpV K F_column_by) :=
  okV T.F_column_by sc_column_by (fun xs Φ h => by have q := h; first | (obtain ⟨rfl, _⟩ := q; rfl) | (obtain ⟨_, rfl, _⟩ := q; rfl) | (obtain ⟨_, _, rfl, _⟩ := q; rfl) | (obtain ⟨_, _, _, rfl, _⟩ := q; rfl) | (obtain ⟨_, _, _, _, rfl, _⟩ := q; rfl) | (obtain ⟨_, _, _, _, _, rfl, _⟩ := q; rfl) | (obtain ⟨_, _, _, _, _, _, rfl, _⟩ := q; rfl) | (obtain ⟨_, _, _, _, _, _, _, rfl, _⟩ := q; rfl) | (obtain ⟨_, _, _, _, _, _, _, _, rfl, _⟩ := q; rfl) | (obtain ⟨_, _, _, _, _, _, _, _, _, rfl, _⟩ := q; rfl)) (fun cdv A outer s H E hr => by
    have hu0 := hr.units0
    have hu1 := hu_of hr
    have hu64 := hr.units
    have hu65 := hu65_of hr
    exact ⟨_,
(pds_cons (pd_for (pdi_any (PR.v (pr_call0 (ok_all_columns T TB) (hr.mono (by decide)) T.m_all_columns T.F_all_columns.kp T.B_all_columns))) (pdg_name sc_column_by.nd) (pds_one (pd_if (pdt_eq hu64 (PR.v (pr_call (ok_sign_of T TB) (hr.mono (by decide)) T.m_sign_of T.F_sign_of.kp T.B_sign_of (pda_cons (pd_var 1) pda_nil))) (pd_var 0)) (pds_one (pd_ret (PD.r (pd_var 1)))) pds_nil)))
  (pds_one (pd_ret (PD.r pd_non))))⟩) rd_column_by
theorem ok_pockets (T : Txt K mg) (TB : TBs T base) : FnOk P w K mg base CX0 3 T.f_pockets T.d_pockets ["deck", "one"] (SpV K F_pockets) :=
  okV T.F_pockets sc_pockets (fun xs Φ h => by have q := h; first | (obtain ⟨rfl, _⟩ := q; rfl) | (obtain ⟨_, rfl, _⟩ := q; rfl) | (obtain ⟨_, _, rfl, _⟩ := q; rfl) | (obtain ⟨_, _, _, rfl, _⟩ := q; rfl) | (obtain ⟨_, _, _, _, rfl, _⟩ := q; rfl) | (obtain ⟨_, _, _, _, _, rfl, _⟩ := q; rfl) | (obtain ⟨_, _, _, _, _, _, rfl, _⟩ := q; rfl) | (obtain ⟨_, _, _, _, _, _, _, rfl, _⟩ := q; rfl) | (obtain ⟨_, _, _, _, _, _, _, _, rfl, _⟩ := q; rfl) | (obtain ⟨_, _, _, _, _, _, _, _, _, rfl, _⟩ := q; rfl)) (fun cdv A outer s H E hr => by
    have hu0 := hr.units0
    have hu1 := hu_of hr
    have hu64 := hr.units
    have hu65 := hu65_of hr
    exact ⟨_,
(pds_cons (pd_asg (pd_var 1) (pdg_tup (pdgs_cons (pdg_name sc_pockets.nd) (pdgs_cons (pdg_name sc_pockets.nd) (pdgs_cons (pdg_name sc_pockets.nd) pdgs_nil)))))
  (pds_cons (pd_setLcO (i := 5) (own := [("pocket", 7)]) sc_pockets.nd rfl (sw_true rfl rfl rfl (by decide +kernel)) (pdi_rng1 T.b_range pd_int) (blkOk_by (N := ["deck", "one", "column", "places", "falling", "found", "card", "pocket"]) (sc := defScope s_pockets) (by decide +kernel)) (fun _ _ _ _ _ => (pdg_name sc_pockets.nd)) mono_name (sets_name (by decide)) (fun _ _ _ _ _ => (pr_lst pda_nil)))
  (pds_cons (pd_for (pdi_any (pd_var 0)) (pdg_name sc_pockets.nd) (pds_one (pd_expr (pr_papp (pp_ix hu1 (pp_var 5) (PR.v (pr_call (ok_pocket_of T TB) (hr.mono (by decide)) T.m_pocket_of T.F_pocket_of.kp T.B_pocket_of (pda_cons (pd_var 6) (pda_cons (pd_var 2) (pda_cons (pd_var 3) pda_nil))))) (fun _ _ => rfl)) (pd_var 6)))))
  (pds_one (pd_retM 5)))))⟩) rd_pockets
theorem ok_does_part (T : Txt K mg) (TB : TBs T base) : FnOk P w K mg base CX0 3 T.f_does_part T.d_does_part ["places", "columns"] (SpV K F_does_part) :=
  okV T.F_does_part sc_does_part (fun xs Φ h => by have q := h; first | (obtain ⟨rfl, _⟩ := q; rfl) | (obtain ⟨_, rfl, _⟩ := q; rfl) | (obtain ⟨_, _, rfl, _⟩ := q; rfl) | (obtain ⟨_, _, _, rfl, _⟩ := q; rfl) | (obtain ⟨_, _, _, _, rfl, _⟩ := q; rfl) | (obtain ⟨_, _, _, _, _, rfl, _⟩ := q; rfl) | (obtain ⟨_, _, _, _, _, _, rfl, _⟩ := q; rfl) | (obtain ⟨_, _, _, _, _, _, _, rfl, _⟩ := q; rfl) | (obtain ⟨_, _, _, _, _, _, _, _, rfl, _⟩ := q; rfl) | (obtain ⟨_, _, _, _, _, _, _, _, _, rfl, _⟩ := q; rfl)) (fun cdv A outer s H E hr => by
    have hu0 := hr.units0
    have hu1 := hu_of hr
    have hu64 := hr.units
    have hu65 := hu65_of hr
    exact ⟨_,
(pds_cons (pd_setLcV (i := 2) (own := [("one", 3)]) sc_does_part.nd rfl (sw_true rfl rfl rfl (by decide +kernel)) (pdi_any (pd_var 1)) (blkOk_by (N := ["places", "columns", "rows", "one"]) (sc := defScope s_does_part) (by decide +kernel)) (fun _ _ _ _ _ => (pdg_name sc_does_part.nd)) mono_name (sets_name (by decide)) (fun _ _ _ _ _ => pdts_nil) (fun _ _ _ _ _ => (PR.v (pr_call (ok_pocket_of T TB) (hr.mono (by decide)) T.m_pocket_of T.F_pocket_of.kp T.B_pocket_of (pda_cons (pd_tup (pda_cons (pd_var 3) pda_nil)) (pda_cons pd_int (pda_cons (pd_var 0) pda_nil)))))))
  (pds_one (pd_ret (PD.r (pd_eq hu64 (pd_var 2) (PR.v (pr_sortedSetI T.b_sorted T.b_set (pd_var 2))))))))⟩) rd_does_part
theorem ok_L_palettes (T : Txt K mg) (TB : TBs T base) : FnOk P w K mg base CX0 3 T.f_L_palettes T.d_L_palettes ["_law_d"] (SpO K F_L_palettes) :=
  okO T.F_L_palettes sc_L_palettes (fun S xs Φ h => by have q := h; first | (obtain ⟨rfl, _⟩ := q; rfl) | (obtain ⟨_, rfl, _⟩ := q; rfl) | (obtain ⟨_, _, rfl, _⟩ := q; rfl) | (obtain ⟨_, _, _, rfl, _⟩ := q; rfl) | (obtain ⟨_, _, _, _, rfl, _⟩ := q; rfl) | (obtain ⟨_, _, _, _, _, rfl, _⟩ := q; rfl) | (obtain ⟨_, _, _, _, _, _, rfl, _⟩ := q; rfl) | (obtain ⟨_, _, _, _, _, _, _, rfl, _⟩ := q; rfl) | (obtain ⟨_, _, _, _, _, _, _, _, rfl, _⟩ := q; rfl) | (obtain ⟨_, _, _, _, _, _, _, _, _, rfl, _⟩ := q; rfl)) (fun cdv A outer s H E hr => by
    have hu0 := hr.units0
    have hu1 := hu_of hr
    have hu64 := hr.units
    have hu65 := hu65_of hr
    exact ⟨_,
(pds_one (pd_ret (pr_lc (own := [("_law_k", 1)]) sc_L_palettes.nd (pdi_rng1 T.b_range (pd_ix hu1 (PR.v (pr_lst (pda_cons (PR.v (pr_add pd_int (PR.v (pr_callO 0 (ok_L_next T TB) (hr.mono (by decide)) T.m_L_next T.F_L_next.kp T.B_L_next (pda_cons pd_int pda_nil))))) (pda_cons pd_int pda_nil)))) (PR.v (pr_int T.b_int (pda_cons (pd_eq hu64 (PR.v (pr_callO 0 (ok_L_next T TB) (hr.mono (by decide)) T.m_L_next T.F_L_next.kp T.B_L_next (pda_cons pd_int pda_nil))) pd_int) pda_nil))) (fun _ _ => rfl))) (blkOk_by (N := ["_law_d", "_law_k"]) (sc := defScope s_L_palettes) (by decide +kernel)) (fun _ _ _ _ _ => (pdg_name sc_L_palettes.nd)) mono_name (sets_name (by decide)) (fun _ _ _ _ _ => pdts_nil) (fun _ _ _ _ _ => (PR.v (pr_callO 0 (ok_L_palette T TB) (hr.mono (by decide)) T.m_L_palette T.F_L_palette.kp T.B_L_palette pda_nil))))))⟩) rd_L_palettes
theorem ok_L_sorted (T : Txt K mg) (TB : TBs T base) : FnOk P w K mg base CX0 3 T.f_L_sorted T.d_L_sorted ["_law_deck_here", "_law_order_here"] (SpV K F_L_sorted) :=
  okV T.F_L_sorted sc_L_sorted (fun xs Φ h => by have q := h; first | (obtain ⟨rfl, _⟩ := q; rfl) | (obtain ⟨_, rfl, _⟩ := q; rfl) | (obtain ⟨_, _, rfl, _⟩ := q; rfl) | (obtain ⟨_, _, _, rfl, _⟩ := q; rfl) | (obtain ⟨_, _, _, _, rfl, _⟩ := q; rfl) | (obtain ⟨_, _, _, _, _, rfl, _⟩ := q; rfl) | (obtain ⟨_, _, _, _, _, _, rfl, _⟩ := q; rfl) | (obtain ⟨_, _, _, _, _, _, _, rfl, _⟩ := q; rfl) | (obtain ⟨_, _, _, _, _, _, _, _, rfl, _⟩ := q; rfl) | (obtain ⟨_, _, _, _, _, _, _, _, _, rfl, _⟩ := q; rfl)) (fun cdv A outer s H E hr => by
    have hu0 := hr.units0
    have hu1 := hu_of hr
    have hu64 := hr.units
    have hu65 := hu65_of hr
    exact ⟨_,
(pds_cons (pd_set (i := 2) sc_L_sorted.nd (PD.r (PR.v (pr_list T.b_list (pda_cons (pd_var 0) pda_nil)))))
  (pds_cons (pd_for (pdi_any (PR.v (pr_revL (pd_var 1)))) (pdg_tup (pdgs_cons (pdg_name sc_L_sorted.nd) (pdgs_cons (pdg_name sc_L_sorted.nd) pdgs_nil))) (pds_cons (pd_set (i := 5) sc_L_sorted.nd (PD.r (PR.v (pr_sortedSet hu64 T.b_sorted T.b_set (PR.v (pr_lc (own := [("_law_card", 8)]) sc_L_sorted.nd (pdi_any (pd_var 2)) (blkOk_by (N := ["_law_deck_here", "_law_order_here", "_law_found", "_law_column_here", "_law_falling", "_law_rows", "_law_later", "_law_row", "_law_card"]) (sc := defScope s_L_sorted) (by decide +kernel)) (fun _ _ _ _ _ => (pdg_name sc_L_sorted.nd)) mono_name (sets_name (by decide)) (fun _ _ _ _ _ => pdts_nil) (fun _ _ _ _ _ => (PR.v (pr_call (ok_L_key T TB) (hr.mono (by decide)) T.m_L_key T.F_L_key.kp T.B_L_key (pda_cons (PR.v (pr_call (ok_L_column T TB) (hr.mono (by decide)) T.m_L_column T.F_L_column.kp T.B_L_column (pda_cons (pd_var 8) (pda_cons (pd_var 3) pda_nil)))) pda_nil))))))))))
  (pds_cons (pd_if (pdt_val (pd_var 4)) (pds_one (pd_set (i := 5) sc_L_sorted.nd (PD.r (PR.v (pr_revL (pd_var 5)))))) pds_nil)
  (pds_cons (pd_set (i := 6) sc_L_sorted.nd (PD.r (PR.v (pr_lst pda_nil))))
  (pds_cons (pd_for (pdi_any (pd_var 5)) (pdg_name sc_L_sorted.nd) (pds_one (pd_set (i := 6) sc_L_sorted.nd (PD.r (PR.v (pr_add (pd_var 6) (PR.v (pr_lc (own := [("_law_card", 8)]) sc_L_sorted.nd (pdi_any (pd_var 2)) (blkOk_by (N := ["_law_deck_here", "_law_order_here", "_law_found", "_law_column_here", "_law_falling", "_law_rows", "_law_later", "_law_row", "_law_card"]) (sc := defScope s_L_sorted) (by decide +kernel)) (fun _ _ _ _ _ => (pdg_name sc_L_sorted.nd)) mono_name (sets_name (by decide)) (fun _ _ _ _ _ => (pdts_one (pdt_eq hu64 (PR.v (pr_call (ok_L_key T TB) (hr.mono (by decide)) T.m_L_key T.F_L_key.kp T.B_L_key (pda_cons (PR.v (pr_call (ok_L_column T TB) (hr.mono (by decide)) T.m_L_column T.F_L_column.kp T.B_L_column (pda_cons (pd_var 8) (pda_cons (pd_var 3) pda_nil)))) pda_nil))) (pd_var 7)))) (fun _ _ _ _ _ => (pd_var 8))))))))))
  (pds_one (pd_set (i := 2) sc_L_sorted.nd (PD.r (pd_var 6)))))))))
  (pds_one (pd_ret (PD.r (pd_var 2))))))⟩) rd_L_sorted
theorem ok_L_signs (T : Txt K mg) (TB : TBs T base) : FnOk P w K mg base CX0 3 T.f_L_signs T.d_L_signs ["_law_d", "_law_palettes_here"] (SpO K F_L_signs) :=
  okO T.F_L_signs sc_L_signs (fun S xs Φ h => by have q := h; first | (obtain ⟨rfl, _⟩ := q; rfl) | (obtain ⟨_, rfl, _⟩ := q; rfl) | (obtain ⟨_, _, rfl, _⟩ := q; rfl) | (obtain ⟨_, _, _, rfl, _⟩ := q; rfl) | (obtain ⟨_, _, _, _, rfl, _⟩ := q; rfl) | (obtain ⟨_, _, _, _, _, rfl, _⟩ := q; rfl) | (obtain ⟨_, _, _, _, _, _, rfl, _⟩ := q; rfl) | (obtain ⟨_, _, _, _, _, _, _, rfl, _⟩ := q; rfl) | (obtain ⟨_, _, _, _, _, _, _, _, rfl, _⟩ := q; rfl) | (obtain ⟨_, _, _, _, _, _, _, _, _, rfl, _⟩ := q; rfl)) (fun cdv A outer s H E hr => by
    have hu0 := hr.units0
    have hu1 := hu_of hr
    have hu64 := hr.units
    have hu65 := hu65_of hr
    exact ⟨_,
(pds_cons (pd_set (i := 2) sc_L_signs.nd pr_dnew)
  (pds_cons (pd_for (pdi_rng1 T.b_range (PR.v (pr_len T.b_len (pda_cons (pd_var 1) pda_nil)))) (pdg_name sc_L_signs.nd) (pds_one (pd_if (PDW.tst (pdw_or (pdt_lt (PR.v (pr_len T.b_len (pda_cons (pd_ix hu1 (pd_var 1) (pd_var 3) (fun _ _ => rfl)) pda_nil))) pd_int) (pdw_or1 (pdt_eq hu64 (PR.v (pr_callO 0 (ok_L_next T TB) (hr.mono (by decide)) T.m_L_next T.F_L_next.kp T.B_L_next (pda_cons pd_int pda_nil))) pd_int)))) (pds_cons (pd_set (i := 4) sc_L_signs.nd (PD.r (PR.v (pr_join pd_str (pda_cons (PR.v (pr_lc (own := [("_law_column_here", 5)]) sc_L_signs.nd (pdi_any (pd_ix hu1 (pd_var 1) (pd_var 3) (fun _ _ => rfl))) (blkOk_by (N := ["_law_d", "_law_palettes_here", "_law_signs_here", "_law_at", "_law_some", "_law_column_here"]) (sc := defScope s_L_signs) (by decide +kernel)) (fun _ _ _ _ _ => (pdg_name sc_L_signs.nd)) mono_name (sets_name (by decide)) (fun _ _ _ _ _ => pdts_nil) (fun _ _ _ _ _ => (PR.v (pr_call (ok_L_sign T TB) (hr.mono (by decide)) T.m_L_sign T.F_L_sign.kp T.B_L_sign (pda_cons (pd_var 5) pda_nil)))))) pda_nil)))))
  (pds_one (pd_dset 2 hu1 (pd_ix hu1 (PR.v (pr_lst (pda_cons (pd_var 4) (pda_cons (PR.v (pr_add (pd_revS (pd_var 4)) (PR.v (pr_slice (pd_var 4) pdo_none (pdo_some pd_int))))) pda_nil)))) (PR.v (pr_callO 0 (ok_L_next T TB) (hr.mono (by decide)) T.m_L_next T.F_L_next.kp T.B_L_next (pda_cons pd_int pda_nil))) (fun _ _ => rfl)) (pd_var 3)))) pds_nil)))
  (pds_cons (pd_for (pdi_rng2 T.b_range (PR.v (pr_len T.b_len (pda_cons (pd_var 1) pda_nil))) pd_int) (pdg_name sc_L_signs.nd) (pds_one (pd_if (pdt_eq hu64 (PR.v (pr_callO 0 (ok_L_next T TB) (hr.mono (by decide)) T.m_L_next T.F_L_next.kp T.B_L_next (pda_cons pd_int pda_nil))) pd_int) (pds_one (pd_dset 2 hu1 pd_str (pd_var 3))) pds_nil)))
  (pds_one (pd_retM 2)))))⟩) rd_L_signs
theorem ok_L_passed (T : Txt K mg) (TB : TBs T base) : FnOk P w K mg base CX0 3 T.f_L_passed T.d_L_passed ["_law_deck_here", "_law_one"] (SpV K F_L_passed) :=
  okV T.F_L_passed sc_L_passed (fun xs Φ h => by have q := h; first | (obtain ⟨rfl, _⟩ := q; rfl) | (obtain ⟨_, rfl, _⟩ := q; rfl) | (obtain ⟨_, _, rfl, _⟩ := q; rfl) | (obtain ⟨_, _, _, rfl, _⟩ := q; rfl) | (obtain ⟨_, _, _, _, rfl, _⟩ := q; rfl) | (obtain ⟨_, _, _, _, _, rfl, _⟩ := q; rfl) | (obtain ⟨_, _, _, _, _, _, rfl, _⟩ := q; rfl) | (obtain ⟨_, _, _, _, _, _, _, rfl, _⟩ := q; rfl) | (obtain ⟨_, _, _, _, _, _, _, _, rfl, _⟩ := q; rfl) | (obtain ⟨_, _, _, _, _, _, _, _, _, rfl, _⟩ := q; rfl)) (fun cdv A outer s H E hr => by
    have hu0 := hr.units0
    have hu1 := hu_of hr
    have hu64 := hr.units
    have hu65 := hu65_of hr
    exact ⟨_,
(pds_cons (pd_set (i := 2) sc_L_passed.nd (PD.r (PR.v (pr_lst pda_nil))))
  (pds_cons (pd_for (pdi_rng1 T.b_range pd_int) (pdg_name sc_L_passed.nd) (pds_cons (pd_set (i := 4) sc_L_passed.nd (PD.r (pd_ix hu1 (PR.v (pr_lst (pda_cons (pd_var 3) (pda_cons (pd_sub pd_int (pd_var 3)) pda_nil)))) (PR.v (pr_int T.b_int (pda_cons (pd_ix hu1 (pd_var 1) pd_int (fun _ _ => rfl)) pda_nil))) (fun _ _ => rfl))))
  (pds_one (pd_set (i := 2) sc_L_passed.nd (PD.r (PR.v (pr_add (pd_var 2) (PR.v (pr_lc (own := [("_law_card", 5)]) sc_L_passed.nd (pdi_any (pd_var 0)) (blkOk_by (N := ["_law_deck_here", "_law_one", "_law_found", "_law_turn", "_law_pocket_here", "_law_card"]) (sc := defScope s_L_passed) (by decide +kernel)) (fun _ _ _ _ _ => (pdg_name sc_L_passed.nd)) mono_name (sets_name (by decide)) (fun _ _ _ _ _ => (pdts_one (pdt_eq hu64 (PR.v (pr_call (ok_L_pocket T TB) (hr.mono (by decide)) T.m_L_pocket T.F_L_pocket.kp T.B_L_pocket (pda_cons (pd_var 5) (pda_cons (pd_var 1) pda_nil)))) (pd_var 4)))) (fun _ _ _ _ _ => (pd_var 5)))))))))))
  (pds_one (pd_ret (PD.r (pd_var 2))))))⟩) rd_L_passed
theorem ok_passed (T : Txt K mg) (TB : TBs T base) : FnOk P w K mg base CX0 4 T.f_passed T.d_passed ["deck", "one"] (SpV K F_passed) :=
  okV T.F_passed sc_passed (fun xs Φ h => by have q := h; first | (obtain ⟨rfl, _⟩ := q; rfl) | (obtain ⟨_, rfl, _⟩ := q; rfl) | (obtain ⟨_, _, rfl, _⟩ := q; rfl) | (obtain ⟨_, _, _, rfl, _⟩ := q; rfl) | (obtain ⟨_, _, _, _, rfl, _⟩ := q; rfl) | (obtain ⟨_, _, _, _, _, rfl, _⟩ := q; rfl) | (obtain ⟨_, _, _, _, _, _, rfl, _⟩ := q; rfl) | (obtain ⟨_, _, _, _, _, _, _, rfl, _⟩ := q; rfl) | (obtain ⟨_, _, _, _, _, _, _, _, rfl, _⟩ := q; rfl) | (obtain ⟨_, _, _, _, _, _, _, _, _, rfl, _⟩ := q; rfl)) (fun cdv A outer s H E hr => by
    have hu0 := hr.units0
    have hu1 := hu_of hr
    have hu64 := hr.units
    have hu65 := hu65_of hr
    exact ⟨_,
(pds_cons (pd_asg (pd_var 1) (pdg_tup (pdgs_cons (pdg_name sc_passed.nd) (pdgs_cons (pdg_name sc_passed.nd) (pdgs_cons (pdg_name sc_passed.nd) pdgs_nil)))))
  (pds_cons (pd_set (i := 5) sc_passed.nd (pr_lst pda_nil))
  (pds_cons (pd_set (i := 6) sc_passed.nd (PD.r (PR.v (pr_call (ok_pockets T TB) (hr.mono (by decide)) T.m_pockets T.F_pockets.kp T.B_pockets (pda_cons (pd_var 0) (pda_cons (pd_var 1) pda_nil))))))
  (pds_cons (pd_if (pdt_val (pd_var 4)) (pds_one (pd_set (i := 6) sc_passed.nd (PD.r (PR.v (pr_lstRev T.b_list T.b_reversed (pd_var 6)))))) pds_nil)
  (pds_cons (pd_for (pdi_any (pd_var 6)) (pdg_name sc_passed.nd) (pds_one (pd_expr (pr_ext 5 (pd_var 7)))))
  (pds_one (pd_retM 5)))))))⟩) rd_passed
theorem ok_columns_for (T : Txt K mg) (TB : TBs T base) : FnOk P w K mg base CX0 4 T.f_columns_for T.d_columns_for ["column", "signs"] (SpV K F_columns_for) :=
  okV T.F_columns_for sc_columns_for (fun xs Φ h => by have q := h; first | (obtain ⟨rfl, _⟩ := q; rfl) | (obtain ⟨_, rfl, _⟩ := q; rfl) | (obtain ⟨_, _, rfl, _⟩ := q; rfl) | (obtain ⟨_, _, _, rfl, _⟩ := q; rfl) | (obtain ⟨_, _, _, _, rfl, _⟩ := q; rfl) | (obtain ⟨_, _, _, _, _, rfl, _⟩ := q; rfl) | (obtain ⟨_, _, _, _, _, _, rfl, _⟩ := q; rfl) | (obtain ⟨_, _, _, _, _, _, _, rfl, _⟩ := q; rfl) | (obtain ⟨_, _, _, _, _, _, _, _, rfl, _⟩ := q; rfl) | (obtain ⟨_, _, _, _, _, _, _, _, _, rfl, _⟩ := q; rfl)) (fun cdv A outer s H E hr => by
    have hu0 := hr.units0
    have hu1 := hu_of hr
    have hu64 := hr.units
    have hu65 := hu65_of hr
    exact ⟨_,
(pds_cons (pd_if (pdt_notin hu65 (pd_var 0) (pd_var 1)) (pds_one (pd_ret (pr_call0 (ok_all_columns T TB) (hr.mono (by decide)) T.m_all_columns T.F_all_columns.kp T.B_all_columns))) pds_nil)
  (pds_cons (pd_set (i := 2) sc_columns_for.nd (PD.r (PR.v (pr_lc (own := [("sign", 3)]) sc_columns_for.nd (pdi_any (pd_ix hu1 (pd_var 1) (pd_var 0) (fun _ _ => rfl))) (blkOk_by (N := ["column", "signs", "found", "sign", "one"]) (sc := defScope s_columns_for) (by decide +kernel)) (fun _ _ _ _ _ => (pdg_name sc_columns_for.nd)) mono_name (sets_name (by decide)) (fun _ _ _ _ _ => pdts_nil) (fun _ _ _ _ _ => (PR.v (pr_call (ok_column_by T TB) (hr.mono (by decide)) T.m_column_by T.F_column_by.kp T.B_column_by (pda_cons (pd_var 3) pda_nil))))))))
  (pds_cons (pd_if (PDW.tst (pdw_or (pdt_in hu65 pd_non (pd_var 2)) (pdw_or1 (pdt_eq hu64 (pd_var 2) (PR.v (pr_lst pda_nil)))))) (pds_one pd_never) pds_nil)
  (pds_one (pd_ret (pr_lc (own := [("one", 4)]) sc_columns_for.nd (pdi_any (PR.v (pr_call0 (ok_all_columns T TB) (hr.mono (by decide)) T.m_all_columns T.F_all_columns.kp T.B_all_columns))) (blkOk_by (N := ["column", "signs", "found", "sign", "one"]) (sc := defScope s_columns_for) (by decide +kernel)) (fun _ _ _ _ _ => (pdg_name sc_columns_for.nd)) mono_name (sets_name (by decide)) (fun _ _ _ _ _ => (pdts_one (pdt_in hu65 (pd_var 4) (pd_var 2)))) (fun _ _ _ _ _ => (pd_var 4))))))))⟩) rd_columns_for
theorem ok_one_pass (T : Txt K mg) (TB : TBs T base) : FnOk P w K mg base CX0 4 T.f_one_pass T.d_one_pass ["columns"] (SpV K F_one_pass) :=
  okVT T.F_one_pass T.L_one_pass.code sc_one_pass (fun xs Φ h => by have q := h; first | (obtain ⟨rfl, _⟩ := q; rfl) | (obtain ⟨_, rfl, _⟩ := q; rfl) | (obtain ⟨_, _, rfl, _⟩ := q; rfl) | (obtain ⟨_, _, _, rfl, _⟩ := q; rfl) | (obtain ⟨_, _, _, _, rfl, _⟩ := q; rfl) | (obtain ⟨_, _, _, _, _, rfl, _⟩ := q; rfl) | (obtain ⟨_, _, _, _, _, _, rfl, _⟩ := q; rfl) | (obtain ⟨_, _, _, _, _, _, _, rfl, _⟩ := q; rfl) | (obtain ⟨_, _, _, _, _, _, _, _, rfl, _⟩ := q; rfl) | (obtain ⟨_, _, _, _, _, _, _, _, _, rfl, _⟩ := q; rfl)) (fun A outer s H E hr => by
    have hu0 := hr.units0
    have hu1 := hu_of hr
    have hu64 := hr.units
    have hu65 := hu65_of hr
    exact ⟨_,
(pds_cons (pd_if (pdt_gt hu0 (PR.v (pr_len T.b_len (pda_cons (pd_var 0) pda_nil))) (pd_globI T.g_POCKETS)) (pds_one (pd_ret (PD.r pd_non))) pds_nil)
  (pds_cons (pd_set (i := 1) sc_one_pass.nd (PD.r (PR.v (pr_lst (pda_cons (pd_tup pda_nil) pda_nil)))))
  (pds_cons (pd_for (pdi_rng1 T.b_range pd_int) (pdg_name sc_one_pass.nd) (pds_one (pd_if (pdt_ne hu64 (PR.v (pr_lc (own := [("one", 5)]) sc_one_pass.nd (pdi_any (pd_var 0)) (blkOk_by (N := ["columns", "some", "place", "back", "places", "one", "row"]) (sc := defScope s_one_pass) (by decide +kernel)) (fun _ _ _ _ _ => (pdg_name sc_one_pass.nd)) mono_name (sets_name (by decide)) (fun _ _ _ _ _ => (pdts_one (pdt_in hu65 (pd_var 2) (pd_var 5)))) (fun _ _ _ _ _ => (pd_var 5)))) (PR.v (pr_lst pda_nil))) (pds_one (pd_set (i := 1) sc_one_pass.nd (PD.r (PR.v (pr_add (pd_var 1) (PR.v (pr_lc (own := [("row", 6)]) sc_one_pass.nd (pdi_any (pd_var 1)) (blkOk_by (N := ["columns", "some", "place", "back", "places", "one", "row"]) (sc := defScope s_one_pass) (by decide +kernel)) (fun _ _ _ _ _ => (pdg_name sc_one_pass.nd)) mono_name (sets_name (by decide)) (fun _ _ _ _ _ => pdts_nil) (fun _ _ _ _ _ => (PR.v (pr_add (pd_var 6) (pd_tup (pda_cons (pd_var 2) pda_nil)))))))))))) pds_nil)))
  (pds_cons (pd_set (i := 3) sc_one_pass.nd (PD.r (PR.v (pr_lstRev T.b_list T.b_reversed (pd_var 0)))))
  (pds_cons (pd_for (pdi_any (PR.v (pr_sortK hu64 (dp_of hr) T.b_sorted T.b_len (by exact ⟨rfl, rfl, rfl, by decide, by decide, rfl, rfl, fun _ _ _ _ _ _ _ => rfl, fun _ => rfl⟩) TB.t_one_pass rfl T.L_one_pass.mem T.L_one_pass.uniq (pd_var 1)))) (pdg_name sc_one_pass.nd) (pds_cons (pd_if (pdt_val (PR.v (pr_call (ok_does_part T TB) (hr.mono (by decide)) T.m_does_part T.F_does_part.kp T.B_does_part (pda_cons (pd_var 4) (pda_cons (pd_var 0) pda_nil))))) (pds_one (pd_ret (PD.r (pd_tup (pda_cons (pd_var 4) (pda_cons pd_bl pda_nil)))))) pds_nil)
  (pds_one (pd_if (pdt_val (PR.v (pr_call (ok_does_part T TB) (hr.mono (by decide)) T.m_does_part T.F_does_part.kp T.B_does_part (pda_cons (pd_var 4) (pda_cons (pd_var 3) pda_nil))))) (pds_one (pd_ret (PD.r (pd_tup (pda_cons (pd_var 4) (pda_cons pd_bl pda_nil)))))) pds_nil))))
  (pds_one (pd_ret (PD.r pd_non))))))))⟩) rd_one_pass
theorem ok_L_by (T : Txt K mg) (TB : TBs T base) : FnOk P w K mg base CX0 4 T.f_L_by T.d_L_by ["_law_deck_here", "_law_passes"] (SpV K F_L_by) :=
  okV T.F_L_by sc_L_by (fun xs Φ h => by have q := h; first | (obtain ⟨rfl, _⟩ := q; rfl) | (obtain ⟨_, rfl, _⟩ := q; rfl) | (obtain ⟨_, _, rfl, _⟩ := q; rfl) | (obtain ⟨_, _, _, rfl, _⟩ := q; rfl) | (obtain ⟨_, _, _, _, rfl, _⟩ := q; rfl) | (obtain ⟨_, _, _, _, _, rfl, _⟩ := q; rfl) | (obtain ⟨_, _, _, _, _, _, rfl, _⟩ := q; rfl) | (obtain ⟨_, _, _, _, _, _, _, rfl, _⟩ := q; rfl) | (obtain ⟨_, _, _, _, _, _, _, _, rfl, _⟩ := q; rfl) | (obtain ⟨_, _, _, _, _, _, _, _, _, rfl, _⟩ := q; rfl)) (fun cdv A outer s H E hr => by
    have hu0 := hr.units0
    have hu1 := hu_of hr
    have hu64 := hr.units
    have hu65 := hu65_of hr
    exact ⟨_,
(pds_cons (pd_for (pdi_any (pd_var 1)) (pdg_name sc_L_by.nd) (pds_one (pd_set (i := 0) sc_L_by.nd (PD.r (PR.v (pr_call (ok_L_passed T TB) (hr.mono (by decide)) T.m_L_passed T.F_L_passed.kp T.B_L_passed (pda_cons (pd_var 0) (pda_cons (pd_var 2) pda_nil))))))))
  (pds_one (pd_ret (PD.r (pd_var 0)))))⟩) rd_L_by
theorem ok_sorted_by (T : Txt K mg) (TB : TBs T base) : FnOk P w K mg base CX0 5 T.f_sorted_by T.d_sorted_by ["deck", "passes"] (SpV K F_sorted_by) :=
  okV T.F_sorted_by sc_sorted_by (fun xs Φ h => by have q := h; first | (obtain ⟨rfl, _⟩ := q; rfl) | (obtain ⟨_, rfl, _⟩ := q; rfl) | (obtain ⟨_, _, rfl, _⟩ := q; rfl) | (obtain ⟨_, _, _, rfl, _⟩ := q; rfl) | (obtain ⟨_, _, _, _, rfl, _⟩ := q; rfl) | (obtain ⟨_, _, _, _, _, rfl, _⟩ := q; rfl) | (obtain ⟨_, _, _, _, _, _, rfl, _⟩ := q; rfl) | (obtain ⟨_, _, _, _, _, _, _, rfl, _⟩ := q; rfl) | (obtain ⟨_, _, _, _, _, _, _, _, rfl, _⟩ := q; rfl) | (obtain ⟨_, _, _, _, _, _, _, _, _, rfl, _⟩ := q; rfl)) (fun cdv A outer s H E hr => by
    have hu0 := hr.units0
    have hu1 := hu_of hr
    have hu64 := hr.units
    have hu65 := hu65_of hr
    exact ⟨_,
(pds_cons (pd_set (i := 2) sc_sorted_by.nd (pr_list T.b_list (pda_cons (pd_var 0) pda_nil)))
  (pds_cons (pd_for (pdi_any (pd_var 1)) (pdg_name sc_sorted_by.nd) (pds_one (pd_set (i := 2) sc_sorted_by.nd (pr_call (ok_passed T TB) (hr.mono (by decide)) T.m_passed T.F_passed.kp T.B_passed (pda_cons (pd_var 2) (pda_cons (pd_var 3) pda_nil))))))
  (pds_one (pd_retM 2))))⟩) rd_sorted_by
theorem ok_passes_for (T : Txt K mg) (TB : TBs T base) : FnOk P w K mg base CX0 5 T.f_passes_for T.d_passes_for ["order", "signs"] (SpV K F_passes_for) :=
  okV T.F_passes_for sc_passes_for (fun xs Φ h => by have q := h; first | (obtain ⟨rfl, _⟩ := q; rfl) | (obtain ⟨_, rfl, _⟩ := q; rfl) | (obtain ⟨_, _, rfl, _⟩ := q; rfl) | (obtain ⟨_, _, _, rfl, _⟩ := q; rfl) | (obtain ⟨_, _, _, _, rfl, _⟩ := q; rfl) | (obtain ⟨_, _, _, _, _, rfl, _⟩ := q; rfl) | (obtain ⟨_, _, _, _, _, _, rfl, _⟩ := q; rfl) | (obtain ⟨_, _, _, _, _, _, _, rfl, _⟩ := q; rfl) | (obtain ⟨_, _, _, _, _, _, _, _, rfl, _⟩ := q; rfl) | (obtain ⟨_, _, _, _, _, _, _, _, _, rfl, _⟩ := q; rfl)) (fun cdv A outer s H E hr => by
    have hu0 := hr.units0
    have hu1 := hu_of hr
    have hu64 := hr.units
    have hu65 := hu65_of hr
    exact ⟨_,
(pds_cons (pd_expr (pr_call (ok_need_order T TB) (hr.mono (by decide)) T.m_need_order T.F_need_order.kp T.B_need_order (pda_cons (pd_var 0) pda_nil)))
  (pds_cons (pd_set (i := 2) sc_passes_for.nd (pr_lst pda_nil))
  (pds_cons (pd_for (pdi_rev T.b_reversed (pd_var 0)) (pdg_tup (pdgs_cons (pdg_name sc_passes_for.nd) (pdgs_cons (pdg_name sc_passes_for.nd) pdgs_nil))) (pds_cons (pd_set (i := 5) sc_passes_for.nd (PD.r (PR.v (pr_call (ok_columns_for T TB) (hr.mono (by decide)) T.m_columns_for T.F_columns_for.kp T.B_columns_for (pda_cons (pd_var 3) (pda_cons (pd_var 1) pda_nil))))))
  (pds_cons (pd_set (i := 6) sc_passes_for.nd (PD.r (PR.v (pr_call (ok_one_pass T TB) (hr.mono (by decide)) T.m_one_pass T.F_one_pass.kp T.B_one_pass (pda_cons (pd_var 5) pda_nil)))))
  (pds_one (pd_if (pdt_is (pd_var 6) pd_non) (pds_cons (pd_expr (pr_app 2 (pd_tup (pda_cons (pd_var 3) (pda_cons (pd_glob (v := .ref T.a_FIGURE_PLACES) T.g_FIGURE_PLACES rfl T.p_FIGURE_PLACES) (pda_cons (pd_var 4) pda_nil))))))
  (pds_one (pd_expr (pr_app 2 (pd_tup (pda_cons (pd_var 3) (pda_cons (pd_glob (v := .ref T.a_OVER_PLACES) T.g_OVER_PLACES rfl T.p_OVER_PLACES) (pda_cons (pd_var 4) pda_nil)))))))) (pds_one (pd_if (pdt_ne hu64 (pd_ix hu1 (pd_var 6) pd_int (fun _ _ => rfl)) (pd_tup pda_nil)) (pds_one (pd_expr (pr_app 2 (pd_tup (pda_cons (pd_var 3) (pda_cons (pd_ix hu1 (pd_var 6) pd_int (fun _ _ => rfl)) (pda_cons (pd_ne hu64 (pd_var 4) (pd_ix hu1 (pd_var 6) pd_int (fun _ _ => rfl))) pda_nil))))))) pds_nil)))))))
  (pds_one (pd_retM 2)))))⟩) rd_passes_for
theorem ok_law (T : Txt K mg) (TB : TBs T base) {f : Addr} {d : FuncData} (F : Fun K "law" "law" s_law f d) : FnOk P w K mg base CX0 6 f d ["_law_script"] (SpV K F_law) :=
  okV F sc_law (fun xs Φ h => by have q := h; first | (obtain ⟨rfl, _⟩ := q; rfl) | (obtain ⟨_, rfl, _⟩ := q; rfl) | (obtain ⟨_, _, rfl, _⟩ := q; rfl) | (obtain ⟨_, _, _, rfl, _⟩ := q; rfl) | (obtain ⟨_, _, _, _, rfl, _⟩ := q; rfl) | (obtain ⟨_, _, _, _, _, rfl, _⟩ := q; rfl) | (obtain ⟨_, _, _, _, _, _, rfl, _⟩ := q; rfl) | (obtain ⟨_, _, _, _, _, _, _, rfl, _⟩ := q; rfl) | (obtain ⟨_, _, _, _, _, _, _, _, rfl, _⟩ := q; rfl) | (obtain ⟨_, _, _, _, _, _, _, _, _, rfl, _⟩ := q; rfl)) (fun cdv A outer s H E hr => by
    have hu0 := hr.units0
    have hu1 := hu_of hr
    have hu64 := hr.units
    have hu65 := hu65_of hr
    exact ⟨_,
(pds_cons (pd_setT (i := 1) sc_law.nd (pr_call (ok_L_dice T TB) (hr.mono (by decide)) T.m_L_dice T.F_L_dice.kp T.B_L_dice (pda_cons (pd_var 0) pda_nil)))
  (pds_cons (pd_set (i := 2) sc_law.nd (PD.r (PR.v (pr_callO 1 (ok_L_palettes T TB) (hr.mono (by decide)) T.m_L_palettes T.F_L_palettes.kp T.B_L_palettes pda_nil))))
  (pds_cons (pd_set (i := 3) sc_law.nd (PD.r (PR.v (pr_callO 1 (ok_L_order T TB) (hr.mono (by decide)) T.m_L_order T.F_L_order.kp T.B_L_order (pda_cons (PR.v (pr_min2 T.b_min (pda_cons pd_int (pda_cons (PR.v (pr_add (PR.v (pr_len T.b_len (pda_cons (pd_var 2) pda_nil))) pd_int)) pda_nil)))) pda_nil)))))
  (pds_cons (pd_set (i := 4) sc_law.nd (PD.r (PR.v (pr_callO 1 (ok_L_signs T TB) (hr.mono (by decide)) T.m_L_signs T.F_L_signs.kp T.B_L_signs (pda_cons (pd_var 2) pda_nil)))))
  (pds_cons (pd_set (i := 5) sc_law.nd (PD.r (PR.v (pr_call (ok_passes_for T TB) (hr.mono (by decide)) T.m_passes_for T.F_passes_for.kp T.B_passes_for (pda_cons (pd_var 3) (pda_cons (pd_var 4) pda_nil))))))
  (pds_cons (pd_if (pdt_not (pdt_val (PR.v (pr_isi T.b_isinstance (pda_cons (pd_var 5) (pda_cons (pd_ty T.b_list (by decide +kernel)) pda_nil)))))) (pds_one (pd_ret (PD.r pd_bl))) pds_nil)
  (pds_cons (pd_for (pdi_any (pd_var 5)) (pdg_name sc_law.nd) (pds_cons (pd_if (PDW.tst (pdw_or (pdt_not (pdt_val (PR.v (pr_isi T.b_isinstance (pda_cons (pd_var 6) (pda_cons (pd_ty T.b_tuple (by decide +kernel)) pda_nil)))))) (pdw_or (pdt_ne hu64 (PR.v (pr_len T.b_len (pda_cons (pd_var 6) pda_nil))) pd_int) (pdw_or (pdt_not (pdt_val (PR.v (pr_call (ok_L_whole T TB) (hr.mono (by decide)) T.m_L_whole T.F_L_whole.kp T.B_L_whole (pda_cons (pd_ix hu1 (pd_var 6) pd_int (fun _ _ => rfl)) pda_nil))))) (pdw_or1 (pdt_not (pdt_val (PR.v (pr_isi T.b_isinstance (pda_cons (pd_ix hu1 (pd_var 6) pd_int (fun _ _ => rfl)) (pda_cons (pd_ty T.b_bool (by decide +kernel)) pda_nil))))))))))) (pds_one (pd_ret (PD.r pd_bl))) pds_nil)
  (pds_cons (pd_if (PDW.tst (pdw_or (pdt_not (pdt_val (PR.v (pr_isi T.b_isinstance (pda_cons (pd_ix hu1 (pd_var 6) pd_int (fun _ _ => rfl)) (pda_cons (pd_ty T.b_tuple (by decide +kernel)) pda_nil)))))) (pdw_or1 (pdt_ne hu64 (PR.v (pr_list T.b_list (pda_cons (pd_ix hu1 (pd_var 6) pd_int (fun _ _ => rfl)) pda_nil))) (PR.v (pr_sortedSetI T.b_sorted T.b_set (pd_ix hu1 (pd_var 6) pd_int (fun _ _ => rfl)))))))) (pds_one (pd_ret (PD.r pd_bl))) pds_nil)
  (pds_one (pd_if (pdt_ne hu64 (PR.v (pr_lc (own := [("_law_place", 10)]) sc_law.nd (pdi_any (pd_ix hu1 (pd_var 6) pd_int (fun _ _ => rfl))) (blkOk_by (N := ["_law_script", "_law_d", "_law_palettes_here", "_law_order_here", "_law_signs_here", "_law_passes", "_law_one", "_law_turn", "_law_deck_here", "_law_due", "_law_place"]) (sc := defScope s_law) (by decide +kernel)) (fun _ _ _ _ _ => (pdg_name sc_law.nd)) mono_name (sets_name (by decide)) (fun _ _ _ _ _ => (pdts_one (PDW.tst (pdw_or (pdt_not (pdt_val (PR.v (pr_call (ok_L_whole T TB) (hr.mono (by decide)) T.m_L_whole T.F_L_whole.kp T.B_L_whole (pda_cons (pd_var 10) pda_nil))))) (pdw_or1 (pdt_not (pdt_chain op_le sim_le op_lt sim_lt pd_int (pd_var 10) pd_int))))))) (fun _ _ _ _ _ => (pd_var 10)))) (PR.v (pr_lst pda_nil))) (pds_one (pd_ret (PD.r pd_bl))) pds_nil)))))
  (pds_cons (pd_for (pdi_rng1 T.b_range pd_int) (pdg_name sc_law.nd) (pds_cons (pd_set (i := 8) sc_law.nd (PD.r (PR.v (pr_callO 1 (ok_L_deck T TB) (hr.mono (by decide)) T.m_L_deck T.F_L_deck.kp T.B_L_deck (pda_cons (pd_var 2) (pda_cons pd_int pda_nil))))))
  (pds_cons (pd_set (i := 9) sc_law.nd (PD.r (PR.v (pr_call (ok_L_sorted T TB) (hr.mono (by decide)) T.m_L_sorted T.F_L_sorted.kp T.B_L_sorted (pda_cons (pd_var 8) (pda_cons (pd_var 3) pda_nil))))))
  (pds_one (pd_if (PDW.tst (pdw_or (pdt_ne hu64 (PR.v (pr_call (ok_L_by T TB) (hr.mono (by decide)) T.m_L_by T.F_L_by.kp T.B_L_by (pda_cons (pd_var 8) (pda_cons (pd_var 5) pda_nil)))) (pd_var 9)) (pdw_or1 (pdt_ne hu64 (PR.v (pr_call (ok_sorted_by T TB) (hr.mono (by decide)) T.m_sorted_by T.F_sorted_by.kp T.B_sorted_by (pda_cons (pd_var 8) (pda_cons (pd_var 5) pda_nil)))) (pd_var 9))))) (pds_one (pd_ret (PD.r pd_bl))) pds_nil)))))
  (pds_one (pd_ret (PD.r (pd_eq hu64 (PR.v (pr_call (ok_passes_for T TB) (hr.mono (by decide)) T.m_passes_for T.F_passes_for.kp T.B_passes_for (pda_cons (pd_var 3) (pda_cons (pd_var 4) pda_nil)))) (pd_var 5)))))))))))))⟩) rd_law
end
end
/-! ### what the top has written -/
theorem all_mk {l : PySem.W.OpenLaw} {w : World} {K : PySem.W.Frag} {h : Heap} {mg : Str → Option Value} {fa f1 f2 f3 f4 f5 f6 f7 f8 f9 f10 f11 f12 f13 f14 f15 f16 f17 f18 f19 f20 f21 f22 f23 f24 f25 f26 f27 f28 f29 f30 f31 f32 f33 : Addr} (X : K.In h) (G : h.Ns mainGlobals mg) (hfa : mg "law" = some (.ref fa))
    {od1 an1 : Option Addr} {sl1 : Array (Option Value)} {oc1 kV1 dc1 pm1 cd1 ct1 : Value}
    (a1 : PySem.W.nsIn K mainGlobals "all_columns" = some (some (.ref f1))) (l1 : K.lookup f1 = some ⟨oc1, od1, .func (PySem.W.fnOf "all_columns" "all_columns" (defArgs s_all_columns) (defBody s_all_columns) (defScope s_all_columns) .none kV1 dc1 pm1 an1 cd1 ct1), sl1⟩) (c1 : PySem.W.codeIn K cd1 "all_columns" = true) (k1 : PySem.W.keepIn K (.ref f1) = true)
    {od2 an2 : Option Addr} {sl2 : Array (Option Value)} {oc2 kV2 dc2 pm2 cd2 ct2 : Value}
    (a2 : PySem.W.nsIn K mainGlobals "column_of" = some (some (.ref f2))) (l2 : K.lookup f2 = some ⟨oc2, od2, .func (PySem.W.fnOf "column_of" "column_of" (defArgs s_column_of) (defBody s_column_of) (defScope s_column_of) .none kV2 dc2 pm2 an2 cd2 ct2), sl2⟩) (c2 : PySem.W.codeIn K cd2 "column_of" = true) (k2 : PySem.W.keepIn K (.ref f2) = true)
    {od3 an3 : Option Addr} {sl3 : Array (Option Value)} {oc3 kV3 dc3 pm3 cd3 ct3 : Value}
    (a3 : PySem.W.nsIn K mainGlobals "figure_of" = some (some (.ref f3))) (l3 : K.lookup f3 = some ⟨oc3, od3, .func (PySem.W.fnOf "figure_of" "figure_of" (defArgs s_figure_of) (defBody s_figure_of) (defScope s_figure_of) .none kV3 dc3 pm3 an3 cd3 ct3), sl3⟩) (c3 : PySem.W.codeIn K cd3 "figure_of" = true) (k3 : PySem.W.keepIn K (.ref f3) = true)
    {od4 an4 : Option Addr} {sl4 : Array (Option Value)} {oc4 kV4 dc4 pm4 cd4 ct4 : Value}
    (a4 : PySem.W.nsIn K mainGlobals "over_of" = some (some (.ref f4))) (l4 : K.lookup f4 = some ⟨oc4, od4, .func (PySem.W.fnOf "over_of" "over_of" (defArgs s_over_of) (defBody s_over_of) (defScope s_over_of) .none kV4 dc4 pm4 an4 cd4 ct4), sl4⟩) (c4 : PySem.W.codeIn K cd4 "over_of" = true) (k4 : PySem.W.keepIn K (.ref f4) = true)
    {od5 an5 : Option Addr} {sl5 : Array (Option Value)} {oc5 kV5 dc5 pm5 cd5 ct5 : Value}
    (a5 : PySem.W.nsIn K mainGlobals "need_order" = some (some (.ref f5))) (l5 : K.lookup f5 = some ⟨oc5, od5, .func (PySem.W.fnOf "need_order" "need_order" (defArgs s_need_order) (defBody s_need_order) (defScope s_need_order) .none kV5 dc5 pm5 an5 cd5 ct5), sl5⟩) (c5 : PySem.W.codeIn K cd5 "need_order" = true) (k5 : PySem.W.keepIn K (.ref f5) = true)
    {od6 an6 : Option Addr} {sl6 : Array (Option Value)} {oc6 kV6 dc6 pm6 cd6 ct6 : Value}
    (a6 : PySem.W.nsIn K mainGlobals "_law_dice" = some (some (.ref f6))) (l6 : K.lookup f6 = some ⟨oc6, od6, .func (PySem.W.fnOf "_law_dice" "_law_dice" (defArgs s_L_dice) (defBody s_L_dice) (defScope s_L_dice) .none kV6 dc6 pm6 an6 cd6 ct6), sl6⟩) (c6 : PySem.W.codeIn K cd6 "_law_dice" = true) (k6 : PySem.W.keepIn K (.ref f6) = true)
    {od7 an7 : Option Addr} {sl7 : Array (Option Value)} {oc7 kV7 dc7 pm7 cd7 ct7 : Value}
    (a7 : PySem.W.nsIn K mainGlobals "_law_next" = some (some (.ref f7))) (l7 : K.lookup f7 = some ⟨oc7, od7, .func (PySem.W.fnOf "_law_next" "_law_next" (defArgs s_L_next) (defBody s_L_next) (defScope s_L_next) .none kV7 dc7 pm7 an7 cd7 ct7), sl7⟩) (c7 : PySem.W.codeIn K cd7 "_law_next" = true) (k7 : PySem.W.keepIn K (.ref f7) = true)
    {od8 an8 : Option Addr} {sl8 : Array (Option Value)} {oc8 kV8 dc8 pm8 cd8 ct8 : Value}
    (a8 : PySem.W.nsIn K mainGlobals "_law_whole" = some (some (.ref f8))) (l8 : K.lookup f8 = some ⟨oc8, od8, .func (PySem.W.fnOf "_law_whole" "_law_whole" (defArgs s_L_whole) (defBody s_L_whole) (defScope s_L_whole) .none kV8 dc8 pm8 an8 cd8 ct8), sl8⟩) (c8 : PySem.W.codeIn K cd8 "_law_whole" = true) (k8 : PySem.W.keepIn K (.ref f8) = true)
    {od9 an9 : Option Addr} {sl9 : Array (Option Value)} {oc9 kV9 dc9 pm9 cd9 ct9 : Value}
    (a9 : PySem.W.nsIn K mainGlobals "_law_columns" = some (some (.ref f9))) (l9 : K.lookup f9 = some ⟨oc9, od9, .func (PySem.W.fnOf "_law_columns" "_law_columns" (defArgs s_L_columns) (defBody s_L_columns) (defScope s_L_columns) .none kV9 dc9 pm9 an9 cd9 ct9), sl9⟩) (c9 : PySem.W.codeIn K cd9 "_law_columns" = true) (k9 : PySem.W.keepIn K (.ref f9) = true)
    {od10 an10 : Option Addr} {sl10 : Array (Option Value)} {oc10 kV10 dc10 pm10 cd10 ct10 : Value}
    (a10 : PySem.W.nsIn K mainGlobals "_law_column" = some (some (.ref f10))) (l10 : K.lookup f10 = some ⟨oc10, od10, .func (PySem.W.fnOf "_law_column" "_law_column" (defArgs s_L_column) (defBody s_L_column) (defScope s_L_column) .none kV10 dc10 pm10 an10 cd10 ct10), sl10⟩) (c10 : PySem.W.codeIn K cd10 "_law_column" = true) (k10 : PySem.W.keepIn K (.ref f10) = true)
    {od11 an11 : Option Addr} {sl11 : Array (Option Value)} {oc11 kV11 dc11 pm11 cd11 ct11 : Value}
    (a11 : PySem.W.nsIn K mainGlobals "_law_figure" = some (some (.ref f11))) (l11 : K.lookup f11 = some ⟨oc11, od11, .func (PySem.W.fnOf "_law_figure" "_law_figure" (defArgs s_L_figure) (defBody s_L_figure) (defScope s_L_figure) .none kV11 dc11 pm11 an11 cd11 ct11), sl11⟩) (c11 : PySem.W.codeIn K cd11 "_law_figure" = true) (k11 : PySem.W.keepIn K (.ref f11) = true)
    {od12 an12 : Option Addr} {sl12 : Array (Option Value)} {oc12 kV12 dc12 pm12 cd12 ct12 : Value}
    (a12 : PySem.W.nsIn K mainGlobals "sign_of" = some (some (.ref f12))) (l12 : K.lookup f12 = some ⟨oc12, od12, .func (PySem.W.fnOf "sign_of" "sign_of" (defArgs s_sign_of) (defBody s_sign_of) (defScope s_sign_of) .none kV12 dc12 pm12 an12 cd12 ct12), sl12⟩) (c12 : PySem.W.codeIn K cd12 "sign_of" = true) (k12 : PySem.W.keepIn K (.ref f12) = true)
    {od13 an13 : Option Addr} {sl13 : Array (Option Value)} {oc13 kV13 dc13 pm13 cd13 ct13 : Value}
    (a13 : PySem.W.nsIn K mainGlobals "pocket_of" = some (some (.ref f13))) (l13 : K.lookup f13 = some ⟨oc13, od13, .func (PySem.W.fnOf "pocket_of" "pocket_of" (defArgs s_pocket_of) (defBody s_pocket_of) (defScope s_pocket_of) .none kV13 dc13 pm13 an13 cd13 ct13), sl13⟩) (c13 : PySem.W.codeIn K cd13 "pocket_of" = true) (k13 : PySem.W.keepIn K (.ref f13) = true)
    {od14 an14 : Option Addr} {sl14 : Array (Option Value)} {oc14 kV14 dc14 pm14 cd14 ct14 : Value}
    (a14 : PySem.W.nsIn K mainGlobals "_law_key" = some (some (.ref f14))) (l14 : K.lookup f14 = some ⟨oc14, od14, .func (PySem.W.fnOf "_law_key" "_law_key" (defArgs s_L_key) (defBody s_L_key) (defScope s_L_key) .none kV14 dc14 pm14 an14 cd14 ct14), sl14⟩) (c14 : PySem.W.codeIn K cd14 "_law_key" = true) (k14 : PySem.W.keepIn K (.ref f14) = true)
    {od15 an15 : Option Addr} {sl15 : Array (Option Value)} {oc15 kV15 dc15 pm15 cd15 ct15 : Value}
    (a15 : PySem.W.nsIn K mainGlobals "_law_sign" = some (some (.ref f15))) (l15 : K.lookup f15 = some ⟨oc15, od15, .func (PySem.W.fnOf "_law_sign" "_law_sign" (defArgs s_L_sign) (defBody s_L_sign) (defScope s_L_sign) .none kV15 dc15 pm15 an15 cd15 ct15), sl15⟩) (c15 : PySem.W.codeIn K cd15 "_law_sign" = true) (k15 : PySem.W.keepIn K (.ref f15) = true)
    {od16 an16 : Option Addr} {sl16 : Array (Option Value)} {oc16 kV16 dc16 pm16 cd16 ct16 : Value}
    (a16 : PySem.W.nsIn K mainGlobals "_law_palette" = some (some (.ref f16))) (l16 : K.lookup f16 = some ⟨oc16, od16, .func (PySem.W.fnOf "_law_palette" "_law_palette" (defArgs s_L_palette) (defBody s_L_palette) (defScope s_L_palette) .none kV16 dc16 pm16 an16 cd16 ct16), sl16⟩) (c16 : PySem.W.codeIn K cd16 "_law_palette" = true) (k16 : PySem.W.keepIn K (.ref f16) = true)
    {od17 an17 : Option Addr} {sl17 : Array (Option Value)} {oc17 kV17 dc17 pm17 cd17 ct17 : Value}
    (a17 : PySem.W.nsIn K mainGlobals "_law_deck" = some (some (.ref f17))) (l17 : K.lookup f17 = some ⟨oc17, od17, .func (PySem.W.fnOf "_law_deck" "_law_deck" (defArgs s_L_deck) (defBody s_L_deck) (defScope s_L_deck) .none kV17 dc17 pm17 an17 cd17 ct17), sl17⟩) (c17 : PySem.W.codeIn K cd17 "_law_deck" = true) (k17 : PySem.W.keepIn K (.ref f17) = true)
    {od18 an18 : Option Addr} {sl18 : Array (Option Value)} {oc18 kV18 dc18 pm18 cd18 ct18 : Value}
    (a18 : PySem.W.nsIn K mainGlobals "_law_order" = some (some (.ref f18))) (l18 : K.lookup f18 = some ⟨oc18, od18, .func (PySem.W.fnOf "_law_order" "_law_order" (defArgs s_L_order) (defBody s_L_order) (defScope s_L_order) .none kV18 dc18 pm18 an18 cd18 ct18), sl18⟩) (c18 : PySem.W.codeIn K cd18 "_law_order" = true) (k18 : PySem.W.keepIn K (.ref f18) = true)
    {od19 an19 : Option Addr} {sl19 : Array (Option Value)} {oc19 kV19 dc19 pm19 cd19 ct19 : Value}
    (a19 : PySem.W.nsIn K mainGlobals "_law_pocket" = some (some (.ref f19))) (l19 : K.lookup f19 = some ⟨oc19, od19, .func (PySem.W.fnOf "_law_pocket" "_law_pocket" (defArgs s_L_pocket) (defBody s_L_pocket) (defScope s_L_pocket) .none kV19 dc19 pm19 an19 cd19 ct19), sl19⟩) (c19 : PySem.W.codeIn K cd19 "_law_pocket" = true) (k19 : PySem.W.keepIn K (.ref f19) = true)
    {od20 an20 : Option Addr} {sl20 : Array (Option Value)} {oc20 kV20 dc20 pm20 cd20 ct20 : Value}
    (a20 : PySem.W.nsIn K mainGlobals "column_by" = some (some (.ref f20))) (l20 : K.lookup f20 = some ⟨oc20, od20, .func (PySem.W.fnOf "column_by" "column_by" (defArgs s_column_by) (defBody s_column_by) (defScope s_column_by) .none kV20 dc20 pm20 an20 cd20 ct20), sl20⟩) (c20 : PySem.W.codeIn K cd20 "column_by" = true) (k20 : PySem.W.keepIn K (.ref f20) = true)
    {od21 an21 : Option Addr} {sl21 : Array (Option Value)} {oc21 kV21 dc21 pm21 cd21 ct21 : Value}
    (a21 : PySem.W.nsIn K mainGlobals "pockets" = some (some (.ref f21))) (l21 : K.lookup f21 = some ⟨oc21, od21, .func (PySem.W.fnOf "pockets" "pockets" (defArgs s_pockets) (defBody s_pockets) (defScope s_pockets) .none kV21 dc21 pm21 an21 cd21 ct21), sl21⟩) (c21 : PySem.W.codeIn K cd21 "pockets" = true) (k21 : PySem.W.keepIn K (.ref f21) = true)
    {od22 an22 : Option Addr} {sl22 : Array (Option Value)} {oc22 kV22 dc22 pm22 cd22 ct22 : Value}
    (a22 : PySem.W.nsIn K mainGlobals "does_part" = some (some (.ref f22))) (l22 : K.lookup f22 = some ⟨oc22, od22, .func (PySem.W.fnOf "does_part" "does_part" (defArgs s_does_part) (defBody s_does_part) (defScope s_does_part) .none kV22 dc22 pm22 an22 cd22 ct22), sl22⟩) (c22 : PySem.W.codeIn K cd22 "does_part" = true) (k22 : PySem.W.keepIn K (.ref f22) = true)
    {od23 an23 : Option Addr} {sl23 : Array (Option Value)} {oc23 kV23 dc23 pm23 cd23 ct23 : Value}
    (a23 : PySem.W.nsIn K mainGlobals "_law_palettes" = some (some (.ref f23))) (l23 : K.lookup f23 = some ⟨oc23, od23, .func (PySem.W.fnOf "_law_palettes" "_law_palettes" (defArgs s_L_palettes) (defBody s_L_palettes) (defScope s_L_palettes) .none kV23 dc23 pm23 an23 cd23 ct23), sl23⟩) (c23 : PySem.W.codeIn K cd23 "_law_palettes" = true) (k23 : PySem.W.keepIn K (.ref f23) = true)
    {od24 an24 : Option Addr} {sl24 : Array (Option Value)} {oc24 kV24 dc24 pm24 cd24 ct24 : Value}
    (a24 : PySem.W.nsIn K mainGlobals "_law_sorted" = some (some (.ref f24))) (l24 : K.lookup f24 = some ⟨oc24, od24, .func (PySem.W.fnOf "_law_sorted" "_law_sorted" (defArgs s_L_sorted) (defBody s_L_sorted) (defScope s_L_sorted) .none kV24 dc24 pm24 an24 cd24 ct24), sl24⟩) (c24 : PySem.W.codeIn K cd24 "_law_sorted" = true) (k24 : PySem.W.keepIn K (.ref f24) = true)
    {od25 an25 : Option Addr} {sl25 : Array (Option Value)} {oc25 kV25 dc25 pm25 cd25 ct25 : Value}
    (a25 : PySem.W.nsIn K mainGlobals "_law_signs" = some (some (.ref f25))) (l25 : K.lookup f25 = some ⟨oc25, od25, .func (PySem.W.fnOf "_law_signs" "_law_signs" (defArgs s_L_signs) (defBody s_L_signs) (defScope s_L_signs) .none kV25 dc25 pm25 an25 cd25 ct25), sl25⟩) (c25 : PySem.W.codeIn K cd25 "_law_signs" = true) (k25 : PySem.W.keepIn K (.ref f25) = true)
    {od26 an26 : Option Addr} {sl26 : Array (Option Value)} {oc26 kV26 dc26 pm26 cd26 ct26 : Value}
    (a26 : PySem.W.nsIn K mainGlobals "_law_passed" = some (some (.ref f26))) (l26 : K.lookup f26 = some ⟨oc26, od26, .func (PySem.W.fnOf "_law_passed" "_law_passed" (defArgs s_L_passed) (defBody s_L_passed) (defScope s_L_passed) .none kV26 dc26 pm26 an26 cd26 ct26), sl26⟩) (c26 : PySem.W.codeIn K cd26 "_law_passed" = true) (k26 : PySem.W.keepIn K (.ref f26) = true)
    {od27 an27 : Option Addr} {sl27 : Array (Option Value)} {oc27 kV27 dc27 pm27 cd27 ct27 : Value}
    (a27 : PySem.W.nsIn K mainGlobals "passed" = some (some (.ref f27))) (l27 : K.lookup f27 = some ⟨oc27, od27, .func (PySem.W.fnOf "passed" "passed" (defArgs s_passed) (defBody s_passed) (defScope s_passed) .none kV27 dc27 pm27 an27 cd27 ct27), sl27⟩) (c27 : PySem.W.codeIn K cd27 "passed" = true) (k27 : PySem.W.keepIn K (.ref f27) = true)
    {od28 an28 : Option Addr} {sl28 : Array (Option Value)} {oc28 kV28 dc28 pm28 cd28 ct28 : Value}
    (a28 : PySem.W.nsIn K mainGlobals "columns_for" = some (some (.ref f28))) (l28 : K.lookup f28 = some ⟨oc28, od28, .func (PySem.W.fnOf "columns_for" "columns_for" (defArgs s_columns_for) (defBody s_columns_for) (defScope s_columns_for) .none kV28 dc28 pm28 an28 cd28 ct28), sl28⟩) (c28 : PySem.W.codeIn K cd28 "columns_for" = true) (k28 : PySem.W.keepIn K (.ref f28) = true)
    {od29 an29 odC29 : Option Addr} {sl29 slC29 : Array (Option Value)} {oc29 kV29 dc29 pm29 ct29 ocC29 : Value} {cc29 PP29 : Addr} {vsC29 : Array Value}
    (a29 : PySem.W.nsIn K mainGlobals "one_pass" = some (some (.ref f29))) (l29 : K.lookup f29 = some ⟨oc29, od29, .func (PySem.W.fnOf "one_pass" "one_pass" (defArgs s_one_pass) (defBody s_one_pass) (defScope s_one_pass) .none kV29 dc29 pm29 an29 (.ref cc29) ct29), sl29⟩) (c29 : PySem.W.codeIn K (.ref cc29) "one_pass" = true) (k29 : PySem.W.keepIn K (.ref f29) = true)
    (tb29 : K.lookup cc29 = some ⟨ocC29, odC29, .fields vsC29, slC29⟩) (tp29 : vsC29[11]? = some (.ref PP29)) (th29 : PySem.W.codeHdIn K cc29 PP29 = true) (tn29 : K.lookup PP29 = none) (tt29 : h.get? PP29 = some (PySem.W.tabObj #[]))
    {od30 an30 : Option Addr} {sl30 : Array (Option Value)} {oc30 kV30 dc30 pm30 cd30 ct30 : Value}
    (a30 : PySem.W.nsIn K mainGlobals "_law_by" = some (some (.ref f30))) (l30 : K.lookup f30 = some ⟨oc30, od30, .func (PySem.W.fnOf "_law_by" "_law_by" (defArgs s_L_by) (defBody s_L_by) (defScope s_L_by) .none kV30 dc30 pm30 an30 cd30 ct30), sl30⟩) (c30 : PySem.W.codeIn K cd30 "_law_by" = true) (k30 : PySem.W.keepIn K (.ref f30) = true)
    {od31 an31 : Option Addr} {sl31 : Array (Option Value)} {oc31 kV31 dc31 pm31 cd31 ct31 : Value}
    (a31 : PySem.W.nsIn K mainGlobals "sorted_by" = some (some (.ref f31))) (l31 : K.lookup f31 = some ⟨oc31, od31, .func (PySem.W.fnOf "sorted_by" "sorted_by" (defArgs s_sorted_by) (defBody s_sorted_by) (defScope s_sorted_by) .none kV31 dc31 pm31 an31 cd31 ct31), sl31⟩) (c31 : PySem.W.codeIn K cd31 "sorted_by" = true) (k31 : PySem.W.keepIn K (.ref f31) = true)
    {od32 an32 : Option Addr} {sl32 : Array (Option Value)} {oc32 kV32 dc32 pm32 cd32 ct32 : Value}
    (a32 : PySem.W.nsIn K mainGlobals "passes_for" = some (some (.ref f32))) (l32 : K.lookup f32 = some ⟨oc32, od32, .func (PySem.W.fnOf "passes_for" "passes_for" (defArgs s_passes_for) (defBody s_passes_for) (defScope s_passes_for) .none kV32 dc32 pm32 an32 cd32 ct32), sl32⟩) (c32 : PySem.W.codeIn K cd32 "passes_for" = true) (k32 : PySem.W.keepIn K (.ref f32) = true)
    {od33 an33 : Option Addr} {sl33 : Array (Option Value)} {oc33 kV33 dc33 pm33 cd33 ct33 : Value}
    (a33 : PySem.W.nsIn K mainGlobals "law" = some (some (.ref f33))) (l33 : K.lookup f33 = some ⟨oc33, od33, .func (PySem.W.fnOf "law" "law" (defArgs s_law) (defBody s_law) (defScope s_law) .none kV33 dc33 pm33 an33 cd33 ct33), sl33⟩) (c33 : PySem.W.codeIn K cd33 "law" = true) (k33 : PySem.W.keepIn K (.ref f33) = true)
    (z_bool : PySem.W.nsIn K mainGlobals "bool" = some none)
    (z_int : PySem.W.nsIn K mainGlobals "int" = some none)
    (z_isinstance : PySem.W.nsIn K mainGlobals "isinstance" = some none)
    (z_len : PySem.W.nsIn K mainGlobals "len" = some none)
    (z_list : PySem.W.nsIn K mainGlobals "list" = some none)
    (z_max : PySem.W.nsIn K mainGlobals "max" = some none)
    (z_min : PySem.W.nsIn K mainGlobals "min" = some none)
    (z_range : PySem.W.nsIn K mainGlobals "range" = some none)
    (z_reversed : PySem.W.nsIn K mainGlobals "reversed" = some none)
    (z_set : PySem.W.nsIn K mainGlobals "set" = some none)
    (z_sorted : PySem.W.nsIn K mainGlobals "sorted" = some none)
    (z_tuple : PySem.W.nsIn K mainGlobals "tuple" = some none)
    {a_LETTERS : Addr} {n_LETTERS : Nat} {u0_LETTERS v0_LETTERS u1_LETTERS v1_LETTERS : Tok} (m_LETTERS : PySem.W.nsIn K mainGlobals "LETTERS" = some (some (.ref a_LETTERS))) (l_LETTERS : K.lookup a_LETTERS = some ⟨.type "dict", none, .dict #[⟨10, .int 10 u0_LETTERS, .str "KLMNOPQRST" v0_LETTERS⟩, ⟨11, .int 11 u1_LETTERS, .str "ABCDEFGHIJ" v1_LETTERS⟩] n_LETTERS, #[]⟩)
    {t_COLUMNS : Tok} (g_COLUMNS : PySem.W.nsIn K mainGlobals "COLUMNS" = some (some (.int 12 t_COLUMNS)))
    {t_FIGURES : Tok} (g_FIGURES : PySem.W.nsIn K mainGlobals "FIGURES" = some (some (.str "0123456789" t_FIGURES)))
    {t_MOST_ORDER : Tok} (g_MOST_ORDER : PySem.W.nsIn K mainGlobals "MOST_ORDER" = some (some (.int 6 t_MOST_ORDER)))
    {t_POCKETS : Tok} (g_POCKETS : PySem.W.nsIn K mainGlobals "POCKETS" = some (some (.int 13 t_POCKETS)))
    {a_FIGURE_PLACES : Addr} {n_FIGURE_PLACES : Nat} {od_FIGURE_PLACES : Option Addr} {sl_FIGURE_PLACES : Array (Option Value)} {u0_FIGURE_PLACES u1_FIGURE_PLACES u2_FIGURE_PLACES u3_FIGURE_PLACES u4_FIGURE_PLACES u5_FIGURE_PLACES u6_FIGURE_PLACES u7_FIGURE_PLACES u8_FIGURE_PLACES u9_FIGURE_PLACES : Tok} (m_FIGURE_PLACES : PySem.W.nsIn K mainGlobals "FIGURE_PLACES" = some (some (.ref a_FIGURE_PLACES))) (l_FIGURE_PLACES : K.lookup a_FIGURE_PLACES = some ⟨.type "tuple", od_FIGURE_PLACES, .seq #[.int 0 u0_FIGURE_PLACES, .int 1 u1_FIGURE_PLACES, .int 2 u2_FIGURE_PLACES, .int 3 u3_FIGURE_PLACES, .int 4 u4_FIGURE_PLACES, .int 5 u5_FIGURE_PLACES, .int 6 u6_FIGURE_PLACES, .int 7 u7_FIGURE_PLACES, .int 8 u8_FIGURE_PLACES, .int 9 u9_FIGURE_PLACES] n_FIGURE_PLACES, sl_FIGURE_PLACES⟩)
    {a_OVER_PLACES : Addr} {n_OVER_PLACES : Nat} {od_OVER_PLACES : Option Addr} {sl_OVER_PLACES : Array (Option Value)} {u0_OVER_PLACES u1_OVER_PLACES : Tok} (m_OVER_PLACES : PySem.W.nsIn K mainGlobals "OVER_PLACES" = some (some (.ref a_OVER_PLACES))) (l_OVER_PLACES : K.lookup a_OVER_PLACES = some ⟨.type "tuple", od_OVER_PLACES, .seq #[.int 10 u0_OVER_PLACES, .int 11 u1_OVER_PLACES] n_OVER_PLACES, sl_OVER_PLACES⟩)
    : LamX.LawAtS l w K CX0 6 63 "_law_script" mg fa h := by
  have e := hfa.symm.trans (PySem.W.mg_of X G a33)
  cases e
  have F1 := fun_mk (st := s_all_columns) l1 c1 k1
  have B1 := F1.binds (ps := []) fun _ _ _ _ _ _ us hl => match us, hl with | [], _ => rfl
  have F2 := fun_mk (st := s_column_of) l2 c2 k2
  have B2 := F2.binds (ps := ["card", "at"]) fun _ _ _ _ _ _ us hl => match us, hl with | [_, _], _ => rfl
  have F3 := fun_mk (st := s_figure_of) l3 c3 k3
  have B3 := F3.binds (ps := ["column"]) fun _ _ _ _ _ _ us hl => match us, hl with | [_], _ => rfl
  have F4 := fun_mk (st := s_over_of) l4 c4 k4
  have B4 := F4.binds (ps := ["column"]) fun _ _ _ _ _ _ us hl => match us, hl with | [_], _ => rfl
  have F5 := fun_mk (st := s_need_order) l5 c5 k5
  have B5 := F5.binds (ps := ["order"]) fun _ _ _ _ _ _ us hl => match us, hl with | [_], _ => rfl
  have F6 := fun_mk (st := s_L_dice) l6 c6 k6
  have B6 := F6.binds (ps := ["_law_script"]) fun _ _ _ _ _ _ us hl => match us, hl with | [_], _ => rfl
  have F7 := fun_mk (st := s_L_next) l7 c7 k7
  have B7 := F7.binds (ps := ["_law_dice_here", "_law_many"]) fun _ _ _ _ _ _ us hl => match us, hl with | [_, _], _ => rfl
  have F8 := fun_mk (st := s_L_whole) l8 c8 k8
  have B8 := F8.binds (ps := ["_law_found"]) fun _ _ _ _ _ _ us hl => match us, hl with | [_], _ => rfl
  have F9 := fun_mk (st := s_L_columns) l9 c9 k9
  have B9 := F9.binds (ps := []) fun _ _ _ _ _ _ us hl => match us, hl with | [], _ => rfl
  have F10 := fun_mk (st := s_L_column) l10 c10 k10
  have B10 := F10.binds (ps := ["_law_card", "_law_at"]) fun _ _ _ _ _ _ us hl => match us, hl with | [_, _], _ => rfl
  have F11 := fun_mk (st := s_L_figure) l11 c11 k11
  have B11 := F11.binds (ps := ["_law_column_here"]) fun _ _ _ _ _ _ us hl => match us, hl with | [_], _ => rfl
  have F12 := fun_mk (st := s_sign_of) l12 c12 k12
  have B12 := F12.binds (ps := ["column"]) fun _ _ _ _ _ _ us hl => match us, hl with | [_], _ => rfl
  have F13 := fun_mk (st := s_pocket_of) l13 c13 k13
  have B13 := F13.binds (ps := ["card", "column", "places"]) fun _ _ _ _ _ _ us hl => match us, hl with | [_, _, _], _ => rfl
  have F14 := fun_mk (st := s_L_key) l14 c14 k14
  have B14 := F14.binds (ps := ["_law_column_here"]) fun _ _ _ _ _ _ us hl => match us, hl with | [_], _ => rfl
  have F15 := fun_mk (st := s_L_sign) l15 c15 k15
  have B15 := F15.binds (ps := ["_law_column_here"]) fun _ _ _ _ _ _ us hl => match us, hl with | [_], _ => rfl
  have F16 := fun_mk (st := s_L_palette) l16 c16 k16
  have B16 := F16.binds (ps := ["_law_d"]) fun _ _ _ _ _ _ us hl => match us, hl with | [_], _ => rfl
  have F17 := fun_mk (st := s_L_deck) l17 c17 k17
  have B17 := F17.binds (ps := ["_law_d", "_law_palettes_here", "_law_most"]) fun _ _ _ _ _ _ us hl => match us, hl with | [_, _, _], _ => rfl
  have F18 := fun_mk (st := s_L_order) l18 c18 k18
  have B18 := F18.binds (ps := ["_law_d", "_law_most"]) fun _ _ _ _ _ _ us hl => match us, hl with | [_, _], _ => rfl
  have F19 := fun_mk (st := s_L_pocket) l19 c19 k19
  have B19 := F19.binds (ps := ["_law_card", "_law_one"]) fun _ _ _ _ _ _ us hl => match us, hl with | [_, _], _ => rfl
  have F20 := fun_mk (st := s_column_by) l20 c20 k20
  have B20 := F20.binds (ps := ["sign"]) fun _ _ _ _ _ _ us hl => match us, hl with | [_], _ => rfl
  have F21 := fun_mk (st := s_pockets) l21 c21 k21
  have B21 := F21.binds (ps := ["deck", "one"]) fun _ _ _ _ _ _ us hl => match us, hl with | [_, _], _ => rfl
  have F22 := fun_mk (st := s_does_part) l22 c22 k22
  have B22 := F22.binds (ps := ["places", "columns"]) fun _ _ _ _ _ _ us hl => match us, hl with | [_, _], _ => rfl
  have F23 := fun_mk (st := s_L_palettes) l23 c23 k23
  have B23 := F23.binds (ps := ["_law_d"]) fun _ _ _ _ _ _ us hl => match us, hl with | [_], _ => rfl
  have F24 := fun_mk (st := s_L_sorted) l24 c24 k24
  have B24 := F24.binds (ps := ["_law_deck_here", "_law_order_here"]) fun _ _ _ _ _ _ us hl => match us, hl with | [_, _], _ => rfl
  have F25 := fun_mk (st := s_L_signs) l25 c25 k25
  have B25 := F25.binds (ps := ["_law_d", "_law_palettes_here"]) fun _ _ _ _ _ _ us hl => match us, hl with | [_, _], _ => rfl
  have F26 := fun_mk (st := s_L_passed) l26 c26 k26
  have B26 := F26.binds (ps := ["_law_deck_here", "_law_one"]) fun _ _ _ _ _ _ us hl => match us, hl with | [_, _], _ => rfl
  have F27 := fun_mk (st := s_passed) l27 c27 k27
  have B27 := F27.binds (ps := ["deck", "one"]) fun _ _ _ _ _ _ us hl => match us, hl with | [_, _], _ => rfl
  have F28 := fun_mk (st := s_columns_for) l28 c28 k28
  have B28 := F28.binds (ps := ["column", "signs"]) fun _ _ _ _ _ _ us hl => match us, hl with | [_, _], _ => rfl
  have F29 := fun_mk (st := s_one_pass) l29 c29 k29
  have B29 := F29.binds (ps := ["columns"]) fun _ _ _ _ _ _ us hl => match us, hl with | [_], _ => rfl
  have F30 := fun_mk (st := s_L_by) l30 c30 k30
  have B30 := F30.binds (ps := ["_law_deck_here", "_law_passes"]) fun _ _ _ _ _ _ us hl => match us, hl with | [_, _], _ => rfl
  have F31 := fun_mk (st := s_sorted_by) l31 c31 k31
  have B31 := F31.binds (ps := ["deck", "passes"]) fun _ _ _ _ _ _ us hl => match us, hl with | [_, _], _ => rfl
  have F32 := fun_mk (st := s_passes_for) l32 c32 k32
  have B32 := F32.binds (ps := ["order", "signs"]) fun _ _ _ _ _ _ us hl => match us, hl with | [_, _], _ => rfl
  have F33 := fun_mk (st := s_law) l33 c33 k33
  letI : Tabl := ⟨[(PP29, lamQ "one_pass")]⟩
  obtain ⟨T, hTc, hTP⟩ : ∃ T : Txt K mg, T.c_one_pass = cc29 ∧ T.P_one_pass = PP29 := ⟨⟨PySem.W.mg_none_of X G z_bool, PySem.W.mg_none_of X G z_int, PySem.W.mg_none_of X G z_isinstance, PySem.W.mg_none_of X G z_len, PySem.W.mg_none_of X G z_list, PySem.W.mg_none_of X G z_max, PySem.W.mg_none_of X G z_min, PySem.W.mg_none_of X G z_range, PySem.W.mg_none_of X G z_reversed, PySem.W.mg_none_of X G z_set, PySem.W.mg_none_of X G z_sorted, PySem.W.mg_none_of X G z_tuple, a_LETTERS, PySem.W.mg_of X G m_LETTERS, ⟨_, n_LETTERS, l_LETTERS, (.cons ⟨⟨_, rfl⟩, (by show (10 : Int) = hashInt 10; decide +kernel), ⟨_, rfl⟩⟩ (.cons ⟨⟨_, rfl⟩, (by show (11 : Int) = hashInt 11; decide +kernel), ⟨_, rfl⟩⟩ .nil))⟩, t_COLUMNS, PySem.W.mg_of X G g_COLUMNS, t_FIGURES, PySem.W.mg_of X G g_FIGURES, t_MOST_ORDER, PySem.W.mg_of X G g_MOST_ORDER, t_POCKETS, PySem.W.mg_of X G g_POCKETS, a_FIGURE_PLACES, PySem.W.mg_of X G m_FIGURE_PLACES, rp_tupK l_FIGURE_PLACES (Nat.le_of_ble_eq_true rfl) (show IntsAre [.int 0 u0_FIGURE_PLACES, .int 1 u1_FIGURE_PLACES, .int 2 u2_FIGURE_PLACES, .int 3 u3_FIGURE_PLACES, .int 4 u4_FIGURE_PLACES, .int 5 u5_FIGURE_PLACES, .int 6 u6_FIGURE_PLACES, .int 7 u7_FIGURE_PLACES, .int 8 u8_FIGURE_PLACES, .int 9 u9_FIGURE_PLACES] [0, 1, 2, 3, 4, 5, 6, 7, 8, 9] from (.cons _ _ (.cons _ _ (.cons _ _ (.cons _ _ (.cons _ _ (.cons _ _ (.cons _ _ (.cons _ _ (.cons _ _ (.cons _ _ .nil))))))))))), a_OVER_PLACES, PySem.W.mg_of X G m_OVER_PLACES, rp_tupK l_OVER_PLACES (Nat.le_of_ble_eq_true rfl) (show IntsAre [.int 10 u0_OVER_PLACES, .int 11 u1_OVER_PLACES] [10, 11] from (.cons _ _ (.cons _ _ .nil))), cc29, PP29, f1, _, PySem.W.mg_of X G a1, F1, B1, f2, _, PySem.W.mg_of X G a2, F2, B2, f3, _, PySem.W.mg_of X G a3, F3, B3, f4, _, PySem.W.mg_of X G a4, F4, B4, f5, _, PySem.W.mg_of X G a5, F5, B5, f6, _, PySem.W.mg_of X G a6, F6, B6, f7, _, PySem.W.mg_of X G a7, F7, B7, f8, _, PySem.W.mg_of X G a8, F8, B8, f9, _, PySem.W.mg_of X G a9, F9, B9, f10, _, PySem.W.mg_of X G a10, F10, B10, f11, _, PySem.W.mg_of X G a11, F11, B11, f12, _, PySem.W.mg_of X G a12, F12, B12, f13, _, PySem.W.mg_of X G a13, F13, B13, f14, _, PySem.W.mg_of X G a14, F14, B14, f15, _, PySem.W.mg_of X G a15, F15, B15, f16, _, PySem.W.mg_of X G a16, F16, B16, f17, _, PySem.W.mg_of X G a17, F17, B17, f18, _, PySem.W.mg_of X G a18, F18, B18, f19, _, PySem.W.mg_of X G a19, F19, B19, f20, _, PySem.W.mg_of X G a20, F20, B20, f21, _, PySem.W.mg_of X G a21, F21, B21, f22, _, PySem.W.mg_of X G a22, F22, B22, f23, _, PySem.W.mg_of X G a23, F23, B23, f24, _, PySem.W.mg_of X G a24, F24, B24, f25, _, PySem.W.mg_of X G a25, F25, B25, f26, _, PySem.W.mg_of X G a26, F26, B26, f27, _, PySem.W.mg_of X G a27, F27, B27, f28, _, PySem.W.mg_of X G a28, F28, B28, f29, _, PySem.W.mg_of X G a29, F29, B29, ⟨rfl, List.mem_singleton.mpr rfl, fun p hp _ => by rw [List.mem_singleton.mp hp]⟩, f30, _, PySem.W.mg_of X G a30, F30, B30, f31, _, PySem.W.mg_of X G a31, F31, B31, f32, _, PySem.W.mg_of X G a32, F32, B32⟩, rfl, rfl⟩
  exact ⟨_, [(cc29, PP29)], SpV K F_law, fun p hp => by rw [List.mem_singleton.mp hp]; exact tt29, fun p hp => by rw [List.mem_singleton.mp hp]; exact tn29, fun p hp => by rw [List.mem_singleton.mp hp]; exact PySem.W.codeHd_of_K X th29, fun s v => .of_eq rfl, fun H a ns hl _ hT hS => law_sp (fun p hp => by rw [List.mem_singleton.mp hp]; exact hT (cc29, PP29) (List.mem_singleton.mpr rfl)) hl hS, fun base _ _ hTB => ok_law T ⟨by rw [hTc, hTP]; exact hTB (cc29, PP29) (List.mem_singleton.mpr rfl)⟩ F33⟩
end DL

open PySem PySem.W PyProof.Rows in
set_option maxRecDepth 100000 in
set_option maxHeartbeats 0 in
theorem PySem.Challenge.cw_holedeck_k05_whole_passes_sort_every_dec_holds : PySem.Challenge.rw_holedeck_k05_whole_passes_sort_every_dec.Holds := by
  w_on; o_law; k_head; (case hw => w_witness2)
  k_fill
  refine LamX.walk_ofTs (l := PySem.Challenge.rw_holedeck_k05_whole_passes_sort_every_dec) (n := 63) (k := 6) (x := "_law_script") (CX := fun _ => L2.CX0) rfl (by decide) rfl ⟨rfl, by decide, by decide⟩ (fun w h Y => PySem.W.km_in_of Y) ?F fun _ _ _ _ _ z => z
  case F =>
    intro w mg fa h Y KX G hmg
    refine' DL.all_mk KX G hmg ?a1 ?l1 ?c1 ?k1 ?a2 ?l2 ?c2 ?k2 ?a3 ?l3 ?c3 ?k3 ?a4 ?l4 ?c4 ?k4 ?a5 ?l5 ?c5 ?k5 ?a6 ?l6 ?c6 ?k6 ?a7 ?l7 ?c7 ?k7 ?a8 ?l8 ?c8 ?k8 ?a9 ?l9 ?c9 ?k9 ?a10 ?l10 ?c10 ?k10 ?a11 ?l11 ?c11 ?k11 ?a12 ?l12 ?c12 ?k12 ?a13 ?l13 ?c13 ?k13 ?a14 ?l14 ?c14 ?k14 ?a15 ?l15 ?c15 ?k15 ?a16 ?l16 ?c16 ?k16 ?a17 ?l17 ?c17 ?k17 ?a18 ?l18 ?c18 ?k18 ?a19 ?l19 ?c19 ?k19 ?a20 ?l20 ?c20 ?k20 ?a21 ?l21 ?c21 ?k21 ?a22 ?l22 ?c22 ?k22 ?a23 ?l23 ?c23 ?k23 ?a24 ?l24 ?c24 ?k24 ?a25 ?l25 ?c25 ?k25 ?a26 ?l26 ?c26 ?k26 ?a27 ?l27 ?c27 ?k27 ?a28 ?l28 ?c28 ?k28 ?a29 ?l29 ?c29 ?k29 ?tb29 ?tp29 ?th29 ?tn29 ?tt29 ?a30 ?l30 ?c30 ?k30 ?a31 ?l31 ?c31 ?k31 ?a32 ?l32 ?c32 ?k32 ?a33 ?l33 ?c33 ?k33 ?z_bool ?z_int ?z_isinstance ?z_len ?z_list ?z_max ?z_min ?z_range ?z_reversed ?z_set ?z_sorted ?z_tuple ?m_LETTERS ?l_LETTERS ?g_COLUMNS ?g_FIGURES ?g_MOST_ORDER ?g_POCKETS ?m_FIGURE_PLACES ?l_FIGURE_PLACES ?m_OVER_PLACES ?l_OVER_PLACES
    (case a1 => k_is)
    (case l1 => k_is)
    (case c1 => k_is)
    (case k1 => k_is)
    (case a2 => k_is)
    (case l2 => k_is)
    (case c2 => k_is)
    (case k2 => k_is)
    (case a3 => k_is)
    (case l3 => k_is)
    (case c3 => k_is)
    (case k3 => k_is)
    (case a4 => k_is)
    (case l4 => k_is)
    (case c4 => k_is)
    (case k4 => k_is)
    (case a5 => k_is)
    (case l5 => k_is)
    (case c5 => k_is)
    (case k5 => k_is)
    (case a6 => k_is)
    (case l6 => k_is)
    (case c6 => k_is)
    (case k6 => k_is)
    (case a7 => k_is)
    (case l7 => k_is)
    (case c7 => k_is)
    (case k7 => k_is)
    (case a8 => k_is)
    (case l8 => k_is)
    (case c8 => k_is)
    (case k8 => k_is)
    (case a9 => k_is)
    (case l9 => k_is)
    (case c9 => k_is)
    (case k9 => k_is)
    (case a10 => k_is)
    (case l10 => k_is)
    (case c10 => k_is)
    (case k10 => k_is)
    (case a11 => k_is)
    (case l11 => k_is)
    (case c11 => k_is)
    (case k11 => k_is)
    (case a12 => k_is)
    (case l12 => k_is)
    (case c12 => k_is)
    (case k12 => k_is)
    (case a13 => k_is)
    (case l13 => k_is)
    (case c13 => k_is)
    (case k13 => k_is)
    (case a14 => k_is)
    (case l14 => k_is)
    (case c14 => k_is)
    (case k14 => k_is)
    (case a15 => k_is)
    (case l15 => k_is)
    (case c15 => k_is)
    (case k15 => k_is)
    (case a16 => k_is)
    (case l16 => k_is)
    (case c16 => k_is)
    (case k16 => k_is)
    (case a17 => k_is)
    (case l17 => k_is)
    (case c17 => k_is)
    (case k17 => k_is)
    (case a18 => k_is)
    (case l18 => k_is)
    (case c18 => k_is)
    (case k18 => k_is)
    (case a19 => k_is)
    (case l19 => k_is)
    (case c19 => k_is)
    (case k19 => k_is)
    (case a20 => k_is)
    (case l20 => k_is)
    (case c20 => k_is)
    (case k20 => k_is)
    (case a21 => k_is)
    (case l21 => k_is)
    (case c21 => k_is)
    (case k21 => k_is)
    (case a22 => k_is)
    (case l22 => k_is)
    (case c22 => k_is)
    (case k22 => k_is)
    (case a23 => k_is)
    (case l23 => k_is)
    (case c23 => k_is)
    (case k23 => k_is)
    (case a24 => k_is)
    (case l24 => k_is)
    (case c24 => k_is)
    (case k24 => k_is)
    (case a25 => k_is)
    (case l25 => k_is)
    (case c25 => k_is)
    (case k25 => k_is)
    (case a26 => k_is)
    (case l26 => k_is)
    (case c26 => k_is)
    (case k26 => k_is)
    (case a27 => k_is)
    (case l27 => k_is)
    (case c27 => k_is)
    (case k27 => k_is)
    (case a28 => k_is)
    (case l28 => k_is)
    (case c28 => k_is)
    (case k28 => k_is)
    (case a29 => k_is)
    (case l29 => k_is)
    (case c29 => k_is)
    (case k29 => k_is)
    (case tb29 => k_is)
    (case tp29 => rfl)
    (case th29 => first | k_is | rfl | decide +kernel)
    (case tn29 => first | k_is | rfl | decide +kernel)
    (case tt29 => exact PySem.W.km_tabs_of Y _ (by first | k_mem | simp | decide))
    (case a30 => k_is)
    (case l30 => k_is)
    (case c30 => k_is)
    (case k30 => k_is)
    (case a31 => k_is)
    (case l31 => k_is)
    (case c31 => k_is)
    (case k31 => k_is)
    (case a32 => k_is)
    (case l32 => k_is)
    (case c32 => k_is)
    (case k32 => k_is)
    (case a33 => k_is)
    (case l33 => k_is)
    (case c33 => k_is)
    (case k33 => k_is)
    (case z_bool => k_is)
    (case z_int => k_is)
    (case z_isinstance => k_is)
    (case z_len => k_is)
    (case z_list => k_is)
    (case z_max => k_is)
    (case z_min => k_is)
    (case z_range => k_is)
    (case z_reversed => k_is)
    (case z_set => k_is)
    (case z_sorted => k_is)
    (case z_tuple => k_is)
    (case m_LETTERS => k_is)
    (case l_LETTERS => k_is)
    (case g_COLUMNS => k_is)
    (case g_FIGURES => k_is)
    (case g_MOST_ORDER => k_is)
    (case g_POCKETS => k_is)
    (case m_FIGURE_PLACES => k_is)
    (case l_FIGURE_PLACES => k_is)
    (case m_OVER_PLACES => k_is)
    (case l_OVER_PLACES => k_is)
