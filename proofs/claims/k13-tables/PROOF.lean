import PyProof.Rows.All
import Wide.All
import OpenK.AllK
import Wide.FinOn
import HandS.ForMost
import HandS.Deep
import HandS.TupAny
import HandS.TupMul
import HandS.TupLe
import HandS.Style
import HandS.Walk
import HandS.Rev
import HandS.RevTup
import HandS.Conv
import HandS.IsInst
import HandS.TupSets
import HandS.SortRule
import HandS.Text
import HandS.Codes
import HandS.StrMore
import HandS.Iter
import KE.KTab
import PySem.Challenge.RW_holedeck_k13_tables_card_by_card
set_option Elab.async false
set_option linter.all false
set_option maxRecDepth 100000
set_option maxHeartbeats 2000000
/-! Data in place of heaps: what stands behind a value (D), what is known for good (G), what a def owns and may change (own, loc, arg). -/
namespace DL
open PySem PySem.Spec PyProof.Rows L2

/-! ### data -/
inductive D where
  | non | bl (b : Bool) | int (i : Int) | str (s : Str) | tup (xs : List D) | lst (xs : List D) | dic (kvs : List (Key × D)) | ins (C : Addr) (fs : List (Str × D)) | rd (xs : List D) | ty (n : String) | cls (a : Addr) | exc (b : Bool) (a C dx : Addr) (fs : List (Str × D))
/-- a caught exception's object, known -/
def exvO (a : Addr) (oe : Obj) : HO := .ext fun h => h.get? a = some oe
/-- what is kept of an exception's object: its class, its dict -/
def ExcAt (G : Hp) (a C dx : Addr) : Prop := ∃ oe, G a = some (exvO a oe) ∧ oe.cls = .ref C ∧ oe.dict = some dx ∧ ∃ vs, oe.data = .fields vs

mutual
inductive Rp (K : PySem.W.Frag) (G : Hp) : V → D → Prop
  | non : Rp K G .non .non
  | bl (b : Bool) : Rp K G (.bl b) (.bl b)
  | int (i : Int) : Rp K G (.int i) (.int i)
  | str (x : Str) : Rp K G (.str x) (.str x)
  | lst {a : Addr} {xs : List V} {ds : List D} : G a = some (.lst xs) → RpL K G xs ds → Rp K G (.ref a) (.lst ds)
  | tup {a : Addr} {xs : List V} {ds : List D} : SqT K G a xs → RpL K G xs ds → Rp K G (.ref a) (.tup ds)
  | dic {a : Addr} {kvs : List (Key × V)} {ds : List (Key × D)} : Rd G a (.dK kvs) → RpK K G kvs ds → Rp K G (.ref a) (.dic ds)
  | ins {a C dx : Addr} {fs : List (Str × V)} {ds : List (Str × D)} : G a = some (.ins C dx fs) → RpF K G fs ds → Rp K G (.ref a) (.ins C ds)
  | rd {a : Addr} {xs : List V} {ds : List D} : SqL K G a xs → RpL K G xs ds → Rp K G (.ref a) (.rd ds)
  | ty (n : String) : Rp K G (.ty n) (.ty n)
  | cls (a : Addr) : Rp K G (.ref a) (.cls a)
  | exc {b : Bool} {a C dx : Addr} {vs : List (Str × V)} {fs : List (Str × D)} : (b = true → ExcAt G a C dx) → G dx = some (.xd vs) → RpF K G vs fs → Rp K G (.ref a) (.exc b a C dx fs)
inductive RpL (K : PySem.W.Frag) (G : Hp) : List V → List D → Prop
  | nil : RpL K G [] []
  | cons {v : V} {vs : List V} {d : D} {ds : List D} : Rp K G v d → RpL K G vs ds → RpL K G (v :: vs) (d :: ds)
inductive RpK (K : PySem.W.Frag) (G : Hp) : List (Key × V) → List (Key × D) → Prop
  | nil : RpK K G [] []
  | cons {k : Key} {v : V} {vs : List (Key × V)} {d : D} {ds : List (Key × D)} : Rp K G v d → RpK K G vs ds → RpK K G ((k, v) :: vs) ((k, d) :: ds)
inductive RpF (K : PySem.W.Frag) (G : Hp) : List (Str × V) → List (Str × D) → Prop
  | nil : RpF K G [] []
  | cons {k : Str} {v : V} {vs : List (Str × V)} {d : D} {ds : List (Str × D)} : Rp K G v d → RpF K G vs ds → RpF K G ((k, v) :: vs) ((k, d) :: ds)
end

theorem same_rd {H H' : Hp} {a : Addr} {u : HO} (e : Same H H') (h : Rd H a u) : Rd H' a u := by
  rcases h with h | ⟨o, h⟩
  · exact Or.inl (e a _ h)
  · exact Or.inr ⟨o, e a _ h⟩
theorem same_l {K : PySem.W.Frag} {H H' : Hp} {a : Addr} {xs : List V} (e : Same H H') (h : SqL K H a xs) : SqL K H' a xs := by
  rcases h with h | h
  · exact Or.inl (same_rd e h)
  · exact Or.inr h
theorem same_t {K : PySem.W.Frag} {H H' : Hp} {a : Addr} {xs : List V} (e : Same H H') (h : SqT K H a xs) : SqT K H' a xs := by
  rcases h with h | h
  · exact Or.inl (same_rd e h)
  · exact Or.inr h

section
variable {K : PySem.W.Frag} {G G' : Hp}
mutual
theorem Rp.mono (e : Same G G') : ∀ {v : V} {d : D}, Rp K G v d → Rp K G' v d
  | _, _, .non => .non
  | _, _, .bl b => .bl b
  | _, _, .int i => .int i
  | _, _, .str x => .str x
  | _, _, .lst h r => .lst (e _ _ h) (RpL.mono e r)
  | _, _, .rd h r => .rd (same_l e h) (RpL.mono e r)
  | _, _, .ty n => .ty n
  | _, _, .cls a => .cls a
  | _, _, .exc h1 h2 r => .exc (fun hb => let ⟨oe, q1, q2⟩ := h1 hb; ⟨oe, e _ _ q1, q2⟩) (e _ _ h2) (RpF.mono e r)
  | _, _, .tup h r => .tup (same_t e h) (RpL.mono e r)
  | _, _, .dic h r => .dic (same_rd e h) (RpK.mono e r)
  | _, _, .ins h r => .ins (e _ _ h) (RpF.mono e r)
theorem RpL.mono (e : Same G G') : ∀ {v : List V} {d : List D}, RpL K G v d → RpL K G' v d
  | _, _, .nil => .nil
  | _, _, .cons h r => .cons (Rp.mono e h) (RpL.mono e r)
theorem RpK.mono (e : Same G G') : ∀ {v : List (Key × V)} {d : List (Key × D)}, RpK K G v d → RpK K G' v d
  | _, _, .nil => .nil
  | _, _, .cons h r => .cons (Rp.mono e h) (RpK.mono e r)
theorem RpF.mono (e : Same G G') : ∀ {v : List (Str × V)} {d : List (Str × D)}, RpF K G v d → RpF K G' v d
  | _, _, .nil => .nil
  | _, _, .cons h r => .cons (Rp.mono e h) (RpF.mono e r)
end
theorem RpL.length : ∀ {vs : List V} {ds : List D}, RpL K G vs ds → vs.length = ds.length
  | _, _, .nil => rfl
  | _, _, .cons _ r => by rw [List.length_cons, List.length_cons, RpL.length r]
theorem RpL.append : ∀ {vs ws : List V} {ds es : List D}, RpL K G vs ds → RpL K G ws es → RpL K G (vs ++ ws) (ds ++ es)
  | _, _, _, _, .nil, s => s
  | _, _, _, _, .cons h r, s => .cons h (RpL.append r s)
theorem RpL.snoc {vs : List V} {ds : List D} {v : V} {d : D} (r : RpL K G vs ds) (h : Rp K G v d) : RpL K G (vs ++ [v]) (ds ++ [d]) := r.append (.cons h .nil)
theorem RpL.get : ∀ {vs : List V} {ds : List D} {i : Nat} {v : V}, RpL K G vs ds → vs[i]? = some v → ∃ d, ds[i]? = some d ∧ Rp K G v d
  | _, _, _, _, .nil, e => by simp at e
  | _, _, 0, _, .cons h _, e => by simp at e; subst e; exact ⟨_, rfl, h⟩
  | _, _, i + 1, v, .cons _ r, e => by
    obtain ⟨d, h1, h2⟩ := RpL.get (i := i) (v := v) r (by simpa using e)
    exact ⟨d, by simpa using h1, h2⟩
theorem RpL.tget : ∀ {vs : List V} {ds : List D} {i : Nat} {d : D}, RpL K G vs ds → ds[i]? = some d → ∃ v, vs[i]? = some v ∧ Rp K G v d
  | _, _, _, _, .nil, e => by simp at e
  | _, _, 0, _, .cons h _, e => by simp at e; subst e; exact ⟨_, rfl, h⟩
  | _, _, i + 1, d, .cons _ r, e => by
    obtain ⟨v, h1, h2⟩ := RpL.tget (i := i) (d := d) r (by simpa using e)
    exact ⟨v, by simpa using h1, h2⟩
theorem RpL.take : ∀ {vs : List V} {ds : List D} (n : Nat), RpL K G vs ds → RpL K G (vs.take n) (ds.take n)
  | _, _, 0, _ => .nil
  | _, _, _ + 1, .nil => .nil
  | _, _, n + 1, .cons h r => .cons h (RpL.take n r)
theorem RpL.drop : ∀ {vs : List V} {ds : List D} (n : Nat), RpL K G vs ds → RpL K G (vs.drop n) (ds.drop n)
  | _, _, 0, r => r
  | _, _, _ + 1, .nil => .nil
  | _, _, n + 1, .cons _ r => RpL.drop n r
theorem RpL.set {v : V} {d : D} (h : Rp K G v d) : ∀ {vs : List V} {ds : List D} (i : Nat), RpL K G vs ds → RpL K G (vs.set i v) (ds.set i d)
  | _, _, _, .nil => .nil
  | _, _, 0, .cons _ t => .cons h t
  | _, _, i + 1, .cons q t => .cons q (RpL.set h i t)
theorem RpL.eraseIdx : ∀ {vs : List V} {ds : List D} (i : Nat), RpL K G vs ds → RpL K G (vs.eraseIdx i) (ds.eraseIdx i)
  | _, _, _, .nil => .nil
  | _, _, 0, .cons _ t => t
  | _, _, i + 1, .cons q t => .cons q (RpL.eraseIdx i t)
theorem RpL.reverse : ∀ {vs : List V} {ds : List D}, RpL K G vs ds → RpL K G vs.reverse ds.reverse
  | _, _, .nil => .nil
  | _, _, .cons h r => by
    rw [List.reverse_cons, List.reverse_cons]
    exact (RpL.reverse r).snoc h
theorem RpL.flatten {vss : List (List V)} {dss : List (List D)} (h : Paired (RpL K G) vss dss) : RpL K G vss.flatten dss.flatten := by
  induction h with
  | nil => exact .nil
  | cons h _ ih => exact RpL.append h ih
theorem RpL.replicate {v : V} {d : D} (h : Rp K G v d) : ∀ n : Nat, RpL K G (List.replicate n v) (List.replicate n d)
  | 0 => .nil
  | n + 1 => .cons h (RpL.replicate h n)
theorem RpL.dget {vs : List V} {ds : List D} {i : Int} {d : D} (r : RpL K G vs ds) (h : atI ds i = some d) : ∃ v, atI vs i = some v ∧ Rp K G v d := by
  unfold atI at h ⊢
  rw [r.length]
  cases e : ixN ds.length i with
  | none => rw [e] at h; cases h
  | some j =>
    rw [e] at h
    exact r.tget h
theorem RpK.length : ∀ {vs : List (Key × V)} {ds : List (Key × D)}, RpK K G vs ds → vs.length = ds.length
  | _, _, .nil => rfl
  | _, _, .cons _ r => by rw [List.length_cons, List.length_cons, RpK.length r]
theorem RpF.length : ∀ {vs : List (Str × V)} {ds : List (Str × D)}, RpF K G vs ds → vs.length = ds.length
  | _, _, .nil => rfl
  | _, _, .cons _ r => by rw [List.length_cons, List.length_cons, RpF.length r]
end

/-! ### what a def owns -/
/-- a tree of things of one's own: each with its address; at its leaves data -/
inductive OT where
  | val (d : D) | lst (p : Addr) (xs : List OT) | tup (p : Addr) (xs : List OT) | ins (p dx C : Addr) (fs : List (Str × OT)) | dic (p : Addr) (kvs : List (Key × D))
def OT.root : OT → V
  | .val _ => .non
  | .lst p _ => .ref p
  | .tup p _ => .ref p
  | .ins p _ _ _ => .ref p
  | .dic p _ => .ref p
def OT.node : OT → Bool
  | .val _ => false
  | _ => true
mutual
inductive Own (K : PySem.W.Frag) (G H : Hp) : V → OT → List Addr → Prop
  | val {v : V} {d : D} : Rp K G v d → Own K G H v (.val d) []
  | lst {p : Addr} {vs : List V} {ts : List OT} {A : List Addr} : H p = some (.lst vs) → OwnL K G H vs ts A → Own K G H (.ref p) (.lst p ts) (p :: A)
  | tup {p : Addr} {vs : List V} {ts : List OT} {A : List Addr} : G p = some (.tup vs) → OwnL K G H vs ts A → Own K G H (.ref p) (.tup p ts) A
  | ins {p dx C : Addr} {fs : List (Str × V)} {ts : List (Str × OT)} {A : List Addr} : H p = some (.ins C dx fs) → H dx = some (.own p) → OwnF K G H fs ts A → Own K G H (.ref p) (.ins p dx C ts) (p :: dx :: A)
  | dic {p : Addr} {vs : List (Key × V)} {ds : List (Key × D)} : H p = some (.dK vs) → RpK K G vs ds → Own K G H (.ref p) (.dic p ds) [p]
inductive OwnL (K : PySem.W.Frag) (G H : Hp) : List V → List OT → List Addr → Prop
  | nil : OwnL K G H [] [] []
  | cons {v : V} {vs : List V} {t : OT} {ts : List OT} {A B : List Addr} : Own K G H v t A → OwnL K G H vs ts B → OwnL K G H (v :: vs) (t :: ts) (A ++ B)
inductive OwnF (K : PySem.W.Frag) (G H : Hp) : List (Str × V) → List (Str × OT) → List Addr → Prop
  | nil : OwnF K G H [] [] []
  | cons {k : Str} {v : V} {vs : List (Str × V)} {t : OT} {ts : List (Str × OT)} {A B : List Addr} : Own K G H v t A → OwnF K G H vs ts B → OwnF K G H ((k, v) :: vs) ((k, t) :: ts) (A ++ B)
end
section
variable {K : PySem.W.Frag} {G G' H H' : Hp}
mutual
theorem Own.st (e : Same G G') : ∀ {v : V} {t : OT} {A : List Addr}, Own K G H v t A → (∀ a ∈ A, H' a = H a) → Own K G' H' v t A
  | _, _, _, .val r, _ => .val (r.mono e)
  | _, _, _, .lst h r, k => .lst ((k _ List.mem_cons_self).trans h) (OwnL.st e r fun a ha => k a (List.mem_cons_of_mem _ ha))
  | _, _, _, .tup h r, k => .tup (e _ _ h) (OwnL.st e r k)
  | _, _, _, .dic h r, k => .dic ((k _ List.mem_cons_self).trans h) (r.mono e)
  | _, _, _, .ins h h2 r, k => .ins ((k _ List.mem_cons_self).trans h) ((k _ (List.mem_cons_of_mem _ List.mem_cons_self)).trans h2) (OwnF.st e r fun a ha => k a (List.mem_cons_of_mem _ (List.mem_cons_of_mem _ ha)))
theorem OwnL.st (e : Same G G') : ∀ {v : List V} {t : List OT} {A : List Addr}, OwnL K G H v t A → (∀ a ∈ A, H' a = H a) → OwnL K G' H' v t A
  | _, _, _, .nil, _ => .nil
  | _, _, _, .cons h r, k => .cons (Own.st e h fun a ha => k a (List.mem_append_left _ ha)) (OwnL.st e r fun a ha => k a (List.mem_append_right _ ha))
theorem OwnF.st (e : Same G G') : ∀ {v : List (Str × V)} {t : List (Str × OT)} {A : List Addr}, OwnF K G H v t A → (∀ a ∈ A, H' a = H a) → OwnF K G' H' v t A
  | _, _, _, .nil, _ => .nil
  | _, _, _, .cons h r, k => .cons (Own.st e h fun a ha => k a (List.mem_append_left _ ha)) (OwnF.st e r fun a ha => k a (List.mem_append_right _ ha))
end
end
def OT.ok (t : OT) (K : PySem.W.Frag) (G H : Hp) (v : V) (F : Addr → Prop) : Prop := t.node = true ∧ ∃ A, Own K G H v t A ∧ A.Nodup ∧ ∀ a, F a ↔ a ∈ A
theorem OT.st {t : OT} {K : PySem.W.Frag} {G H G' H' : Hp} {v : V} {F : Addr → Prop} (h : t.ok K G H v F) (e : Same G G') (k : ∀ a, F a → H' a = H a) : t.ok K G' H' v F := by
  obtain ⟨n, A, h1, h2, h3⟩ := h
  exact ⟨n, A, h1.st e fun a ha => k a ((h3 a).mpr ha), h2, h3⟩
theorem OT.pin {t : OT} {K : PySem.W.Frag} {G H : Hp} {v : V} {F : Addr → Prop} (h : t.ok K G H v F) : v = t.root := by
  obtain ⟨n, A, h1, _⟩ := h
  cases h1 with
  | val _ => cases n
  | lst _ _ => rfl
  | tup _ _ => rfl
  | ins _ _ _ => rfl
  | dic _ _ => rfl

/-- a slot: nothing known; data; a list of one's own; another thing of one's own; one that the caller handed in -/
inductive Sl where
  | un | val (d : D) | own (ds : List D) | loc (S : OT) | arg (S : OT)

def Sl.isArg : Option Sl → Prop
  | some (.arg _) => True
  | _ => False
/-- what a slot says of its value -/
def SlOk (K : PySem.W.Frag) (G H : Hp) (o : Option V) (F : Addr → Prop) : Sl → Prop
  | .un => ∀ a, ¬ F a
  | .val d => (∀ a, ¬ F a) ∧ ∃ v, o = some v ∧ Rp K G v d
  | .own ds => ∃ p vs, o = some (.ref p) ∧ (∀ a, F a ↔ a = p) ∧ H p = some (.lst vs) ∧ RpL K G vs ds
  | .loc S => ∃ v, o = some v ∧ S.ok K G H v F
  | .arg S => ∃ v, o = some v ∧ S.ok K G H v F
theorem SlOk.st {K : PySem.W.Frag} {G H G' H' : Hp} {o : Option V} {F : Addr → Prop} {x : Sl} (h : SlOk K G H o F x) (e : Same G G') (k : ∀ a, F a → H' a = H a) : SlOk K G' H' o F x := by
  cases x with
  | un => exact h
  | val d => obtain ⟨h1, v, h2, h3⟩ := h; exact ⟨h1, v, h2, h3.mono e⟩
  | own ds =>
    obtain ⟨p, vs, h1, h2, h3, h4⟩ := h
    exact ⟨p, vs, h1, h2, by rw [k p ((h2 p).mpr rfl)]; exact h3, h4.mono e⟩
  | loc S => obtain ⟨v, h1, h2⟩ := h; exact ⟨v, h1, OT.st h2 e k⟩
  | arg S => obtain ⟨v, h1, h2⟩ := h; exact ⟨v, h1, OT.st h2 e k⟩

/-- the state of a def's run: G0, H0 at its entry; G what is known for good, H the heap; M what the caller lets change; Z what stands aside, in nobody's reach -/
structure At (K : PySem.W.Frag) (M : Addr → Prop) (Z G0 H0 G H : Hp) (σ : L2.St) (ρ : List Sl) (F : Nat → Addr → Prop) : Prop where
  gh : Same G H
  g0 : Same G0 G
  h0 : ∀ a o, H0 a = some o → ¬ M a → H a = some o
  fr : ∀ a, H0 a ≠ none → G a = G0 a
  hn : ∀ a, H0 a ≠ none → H a ≠ none
  len : σ.length = ρ.length
  sl : ∀ i x, ρ[i]? = some x → SlOk K G H ((σ[i]?).join) (F i) x
  no : ∀ i, ρ[i]? = none → ∀ a, ¬ F i a
  fp : ∀ i a, F i a → G a = none ∧ H a ≠ none ∧ (H0 a = none ∨ (M a ∧ Sl.isArg (ρ[i]?)))
  dj : ∀ i j a, F i a → F j a → i = j
  hz : ∀ a o, Z a = some o → H a = some o ∧ G a = none ∧ ∀ i, ¬ F i a

section
variable {K : PySem.W.Frag} {M : Addr → Prop} {Z G0 H0 G H : Hp} {σ : L2.St} {ρ : List Sl} {F : Nat → Addr → Prop}
theorem At.val {i : Nat} {d : D} (A : At K M Z G0 H0 G H σ ρ F) (h : ρ[i]? = some (.val d)) : ∃ v, σ[i]? = some (some v) ∧ Rp K G v d := by
  obtain ⟨_, v, e, r⟩ := A.sl i _ h
  refine ⟨v, ?_, r⟩
  cases q : σ[i]? with
  | none => rw [q] at e; cases e
  | some o => rw [q] at e; exact congrArg some e
theorem join_some {o : Option (Option V)} {v : V} (h : o.join = some v) : o = some (some v) := by
  cases o with
  | none => cases h
  | some p => exact congrArg some h
/-- the heap and what is known grow; what is owned stands -/
theorem At.grow {G' H' : Hp} (A : At K M Z G0 H0 G H σ ρ F) (eG : Same G G') (eH : Same H H') (eGH : Same G' H') (old : ∀ a, H a ≠ none → G' a = G a) : At K M Z G0 H0 G' H' σ ρ F where
  gh := eGH
  g0 := A.g0.trans eG
  h0 := fun a o h n => eH a o (A.h0 a o h n)
  fr := fun a h => (old a (A.hn a h)).trans (A.fr a h)
  hn := fun a h => by
    cases q : H a with
    | none => exact absurd q (A.hn a h)
    | some o => rw [eH a o q]; exact fun z => nomatch z
  len := A.len
  sl := fun i x h => (A.sl i x h).st eG fun a fa => by
    obtain ⟨_, h2, _⟩ := A.fp i a fa
    cases q : H a with
    | none => exact absurd q h2
    | some o => exact eH a o q
  no := A.no
  fp := fun i a fa => by
    obtain ⟨h1, h2, h3⟩ := A.fp i a fa
    refine ⟨(old a h2).trans h1, ?_, h3⟩
    cases q : H a with
    | none => exact absurd q h2
    | some o => rw [eH a o q]; exact fun z => nomatch z
  dj := A.dj
  hz := fun a o h => by
    obtain ⟨h1, h2, h3⟩ := A.hz a o h
    exact ⟨eH a o h1, (old a (by rw [h1]; exact Option.some_ne_none _)).trans h2, h3⟩
/-- a new thing is made and known -/
theorem At.new {p : Addr} {o : HO} (A : At K M Z G0 H0 G H σ ρ F) (n : H p = none) : At K M Z G0 H0 (upd G p o) (upd H p o) σ ρ F ∧ Same G (upd G p o) := by
  have gn : G p = none := A.gh.free n
  have e : Same G (upd G p o) := fun a u q => by rw [upd_ne (ne_of_none q gn)]; exact q
  have e2 : Same H (upd H p o) := fun a u q => by rw [upd_ne (ne_of_none q n)]; exact q
  refine ⟨A.grow e e2 (fun a u q => ?_) fun a h => upd_ne fun z => h (by rw [z]; exact n), e⟩
  by_cases ha : a = p
  · subst ha; rw [upd_same] at q ⊢; exact q
  · rw [upd_ne ha] at q ⊢; exact A.gh a u q
/-- a new thing is made; it isn't known for good -/
theorem At.newH {p : Addr} {o : HO} (A : At K M Z G0 H0 G H σ ρ F) (n : H p = none) : At K M Z G0 H0 G (upd H p o) σ ρ F := by
  have gn : G p = none := A.gh.free n
  have e2 : Same H (upd H p o) := fun a u q => by rw [upd_ne (ne_of_none q n)]; exact q
  exact A.grow (Same.refl G) e2 (A.gh.trans e2) fun a h => rfl
/-- a thing of the heap that nobody owns becomes known -/
theorem At.know {p : Addr} {o : HO} (A : At K M Z G0 H0 G H σ ρ F) (h : H p = some o) (n0 : H0 p = none) (nf : ∀ i, ¬ F i p) (gn : G p = none) (zn : Z p = none) : At K M Z G0 H0 (upd G p o) H σ ρ F ∧ Same G (upd G p o) := by
  have e : Same G (upd G p o) := fun a u q => by rw [upd_ne (ne_of_none q gn)]; exact q
  refine ⟨⟨fun a u q => ?_, A.g0.trans e, A.h0, fun a ha => ?_, A.hn, A.len, fun i x hx => (A.sl i x hx).st e fun _ _ => rfl, A.no, fun i a fa => ?_, A.dj, fun a u hz => ?_⟩, e⟩
  · by_cases ha : a = p
    · subst ha; rw [upd_same] at q; rw [h]; exact q
    · rw [upd_ne ha] at q; exact A.gh a u q
  · rw [upd_ne fun z => ha (by rw [z]; exact n0)]
    exact A.fr a ha
  · obtain ⟨h1, h2, h3⟩ := A.fp i a fa
    refine ⟨?_, h2, h3⟩
    rw [upd_ne fun z => nf i (by rw [← z]; exact fa)]
    exact h1
  · obtain ⟨h1, h2, h3⟩ := A.hz a u hz
    refine ⟨h1, ?_, h3⟩
    rw [upd_ne fun z => ?_]
    · exact h2
    · rw [z, zn] at hz
      cases hz
/-- a result and what it takes up: nobody else's, not known for good -/
structure ResOk (K : PySem.W.Frag) (Z H0 G H : Hp) (F : Nat → Addr → Prop) (v : V) (x : Sl) (Fn : Addr → Prop) : Prop where
  ok : SlOk K G H (some v) Fn x
  na : ¬ Sl.isArg (some x)
  fr : ∀ a, Fn a → G a = none ∧ H a ≠ none ∧ H0 a = none ∧ Z a = none ∧ ∀ j, ¬ F j a
theorem ResOk.val {v : V} {d : D} (r : Rp K G v d) : ResOk K Z H0 G H F v (.val d) (fun _ => False) := ⟨⟨fun _ z => z, v, rfl, r⟩, fun z => z, fun _ z => z.elim⟩
/-- a slot is set -/
theorem At.set {i : Nat} {v : V} {x : Sl} {Fn : Addr → Prop} (A : At K M Z G0 H0 G H σ ρ F) (r : ResOk K Z H0 G H F v x Fn) (hi : i < ρ.length) (na : ¬ Sl.isArg (ρ[i]?)) :
    At K M Z G0 H0 G H (σ.set i (some v)) (ρ.set i x) (fun j a => if j = i then Fn a else F j a) where
  gh := A.gh
  g0 := A.g0
  h0 := A.h0
  fr := A.fr
  hn := A.hn
  len := by rw [List.length_set, List.length_set]; exact A.len
  sl := fun j y h => by
    by_cases hj : j = i
    · subst hj
      rw [List.getElem?_set_self hi] at h
      have ey : x = y := Option.some.inj h
      rw [List.getElem?_set_self (by rw [A.len]; exact hi)]
      have e : (fun a => if j = j then Fn a else F j a) = Fn := by funext a; exact if_pos rfl
      show SlOk K G H (some v) (fun a => if j = j then Fn a else F j a) y
      rw [e, ← ey]
      exact r.ok
    · rw [List.getElem?_set_ne (Ne.symm hj)] at h
      rw [List.getElem?_set_ne (Ne.symm hj)]
      have e : (fun a => if j = i then Fn a else F j a) = F j := by funext a; exact if_neg hj
      show SlOk K G H _ (fun a => if j = i then Fn a else F j a) y
      rw [e]
      exact A.sl j y h
  no := fun j h a z => by
    rw [List.getElem?_eq_none_iff] at h
    have hj : j ≠ i := fun q => by
      rw [q, List.length_set] at h
      omega
    rw [if_neg hj] at z
    exact A.no j (List.getElem?_eq_none_iff.mpr (by simpa using h)) a z
  fp := fun j a z => by
    by_cases hj : j = i
    · rw [if_pos hj] at z
      obtain ⟨h1, h2, h3, _, _⟩ := r.fr a z
      exact ⟨h1, h2, .inl h3⟩
    · rw [if_neg hj] at z
      obtain ⟨h1, h2, h3⟩ := A.fp j a z
      rw [List.getElem?_set_ne (Ne.symm hj)]
      exact ⟨h1, h2, h3⟩
  dj := fun j k a y z => by
    by_cases hj : j = i
    · by_cases hk : k = i
      · exact hj.trans hk.symm
      · rw [if_pos hj] at y
        rw [if_neg hk] at z
        exact absurd z ((r.fr a y).2.2.2.2 k)
    · rw [if_neg hj] at y
      by_cases hk : k = i
      · rw [if_pos hk] at z
        exact absurd y ((r.fr a z).2.2.2.2 j)
      · rw [if_neg hk] at z
        exact A.dj j k a y z
  hz := fun a o h => by
    obtain ⟨h1, h2, h3⟩ := A.hz a o h
    refine ⟨h1, h2, fun j z => ?_⟩
    by_cases hj : j = i
    · rw [if_pos hj] at z
      have q := (r.fr a z).2.2.2.1
      rw [h] at q
      cases q
    · rw [if_neg hj] at z
      exact h3 j z
/-- what stands in a slot is changed: a thing of one's own, or one handed in -/
theorem At.chg {i : Nat} {x : Sl} {Fn : Addr → Prop} {G' H' : Hp} (A : At K M Z G0 H0 G H σ ρ F) (hi : i < ρ.length) (eG : Same G G') (eGH : Same G' H') (old : ∀ a, H a ≠ none → G' a = G a) (hn : ∀ a, H a ≠ none → H' a ≠ none)
    (eH : ∀ a o, H a = some o → ¬ F i a → H' a = some o) (hx : SlOk K G' H' ((σ[i]?).join) Fn x) (hs : Sl.isArg (ρ[i]?) → Sl.isArg (some x))
    (hf : ∀ a, Fn a → G' a = none ∧ H' a ≠ none ∧ (F i a ∨ H a = none ∨ (H0 a = none ∧ Z a = none ∧ ∀ j, ¬ F j a))) : At K M Z G0 H0 G' H' σ (ρ.set i x) (fun j a => if j = i then Fn a else F j a) where
  gh := eGH
  g0 := A.g0.trans eG
  h0 := fun a o h n => eH a o (A.h0 a o h n) fun z => by
    obtain ⟨_, _, q⟩ := A.fp i a z
    rcases q with q | q
    · rw [h] at q; cases q
    · exact n q.1
  fr := fun a h => (old a (A.hn a h)).trans (A.fr a h)
  hn := fun a h => hn a (A.hn a h)
  len := by rw [List.length_set]; exact A.len
  sl := fun j y h => by
    by_cases hj : j = i
    · subst hj
      rw [List.getElem?_set_self hi] at h
      have ey : x = y := Option.some.inj h
      have e : (fun a => if j = j then Fn a else F j a) = Fn := by funext a; exact if_pos rfl
      show SlOk K G' H' _ (fun a => if j = j then Fn a else F j a) y
      rw [e, ← ey]
      exact hx
    · rw [List.getElem?_set_ne (Ne.symm hj)] at h
      have e : (fun a => if j = i then Fn a else F j a) = F j := by funext a; exact if_neg hj
      show SlOk K G' H' _ (fun a => if j = i then Fn a else F j a) y
      rw [e]
      refine (A.sl j y h).st eG fun a fa => ?_
      obtain ⟨_, h2, _⟩ := A.fp j a fa
      cases q : H a with
      | none => exact absurd q h2
      | some o => exact eH a o q fun z => hj (A.dj j i a fa z)
  no := fun j h a z => by
    rw [List.getElem?_eq_none_iff] at h
    have hj : j ≠ i := fun q => by
      rw [q, List.length_set] at h
      omega
    rw [if_neg hj] at z
    exact A.no j (List.getElem?_eq_none_iff.mpr (by simpa using h)) a z
  fp := fun j a z => by
    by_cases hj : j = i
    · subst hj
      rw [if_pos rfl] at z
      obtain ⟨h1, h2, h3⟩ := hf a z
      refine ⟨h1, h2, ?_⟩
      rw [List.getElem?_set_self hi]
      rcases h3 with h3 | h3
      · obtain ⟨_, _, h4⟩ := A.fp j a h3
        rcases h4 with h4 | h4
        · exact .inl h4
        · exact .inr ⟨h4.1, hs h4.2⟩
      · rcases h3 with h3 | h3
        · refine .inl ?_
          cases q : H0 a with
          | none => rfl
          | some o => exact absurd h3 (A.hn a (by rw [q]; exact fun z => nomatch z))
        · exact .inl h3.1
    · rw [if_neg hj] at z
      obtain ⟨h1, h2, h3⟩ := A.fp j a z
      rw [List.getElem?_set_ne (Ne.symm hj)]
      exact ⟨(old a h2).trans h1, hn a h2, h3⟩
  dj := fun j k a y z => by
    have far : ∀ m, m ≠ i → F m a → ¬ Fn a := fun m hm fm fn => by
      obtain ⟨_, h2, _⟩ := A.fp m a fm
      rcases (hf a fn).2.2 with q | q | q
      · exact hm (A.dj m i a fm q)
      · exact h2 q
      · exact q.2.2 m fm
    by_cases hj : j = i
    · by_cases hk : k = i
      · exact hj.trans hk.symm
      · rw [if_pos hj] at y
        rw [if_neg hk] at z
        exact absurd y (far k hk z)
    · rw [if_neg hj] at y
      by_cases hk : k = i
      · rw [if_pos hk] at z
        exact absurd z (far j hj y)
      · rw [if_neg hk] at z
        exact A.dj j k a y z
  hz := fun a o h => by
    obtain ⟨h1, h2, h3⟩ := A.hz a o h
    refine ⟨eH a o h1 (h3 i), (old a (by rw [h1]; exact Option.some_ne_none _)).trans h2, fun j z => ?_⟩
    by_cases hj : j = i
    · rw [if_pos hj] at z
      rcases (hf a z).2.2 with q | q | q
      · exact h3 i q
      · rw [h1] at q
        cases q
      · have q2 := q.2.1
        rw [h] at q2
        cases q2
    · rw [if_neg hj] at z
      exact h3 j z
/-- a list of one's own is changed -/
theorem At.own_at {i : Nat} {ds : List D} (A : At K M Z G0 H0 G H σ ρ F) (h : ρ[i]? = some (.own ds)) :
    ∃ p vs, σ[i]? = some (some (.ref p)) ∧ (∀ a, F i a ↔ a = p) ∧ H p = some (.lst vs) ∧ RpL K G vs ds ∧ G p = none ∧ H0 p = none := by
  obtain ⟨p, vs, h1, h2, h3, h4⟩ := A.sl i _ h
  obtain ⟨h5, _, h6⟩ := A.fp i p ((h2 p).mpr rfl)
  refine ⟨p, vs, join_some h1, h2, h3, h4, h5, ?_⟩
  rcases h6 with h6 | ⟨_, h6⟩
  · exact h6
  · rw [h] at h6
    exact h6.elim
theorem At.own_set {i : Nat} {p : Addr} {vs : List V} {ds ds' : List D} (A : At K M Z G0 H0 G H σ ρ F) (h : ρ[i]? = some (.own ds)) (hp : σ[i]? = some (some (.ref p))) (r : RpL K G vs ds') :
    At K M Z G0 H0 G (upd H p (.lst vs)) σ (ρ.set i (.own ds')) F := by
  obtain ⟨q, ws, h1, h2, h3, h4, h5, h6⟩ := A.own_at h
  rw [hp] at h1
  cases h1
  have hi : i < ρ.length := (List.getElem?_eq_some_iff.mp h).1
  have B := A.chg (i := i) (x := .own ds') (Fn := F i) (G' := G) (H' := upd H p (.lst vs)) hi (Same.refl G) (fun a o e => by rw [upd_ne (ne_of_none e h5)]; exact A.gh a o e) (fun _ _ => rfl)
    (fun a ha => by
      by_cases e : a = p
      · subst e; rw [upd_same]; exact fun z => nomatch z
      · rw [upd_ne e]; exact ha)
    (fun a o e nf => by rw [upd_ne fun z => nf ((h2 a).mpr z)]; exact e) ⟨p, vs, by rw [hp]; rfl, h2, upd_same, r⟩ (fun z => by rw [h] at z; exact z.elim)
    (fun a fa => by
      obtain ⟨g1, g2, _⟩ := A.fp i a fa
      refine ⟨g1, ?_, .inl fa⟩
      rw [(h2 a).mp fa, upd_same]
      exact fun z => nomatch z)
  have e : (fun j a => if j = i then F i a else F j a) = F := by
    funext j a
    by_cases hj : j = i
    · rw [if_pos hj, hj]
    · exact if_neg hj
  rw [e] at B
  exact B
/-- a list of one's own is known from now on, and never changed again -/
theorem At.freeze {i : Nat} {ds : List D} (A : At K M Z G0 H0 G H σ ρ F) (h : ρ[i]? = some (.own ds)) :
    ∃ G' F' p, At K M Z G0 H0 G' H σ (ρ.set i (.val (.lst ds))) F' ∧ Same G G' ∧ σ[i]? = some (some (.ref p)) ∧ Rp K G' (.ref p) (.lst ds) := by
  obtain ⟨p, vs, h1, h2, h3, h4, h5, h6⟩ := A.own_at h
  have hi : i < ρ.length := (List.getElem?_eq_some_iff.mp h).1
  have e : Same G (upd G p (.lst vs)) := fun a u q => by rw [upd_ne (ne_of_none q h5)]; exact q
  have gs : upd G p (.lst vs) p = some (.lst vs) := upd_same
  have hr : Rp K (upd G p (.lst vs)) (.ref p) (.lst ds) := .lst gs (h4.mono e)
  have ge : Same (upd G p (.lst vs)) H := fun a u q => by
    by_cases ha : a = p
    · subst ha; rw [upd_same] at q; rw [h3]; exact q
    · rw [upd_ne ha] at q; exact A.gh a u q
  refine ⟨upd G p (.lst vs), fun j a => if j = i then False else F j a, p, ?_, e, h1, hr⟩
  refine ⟨ge, A.g0.trans e, A.h0, fun a ha => ?_, A.hn, by rw [List.length_set]; exact A.len, fun j y q => ?_, fun j q a z => ?_, fun j a z => ?_, fun j k a y z => ?_, fun a o hz => ?_⟩
  · rw [upd_ne fun z => ha (by rw [z]; exact h6)]
    exact A.fr a ha
  · by_cases hj : j = i
    · subst hj
      rw [List.getElem?_set_self hi] at q
      cases q
      exact ⟨fun a (z : if j = j then False else F j a) => by rw [if_pos rfl] at z; exact z, .ref p, by rw [h1]; rfl, hr⟩
    · rw [List.getElem?_set_ne (Ne.symm hj)] at q
      have e2 : (fun a => if j = i then False else F j a) = F j := by funext a; exact if_neg hj
      show SlOk K _ H _ (fun a => if j = i then False else F j a) y
      rw [e2]
      exact (A.sl j y q).st e fun _ _ => rfl
  · rw [List.getElem?_eq_none_iff] at q
    by_cases hj : j = i
    · rw [if_pos hj] at z
      exact z
    · rw [if_neg hj] at z
      exact A.no j (List.getElem?_eq_none_iff.mpr (by simpa using q)) a z
  · by_cases hj : j = i
    · rw [if_pos hj] at z
      exact z.elim
    · rw [if_neg hj] at z
      obtain ⟨g1, g2, g3⟩ := A.fp j a z
      rw [List.getElem?_set_ne (Ne.symm hj)]
      refine ⟨?_, g2, g3⟩
      rw [upd_ne fun w => hj (A.dj j i a z ((h2 a).mpr w))]
      exact g1
  · by_cases hj : j = i
    · rw [if_pos hj] at y
      exact y.elim
    · by_cases hk : k = i
      · rw [if_pos hk] at z
        exact z.elim
      · rw [if_neg hj] at y
        rw [if_neg hk] at z
        exact A.dj j k a y z
  · obtain ⟨q1, q2, q3⟩ := A.hz a o hz
    refine ⟨q1, ?_, fun j z => ?_⟩
    · rw [upd_ne fun w => q3 i ((h2 a).mpr w)]
      exact q2
    · by_cases hj : j = i
      · rw [if_pos hj] at z
        exact z
      · rw [if_neg hj] at z
        exact q3 j z
/-- a result that is a new list is known for good -/
theorem At.freezeR {p : V} {ds : List D} {Fn : Addr → Prop} (A : At K M Z G0 H0 G H σ ρ F) (r : ResOk K Z H0 G H F p (.own ds) Fn) : ∃ G', At K M Z G0 H0 G' H σ ρ F ∧ Same G G' ∧ Rp K G' p (.lst ds) := by
  obtain ⟨a, vs, h1, h2, h3, h4⟩ := r.ok
  cases h1
  obtain ⟨h5, h6, h7, h9, h8⟩ := r.fr a ((h2 a).mpr rfl)
  obtain ⟨B, e⟩ := A.know h3 h7 h8 h5 h9
  have gs : upd G a (.lst vs) a = some (.lst vs) := upd_same
  exact ⟨_, B, e, .lst gs (h4.mono e)⟩
end

/-! ### readings over data -/
abbrev DE := List Sl → (D → List Sl → Prop) → Prop
abbrev DR := List Sl → (Sl → List Sl → Prop) → Prop
abbrev DT := List Sl → (Bool → List Sl → Prop) → Prop
abbrev DA := List Sl → (List D → List Sl → Prop) → Prop
/-- what is wanted behind a statement -/
structure Ds where
  nx : List Sl → Prop
  rt : Sl → List Sl → Prop
  bk : List Sl → Prop := fun _ => False
  ct : List Sl → Prop := fun _ => False
abbrev DS := Ds → List Sl → Prop

def SimE (K : PySem.W.Frag) (t : TE) (d : DE) : Prop := ∀ {M : Addr → Prop} {Z G0 H0 G H : Hp} {σ : L2.St} {ρ : List Sl} {F : Nat → Addr → Prop} {Φ : D → List Sl → Prop} {Q : VK}, At K M Z G0 H0 G H σ ρ F → d ρ Φ →
  (∀ v x ρ' F' G' H', At K M Z G0 H0 G' H' σ ρ' F' → Same G G' → Rp K G' v x → Φ x ρ' → Q v H') → t σ H Q
def SimR (K : PySem.W.Frag) (t : TE) (d : DR) : Prop := ∀ {M : Addr → Prop} {Z G0 H0 G H : Hp} {σ : L2.St} {ρ : List Sl} {F : Nat → Addr → Prop} {Φ : Sl → List Sl → Prop} {Q : VK}, At K M Z G0 H0 G H σ ρ F → d ρ Φ →
  (∀ v x Fn ρ' F' G' H', At K M Z G0 H0 G' H' σ ρ' F' → Same G G' → ResOk K Z H0 G' H' F' v x Fn → Φ x ρ' → Q v H') → t σ H Q
def SimT (K : PySem.W.Frag) (t : TT) (d : DT) : Prop := ∀ {M : Addr → Prop} {Z G0 H0 G H : Hp} {σ : L2.St} {ρ : List Sl} {F : Nat → Addr → Prop} {Φ : Bool → List Sl → Prop} {Q : Bool → Hp → Prop}, At K M Z G0 H0 G H σ ρ F → d ρ Φ →
  (∀ b ρ' F' G' H', At K M Z G0 H0 G' H' σ ρ' F' → Same G G' → Φ b ρ' → Q b H') → t σ H Q
def SimA (K : PySem.W.Frag) (t : TA) (d : DA) : Prop := ∀ {M : Addr → Prop} {Z G0 H0 G H : Hp} {σ : L2.St} {ρ : List Sl} {F : Nat → Addr → Prop} {Φ : List D → List Sl → Prop} {Q : List V → Hp → Prop}, At K M Z G0 H0 G H σ ρ F → d ρ Φ →
  (∀ vs xs ρ' F' G' H', At K M Z G0 H0 G' H' σ ρ' F' → Same G G' → RpL K G' vs xs → Φ xs ρ' → Q vs H') → t σ H Q
def SimS (K : PySem.W.Frag) (t : TS) (d : DS) : Prop := ∀ {M : Addr → Prop} {Z G0 H0 G H : Hp} {σ : L2.St} {ρ : List Sl} {F : Nat → Addr → Prop} {Δ : Ds} {Q : Ends}, At K M Z G0 H0 G H σ ρ F → d Δ ρ →
  (∀ σ' ρ' F' G' H', At K M Z G0 H0 G' H' σ' ρ' F' → Same G G' → Δ.nx ρ' → Q.nx σ' H') →
  (∀ v x Fn σ' ρ' F' G' H', At K M Z G0 H0 G' H' σ' ρ' F' → Same G G' → ResOk K Z H0 G' H' (fun j a => Sl.isArg (ρ'[j]?) ∧ F' j a) v x Fn → Δ.rt x ρ' → Q.rt v H') →
  (∀ σ' ρ' F' G' H', At K M Z G0 H0 G' H' σ' ρ' F' → Same G G' → Δ.bk ρ' → Q.bk σ' H') →
  (∀ σ' ρ' F' G' H', At K M Z G0 H0 G' H' σ' ρ' F' → Same G G' → Δ.ct ρ' → Q.ct σ' H') → t Q σ H

structure PD (X : Cx) (e : Expr) (t : TE) (d : DE) : Prop where
  pe : PE X e t
  sim : SimE X.K t d
structure PR (X : Cx) (e : Expr) (t : TE) (d : DR) : Prop where
  pe : PE X e t
  sim : SimR X.K t d
structure PDT (X : Cx) (e : Expr) (t : TT) (d : DT) : Prop where
  pe : PT X e t
  sim : SimT X.K t d
structure PDA (X : Cx) (es : List Expr) (t : TA) (d : DA) : Prop where
  pe : PA X es t
  sim : SimA X.K t d
structure PDS (X : Cx) (st : Stmt) (t : TS) (d : DS) : Prop where
  pe : PS X st t
  sim : SimS X.K t d
structure PDSs (X : Cx) (sts : List Stmt) (t : TS) (d : DS) : Prop where
  pe : PSs X sts t
  sim : SimS X.K t d

def dR (d : DE) : DR := fun ρ Φ => d ρ fun x ρ' => Φ (.val x) ρ'
theorem PD.r {X : Cx} {e : Expr} {t : TE} {d : DE} (h : PD X e t d) : PR X e t (dR d) := ⟨h.pe, fun {M Z G0 H0 G H σ ρ F Φ Q} A hd k => h.sim A hd fun v x ρ' F' G' H' A' eG r q => k v (.val x) _ ρ' F' G' H' A' eG (.val r) q⟩
end DL
set_option Elab.async false
set_option linter.all false
set_option maxRecDepth 100000
set_option maxHeartbeats 2000000
namespace DL
open PySem PySem.Spec PyProof.Rows L2

section
variable {K : PySem.W.Frag} {M : Addr → Prop} {Z G0 H0 G H : Hp} {σ : L2.St} {ρ : List Sl} {F : Nat → Addr → Prop}
theorem At.tup_new {p : Addr} {vs : List V} {ds : List D} (A : At K M Z G0 H0 G H σ ρ F) (n : H p = none) (r : RpL K G vs ds) :
    ∃ G', At K M Z G0 H0 G' (upd H p (.tup vs)) σ ρ F ∧ Same G G' ∧ Rp K G' (.ref p) (.tup ds) := by
  obtain ⟨B, e⟩ := A.new (o := .tup vs) n
  have gs : upd G p (.tup vs) p = some (.tup vs) := upd_same
  exact ⟨_, B, e, .tup (SqT.of gs) (r.mono e)⟩
theorem At.lst_new {p : Addr} {vs : List V} {ds : List D} (A : At K M Z G0 H0 G H σ ρ F) (n : H p = none) (r : RpL K G vs ds) :
    At K M Z G0 H0 G (upd H p (.lst vs)) σ ρ F ∧ ResOk K Z H0 G (upd H p (.lst vs)) F (.ref p) (.own ds) (fun a => a = p) := by
  have hs : upd H p (.lst vs) p = some (.lst vs) := upd_same
  refine ⟨A.newH n, ⟨⟨p, vs, rfl, fun a => Iff.rfl, hs, r⟩, fun z => z, fun a e => ?_⟩⟩
  subst e
  have zn : Z a = none := by
    cases q : Z a with
    | none => rfl
    | some o =>
      have := (A.hz a o q).1
      rw [n] at this
      cases this
  refine ⟨A.gh.free n, by rw [hs]; exact (Option.some_ne_none _), ?_, zn, fun j z => (A.fp j _ z).2.1 n⟩
  cases q : H0 a with
  | none => rfl
  | some o => exact absurd n (A.hn a (by rw [q]; exact fun z => nomatch z))
theorem At.res {v : V} {x : Sl} {Fn : Addr → Prop} {G' H' : Hp} {σ' : L2.St} {ρ' : List Sl} {F' : Nat → Addr → Prop} (r : ResOk K Z H0 G H F v x Fn) (eG : Same G G') (eH : Same H H') (old : ∀ a, H a ≠ none → G' a = G a)
    (hF : ∀ a, Fn a → ∀ j, ¬ F' j a) : ResOk K Z H0 G' H' F' v x Fn := ⟨r.ok.st eG fun a fa => by
    obtain ⟨_, h2, _⟩ := r.fr a fa
    cases q : H a with
    | none => exact absurd q h2
    | some o => exact eH a o q, r.na, fun a fa => by
    obtain ⟨h1, h2, h3, h4, _⟩ := r.fr a fa
    refine ⟨(old a h2).trans h1, ?_, h3, h4, hF a fa⟩
    cases q : H a with
    | none => exact absurd q h2
    | some o => rw [eH a o q]; exact fun z => nomatch z⟩
end

/-! ### a tree is known for good -/
mutual
def OT.toD : OT → Option D
  | .val d => some d
  | .lst _ xs => match OT.toDs xs with
    | some ds => some (.lst ds)
    | none => none
  | .tup _ xs => match OT.toDs xs with
    | some ds => some (.tup ds)
    | none => none
  | .ins _ _ _ _ => none
  | .dic _ kvs => some (.dic kvs)
def OT.toDs : List OT → Option (List D)
  | [] => some []
  | t :: r => match t.toD, OT.toDs r with
    | some d, some ds => some (d :: ds)
    | _, _ => none
end
open Classical in
noncomputable def knowA (G H : Hp) (A : List Addr) : Hp := fun a => if a ∈ A then H a else G a
section
variable {K : PySem.W.Frag} {G H G' : Hp}
mutual
theorem Own.rp : ∀ {t : OT} {v : V} {A : List Addr} {d : D}, Own K G H v t A → t.toD = some d → Same G G' → (∀ a ∈ A, G' a = H a) → Rp K G' v d
  | .val x, _, _, d, .val r, e, g, _ => by
    cases e
    exact r.mono g
  | .lst p xs, _, _, d, .lst h r, e, g, k => by
    unfold OT.toD at e
    split at e
    · rename_i ds e1
      cases e
      exact .lst ((k _ List.mem_cons_self).trans h) (OwnL.rp r e1 g fun a ha => k a (List.mem_cons_of_mem _ ha))
    · cases e
  | .tup p xs, _, _, d, .tup h r, e, g, k => by
    unfold OT.toD at e
    split at e
    · rename_i ds e1
      cases e
      exact .tup (SqT.of (g _ _ h)) (OwnL.rp r e1 g k)
    · cases e
  | .ins _ _ _ _, _, _, d, _, e, _, _ => by cases e
  | .dic p kvs, _, _, d, .dic h r, e, g, k => by
    cases e
    exact .dic (.inl ((k _ List.mem_cons_self).trans h)) (r.mono g)
theorem OwnL.rp : ∀ {ts : List OT} {vs : List V} {A : List Addr} {ds : List D}, OwnL K G H vs ts A → OT.toDs ts = some ds → Same G G' → (∀ a ∈ A, G' a = H a) → RpL K G' vs ds
  | [], _, _, ds, .nil, e, _, _ => by
    cases e
    exact .nil
  | t :: r, _, _, ds, .cons h q, e, g, k => by
    unfold OT.toDs at e
    split at e
    · rename_i d es e1 e2
      cases e
      exact .cons (Own.rp h e1 g fun a ha => k a (List.mem_append_left _ ha)) (OwnL.rp q e2 g fun a ha => k a (List.mem_append_right _ ha))
    · cases e
end
end
section
variable {K : PySem.W.Frag} {M : Addr → Prop} {Z G0 H0 G H : Hp} {σ : L2.St} {ρ : List Sl} {F : Nat → Addr → Prop}
/-- addresses that nobody else owns become known -/
theorem At.knowS {B : List Addr} (A : At K M Z G0 H0 G H σ ρ F) (hG : ∀ a ∈ B, G a = none) (h0 : ∀ a ∈ B, H0 a = none) (hz : ∀ a ∈ B, Z a = none) (hF : ∀ a ∈ B, ∀ i, ¬ F i a) : At K M Z G0 H0 (knowA G H B) H σ ρ F ∧ Same G (knowA G H B) := by
  have e : Same G (knowA G H B) := fun a u q => by
    unfold knowA
    by_cases h : a ∈ B
    · rw [hG a h] at q; cases q
    · rw [if_neg h]; exact q
  refine ⟨⟨fun a u q => ?_, A.g0.trans e, A.h0, fun a ha => ?_, A.hn, A.len, fun i x hx => (A.sl i x hx).st e fun _ _ => rfl, A.no, fun i a fa => ?_, A.dj, fun a u q => ?_⟩, e⟩
  · unfold knowA at q
    split at q
    · exact q
    · exact A.gh a u q
  · unfold knowA
    rw [if_neg fun z => ha (h0 a z)]
    exact A.fr a ha
  · obtain ⟨h1, h2, h3⟩ := A.fp i a fa
    refine ⟨?_, h2, h3⟩
    unfold knowA
    rw [if_neg fun z => hF a z i fa]
    exact h1
  · obtain ⟨h1, h2, h3⟩ := A.hz a u q
    refine ⟨h1, ?_, h3⟩
    unfold knowA
    rw [if_neg fun z => by rw [hz a z] at q; cases q]
    exact h2
theorem At.freezeT {i : Nat} {t : OT} {d : D} (A : At K M Z G0 H0 G H σ ρ F) (h : ρ[i]? = some (.loc t)) (hd : t.toD = some d) :
    ∃ G' F' v, At K M Z G0 H0 G' H σ (ρ.set i (.val d)) F' ∧ Same G G' ∧ σ[i]? = some (some v) ∧ Rp K G' v d := by
  obtain ⟨v, e1, n, B, o, nd, hB⟩ := A.sl i _ h
  have hi : i < ρ.length := (List.getElem?_eq_some_iff.mp h).1
  have fp : ∀ a ∈ B, G a = none ∧ H a ≠ none ∧ H0 a = none := fun a ha => by
    obtain ⟨h1, h2, h3⟩ := A.fp i a ((hB a).mpr ha)
    refine ⟨h1, h2, ?_⟩
    rcases h3 with h3 | h3
    · exact h3
    · rw [h] at h3
      exact h3.2.elim
  have zB : ∀ a ∈ B, Z a = none := fun a ha => by
    cases q : Z a with
    | none => rfl
    | some u => exact absurd ((hB a).mpr ha) ((A.hz a u q).2.2 i)
  have e : Same G (knowA G H B) := fun a u q => by
    unfold knowA
    by_cases c : a ∈ B
    · rw [(fp a c).1] at q; cases q
    · rw [if_neg c]; exact q
  have hr : Rp K (knowA G H B) v d := o.rp hd e fun a ha => by
    unfold knowA
    rw [if_pos ha]
  -- first the slot is let go
  have A1 : At K M Z G0 H0 G H σ (ρ.set i .un) (fun j a => if j = i then False else F j a) := by
    refine ⟨A.gh, A.g0, A.h0, A.fr, A.hn, by rw [List.length_set]; exact A.len, fun j y q => ?_, fun j q a z => ?_, fun j a z => ?_, fun j k a y z => ?_, fun a u q => ?_⟩
    · by_cases hj : j = i
      · subst hj
        rw [List.getElem?_set_self hi] at q
        cases q
        exact fun a (z : if j = j then False else F j a) => by rw [if_pos rfl] at z; exact z
      · rw [List.getElem?_set_ne (Ne.symm hj)] at q
        have e2 : (fun a => if j = i then False else F j a) = F j := by funext a; exact if_neg hj
        show SlOk K G H _ (fun a => if j = i then False else F j a) y
        rw [e2]
        exact A.sl j y q
    · rw [List.getElem?_eq_none_iff] at q
      by_cases hj : j = i
      · rw [if_pos hj] at z; exact z
      · rw [if_neg hj] at z
        exact A.no j (List.getElem?_eq_none_iff.mpr (by simpa using q)) a z
    · by_cases hj : j = i
      · rw [if_pos hj] at z; exact z.elim
      · rw [if_neg hj] at z
        rw [List.getElem?_set_ne (Ne.symm hj)]
        exact A.fp j a z
    · by_cases hj : j = i
      · rw [if_pos hj] at y; exact y.elim
      · by_cases hk : k = i
        · rw [if_pos hk] at z; exact z.elim
        · rw [if_neg hj] at y
          rw [if_neg hk] at z
          exact A.dj j k a y z
    · obtain ⟨h1, h2, h3⟩ := A.hz a u q
      refine ⟨h1, h2, fun j z => ?_⟩
      by_cases hj : j = i
      · rw [if_pos hj] at z; exact z
      · rw [if_neg hj] at z; exact h3 j z
  obtain ⟨A2, _⟩ := A1.knowS (B := B) (fun a ha => (fp a ha).1) (fun a ha => (fp a ha).2.2) zB fun a ha j z => by
    by_cases hj : j = i
    · rw [if_pos hj] at z; exact z
    · rw [if_neg hj] at z; exact hj (A.dj j i a z ((hB a).mpr ha))
  have A3 := A2.set (i := i) (x := .val d) (v := v) (.val hr) (by rw [List.length_set]; exact hi) (by rw [List.getElem?_set_self hi]; exact fun z => z)
  have es : σ.set i (some v) = σ := by
    apply List.ext_getElem?
    intro j
    by_cases hj : i = j
    · subst hj
      rw [List.getElem?_set_self (by rw [A.len]; exact hi), join_some e1]
    · rw [List.getElem?_set_ne hj]
  rw [es, List.set_set] at A3
  exact ⟨_, _, v, A3, e, join_some e1, hr⟩
end

/-- a result as data: a list of one's own is known from now on -/
def asD (Φ : D → List Sl → Prop) : Sl → List Sl → Prop
  | .val d, ρ => Φ d ρ
  | .own ds, ρ => Φ (.lst ds) ρ
  | .loc t, ρ => match t.toD with
    | some d => Φ d ρ
    | none => False
  | _, _ => False
def dV (d : DR) : DE := fun ρ Φ => d ρ (asD Φ)
theorem sim_dv {K : PySem.W.Frag} {t : TE} {d : DR} (h : SimR K t d) : SimE K t (dV d) := fun {M Z G0 H0 G H σ ρ F Φ Q} A hd k => h A hd fun v x Fn ρ' F' G' H' A' eG r q => by
  cases x with
  | un => exact q.elim
  | val d =>
    obtain ⟨_, w, e1, hr⟩ := r.ok
    cases e1
    exact k v d ρ' F' G' H' A' eG hr q
  | own ds =>
    obtain ⟨G2, A2, e2, hr⟩ := A'.freezeR r
    exact k v (.lst ds) ρ' F' G2 H' A2 (eG.trans e2) hr q
  | loc t =>
    change (match t.toD with | some d => Φ d ρ' | none => False) at q
    split at q
    · rename_i d ed
      obtain ⟨w, e1, n, B, o, nd, hB⟩ := r.ok
      cases e1
      have fr : ∀ a ∈ B, G' a = none ∧ H' a ≠ none ∧ H0 a = none ∧ Z a = none ∧ ∀ j, ¬ F' j a := fun a ha => r.fr a ((hB a).mpr ha)
      obtain ⟨A2, e2⟩ := A'.knowS (B := B) (fun a ha => (fr a ha).1) (fun a ha => (fr a ha).2.2.1) (fun a ha => (fr a ha).2.2.2.1) fun a ha => (fr a ha).2.2.2.2
      exact k v d ρ' F' _ H' A2 (eG.trans e2) (o.rp ed e2 fun a ha => by
        unfold knowA
        rw [if_pos ha]) q
    · exact q.elim
  | arg S => exact q.elim
theorem PR.v {X : Cx} {e : Expr} {t : TE} {d : DR} (h : PR X e t d) : PD X e t (dV d) := ⟨h.pe, sim_dv h.sim⟩

/-! ### constants, names -/
def dC (x : D) : DE := fun ρ Φ => Φ x ρ
def dVar (i : Nat) : DE := fun ρ Φ => match ρ[i]? with
  | some (.val d) => Φ d ρ
  | some (.own ds) => Φ (.lst ds) (ρ.set i (.val (.lst ds)))
  | some (.loc t) => match t.toD with
    | some d => Φ d (ρ.set i (.val d))
    | none => False
  | _ => False
section
variable {K : PySem.W.Frag}
theorem sim_c {v : V} {x : D} (r : ∀ G : Hp, Rp K G v x) : SimE K (tC v) (dC x) := fun {M Z G0 H0 G H σ ρ F Φ Q} A hd k => k v x ρ F G H A (Same.refl G) (r G) hd
theorem sim_var {i : Nat} : SimE K (tVar i) (dVar i) := by
  intro M Z G0 H0 G H σ ρ F Φ Q A hd k
  unfold dVar at hd
  split at hd
  · rename_i d e
    obtain ⟨v, e1, r⟩ := A.val e
    exact ⟨v, e1, k v d ρ F G H A (Same.refl G) r hd⟩
  · rename_i ds e
    obtain ⟨G', F', p, A', eG, e1, r⟩ := A.freeze e
    exact ⟨.ref p, e1, k _ _ _ F' G' H A' eG r hd⟩
  · rename_i t e
    split at hd
    · rename_i d ed
      obtain ⟨G', F', v, A', eG, e1, r⟩ := A.freezeT e ed
      exact ⟨v, e1, k _ _ _ F' G' H A' eG r hd⟩
    · exact hd.elim
  · exact hd.elim
end
section
variable {X : Cx}
theorem pd_int {i j pos} : PD X (.Constant (.int i) j pos) (tC (.int i)) (dC (.int i)) := ⟨pe_int, sim_c fun _ => .int i⟩
theorem pd_bl {b j pos} : PD X (.Constant (.bool b) j pos) (tC (.bl b)) (dC (.bl b)) := ⟨pe_bl, sim_c fun _ => .bl b⟩
theorem pd_non {j pos} : PD X (.Constant .none j pos) (tC .non) (dC .non) := ⟨pe_non, sim_c fun _ => .non⟩
theorem pd_str {x j pos} : PD X (.Constant (.str x) j pos) (tC (.str x)) (dC (.str x)) := ⟨pe_str, sim_c fun _ => .str x⟩
theorem pd_var (i : Nat) {x : Str} {pos : Pos} (hN : X.N[i]? = some x := by rfl) (hv : Vis X.env.scope x := by first | exact Or.inl rfl | exact Or.inr (Or.inl rfl) | exact Or.inr (Or.inr rfl)) (hd : (x == ("__debug__" : Str)) = false := by decide)
    (hcd : (x == ("__classdict__" : Str)) = false := by decide) : PD X (.Name x pos) (tVar i) (dVar i) := ⟨pe_var hN hv hd hcd, sim_var⟩
/-- a module's name -/
theorem pd_glob {x : Str} {v : V} {u : Value} {d : D} {pos : Pos} (hm : X.mg x = some u) (r : RelV v u) (hr : ∀ G : Hp, Rp X.K G v d) (hg : Gl X x := by rfl) (hd : (x == ("__debug__" : Str)) = false := by decide) : PD X (.Name x pos) (tC v) (dC d) := ⟨pe_glob hg hm r hd, sim_c hr⟩
end

/-! ### arguments -/
def dNil : DA := fun ρ Φ => Φ [] ρ
def dCons (d : DE) (da : DA) : DA := fun ρ Φ => d ρ fun x ρ1 => da ρ1 fun xs ρ2 => Φ (x :: xs) ρ2
theorem sim_nil {K : PySem.W.Frag} : SimA K tNil dNil := fun {M Z G0 H0 G H σ ρ F Φ Q} A hd k => k [] [] ρ F G H A (Same.refl G) .nil hd
theorem sim_cons {K : PySem.W.Frag} {t : TE} {ta : TA} {d : DE} {da : DA} (h : SimE K t d) (ha : SimA K ta da) : SimA K (tCons t ta) (dCons d da) := fun {M Z G0 H0 G H σ ρ F Φ Q} A hd k =>
  h A hd fun v x ρ1 F1 G1 H1 A1 e1 r1 q1 => ha A1 q1 fun vs xs ρ2 F2 G2 H2 A2 e2 r2 q2 => k _ _ ρ2 F2 G2 H2 A2 (e1.trans e2) (.cons (r1.mono e2) r2) q2
section
variable {X : Cx}
theorem pda_nil : PDA X [] tNil dNil := ⟨pa_nil, sim_nil⟩
theorem pda_cons {e : Expr} {es : List Expr} {t : TE} {ta : TA} {d : DE} {da : DA} (h : PD X e t d) (ha : PDA X es ta da) (hs : starEach (e :: es) X.env = (false, eval e X.env) :: starEach es X.env := by rfl) : PDA X (e :: es) (tCons t ta) (dCons d da) :=
  ⟨pa_cons h.pe ha.pe hs, sim_cons h.sim ha.sim⟩
end

/-! ### displays -/
def dTup (da : DA) : DE := fun ρ Φ => da ρ fun xs ρ1 => xs.length ≤ 1000000 ∧ Φ (.tup xs) ρ1
def dLst (da : DA) : DR := fun ρ Φ => da ρ fun xs ρ1 => xs.length ≤ 1000000 ∧ Φ (.own xs) ρ1
theorem line_le {n : Nat} (h : n ≤ 1000000) : n ≤ sizeLine := by
  rw [sizeLine_eq]
  omega
theorem line_lt {n : Nat} (h : n ≤ 1000000) : n < sizeLine := by
  rw [sizeLine_eq]
  omega
section
variable {X : Cx}
theorem pd_tup {es : List Expr} {x1 pos} {ta : TA} {da : DA} (h : PDA X es ta da) : PD X (.Tuple es x1 pos) (tTup ta) (dTup da) := ⟨pe_tup h.pe, fun {M Z G0 H0 G H σ ρ F Φ Q} A hd k =>
  h.sim A hd fun vs xs ρ1 F1 G1 H1 A1 e1 r1 q1 => ⟨line_le (by rw [r1.length]; exact q1.1), fun p hp => by
    obtain ⟨G2, A2, e2, r2⟩ := A1.tup_new hp r1
    exact k _ _ ρ1 F1 G2 _ A2 (e1.trans e2) r2 q1.2⟩⟩
theorem pr_lst {es : List Expr} {pos} {ta : TA} {da : DA} (h : PDA X es ta da) : PR X (.List es pos) (tLst ta) (dLst da) := ⟨pe_lst h.pe, fun {M Z G0 H0 G H σ ρ F Φ Q} A hd k =>
  h.sim A hd fun vs xs ρ1 F1 G1 H1 A1 e1 r1 q1 => ⟨line_le (by rw [r1.length]; exact q1.1), fun p hp => by
    obtain ⟨A2, r2⟩ := A1.lst_new hp r1
    exact k _ _ _ ρ1 F1 G1 _ A2 e1 r2 q1.2⟩⟩
end

/-! ### operators by values -/
/-- a rule of two values gives data -/
def SimV2 (K : PySem.W.Frag) (r : R2) (f : D → D → (D → Prop) → Prop) : Prop := ∀ {M : Addr → Prop} {Z G0 H0 G H : Hp} {σ : L2.St} {ρ : List Sl} {F : Nat → Addr → Prop} {v w : V} {x y : D} {Φ : D → Prop} {Q : VK}, At K M Z G0 H0 G H σ ρ F → Rp K G v x → Rp K G w y → f x y Φ →
  (∀ u z G' H', At K M Z G0 H0 G' H' σ ρ F → Same G G' → Rp K G' u z → Φ z → Q u H') → r v w H Q
/-- .. or a new list -/
def SimR2 (K : PySem.W.Frag) (r : R2) (f : D → D → (Sl → Prop) → Prop) : Prop := ∀ {M : Addr → Prop} {Z G0 H0 G H : Hp} {σ : L2.St} {ρ : List Sl} {F : Nat → Addr → Prop} {v w : V} {x y : D} {Φ : Sl → Prop} {Q : VK}, At K M Z G0 H0 G H σ ρ F → Rp K G v x → Rp K G w y → f x y Φ →
  (∀ u z Fn G' H', At K M Z G0 H0 G' H' σ ρ F → Same G G' → ResOk K Z H0 G' H' F u z Fn → Φ z → Q u H') → r v w H Q
def dOp (f : D → D → (D → Prop) → Prop) (da db : DE) : DE := fun ρ Φ => da ρ fun x ρ1 => db ρ1 fun y ρ2 => f x y fun z => Φ z ρ2
def dOpR (f : D → D → (Sl → Prop) → Prop) (da db : DE) : DR := fun ρ Φ => da ρ fun x ρ1 => db ρ1 fun y ρ2 => f x y fun z => Φ z ρ2
theorem sim_op {K : PySem.W.Frag} {r : R2} {f : D → D → (D → Prop) → Prop} {ta tb : TE} {da db : DE} (hr : SimV2 K r f) (ha : SimE K ta da) (hb : SimE K tb db) : SimE K (tOp r ta tb) (dOp f da db) := fun {M Z G0 H0 G H σ ρ F Φ Q} A hd k =>
  ha A hd fun v x ρ1 F1 G1 H1 A1 e1 r1 q1 => hb A1 q1 fun w y ρ2 F2 G2 H2 A2 e2 r2 q2 => hr A2 (r1.mono e2) r2 q2 fun u z G3 H3 A3 e3 r3 q3 => k u z ρ2 F2 G3 H3 A3 (e1.trans (e2.trans e3)) r3 q3
theorem sim_opR {K : PySem.W.Frag} {r : R2} {f : D → D → (Sl → Prop) → Prop} {ta tb : TE} {da db : DE} (hr : SimR2 K r f) (ha : SimE K ta da) (hb : SimE K tb db) : SimR K (tOp r ta tb) (dOpR f da db) := fun {M Z G0 H0 G H σ ρ F Φ Q} A hd k =>
  ha A hd fun v x ρ1 F1 G1 H1 A1 e1 r1 q1 => hb A1 q1 fun w y ρ2 F2 G2 H2 A2 e2 r2 q2 => hr A2 (r1.mono e2) r2 q2 fun u z Fn G3 H3 A3 e3 r3 q3 => k u z Fn ρ2 F2 G3 H3 A3 (e1.trans (e2.trans e3)) r3 q3

/-- + : ints, texts, tuples, lists -/
def addD : D → D → (Sl → Prop) → Prop
  | .int i, .int j, Φ => Φ (.val (.int (i + j)))
  | .str a, .str b, Φ => a.length + b.length ≤ 1000000 ∧ Φ (.val (.str (a ++ b)))
  | .tup xs, .tup ys, Φ => xs.length + ys.length ≤ 1000000 ∧ Φ (.val (.tup (xs ++ ys)))
  | .lst xs, .lst ys, Φ => xs.length + ys.length ≤ 1000000 ∧ Φ (.own (xs ++ ys))
  | _, _, _ => False
def rAddA (K : PySem.W.Frag) : R2 := fun x y H Q => rI0 (fun i j => .int (i + j)) x y H Q ∨ (∃ i j, x = .str i ∧ y = .str j ∧ i.length + j.length ≤ sizeLine ∧ Q (.str (i ++ j)) H) ∨ rCatA K x y H Q ∨
  rCat x y H Q
theorem rpl_nil {K : PySem.W.Frag} {G : Hp} {vs : List V} {ds : List D} (r : RpL K G vs ds) : vs = [] ↔ ds = [] := by
  cases r with
  | nil => simp
  | cons _ _ => simp
theorem sim_add {K : PySem.W.Frag} : SimR2 K (rAddA K) addD := by
  intro M Z G0 H0 G H σ ρ F v w x y Φ Q A rx ry hf k
  cases rx with
  | int i =>
    cases ry with
    | int j => exact .inl ⟨i, j, rfl, rfl, k _ _ _ G H A (Same.refl G) (.val (.int _)) hf⟩
    | _ => exact hf.elim
  | str a =>
    cases ry with
    | str b => exact .inr (.inl ⟨a, b, rfl, rfl, line_le hf.1, k _ _ _ G H A (Same.refl G) (.val (.str _)) hf.2⟩)
    | _ => exact hf.elim
  | tup hx px =>
    cases ry with
    | tup hy py =>
      rename_i a xs ds b ys es
      refine .inr (.inr (.inl ⟨a, b, xs, ys, rfl, rfl, same_t A.gh hx, same_t A.gh hy, line_le (by rw [px.length, py.length]; exact hf.1), fun e => ?_, fun _ e => ?_, fun _ _ p hp => ?_⟩))
      · have e2 := (rpl_nil px).mp e
        subst e e2
        exact k _ _ _ G H A (Same.refl G) (.val (.tup hy py)) hf.2
      · have e2 := (rpl_nil py).mp e
        subst e e2
        have q := hf.2
        rw [List.append_nil] at q
        exact k _ _ _ G H A (Same.refl G) (.val (.tup hx px)) q
      · obtain ⟨G2, A2, e2, r2⟩ := A.tup_new hp (px.append py)
        exact k _ _ _ G2 _ A2 e2 (.val r2) hf.2
    | _ => exact hf.elim
  | lst hx px =>
    cases ry with
    | lst hy py =>
      rename_i a xs ds b ys es
      refine .inr (.inr (.inr ⟨a, b, xs, ys, rfl, rfl, A.gh _ _ hx, A.gh _ _ hy, line_le (by rw [px.length, py.length]; exact hf.1), fun p hp => ?_⟩))
      obtain ⟨A2, r2⟩ := A.lst_new hp (px.append py)
      exact k _ _ _ G _ A2 (Same.refl G) r2 hf.2
    | _ => exact hf.elim
  | _ => exact hf.elim
section
variable {X : Cx}
theorem op_addA : OpR X (binaryOp .Add) (rAddA X.K) := OpR.or op_add (OpR.or op_add_str (OpR.or op_catA op_cat))
end
end DL
set_option Elab.async false
set_option linter.all false
set_option maxRecDepth 100000
set_option maxHeartbeats 2000000
namespace DL
open PySem PySem.Spec PyProof.Rows L2

/-! ### data compared -/
mutual
def D.py : D → PyData
  | .non => .none
  | .bl b => .bool b
  | .int i => .int i
  | .str s => .str s
  | .tup xs => .tuple (D.pyL xs)
  | .lst xs => .list (D.pyL xs)
  | .dic _ => .none
  | .ins _ _ => .none
  | .rd xs => .list (D.pyL xs)
  | .ty _ => .none
  | .cls _ => .none
  | .exc _ _ _ _ _ => .none
def D.pyL : List D → List PyData
  | [] => []
  | x :: xs => x.py :: D.pyL xs
end

mutual
def D.okN : D → Nat → Bool
  | .non, _ => true
  | .bl _, _ => true
  | .int _, _ => true
  | .str s, _ => PyData.strOk s
  | .tup xs, n => match n with
    | 0 => false
    | n + 1 => D.okL xs n
  | .lst xs, n => match n with
    | 0 => false
    | n + 1 => D.okL xs n
  | .dic _, _ => false
  | .ins _ _, _ => false
  | .rd xs, n => match n with
    | 0 => false
    | n + 1 => D.okL xs n
  | .ty _, _ => false
  | .cls _, _ => false
  | .exc _ _ _ _ _, _ => false
def D.okL : List D → Nat → Bool
  | [], _ => true
  | x :: xs, n => x.okN n && D.okL xs n
end
mutual
theorem D.okN_depth : ∀ (d : D) (n : Nat), d.okN n = true → d.py.canLay0 = true ∧ d.py.depth ≤ n
  | .non, n, _ => ⟨rfl, Nat.zero_le _⟩
  | .bl _, n, _ => ⟨rfl, Nat.zero_le _⟩
  | .int _, n, _ => ⟨rfl, Nat.zero_le _⟩
  | .str s, n, h => ⟨h, Nat.zero_le _⟩
  | .tup xs, 0, h => by simp [D.okN] at h
  | .tup xs, n + 1, h => by
    have q := D.okL_depth xs n (by simpa [D.okN] using h)
    exact ⟨by simpa [D.py, PyData.canLay0] using q.1, by simp only [D.py, PyData.depth]; omega⟩
  | .lst xs, 0, h => by simp [D.okN] at h
  | .lst xs, n + 1, h => by
    have q := D.okL_depth xs n (by simpa [D.okN] using h)
    exact ⟨by simpa [D.py, PyData.canLay0] using q.1, by simp only [D.py, PyData.depth]; omega⟩
  | .rd xs, 0, h => by simp [D.okN] at h
  | .rd xs, n + 1, h => by
    have q := D.okL_depth xs n (by simpa [D.okN] using h)
    exact ⟨by simpa [D.py, PyData.canLay0] using q.1, by simp only [D.py, PyData.depth]; omega⟩
  | .dic _, _, h => by simp [D.okN] at h
  | .ins _ _, _, h => by simp [D.okN] at h
  | .ty _, _, h => by simp [D.okN] at h
  | .cls _, _, h => by simp [D.okN] at h
  | .exc _ _ _ _ _, _, h => by simp [D.okN] at h
theorem D.okL_depth : ∀ (ds : List D) (n : Nat), D.okL ds n = true → PyData.canLayAll0 (D.pyL ds) = true ∧ PyData.depthAll (D.pyL ds) ≤ n
  | [], n, _ => ⟨rfl, Nat.zero_le _⟩
  | x :: xs, n, h => by
    simp only [D.okL, Bool.and_eq_true] at h
    have q1 := D.okN_depth x n h.1
    have q2 := D.okL_depth xs n h.2
    refine ⟨by simp [D.pyL, PyData.canLayAll0, q1.1, q2.1], ?_⟩
    simp only [D.pyL, PyData.depthAll]
    omega
end
theorem D.shaped {d : D} (h : d.okN 60 = true) : SeqAt.shaped d.py = true := by
  have q := D.okN_depth d 60 h
  unfold SeqAt.shaped
  rw [q.1, decide_eq_true (by omega)]
  rfl
mutual
theorem Rp.dp {K : PySem.W.Frag} {G H : Hp} (e : Same G H) : ∀ {d : D} {v : V} {n : Nat}, Rp K G v d → d.okN n = true → Dp K H v d.py
  | .non, _, _, .non, _ => .non
  | .bl b, _, _, .bl _, _ => .bl b
  | .int i, _, _, .int _, _ => .int i
  | .str s, _, _, .str _, _ => .str s
  | .tup xs, _, 0, _, h => by simp [D.okN] at h
  | .tup xs, _, n + 1, .tup h r, o => .tup (same_t e h) (RpL.dp e (n := n) r (by simpa [D.okN] using o))
  | .lst xs, _, 0, _, h => by simp [D.okN] at h
  | .lst xs, _, n + 1, .lst h r, o => .lst (SqL.of (e _ _ h)) (RpL.dp e (n := n) r (by simpa [D.okN] using o))
  | .rd xs, _, 0, _, h => by simp [D.okN] at h
  | .rd xs, _, n + 1, .rd h r, o => .lst (same_l e h) (RpL.dp e (n := n) r (by simpa [D.okN] using o))
  | .dic _, _, _, _, h => by simp [D.okN] at h
  | .ins _ _, _, _, _, h => by simp [D.okN] at h
  | .ty _, _, _, _, h => by simp [D.okN] at h
  | .cls _, _, _, _, h => by simp [D.okN] at h
  | .exc _ _ _ _ _, _, _, _, h => by simp [D.okN] at h
theorem RpL.dp {K : PySem.W.Frag} {G H : Hp} (e : Same G H) : ∀ {ds : List D} {vs : List V} {n : Nat}, RpL K G vs ds → D.okL ds n = true → DpAll K H vs (D.pyL ds)
  | [], _, _, .nil, _ => .nil
  | x :: xs, _, n, .cons h r, o => by
    simp only [D.okL, Bool.and_eq_true] at o
    exact .cons (Rp.dp e (n := n) h o.1) (RpL.dp e (n := n) r o.2)
end
/-- equal as Python says -/
def D.eqv (x y : D) : Bool := PyData.eqv x.py y.py

def eqD (x y : D) (Φ : D → Prop) : Prop := x.okN 60 = true ∧ y.okN 60 = true ∧ Φ (.bl (D.eqv x y))
def neD (x y : D) (Φ : D → Prop) : Prop := x.okN 60 = true ∧ y.okN 60 = true ∧ Φ (.bl (!D.eqv x y))
section
variable {K : PySem.W.Frag}
theorem sim_eq : SimV2 K (rEqD K) eqD := fun {M Z G0 H0 G H σ ρ F v w x y Φ Q} A rx ry hf k =>
  ⟨_, _, rx.dp A.gh hf.1, ry.dp A.gh hf.2.1, D.shaped hf.1, D.shaped hf.2.1, k _ _ G H A (Same.refl G) (.bl _) hf.2.2⟩
theorem sim_ne : SimV2 K (rNeD K) neD := fun {M Z G0 H0 G H σ ρ F v w x y Φ Q} A rx ry hf k =>
  ⟨_, _, rx.dp A.gh hf.1, ry.dp A.gh hf.2.1, D.shaped hf.1, D.shaped hf.2.1, k _ _ G H A (Same.refl G) (.bl _) hf.2.2⟩
/-- ints alone -/
def ii (g : Int → Int → D) : D → D → (D → Prop) → Prop
  | .int i, .int j, Φ => Φ (g i j)
  | _, _, _ => False
def iiC (C : Int → Int → Prop) (g : Int → Int → D) : D → D → (D → Prop) → Prop
  | .int i, .int j, Φ => C i j ∧ Φ (g i j)
  | _, _, _ => False
theorem sim_ii {g : Int → Int → V} {gd : Int → Int → D} (h : ∀ (G : Hp) i j, Rp K G (g i j) (gd i j)) : SimV2 K (rI0 g) (ii gd) := by
  intro M Z G0 H0 G H σ ρ F v w x y Φ Q A rx ry hf k
  cases rx with
  | int i =>
    cases ry with
    | int j => exact ⟨i, j, rfl, rfl, k _ _ G H A (Same.refl G) (h G i j) hf⟩
    | _ => exact hf.elim
  | _ => exact hf.elim
theorem sim_iiC {C : Int → Int → Prop} {g : Int → Int → V} {gd : Int → Int → D} (h : ∀ (G : Hp) i j, Rp K G (g i j) (gd i j)) : SimV2 K (rI C g) (iiC C gd) := by
  intro M Z G0 H0 G H σ ρ F v w x y Φ Q A rx ry hf k
  cases rx with
  | int i =>
    cases ry with
    | int j => exact ⟨i, j, rfl, rfl, hf.1, k _ _ G H A (Same.refl G) (h G i j) hf.2⟩
    | _ => exact hf.elim
  | _ => exact hf.elim
abbrev ltD : D → D → (D → Prop) → Prop := ii fun i j => .bl (decide (i < j))
abbrev leD : D → D → (D → Prop) → Prop := ii fun i j => .bl (decide (i ≤ j))
abbrev geD : D → D → (D → Prop) → Prop := ii fun i j => .bl (decide (j ≤ i))
abbrev gtI : D → D → (D → Prop) → Prop := ii fun i j => .bl (decide (j < i))
abbrev subD : D → D → (D → Prop) → Prop := ii fun i j => .int (i - j)
abbrev modD : D → D → (D → Prop) → Prop := iiC (fun _ j => 0 < j) fun i j => .int (i % j)
abbrev fdvD : D → D → (D → Prop) → Prop := iiC CDiv fun i j => .int (i / j)
abbrev powD : D → D → (D → Prop) → Prop := iiC CPow fun i j => .int (i ^ j.toNat)
/-- x > y: ints, pairs of ints -/
def gtD : D → D → (D → Prop) → Prop
  | .int i, .int j, Φ => Φ (.bl (decide (j < i)))
  | .tup [.int a, .int b], .tup [.int c, .int d], Φ => Φ (.bl (decide (c < a ∨ (a = c ∧ d < b))))
  | _, _, _ => False
/-- is None -/
def isN (x y : D) (Φ : D → Prop) : Prop := match y with
  | .non => Φ (.bl (match x with | .non => true | _ => false))
  | _ => False
def notN (x y : D) (Φ : D → Prop) : Prop := match y with
  | .non => Φ (.bl (match x with | .non => false | _ => true))
  | _ => False
theorem sim_isN : SimV2 K (fun x y H Q => y = .non ∧ Q (.bl (decide (x = .non))) H) isN := by
  intro M Z G0 H0 G H σ ρ F v w x y Φ Q A rx ry hf k
  cases ry with
  | non =>
    refine ⟨rfl, ?_⟩
    cases rx with
    | non => exact k _ _ G H A (Same.refl G) (.bl _) hf
    | _ => exact k (.bl false) _ G H A (Same.refl G) (.bl _) hf
  | _ => exact hf.elim
theorem sim_notN : SimV2 K (fun x y H Q => y = .non ∧ Q (.bl (!decide (x = .non))) H) notN := by
  intro M Z G0 H0 G H σ ρ F v w x y Φ Q A rx ry hf k
  cases ry with
  | non =>
    refine ⟨rfl, ?_⟩
    cases rx with
    | non => exact k _ _ G H A (Same.refl G) (.bl _) hf
    | _ => exact k (.bl true) _ G H A (Same.refl G) (.bl _) hf
  | _ => exact hf.elim
/-- x in a list or a tuple of data -/
def inD (x y : D) (Φ : D → Prop) : Prop := x.okN 60 = true ∧ y.okN 60 = true ∧ match y with
  | .lst ds => Φ (.bl (ds.any fun z => D.eqv z x))
  | .tup ds => Φ (.bl (ds.any fun z => D.eqv z x))
  | _ => False
def notInD (x y : D) (Φ : D → Prop) : Prop := x.okN 60 = true ∧ y.okN 60 = true ∧ match y with
  | .lst ds => Φ (.bl (!ds.any fun z => D.eqv z x))
  | .tup ds => Φ (.bl (!ds.any fun z => D.eqv z x))
  | _ => False
theorem pyL_map : ∀ ds : List D, D.pyL ds = ds.map D.py
  | [] => rfl
  | x :: xs => by rw [D.pyL, pyL_map xs]; rfl
theorem any_py (x : D) (ds : List D) : (D.pyL ds).any (fun z => PyData.eqv z x.py) = ds.any fun z => D.eqv z x := by
  rw [pyL_map, List.any_map]
  rfl
end
section
variable {X : Cx} {a b : Expr} {ta tb : TE} {da db : DE} {pos : Pos}
def rGtA (K : PySem.W.Frag) : R2 := fun x y H Q => rI0 (fun i j => .bl (decide (j < i))) x y H Q ∨ ∃ p q i1 i2 j1 j2, x = .ref p ∧ y = .ref q ∧ SqT K H p [.int i1, .int i2] ∧ SqT K H q [.int j1, .int j2] ∧ Q (.bl (decide (j1 < i1 ∨ (i1 = j1 ∧ j2 < i2)))) H
theorem op_gtT (hu : X.A.units < cLine) : OpR X (compareOp .Gt) (fun x y H Q => ∃ p q i1 i2 j1 j2, x = .ref p ∧ y = .ref q ∧ SqT X.K H p [.int i1, .int i2] ∧ SqT X.K H q [.int j1, .int j2] ∧ Q (.bl (decide (j1 < i1 ∨ (i1 = j1 ∧ j2 < i2)))) H) := by
  intro pins s σ H x y v u Q I rx ry h
  obtain ⟨p, q, i1, i2, j1, j2, rfl, rfl, ha, hb, q⟩ := h
  cases rx
  cases ry
  have ha' : SqT X.K H p (([i1, i2] : List Int).map V.int) := ha
  have hb' : SqT X.K H _ (([j1, j2] : List Int).map V.int) := hb
  obtain ⟨its, r1, p1, _⟩ := I.tuple ha'
  obtain ⟨its2, r2, p2, _⟩ := I.tuple hb'
  have n1 : IntsAre its [i1, i2] := Vals.ints r1
  have n2 : IntsAre its2 [j1, j2] := Vals.ints r2
  have e1 : its.toArray.size = 2 := by rw [List.size_toArray]; exact n1.length
  have e2 : its2.toArray.size = 2 := by rw [List.size_toArray]; exact n2.length
  have at1 : ∀ j (h1 : j < its.toArray.size), ∃ t, its.toArray[j] = .int (([i1, i2] : List Int).getD j 0) t := fun j h1 => PyProof.Rows.IntsAre.int_at n1 _ _ (by simp at h1; simp [h1])
  have at2 : ∀ j (h1 : j < its2.toArray.size), ∃ t, its2.toArray[j] = .int (([j1, j2] : List Int).getD j 0) t := fun j h1 => PyProof.Rows.IntsAre.int_at n2 _ _ (by simp at h1; simp [h1])
  have R := Ob.RcOp.tuples_gt (A := X.A) (s := s) (e := fun j => decide (([i1, i2] : List Int).getD j 0 = ([j1, j2] : List Int).getD j 0)) (r := fun j => decide (([j1, j2] : List Int).getD j 0 < ([i1, i2] : List Int).getD j 0)) p1 p2 hu (fun j h1 h2 => by
    obtain ⟨t, et⟩ := at1 j h1
    obtain ⟨t', et'⟩ := at2 j h2
    rw [et, et']
    have z : (([i1, i2] : List Int).getD j 0 == ([j1, j2] : List Int).getD j 0) = decide (([i1, i2] : List Int).getD j 0 = ([j1, j2] : List Int).getD j 0) := by
      by_cases q : ([i1, i2] : List Int).getD j 0 = ([j1, j2] : List Int).getD j 0
      · rw [decide_eq_true q]; exact beq_iff_eq.mpr q
      · rw [decide_eq_false q]; exact beq_eq_false_iff_ne.mpr q
    rw [← z]
    exact SeqAt.EqAt.int_int _ _ _ _) (fun j h1 h2 _ => by
    obtain ⟨t, et⟩ := at1 j h1
    obtain ⟨t', et'⟩ := at2 j h2
    rw [et, et']
    exact Ob.RcOp.gt_int _ _ _ _)
  rw [e1, e2] at R
  have ev : Ob.lexAt (fun j => decide (([i1, i2] : List Int).getD j 0 = ([j1, j2] : List Int).getD j 0)) (fun j => decide (([j1, j2] : List Int).getD j 0 < ([i1, i2] : List Int).getD j 0)) (decide (2 > 2)) 0 (min 2 2) = decide (j1 < i1 ∨ (i1 = j1 ∧ j2 < i2)) := by
    show (if decide (i1 = j1) = true then (if decide (i2 = j2) = true then decide (2 > 2) else decide (j2 < i2)) else decide (j1 < i1)) = decide (j1 < i1 ∨ (i1 = j1 ∧ j2 < i2))
    by_cases c1 : i1 = j1
    · rw [if_pos (decide_eq_true c1)]
      by_cases c2 : i2 = j2
      · rw [if_pos (decide_eq_true c2)]
        rw [decide_eq_false (by omega), decide_eq_false (by omega)]
      · rw [if_neg (by simpa using c2)]
        exact decide_eq_decide.mpr ⟨fun z => .inr ⟨c1, z⟩, fun z => by omega⟩
    · rw [if_neg (by simpa using c1)]
      exact decide_eq_decide.mpr ⟨fun z => .inl z, fun z => by omega⟩
  rw [ev] at R
  exact R X.prog X.w X.xe (EP X pins σ Q) ⟨.bl _, H, I, rfl, q⟩
theorem op_gtA (hu : X.A.units < cLine) : OpR X (compareOp .Gt) (rGtA X.K) := OpR.or op_gt (op_gtT hu)
theorem sim_gt {K : PySem.W.Frag} : SimV2 K (rGtA K) gtD := by
  intro M Z G0 H0 G H σ ρ F v w x y Φ Q A rx ry hf k
  unfold gtD at hf
  split at hf
  · cases rx; cases ry
    exact .inl ⟨_, _, rfl, rfl, k _ _ G H A (Same.refl G) (.bl _) hf⟩
  · cases rx with
    | tup hx px =>
      cases ry with
      | tup hy py =>
        cases px with
        | cons a1 a2 =>
          cases a2 with
          | cons a3 a4 =>
            cases a4
            cases py with
            | cons b1 b2 =>
              cases b2 with
              | cons b3 b4 =>
                cases b4
                cases a1; cases a3; cases b1; cases b3
                exact .inr ⟨_, _, _, _, _, _, rfl, rfl, same_t A.gh hx, same_t A.gh hy, k _ _ G H A (Same.refl G) (.bl _) hf⟩
  · exact hf.elim
end
end DL
set_option Elab.async false
set_option linter.all false
set_option maxRecDepth 100000
set_option maxHeartbeats 2000000
namespace DL
open PySem PySem.Spec PyProof.Rows L2

/-! ### in -/
section
variable {X : Cx}
def rInTD (K : PySem.W.Frag) : R2 := fun x y H Q => ∃ d ds, Dp K H x d ∧ Dp K H y (.tuple ds) ∧ SeqAt.shaped d = true ∧ SeqAt.shaped (.list ds) = true ∧ Q (.bl (ds.any fun z => PyData.eqv z d)) H
def rNotInTD (K : PySem.W.Frag) : R2 := fun x y H Q => ∃ d ds, Dp K H x d ∧ Dp K H y (.tuple ds) ∧ SeqAt.shaped d = true ∧ SeqAt.shaped (.list ds) = true ∧ Q (.bl (!ds.any fun z => PyData.eqv z d)) H
theorem op_inTD (hu : X.A.units + 65 < cLine) : OpR X (compareOp .In) (rInTD X.K) := by
  intro pins s σ H x y v u Q I rx ry h
  obtain ⟨d, ds, hd, he, sd, se, q⟩ := h
  obtain ⟨as, r1⟩ := Dp.reads I d x v hd rx
  obtain ⟨bs, r2⟩ := Dp.reads I (.tuple ds) y u he ry
  exact SeqAt.in_tuple_reads r2 r1 (SeqAt.canLay_of_shaped se) (SeqAt.canLay_of_shaped sd) (room_in_shaped sd hu) ⟨.bl _, H, I, rfl, q⟩
theorem op_notInTD (hu : X.A.units + 65 < cLine) : OpR X (compareOp .NotIn) (rNotInTD X.K) := by
  intro pins s σ H x y v u Q I rx ry h
  obtain ⟨d, ds, hd, he, sd, se, q⟩ := h
  obtain ⟨as, r1⟩ := Dp.reads I d x v hd rx
  obtain ⟨bs, r2⟩ := Dp.reads I (.tuple ds) y u he ry
  exact SeqAt.notIn_tuple_reads r2 r1 (SeqAt.canLay_of_shaped se) (SeqAt.canLay_of_shaped sd) (room_in_shaped sd hu) ⟨.bl _, H, I, rfl, q⟩
/-- k in d -/
def rInDic : R2 := fun x y H Q => ∃ a o, y = .ref a ∧ DGet H a x o ∧ Q (.bl o.isSome) H
def rNotInDic : R2 := fun x y H Q => ∃ a o, y = .ref a ∧ DGet H a x o ∧ Q (.bl (!o.isSome)) H
theorem op_inDic (hu : X.A.units + 1 < cLine) : OpR X (compareOp .In) rInDic := by
  intro pins s σ H x y v u Q I rx ry h
  obtain ⟨a, o, rfl, g, q⟩ := h
  cases ry
  exact d_in hu I g rx fun s' I' => ⟨.bl _, H, I', rfl, q⟩
theorem op_notInDic (hu : X.A.units + 1 < cLine) : OpR X (compareOp .NotIn) rNotInDic := by
  intro pins s σ H x y v u Q I rx ry h
  obtain ⟨a, o, rfl, g, q⟩ := h
  cases ry
  exact d_notIn hu I g rx fun s' I' => ⟨.bl _, H, I', rfl, q⟩
def rSign : R2 := fun x y H Q => ∃ (c : Nat) (z : Str), x = .str ⟨#[c]⟩ ∧ y = .str z ∧ Q (.bl (decide (c ∈ z.cps.toList))) H
def rNotSign : R2 := fun x y H Q => ∃ (c : Nat) (z : Str), x = .str ⟨#[c]⟩ ∧ y = .str z ∧ Q (.bl (!decide (c ∈ z.cps.toList))) H
def rInA (K : PySem.W.Frag) : R2 := fun x y H Q => rInD K x y H Q ∨ rInTD K x y H Q ∨ rInDic x y H Q ∨ rSign x y H Q
def rNotInA (K : PySem.W.Frag) : R2 := fun x y H Q => rNotInD K x y H Q ∨ rNotInTD K x y H Q ∨ rNotInDic x y H Q ∨ rNotSign x y H Q
theorem op_inA (hu : X.A.units + 65 < cLine) : OpR X (compareOp .In) (rInA X.K) := OpR.or (op_inD hu) (OpR.or (op_inTD hu) (OpR.or (op_inDic (by omega)) op_in_sign))
theorem op_notInA (hu : X.A.units + 65 < cLine) : OpR X (compareOp .NotIn) (rNotInA X.K) := OpR.or (op_notInD hu) (OpR.or (op_notInTD hu) (OpR.or (op_notInDic (by omega)) op_notIn_sign))
end
/-- a key, of an int or a text -/
def D.key : D → Option Key
  | .int i => some (.inl i)
  | .str x => some (.inr x)
  | _ => none
def getK (kvs : List (Key × D)) (k : Key) : Option D := (kvs.find? fun kv => decide (kv.1 = k)).map (·.2)
def memD (x y : D) (Φ : Bool → Prop) : Prop := match y with
  | .lst ds => x.okN 60 = true ∧ D.okL ds 60 = true ∧ Φ (ds.any fun z => D.eqv z x)
  | .tup ds => x.okN 60 = true ∧ D.okL ds 60 = true ∧ Φ (ds.any fun z => D.eqv z x)
  | .dic kvs => match x.key with
    | some k => Φ (getK kvs k).isSome
    | none => False
  | .str z => match x with
    | .str s => match s.cps.toList with
      | [c] => Φ (decide (c ∈ z.cps.toList))
      | _ => False
    | _ => False
  | _ => False
def memV (x y : D) (Φ : D → Prop) : Prop := memD x y fun b => Φ (.bl b)
def notMemV (x y : D) (Φ : D → Prop) : Prop := memD x y fun b => Φ (.bl (!b))
theorem rpk_get {K : PySem.W.Frag} {G : Hp} {kvs : List (Key × V)} {ds : List (Key × D)} (r : RpK K G kvs ds) (k : Key) : (valV kvs k = none ∧ getK ds k = none) ∨ ∃ v d, valV kvs k = some v ∧ getK ds k = some d ∧ Rp K G v d := by
  unfold valV getK
  match kvs, ds, r with
  | [], [], _ => exact .inl ⟨rfl, rfl⟩
  | (k1, v) :: kvs, (_, d) :: ds, .cons h t =>
    by_cases c : k1 = k
    · refine .inr ⟨v, d, ?_, ?_, h⟩
      · rw [List.find?_cons_of_pos (by exact decide_eq_true c)]
        rfl
      · rw [List.find?_cons_of_pos (by exact decide_eq_true c)]
        rfl
    · rw [List.find?_cons_of_neg (by simpa using c), List.find?_cons_of_neg (by simpa using c)]
      exact rpk_get t k
theorem key_rp {K : PySem.W.Frag} {G : Hp} {v : V} {x : D} {k : Key} (r : Rp K G v x) (h : x.key = some k) : v = kV k := by
  cases r with
  | int i => cases h; rfl
  | str s => cases h; rfl
  | _ => cases h
theorem rp_dget {K : PySem.W.Frag} {G H : Hp} {w : V} {kvs : List (Key × D)} (e : Same G H) (r : Rp K G w (.dic kvs)) (k : Key) :
    ∃ a o, w = .ref a ∧ DGet H a (kV k) o ∧ ((o = none ∧ getK kvs k = none) ∨ ∃ v d, o = some v ∧ getK kvs k = some d ∧ Rp K G v d) := by
  cases r with
  | dic hr hk =>
    rename_i a vs
    refine ⟨a, valV vs k, rfl, .inl ⟨vs, k, same_rd e hr, rfl, rfl⟩, ?_⟩
    rcases rpk_get hk k with ⟨h1, h2⟩ | ⟨v, d, h1, h2, h3⟩
    · exact .inl ⟨h1, h2⟩
    · exact .inr ⟨v, d, h1, h2, h3⟩
theorem sim_in {K : PySem.W.Frag} : SimV2 K (rInA K) memV := by
  intro M Z G0 H0 G H σ ρ F v w x y Φ Q A rx ry hf k
  unfold memV memD at hf
  split at hf
  · rename_i ds
    have oy : (D.lst ds).okN 61 = true := by simpa [D.okN] using hf.2.1
    have q := D.okN_depth (.lst ds) 61 oy
    refine .inl ⟨_, _, rx.dp A.gh hf.1, ry.dp A.gh oy, D.shaped hf.1, ?_, ?_⟩
    · unfold SeqAt.shaped
      rw [show (PyData.list (D.pyL ds)).canLay0 = true from q.1, decide_eq_true (by have := q.2; simp only [D.py] at this; omega)]
      rfl
    · rw [any_py]
      exact k _ _ G H A (Same.refl G) (.bl _) hf.2.2
  · rename_i ds
    have oy : (D.tup ds).okN 61 = true := by simpa [D.okN] using hf.2.1
    have q := D.okN_depth (.lst ds) 61 (by simpa [D.okN] using hf.2.1)
    refine .inr (.inl ⟨_, _, rx.dp A.gh hf.1, ry.dp A.gh oy, D.shaped hf.1, ?_, ?_⟩)
    · unfold SeqAt.shaped
      rw [show (PyData.list (D.pyL ds)).canLay0 = true from q.1, decide_eq_true (by have := q.2; simp only [D.py] at this; omega)]
      rfl
    · rw [any_py]
      exact k _ _ G H A (Same.refl G) (.bl _) hf.2.2
  · split at hf
    · rename_i kvs _ kk hk
      obtain ⟨a, o, e1, g, c⟩ := rp_dget A.gh ry kk
      refine .inr (.inr (.inl ⟨a, o, e1, by rw [key_rp rx hk]; exact g, ?_⟩))
      have e2 : o.isSome = (getK kvs kk).isSome := by
        rcases c with ⟨c1, c2⟩ | ⟨_, _, c1, c2, _⟩
        · rw [c1, c2]; rfl
        · rw [c1, c2]; rfl
      rw [e2]
      exact k _ _ G H A (Same.refl G) (.bl _) hf
    · exact hf.elim
  · rename_i z
    split at hf
    · rename_i s
      split at hf
      · rename_i c hc
        cases rx
        cases ry
        refine .inr (.inr (.inr ⟨c, z, ?_, rfl, k _ _ G H A (Same.refl G) (.bl _) hf⟩))
        obtain ⟨⟨l⟩⟩ := s
        have hc' : l = [c] := hc
        rw [hc']
      · exact hf.elim
    · exact hf.elim
  · exact hf.elim
theorem sim_notIn {K : PySem.W.Frag} : SimV2 K (rNotInA K) notMemV := by
  intro M Z G0 H0 G H σ ρ F v w x y Φ Q A rx ry hf k
  unfold notMemV memD at hf
  split at hf
  · rename_i ds
    have oy : (D.lst ds).okN 61 = true := by simpa [D.okN] using hf.2.1
    have q := D.okN_depth (.lst ds) 61 oy
    refine .inl ⟨_, _, rx.dp A.gh hf.1, ry.dp A.gh oy, D.shaped hf.1, ?_, ?_⟩
    · unfold SeqAt.shaped
      rw [show (PyData.list (D.pyL ds)).canLay0 = true from q.1, decide_eq_true (by have := q.2; simp only [D.py] at this; omega)]
      rfl
    · rw [any_py]
      exact k _ _ G H A (Same.refl G) (.bl _) hf.2.2
  · rename_i ds
    have oy : (D.tup ds).okN 61 = true := by simpa [D.okN] using hf.2.1
    have q := D.okN_depth (.lst ds) 61 (by simpa [D.okN] using hf.2.1)
    refine .inr (.inl ⟨_, _, rx.dp A.gh hf.1, ry.dp A.gh oy, D.shaped hf.1, ?_, ?_⟩)
    · unfold SeqAt.shaped
      rw [show (PyData.list (D.pyL ds)).canLay0 = true from q.1, decide_eq_true (by have := q.2; simp only [D.py] at this; omega)]
      rfl
    · rw [any_py]
      exact k _ _ G H A (Same.refl G) (.bl _) hf.2.2
  · split at hf
    · rename_i kvs _ kk hk
      obtain ⟨a, o, e1, g, c⟩ := rp_dget A.gh ry kk
      refine .inr (.inr (.inl ⟨a, o, e1, by rw [key_rp rx hk]; exact g, ?_⟩))
      have e2 : o.isSome = (getK kvs kk).isSome := by
        rcases c with ⟨c1, c2⟩ | ⟨_, _, c1, c2, _⟩
        · rw [c1, c2]; rfl
        · rw [c1, c2]; rfl
      rw [e2]
      exact k _ _ G H A (Same.refl G) (.bl _) hf
    · exact hf.elim
  · rename_i z
    split at hf
    · rename_i s
      split at hf
      · rename_i c hc
        cases rx
        cases ry
        refine .inr (.inr (.inr ⟨c, z, ?_, rfl, k _ _ G H A (Same.refl G) (.bl _) hf⟩))
        obtain ⟨⟨l⟩⟩ := s
        have hc' : l = [c] := hc
        rw [hc']
      · exact hf.elim
    · exact hf.elim
  · exact hf.elim

/-! ### expressions of two parts, tests -/
def dTest (d : DE) : DT := fun ρ Φ => d ρ fun x ρ1 => match x with
  | .bl b => Φ b ρ1
  | _ => False
theorem sim_test {K : PySem.W.Frag} {t : TE} {d : DE} (h : SimE K t d) : SimT K (tTest t) (dTest d) := fun {M Z G0 H0 G H σ ρ F Φ Q} A hd k =>
  h A hd fun v x ρ1 F1 G1 H1 A1 e1 r1 q1 => by
    cases r1 with
    | bl b => exact ⟨b, rfl, k b ρ1 F1 G1 H1 A1 e1 q1⟩
    | _ => exact q1.elim
theorem sim_tB {K : PySem.W.Frag} {t : TE} {d : DE} (h : SimE K t d) : SimT K (tB t) (dTest d) := fun {M Z G0 H0 G H σ ρ F Φ Q} A hd k =>
  h A hd fun v x ρ1 F1 G1 H1 A1 e1 r1 q1 => by
    cases r1 with
    | bl b => exact ⟨b, rfl, k b ρ1 F1 G1 H1 A1 e1 q1⟩
    | _ => exact q1.elim
def dAnd (a b : DT) : DT := fun ρ Φ => a ρ fun c ρ1 => if c = true then b ρ1 Φ else Φ false ρ1
def dOr (a b : DT) : DT := fun ρ Φ => a ρ fun c ρ1 => if c = true then Φ true ρ1 else b ρ1 Φ
def dNot (a : DT) : DT := fun ρ Φ => a ρ fun c ρ1 => Φ (!c) ρ1
def dAndV (a b : DE) : DE := fun ρ Φ => dTest a ρ fun c ρ1 => if c = true then b ρ1 Φ else Φ (.bl false) ρ1
def dOrV (a b : DE) : DE := fun ρ Φ => dTest a ρ fun c ρ1 => if c = true then Φ (.bl true) ρ1 else b ρ1 Φ
def dNotV (a : DE) : DE := fun ρ Φ => dTest a ρ fun c ρ1 => Φ (.bl (!c)) ρ1
def dIf (t : DT) (a b : DE) : DE := fun ρ Φ => t ρ fun c ρ1 => if c = true then a ρ1 Φ else b ρ1 Φ
section
variable {K : PySem.W.Frag} {t u : TT} {a b : DT} {te ue : TE} {da db : DE}
theorem sim_and (h : SimT K t a) (g : SimT K u b) : SimT K (tAnd t u) (dAnd a b) := fun {M Z G0 H0 G H σ ρ F Φ Q} A hd k =>
  h A hd fun c ρ1 F1 G1 H1 A1 e1 q1 => by
    cases c with
    | true => exact g A1 q1 fun b ρ2 F2 G2 H2 A2 e2 q2 => k b ρ2 F2 G2 H2 A2 (e1.trans e2) q2
    | false => exact k false ρ1 F1 G1 H1 A1 e1 q1
theorem sim_or (h : SimT K t a) (g : SimT K u b) : SimT K (tOr t u) (dOr a b) := fun {M Z G0 H0 G H σ ρ F Φ Q} A hd k =>
  h A hd fun c ρ1 F1 G1 H1 A1 e1 q1 => by
    cases c with
    | false => exact g A1 q1 fun b ρ2 F2 G2 H2 A2 e2 q2 => k b ρ2 F2 G2 H2 A2 (e1.trans e2) q2
    | true => exact k true ρ1 F1 G1 H1 A1 e1 q1
theorem sim_not (h : SimT K t a) : SimT K (tNot t) (dNot a) := fun {M Z G0 H0 G H σ ρ F Φ Q} A hd k => h A hd fun c ρ1 F1 G1 H1 A1 e1 q1 => k (!c) ρ1 F1 G1 H1 A1 e1 q1
theorem sim_andV (h : SimE K te da) (g : SimE K ue db) : SimE K (tAndV te ue) (dAndV da db) := fun {M Z G0 H0 G H σ ρ F Φ Q} A hd k =>
  sim_tB h A hd fun c ρ1 F1 G1 H1 A1 e1 q1 => by
    cases c with
    | true => exact g A1 q1 fun v x ρ2 F2 G2 H2 A2 e2 r2 q2 => k v x ρ2 F2 G2 H2 A2 (e1.trans e2) r2 q2
    | false => exact k _ _ ρ1 F1 G1 H1 A1 e1 (.bl false) q1
theorem sim_orV (h : SimE K te da) (g : SimE K ue db) : SimE K (tOrV te ue) (dOrV da db) := fun {M Z G0 H0 G H σ ρ F Φ Q} A hd k =>
  sim_tB h A hd fun c ρ1 F1 G1 H1 A1 e1 q1 => by
    cases c with
    | false => exact g A1 q1 fun v x ρ2 F2 G2 H2 A2 e2 r2 q2 => k v x ρ2 F2 G2 H2 A2 (e1.trans e2) r2 q2
    | true => exact k _ _ ρ1 F1 G1 H1 A1 e1 (.bl true) q1
theorem sim_notV (h : SimE K te da) : SimE K (tNotV te) (dNotV da) := fun {M Z G0 H0 G H σ ρ F Φ Q} A hd k =>
  sim_tB h A hd fun c ρ1 F1 G1 H1 A1 e1 q1 => k _ _ ρ1 F1 G1 H1 A1 e1 (.bl _) q1
theorem sim_if (h : SimT K t a) (h1 : SimE K te da) (h2 : SimE K ue db) : SimE K (tIf t te ue) (dIf a da db) := fun {M Z G0 H0 G H σ ρ F Φ Q} A hd k =>
  h A hd fun c ρ1 F1 G1 H1 A1 e1 q1 => by
    cases c with
    | true => exact h1 A1 q1 fun v x ρ2 F2 G2 H2 A2 e2 r2 q2 => k v x ρ2 F2 G2 H2 A2 (e1.trans e2) r2 q2
    | false => exact h2 A1 q1 fun v x ρ2 F2 G2 H2 A2 e2 r2 q2 => k v x ρ2 F2 G2 H2 A2 (e1.trans e2) r2 q2
end
structure PDW (X : Cx) (e : Expr) (t : TT) (d : DT) : Prop where
  pw : PW X e t
  sim : SimT X.K t d
section
variable {X : Cx} {a b c : Expr} {rest : List Expr} {ta tb tc : TE} {da db dc : DE} {t u : TT} {dt du : DT} {pos : Pos}
theorem pd_op {op : Operator} {r : R2} {f : D → D → (D → Prop) → Prop} (ho : OpR X (binaryOp op) r) (hs : SimV2 X.K r f) (ha : PD X a ta da) (hb : PD X b tb db) : PD X (.BinOp a op b pos) (tOp r ta tb) (dOp f da db) := ⟨pe_op ho ha.pe hb.pe, sim_op hs ha.sim hb.sim⟩
theorem pr_op {op : Operator} {r : R2} {f : D → D → (Sl → Prop) → Prop} (ho : OpR X (binaryOp op) r) (hs : SimR2 X.K r f) (ha : PD X a ta da) (hb : PD X b tb db) : PR X (.BinOp a op b pos) (tOp r ta tb) (dOpR f da db) := ⟨pe_op ho ha.pe hb.pe, sim_opR hs ha.sim hb.sim⟩
theorem pd_cmp {op : CmpOp} {r : R2} {f : D → D → (D → Prop) → Prop} (ho : OpR X (compareOp op) r) (hs : SimV2 X.K r f) (ha : PD X a ta da) (hb : PD X b tb db) (hm : behindInMarks op b = false) : PD X (.Compare a [op] [b] pos) (tOp r ta tb) (dOp f da db) :=
  ⟨pe_cmpR ho ha.pe hb.pe hm, sim_op hs ha.sim hb.sim⟩
theorem pdt_cmp {op : CmpOp} {r : R2} {f : D → D → (D → Prop) → Prop} (ho : OpR X (compareOp op) r) (hs : SimV2 X.K r f) (ha : PD X a ta da) (hb : PD X b tb db) (hm : behindInMarks op b = false) : PDT X (.Compare a [op] [b] pos) (tTest (tOp r ta tb)) (dTest (dOp f da db)) :=
  ⟨pt_cmpR ho ha.pe hb.pe hm, sim_test (sim_op hs ha.sim hb.sim)⟩
/-- a op1 b op2 c -/
def dChain (f f' : D → D → (D → Prop) → Prop) (da db dc : DE) : DE := fun ρ Φ => da ρ fun x ρ1 => db ρ1 fun y ρ2 => f x y fun z => match z with
  | .bl k => if k = true then dc ρ2 fun w ρ3 => f' y w fun u => Φ u ρ3 else Φ (.bl false) ρ2
  | _ => False
theorem sim_chain {K : PySem.W.Frag} {r r' : R2} {f f' : D → D → (D → Prop) → Prop} (h : SimV2 K r f) (h' : SimV2 K r' f') (ha : SimE K ta da) (hb : SimE K tb db) (hc : SimE K tc dc) : SimE K (tChain r r' ta tb tc) (dChain f f' da db dc) := fun {M Z G0 H0 G H σ ρ F Φ Q} A hd k =>
  ha A hd fun v x ρ1 F1 G1 H1 A1 e1 r1 q1 => hb A1 q1 fun w y ρ2 F2 G2 H2 A2 e2 r2 q2 => h A2 (r1.mono e2) r2 q2 fun u z G3 H3 A3 e3 r3 q3 => by
    cases r3 with
    | bl b =>
      refine ⟨b, rfl, ?_⟩
      cases b with
      | true =>
        refine hc A3 q3 fun v4 x4 ρ4 F4 G4 H4 A4 e4 r4 q4 => ?_
        exact h' A4 (r2.mono (e3.trans e4)) r4 q4 fun u5 z5 G5 H5 A5 e5 r5 q5 => k u5 z5 ρ4 F4 G5 H5 A5 (e1.trans (e2.trans (e3.trans (e4.trans e5)))) r5 q5
      | false => exact k _ _ ρ2 F2 G3 H3 A3 (e1.trans (e2.trans e3)) (.bl false) q3
    | _ => exact q3.elim
theorem pd_chain {op op' : CmpOp} {r r' : R2} {f f' : D → D → (D → Prop) → Prop} (ho : OpR X (compareOp op) r) (hs : SimV2 X.K r f) (ho' : OpR X (compareOp op') r') (hs' : SimV2 X.K r' f') (ha : PD X a ta da) (hb : PD X b tb db) (hc : PD X c tc dc)
    (hm : lastMarks [op, op'] [b, c] = false := by with_unfolding_all rfl) : PD X (.Compare a [op, op'] [b, c] pos) (tChain r r' ta tb tc) (dChain f f' da db dc) := ⟨pe_chain ho ho' ha.pe hb.pe hc.pe hm, sim_chain hs hs' ha.sim hb.sim hc.sim⟩
theorem pdt_chain {op op' : CmpOp} {r r' : R2} {f f' : D → D → (D → Prop) → Prop} (ho : OpR X (compareOp op) r) (hs : SimV2 X.K r f) (ho' : OpR X (compareOp op') r') (hs' : SimV2 X.K r' f') (ha : PD X a ta da) (hb : PD X b tb db) (hc : PD X c tc dc)
    (hm : lastMarks [op, op'] [b, c] = false := by with_unfolding_all rfl) : PDT X (.Compare a [op, op'] [b, c] pos) (tTest (tChain r r' ta tb tc)) (dTest (dChain f f' da db dc)) := ⟨pt_chain ho ho' ha.pe hb.pe hc.pe hm, sim_test (sim_chain hs hs' ha.sim hb.sim hc.sim)⟩
/-- an expression that is no comparison, as a test -/
theorem pdt_val (h : PD X a ta da) (he : ∀ whole, isTrue a X.env whole = (do let v ← whole; standAt a.pos; holding [v] (truthy v)) := by intro _; rfl) : PDT X a (tB ta) (dTest da) := ⟨pt_val h.pe he, sim_tB h.sim⟩
theorem pdt_not (h : PDT X a t dt) : PDT X (.UnaryOp .Not a pos) (tNot t) (dNot dt) := ⟨pt_not h.pe, sim_not h.sim⟩
theorem pdw_and1 (h : PDT X a t dt) : PDW X (.BoolOp .And [a] pos) t dt := ⟨pw_and1 h.pe, h.sim⟩
theorem pdw_or1 (h : PDT X a t dt) : PDW X (.BoolOp .Or [a] pos) t dt := ⟨pw_or1 h.pe, h.sim⟩
theorem pdw_and (h : PDT X a t dt) (g : PDW X (.BoolOp .And (b :: rest) pos) u du) : PDW X (.BoolOp .And (a :: b :: rest) pos) (tAnd t u) (dAnd dt du) := ⟨pw_and h.pe g.pw, sim_and h.sim g.sim⟩
theorem pdw_or (h : PDT X a t dt) (g : PDW X (.BoolOp .Or (b :: rest) pos) u du) : PDW X (.BoolOp .Or (a :: b :: rest) pos) (tOr t u) (dOr dt du) := ⟨pw_or h.pe g.pw, sim_or h.sim g.sim⟩
theorem PDW.tst (h : PDW X a t dt) : PDT X a t dt := ⟨h.pw.pt, h.sim⟩
theorem pd_one {op} (h : PD X a ta da) : PD X (.BoolOp op [a] pos) ta da := ⟨pe_one h.pe, h.sim⟩
theorem pd_and (h : PD X a ta da) (g : PD X (.BoolOp .And (b :: rest) pos) tb db) : PD X (.BoolOp .And (a :: b :: rest) pos) (tAndV ta tb) (dAndV da db) := ⟨pe_and h.pe g.pe, sim_andV h.sim g.sim⟩
theorem pd_or (h : PD X a ta da) (g : PD X (.BoolOp .Or (b :: rest) pos) tb db) : PD X (.BoolOp .Or (a :: b :: rest) pos) (tOrV ta tb) (dOrV da db) := ⟨pe_or h.pe g.pe, sim_orV h.sim g.sim⟩
theorem pd_not (h : PD X a ta da) : PD X (.UnaryOp .Not a pos) (tNotV ta) (dNotV da) := ⟨pe_not h.pe, sim_notV h.sim⟩
theorem pd_ifExp (h : PDT X c t dt) (ha : PD X a ta da) (hb : PD X b tb db) : PD X (.IfExp c a b pos) (tIf t ta tb) (dIf dt da db) := ⟨pe_ifExp h.pe ha.pe hb.pe, sim_if h.sim ha.sim hb.sim⟩
end
end DL
set_option Elab.async false
set_option linter.all false
set_option maxRecDepth 100000
set_option maxHeartbeats 2000000
namespace DL
open PySem PySem.Spec PyProof.Rows L2

/-! ### subscripts -/
def rDic : R2 := fun x y H Q => ∃ a v, x = .ref a ∧ DGet H a y (some v) ∧ Q v H
theorem ix_dic {X : Cx} (hu : X.A.units + 1 < cLine) : IxR X rDic := by
  intro value slice pins s σ H x y v u Q I rx ry h hs
  obtain ⟨a, w, rfl, g, q⟩ := h
  cases rx
  exact tail_any (dict_typeIs I g) PySem.F.slot_dict_getitem.lookup (d_getItem hu I g ry fun w' s' I' rw' => ⟨w, H, I', rw', q⟩) hs
def rIxA (K : PySem.W.Frag) : R2 := fun x y H Q => rIx K x y H Q ∨ rDic x y H Q
theorem ix_all {X : Cx} (hu : X.A.units + 1 < cLine) : IxR X (rIxA X.K) := ix_seq.or (ix_dic hu)
def ixL (xs : List D) (y : D) (Φ : D → Prop) : Prop := match y with
  | .int i => match atI xs i with
    | some d => Φ d
    | none => False
  | _ => False
def ixD (x y : D) (Φ : D → Prop) : Prop := match x with
  | .tup xs => ixL xs y Φ
  | .lst xs => ixL xs y Φ
  | .rd xs => ixL xs y Φ
  | .str z => z.length ≤ 1000000 ∧ match y with
    | .int i => match atI z.cps.toList i with
      | some c => Φ (.str ⟨#[c]⟩)
      | none => False
    | _ => False
  | .dic kvs => match y.key with
    | some k => match getK kvs k with
      | some d => Φ d
      | none => False
    | none => False
  | _ => False
theorem ixL_at {xs : List D} {y : D} {Φ : D → Prop} (h : ixL xs y Φ) : ∃ i d, y = .int i ∧ atI xs i = some d ∧ Φ d := by
  unfold ixL at h
  split at h
  · split at h
    · rename_i d e
      exact ⟨_, d, rfl, e, h⟩
    · exact h.elim
  · exact h.elim
theorem sim_ix {K : PySem.W.Frag} : SimV2 K (rIxA K) ixD := by
  intro M Z G0 H0 G H σ ρ F v w x y Φ Q A rx ry hf k
  unfold ixD at hf
  split at hf
  · obtain ⟨i, d, rfl, e, q⟩ := ixL_at hf
    cases ry
    cases rx with
    | tup hx px =>
      obtain ⟨u, e1, r⟩ := px.dget e
      exact .inl (.inr (.inl ⟨_, _, i, u, rfl, rfl, same_t A.gh hx, e1, k _ _ G H A (Same.refl G) r q⟩))
  · obtain ⟨i, d, rfl, e, q⟩ := ixL_at hf
    cases ry
    cases rx with
    | lst hx px =>
      obtain ⟨u, e1, r⟩ := px.dget e
      exact .inl (.inl ⟨_, _, i, u, rfl, rfl, SqL.of (A.gh _ _ hx), e1, k _ _ G H A (Same.refl G) r q⟩)
  · obtain ⟨i, d, rfl, e, q⟩ := ixL_at hf
    cases ry
    cases rx with
    | rd hx px =>
      obtain ⟨u, e1, r⟩ := px.dget e
      exact .inl (.inl ⟨_, _, i, u, rfl, rfl, same_l A.gh hx, e1, k _ _ G H A (Same.refl G) r q⟩)
  · obtain ⟨hz, hf⟩ := hf
    split at hf
    · split at hf
      · rename_i c e
        cases rx
        cases ry
        exact .inl (.inr (.inr ⟨_, _, c, rfl, rfl, line_le hz, e, k _ _ G H A (Same.refl G) (.str _) hf⟩))
      · exact hf.elim
    · exact hf.elim
  · split at hf
    · rename_i kk hk
      split at hf
      · rename_i d e
        obtain ⟨a, o, e1, g, c⟩ := rp_dget A.gh rx kk
        rcases c with ⟨c1, c2⟩ | ⟨u, d', c1, c2, c3⟩
        · rw [e] at c2; cases c2
        · rw [e] at c2; cases c2
          subst c1
          exact .inr ⟨a, u, e1, by rw [key_rp ry hk]; exact g, k _ _ G H A (Same.refl G) c3 hf⟩
      · exact hf.elim
    · exact hf.elim
  · exact hf.elim
section
variable {X : Cx} {a b : Expr} {ta tb : TE} {da db : DE} {pos : Pos}
theorem pd_ix (hu : X.A.units + 1 < cLine) (ha : PD X a ta da) (hb : PD X b tb db) (hs : PlainIx b) : PD X (.Subscript a b pos) (tOp (rIxA X.K) ta tb) (dOp ixD da db) := ⟨pe_ix (ix_all hu) ha.pe hb.pe hs, sim_op sim_ix ha.sim hb.sim⟩
end

/-! ### slices -/
abbrev DO := List Sl → (Option Int → List Sl → Prop) → Prop
def SimO (K : PySem.W.Frag) (t : TO) (d : DO) : Prop := ∀ {M : Addr → Prop} {Z G0 H0 G H : Hp} {σ : L2.St} {ρ : List Sl} {F : Nat → Addr → Prop} {Φ : Option Int → List Sl → Prop} {Q : Option Int → Hp → Prop}, At K M Z G0 H0 G H σ ρ F → d ρ Φ →
  (∀ b ρ' F' G' H', At K M Z G0 H0 G' H' σ ρ' F' → Same G G' → Φ b ρ' → Q b H') → t σ H Q
structure PDO (X : Cx) (e : Option Expr) (t : TO) (d : DO) : Prop where
  po : PO X e t
  sim : SimO X.K t d
def dNoPart : DO := fun ρ Φ => Φ none ρ
def dPart (d : DE) : DO := fun ρ Φ => d ρ fun x ρ1 => match x with
  | .int i => Φ (some i) ρ1
  | _ => False
def cutD {α : Type} (xs : List α) (lo hi : Option Int) : List α := (xs.drop (HT.sIx xs.length 0 lo)).take (HT.sIx xs.length xs.length hi - HT.sIx xs.length 0 lo)
theorem RpL.cut {K : PySem.W.Frag} {G : Hp} {vs : List V} {ds : List D} (r : RpL K G vs ds) (lo hi : Option Int) : RpL K G (cutV vs lo hi) (cutD ds lo hi) := by
  unfold cutV cutD
  rw [r.length]
  exact (r.drop _).take _
def slD (x : D) (lo hi : Option Int) (Φ : Sl → Prop) : Prop := match x with
  | .lst xs => Φ (.own (cutD xs lo hi))
  | .rd xs => Φ (.own (cutD xs lo hi))
  | .tup xs => Φ (.val (.tup (cutD xs lo hi)))
  | .str z => z.length ≤ 1000000 ∧ Φ (.val (.str (cutS z lo hi)))
  | _ => False
def rSlAll (K : PySem.W.Frag) : V → Option Int → Option Int → Hp → VK → Prop := fun x lo hi H Q => rSlL K x lo hi H Q ∨ rSlA K x lo hi H Q ∨ rSlS x lo hi H Q
theorem sl_all {X : Cx} : SlR X (rSlAll X.K) := SlR.or sl_list (SlR.or sl_tupA sl_str)
def dSl (d : DE) (dl dh : DO) : DR := fun ρ Φ => d ρ fun x ρ1 => dl ρ1 fun l ρ2 => dh ρ2 fun h ρ3 => slD x l h fun z => Φ z ρ3
theorem sim_part {K : PySem.W.Frag} {t : TE} {d : DE} (h : SimE K t d) : SimO K (tPart t) (dPart d) := fun {M Z G0 H0 G H σ ρ F Φ Q} A hd k =>
  h A hd fun v x ρ1 F1 G1 H1 A1 e1 r1 q1 => by
    cases r1 with
    | int b => exact ⟨b, rfl, k (some b) ρ1 F1 G1 H1 A1 e1 q1⟩
    | _ => exact q1.elim
theorem sim_noPart {K : PySem.W.Frag} : SimO K tNoPart dNoPart := fun {M Z G0 H0 G H σ ρ F Φ Q} A hd k => k none ρ F G H A (Same.refl G) hd
theorem sim_sl {K : PySem.W.Frag} {te : TE} {tl th : TO} {d : DE} {dl dh : DO} (h : SimE K te d) (hl : SimO K tl dl) (hh : SimO K th dh) : SimR K (tSl (rSlAll K) te tl th) (dSl d dl dh) := by
  intro M Z G0 H0 G H σ ρ F Φ Q A hd k
  refine h A hd fun v x ρ1 F1 G1 H1 A1 e1 r1 q1 => hl A1 q1 fun lo ρ2 F2 G2 H2 A2 e2 q2 => hh A2 q2 fun hi ρ3 F3 G3 H3 A3 e3 q3 => ?_
  have r3 := r1.mono (e2.trans e3)
  have eG := e1.trans (e2.trans e3)
  unfold slD at q3
  split at q3
  · cases r3 with
    | lst hx px => exact .inl ⟨_, _, rfl, SqL.of (A3.gh _ _ hx), fun p hp => by
        obtain ⟨A4, r4⟩ := A3.lst_new hp (px.cut lo hi)
        exact k _ _ _ ρ3 F3 G3 _ A4 eG r4 q3⟩
  · cases r3 with
    | rd hx px => exact .inl ⟨_, _, rfl, same_l A3.gh hx, fun p hp => by
        obtain ⟨A4, r4⟩ := A3.lst_new hp (px.cut lo hi)
        exact k _ _ _ ρ3 F3 G3 _ A4 eG r4 q3⟩
  · cases r3 with
    | tup hx px =>
      refine .inr (.inl ⟨_, _, rfl, same_t A3.gh hx, fun hw => ?_, fun hw p hp => ?_⟩)
      · rw [px.length] at hw
        unfold cutD at q3
        rw [hw.1, hw.2] at q3
        simp only [List.drop_zero, Nat.sub_zero, List.take_length] at q3
        exact k _ _ _ ρ3 F3 G3 H3 A3 eG (.val (.tup hx px)) q3
      · obtain ⟨G4, A4, e4, r4⟩ := A3.tup_new hp (px.cut lo hi)
        exact k _ _ _ ρ3 F3 G4 _ A4 (eG.trans e4) (.val r4) q3
  · cases r3
    exact .inr (.inr ⟨_, rfl, line_le q3.1, k _ _ _ ρ3 F3 G3 H3 A3 eG (.val (.str _)) q3.2⟩)
  · exact q3.elim
section
variable {X : Cx} {e : Expr} {lo hi : Option Expr} {te : TE} {tl th : TO} {d : DE} {dl dh : DO} {pos p2 : Pos}
theorem pdo_none : PDO X none tNoPart dNoPart := ⟨po_none, sim_noPart⟩
theorem pdo_some (h : PD X e te d) : PDO X (some e) (tPart te) (dPart d) := ⟨po_some h.pe, sim_part h.sim⟩
theorem pr_slice (h : PD X e te d) (hl : PDO X lo tl dl) (hh : PDO X hi th dh) : PR X (.Subscript e (.Slice lo hi none p2) pos) (tSl (rSlAll X.K) te tl th) (dSl d dl dh) := ⟨pe_slice sl_all h.pe hl.po hh.po, sim_sl h.sim hl.sim hh.sim⟩
/-- xs[::-1] of a list -/
def dRevL (d : DE) : DR := fun ρ Φ => d ρ fun x ρ1 => match x with
  | .lst xs => Φ (.own xs.reverse) ρ1
  | _ => False
theorem pr_revL {k : Nat} {p1 p3 : Pos} (h : PD X e te d) : PR X (.Subscript e (.Slice none none (some (.UnaryOp .USub (.Constant (.int 1) k p1) p2)) p3) pos) (tRevL X.K te) (dRevL d) := ⟨pe_revL h.pe, fun {M Z G0 H0 G H σ ρ F Φ Q} A hd kk =>
  h.sim A hd fun v x ρ1 F1 G1 H1 A1 e1 r1 q1 => by
    cases r1 with
    | lst hx px => exact ⟨_, _, rfl, SqL.of (A1.gh _ _ hx), fun p hp => by
        obtain ⟨A4, r4⟩ := A1.lst_new hp px.reverse
        exact kk _ _ _ ρ1 F1 G1 _ A4 e1 r4 q1⟩
    | _ => exact q1.elim⟩
end

/-! ### calls of built-ins, by values -/
def SimC (K : PySem.W.Frag) (r : List V → Hp → VK → Prop) (f : List D → (Sl → Prop) → Prop) : Prop := ∀ {M : Addr → Prop} {Z G0 H0 G H : Hp} {σ : L2.St} {ρ : List Sl} {F : Nat → Addr → Prop} {vs : List V} {xs : List D} {Φ : Sl → Prop} {Q : VK}, At K M Z G0 H0 G H σ ρ F → RpL K G vs xs → f xs Φ →
  (∀ u z Fn G' H', At K M Z G0 H0 G' H' σ ρ F → Same G G' → ResOk K Z H0 G' H' F u z Fn → Φ z → Q u H') → r vs H Q
def dCB (f : List D → (Sl → Prop) → Prop) (d : DA) : DR := fun ρ Φ => d ρ fun xs ρ1 => f xs fun z => Φ z ρ1
theorem sim_cb {K : PySem.W.Frag} {r : List V → Hp → VK → Prop} {f : List D → (Sl → Prop) → Prop} {t : TA} {d : DA} (h : SimC K r f) (ha : SimA K t d) : SimR K (tCB r t) (dCB f d) := fun {M Z G0 H0 G H σ ρ F Φ Q} A hd k =>
  ha A hd fun vs xs ρ1 F1 G1 H1 A1 e1 r1 q1 => h A1 r1 q1 fun u z Fn G2 H2 A2 e2 r2 q2 => k u z Fn ρ1 F1 G2 H2 A2 (e1.trans e2) r2 q2
section
variable {X : Cx} {x : Str} {e : Expr} {es : List Expr} {r : List V → Hp → VK → Prop} {f : List D → (Sl → Prop) → Prop} {t : TA} {d : DA} {id T : String} {p pos : Pos}
theorem pr_callB (hc : CallR X (.builtin id) r) (hs : SimC X.K r f) (hm : X.mg x = none) (hv : bootBuiltins x = some (.builtin id)) (ha : PDA X (e :: es) t d) (hg : Gl X x := by rfl) (hn : x ≠ "__name__" := by decide) (hdb : (x == ("__debug__" : Str)) = false := by decide)
    (hst : starEach (e :: es) X.env = (false, eval e X.env) :: starEach es X.env := by rfl) (hpl : (backTo pos (starEach es X.env)).any (·.1) = false := by rfl) : PR X (.Call (.Name x p) (e :: es) [] pos) (tCB r t) (dCB f d) := ⟨pe_callB hc hg hm hv ha.pe hn hdb hst hpl, sim_cb hs ha.sim⟩
theorem pr_callTy (hc : CallR X (.type T) r) (hs : SimC X.K r f) (hm : X.mg x = none) (hv : bootBuiltins x = some (.type T)) (ha : PDA X (e :: es) t d) (hg : Gl X x := by rfl) (hn : x ≠ "__name__" := by decide) (hdb : (x == ("__debug__" : Str)) = false := by decide)
    (hst : starEach (e :: es) X.env = (false, eval e X.env) :: starEach es X.env := by rfl) (hpl : (backTo pos (starEach es X.env)).any (·.1) = false := by rfl) : PR X (.Call (.Name x p) (e :: es) [] pos) (tCB r t) (dCB f d) := ⟨pe_callTy hc hg hm hv ha.pe hn hdb hst hpl, sim_cb hs ha.sim⟩
end
end DL
set_option Elab.async false
set_option linter.all false
set_option maxRecDepth 100000
set_option maxHeartbeats 2000000
namespace DL
open PySem PySem.Spec PyProof.Rows L2

/-! ### targets -/
abbrev DG := D → List Sl → (List Sl → Prop) → Prop
abbrev DGs := List D → List Sl → (List Sl → Prop) → Prop
def SimG (K : PySem.W.Frag) (g : TG) (dg : DG) : Prop := ∀ {M : Addr → Prop} {Z G0 H0 G H : Hp} {σ : L2.St} {ρ : List Sl} {F : Nat → Addr → Prop} {v : V} {x : D} {Φ : List Sl → Prop} {Q : L2.St → Hp → Prop}, At K M Z G0 H0 G H σ ρ F → Rp K G v x → dg x ρ Φ →
  (∀ σ' ρ' F' G' H', At K M Z G0 H0 G' H' σ' ρ' F' → Same G G' → Φ ρ' → Q σ' H') → g v σ H Q
def SimGs (K : PySem.W.Frag) (g : TGs) (dg : DGs) : Prop := ∀ {M : Addr → Prop} {Z G0 H0 G H : Hp} {σ : L2.St} {ρ : List Sl} {F : Nat → Addr → Prop} {vs : List V} {xs : List D} {Φ : List Sl → Prop} {Q : L2.St → Hp → Prop}, At K M Z G0 H0 G H σ ρ F → RpL K G vs xs → dg xs ρ Φ →
  (∀ σ' ρ' F' G' H', At K M Z G0 H0 G' H' σ' ρ' F' → Same G G' → Φ ρ' → Q σ' H') → g vs σ H Q
structure PDG (X : Cx) (e : Expr) (t : TG) (d : DG) : Prop where
  pg : PG X e t
  sim : SimG X.K t d
structure PDGs (X : Cx) (es : List Expr) (t : TGs) (d : DGs) : Prop where
  pg : PGs X es t
  sim : SimGs X.K t d
/-- a slot that may be set -/
def free (ρ : List Sl) (i : Nat) : Prop := match ρ[i]? with
  | some (.arg _) => False
  | some _ => True
  | none => False
theorem free.lt {ρ : List Sl} {i : Nat} (h : free ρ i) : i < ρ.length ∧ ¬ Sl.isArg (ρ[i]?) := by
  unfold free at h
  split at h
  · exact h.elim
  · rename_i x hx e
    refine ⟨(List.getElem?_eq_some_iff.mp e).1, fun z => ?_⟩
    rw [e] at z
    cases x with
    | arg S => exact hx S rfl
    | _ => exact z.elim
  · exact h.elim
def dgName (i : Nat) : DG := fun x ρ Φ => free ρ i ∧ Φ (ρ.set i (.val x))
def dgNil : DGs := fun xs ρ Φ => match xs with
  | [] => Φ ρ
  | _ => False
def dgCons (g : DG) (gs : DGs) : DGs := fun xs ρ Φ => match xs with
  | [] => False
  | x :: r => g x ρ fun ρ1 => gs r ρ1 Φ
def dgTup (n : Nat) (gs : DGs) : DG := fun x ρ Φ => match x with
  | .tup xs => xs.length = n ∧ gs xs ρ Φ
  | _ => False
section
variable {K : PySem.W.Frag}
theorem sim_gName {i : Nat} : SimG K (gName i) (dgName i) := by
  intro M Z G0 H0 G H σ ρ F v x Φ Q A r hd k
  obtain ⟨h1, h2⟩ := hd.1.lt
  exact k _ _ _ G H (A.set (.val r) h1 h2) (Same.refl G) hd.2
theorem sim_gNil : SimGs K gNil dgNil := by
  intro M Z G0 H0 G H σ ρ F vs xs Φ Q A r hd k
  cases r with
  | nil => exact ⟨rfl, k σ ρ F G H A (Same.refl G) hd⟩
  | cons _ _ => exact hd.elim
theorem sim_gCons {g : TG} {gs : TGs} {d : DG} {ds : DGs} (h : SimG K g d) (hs : SimGs K gs ds) : SimGs K (gCons g gs) (dgCons d ds) := by
  intro M Z G0 H0 G H σ ρ F vs xs Φ Q A r hd k
  cases r with
  | nil => exact hd.elim
  | cons r1 rr => exact ⟨_, _, rfl, h A r1 hd fun σ1 ρ1 F1 G1 H1 A1 e1 q1 => hs A1 (rr.mono e1) q1 fun σ2 ρ2 F2 G2 H2 A2 e2 q2 => k σ2 ρ2 F2 G2 H2 A2 (e1.trans e2) q2⟩
theorem sim_gTup {n : Nat} {gs : TGs} {ds : DGs} (h : SimGs K gs ds) : SimG K (gTup K n gs) (dgTup n ds) := by
  intro M Z G0 H0 G H σ ρ F v x Φ Q A r hd k
  cases r with
  | tup hx px => exact ⟨_, _, rfl, same_t A.gh hx, by rw [px.length]; exact hd.1, h A px hd.2 k⟩
  | _ => exact hd.elim
end
section
variable {X : Cx} {pos : Pos}
theorem pdg_name {i : Nat} {x : Str} (hN : X.N.Nodup) (hi : X.N[i]? = some x := by rfl) (hx : Loc X.env.scope x := by first | exact Or.inl rfl | exact Or.inr rfl) (hf : X.fn x = true ∨ X.env.scope.names.lookup x = some .local := by first | exact .inl rfl | exact .inr rfl | assumption) : PDG X (.Name x pos) (gName i) (dgName i) := ⟨pg_name hN hi hx hf, sim_gName⟩
theorem pdgs_nil : PDGs X [] gNil dgNil := ⟨pgs_nil, sim_gNil⟩
theorem pdgs_cons {e : Expr} {es : List Expr} {t : TG} {u : TGs} {d : DG} {du : DGs} (h1 : PDG X e t d) (h2 : PDGs X es u du)
    (hs : (assignEach (e :: es) X.env).map (·.2) = assign e X.env :: (assignEach es X.env).map (·.2) := by rfl) : PDGs X (e :: es) (gCons t u) (dgCons d du) := ⟨pgs_cons h1.pg h2.pg hs, sim_gCons h1.sim h2.sim⟩
theorem pdg_tup {es : List Expr} {k : Nat} {t : TGs} {d : DGs} {n : Nat} (h : PDGs X es t d) (hc : X.calm = true := by rfl)
    (hn : (assignEach es X.env).length = n := by rfl) (hst : (assignEach es X.env).findIdx? (·.1) = none := by rfl) : PDG X (.Tuple es k pos) (gTup X.K n t) (dgTup n d) := ⟨pg_tup hc h.pg hn hst, sim_gTup h.sim⟩
end

/-! ### small statements -/
def dNext : DS := fun Δ ρ => Δ.nx ρ
def dSeq (a b : DS) : DS := fun Δ ρ => a { Δ with nx := b Δ } ρ
def dBreak : DS := fun Δ ρ => Δ.bk ρ
def dCont : DS := fun Δ ρ => Δ.ct ρ
def dDrop (d : DR) : DS := fun Δ ρ => d ρ fun _ ρ1 => Δ.nx ρ1
def dRet (d : DR) : DS := fun Δ ρ => d ρ fun x ρ1 => Δ.rt x ρ1
def dIfS (c : DT) (a b : DS) : DS := fun Δ ρ => c ρ fun k ρ1 => if k = true then a Δ ρ1 else b Δ ρ1
/-- x = e -/
def dSet (i : Nat) (d : DR) : DS := fun Δ ρ => d ρ fun x ρ1 => free ρ1 i ∧ Δ.nx (ρ1.set i x)
/-- a, b = e -/
def dAsg (d : DE) (g : DG) : DS := fun Δ ρ => d ρ fun x ρ1 => g x ρ1 Δ.nx
/-- return x, x one's own -/
def dRetM (i : Nat) : DS := fun Δ ρ => match ρ[i]? with
  | some (.own ds) => Δ.rt (.own ds) ρ
  | some (.loc S) => Δ.rt (.loc S) ρ
  | _ => False
section
variable {K : PySem.W.Frag} {t u : TS} {a b : DS}
theorem sim_next : SimS K tNext dNext := fun {M Z G0 H0 G H σ ρ F Δ Q} A hd k1 _ _ _ => k1 σ ρ F G H A (Same.refl G) hd
theorem sim_break : SimS K tBreak dBreak := fun {M Z G0 H0 G H σ ρ F Δ Q} A hd _ _ k3 _ => k3 σ ρ F G H A (Same.refl G) hd
theorem sim_cont : SimS K tCont dCont := fun {M Z G0 H0 G H σ ρ F Δ Q} A hd _ _ _ k4 => k4 σ ρ F G H A (Same.refl G) hd
theorem sim_never : SimS K tNever (fun _ _ => False) := fun {M Z G0 H0 G H σ ρ F Δ Q} A hd _ _ _ _ => hd.elim
theorem sim_seq (h : SimS K t a) (g : SimS K u b) : SimS K (tSeq t u) (dSeq a b) := fun {M Z G0 H0 G H σ ρ F Δ Q} A hd k1 k2 k3 k4 =>
  h (Δ := { Δ with nx := b Δ }) (Q := { Q with nx := u Q }) A hd (fun σ1 ρ1 F1 G1 H1 A1 e1 q1 => g A1 q1 (fun σ2 ρ2 F2 G2 H2 A2 e2 q2 => k1 σ2 ρ2 F2 G2 H2 A2 (e1.trans e2) q2)
    (fun v x Fn σ2 ρ2 F2 G2 H2 A2 e2 r2 q2 => k2 v x Fn σ2 ρ2 F2 G2 H2 A2 (e1.trans e2) r2 q2) (fun σ2 ρ2 F2 G2 H2 A2 e2 q2 => k3 σ2 ρ2 F2 G2 H2 A2 (e1.trans e2) q2) (fun σ2 ρ2 F2 G2 H2 A2 e2 q2 => k4 σ2 ρ2 F2 G2 H2 A2 (e1.trans e2) q2)) k2 k3 k4
theorem sim_drop {te : TE} {d : DR} (h : SimR K te d) : SimS K (tDrop te) (dDrop d) := fun {M Z G0 H0 G H σ ρ F Δ Q} A hd k1 _ _ _ => h A hd fun v x Fn ρ1 F1 G1 H1 A1 e1 r1 q1 => k1 σ ρ1 F1 G1 H1 A1 e1 q1
theorem ResOk.weak {Z H0 G H : Hp} {F F' : Nat → Addr → Prop} {v : V} {x : Sl} {Fn : Addr → Prop} (r : ResOk K Z H0 G H F v x Fn) (h : ∀ j a, F' j a → F j a) : ResOk K Z H0 G H F' v x Fn :=
  ⟨r.ok, r.na, fun a fa => let ⟨h1, h2, h3, h4, h5⟩ := r.fr a fa; ⟨h1, h2, h3, h4, fun j z => h5 j (h j a z)⟩⟩
theorem sim_ret {te : TE} {d : DR} (h : SimR K te d) : SimS K (tRet te) (dRet d) := fun {M Z G0 H0 G H σ ρ F Δ Q} A hd _ k2 _ _ => h A hd fun v x Fn ρ1 F1 G1 H1 A1 e1 r1 q1 => k2 v x Fn σ ρ1 F1 G1 H1 A1 e1 (r1.weak fun _ _ z => z.2) q1
theorem sim_retM {i : Nat} : SimS K (tRet (tVar i)) (dRetM i) := by
  intro M Z G0 H0 G H σ ρ F Δ Q A hd _ k2 _ _
  have own : ∀ x, ρ[i]? = some x → ¬ Sl.isArg (some x) → (∀ v, (σ[i]?).join = some v → SlOk K G H (some v) (F i) x → Δ.rt x ρ → Q.rt v H) := fun x hx na v hv hs q => by
    refine k2 v x (F i) σ ρ F G H A (Same.refl G) ⟨hs, na, fun a fa => ?_⟩ q
    obtain ⟨h1, h2, h3⟩ := A.fp i a fa
    refine ⟨h1, h2, ?_, ?_, fun j z => ?_⟩
    · rcases h3 with h3 | h3
      · exact h3
      · rw [hx] at h3
        exact absurd h3.2 na
    · cases q : Z a with
      | none => rfl
      | some o => exact absurd fa ((A.hz a o q).2.2 i)
    · have e := A.dj j i a z.2 fa
      rw [e, hx] at z
      exact na z.1
  unfold dRetM at hd
  split at hd
  · rename_i ds e
    obtain ⟨p, vs, h1, h2, h3, h4⟩ := A.sl i _ e
    exact ⟨.ref p, join_some h1, own _ e (fun z => z) (.ref p) h1 ⟨p, vs, rfl, h2, h3, h4⟩ hd⟩
  · rename_i S e
    obtain ⟨v, h1, h2⟩ := A.sl i _ e
    exact ⟨v, join_some h1, own _ e (fun z => z) v h1 ⟨v, rfl, h2⟩ hd⟩
  · exact hd.elim
theorem sim_ifS {c : TT} {dc : DT} (h : SimT K c dc) (h1 : SimS K t a) (h2 : SimS K u b) : SimS K (tIfS c t u) (dIfS dc a b) := fun {M Z G0 H0 G H σ ρ F Δ Q} A hd k1 k2 k3 k4 =>
  h A hd fun c ρ1 F1 G1 H1 A1 e1 q1 => by
    cases c with
    | true => exact h1 A1 q1 (fun σ2 ρ2 F2 G2 H2 A2 e2 q2 => k1 σ2 ρ2 F2 G2 H2 A2 (e1.trans e2) q2) (fun v x Fn σ2 ρ2 F2 G2 H2 A2 e2 r2 q2 => k2 v x Fn σ2 ρ2 F2 G2 H2 A2 (e1.trans e2) r2 q2) (fun σ2 ρ2 F2 G2 H2 A2 e2 q2 => k3 σ2 ρ2 F2 G2 H2 A2 (e1.trans e2) q2) (fun σ2 ρ2 F2 G2 H2 A2 e2 q2 => k4 σ2 ρ2 F2 G2 H2 A2 (e1.trans e2) q2)
    | false => exact h2 A1 q1 (fun σ2 ρ2 F2 G2 H2 A2 e2 q2 => k1 σ2 ρ2 F2 G2 H2 A2 (e1.trans e2) q2) (fun v x Fn σ2 ρ2 F2 G2 H2 A2 e2 r2 q2 => k2 v x Fn σ2 ρ2 F2 G2 H2 A2 (e1.trans e2) r2 q2) (fun σ2 ρ2 F2 G2 H2 A2 e2 q2 => k3 σ2 ρ2 F2 G2 H2 A2 (e1.trans e2) q2) (fun σ2 ρ2 F2 G2 H2 A2 e2 q2 => k4 σ2 ρ2 F2 G2 H2 A2 (e1.trans e2) q2)
theorem sim_set {te : TE} {d : DR} {i : Nat} (h : SimR K te d) : SimS K (tAsg te (gName i)) (dSet i d) := fun {M Z G0 H0 G H σ ρ F Δ Q} A hd k1 _ _ _ => h A hd fun v x Fn ρ1 F1 G1 H1 A1 e1 r1 q1 => by
  obtain ⟨h1, h2⟩ := q1.1.lt
  exact k1 _ _ _ G1 H1 (A1.set r1 h1 h2) e1 q1.2
theorem sim_asg {te : TE} {d : DE} {g : TG} {dg : DG} (h : SimE K te d) (hg : SimG K g dg) : SimS K (tAsg te g) (dAsg d dg) := fun {M Z G0 H0 G H σ ρ F Δ Q} A hd k1 _ _ _ => h A hd fun v x ρ1 F1 G1 H1 A1 e1 r1 q1 =>
  hg A1 r1 q1 fun σ2 ρ2 F2 G2 H2 A2 e2 q2 => k1 σ2 ρ2 F2 G2 H2 A2 (e1.trans e2) q2
end
section
variable {X : Cx} {st : Stmt} {rest as bs : List Stmt} {e c tg : Expr} {t u : TS} {a b : DS} {te : TE} {d : DR} {de : DE} {tc : TT} {dc : DT} {g : TG} {dg : DG} {pos pos' : Pos}
theorem pds_nil : PDSs X [] tNext dNext := ⟨pss_nil, sim_next⟩
theorem pds_cons (h : PDS X st t a) (g : PDSs X rest u b) : PDSs X (st :: rest) (tSeq t u) (dSeq a b) := ⟨pss_cons h.pe g.pe, sim_seq h.sim g.sim⟩
theorem pds_one (h : PDS X st t a) : PDSs X [st] t a := ⟨pss_one h.pe, h.sim⟩
theorem pd_pass : PDS X (.Pass pos) tNext dNext := ⟨ps_pass, sim_next⟩
theorem pd_break : PDS X (.Break pos) tBreak dBreak := ⟨ps_break, sim_break⟩
theorem pd_cont : PDS X (.Continue pos) tCont dCont := ⟨ps_continue, sim_cont⟩
/-- a statement that is never come to -/
theorem pd_never : PDS X st tNever (fun _ _ => False) := ⟨ps_never, sim_never⟩
theorem pd_expr (h : PR X e te d) (hs : swapsWith e none pos.line X.env = pure false := by rfl) : PDS X (.Expr e pos) (tDrop te) (dDrop d) := ⟨ps_expr h.pe hs, sim_drop h.sim⟩
theorem pd_ret (h : PR X e te d) : PDS X (.Return (some e) pos) (tRet te) (dRet d) := ⟨ps_ret h.pe, sim_ret h.sim⟩
/-- return x, a thing of one's own -/
theorem pd_retM (i : Nat) {x : Str} {p : Pos} (hN : X.N[i]? = some x := by rfl) (hv : Vis X.env.scope x := by first | exact Or.inl rfl | exact Or.inr (Or.inl rfl) | exact Or.inr (Or.inr rfl)) (hd : (x == ("__debug__" : Str)) = false := by decide)
    (hcd : (x == ("__classdict__" : Str)) = false := by decide) : PDS X (.Return (some (.Name x p)) pos) (tRet (tVar i)) (dRetM i) := ⟨ps_ret (pe_var hN hv hd hcd), sim_retM⟩
theorem pd_if (hc : PDT X c tc dc) (ha : PDSs X as t a) (hb : PDSs X bs u b) : PDS X (.If c as bs pos) (tIfS tc t u) (dIfS dc a b) := ⟨ps_if hc.pe ha.pe hb.pe, sim_ifS hc.sim ha.sim hb.sim⟩
theorem pd_set {i : Nat} {x : Str} (hN : X.N.Nodup) (h : PR X e te d) (hi : X.N[i]? = some x := by rfl) (hx : Loc X.env.scope x := by first | exact Or.inl rfl | exact Or.inr rfl) (hs : swapsWith e (some (.Name x pos')) pos.line X.env = pure false := by rfl)
    (hf : X.fn x = true ∨ X.env.scope.names.lookup x = some .local := by first | exact .inl rfl | exact .inr rfl | assumption) : PDS X (.Assign [.Name x pos'] e pos) (tAsg te (gName i)) (dSet i d) :=
  ⟨ps_set hN hi hx h.pe hs hf, sim_set h.sim⟩
theorem pd_asg (h : PD X e te de) (hg : PDG X tg g dg) (hs : swapsWithSole [tg] e pos.line X.env = pure false := by rfl) (hw : swappedStores [tg] e X.env = pure none := by rfl)
    (h1 : (assignEach [tg] X.env).map (·.2) = [assign tg X.env] := by rfl) : PDS X (.Assign [tg] e pos) (tAsg te g) (dAsg de dg) := ⟨ps_asg h.pe hg.pg hs hw h1, sim_asg h.sim hg.sim⟩
end
end DL
set_option Elab.async false
set_option linter.all false
set_option maxRecDepth 100000
set_option maxHeartbeats 2000000
namespace DL
open PySem PySem.Spec PyProof.Rows L2 RT

/-! ### what is walked -/
abbrev DI := List Sl → (List D → List Sl → Prop) → Prop
/-- J walks ds -/
def WalkD (K : PySem.W.Frag) (G : Hp) (J : It) (ds : List D) : Prop := Walk J ds.length (fun H2 => Same G H2) (fun i H x H' => H' = H ∧ ∃ d, ds[i]? = some d ∧ Rp K G x d)
def SimI (K : PySem.W.Frag) (wi : TI) (di : DI) : Prop := ∀ {M : Addr → Prop} {Z G0 H0 G H : Hp} {σ : L2.St} {ρ : List Sl} {F : Nat → Addr → Prop} {Φ : List D → List Sl → Prop} {R : It → Hp → Prop}, At K M Z G0 H0 G H σ ρ F → di ρ Φ →
  (∀ J ds ρ' F' G' H', At K M Z G0 H0 G' H' σ ρ' F' → Same G G' → WalkD K G' J ds → Φ ds ρ' → R J H') → wi σ H R
structure PDI (X : Cx) (tg iter : Expr) (wi : TI) (di : DI) : Prop where
  pi : PI X tg iter wi
  sim : SimI X.K wi di
theorem walkD_of {K : PySem.W.Frag} {G : Hp} {J : It} {vs : List V} {ds : List D} {g : Hp → Prop} (w : Walk J vs.length g (YAt vs)) (r : RpL K G vs ds) (hg : ∀ H, Same G H → g H) : WalkD K G J ds := by
  unfold WalkD
  rw [← r.length]
  refine w.mono hg fun i H x H' hi _ y => ⟨y.1, ?_⟩
  exact r.get y.2
/-- a list, a tuple, a text -/
def iAny (K : PySem.W.Frag) (tl : TE) : TI := fun σ H R => tl σ H fun x H1 => (∃ a, x = .ref a ∧ (∃ xs, SqL K H1 a xs) ∧ R (Itl K a) H1) ∨ (∃ a, x = .ref a ∧ (∃ xs, SqT K H1 a xs) ∧ R (Itt K a) H1) ∨ ∃ z, x = .str z ∧ R (Its z) H1
def signs (z : Str) : List D := z.cps.toList.map fun c => .str ⟨#[c]⟩
def itemsD (x : D) (Φ : List D → Prop) : Prop := match x with
  | .lst xs => Φ xs
  | .tup xs => Φ xs
  | .rd xs => Φ xs
  | .str z => Φ (signs z)
  | _ => False
def diAny (d : DE) : DI := fun ρ Φ => d ρ fun x ρ1 => itemsD x fun ds => Φ ds ρ1
theorem sim_iAny {K : PySem.W.Frag} {tl : TE} {d : DE} (h : SimE K tl d) : SimI K (iAny K tl) (diAny d) := by
  intro M Z G0 H0 G H σ ρ F Φ R A hd k
  refine h A hd fun v x ρ1 F1 G1 H1 A1 e1 r1 q1 => ?_
  cases r1 with
  | lst hx px => exact .inl ⟨_, rfl, ⟨_, SqL.of (A1.gh _ _ hx)⟩, k _ _ ρ1 F1 G1 H1 A1 e1 (walkD_of walk_list px fun H2 s => SqL.of (s _ _ hx)) q1⟩
  | rd hx px => exact .inl ⟨_, rfl, ⟨_, same_l A1.gh hx⟩, k _ _ ρ1 F1 G1 H1 A1 e1 (walkD_of walk_list px fun H2 s => same_l s hx) q1⟩
  | tup hx px => exact .inr (.inl ⟨_, rfl, ⟨_, same_t A1.gh hx⟩, k _ _ ρ1 F1 G1 H1 A1 e1 (walkD_of walk_tup px fun H2 s => same_t s hx) q1⟩)
  | str z =>
    refine .inr (.inr ⟨z, rfl, k _ _ ρ1 F1 G1 H1 A1 e1 ?_ q1⟩)
    have w := walk_str (z := z)
    unfold WalkD signs
    rw [List.length_map]
    refine w.mono (fun _ _ => trivial) fun i H x H' hi _ y => ?_
    obtain ⟨e, c, hc, rfl⟩ := y
    refine ⟨e, .str ⟨#[c]⟩, ?_, .str _⟩
    rw [List.getElem?_map]
    have : z.cps.toList[i]? = some c := by simpa using hc
    rw [this]
    rfl
  | _ => exact q1.elim
/-- lo, lo + c, .. -/
def rng : Nat → Int → Int → List D
  | 0, _, _ => []
  | n + 1, i, c => .int i :: rng n (i + c) c
theorem rng_length : ∀ (n : Nat) (i c : Int), (rng n i c).length = n
  | 0, _, _ => rfl
  | n + 1, i, c => by rw [rng, List.length_cons, rng_length n]
theorem rng_get : ∀ (n : Nat) (i c : Int) (k : Nat), k < n → (rng n i c)[k]? = some (.int (i + (k : Nat) * c))
  | 0, _, _, _, h => absurd h (Nat.not_lt_zero _)
  | n + 1, i, c, 0, _ => by simp [rng]
  | n + 1, i, c, k + 1, h => by
    rw [rng, List.getElem?_cons_succ, rng_get n (i + c) c k (by omega)]
    congr 2
    push_cast
    rw [Int.add_mul]
    omega
def inR (i : Int) : Prop := -1000000000 ≤ i ∧ i ≤ 1000000000
def diRng1 (a : DE) : DI := fun ρ Φ => a ρ fun x ρ1 => match x with
  | .int j => inR j ∧ Φ (rng j.toNat 0 1) ρ1
  | _ => False
def diRng2 (a b : DE) : DI := fun ρ Φ => a ρ fun x ρ1 => b ρ1 fun y ρ2 => match x, y with
  | .int i, .int j => inR i ∧ inR j ∧ Φ (rng (j - i).toNat i 1) ρ2
  | _, _ => False
/-- range(a, b, -1) -/
def diRng3 (a b c : DE) : DI := fun ρ Φ => a ρ fun x ρ1 => b ρ1 fun y ρ2 => c ρ2 fun z ρ3 => match x, y, z with
  | .int i, .int j, .int (-1) => inR i ∧ inR j ∧ Φ (rng (i - j).toNat i (-1)) ρ3
  | _, _, _ => False
section
variable {K : PySem.W.Frag} {ta tb tc : TE} {a b c : DE}
theorem sim_rng1 (h : SimE K ta a) : SimI K (iRng1 (tCons ta tNil)) (diRng1 a) := by
  intro M Z G0 H0 G H σ ρ F Φ R A hd k
  refine h A hd fun v x ρ1 F1 G1 H1 A1 e1 r1 q1 => ?_
  cases r1 with
  | int j =>
    refine ⟨j, rfl, ?_, ?_, k _ _ ρ1 F1 G1 H1 A1 e1 ?_ q1.2⟩
    · have := q1.1.1; omega
    · have := q1.1.2; omega
    unfold WalkD
    rw [rng_length]
    refine walk_range.mono (fun _ _ => trivial) fun i H x H' hi _ y => ⟨y.1, _, rng_get _ _ _ i hi, ?_⟩
    rw [y.2, Int.mul_one]
    exact .int _
  | _ => exact q1.elim
theorem sim_rng2 (h : SimE K ta a) (g : SimE K tb b) : SimI K (iRng2 (tCons ta (tCons tb tNil))) (diRng2 a b) := by
  intro M Z G0 H0 G H σ ρ F Φ R A hd k
  refine h A hd fun v x ρ1 F1 G1 H1 A1 e1 r1 q1 => g A1 q1 fun w y ρ2 F2 G2 H2 A2 e2 r2 q2 => ?_
  cases r1 with
  | int i =>
    cases r2 with
    | int j =>
      refine ⟨i, j, rfl, ⟨?_, ?_, ?_, ?_⟩, k _ _ ρ2 F2 G2 H2 A2 (e1.trans e2) ?_ q2.2.2⟩
      · have := q2.1.1; omega
      · have := q2.1.2; omega
      · have := q2.2.1.1; omega
      · have := q2.2.1.2; omega
      unfold WalkD
      rw [rng_length]
      refine walk_range.mono (fun _ _ => trivial) fun i H x H' hi _ y => ⟨y.1, _, rng_get _ _ _ i hi, ?_⟩
      rw [y.2, Int.mul_one]
      exact .int _
    | _ => exact q2.elim
  | _ => exact q2.elim
theorem sim_rng3 (h : SimE K ta a) (g : SimE K tb b) (f : SimE K tc c) : SimI K (iRng3 (tCons ta (tCons tb (tCons tc tNil)))) (diRng3 a b c) := by
  intro M Z G0 H0 G H σ ρ F Φ R A hd k
  refine h A hd fun v x ρ1 F1 G1 H1 A1 e1 r1 q1 => g A1 q1 fun w y ρ2 F2 G2 H2 A2 e2 r2 q2 => f A2 q2 fun u z ρ3 F3 G3 H3 A3 e3 r3 q3 => ?_
  split at q3
  · rename_i i j
    cases r1
    cases r2
    cases r3
    have h1 := q3.1.1
    have h2 := q3.1.2
    have h3 := q3.2.1.1
    have h4 := q3.2.1.2
    refine ⟨i, j, -1, (i - j).toNat, rfl, RgC.neg (by omega) (by omega) (by omega) (by omega), k _ _ ρ3 F3 G3 H3 A3 (e1.trans (e2.trans e3)) ?_ q3.2.2⟩
    unfold WalkD
    rw [rng_length]
    refine walk_rangeC.mono (fun _ _ => trivial) fun i H x H' hi _ y => ⟨y.1, _, rng_get _ _ _ i hi, ?_⟩
    rw [y.2]
    exact .int _
  · exact q3.elim
/-- reversed(list or tuple) -/
def diRev (d : DE) : DI := fun ρ Φ => d ρ fun x ρ1 => match x with
  | .lst xs => Φ xs.reverse ρ1
  | .tup xs => Φ xs.reverse ρ1
  | _ => False
theorem walk_revT {K : PySem.W.Frag} {a : Addr} {xs : List V} : Walk (ItvT K a xs.length) xs.length (fun H => SqT K H a xs) (fun i H x H' => H' = H ∧ xs[xs.length - 1 - i]? = some x) :=
  ⟨fun i _ hi q => ⟨hi, xs, xs[xs.length - 1 - i]'(by omega), q, by simp [show xs.length - 1 - i < xs.length by omega]⟩, fun _ _ => Nat.le_refl _, fun _ _ _ _ _ q y => ⟨y.1, y.2 xs q⟩⟩
theorem walkD_rev {G : Hp} {J : It} {vs : List V} {ds : List D} {g : Hp → Prop} (w : Walk J vs.length g (fun i H x H' => H' = H ∧ vs[vs.length - 1 - i]? = some x)) (r : RpL K G vs ds) (hg : ∀ H, Same G H → g H) : WalkD K G J ds.reverse := by
  unfold WalkD
  rw [List.length_reverse, ← r.length]
  refine w.mono hg fun i H x H' hi _ y => ⟨y.1, ?_⟩
  obtain ⟨d, h1, h2⟩ := r.get y.2
  refine ⟨d, ?_, h2⟩
  rw [List.getElem?_reverse (by rw [← r.length]; exact hi), ← r.length]
  exact h1
theorem sim_iRev (h : SimE K ta a) : SimI K (iRevA K ta) (diRev a) := by
  intro M Z G0 H0 G H σ ρ F Φ R A hd k
  refine h A hd fun v x ρ1 F1 G1 H1 A1 e1 r1 q1 => ?_
  cases r1 with
  | lst hx px => exact ⟨_, _, rfl, .inl ⟨SqL.of (A1.gh _ _ hx), k _ _ ρ1 F1 G1 H1 A1 e1 (walkD_rev walk_rev px fun H2 s => SqL.of (s _ _ hx)) q1⟩⟩
  | tup hx px => exact ⟨_, _, rfl, .inr ⟨same_t A1.gh hx, k _ _ ρ1 F1 G1 H1 A1 e1 (walkD_rev walk_revT px fun H2 s => same_t s hx) q1⟩⟩
  | _ => exact q1.elim
end
section
variable {X : Cx} {tg e e1 e2 e3 : Expr} {te t1 t2 t3 : TE} {d d1 d2 d3 : DE} {p pos : Pos}
theorem pi_any (hl : PE X e te) : PI X tg e (iAny X.K te) := by
  refine ⟨fun pins s σ H R I h => ?_⟩
  refine thn (hl.run pins s σ H _ I h) fun v s1 ⟨x, H1, I1, r1, q1⟩ => ?_
  rcases q1 with ⟨a, e, ⟨xs, hq⟩, q⟩ | ⟨a, e, ⟨xs, hq⟩, q⟩ | ⟨z, e, q⟩
  · subst e
    cases r1
    obtain ⟨its, rv, p, hz⟩ := I1.list hq
    refine wpAny_pyIter_list p.isList ?_
    refine ⟨s1.heap.objs.size, [s1.heap.objs.size], _, _, H1, rfl, I1.kept (t' := s1.toks) fun b o e => Heap.get?_push_of_some _ e, turn_list a _, ⟨_, Heap.get?_push_size _ rfl, rfl, rfl⟩, fun b hb => ?_, q⟩
    have e : b = s1.heap.objs.size := by simpa using hb
    subst e
    exact I1.fpOk (Nat.le_refl _) (I1.hok.fresh (Nat.le_refl _))
  · subst e
    cases r1
    obtain ⟨its, rv, p, hz⟩ := I1.tuple hq
    refine wpAny_pyIter_tuple (show s1.heap.IsTuple a its.toArray from p) ?_
    refine ⟨s1.heap.objs.size, [s1.heap.objs.size], _, _, H1, rfl, I1.kept (t' := s1.toks) fun b o e => Heap.get?_push_of_some _ e, turn_tuple a _, ⟨_, Heap.get?_push_size _ rfl, rfl, rfl⟩, fun b hb => ?_, q⟩
    have e : b = s1.heap.objs.size := by simpa using hb
    subst e
    exact I1.fpOk (Nat.le_refl _) (I1.hok.fresh (Nat.le_refl _))
  · subst e
    obtain ⟨t, rfl⟩ := r1
    cases ha : z.cps.all (· < 128)
    · exact wpAny_pyIter_wide ha (pi_one (tk := s1.toks) I1 _ (turn_str _ z t "str_iterator" (.inr rfl)) ⟨_, Heap.get?_push_size _ rfl, rfl, rfl⟩ q)
    · exact wpAny_pyIter_ascii ha (pi_one (tk := s1.toks) I1 _ (turn_str _ z t "str_ascii_iterator" (.inl rfl)) ⟨_, Heap.get?_push_size _ rfl, rfl, rfl⟩ q)
theorem pdi_any (h : PD X e te d) : PDI X tg e (iAny X.K te) (diAny d) := ⟨pi_any h.pe, sim_iAny h.sim⟩
theorem pdi_rng1 (hm : X.mg "range" = none) (h : PD X e1 t1 d1) (hg : Gl X "range" := by rfl) (hs : starEach [e1] X.env = [(false, eval e1 X.env)] := by rfl) (hs1 : starEach (e1 :: []) X.env = (false, eval e1 X.env) :: starEach [] X.env := by rfl) : PDI X tg (.Call (.Name "range" p) [e1] [] pos) (iRng1 (tCons t1 tNil)) (diRng1 d1) := ⟨pi_range1 hg hm (pa_cons h.pe pa_nil hs1) hs, sim_rng1 h.sim⟩
theorem pdi_rng2 (hm : X.mg "range" = none) (h : PD X e1 t1 d1) (h2 : PD X e2 t2 d2) (hg : Gl X "range" := by rfl) (hs : starEach [e1, e2] X.env = [(false, eval e1 X.env), (false, eval e2 X.env)] := by rfl) (hs2 : starEach [e2] X.env = [(false, eval e2 X.env)] := by rfl)
    (hs3 : starEach (e1 :: [e2]) X.env = (false, eval e1 X.env) :: starEach [e2] X.env := by rfl) (hs4 : starEach (e2 :: []) X.env = (false, eval e2 X.env) :: starEach [] X.env := by rfl) :
    PDI X tg (.Call (.Name "range" p) [e1, e2] [] pos) (iRng2 (tCons t1 (tCons t2 tNil))) (diRng2 d1 d2) := ⟨pi_range2 hg hm (pa_cons h.pe (pa_cons h2.pe pa_nil hs4) hs3) hs hs2, sim_rng2 h.sim h2.sim⟩
theorem pdi_rev (hm : X.mg "reversed" = none) (h : PD X e te d) (hg : Gl X "reversed" := by rfl) (hs : starEach [e] X.env = (false, eval e X.env) :: starEach [] X.env := by rfl) : PDI X tg (.Call (.Name "reversed" p) [e] [] pos) (iRevA X.K te) (diRev d) := ⟨pi_revA hg hm h.pe hs, sim_iRev h.sim⟩
end

/-! ### for -/
def dForL (g : DG) (b : DS) (Δ : Ds) : List D → List Sl → Prop
  | [], ρ => Δ.nx ρ
  | x :: xs, ρ => g x ρ fun ρ1 => b { Δ with nx := dForL g b Δ xs, ct := dForL g b Δ xs, bk := Δ.nx } ρ1
@[irreducible] def dFor (di : DI) (g : DG) (b : DS) : DS := fun Δ ρ => di ρ fun ds ρ1 => dForL g b Δ ds ρ1
theorem sim_for {K : PySem.W.Frag} {wi : TI} {di : DI} {g : TG} {dg : DG} {t : TS} {b : DS} (hi : SimI K wi di) (hg : SimG K g dg) (hb : SimS K t b) : SimS K (tFor wi g t) (dFor di dg b) := by
  intro M Z G0 H0 G H σ ρ F Δ Q A hd k1 k2 k3 k4
  unfold dFor at hd
  refine hi A hd fun J ds ρ1 F1 G1 H1 A1 e1 w q1 => ?_
  refine for_it w (fun i σ' H' => ∃ ρ' F' G', At K M Z G0 H0 G' H' σ' ρ' F' ∧ Same G1 G' ∧ dForL dg b Δ (ds.drop i) ρ') ⟨ρ1, F1, G1, A1, Same.refl G1, q1⟩ (fun i σ' H' _ ⟨ρ', F', G', A', e', _⟩ => e'.trans A'.gh) ?_ ?_
  · rintro i x σ' H' H'' hi ⟨ρ', F', G', A', e', q'⟩ ⟨rfl, d, hd1, hr⟩
    have hdr : ds.drop i = d :: ds.drop (i + 1) := by
      have hlt : i < ds.length := hi
      rw [List.drop_eq_getElem_cons hlt]
      rw [List.getElem?_eq_getElem hlt] at hd1
      rw [Option.some.inj hd1]
    rw [hdr] at q'
    refine hg A' (hr.mono e') q' fun σ2 ρ2 F2 G2 H2 A2 e2 q2 => ?_
    have e12 : Same G1 G2 := e'.trans e2
    refine hb A2 q2 (fun σ3 ρ3 F3 G3 H3 A3 e3 q3 => ⟨ρ3, F3, G3, A3, e12.trans e3, q3⟩) (fun v x Fn σ3 ρ3 F3 G3 H3 A3 e3 r3 q3 => k2 v x Fn σ3 ρ3 F3 G3 H3 A3 (e1.trans (e12.trans e3)) r3 q3)
      (fun σ3 ρ3 F3 G3 H3 A3 e3 q3 => k1 σ3 ρ3 F3 G3 H3 A3 (e1.trans (e12.trans e3)) q3) (fun σ3 ρ3 F3 G3 H3 A3 e3 q3 => ⟨ρ3, F3, G3, A3, e12.trans e3, q3⟩)
  · rintro σ' H' ⟨ρ', F', G', A', e', q'⟩
    rw [List.drop_length] at q'
    exact k1 σ' ρ' F' G' H' A' (e1.trans e') q'
theorem pd_for {X : Cx} {tg iter : Expr} {body : List Stmt} {wi : TI} {di : DI} {g : TG} {dg : DG} {t : TS} {b : DS} {pos : Pos} (hi : PDI X tg iter wi di) (hg : PDG X tg g dg) (hb : PDSs X body t b) (hp : PassesOwn (model X.prog X.w) X.A X.env X.xe := by exact PassesOwn.never) (hc : X.calm = true := by rfl)
    (hs : ∀ x, foldedSetIterable iter X.env x = pure x := by intro _; rfl) : PDS X (.For tg iter body [] pos) (tFor wi g t) (dFor di dg b) := ⟨ps_for hp hc hi.pi hg.pg hb.pe hs, sim_for hi.sim hg.sim hb.sim⟩

/-! ### while -/
@[irreducible] def dWhile (c : DT) (b : DS) : DS := fun Δ ρ => ∃ W : Nat → List Sl → Prop, (∃ m, W m ρ) ∧ ∀ m ρ, W m ρ → c ρ fun k ρ1 => if k = true then b { Δ with nx := fun ρ' => ∃ m', m' < m ∧ W m' ρ', ct := fun ρ' => ∃ m', m' < m ∧ W m' ρ', bk := Δ.nx } ρ1 else Δ.nx ρ1
theorem sim_while {K : PySem.W.Frag} {c : TT} {dc : DT} {t : TS} {b : DS} (h : SimT K c dc) (hb : SimS K t b) : SimS K (tWhile c t) (dWhile dc b) := by
  intro M Z G0 H0 G H σ ρ F Δ Q A hd k1 k2 k3 k4
  unfold dWhile at hd
  obtain ⟨W, ⟨m0, w0⟩, step⟩ := hd
  refine ⟨fun m σ' H' => ∃ ρ' F' G', At K M Z G0 H0 G' H' σ' ρ' F' ∧ Same G G' ∧ W m ρ', ⟨m0, ρ, F, G, A, Same.refl G, w0⟩, ?_⟩
  rintro m σ' H' ⟨ρ', F', G', A', e', w'⟩
  refine h A' (step m ρ' w') fun k ρ1 F1 G1 H1 A1 e1 q1 => ?_
  have e01 : Same G G1 := e'.trans e1
  cases k with
  | true =>
    refine ⟨fun σ3 H3 => ∃ m', m' < m ∧ ∃ ρ3 F3 G3, At K M Z G0 H0 G3 H3 σ3 ρ3 F3 ∧ Same G G3 ∧ W m' ρ3, fun σ3 H3 z => z, ?_⟩
    exact hb A1 q1 (fun σ3 ρ3 F3 G3 H3 A3 e3 ⟨m', lt, q3⟩ => ⟨m', lt, ρ3, F3, G3, A3, e01.trans e3, q3⟩) (fun v x Fn σ3 ρ3 F3 G3 H3 A3 e3 r3 q3 => k2 v x Fn σ3 ρ3 F3 G3 H3 A3 (e01.trans e3) r3 q3)
      (fun σ3 ρ3 F3 G3 H3 A3 e3 q3 => k1 σ3 ρ3 F3 G3 H3 A3 (e01.trans e3) q3) (fun σ3 ρ3 F3 G3 H3 A3 e3 ⟨m', lt, q3⟩ => ⟨m', lt, ρ3, F3, G3, A3, e01.trans e3, q3⟩)
  | false => exact k1 _ ρ1 F1 G1 H1 A1 e01 q1
theorem pd_while {X : Cx} {c : Expr} {body : List Stmt} {tc : TT} {dc : DT} {t : TS} {b : DS} {pos : Pos} (h : PDT X c tc dc) (hb : PDSs X body t b) (hp : PassesOwn (model X.prog X.w) X.A X.env X.xe := by exact PassesOwn.never) : PDS X (.While c body [] pos) (tWhile tc t) (dWhile dc b) := ⟨ps_while hp h.pe hb.pe, sim_while h.sim hb.sim⟩
end DL
set_option Elab.async false
set_option linter.all false
set_option maxRecDepth 100000
set_option maxHeartbeats 2000000
namespace DL
open PySem PySem.Spec PyProof.Rows L2

/-! ### comprehensions -/
theorem wipe_get (σ : L2.St) (i : Nat) : ∀ vs : List Nat, (wipe σ vs)[i]? = if i ∈ vs then (if i < σ.length then some none else none) else σ[i]?
  | [] => by simp [wipe]
  | v :: vs => by
    unfold wipe
    by_cases h : v = i
    · subst h
      rw [if_pos List.mem_cons_self]
      by_cases hl : v < σ.length
      · rw [List.getElem?_set_self (by rw [wipe_length]; exact hl), if_pos hl]
      · rw [List.getElem?_eq_none (by rw [List.length_set, wipe_length]; omega), if_neg hl]
    · rw [List.getElem?_set_ne h, wipe_get σ i vs]
      by_cases hm : i ∈ vs
      · rw [if_pos hm, if_pos (List.mem_cons_of_mem _ hm)]
      · rw [if_neg hm, if_neg (by
          intro z
          rcases List.mem_cons.mp z with z | z
          · exact h z.symm
          · exact hm z)]
theorem wipe_ext {σ τ : L2.St} {vs : List Nat} (hl : σ.length = τ.length) (h : ∀ i, i ∉ vs → σ[i]? = τ[i]?) : wipe σ vs = wipe τ vs := by
  apply List.ext_getElem?
  intro i
  rw [wipe_get, wipe_get, hl]
  by_cases hm : i ∈ vs
  · rw [if_pos hm, if_pos hm]
  · rw [if_neg hm, if_neg hm, h i hm]
theorem wipe_off {σ τ : L2.St} {vs : List Nat} (h : wipe σ vs = wipe τ vs) : σ.length = τ.length ∧ ∀ i, i ∉ vs → σ[i]? = τ[i]? := by
  refine ⟨?_, fun i hm => ?_⟩
  · have := congrArg List.length h
    rw [wipe_length, wipe_length] at this
    exact this
  · have := congrArg (fun l : L2.St => l[i]?) h
    simp only [wipe_get, if_neg hm] at this
    exact this
def wipeR (ρ : List Sl) : List Nat → List Sl
  | [] => ρ
  | v :: vs => (wipeR ρ vs).set v .un
def restR (ρ0 ρ : List Sl) : List Nat → List Sl
  | [] => ρ
  | v :: vs => (restR ρ0 ρ vs).set v ((ρ0[v]?).getD .un)
theorem wipeR_length (ρ : List Sl) : ∀ vs : List Nat, (wipeR ρ vs).length = ρ.length
  | [] => rfl
  | v :: vs => by unfold wipeR; rw [List.length_set, wipeR_length ρ vs]
theorem restR_length (ρ0 ρ : List Sl) : ∀ vs : List Nat, (restR ρ0 ρ vs).length = ρ.length
  | [] => rfl
  | v :: vs => by unfold restR; rw [List.length_set, restR_length ρ0 ρ vs]
theorem wipeR_get (ρ : List Sl) (i : Nat) : ∀ vs : List Nat, (wipeR ρ vs)[i]? = if i ∈ vs then (if i < ρ.length then some .un else none) else ρ[i]?
  | [] => by simp [wipeR]
  | v :: vs => by
    unfold wipeR
    by_cases h : v = i
    · subst h
      rw [if_pos List.mem_cons_self]
      by_cases hl : v < ρ.length
      · rw [List.getElem?_set_self (by rw [wipeR_length]; exact hl), if_pos hl]
      · rw [List.getElem?_eq_none (by rw [List.length_set, wipeR_length]; omega), if_neg hl]
    · rw [List.getElem?_set_ne h, wipeR_get ρ i vs]
      by_cases hm : i ∈ vs
      · rw [if_pos hm, if_pos (List.mem_cons_of_mem _ hm)]
      · rw [if_neg hm, if_neg (by
          intro z
          rcases List.mem_cons.mp z with z | z
          · exact h z.symm
          · exact hm z)]
theorem restR_get (ρ0 ρ : List Sl) (i : Nat) : ∀ vs : List Nat, (restR ρ0 ρ vs)[i]? = if i ∈ vs then (if i < ρ.length then some ((ρ0[i]?).getD .un) else none) else ρ[i]?
  | [] => by simp [restR]
  | v :: vs => by
    unfold restR
    by_cases h : v = i
    · subst h
      rw [if_pos List.mem_cons_self]
      by_cases hl : v < ρ.length
      · rw [List.getElem?_set_self (by rw [restR_length]; exact hl), if_pos hl]
      · rw [List.getElem?_eq_none (by rw [List.length_set, restR_length]; omega), if_neg hl]
    · rw [List.getElem?_set_ne h, restR_get ρ0 ρ i vs]
      by_cases hm : i ∈ vs
      · rw [if_pos hm, if_pos (List.mem_cons_of_mem _ hm)]
      · rw [if_neg hm, if_neg (by
          intro z
          rcases List.mem_cons.mp z with z | z
          · exact h z.symm
          · exact hm z)]
/-- the slots hold data or nothing -/
def clean (ρ : List Sl) : List Nat → Prop
  | [] => True
  | v :: vs => (match ρ[v]? with
    | some .un => True
    | some (.val _) => True
    | _ => False) ∧ clean ρ vs
theorem clean_at {ρ : List Sl} {i : Nat} : ∀ {vs : List Nat}, clean ρ vs → i ∈ vs → ρ[i]? = some .un ∨ ∃ d, ρ[i]? = some (.val d)
  | [], _, h => by simp at h
  | v :: vs, h, hm => by
    rcases List.mem_cons.mp hm with e | hm
    · subst e
      have q := h.1
      split at q
      · rename_i e; exact .inl e
      · rename_i d e; exact .inr ⟨d, e⟩
      · exact q.elim
    · exact clean_at h.2 hm
section
variable {K : PySem.W.Frag} {M : Addr → Prop} {Z G0 H0 G H : Hp} {σ : L2.St} {ρ : List Sl} {F : Nat → Addr → Prop}
theorem At.reslot {τ : L2.St} {π : List Sl} (A : At K M Z G0 H0 G H σ ρ F) (hl : τ.length = π.length) (hs : ∀ (i : Nat) (x : Sl), π[i]? = some x → SlOk K G H ((τ[i]?).join) (F i) x) (hno : ∀ i : Nat, π[i]? = none → ρ[i]? = none) (ha : ∀ i : Nat, (∃ a, F i a) → Sl.isArg (ρ[i]?) → Sl.isArg (π[i]?)) : At K M Z G0 H0 G H τ π F where
  gh := A.gh
  g0 := A.g0
  h0 := A.h0
  fr := A.fr
  hn := A.hn
  len := hl
  sl := hs
  no := fun i h => A.no i (hno i h)
  fp := fun i a fa => by
    obtain ⟨h1, h2, h3⟩ := A.fp i a fa
    refine ⟨h1, h2, ?_⟩
    rcases h3 with h3 | ⟨h3, h4⟩
    · exact .inl h3
    · exact .inr ⟨h3, ha i ⟨a, fa⟩ h4⟩
  dj := A.dj
  hz := A.hz
theorem At.empty {i : Nat} (A : At K M Z G0 H0 G H σ ρ F) (h : ρ[i]? = some .un ∨ ∃ d, ρ[i]? = some (.val d)) : ∀ a, ¬ F i a := by
  rcases h with h | ⟨d, h⟩
  · exact A.sl i _ h
  · exact (A.sl i _ h).1
/-- into the block -/
theorem At.wipe {τ : L2.St} {vs : List Nat} (A : At K M Z G0 H0 G H σ ρ F) (c : clean ρ vs) (e : L2.wipe σ vs = L2.wipe τ vs) : At K M Z G0 H0 G H (L2.wipe τ vs) (wipeR ρ vs) F := by
  rw [← e]
  refine A.reslot (by rw [wipe_length, wipeR_length]; exact A.len) (fun i x hx => ?_) (fun i h => ?_) (fun i ⟨a, fa⟩ h => ?_)
  · rw [wipeR_get] at hx
    rw [wipe_get]
    by_cases hm : i ∈ vs
    · rw [if_pos hm] at hx
      by_cases hl : i < ρ.length
      · rw [if_pos hl] at hx
        cases hx
        exact A.empty (clean_at c hm)
      · rw [if_neg hl] at hx
        cases hx
    · rw [if_neg hm] at hx ⊢
      exact A.sl i x hx
  · rw [wipeR_get] at h
    by_cases hm : i ∈ vs
    · rw [if_pos hm] at h
      by_cases hl : i < ρ.length
      · rw [if_pos hl] at h
        cases h
      · exact List.getElem?_eq_none (by omega)
    · rw [if_neg hm] at h
      exact h
  · rw [wipeR_get]
    by_cases hm : i ∈ vs
    · exact absurd fa (A.empty (clean_at c hm) a)
    · rw [if_neg hm]
      exact h
/-- out of the block -/
theorem At.rest {π : List Sl} {F1 : Nat → Addr → Prop} {G1 H1 : Hp} {Z1 : Hp} {vs : List Nat} (A : At K M Z G0 H0 G H (L2.wipe σ vs) (wipeR ρ vs) F) (B : At K M Z1 G0 H0 G1 H1 σ π F1) (c : clean π vs) (hl : π.length = ρ.length) (e : Same G1 G) :
    At K M Z G0 H0 G H σ (restR π ρ vs) F := by
  refine A.reslot (by rw [restR_length, ← hl]; exact B.len) (fun i x hx => ?_) (fun i h => ?_) (fun i fa h => ?_)
  · rw [restR_get] at hx
    by_cases hm : i ∈ vs
    · rw [if_pos hm] at hx
      by_cases hi : i < ρ.length
      · rw [if_pos hi] at hx
        have hF : ∀ a, ¬ F i a := A.sl i .un (by rw [wipeR_get, if_pos hm, if_pos hi])
        rcases clean_at c hm with h | ⟨d, h⟩
        · rw [h] at hx
          cases hx
          exact hF
        · rw [h] at hx
          cases hx
          obtain ⟨v, h1, h2⟩ := B.val h
          exact ⟨hF, v, by rw [h1]; rfl, h2.mono e⟩
      · rw [if_neg hi] at hx
        cases hx
    · rw [if_neg hm] at hx
      have q := A.sl i x (by rw [wipeR_get, if_neg hm]; exact hx)
      rw [wipe_get, if_neg hm] at q
      exact q
  · rw [restR_get] at h
    rw [wipeR_get]
    by_cases hm : i ∈ vs
    · rw [if_pos hm] at h ⊢
      by_cases hi : i < ρ.length
      · rw [if_pos hi] at h
        cases h
      · rw [if_neg hi]
    · rw [if_neg hm] at h ⊢
      exact h
  · rw [wipeR_get] at h
    rw [restR_get]
    by_cases hm : i ∈ vs
    · rw [if_pos hm] at h
      by_cases hi : i < ρ.length
      · rw [if_pos hi] at h
        exact h.elim
      · rw [if_neg hi] at h
        exact h.elim
    · rw [if_neg hm] at h ⊢
      exact h
/-- a new thing stands aside -/
theorem At.hide {p : Addr} {o : HO} (A : At K M Z G0 H0 G H σ ρ F) (n : H p = none) : At K M (upd Z p o) G0 H0 G (upd H p o) σ ρ F := by
  have B := A.newH (o := o) n
  refine ⟨B.gh, B.g0, B.h0, B.fr, B.hn, B.len, B.sl, B.no, B.fp, B.dj, fun a u h => ?_⟩
  by_cases e : a = p
  · subst e
    rw [upd_same] at h ⊢
    exact ⟨h, A.gh.free n, fun i fa => (A.fp i _ fa).2.1 n⟩
  · rw [upd_ne e] at h ⊢
    exact A.hz a u h
theorem At.rehide {p : Addr} {o o' : HO} (A : At K M (upd Z p o) G0 H0 G H σ ρ F) (h0 : H0 p = none) : At K M (upd Z p o') G0 H0 G (upd H p o') σ ρ F := by
  obtain ⟨z1, z2, z3⟩ := A.hz p o upd_same
  refine ⟨fun a u h => ?_, A.g0, fun a u h n => ?_, A.fr, fun a h => ?_, A.len, fun i x h => (A.sl i x h).st (Same.refl G) fun a fa => upd_ne fun e => z3 i (by rw [← e]; exact fa), A.no, fun i a fa => ?_, A.dj, fun a u h => ?_⟩
  · rw [upd_ne (ne_of_none h z2)]
    exact A.gh a u h
  · rw [upd_ne (ne_of_none h h0)]
    exact A.h0 a u h n
  · by_cases e : a = p
    · rw [e, upd_same]
      exact Option.some_ne_none _
    · rw [upd_ne e]
      exact A.hn a h
  · obtain ⟨h1, h2, h3⟩ := A.fp i a fa
    refine ⟨h1, ?_, h3⟩
    rw [upd_ne fun e => z3 i (by rw [← e]; exact fa)]
    exact h2
  · by_cases e : a = p
    · subst e
      rw [upd_same] at h ⊢
      exact ⟨h, z2, z3⟩
    · rw [upd_ne e] at h ⊢
      exact A.hz a u (by rw [upd_ne e]; exact h)
theorem At.unhide {p : Addr} {o : HO} (A : At K M (upd Z p o) G0 H0 G H σ ρ F) (n : Z p = none) : At K M Z G0 H0 G H σ ρ F :=
  ⟨A.gh, A.g0, A.h0, A.fr, A.hn, A.len, A.sl, A.no, A.fp, A.dj, fun a u h => A.hz a u (by rw [upd_ne (ne_of_none h n)]; exact h)⟩
end
/-- a target that sets these slots alone -/
def Sets (vs : List Nat) (g : TG) : Prop := ∀ (v : V) (σ : L2.St) (H : Hp) (Q : L2.St → Hp → Prop), g v σ H Q → g v σ H fun σ' H' => wipe σ' vs = wipe σ vs ∧ Q σ' H'
def SetsL (vs : List Nat) (g : TGs) : Prop := ∀ (v : List V) (σ : L2.St) (H : Hp) (Q : L2.St → Hp → Prop), g v σ H Q → g v σ H fun σ' H' => wipe σ' vs = wipe σ vs ∧ Q σ' H'
theorem sets_name {vs : List Nat} {i : Nat} (h : i ∈ vs) : Sets vs (gName i) := fun v σ H Q q => ⟨wipe_ext (by rw [List.length_set]) fun j hj => List.getElem?_set_ne fun e => hj (by rw [← e]; exact h), q⟩
theorem sets_nil {vs : List Nat} : SetsL vs gNil := fun v σ H Q q => ⟨q.1, rfl, q.2⟩
def MonoGs (g : TGs) : Prop := ∀ (v : List V) (σ : L2.St) (H : Hp) (Q Q' : L2.St → Hp → Prop), (∀ σ' H', Q σ' H' → Q' σ' H') → g v σ H Q → g v σ H Q'
def MonoG (g : TG) : Prop := ∀ (v : V) (σ : L2.St) (H : Hp) (Q Q' : L2.St → Hp → Prop), (∀ σ' H', Q σ' H' → Q' σ' H') → g v σ H Q → g v σ H Q'
theorem mono_name {i : Nat} : MonoG (gName i) := fun v σ H Q Q' h q => h _ _ q
theorem mono_nil : MonoGs gNil := fun v σ H Q Q' h q => ⟨q.1, h _ _ q.2⟩
theorem mono_cons {g : TG} {gs : TGs} (h : MonoG g) (hs : MonoGs gs) : MonoGs (gCons g gs) := fun v σ H Q Q' k ⟨x, r, e, q⟩ => ⟨x, r, e, h _ _ _ _ _ (fun σ' H' z => hs _ _ _ _ _ k z) q⟩
theorem mono_tup {K : PySem.W.Frag} {n : Nat} {gs : TGs} (h : MonoGs gs) : MonoG (gTup K n gs) := fun v σ H Q Q' k ⟨a, xs, e, h1, h2, q⟩ => ⟨a, xs, e, h1, h2, h _ _ _ _ _ k q⟩
theorem sets_cons {vs : List Nat} {g : TG} {gs : TGs} (h : Sets vs g) (hm : MonoG g) (hs : SetsL vs gs) (hms : MonoGs gs) : SetsL vs (gCons g gs) := fun v σ H Q ⟨x, r, e, q⟩ =>
  ⟨x, r, e, hm _ _ _ _ _ (fun σ' H' ⟨z1, z2⟩ => hms _ _ _ _ _ (fun σ2 H2 ⟨y1, y2⟩ => ⟨y1.trans z1, y2⟩) (hs _ _ _ _ z2)) (h _ _ _ _ q)⟩
theorem sets_tup {vs : List Nat} {K : PySem.W.Frag} {n : Nat} {gs : TGs} (h : SetsL vs gs) : Sets vs (gTup K n gs) := fun v σ H Q ⟨a, xs, e, h1, h2, q⟩ => ⟨a, xs, e, h1, h2, h _ _ _ _ q⟩

def dLcL (vs : List Nat) (g : DG) (tt : DT) (te : DE) : List D → List D → List Sl → (List D → List Sl → Prop) → Prop
  | [], acc, ρ, Φ => Φ acc ρ
  | x :: xs, acc, ρ, Φ => g x (wipeR ρ vs) fun ρ2 => tt ρ2 fun b ρ3 => if b = true then te ρ3 fun y ρ4 => clean ρ4 vs ∧ dLcL vs g tt te xs (acc ++ [y]) ρ4 Φ else clean ρ3 vs ∧ dLcL vs g tt te xs acc ρ3 Φ
/-- [te for g in di if tt]; vs: its own slots -/
@[irreducible] def dLc (di : DI) (g : DG) (tt : DT) (te : DE) (vs : List Nat) : DR := fun ρ Φ => di ρ fun ds ρ1 => ds.length ≤ 1000000 ∧ clean ρ1 vs ∧ dLcL vs g tt te ds [] ρ1 fun acc ρ2 => Φ (.own acc) (restR ρ1 ρ2 vs)
theorem sim_lc {K : PySem.W.Frag} {wi : TI} {di : DI} {g : TG} {dg : DG} {tt : TT} {dt : DT} {te : TE} {de : DE} {vs : List Nat} (hi : SimI K wi di) (hg : SimG K g dg) (hm : MonoG g) (hs : Sets vs g) (ht : SimT K tt dt) (he : SimE K te de) : SimR K (tLc wi g tt te vs) (dLc di dg dt de vs) := by
  intro M Z G0 H0 G H σ ρ F Φ Q A hd k
  unfold dLc at hd
  refine hi A hd fun J ds ρ1 F1 G1 H1 A1 e1 w ⟨hz, hc, q1⟩ => ?_
  intro D hD
  have zD : Z D = none := by
    cases q : Z D with
    | none => rfl
    | some o =>
      have := (A1.hz D o q).1
      rw [hD] at this
      cases this
  have hD0 : H0 D = none := by
    cases q : H0 D with
    | none => rfl
    | some o => exact absurd hD (A1.hn D (by rw [q]; exact Option.some_ne_none _))
  refine lc_it w (fun i H' => ∃ ρ' F' G' accv acc, At K M (upd Z D (.lst accv)) G0 H0 G' H' (L2.wipe σ vs) (wipeR ρ' vs) F' ∧ Same G1 G' ∧ RpL K G' accv acc ∧ acc.length ≤ i ∧ ρ'.length = ρ1.length ∧ dLcL vs dg dt de (ds.drop i) acc ρ' fun acc ρ2 => Φ (.own acc) (restR ρ1 ρ2 vs))
    ⟨ρ1, F1, G1, [], [], (A1.hide hD).wipe hc rfl, Same.refl G1, .nil, Nat.le_refl _, rfl, q1⟩ (fun i H' _ ⟨ρ', F', G', accv, acc, A', e', _⟩ => e'.trans A'.gh) ?_ ?_
  · rintro i x H' H'' hi ⟨ρ', F', G', accv, acc, A', e', ra, hl, hln, q'⟩ ⟨rfl, d, hd1, hr⟩
    have hlt : i < ds.length := hi
    have hdr : ds.drop i = d :: ds.drop (i + 1) := by
      rw [List.drop_eq_getElem_cons hlt]
      rw [List.getElem?_eq_getElem hlt] at hd1
      rw [Option.some.inj hd1]
    rw [hdr] at q'
    refine hm _ _ _ _ _ (fun σ' H2 ⟨z1, z2⟩ => ?_) (hs _ _ _ _ (hg (Q := fun σ' H' => ∃ ρ2 F2 G2, At K M (upd Z D (.lst accv)) G0 H0 G2 H' σ' ρ2 F2 ∧ Same G' G2 ∧ dt ρ2 fun b ρ3 => if b = true then de ρ3 fun y ρ4 => clean ρ4 vs ∧ dLcL vs dg dt de (ds.drop (i + 1)) (acc ++ [y]) ρ4 (fun acc ρ2 => Φ (.own acc) (restR ρ1 ρ2 vs)) else clean ρ3 vs ∧ dLcL vs dg dt de (ds.drop (i + 1)) acc ρ3 (fun acc ρ2 => Φ (.own acc) (restR ρ1 ρ2 vs)))
      A' (hr.mono e') q' fun σ2 ρ2 F2 G2 H2 A2 e2 q2 => ⟨ρ2, F2, G2, A2, e2, q2⟩))
    obtain ⟨ρ2, F2, G2, A2, e2, q2⟩ := z2
    have zw : L2.wipe σ' vs = L2.wipe σ vs := by
      rw [z1]
      exact wipe_ext (by rw [wipe_length]) fun j hj => by rw [wipe_get, if_neg hj]
    refine ⟨zw, ht A2 q2 fun b ρ3 F3 G3 H3 A3 e3 q3 => ?_⟩
    have len3 : ρ3.length = ρ1.length := by rw [← A3.len, A2.len, ← A2.len, (wipe_off zw).1]; exact A1.len
    cases b with
    | true =>
      refine he A3 q3 fun v y ρ4 F4 G4 H4 A4 e4 r4 ⟨c4, q4⟩ => ?_
      have eG : Same G1 G4 := e'.trans (e2.trans (e3.trans e4))
      have hacc := (A4.hz D _ upd_same).1
      have ra4 : RpL K G4 accv acc := ra.mono (e2.trans (e3.trans e4))
      refine ⟨accv, hacc, line_lt (by rw [ra.length]; omega), ρ4, F4, G4, accv ++ [v], acc ++ [y], (A4.rehide hD0).wipe c4 zw, eG, ra4.snoc r4, by rw [List.length_append, List.length_singleton]; omega, ?_, q4⟩
      rw [← A4.len, A3.len]
      exact len3
    | false =>
      obtain ⟨c3, q3⟩ := q3
      exact ⟨ρ3, F3, G3, accv, acc, A3.wipe c3 zw, e'.trans (e2.trans e3), ra.mono (e2.trans e3), by omega, len3, q3⟩
  · rintro H' ⟨ρ', F', G', accv, acc, A', e', ra, hl, hln, q'⟩
    rw [List.drop_length] at q'
    have B := (A'.unhide zD).rest A1 hc hln.symm e'
    obtain ⟨z1, z2, z3⟩ := A'.hz D _ upd_same
    exact k (.ref D) (.own acc) (fun a => a = D) _ F' G' H' B (e1.trans e') ⟨⟨D, accv, rfl, fun a => Iff.rfl, z1, ra⟩, fun z => z, fun a ea => by
      subst ea
      exact ⟨z2, by rw [z1]; exact Option.some_ne_none _, hD0, zD, z3⟩⟩ q'
end DL
set_option Elab.async false
set_option linter.all false
set_option maxRecDepth 100000
set_option maxHeartbeats 2000000
namespace DL
open PySem PySem.Spec PyProof.Rows L2

structure PDTs (X : Cx) (ifs : List Expr) (t : TT) (d : DT) : Prop where
  pts : PTs X ifs t
  sim : SimT X.K t d
def dYes : DT := fun ρ Φ => Φ true ρ
theorem sim_yes {K : PySem.W.Frag} : SimT K tYes dYes := fun {M Z G0 H0 G H σ ρ F Φ Q} A hd k => k true ρ F G H A (Same.refl G) hd
section
variable {X : Cx}
theorem pdts_nil : PDTs X [] tYes dYes := ⟨pts_nil, sim_yes⟩
theorem pdts_one {c : Expr} {t : TT} {d : DT} (h : PDT X c t d) : PDTs X [c] t d := ⟨pts_one h.pe, h.sim⟩
theorem pr_lc {elt tg iter : Expr} {ifs : List Expr} {scope : Scope} {own : List (Str × Nat)} {pos : Pos} {wi : TI} {di : DI} {g : Shared → Hp → Addr → List (Str × Addr) → List Addr → TG} {dg : DG} {tt : Shared → Hp → Addr → List (Str × Addr) → List Addr → TT} {dt : DT} {te : Shared → Hp → Addr → List (Str × Addr) → List Addr → TE} {de : DE} (hN : X.N.Nodup) (hi : PDI X tg iter wi di) (ok : BlkOk X.N X.env.scope scope own)
    (hg : ∀ (s : Shared) (H : Hp) (C : Addr) (cl : List (Str × Addr)) (fp : List Addr), PDG (X.blk s H scope (compEnvC scope cl C X.env) fp) tg (g s H C cl fp) dg) (hm : MonoG (g X.s_0 X.H_0 0 [] [])) (hst : Sets (own.map (·.2)) (g X.s_0 X.H_0 0 [] []))
    (ht : ∀ (s : Shared) (H : Hp) (C : Addr) (cl : List (Str × Addr)) (fp : List Addr), PDTs (X.blk s H scope (compEnvC scope cl C X.env) fp) ifs (tt s H C cl fp) dt) (he : ∀ (s : Shared) (H : Hp) (C : Addr) (cl : List (Str × Addr)) (fp : List Addr), PD (X.blk s H scope (compEnvC scope cl C X.env) fp) elt (te s H C cl fp) de)
    (hgE : ∀ (s : Shared) (H : Hp) (C : Addr) (cl : List (Str × Addr)) (fp : List Addr), g s H C cl fp = g X.s_0 X.H_0 0 [] [] := by intros; rfl) (htE : ∀ (s : Shared) (H : Hp) (C : Addr) (cl : List (Str × Addr)) (fp : List Addr), tt s H C cl fp = tt X.s_0 X.H_0 0 [] [] := by intros; rfl) (heE : ∀ (s : Shared) (H : Hp) (C : Addr) (cl : List (Str × Addr)) (fp : List Addr), te s H C cl fp = te X.s_0 X.H_0 0 [] [] := by intros; rfl)
    (hc : X.calm = true := by rfl) (hs : ∀ x, foldedSetIterable iter X.env x = pure x := by intro _; rfl) : PR X (.ListComp elt [⟨tg, iter, ifs, 0⟩] scope pos) (tLc wi (g X.s_0 X.H_0 0 [] []) (tt X.s_0 X.H_0 0 [] []) (te X.s_0 X.H_0 0 [] []) (own.map (·.2))) (dLc di dg dt de (own.map (·.2))) :=
  ⟨pe_lc hc hN hi.pi ok (fun s H C cl fp => hgE s H C cl fp ▸ (hg s H C cl fp).pg) (fun s H C cl fp => htE s H C cl fp ▸ (ht s H C cl fp).pts) (fun s H C cl fp => heE s H C cl fp ▸ (he s H C cl fp).pe) hs,
    sim_lc hi.sim (hg X.s_0 X.H_0 0 [] []).sim hm hst (ht X.s_0 X.H_0 0 [] []).sim (he X.s_0 X.H_0 0 [] []).sim⟩
/-- y = [..] -/
theorem pd_setLc {i : Nat} {y : Str} {py : Pos} {elt tg iter : Expr} {ifs : List Expr} {scope : Scope} {pos spos : Pos} {wi : TI} {di : DI} {g : Shared → Hp → Addr → List (Str × Addr) → List Addr → TG} {dg : DG} {tt : Shared → Hp → Addr → List (Str × Addr) → List Addr → TT} {dt : DT} {te : Shared → Hp → Addr → List (Str × Addr) → List Addr → TE} {de : DE} (own : List (Str × Nat)) (hN : X.N.Nodup) (hyl : X.env.scope.names.lookup y = some .local)
    (hsw : swapsWith (.ListComp elt [⟨tg, iter, ifs, 0⟩] scope pos) (some (.Name y py)) spos.line X.env = pure true) (hi : PDI X tg iter wi di) (ok : BlkOk X.N X.env.scope scope own)
    (hg : ∀ (s : Shared) (H : Hp) (C : Addr) (cl : List (Str × Addr)) (fp : List Addr), PDG (X.blk s H scope (compEnvC scope cl C X.env) fp) tg (g s H C cl fp) dg) (hm : MonoG (g X.s_0 X.H_0 0 [] [])) (hst : Sets (own.map (·.2)) (g X.s_0 X.H_0 0 [] []))
    (ht : ∀ (s : Shared) (H : Hp) (C : Addr) (cl : List (Str × Addr)) (fp : List Addr), PDTs (X.blk s H scope (compEnvC scope cl C X.env) fp) ifs (tt s H C cl fp) dt) (he : ∀ (s : Shared) (H : Hp) (C : Addr) (cl : List (Str × Addr)) (fp : List Addr), PD (X.blk s H scope (compEnvC scope cl C X.env) fp) elt (te s H C cl fp) de)
    (hgE : ∀ (s : Shared) (H : Hp) (C : Addr) (cl : List (Str × Addr)) (fp : List Addr), g s H C cl fp = g X.s_0 X.H_0 0 [] [] := by intros; rfl) (htE : ∀ (s : Shared) (H : Hp) (C : Addr) (cl : List (Str × Addr)) (fp : List Addr), tt s H C cl fp = tt X.s_0 X.H_0 0 [] [] := by intros; rfl) (heE : ∀ (s : Shared) (H : Hp) (C : Addr) (cl : List (Str × Addr)) (fp : List Addr), te s H C cl fp = te X.s_0 X.H_0 0 [] [] := by intros; rfl)
    (hy : X.N[i]? = some y := by rfl) (hc : X.calm = true := by rfl) (hs : ∀ x, foldedSetIterable iter X.env x = pure x := by intro _; rfl) :
    PDS X (.Assign [.Name y py] (.ListComp elt [⟨tg, iter, ifs, 0⟩] scope pos) spos) (tAsg (tLc wi (g X.s_0 X.H_0 0 [] []) (tt X.s_0 X.H_0 0 [] []) (te X.s_0 X.H_0 0 [] []) (own.map (·.2))) (gName i)) (dSet i (dLc di dg dt de (own.map (·.2)))) :=
  ⟨ps_setLc hc hN hy hyl hsw hi.pi ok (fun s H C cl fp => hgE s H C cl fp ▸ (hg s H C cl fp).pg) (fun s H C cl fp => htE s H C cl fp ▸ (ht s H C cl fp).pts) (fun s H C cl fp => heE s H C cl fp ▸ (he s H C cl fp).pe) hs,
    sim_set (sim_lc hi.sim (hg X.s_0 X.H_0 0 [] []).sim hm hst (ht X.s_0 X.H_0 0 [] []).sim (he X.s_0 X.H_0 0 [] []).sim)⟩
theorem sim_dr {K : PySem.W.Frag} {t : TE} {d : DE} (h : SimE K t d) : SimR K t (dR d) := fun {M Z G0 H0 G H σ ρ F Φ Q} A hd k => h A hd fun v x ρ' F' G' H' A' eG r q => k v (.val x) _ ρ' F' G' H' A' eG (.val r) q
/-- x = [..], never changed behind -/
theorem pd_setLcV {i : Nat} {y : Str} {py : Pos} {elt tg iter : Expr} {ifs : List Expr} {scope : Scope} {pos spos : Pos} {wi : TI} {di : DI} {g : Shared → Hp → Addr → List (Str × Addr) → List Addr → TG} {dg : DG} {tt : Shared → Hp → Addr → List (Str × Addr) → List Addr → TT} {dt : DT} {te : Shared → Hp → Addr → List (Str × Addr) → List Addr → TE} {de : DE} (own : List (Str × Nat)) (hN : X.N.Nodup) (hyl : X.env.scope.names.lookup y = some .local)
    (hsw : swapsWith (.ListComp elt [⟨tg, iter, ifs, 0⟩] scope pos) (some (.Name y py)) spos.line X.env = pure true) (hi : PDI X tg iter wi di) (ok : BlkOk X.N X.env.scope scope own)
    (hg : ∀ (s : Shared) (H : Hp) (C : Addr) (cl : List (Str × Addr)) (fp : List Addr), PDG (X.blk s H scope (compEnvC scope cl C X.env) fp) tg (g s H C cl fp) dg) (hm : MonoG (g X.s_0 X.H_0 0 [] [])) (hst : Sets (own.map (·.2)) (g X.s_0 X.H_0 0 [] []))
    (ht : ∀ (s : Shared) (H : Hp) (C : Addr) (cl : List (Str × Addr)) (fp : List Addr), PDTs (X.blk s H scope (compEnvC scope cl C X.env) fp) ifs (tt s H C cl fp) dt) (he : ∀ (s : Shared) (H : Hp) (C : Addr) (cl : List (Str × Addr)) (fp : List Addr), PD (X.blk s H scope (compEnvC scope cl C X.env) fp) elt (te s H C cl fp) de)
    (hgE : ∀ (s : Shared) (H : Hp) (C : Addr) (cl : List (Str × Addr)) (fp : List Addr), g s H C cl fp = g X.s_0 X.H_0 0 [] [] := by intros; rfl) (htE : ∀ (s : Shared) (H : Hp) (C : Addr) (cl : List (Str × Addr)) (fp : List Addr), tt s H C cl fp = tt X.s_0 X.H_0 0 [] [] := by intros; rfl) (heE : ∀ (s : Shared) (H : Hp) (C : Addr) (cl : List (Str × Addr)) (fp : List Addr), te s H C cl fp = te X.s_0 X.H_0 0 [] [] := by intros; rfl)
    (hy : X.N[i]? = some y := by rfl) (hc : X.calm = true := by rfl) (hs : ∀ x, foldedSetIterable iter X.env x = pure x := by intro _; rfl) :
    PDS X (.Assign [.Name y py] (.ListComp elt [⟨tg, iter, ifs, 0⟩] scope pos) spos) (tAsg (tLc wi (g X.s_0 X.H_0 0 [] []) (tt X.s_0 X.H_0 0 [] []) (te X.s_0 X.H_0 0 [] []) (own.map (·.2))) (gName i)) (dSet i (dR (dV (dLc di dg dt de (own.map (·.2)))))) :=
  ⟨ps_setLc hc hN hy hyl hsw hi.pi ok (fun s H C cl fp => hgE s H C cl fp ▸ (hg s H C cl fp).pg) (fun s H C cl fp => htE s H C cl fp ▸ (ht s H C cl fp).pts) (fun s H C cl fp => heE s H C cl fp ▸ (he s H C cl fp).pe) hs,
    sim_set (sim_dr (sim_dv (sim_lc hi.sim (hg X.s_0 X.H_0 0 [] []).sim hm hst (ht X.s_0 X.H_0 0 [] []).sim (he X.s_0 X.H_0 0 [] []).sim)))⟩
end

/-! ### lists of one's own -/
/-- x.append(e) -/
def dApp (i : Nat) (de : DE) : DR := fun ρ Φ => match ρ[i]? with
  | some (.own _) => de ρ fun x ρ1 => match ρ1[i]? with
    | some (.own ds) => ds.length ≤ 1000000 ∧ Φ (.val .non) (ρ1.set i (.own (ds ++ [x])))
    | _ => False
  | _ => False
/-- x.extend(e) -/
def dExt (i : Nat) (de : DE) : DR := fun ρ Φ => match ρ[i]? with
  | some (.own _) => de ρ fun x ρ1 => match ρ1[i]?, x with
    | some (.own ds), .lst es => ds.length + es.length ≤ 1000000 ∧ Φ (.val .non) (ρ1.set i (.own (ds ++ es)))
    | _, _ => False
  | _ => False
/-- x.pop(e) -/
def dPop (i : Nat) (de : DE) : DR := fun ρ Φ => match ρ[i]? with
  | some (.own _) => de ρ fun x ρ1 => match ρ1[i]?, x with
    | some (.own ds), .int j => 0 ≤ j ∧ j < 1000000 ∧ match ds[j.toNat]? with
      | some y => Φ (.val y) (ρ1.set i (.own (ds.eraseIdx j.toNat)))
      | none => False
    | _, _ => False
  | _ => False
/-- len(x) -/
def dLenOwn (i : Nat) : DR := fun ρ Φ => match ρ[i]? with
  | some (.own ds) => Φ (.val (.int ds.length)) ρ
  | _ => False
section
variable {K : PySem.W.Frag} {i : Nat} {te : TE} {de : DE}
theorem sim_app (h : SimE K te de) : SimR K (tBM K "list" rAppend (tVar i) (tCons te tNil)) (dApp i de) := by
  intro M Z G0 H0 G H σ ρ F Φ Q A hd k
  unfold dApp at hd
  split at hd
  · rename_i ds0 e0
    obtain ⟨p, vs, h1, h2, h3, h4, h5, h6⟩ := A.own_at e0
    refine ⟨_, h1, .inl ⟨rfl, vs, SqL.of h3⟩, ?_⟩
    refine h A hd fun v x ρ1 F1 G1 H1 A1 e1 r1 q1 => ?_
    split at q1
    · rename_i ds e2
      obtain ⟨p', vs', g1, g2, g3, g4, g5, g6⟩ := A1.own_at e2
      rw [h1] at g1
      cases g1
      have hz : vs'.length ≤ 1000000 := by rw [g4.length]; exact q1.1
      exact ⟨p, vs', v, rfl, rfl, g3, line_lt hz, k _ (.val .non) _ _ F1 G1 _ (A1.own_set e2 h1 (g4.snoc r1)) e1 (.val .non) q1.2⟩
    · exact q1.elim
  · exact hd.elim
theorem sim_ext (h : SimE K te de) : SimR K (tBM K "list" rExtend (tVar i) (tCons te tNil)) (dExt i de) := by
  intro M Z G0 H0 G H σ ρ F Φ Q A hd k
  unfold dExt at hd
  split at hd
  · rename_i ds0 e0
    obtain ⟨p, vs, h1, h2, h3, h4, h5, h6⟩ := A.own_at e0
    refine ⟨_, h1, .inl ⟨rfl, vs, SqL.of h3⟩, ?_⟩
    refine h A hd fun v x ρ1 F1 G1 H1 A1 e1 r1 q1 => ?_
    split at q1
    · rename_i ds es e2
      obtain ⟨p', vs', g1, g2, g3, g4, g5, g6⟩ := A1.own_at e2
      rw [h1] at g1
      cases g1
      cases r1 with
      | lst hx px =>
        have hz := line_le q1.1
        rw [← g4.length, ← px.length] at hz
        exact ⟨p, _, vs', _, rfl, rfl, g3, A1.gh _ _ hx, hz, k _ (.val .non) _ _ F1 G1 _ (A1.own_set e2 h1 (g4.append px)) e1 (.val .non) q1.2⟩
    · exact q1.elim
  · exact hd.elim
theorem sim_pop (h : SimE K te de) : SimR K (tBM K "list" rPopAt (tVar i) (tCons te tNil)) (dPop i de) := by
  intro M Z G0 H0 G H σ ρ F Φ Q A hd k
  unfold dPop at hd
  split at hd
  · rename_i ds0 e0
    obtain ⟨p, vs, h1, h2, h3, h4, h5, h6⟩ := A.own_at e0
    refine ⟨_, h1, .inl ⟨rfl, vs, SqL.of h3⟩, ?_⟩
    refine h A hd fun v x ρ1 F1 G1 H1 A1 e1 r1 q1 => ?_
    split at q1
    · rename_i ds j e2
      obtain ⟨p', vs', g1, g2, g3, g4, g5, g6⟩ := A1.own_at e2
      rw [h1] at g1
      cases g1
      cases r1
      obtain ⟨q2, q3, q4⟩ := q1
      split at q4
      · rename_i y ey
        obtain ⟨w, ew, rw'⟩ := g4.tget ey
        have hj : j.toNat < vs'.length := (List.getElem?_eq_some_iff.mp ew).1
        refine ⟨p, vs', j, j.toNat, w, rfl, rfl, g3, by omega, by omega, seqIndex_of q2 (by omega), ew, k w (.val y) _ _ F1 G1 _ (A1.own_set e2 h1 (g4.eraseIdx _)) e1 (.val rw') q4⟩
      · exact q4.elim
    · exact q1.elim
  · exact hd.elim
theorem sim_lenOwn : SimR K (tCB (fun xs H Q => ∃ x n, xs = [x] ∧ LenV K x H n ∧ Q (.int n) H) (tCons (tVar i) tNil)) (dLenOwn i) := by
  intro M Z G0 H0 G H σ ρ F Φ Q A hd k
  unfold dLenOwn at hd
  split at hd
  · rename_i ds e0
    obtain ⟨p, vs, h1, h2, h3, h4, h5, h6⟩ := A.own_at e0
    refine ⟨_, h1, _, vs.length, rfl, .inl ⟨vs, SqL.of h3, rfl⟩, ?_⟩
    rw [h4.length]
    exact k _ _ _ ρ F G H A (Same.refl G) (.val (.int _)) hd
  · exact hd.elim
end
section
variable {X : Cx} {e : Expr} {te : TE} {de : DE} {p apos cpos pos : Pos} {x : Str}
theorem pr_app (i : Nat) (he : PD X e te de) (hN : X.N[i]? = some x := by rfl) (hv : Vis X.env.scope x := by first | exact Or.inl rfl | exact Or.inr (Or.inl rfl) | exact Or.inr (Or.inr rfl)) (hd : (x == ("__debug__" : Str)) = false := by decide)
    (hcd : (x == ("__classdict__" : Str)) = false := by decide) (hbase : attributeBase (.Name x p) "append" X.env (eval (.Name x p) X.env) = eval (.Name x p) X.env := by rfl)
    (hfew : ((backTo cpos (starEach (e :: []) X.env)).all (fun x => !x.1) && (backToKw cpos (keywordEach [] X.env)).all (fun x => x.1.isSome)
      && decide ((e :: []).length + ([] : List Keyword).length + (if ([] : List Keyword).isEmpty then 0 else 1) < 30)) = true := by rfl)
    (hline : (apos.endLine == cpos.line) = true := by rfl) (hs : starEach (e :: []) X.env = (false, eval e X.env) :: starEach [] X.env := by rfl) (hplain : (backTo cpos (starEach [] X.env)).any (·.1) = false := by rfl) :
    PR X (.Call (.Attribute (.Name x p) "append" apos) [e] [] cpos) (tBM X.K "list" rAppend (tVar i) (tCons te tNil)) (dApp i de) :=
  ⟨pe_bm PySem.F.plainAttrs_list PySem.F.slot_list_append PySem.F.type_list_append mt_append (pe_var hN hv hd hcd) (pa_cons he.pe pa_nil hs) hbase hfew hline hs hplain, sim_app he.sim⟩
theorem pr_ext (i : Nat) (he : PD X e te de) (hN : X.N[i]? = some x := by rfl) (hv : Vis X.env.scope x := by first | exact Or.inl rfl | exact Or.inr (Or.inl rfl) | exact Or.inr (Or.inr rfl)) (hd : (x == ("__debug__" : Str)) = false := by decide)
    (hcd : (x == ("__classdict__" : Str)) = false := by decide) (hbase : attributeBase (.Name x p) "extend" X.env (eval (.Name x p) X.env) = eval (.Name x p) X.env := by rfl)
    (hfew : ((backTo cpos (starEach (e :: []) X.env)).all (fun x => !x.1) && (backToKw cpos (keywordEach [] X.env)).all (fun x => x.1.isSome)
      && decide ((e :: []).length + ([] : List Keyword).length + (if ([] : List Keyword).isEmpty then 0 else 1) < 30)) = true := by rfl)
    (hline : (apos.endLine == cpos.line) = true := by rfl) (hs : starEach (e :: []) X.env = (false, eval e X.env) :: starEach [] X.env := by rfl) (hplain : (backTo cpos (starEach [] X.env)).any (·.1) = false := by rfl) :
    PR X (.Call (.Attribute (.Name x p) "extend" apos) [e] [] cpos) (tBM X.K "list" rExtend (tVar i) (tCons te tNil)) (dExt i de) :=
  ⟨pe_bm PySem.F.plainAttrs_list PySem.F.slot_list_extend PySem.F.type_list_extend mt_extend (pe_var hN hv hd hcd) (pa_cons he.pe pa_nil hs) hbase hfew hline hs hplain, sim_ext he.sim⟩
theorem pr_pop (i : Nat) (he : PD X e te de) (hN : X.N[i]? = some x := by rfl) (hv : Vis X.env.scope x := by first | exact Or.inl rfl | exact Or.inr (Or.inl rfl) | exact Or.inr (Or.inr rfl)) (hd : (x == ("__debug__" : Str)) = false := by decide)
    (hcd : (x == ("__classdict__" : Str)) = false := by decide) (hbase : attributeBase (.Name x p) "pop" X.env (eval (.Name x p) X.env) = eval (.Name x p) X.env := by rfl)
    (hfew : ((backTo cpos (starEach (e :: []) X.env)).all (fun x => !x.1) && (backToKw cpos (keywordEach [] X.env)).all (fun x => x.1.isSome)
      && decide ((e :: []).length + ([] : List Keyword).length + (if ([] : List Keyword).isEmpty then 0 else 1) < 30)) = true := by rfl)
    (hline : (apos.endLine == cpos.line) = true := by rfl) (hs : starEach (e :: []) X.env = (false, eval e X.env) :: starEach [] X.env := by rfl) (hplain : (backTo cpos (starEach [] X.env)).any (·.1) = false := by rfl) :
    PR X (.Call (.Attribute (.Name x p) "pop" apos) [e] [] cpos) (tBM X.K "list" rPopAt (tVar i) (tCons te tNil)) (dPop i de) :=
  ⟨pe_bm PySem.F.plainAttrs_list PySem.F.slot_list_pop PySem.F.type_list_pop mt_popAt (pe_var hN hv hd hcd) (pa_cons he.pe pa_nil hs) hbase hfew hline hs hplain, sim_pop he.sim⟩
theorem pr_lenOwn (i : Nat) (hm : X.mg "len" = none) (hg : Gl X "len" := by rfl) (hN : X.N[i]? = some x := by rfl) (hv : Vis X.env.scope x := by first | exact Or.inl rfl | exact Or.inr (Or.inl rfl) | exact Or.inr (Or.inr rfl)) (hd : (x == ("__debug__" : Str)) = false := by decide)
    (hcd : (x == ("__classdict__" : Str)) = false := by decide) (hs : starEach ((.Name x p) :: []) X.env = (false, eval (.Name x p) X.env) :: starEach [] X.env := by rfl) (hpl : (backTo pos (starEach [] X.env)).any (·.1) = false := by rfl) :
    PR X (.Call (.Name "len" cpos) [.Name x p] [] pos) (tCB (fun xs H Q => ∃ x n, xs = [x] ∧ LenV X.K x H n ∧ Q (.int n) H) (tCons (tVar i) tNil)) (dLenOwn i) :=
  ⟨pe_callB call_len hg hm PySem.boot_len (pa_cons (pe_var hN hv hd hcd) pa_nil hs) (by decide) (by decide) hs hpl, sim_lenOwn⟩
end
end DL
set_option Elab.async false
set_option linter.all false
set_option maxRecDepth 100000
set_option maxHeartbeats 2000000
namespace DL
open PySem PySem.Spec PyProof.Rows L2

/-! ### defs of one's own -/
abbrev DF := List D → (Sl → Prop) → Prop
abbrev DFO := OT → List D → (Sl → OT → Prop) → Prop
/-- data in; data out, or a new thing -/
def SpV (K : PySem.W.Frag) (f : DF) : Sp := fun vs H Q _ => ∃ (G : Hp) (ds : List D) (Φ : Sl → Prop), Same G H ∧ RpL K G vs ds ∧ f ds Φ ∧
  ∀ v r Fr G' H', Same G G' → Same H H' → Same G' H' → (∀ a, H a ≠ none → G' a = G a) → ResOk K (fun _ => none) H G' H' (fun _ _ => False) v r Fr → Φ r → Q v H'
/-- the first argument a thing that may change -/
def SpO (K : PySem.W.Frag) (f : DFO) : Sp := fun vs H Q _ => ∃ (G : Hp) (S : OT) (Fs : Addr → Prop) (ds : List D) (Φ : Sl → OT → Prop) (v0 : V) (ws : List V), vs = v0 :: ws ∧ S.ok K G H v0 Fs ∧ (∀ a, Fs a → G a = none ∧ H a ≠ none) ∧ Same G H ∧ RpL K G ws ds ∧ f S ds Φ ∧
  ∀ v r Fr S' Fs' G' H', Same G G' → (∀ a o, H a = some o → ¬ Fs a → H' a = some o) → (∀ a, H a ≠ none → H' a ≠ none) → Same G' H' → (∀ a, H a ≠ none → G' a = G a) → S'.root = S.root → S'.ok K G' H' v0 Fs' → (∀ a, Fs' a → G' a = none ∧ H' a ≠ none ∧ (Fs a ∨ H a = none)) →
    ResOk K (fun _ => none) H G' H' (fun _ a => Fs' a) v r Fr → Φ r S' → Q v H'

/-- f(..) -/
def dCall (f : DF) (d : DA) : DR := fun ρ Φ => d ρ fun xs ρ1 => f xs fun r => Φ r ρ1
theorem sim_call {K : PySem.W.Frag} {f : DF} {t : TA} {d : DA} {E : XK} (h : SimA K t d) : SimR K (tCall (SpV K f) [] E t) (dCall f d) := by
  intro M Z G0 H0 G H σ ρ F Φ Q A hd k
  refine h A hd fun vs xs ρ1 F1 G1 H1 A1 e1 r1 q1 => ?_
  rw [List.append_nil]
  refine ⟨G1, xs, _, A1.gh, r1, q1, fun v r Fr G2 H2 eG eH eGH old hr q2 => ?_⟩
  have A2 := A1.grow eG eH eGH old
  refine k v r Fr ρ1 F1 G2 H2 A2 (e1.trans eG) ⟨hr.ok, hr.na, fun a fa => ?_⟩ q2
  obtain ⟨h1, h2, h3, _, _⟩ := hr.fr a fa
  refine ⟨h1, h2, ?_, ?_, fun j z => (A1.fp j a z).2.1 h3⟩
  · cases q : H0 a with
    | none => rfl
    | some o => exact absurd h3 (A1.hn a (by rw [q]; exact Option.some_ne_none _))
  · cases q : Z a with
    | none => rfl
    | some o =>
      have := (A1.hz a o q).1
      rw [h3] at this
      cases this
/-- f(x, ..), x in slot i a thing that may change -/
def dCallOk (f : DFO) (i : Nat) (xs : List D) (ρ1 : List Sl) (Φ : Sl → List Sl → Prop) : Prop := match ρ1[i]? with
  | some (.loc S) => f S xs fun r S' => Φ r (ρ1.set i (.loc S'))
  | some (.arg S) => f S xs fun r S' => Φ r (ρ1.set i (.arg S'))
  | _ => False
def dCallO (f : DFO) (i : Nat) (d : DA) : DR := fun ρ Φ => match ρ[i]? with
  | some (.loc _) => d ρ fun xs ρ1 => dCallOk f i xs ρ1 Φ
  | some (.arg _) => d ρ fun xs ρ1 => dCallOk f i xs ρ1 Φ
  | _ => False
theorem At.mut_at {K : PySem.W.Frag} {M : Addr → Prop} {Z G0 H0 G H : Hp} {σ : L2.St} {ρ : List Sl} {F : Nat → Addr → Prop} {i : Nat} {S : OT} (A : At K M Z G0 H0 G H σ ρ F) (h : ρ[i]? = some (.loc S) ∨ ρ[i]? = some (.arg S)) :
    σ[i]? = some (some S.root) ∧ S.ok K G H S.root (F i) ∧ ∀ a, F i a → G a = none ∧ H a ≠ none := by
  have q : ∃ v, (σ[i]?).join = some v ∧ S.ok K G H v (F i) := by
    rcases h with h | h
    · exact A.sl i _ h
    · exact A.sl i _ h
  obtain ⟨v, e, hs⟩ := q
  have e2 := OT.pin hs
  rw [e2] at e hs
  exact ⟨join_some e, hs, fun a fa => ⟨(A.fp i a fa).1, (A.fp i a fa).2.1⟩⟩
/-- behind a call that changes what stands in slot i -/
theorem At.called {K : PySem.W.Frag} {M : Addr → Prop} {Z G0 H0 G H : Hp} {σ : L2.St} {ρ : List Sl} {F : Nat → Addr → Prop} {i : Nat} {S S' : OT} {Fs' : Addr → Prop} {G' H' : Hp} {v : V} {r : Sl} {Fr : Addr → Prop} {x : Sl} (A : At K M Z G0 H0 G H σ ρ F)
    (h : (ρ[i]? = some (.loc S) ∧ x = .loc S') ∨ (ρ[i]? = some (.arg S) ∧ x = .arg S'))
    (eG : Same G G') (eH : ∀ a o, H a = some o → ¬ F i a → H' a = some o) (hn : ∀ a, H a ≠ none → H' a ≠ none) (eGH : Same G' H') (old : ∀ a, H a ≠ none → G' a = G a) (er : S'.root = S.root) (hs : S'.ok K G' H' S.root Fs') (hf : ∀ a, Fs' a → G' a = none ∧ H' a ≠ none ∧ (F i a ∨ H a = none))
    (hr : ResOk K (fun _ => none) H G' H' (fun _ a => Fs' a) v r Fr) : ∃ F', At K M Z G0 H0 G' H' σ (ρ.set i x) F' ∧ ResOk K Z H0 G' H' F' v r Fr := by
  have hi : i < ρ.length := by
    rcases h with h | h
    · exact (List.getElem?_eq_some_iff.mp h.1).1
    · exact (List.getElem?_eq_some_iff.mp h.1).1
  obtain ⟨h1, h2, h3⟩ := A.mut_at (S := S) (h.elim (fun z => .inl z.1) fun z => .inr z.1)
  have hx : SlOk K G' H' ((σ[i]?).join) Fs' x := by
    rcases h with h | h
    · rw [h.2, h1]
      exact ⟨S.root, rfl, hs⟩
    · rw [h.2, h1]
      exact ⟨S.root, rfl, hs⟩
  have B := A.chg (i := i) (x := x) (Fn := Fs') hi eG eGH old hn eH hx (fun z => by
    rcases h with h | h
    · rw [h.1] at z
      exact z.elim
    · rw [h.2]
      trivial) (fun a fa => ⟨(hf a fa).1, (hf a fa).2.1, (hf a fa).2.2.elim .inl fun z => .inr (.inl z)⟩)
  refine ⟨_, B, hr.ok, hr.na, fun a fa => ?_⟩
  obtain ⟨g1, g2, g3, _, g5⟩ := hr.fr a fa
  refine ⟨g1, g2, ?_, ?_, fun j z => ?_⟩
  · cases q : H0 a with
    | none => rfl
    | some o => exact absurd g3 (A.hn a (by rw [q]; exact Option.some_ne_none _))
  · cases q : Z a with
    | none => rfl
    | some o =>
      have := (A.hz a o q).1
      rw [g3] at this
      cases this
  · by_cases hj : j = i
    · rw [if_pos hj] at z
      exact g5 0 z
    · rw [if_neg hj] at z
      exact (A.fp j a z).2.1 g3
theorem sim_callO {K : PySem.W.Frag} {f : DFO} {i : Nat} {t : TA} {d : DA} {E : XK} (h : SimA K t d) : SimR K (tCall (SpO K f) [] E (tCons (tVar i) t)) (dCallO f i d) := by
  intro M Z G0 H0 G H σ ρ F Φ Q A hd k
  have hd' : ∃ S0, (ρ[i]? = some (.loc S0) ∨ ρ[i]? = some (.arg S0)) ∧ d ρ fun xs ρ1 => dCallOk f i xs ρ1 Φ := by
    unfold dCallO at hd
    split at hd
    · rename_i S e
      exact ⟨S, .inl e, hd⟩
    · rename_i S e
      exact ⟨S, .inr e, hd⟩
    · exact hd.elim
  obtain ⟨S0, hS0, hd⟩ := hd'
  obtain ⟨h1, h2, h3⟩ := A.mut_at hS0
  refine ⟨S0.root, h1, h A hd fun vs xs ρ1 F1 G1 H1 A1 e1 r1 q1 => ?_⟩
  unfold dCallOk at q1
  show SpO K f (S0.root :: vs ++ []) H1 Q E
  rw [List.append_nil]
  split at q1
  · rename_i S eS
    obtain ⟨g1, g2, g3⟩ := A1.mut_at (.inl eS)
    have er : S.root = S0.root := by
      rw [h1] at g1
      exact (Option.some.inj (Option.some.inj g1)).symm
    rw [← er]
    refine ⟨G1, S, F1 i, xs, _, S.root, vs, rfl, g2, g3, A1.gh, r1, q1, fun v r Fr S' Fs' G2 H2 eG eH hn eGH old er' hs hf hr q2 => ?_⟩
    obtain ⟨F2, A2, hr2⟩ := A1.called (x := .loc S') (.inl ⟨eS, rfl⟩) eG eH hn eGH old er' hs hf hr
    exact k v r Fr _ F2 G2 H2 A2 (e1.trans eG) hr2 q2
  · rename_i S eS
    obtain ⟨g1, g2, g3⟩ := A1.mut_at (.inr eS)
    have er : S.root = S0.root := by
      rw [h1] at g1
      exact (Option.some.inj (Option.some.inj g1)).symm
    rw [← er]
    refine ⟨G1, S, F1 i, xs, _, S.root, vs, rfl, g2, g3, A1.gh, r1, q1, fun v r Fr S' Fs' G2 H2 eG eH hn eGH old er' hs hf hr q2 => ?_⟩
    obtain ⟨F2, A2, hr2⟩ := A1.called (x := .arg S') (.inr ⟨eS, rfl⟩) eG eH hn eGH old er' hs hf hr
    exact k v r Fr _ F2 G2 H2 A2 (e1.trans eG) hr2 q2
  · exact q1.elim
section
variable {X : Cx} {k : Nat} {f : DF} {fo : DFO} {fa : Addr} {fd : FuncData} {ps : List Str} {x y : Str} {e a : Expr} {es : List Expr} {t : TA} {d : DA} {p pos q : Pos}
theorem pr_call (G : FnOk X.prog X.w X.K X.mg X.base CX0 k fa fd ps (SpV X.K f)) (hr : Room k X.A) (hm : X.mg x = some (.ref fa)) (hk : PySem.W.keepIn X.K (.ref fa) = true) (hb : Binds X.K fd ps []) (ha : PDA X (e :: es) t d) (hg : Gl X x := by rfl)
    (hdb : (x == ("__debug__" : Str)) = false := by decide) (hs : starEach (e :: es) X.env = (false, eval e X.env) :: starEach es X.env := by rfl) (hpl : (backTo pos (starEach es X.env)).any (·.1) = false := by rfl) :
    PR X (.Call (.Name x p) (e :: es) [] pos) (tCall (SpV X.K f) [] E0 t) (dCall f d) := ⟨pe_call G hr hg hm hk hb .nil pass0 ha.pe hdb hs hpl, sim_call ha.sim⟩
theorem pr_call0 (G : FnOk X.prog X.w X.K X.mg X.base CX0 k fa fd ps (SpV X.K f)) (hr : Room k X.A) (hm : X.mg x = some (.ref fa)) (hk : PySem.W.keepIn X.K (.ref fa) = true) (hb : Binds X.K fd ps []) (hg : Gl X x := by rfl)
    (hdb : (x == ("__debug__" : Str)) = false := by decide) : PR X (.Call (.Name x p) [] [] pos) (tCall (SpV X.K f) [] E0 tNil) (dCall f dNil) := ⟨pe_call0 G hr hg hm hk hb .nil pass0 hdb, sim_call sim_nil⟩
theorem pr_callO (i : Nat) (G : FnOk X.prog X.w X.K X.mg X.base CX0 k fa fd ps (SpO X.K fo)) (hr : Room k X.A) (hm : X.mg x = some (.ref fa)) (hk : PySem.W.keepIn X.K (.ref fa) = true) (hb : Binds X.K fd ps []) (ha : PDA X es t d) (hg : Gl X x := by rfl)
    (hN : X.N[i]? = some y := by rfl) (hv : Vis X.env.scope y := by first | exact Or.inl rfl | exact Or.inr (Or.inl rfl) | exact Or.inr (Or.inr rfl)) (hdy : (y == ("__debug__" : Str)) = false := by decide) (hcd : (y == ("__classdict__" : Str)) = false := by decide)
    (hdb : (x == ("__debug__" : Str)) = false := by decide) (hs : starEach (.Name y q :: es) X.env = (false, eval (.Name y q) X.env) :: starEach es X.env := by rfl) (hpl : (backTo pos (starEach es X.env)).any (·.1) = false := by rfl) :
    PR X (.Call (.Name x p) (.Name y q :: es) [] pos) (tCall (SpO X.K fo) [] E0 (tCons (tVar i) t)) (dCallO fo i d) := ⟨pe_call G hr hg hm hk hb .nil pass0 (pa_cons (pe_var hN hv hdy hcd) ha.pe hs) hdb hs hpl, sim_callO ha.sim⟩
end

/-! ### what a def keeps -/
def rtV (Φ : Sl → Prop) : Ds := { nx := fun _ => Φ (.val .non), rt := fun x _ => Φ x }
def rtOx (S : OT) (Φ : Sl → OT → Prop) (x : Sl) (ρ : List Sl) : Prop := match ρ[0]? with
  | some (Sl.arg S') => S'.root = S.root ∧ Φ x S'
  | _ => False
def rtO (S : OT) (Φ : Sl → OT → Prop) : Ds := { nx := fun ρ => rtOx S Φ (.val .non) ρ, rt := fun x ρ => rtOx S Φ x ρ }
def slots (ds : List D) (n : Nat) : List Sl := ds.map Sl.val ++ List.replicate (n - ds.length) Sl.un
theorem start_slots {K : PySem.W.Frag} {G : Hp} {vs : List V} {ds : List D} (r : RpL K G vs ds) (N : List Str) : (start N vs).length = (slots ds N.length).length ∧ ∀ (i : Nat) (x : Sl), (slots ds N.length)[i]? = some x →
    x = .un ∨ ∃ d v, x = .val d ∧ (start N vs)[i]? = some (some v) ∧ Rp K G v d := by
  have hl := r.length
  refine ⟨by simp [L2.start, slots, hl], fun i x h => ?_⟩
  unfold slots at h
  unfold L2.start
  by_cases hi : i < ds.length
  · rw [List.getElem?_append_left (by simpa using hi), List.getElem?_map] at h
    rw [List.getElem?_append_left (by simpa [hl] using hi), List.getElem?_map]
    cases e : ds[i]? with
    | none =>
      rw [e] at h
      cases h
    | some d =>
      rw [e] at h
      cases h
      obtain ⟨v, h1, h2⟩ := r.tget e
      exact .inr ⟨d, v, rfl, by rw [h1]; rfl, h2⟩
  · rw [List.getElem?_append_right (by simpa using hi)] at h
    rw [List.getElem?_replicate] at h
    split at h
    · cases h
      exact .inl rfl
    · cases h
theorem At.start {K : PySem.W.Frag} {G H : Hp} {vs : List V} {ds : List D} (gh : Same G H) (r : RpL K G vs ds) (N : List Str) : At K (fun _ => False) (fun _ => none) G H G H (start N vs) (slots ds N.length) (fun _ _ => False) where
  gh := gh
  g0 := Same.refl G
  h0 := fun _ _ h _ => h
  fr := fun _ _ => rfl
  hn := fun _ h => h
  len := (start_slots r N).1
  sl := fun i x h => by
    rcases (start_slots r N).2 i x h with e | ⟨d, v, e, h1, h2⟩
    · subst e
      exact fun _ z => z
    · subst e
      exact ⟨fun _ z => z, v, by rw [h1]; rfl, h2⟩
  no := fun _ _ _ z => z
  fp := fun _ _ z => z.elim
  dj := fun _ _ _ z => z.elim
  hz := fun _ _ z => by cases z
/-- with a thing of the caller's ahead -/
theorem At.startO {K : PySem.W.Frag} {G H : Hp} {v0 : V} {vs : List V} {ds : List D} {S : OT} {Fs : Addr → Prop} (gh : Same G H) (hs : S.ok K G H v0 Fs) (hf : ∀ a, Fs a → G a = none ∧ H a ≠ none) (r : RpL K G vs ds) (n : Str) (N : List Str) :
    At K Fs (fun _ => none) G H G H (L2.start (n :: N) (v0 :: vs)) (.arg S :: slots ds N.length) (fun i a => i = 0 ∧ Fs a) where
  gh := gh
  g0 := Same.refl G
  h0 := fun _ _ h _ => h
  fr := fun _ _ => rfl
  hn := fun _ h => h
  len := by
    have := (start_slots r N).1
    unfold L2.start at this ⊢
    simp at this ⊢
    omega
  sl := fun i x h => by
    have es : L2.start (n :: N) (v0 :: vs) = some v0 :: L2.start N vs := by
      unfold L2.start
      simp
    rw [es]
    cases i with
    | zero =>
      cases h
      refine ⟨v0, rfl, ?_⟩
      have e : (fun a => (0 : Nat) = 0 ∧ Fs a) = Fs := by
        funext a
        exact propext ⟨fun z => z.2, fun z => ⟨rfl, z⟩⟩
      rw [e]
      exact hs
    | succ j =>
      rw [List.getElem?_cons_succ] at h ⊢
      rcases (start_slots r N).2 j x h with e | ⟨d, v, e, h1, h2⟩
      · subst e
        exact fun _ z => absurd z.1 (by omega)
      · subst e
        exact ⟨fun _ z => absurd z.1 (by omega), v, by rw [h1]; rfl, h2⟩
  no := fun i h a z => by
    rw [z.1] at h
    cases h
  fp := fun i a z => by
    obtain ⟨rfl, z⟩ := z
    exact ⟨(hf a z).1, (hf a z).2, .inr ⟨z, trivial⟩⟩
  dj := fun _ _ _ y z => y.1.trans z.1.symm
  hz := fun _ _ z => by cases z
section
variable {P : Program} {w : World} {K : PySem.W.Frag} {mg : Str → Option Value} {base : Heap} {x qual : Str} {st : Stmt} {fa : Addr} {fd : FuncData} {n : Str} {N ps : List Str} {k : Nat} {b : DS}
theorem okV {f : DF} (F : Fun K x qual st fa fd) (S : FnScope N ps (defScope st)) (len : ∀ ds Φ, f ds Φ → ds.length = ps.length)
    (body : ∀ (cdv : Value) (A : Around) (outer : List Env) (s : Shared) (H : Hp) (E : XK), Room k (A.deeper (envOfC qual (defScope st) s.heap.objs.size fa cdv)) → ∃ t, PDSs (cxOf CX0 P w K mg base N qual (defScope st) fa cdv A outer s H E).nox (defBody st) t b)
    (rd : ∀ ds Φ, f ds Φ → b (rtV Φ) (slots ds N.length)) : FnOk P w K mg base CX0 (k + 1) fa fd ps (SpV K f) := by
  refine F.ok S (fun vs H Q E h => ?_) fun cdv A outer s H vs Q E hr h => ?_
  · obtain ⟨G, ds, Φ, _, r, hf, _⟩ := h
    rw [r.length]
    exact len ds Φ hf
  · obtain ⟨G, ds, Φ, gh, r, hf, k⟩ := h
    obtain ⟨t, ht⟩ := body cdv A outer s H E hr
    refine ⟨t, ht.pe, ht.sim (At.start gh r N) (rd ds Φ hf) (fun σ' ρ' F' G' H' A' e q => ?_) (fun v y Fn σ' ρ' F' G' H' A' e r q => ?_) (fun _ _ _ _ _ _ _ z => z.elim) (fun _ _ _ _ _ _ _ z => z.elim)⟩
    · exact k .non (.val .non) (fun _ => False) G' H' e (fun a o h => A'.h0 a o h fun z => z) A'.gh A'.fr (.val .non) q
    · refine k v y Fn G' H' e (fun a o h => A'.h0 a o h fun z => z) A'.gh A'.fr ⟨r.ok, r.na, fun a fa => ?_⟩ q
      obtain ⟨h1, h2, h3, h4, _⟩ := r.fr a fa
      exact ⟨h1, h2, h3, h4, fun _ z => z⟩
theorem okO {f : DFO} (F : Fun K x qual st fa fd) (S : FnScope (n :: N) ps (defScope st)) (len : ∀ S ds Φ, f S ds Φ → ds.length + 1 = ps.length)
    (body : ∀ (cdv : Value) (A : Around) (outer : List Env) (s : Shared) (H : Hp) (E : XK), Room k (A.deeper (envOfC qual (defScope st) s.heap.objs.size fa cdv)) → ∃ t, PDSs (cxOf CX0 P w K mg base (n :: N) qual (defScope st) fa cdv A outer s H E).nox (defBody st) t b)
    (rd : ∀ S ds Φ, f S ds Φ → b (rtO S Φ) (.arg S :: slots ds N.length)) : FnOk P w K mg base CX0 (k + 1) fa fd ps (SpO K f) := by
  refine F.ok S (fun vs H Q E h => ?_) fun cdv A outer s H vs Q E hr h => ?_
  · obtain ⟨G, T, Fs, ds, Φ, v0, ws, rfl, _, _, _, r, hf, _⟩ := h
    rw [List.length_cons, r.length]
    exact len T ds Φ hf
  · obtain ⟨G, T, Fs, ds, Φ, v0, ws, rfl, hs, hfp, gh, r, hf, k⟩ := h
    obtain ⟨t, ht⟩ := body cdv A outer s H E hr
    have fin : ∀ v y Fn σ' ρ' F' G' H', At K Fs (fun _ => none) G H G' H' σ' ρ' F' → Same G G' → ResOk K (fun _ => none) H G' H' (fun j a => Sl.isArg (ρ'[j]?) ∧ F' j a) v y Fn → rtOx T Φ y ρ' → Q v H' := fun v y Fn σ' ρ' F' G' H' A' e hr q => by
      unfold rtOx at q
      split at q
      · rename_i T' eT
        obtain ⟨er, q⟩ := q
        obtain ⟨g1, g2, g3⟩ := A'.mut_at (.inr eT)
        have ev : v0 = T'.root := by rw [OT.pin hs, er]
        refine k v y Fn T' (F' 0) G' H' e (fun a o h n => A'.h0 a o h n) A'.hn A'.gh A'.fr er (by rw [ev]; exact g2) (fun a fa => ?_) ⟨hr.ok, hr.na, fun a fa => ?_⟩ q
        · obtain ⟨h1, h2, h3⟩ := A'.fp 0 a fa
          refine ⟨h1, h2, ?_⟩
          rcases h3 with h3 | h3
          · exact .inr h3
          · exact .inl h3.1
        · obtain ⟨h1, h2, h3, h4, h5⟩ := hr.fr a fa
          exact ⟨h1, h2, h3, h4, fun _ z => h5 0 ⟨by rw [eT]; trivial, z⟩⟩
      · exact q.elim
    refine ⟨t, ht.pe, ht.sim (At.startO gh hs hfp r n N) (rd T ds Φ hf) (fun σ' ρ' F' G' H' A' e q => ?_) (fun v y Fn σ' ρ' F' G' H' A' e r q => fin v y Fn σ' ρ' F' G' H' A' e r q) (fun _ _ _ _ _ _ _ z => z.elim) (fun _ _ _ _ _ _ _ z => z.elim)⟩
    exact fin .non (.val .non) (fun _ => False) σ' ρ' F' G' H' A' e (.val .non) q
end
end DL
set_option Elab.async false
set_option linter.all false
set_option maxRecDepth 100000
set_option maxHeartbeats 2000000
namespace DL
open PySem PySem.Spec PyProof.Rows L2

/-! ### places within a tree of one's own -/
inductive Stp where
  | ix (k : Nat) | fd (f : Str)
def putFs (f : Str) (t : OT) : List (Str × OT) → List (Str × OT)
  | [] => [(f, t)]
  | (g, u) :: r => if g = f then (g, t) :: r else (g, u) :: putFs f t r
def OT.get : OT → List Stp → Option OT
  | t, [] => some t
  | .lst _ xs, .ix k :: π => match xs[k]? with
    | some t => t.get π
    | none => none
  | .tup _ xs, .ix k :: π => match xs[k]? with
    | some t => t.get π
    | none => none
  | .ins _ _ _ fs, .fd f :: π => match fs.lookup f with
    | some t => t.get π
    | none => none
  | _, _ :: _ => none
def OT.put : OT → List Stp → OT → OT
  | _, [], s => s
  | .lst p xs, .ix k :: π, s => match xs[k]? with
    | some t => .lst p (xs.set k (t.put π s))
    | none => .lst p xs
  | .tup p xs, .ix k :: π, s => match xs[k]? with
    | some t => .tup p (xs.set k (t.put π s))
    | none => .tup p xs
  | .ins p dx C fs, .fd f :: π, s => match fs.lookup f with
    | some t => .ins p dx C (putFs f (t.put π s) fs)
    | none => .ins p dx C fs
  | t, _ :: _, _ => t
section
variable {K : PySem.W.Frag} {G H : Hp}
/-- one item of owned ones, and what is left -/
theorem OwnL.at : ∀ {vs : List V} {ts : List OT} {A : List Addr} {k : Nat} {t : OT}, OwnL K G H vs ts A → ts[k]? = some t → ∃ v A' R, vs[k]? = some v ∧ Own K G H v t A' ∧ A.Perm (A' ++ R) ∧
    ∀ (G' H' : Hp) (v' : V) (t' : OT) (B : List Addr), Same G G' → (∀ a ∈ R, H' a = H a) → Own K G' H' v' t' B → ∃ C, OwnL K G' H' (vs.set k v') (ts.set k t') C ∧ C.Perm (B ++ R)
  | _, _, _, _, _, .nil, h => by simp at h
  | _, _, _, 0, t, .cons (A := A) (B := B) h r, e => by
    simp at e
    subst e
    exact ⟨_, A, B, rfl, h, List.Perm.refl _, fun G' H' v' t' C eG k q => ⟨C ++ B, .cons q (r.st eG k), List.Perm.refl _⟩⟩
  | _, _, _, k + 1, t, .cons (A := A) (B := B) h r, e => by
    obtain ⟨v, A', R, h1, h2, h3, h4⟩ := OwnL.at (k := k) (t := t) r (by simpa using e)
    refine ⟨v, A', A ++ R, by simpa using h1, h2, ?_, fun G' H' v' t' C eG kk q => ?_⟩
    · refine (List.Perm.append_left A h3).trans ?_
      rw [← List.append_assoc, ← List.append_assoc]
      exact List.Perm.append_right R List.perm_append_comm
    · obtain ⟨C', c1, c2⟩ := h4 G' H' v' t' C eG (fun a ha => kk a (List.mem_append_right _ ha)) q
      refine ⟨A ++ C', .cons (h.st eG fun a ha => kk a (List.mem_append_left _ ha)) c1, ?_⟩
      refine (List.Perm.append_left A c2).trans ?_
      rw [← List.append_assoc, ← List.append_assoc]
      exact List.Perm.append_right R List.perm_append_comm
theorem OwnF.at : ∀ {vs : List (Str × V)} {ts : List (Str × OT)} {A : List Addr} {f : Str} {t : OT}, OwnF K G H vs ts A → ts.lookup f = some t → ∃ v A' R, vs.lookup f = some v ∧ Own K G H v t A' ∧ A.Perm (A' ++ R) ∧
    ∀ (G' H' : Hp) (v' : V) (t' : OT) (B : List Addr), Same G G' → (∀ a ∈ R, H' a = H a) → Own K G' H' v' t' B → ∃ C, OwnF K G' H' (putF f v' vs) (putFs f t' ts) C ∧ C.Perm (B ++ R)
  | _, _, _, _, _, .nil, h => by simp at h
  | _, _, _, f, t, .cons (k := g) (v := v0) (vs := vs) (t := t0) (ts := ts) (A := A) (B := B) h r, e => by
    by_cases c : g = f
    · subst c
      have e' : t0 = t := by simpa [List.lookup] using e
      subst e'
      refine ⟨v0, A, B, by simp [List.lookup], h, List.Perm.refl _, fun G' H' v' t' C eG k q => ⟨C ++ B, ?_, List.Perm.refl _⟩⟩
      have e1 : putF g v' ((g, v0) :: vs) = (g, v') :: vs := by simp [putF]
      have e2 : putFs g t' ((g, t0) :: ts) = (g, t') :: ts := by simp [putFs]
      rw [e1, e2]
      exact .cons q (r.st eG k)
    · have cb : (f == g) = false := by simpa using fun z => c z.symm
      have e' : ts.lookup f = some t := by simpa [List.lookup, cb] using e
      obtain ⟨v, A', R, h1, h2, h3, h4⟩ := OwnF.at (f := f) (t := t) r e'
      refine ⟨v, A', A ++ R, by simpa [List.lookup, cb] using h1, h2, ?_, fun G' H' v' t' C eG kk q => ?_⟩
      · refine (List.Perm.append_left A h3).trans ?_
        rw [← List.append_assoc, ← List.append_assoc]
        exact List.Perm.append_right R List.perm_append_comm
      · obtain ⟨C', c1, c2⟩ := h4 G' H' v' t' C eG (fun a ha => kk a (List.mem_append_right _ ha)) q
        have e1 : putF f v' ((g, v0) :: vs) = (g, v0) :: putF f v' vs := by
          show (if g = f then _ else _) = _
          rw [if_neg c]
        have e2 : putFs f t' ((g, t0) :: ts) = (g, t0) :: putFs f t' ts := by
          show (if g = f then _ else _) = _
          rw [if_neg c]
        refine ⟨A ++ C', ?_, ?_⟩
        · rw [e1, e2]
          exact .cons (h.st eG fun a ha => kk a (List.mem_append_left _ ha)) c1
        · refine (List.Perm.append_left A c2).trans ?_
          rw [← List.append_assoc, ← List.append_assoc]
          exact List.Perm.append_right R List.perm_append_comm
theorem set_self {α : Type} : ∀ {l : List α} {k : Nat} {x : α}, l[k]? = some x → l.set k x = l
  | [], _, _, h => by simp at h
  | a :: l, 0, x, h => by
    have : a = x := by simpa using h
    rw [this]
    rfl
  | a :: l, k + 1, x, h => by
    rw [List.set_cons_succ, set_self (l := l) (k := k) (x := x) (by simpa using h)]
theorem putF_self {f : Str} {v : V} : ∀ {l : List (Str × V)}, l.lookup f = some v → putF f v l = l
  | [], h => by simp at h
  | (g, u) :: r, h => by
    by_cases c : g = f
    · subst c
      have e : u = v := by simpa [List.lookup] using h
      subst e
      simp [putF]
    · have cb : (f == g) = false := by simpa using fun z => c z.symm
      have e' : r.lookup f = some v := by simpa [List.lookup, cb] using h
      show (if g = f then _ else _) = _
      rw [if_neg c, putF_self e']
/-- the part at a place, and how another one is put there (its root the same) -/
theorem Own.at : ∀ {π : List Stp} {v : V} {t s : OT} {A : List Addr}, Own K G H v t A → A.Nodup → t.get π = some s → ∃ v' A' R, Own K G H v' s A' ∧ A.Perm (A' ++ R) ∧
    ∀ (G' H' : Hp) (s' : OT) (B : List Addr), Same G G' → (∀ a ∈ R, H' a = H a) → Own K G' H' v' s' B → ∃ C, Own K G' H' v (t.put π s') C ∧ C.Perm (B ++ R)
  | [], v, t, s, A, h, nd, e => by
    cases e
    exact ⟨v, A, [], h, by rw [List.append_nil], fun G' H' s' B eG k q => ⟨B, q, by rw [List.append_nil]⟩⟩
  | .ix k :: π, _, .lst p xs, s, _, .lst (vs := vs) (A := A) h r, nd, e => by
    unfold OT.get at e
    split at e
    · rename_i t ek
      obtain ⟨v1, A1, R1, e1, o1, p1, b1⟩ := r.at ek
      have nd1 : A1.Nodup := (List.nodup_append.mp ((p1.nodup_iff).mp (List.nodup_cons.mp nd).2)).1
      obtain ⟨v2, A2, R2, o2, p2, b2⟩ := Own.at (π := π) o1 nd1 e
      refine ⟨v2, A2, p :: (R2 ++ R1), o2, ?_, fun G' H' s' B eG kk q => ?_⟩
      · refine (List.Perm.cons p (p1.trans (List.Perm.append_right R1 p2))).trans ?_
        rw [List.append_assoc]
        exact (List.perm_middle (l₁ := A2) (a := p) (l₂ := R2 ++ R1)).symm
      · obtain ⟨C2, c2, d2⟩ := b2 G' H' s' B eG (fun a ha => kk a (List.mem_cons_of_mem _ (List.mem_append_left _ ha))) q
        obtain ⟨C1, c1, d1⟩ := b1 G' H' v1 _ C2 eG (fun a ha => kk a (List.mem_cons_of_mem _ (List.mem_append_right _ ha))) c2
        rw [set_self e1] at c1
        refine ⟨p :: C1, ?_, ?_⟩
        · unfold OT.put
          rw [ek]
          exact .lst ((kk p List.mem_cons_self).trans h) c1
        · refine (List.Perm.cons p (d1.trans (List.Perm.append_right R1 d2))).trans ?_
          rw [List.append_assoc]
          exact (List.perm_middle (l₁ := B) (a := p) (l₂ := R2 ++ R1)).symm
    · cases e
  | .ix k :: π, _, .tup p xs, s, _, .tup (vs := vs) (A := A) h r, nd, e => by
    unfold OT.get at e
    split at e
    · rename_i t ek
      obtain ⟨v1, A1, R1, e1, o1, p1, b1⟩ := r.at ek
      have nd1 : A1.Nodup := (List.nodup_append.mp ((p1.nodup_iff).mp nd)).1
      obtain ⟨v2, A2, R2, o2, p2, b2⟩ := Own.at (π := π) o1 nd1 e
      refine ⟨v2, A2, R2 ++ R1, o2, ?_, fun G' H' s' B eG kk q => ?_⟩
      · refine (p1.trans (List.Perm.append_right R1 p2)).trans ?_
        rw [List.append_assoc]
      · obtain ⟨C2, c2, d2⟩ := b2 G' H' s' B eG (fun a ha => kk a (List.mem_append_left _ ha)) q
        obtain ⟨C1, c1, d1⟩ := b1 G' H' v1 _ C2 eG (fun a ha => kk a (List.mem_append_right _ ha)) c2
        rw [set_self e1] at c1
        refine ⟨C1, ?_, ?_⟩
        · unfold OT.put
          rw [ek]
          exact .tup (eG _ _ h) c1
        · refine (d1.trans (List.Perm.append_right R1 d2)).trans ?_
          rw [List.append_assoc]
    · cases e
  | .fd f :: π, _, .ins p dx C fs, s, _, .ins (fs := vs) (A := A) h h0 r, nd, e => by
    unfold OT.get at e
    split at e
    · rename_i t ek
      obtain ⟨v1, A1, R1, e1, o1, p1, b1⟩ := r.at ek
      have nd1 : A1.Nodup := (List.nodup_append.mp ((p1.nodup_iff).mp (List.nodup_cons.mp (List.nodup_cons.mp nd).2).2)).1
      obtain ⟨v2, A2, R2, o2, p2, b2⟩ := Own.at (π := π) o1 nd1 e
      refine ⟨v2, A2, p :: dx :: (R2 ++ R1), o2, ?_, fun G' H' s' B eG kk q => ?_⟩
      · refine (List.Perm.cons p (List.Perm.cons dx (p1.trans (List.Perm.append_right R1 p2)))).trans ?_
        rw [List.append_assoc]
        refine List.Perm.trans ?_ (List.perm_middle (l₁ := A2) (a := p) (l₂ := dx :: (R2 ++ R1))).symm
        exact List.Perm.cons p (List.perm_middle (l₁ := A2) (a := dx) (l₂ := R2 ++ R1)).symm
      · obtain ⟨C2, c2, d2⟩ := b2 G' H' s' B eG (fun a ha => kk a (List.mem_cons_of_mem _ (List.mem_cons_of_mem _ (List.mem_append_left _ ha)))) q
        obtain ⟨C1, c1, d1⟩ := b1 G' H' v1 _ C2 eG (fun a ha => kk a (List.mem_cons_of_mem _ (List.mem_cons_of_mem _ (List.mem_append_right _ ha)))) c2
        rw [putF_self e1] at c1
        refine ⟨p :: dx :: C1, ?_, ?_⟩
        · unfold OT.put
          rw [ek]
          exact .ins ((kk p List.mem_cons_self).trans h) ((kk dx (List.mem_cons_of_mem _ List.mem_cons_self)).trans h0) c1
        · refine (List.Perm.cons p (List.Perm.cons dx (d1.trans (List.Perm.append_right R1 d2)))).trans ?_
          rw [List.append_assoc]
          refine List.Perm.trans ?_ (List.perm_middle (l₁ := B) (a := p) (l₂ := dx :: (R2 ++ R1))).symm
          exact List.Perm.cons p (List.perm_middle (l₁ := B) (a := dx) (l₂ := R2 ++ R1)).symm
    · cases e
theorem Own.root {v : V} {t : OT} {A : List Addr} (h : Own K G H v t A) (n : t.node = true) : v = t.root := by
  cases h with
  | val _ => cases n
  | lst _ _ => rfl
  | tup _ _ => rfl
  | ins _ _ _ => rfl
  | dic _ _ => rfl
end

/-- the tree of a slot -/
def treeOf : Option Sl → Option OT
  | some (.loc t) => some t
  | some (.arg t) => some t
  | _ => none
def withTree (t : OT) : Option Sl → Sl
  | some (.arg _) => .arg t
  | _ => .loc t
def nodeRoot (s s' : OT) : Prop := s'.node = true ∧ s'.root = s.root
abbrev DP := List Sl → (Nat → List Stp → OT → List Sl → Prop) → Prop
/-- the value of a place -/
structure PlAt (K : PySem.W.Frag) (G H : Hp) (ρ : List Sl) (v : V) (i : Nat) (π : List Stp) (s : OT) : Prop where
  ex : ∃ t, treeOf (ρ[i]?) = some t ∧ t.get π = some s
  own : ∃ A, Own K G H v s A
def SimP (K : PySem.W.Frag) (t : TE) (d : DP) : Prop := ∀ {M : Addr → Prop} {Z G0 H0 G H : Hp} {σ : L2.St} {ρ : List Sl} {F : Nat → Addr → Prop} {Φ : Nat → List Stp → OT → List Sl → Prop} {Q : VK}, At K M Z G0 H0 G H σ ρ F → d ρ Φ →
  (∀ v i π s ρ' F' G' H', At K M Z G0 H0 G' H' σ ρ' F' → Same G G' → PlAt K G' H' ρ' v i π s → Φ i π s ρ' → Q v H') → t σ H Q
structure PP (X : Cx) (e : Expr) (t : TE) (d : DP) : Prop where
  pe : PE X e t
  sim : SimP X.K t d
section
variable {K : PySem.W.Frag} {M : Addr → Prop} {Z G0 H0 G H : Hp} {σ : L2.St} {ρ : List Sl} {F : Nat → Addr → Prop}
theorem tree_sl {o : Option Sl} {t : OT} (h : treeOf o = some t) : o = some (.loc t) ∨ o = some (.arg t) := by
  unfold treeOf at h
  split at h
  · cases h; exact .inl rfl
  · cases h; exact .inr rfl
  · cases h
/-- the tree of a slot, opened at a place -/
theorem At.tree {i : Nat} {t s : OT} {π : List Stp} (A : At K M Z G0 H0 G H σ ρ F) (h : treeOf (ρ[i]?) = some t) (hg : t.get π = some s) : σ[i]? = some (some t.root) ∧ t.node = true ∧ ∃ B v' A' R, Own K G H t.root t B ∧ B.Nodup ∧ (∀ a, F i a ↔ a ∈ B) ∧
    Own K G H v' s A' ∧ B.Perm (A' ++ R) ∧ ∀ (G' H' : Hp) (s' : OT) (C : List Addr), Same G G' → (∀ a ∈ R, H' a = H a) → Own K G' H' v' s' C → ∃ E, Own K G' H' t.root (t.put π s') E ∧ E.Perm (C ++ R) := by
  obtain ⟨h1, ⟨n, B, h2, h3, h4⟩, _⟩ := A.mut_at (tree_sl h)
  obtain ⟨v', A', R, o, p, b⟩ := h2.at h3 hg
  exact ⟨h1, n, B, v', A', R, h2, h3, h4, o, p, b⟩
end
def dpVar (i : Nat) : DP := fun ρ Φ => match treeOf (ρ[i]?) with
  | some t => Φ i [] t ρ
  | none => False
/-- a place's item -/
def dpIx (d : DP) (e : DE) : DP := fun ρ Φ => d ρ fun i π s ρ1 => e ρ1 fun x ρ2 => match treeOf (ρ2[i]?) with
  | some t => match t.get π, x with
    | some (.lst p xs), .int k => nodeRoot s (.lst p xs) ∧ 0 ≤ k ∧ match xs[k.toNat]? with
      | some y => Φ i (π ++ [.ix k.toNat]) y ρ2
      | none => False
    | some (.tup p xs), .int k => nodeRoot s (.tup p xs) ∧ 0 ≤ k ∧ match xs[k.toNat]? with
      | some y => Φ i (π ++ [.ix k.toNat]) y ρ2
      | none => False
    | _, _ => False
  | none => False
def dLeaf (d : DP) : DE := fun ρ Φ => d ρ fun _ _ s ρ1 => match s with
  | .val x => Φ x ρ1
  | _ => False
theorem get_app : ∀ {π : List Stp} {t s : OT} {k : Stp}, t.get π = some s → t.get (π ++ [k]) = s.get [k]
  | [], t, s, k, h => by cases h; rfl
  | .ix j :: π, .lst p xs, s, k, h => by
    unfold OT.get at h
    split at h
    · rename_i t e
      have q := get_app (k := k) h
      show (match xs[j]? with | some t => t.get (π ++ [k]) | none => none) = _
      rw [e]
      exact q
    · cases h
  | .ix j :: π, .tup p xs, s, k, h => by
    unfold OT.get at h
    split at h
    · rename_i t e
      have q := get_app (k := k) h
      show (match xs[j]? with | some t => t.get (π ++ [k]) | none => none) = _
      rw [e]
      exact q
    · cases h
  | .fd f :: π, .ins p dx C fs, s, k, h => by
    unfold OT.get at h
    split at h
    · rename_i t e
      have q := get_app (k := k) h
      show (match fs.lookup f with | some t => t.get (π ++ [k]) | none => none) = _
      rw [e]
      exact q
    · cases h
  | .ix _ :: _, .val _, _, _, h => by cases h
  | .fd _ :: _, .val _, _, _, h => by cases h
  | .fd _ :: _, .lst _ _, _, _, h => by cases h
  | .fd _ :: _, .tup _ _, _, _, h => by cases h
  | .ix _ :: _, .ins _ _ _ _, _, _, h => by cases h
  | .ix _ :: _, .dic _ _, _, _, h => by cases h
  | .fd _ :: _, .dic _ _, _, _, h => by cases h
theorem OwnL.len {K : PySem.W.Frag} {G H : Hp} : ∀ {vs : List V} {ts : List OT} {A : List Addr}, OwnL K G H vs ts A → vs.length = ts.length
  | _, _, _, .nil => rfl
  | _, _, _, .cons _ r => by rw [List.length_cons, List.length_cons, OwnL.len r]
theorem OwnL.get {K : PySem.W.Frag} {G H : Hp} {vs : List V} {ts : List OT} {A : List Addr} {k : Nat} {t : OT} (h : OwnL K G H vs ts A) (e : ts[k]? = some t) : ∃ v A', vs[k]? = some v ∧ Own K G H v t A' := by
  obtain ⟨v, A', _, h1, h2, _⟩ := h.at e
  exact ⟨v, A', h1, h2⟩
section
variable {K : PySem.W.Frag}
theorem sim_pvar {i : Nat} : SimP K (tVar i) (dpVar i) := by
  intro M Z G0 H0 G H σ ρ F Φ Q A hd k
  unfold dpVar at hd
  split at hd
  · rename_i t e
    obtain ⟨h1, n, B, v', A', R, o, _⟩ := A.tree (π := []) e rfl
    exact ⟨t.root, h1, k _ i [] t ρ F G H A (Same.refl G) ⟨⟨t, e, rfl⟩, ⟨B, o⟩⟩ hd⟩
  · exact hd.elim
theorem sim_leaf {t : TE} {d : DP} (h : SimP K t d) : SimE K t (dLeaf d) := fun {M Z G0 H0 G H σ ρ F Φ Q} A hd k => h A hd fun v i π s ρ1 F1 G1 H1 A1 e1 p1 q1 => by
  split at q1
  · rename_i x
    obtain ⟨_, o⟩ := p1.own
    cases o with
    | val r => exact k v x ρ1 F1 G1 H1 A1 e1 r q1
  · exact q1.elim
theorem sim_pix {ta tb : TE} {d : DP} {e : DE} (h : SimP K ta d) (g : SimE K tb e) : SimP K (tOp (rIxA K) ta tb) (dpIx d e) := by
  intro M Z G0 H0 G H σ ρ F Φ Q A hd k
  refine h A hd fun v i π s ρ1 F1 G1 H1 A1 e1 p1 q1 => g A1 q1 fun w x ρ2 F2 G2 H2 A2 e2 r2 q2 => ?_
  split at q2
  · rename_i t et
    split at q2
    · rename_i p xs kk eg
      obtain ⟨⟨_, hr⟩, h0, q2⟩ := q2
      split at q2
      · rename_i y ey
        obtain ⟨h1, n, B, v', A', R, o, nd, hF, o2, pm, b⟩ := A2.tree et eg
        cases r2
        have hv : v = .ref p := by
          obtain ⟨A1', o1⟩ := p1.own
          have n1 : s.node = true := by
            cases s with
            | val _ => cases hr
            | _ => rfl
          rw [o1.root n1, ← hr]
          rfl
        cases o2 with
        | lst hp ol =>
          obtain ⟨u, A3, e3, o3⟩ := ol.get ey
          have hk : (kk.toNat : Int) = kk := Int.toNat_of_nonneg h0
          refine .inl (.inl ⟨p, _, kk, u, hv, rfl, SqL.of hp, by rw [← hk]; exact atI_nat e3, ?_⟩)
          refine k u i (π ++ [.ix kk.toNat]) y ρ2 F2 G2 H2 A2 (e1.trans e2) ⟨⟨t, et, ?_⟩, ⟨A3, o3⟩⟩ q2
          rw [get_app eg]
          show (match xs[kk.toNat]? with | some t => t.get [] | none => none) = _
          rw [ey]
          rfl
      · exact q2.elim
    · rename_i p xs kk eg
      obtain ⟨⟨_, hr⟩, h0, q2⟩ := q2
      split at q2
      · rename_i y ey
        obtain ⟨h1, n, B, v', A', R, o, nd, hF, o2, pm, b⟩ := A2.tree et eg
        cases r2
        have hv : v = .ref p := by
          obtain ⟨A1', o1⟩ := p1.own
          have n1 : s.node = true := by
            cases s with
            | val _ => cases hr
            | _ => rfl
          rw [o1.root n1, ← hr]
          rfl
        cases o2 with
        | tup hp ol =>
          obtain ⟨u, A3, e3, o3⟩ := ol.get ey
          have hk : (kk.toNat : Int) = kk := Int.toNat_of_nonneg h0
          refine .inl (.inr (.inl ⟨p, _, kk, u, hv, rfl, SqT.of (A2.gh _ _ hp), by rw [← hk]; exact atI_nat e3, ?_⟩))
          refine k u i (π ++ [.ix kk.toNat]) y ρ2 F2 G2 H2 A2 (e1.trans e2) ⟨⟨t, et, ?_⟩, ⟨A3, o3⟩⟩ q2
          rw [get_app eg]
          show (match xs[kk.toNat]? with | some t => t.get [] | none => none) = _
          rw [ey]
          rfl
      · exact q2.elim
    · exact q2.elim
  · exact q2.elim
end
end DL
set_option Elab.async false
set_option linter.all false
set_option maxRecDepth 100000
set_option maxHeartbeats 2000000
namespace DL
open PySem PySem.Spec PyProof.Rows L2

section
variable {K : PySem.W.Frag} {M : Addr → Prop} {Z G0 H0 G H : Hp} {σ : L2.St} {ρ : List Sl} {F : Nat → Addr → Prop}
theorem put_node : ∀ {π : List Stp} {t s' : OT}, t.node = true → s'.node = true ∨ π ≠ [] → (t.put π s').node = true
  | [], _, _, _, h => h.elim id fun z => absurd rfl z
  | .ix k :: π, .lst p xs, s', _, _ => by
    unfold OT.put
    split <;> rfl
  | .ix k :: π, .tup p xs, s', _, _ => by
    unfold OT.put
    split <;> rfl
  | .fd f :: π, .ins p dx C fs, s', _, _ => by
    unfold OT.put
    split <;> rfl
  | .fd _ :: _, .lst _ _, _, _, _ => rfl
  | .fd _ :: _, .tup _ _, _, _, _ => rfl
  | .ix _ :: _, .ins _ _ _ _, _, _, _ => rfl
  | .ix _ :: _, .dic _ _, _, _, _ => rfl
  | .fd _ :: _, .dic _ _, _, _, _ => rfl
theorem put_root : ∀ {π : List Stp} {t s s' : OT}, t.get π = some s → (π = [] → s'.root = s.root) → (t.put π s').root = t.root
  | [], t, s, s', h, e => by
    cases h
    exact e rfl
  | .ix k :: π, .lst p xs, s, s', h, _ => by
    unfold OT.put
    split <;> rfl
  | .ix k :: π, .tup p xs, s, s', h, _ => by
    unfold OT.put
    split <;> rfl
  | .fd f :: π, .ins p dx C fs, s, s', h, _ => by
    unfold OT.put
    split <;> rfl
  | .ix _ :: _, .val _, _, _, h, _ => by cases h
  | .fd _ :: _, .val _, _, _, h, _ => by cases h
  | .fd _ :: _, .lst _ _, _, _, h, _ => by cases h
  | .fd _ :: _, .tup _ _, _, _, h, _ => by cases h
  | .ix _ :: _, .ins _ _ _ _, _, _, h, _ => by cases h
  | .ix _ :: _, .dic _ _, _, _, h, _ => by cases h
  | .fd _ :: _, .dic _ _, _, _, h, _ => by cases h
/-- another part is put at a place -/
theorem At.put {i : Nat} {t s' : OT} {π : List Stp} {B A' R C : List Addr} {v' : V} {G' H' : Hp} (A : At K M Z G0 H0 G H σ ρ F) (h : treeOf (ρ[i]?) = some t) (hv : σ[i]? = some (some t.root)) (nd : B.Nodup) (hF : ∀ a, F i a ↔ a ∈ B) (pm : B.Perm (A' ++ R))
    (b : ∀ (G' H' : Hp) (s' : OT) (C : List Addr), Same G G' → (∀ a ∈ R, H' a = H a) → Own K G' H' v' s' C → ∃ E, Own K G' H' t.root (t.put π s') E ∧ E.Perm (C ++ R))
    (eG : Same G G') (eGH : Same G' H') (old : ∀ a, H a ≠ none → G' a = G a) (hn : ∀ a, H a ≠ none → H' a ≠ none) (eH : ∀ a o, H a = some o → a ∉ A' → H' a = some o) (o : Own K G' H' v' s' C) (ndC : C.Nodup)
    (hC : ∀ a ∈ C, G' a = none ∧ H' a ≠ none ∧ (a ∈ A' ∨ H a = none ∨ (H0 a = none ∧ Z a = none ∧ ∀ j, ¬ F j a))) (node : (t.put π s').node = true) :
    ∃ F', At K M Z G0 H0 G' H' σ (ρ.set i (withTree (t.put π s') (ρ[i]?))) F' := by
  have hi : i < ρ.length := by
    rcases tree_sl h with e | e <;> exact (List.getElem?_eq_some_iff.mp e).1
  have ndB := (pm.nodup_iff).mp nd
  have hd := List.nodup_append.mp ndB
  have inF : ∀ a, a ∈ A' ∨ a ∈ R → F i a := fun a z => (hF a).mpr (pm.mem_iff.mpr (List.mem_append.mpr z))
  obtain ⟨E, oE, pE⟩ := b G' H' s' C eG (fun a ha => by
    have fa := inF a (.inr ha)
    obtain ⟨_, h2, _⟩ := A.fp i a fa
    cases q : H a with
    | none => exact absurd q h2
    | some u => exact eH a u q fun z => hd.2.2 a z a ha rfl) o
  have ndE : E.Nodup := by
    rw [pE.nodup_iff, List.nodup_append]
    refine ⟨ndC, hd.2.1, fun a ha c hc e => ?_⟩
    subst e
    have fa := inF a (.inr hc)
    rcases (hC a ha).2.2 with z | z | z
    · exact hd.2.2 a z a hc rfl
    · exact (A.fp i a fa).2.1 z
    · exact z.2.2 i fa
  have ok : (t.put π s').ok K G' H' t.root (fun a => a ∈ E) := ⟨node, E, oE, ndE, fun _ => Iff.rfl⟩
  refine ⟨_, A.chg (i := i) (x := withTree (t.put π s') (ρ[i]?)) (Fn := fun a => a ∈ E) hi eG eGH old hn (fun a u q nf => eH a u q fun z => nf (inF a (.inl z))) ?_ ?_ (fun a ha => ?_)⟩
  · rw [hv]
    rcases tree_sl h with e | e
    · rw [e]
      exact ⟨t.root, rfl, ok⟩
    · rw [e]
      exact ⟨t.root, rfl, ok⟩
  · intro z
    rcases tree_sl h with e | e
    · rw [e] at z
      exact z.elim
    · rw [e]
      trivial
  · rcases List.mem_append.mp (pE.mem_iff.mp ha) with z | z
    · obtain ⟨h1, h2, h3⟩ := hC a z
      refine ⟨h1, h2, ?_⟩
      rcases h3 with h3 | h3
      · exact .inl (inF a (.inl h3))
      · exact .inr h3
    · have fa := inF a (.inr z)
      obtain ⟨g1, g2, _⟩ := A.fp i a fa
      exact ⟨(old a g2).trans g1, hn a g2, .inl fa⟩
end
/-- place.append(e) -/
def dPApp (d : DP) (e : DE) : DR := fun ρ Φ => d ρ fun i π s ρ1 => (match s with
  | .lst _ _ => True
  | _ => False) ∧ e ρ1 fun x ρ2 => match treeOf (ρ2[i]?) with
  | some t => match t.get π with
    | some (.lst p xs) => s.root = .ref p ∧ xs.length ≤ 1000000 ∧ Φ (.val .non) (ρ2.set i (withTree (t.put π (.lst p (xs ++ [.val x]))) (ρ2[i]?)))
    | _ => False
  | none => False
/-- place[k] = v -/
def dPSet (d : DP) (k v : DE) : DS := fun Δ ρ => v ρ fun y ρ0 => d ρ0 fun i π s ρ1 => k ρ1 fun x ρ2 => match treeOf (ρ2[i]?), x with
  | some t, .int j => match t.get π with
    | some (.lst p xs) => s.node = true ∧ s.root = .ref p ∧ 0 ≤ j ∧ j < xs.length ∧ Δ.nx (ρ2.set i (withTree (t.put π (.lst p (xs.set j.toNat (.val y)))) (ρ2[i]?)))
    | _ => False
  | _, _ => False
def dPLen (d : DP) : DE := fun ρ Φ => d ρ fun _ _ s ρ1 => match s with
  | .lst _ xs => Φ (.int xs.length) ρ1
  | _ => False
theorem OwnL.snocv {K : PySem.W.Frag} {G H : Hp} {v : V} {d : D} (r : Rp K G v d) : ∀ {vs : List V} {ts : List OT} {A : List Addr}, OwnL K G H vs ts A → OwnL K G H (vs ++ [v]) (ts ++ [.val d]) A
  | _, _, _, .nil => by
    have := OwnL.cons (Own.val r) (OwnL.nil (K := K) (G := G) (H := H))
    simpa using this
  | _, _, _, .cons (A := A) (B := B) h t => .cons h (OwnL.snocv r t)
theorem OwnL.setv {K : PySem.W.Frag} {G H : Hp} {v : V} {d : D} (r : Rp K G v d) : ∀ {vs : List V} {ts : List OT} {A : List Addr} (k : Nat), OwnL K G H vs ts A → ∃ A', OwnL K G H (vs.set k v) (ts.set k (.val d)) A' ∧ A'.Sublist A
  | _, _, _, _, .nil => ⟨[], .nil, List.Sublist.refl _⟩
  | _, _, _, 0, .cons (A := A) (B := B) h t => ⟨[] ++ B, .cons (.val r) t, by simp⟩
  | _, _, _, k + 1, .cons (A := A) (B := B) h t => by
    obtain ⟨B', h1, h2⟩ := OwnL.setv r k t
    exact ⟨A ++ B', .cons h h1, List.Sublist.append (List.Sublist.refl A) h2⟩
section
variable {K : PySem.W.Frag}
theorem sim_plen {t : TE} {d : DP} (h : SimP K t d) : SimR K (tCB (fun xs H Q => ∃ x n, xs = [x] ∧ LenV K x H n ∧ Q (.int n) H) (tCons t tNil)) (dR (dPLen d)) := fun {M Z G0 H0 G H σ ρ F Φ Q} A hd k => h A hd fun v i π s ρ1 F1 G1 H1 A1 e1 p1 q1 => by
  split at q1
  · rename_i p xs
    obtain ⟨B, o⟩ := p1.own
    cases o with
    | lst hp ol =>
      refine ⟨_, _, rfl, .inl ⟨_, SqL.of hp, rfl⟩, ?_⟩
      rw [ol.len]
      exact k _ _ _ ρ1 F1 G1 H1 A1 e1 (.val (.int _)) q1
  · exact q1.elim
theorem sim_papp {tp te : TE} {d : DP} {e : DE} (h : SimP K tp d) (g : SimE K te e) : SimR K (tBM K "list" rAppend tp (tCons te tNil)) (dPApp d e) := by
  intro M Z G0 H0 G H σ ρ F Φ Q A hd k
  refine h A hd fun v i π s ρ1 F1 G1 H1 A1 e1 p1 ⟨qs, q1⟩ => ?_
  have hv : v = s.root ∧ ∃ p vs, v = .ref p ∧ H1 p = some (.lst vs) := by
    obtain ⟨B, o⟩ := p1.own
    cases s with
    | lst p xs =>
      cases o with
      | lst hp ol => exact ⟨rfl, p, _, rfl, hp⟩
    | _ => exact qs.elim
  obtain ⟨hv, p0, vs0, hv0, hp0⟩ := hv
  refine ⟨?_, g A1 q1 fun w x ρ2 F2 G2 H2 A2 e2 r2 q2 => ?_⟩
  · rw [hv0]
    exact .inl ⟨rfl, _, SqL.of hp0⟩
  split at q2
  · rename_i t et
    split at q2
    · rename_i p xs eg
      obtain ⟨hr, hz, q2⟩ := q2
      obtain ⟨h1, n, B, v', A', R, o, nd, hF, o2, pm, b⟩ := A2.tree et eg
      rw [hr] at hv
      cases o2 with
      | lst hp ol =>
        rename_i vs' A''
        have hzl : vs'.length ≤ 1000000 := by rw [ol.len]; exact hz
        refine ⟨p, vs', w, hv, rfl, hp, line_lt hzl, ?_⟩
        have ndA : (p :: A'').Nodup := (List.nodup_append.mp ((pm.nodup_iff).mp nd)).1
        have hpA : p ∉ A'' := (List.nodup_cons.mp ndA).1
        have inB : ∀ a ∈ p :: A'', F2 i a := fun a ha => (hF a).mpr (pm.mem_iff.mpr (List.mem_append_left _ ha))
        have gp : G2 p = none := (A2.fp i p (inB p List.mem_cons_self)).1
        have onew : Own K G2 (upd H2 p (.lst (vs' ++ [w]))) (.ref p) (.lst p (xs ++ [.val x])) (p :: A'') := .lst upd_same ((ol.st (Same.refl G2) fun a ha => upd_ne fun z => hpA (by rw [← z]; exact ha)).snocv r2)
        obtain ⟨F3, A3⟩ := A2.put et h1 nd hF pm b (Same.refl G2) (fun a u q => by rw [upd_ne (ne_of_none q gp)]; exact A2.gh a u q) (fun _ _ => rfl) (fun a ha => by
            by_cases z : a = p
            · rw [z, upd_same]; exact Option.some_ne_none _
            · rw [upd_ne z]; exact ha)
          (fun a u q na => by rw [upd_ne fun z => na (by rw [z]; exact List.mem_cons_self)]; exact q) onew ndA (fun a ha => by
            obtain ⟨g1, g2, _⟩ := A2.fp i a (inB a ha)
            refine ⟨g1, ?_, .inl ha⟩
            by_cases z : a = p
            · rw [z, upd_same]; exact Option.some_ne_none _
            · rw [upd_ne z]; exact g2) (put_node n (.inl rfl))
        exact k _ (.val .non) _ _ F3 G2 _ A3 (e1.trans e2) (.val .non) q2
    · exact q2.elim
  · exact q2.elim
theorem sim_pset {tv tp tk : TE} {d : DP} {ek ev : DE} (hv : SimE K tv ev) (h : SimP K tp d) (g : SimE K tk ek) : SimS K (tAsg tv (gSub tp tk rSetL)) (dPSet d ek ev) := by
  intro M Z G0 H0 G H σ ρ F Δ Q A hd k1 k2 k3 k4
  refine hv A hd fun w y ρ0 F0 G1 H1 A0 e0 r0 q0 => h A0 q0 fun v i π s ρ1 F1 G1 H1 A1 e1 p1 q1 => g A1 q1 fun u x ρ2 F2 G2 H2 A2 e2 r2 q2 => ?_
  split at q2
  · rename_i t j et
    split at q2
    · rename_i p xs eg
      obtain ⟨hn, hr, hj, hl, q2⟩ := q2
      obtain ⟨h1, n, B, v', A', R, o, nd, hF, o2, pm, b⟩ := A2.tree et eg
      cases r2
      have hvr : v = .ref p := by
        obtain ⟨A1', o1⟩ := p1.own
        rw [o1.root hn, hr]
      cases o2 with
      | lst hp ol =>
        rename_i vs' A''
        have hlen := ol.len
        have hix : ixN vs'.length j = some j.toNat := by
          unfold ixN
          rw [if_pos hj, if_pos (by omega)]
        refine ⟨p, vs', j, j.toNat, hvr, rfl, hp, hix, ?_⟩
        have ndA : (p :: A'').Nodup := (List.nodup_append.mp ((pm.nodup_iff).mp nd)).1
        have hpA : p ∉ A'' := (List.nodup_cons.mp ndA).1
        have inB : ∀ a ∈ p :: A'', F2 i a := fun a ha => (hF a).mpr (pm.mem_iff.mpr (List.mem_append_left _ ha))
        have gp : G2 p = none := (A2.fp i p (inB p List.mem_cons_self)).1
        have ol' := ol.st (G' := G2) (H' := upd H2 p (.lst (vs'.set j.toNat w))) (Same.refl G2) fun a ha => upd_ne fun z => hpA (by rw [← z]; exact ha)
        obtain ⟨A3, ol3, sub⟩ := ol'.setv (r0.mono (e1.trans e2)) j.toNat
        have onew : Own K G2 (upd H2 p (.lst (vs'.set j.toNat w))) (.ref p) (.lst p (xs.set j.toNat (.val y))) (p :: A3) := .lst upd_same ol3
        have ndC : (p :: A3).Nodup := List.nodup_cons.mpr ⟨fun z => hpA (sub.mem z), (List.nodup_cons.mp ndA).2.sublist sub⟩
        have subA : ∀ a ∈ p :: A3, a ∈ p :: A'' := fun a ha => by
          rcases List.mem_cons.mp ha with z | z
          · rw [z]; exact List.mem_cons_self
          · exact List.mem_cons_of_mem _ (sub.mem z)
        obtain ⟨F3, B3⟩ := A2.put et h1 nd hF pm b (Same.refl G2) (fun a u q => by rw [upd_ne (ne_of_none q gp)]; exact A2.gh a u q) (fun _ _ => rfl) (fun a ha => by
            by_cases z : a = p
            · rw [z, upd_same]; exact Option.some_ne_none _
            · rw [upd_ne z]; exact ha)
          (fun a u q na => by rw [upd_ne fun z => na (by rw [z]; exact List.mem_cons_self)]; exact q) onew ndC (fun a ha => by
            obtain ⟨g1, g2, _⟩ := A2.fp i a (inB a (subA a ha))
            refine ⟨g1, ?_, .inl (subA a ha)⟩
            by_cases z : a = p
            · rw [z, upd_same]; exact Option.some_ne_none _
            · rw [upd_ne z]; exact g2) (put_node n (.inl rfl))
        exact k1 _ _ F3 G2 _ B3 (e0.trans (e1.trans e2)) q2
    · exact q2.elim
  · exact q2.elim
end
section
variable {X : Cx} {o e ei : Expr} {tp te ti : TE} {d : DP} {de di : DE} {apos cpos pos pos' p : Pos} {x : Str}
theorem pp_var (i : Nat) (hN : X.N[i]? = some x := by rfl) (hv : Vis X.env.scope x := by first | exact Or.inl rfl | exact Or.inr (Or.inl rfl) | exact Or.inr (Or.inr rfl)) (hd : (x == ("__debug__" : Str)) = false := by decide)
    (hcd : (x == ("__classdict__" : Str)) = false := by decide) : PP X (.Name x pos) (tVar i) (dpVar i) := ⟨pe_var hN hv hd hcd, sim_pvar⟩
theorem pp_ix (hu : X.A.units + 1 < cLine) (h : PP X o tp d) (he : PD X e te de) (hs : PlainIx e) : PP X (.Subscript o e pos) (tOp (rIxA X.K) tp te) (dpIx d de) := ⟨pe_ix (ix_all hu) h.pe he.pe hs, sim_pix h.sim he.sim⟩
theorem PP.leaf (h : PP X e tp d) : PD X e tp (dLeaf d) := ⟨h.pe, sim_leaf h.sim⟩
theorem pr_papp (h : PP X o tp d) (he : PD X e te de) (hbase : attributeBase o "append" X.env (eval o X.env) = eval o X.env := by rfl)
    (hfew : ((backTo cpos (starEach (e :: []) X.env)).all (fun x => !x.1) && (backToKw cpos (keywordEach [] X.env)).all (fun x => x.1.isSome)
      && decide ((e :: []).length + ([] : List Keyword).length + (if ([] : List Keyword).isEmpty then 0 else 1) < 30)) = true := by rfl)
    (hline : (apos.endLine == cpos.line) = true := by rfl) (hs : starEach (e :: []) X.env = (false, eval e X.env) :: starEach [] X.env := by rfl) (hplain : (backTo cpos (starEach [] X.env)).any (·.1) = false := by rfl) :
    PR X (.Call (.Attribute o "append" apos) [e] [] cpos) (tBM X.K "list" rAppend tp (tCons te tNil)) (dPApp d de) :=
  ⟨pe_bm PySem.F.plainAttrs_list PySem.F.slot_list_append PySem.F.type_list_append mt_append h.pe (pa_cons he.pe pa_nil hs) hbase hfew hline hs hplain, sim_papp h.sim he.sim⟩
theorem pd_plen (h : PP X o tp d) (hm : X.mg "len" = none) (hg : Gl X "len" := by rfl) (hs : starEach (o :: []) X.env = (false, eval o X.env) :: starEach [] X.env := by rfl) (hpl : (backTo pos (starEach [] X.env)).any (·.1) = false := by rfl) :
    PR X (.Call (.Name "len" cpos) [o] [] pos) (tCB (fun xs H Q => ∃ x n, xs = [x] ∧ LenV X.K x H n ∧ Q (.int n) H) (tCons tp tNil)) (dR (dPLen d)) := ⟨pe_callB call_len hg hm PySem.boot_len (pa_cons h.pe pa_nil hs) (by decide) (by decide) hs hpl, sim_plen h.sim⟩
theorem pd_pset (hv : PD X e te de) (h : PP X o tp d) (hi : PD X ei ti di) (hs : swapsWithSole [.Subscript o ei pos'] e pos.line X.env = pure false := by rfl) (hw : swappedStores [.Subscript o ei pos'] e X.env = pure none := by rfl)
    (h1 : (assignEach [.Subscript o ei pos'] X.env).map (·.2) = [assign (.Subscript o ei pos') X.env] := by rfl)
    (ha : ∀ v, assign (.Subscript o ei pos') X.env v = (do
      let ov ← holding [v] (eval o X.env)
      let iv ← holding [v, ov] (eval ei X.env)
      standAt pos'
      holding [v, ov, iv] (setItem ov iv v)
      release [v, ov, iv] []) := by intro _; rfl) : PDS X (.Assign [.Subscript o ei pos'] e pos) (tAsg te (gSub tp ti rSetL)) (dPSet d di de) :=
  ⟨ps_asg hv.pe (pg_sub h.pe hi.pe set_list ha) hs hw h1, sim_pset hv.sim h.sim hi.sim⟩
end
end DL
set_option Elab.async false
set_option linter.all false
set_option maxRecDepth 100000
set_option maxHeartbeats 2000000
namespace DL
open PySem PySem.Spec PyProof.Rows L2 RT

section
variable {prog : Program} {w : World} {A : Around} {E : Value → Shared → Prop} {s : Shared}
theorem list_init_rev {R : Result → Shared → Prop} {it l : Addr} {items : Array Value} (hh : A.handled = none) (hit : s.heap.IsRevIter it l ((items.size : Int) - 1)) (hl : s.heap.IsList l items) (hne : l ≠ it) (hn : items.size ≤ sizeLine) (S : Addr) (hS : s.heap.get? S = some { cls := .type "list", data := .seq #[] }) (hSi : S ≠ it) (hSl : S ≠ l)
    (hR : ∀ h' tk acc' c', (∀ b o, b ≠ S → b ≠ it → s.heap.get? b = some o → h'.get? b = some o) → h'.get? S = some { cls := .type "list", dict := none, data := .seq acc' c', slots := #[] } →
      ItemsOf (fun i v => items[items.size - 1 - i]? = some v) acc' items.size → R (.ok (.ret .none)) { s with heap := h', toks := tk }) :
    wpAny (model prog w) A.in1 (Builtin.«list.__init__» ⟨[.ref S, .ref it], []⟩)
      (fun fin s' => match fin with | .done f => R (.ok f) s' | .again c' => c'.quiet = true ∧ codeAny (model prog w) A c' R s') (fun e s' => R (.error e) s') s := by
  show wpAny _ _ (do let old ← Builtin.List.listItems (.ref S); Builtin.List.listUpdate (.ref S) (fun _ => #[]); letGo old.toList.reverse; Builtin.List.listExtendWith (.ref S) (.ref it) .none) _ _ s
  refine wpAny_bind ?_
  unfold Builtin.List.listItems
  refine wpAny_bind (wpAny_seqItems hS rfl (wpAny_pure ?_))
  show wpAny _ _ (updateSeq S (fun _ => #[]) >>= fun _ => letGo (#[] : Array Value).toList.reverse >>= fun _ => Builtin.List.listExtendWith (.ref S) (.ref it) .none) _ _ s
  refine wpAny_bind (wpAny_updateSeq hS rfl ?_)
  have hS₂ := Heap.get?_update_self (Obj.mapSeq (fun _ => (#[] : Array Value))) hS rfl
  have oth : ∀ b o, b ≠ S → s.heap.get? b = some o → (s.heap.update S (Obj.mapSeq (fun _ => (#[] : Array Value)))).get? b = some o :=
    fun b o hb e => (Heap.get?_update_other _ _ (Ne.symm hb)).trans e
  refine wpAny_bind (wpAny_letGo ?_)
  have W := (Walks.listRev (prog := prog) (w := w) (A := A.in1) hh it l hne items).toS
  have hSf : S ∉ [it, l] := by simp only [List.mem_cons, List.not_mem_nil, or_false, not_or]; exact ⟨hSi, hSl⟩
  have hit1 : (s.heap.update S (Obj.mapSeq (fun _ => (#[] : Array Value)))).IsRevIter it l ((items.size : Int) - 1) := hit.at fun o e => oth it o (Ne.symm hSi) e
  have hl1 : (s.heap.update S (Obj.mapSeq (fun _ => (#[] : Array Value)))).IsList l items := by
    obtain ⟨o, ho, r⟩ := hl
    exact ⟨o, oth l o (Ne.symm hSl) ho, r⟩
  have hT : ({ s with heap := s.heap.update S (Obj.mapSeq (fun _ => (#[] : Array Value))) } : Shared).TypeIs (.ref it) "list_reverseiterator" := Heap.IsRevIter.typeIs (s := { s with heap := s.heap.update S (Obj.mapSeq (fun _ => (#[] : Array Value))) }) hit1
  have h1 : Builtin.List.listSameRef (.ref S) (.ref it) = false := by simp [Builtin.List.listSameRef, hSi]
  show wpAny _ A.in1 (Builtin.List.listExtendWith (.ref S) (.ref it) .none) _ _ _
  unfold Builtin.List.listExtendWith
  refine wpAny_bind (wpAny_typeOf hT ?_)
  rw [if_neg (by rw [h1]; decide)]
  refine wpAny_bind (wpAny_pyIter_revIter (s := { s with heap := s.heap.update S (Obj.mapSeq (fun _ => (#[] : Array Value))) }) hit1 ?_)
  refine wpAny_bind (wpAny_holding ?_)
  unfold Builtin.List.listLengthHint
  refine wpAny_bind (wpAny_specialOf hT nolen_lri ?_)
  show wpAny _ A.in1 (specialOf (Value.ref it) (Str.ofString "__length_hint__") >>= _) _ _ _
  refine wpAny_bind (wpAny_specialOf hT hint_lri ?_)
  generalize hid : ("list_reverseiterator.__length_hint__" : String) = id0
  wp_delta
  rw [show splitId id0 = some ("list_reverseiterator", "__length_hint__") from by subst hid; decide +kernel]
  subst hid
  refine wpAny_bind (wpAny_isInstance (b := true) hT (by rw [isSubtype_type]; kernel_rfl) ?_)
  refine wpAny_pure ?_
  rw [if_neg (by decide)]
  have e0 : ((items.size : Nat) : Int) - 1 - ((0 : Nat) : Int) = (items.size : Int) - 1 := by omega
  refine wpAny_pure ⟨plainId_quiet F.plain_extend_loop _, codeAny_extend_loopS W hn _ hSf _ items.size 0 _ _ _ rfl (Nat.zero_le _) ⟨Nat.zero_le _, by rw [e0]; exact hit1, hl1⟩ hS₂ (ItemsOf.nil _) fun s' acc' c' hm hS' hacc => ?_⟩
  rw [Moved.eq_with hm]
  refine hR s'.heap s'.toks acc' c' (fun b o hb hb2 e => hm.heap b o (fun hmem => ?_) (oth b o hb e)) hS' hacc
  rcases List.mem_cons.mp hmem with e' | hmem
  · exact hb e'
  · exact hb2 (List.mem_singleton.mp hmem)
theorem call_list_rev {it l : Addr} {items : Array Value} {Q : Value → Shared → Prop} (hh : A.handled = none) (hit : s.heap.IsRevIter it l ((items.size : Int) - 1)) (hl : s.heap.IsList l items) (hne : l ≠ it) (hn : items.size ≤ sizeLine)
    (hQ : ∀ h' tk acc' c', (∀ b o, b ≠ it → s.heap.get? b = some o → h'.get? b = some o) →
      h'.get? s.heap.objs.size = some { cls := .type "list", dict := none, data := .seq acc' c', slots := #[] } → ItemsOf (fun i v => items[items.size - 1 - i]? = some v) acc' items.size → Q (.ref s.heap.objs.size) { s with heap := h', toks := tk }) :
    wpAny (model prog w) A (call (.type "list") [.ref it]) Q E s := by
  refine callType_codes (Q₁ := fun obj s₁ => obj = .ref s.heap.objs.size ∧ s₁ = { s with heap := s.heap.push { cls := .type "list", data := .seq #[] } }) F.called_list (F.typeCall_list_1 _) F.entry_list_init
    (code_list_new _ ⟨rfl, rfl⟩) fun obj s₁ h₁ => ?_
  obtain ⟨rfl, rfl⟩ := h₁
  have hS : (s.heap.push { cls := .type "list", data := .seq #[] }).get? s.heap.objs.size = some { cls := .type "list", data := .seq #[] } := Heap.get?_push_size _ rfl
  obtain ⟨oi, hoi, _⟩ := id hit
  obtain ⟨ol, hol, _⟩ := id hl
  refine ⟨⟨_, hS, rfl⟩, F.args_list_init_2 _ _, list_init_rev (s := { s with heap := s.heap.push { cls := .type "list", data := .seq #[] } }) (A := A.in1) hh (hit.at fun o e => Heap.get?_push_of_some _ e) (hl.push _) hne hn _ hS (Nat.ne_of_gt (Heap.lt_size hoi)) (Nat.ne_of_gt (Heap.lt_size hol)) fun h' tk acc' c' hk hS' hacc => ?_⟩
  exact ⟨rfl, hQ h' tk acc' c' (fun b o hb e => hk b o (Nat.ne_of_lt (Heap.lt_size e)) hb (Heap.get?_push_of_some _ e)) hS' hacc⟩
end
section
variable {X : Cx}
/-- list(reversed(x)), x a list -/
def tLstRev (K : PySem.W.Frag) (te : TE) : TE := fun σ H Q => te σ H fun v H1 => ∃ (a : Addr) (xs : List V), v = .ref a ∧ SqL K H1 a xs ∧ ∀ q, H1 q = none → Q (.ref q) (upd H1 q (.lst xs.reverse))
theorem pe_lstRev {e : Expr} {te : TE} {p p2 pos pos2 : Pos} (hc : X.calm = true) (hg : Gl X "list") (hm : X.mg "list" = none) (hg2 : Gl X "reversed") (hm2 : X.mg "reversed" = none) (he : PE X e te)
    (hs : starEach [e] X.env = (false, eval e X.env) :: starEach [] X.env := by rfl)
    (hs2 : starEach [.Call (.Name "reversed" p2) [e] [] pos2] X.env = (false, eval (.Call (.Name "reversed" p2) [e] [] pos2) X.env) :: starEach [] X.env := by rfl) :
    PE X (.Call (.Name "list" p) [.Call (.Name "reversed" p2) [e] [] pos2] [] pos) (tLstRev X.K te) := by
  refine ⟨fun pins s σ H Q I h => ?_⟩
  refine Call_ (ld_blt I hg hm boot_list (PyProof.Rows.callWith_type1 (args_cons (Call_ (ld_blt I hg2 hm2 PyProof.Rows.boot_reversed (PyProof.Rows.callWith_type1 (args_cons (thn (he.run pins s σ H _ I h) fun u s1 ⟨v, H1, I1, r1, q1⟩ => args_nil ?_) hs) hs rfl))) hs2) hs2 rfl))
  obtain ⟨a, xs, ev, hq, q⟩ := q1
  subst ev
  obtain rfl : u = Value.ref a := r1
  obtain ⟨its, rv, p', hz⟩ := I1.list hq
  refine call_reversed_list p'.isList (args_nil ?_)
  have k0 : ∀ b o, s1.heap.get? b = some o → (s1.heap.push (revObj a ((its.toArray.size : Int) - 1))).get? b = some o := fun b o e => Heap.get?_push_of_some _ e
  have I2 : Inv X pins σ H1 { s1 with heap := s1.heap.push (revObj a ((its.toArray.size : Int) - 1)) } := I1.kept (t' := s1.toks) k0
  obtain ⟨f0, f1, f2, f3, f4, f5⟩ := I1.fpOk (H' := H1) (b := s1.heap.objs.size) (Nat.le_refl _) (I1.hok.fresh (Nat.le_refl _))
  have hl := p'.isList
  obtain ⟨ol, hol, _⟩ := id hl
  have hne : a ≠ s1.heap.objs.size := Nat.ne_of_lt (Heap.lt_size hol)
  have hn : its.toArray.size ≤ sizeLine := by rw [List.size_toArray, ← rv.length]; exact hz
  have hit : (s1.heap.push (revObj a ((its.toArray.size : Int) - 1))).IsRevIter s1.heap.objs.size a ((its.toArray.size : Int) - 1) := ⟨_, Heap.get?_push_size _ rfl, rfl, rfl⟩
  refine call_list_rev (s := { s1 with heap := s1.heap.push (revObj a ((its.toArray.size : Int) - 1)) }) (I1.ok.hd hc) hit (hl.push _) hne hn fun h' tk acc c' hk e' hi => ?_
  have hsz : (s1.heap.push (revObj a ((its.toArray.size : Int) - 1))).objs.size = s1.heap.objs.size + 1 := Heap.size_push _ _
  have nS : H1 (s1.heap.push (revObj a ((its.toArray.size : Int) - 1))).objs.size = none := I2.hok.fresh (Nat.le_refl _)
  have lS : ∀ b o, (s1.heap.push (revObj a ((its.toArray.size : Int) - 1))).get? b = some o → b ≠ (s1.heap.push (revObj a ((its.toArray.size : Int) - 1))).objs.size := fun b o e => Nat.ne_of_lt (Heap.lt_size e)
  refine ⟨.ref _, upd H1 _ (.lst xs.reverse), I2.step (g' := s1.gens) (d' := s1.drawn) (t' := tk) (ch := [s1.heap.objs.size]) (fun b hb => ?_) (fun b o _ _ hc e _ => hk b o (fun z => hc (by simp [z])) e) (fun b o _ _ hc e _ => ⟨o.slots, hk b o (fun z => hc (by simp [z])) e⟩)
    (fun b o _ e n => by rw [upd_ne (lS b o e)]; exact n) (fun b o hc e => ⟨o, hk b o (fun z => hc (by simp [z])) e⟩) (fun b ys e => by rw [upd_ne (ne_of_none e nS)]; exact e) (fun b o u e => by rw [upd_ne (ne_of_none e nS)]; exact e) (fun b ps e => ⟨#[], by rw [upd_ne (ne_of_none e nS), e]; simp⟩)
    (fun m hm => ?_) (fun b u e => ?_) I1.bare, rfl, q _ nS⟩
  · have e : b = s1.heap.objs.size := by simpa using hb
    subst e
    exact ⟨f3, f1, f4, f5⟩
  · obtain ⟨o, es, ep, ho, r⟩ := hm
    exact ⟨o, es, ep, hk _ o (Ne.symm f1) ho, r⟩
  · by_cases hb : b = (s1.heap.push (revObj a ((its.toArray.size : Int) - 1))).objs.size
    · subst hb
      rw [upd_same] at e
      cases e
      exact ⟨by rw [List.length_reverse]; exact hz, acc.toList, c', vals_rev rv hi, by rw [Array.toArray_toList]; exact e'⟩
    · rw [upd_ne hb] at e
      refine (I2.hok b u e).stay (fun c v hc q2 => hk c v ?_ q2) (fun c q2 => by rw [upd_ne (ne_of_none q2 nS)]; exact q2) fun c ys q2 => by rw [upd_ne (ne_of_none q2 nS)]; exact q2
      rcases hc with z | z
      · rw [z]
        intro z2
        rw [z2, f0] at e
        cases e
      · intro z2
        rw [z2, f0] at z
        cases z
end
end DL
set_option Elab.async false
set_option linter.all false
set_option maxRecDepth 100000
set_option maxHeartbeats 2000000
namespace DL
open PySem PySem.Spec PyProof.Rows L2 RT

/-! ### built-ins over data -/
def lenD : List D → (Sl → Prop) → Prop
  | [.lst xs], Φ => Φ (.val (.int xs.length))
  | [.tup xs], Φ => Φ (.val (.int xs.length))
  | [.rd xs], Φ => Φ (.val (.int xs.length))
  | [.str z], Φ => z.length ≤ 1000000 ∧ Φ (.val (.int z.length))
  | _, _ => False
def listD : List D → (Sl → Prop) → Prop
  | [.lst xs], Φ => Φ (.own xs)
  | [.tup xs], Φ => Φ (.own xs)
  | [.rd xs], Φ => Φ (.own xs)
  | _, _ => False
def tupleD : List D → (Sl → Prop) → Prop
  | [.lst xs], Φ => Φ (.val (.tup xs))
  | [.tup xs], Φ => Φ (.val (.tup xs))
  | _, _ => False
def intD : List D → (Sl → Prop) → Prop
  | [.int i], Φ => Φ (.val (.int i))
  | [.bl b], Φ => Φ (.val (.int (if b = true then 1 else 0)))
  | _, _ => False
def D.ints : List D → Option (List Int)
  | [] => some []
  | .int i :: r => match D.ints r with
    | some ns => some (i :: ns)
    | none => none
  | _ :: _ => none
theorem ints_some : ∀ {ds : List D} {ns : List Int}, D.ints ds = some ns → ds = ns.map D.int
  | [], ns, h => by cases h; rfl
  | .int i :: r, ns, h => by
    unfold D.ints at h
    split at h
    · rename_i ms e
      cases h
      rw [ints_some e]
      rfl
    · cases h
  | .non :: _, _, h => by cases h
  | .bl _ :: _, _, h => by cases h
  | .str _ :: _, _, h => by cases h
  | .tup _ :: _, _, h => by cases h
  | .lst _ :: _, _, h => by cases h
  | .dic _ :: _, _, h => by cases h
  | .ins _ _ :: _, _, h => by cases h
  | .rd _ :: _, _, h => by cases h
  | .ty _ :: _, _, h => by cases h
  | .cls _ :: _, _, h => by cases h
theorem ints_map : ∀ ns : List Int, D.ints (ns.map D.int) = some ns
  | [] => rfl
  | n :: ns => by
    show (match D.ints (ns.map D.int) with | some ns => some (n :: ns) | none => none) = _
    rw [ints_map ns]
theorem rpl_ints {K : PySem.W.Frag} {G : Hp} : ∀ {vs : List V} {ns : List Int}, RpL K G vs (ns.map D.int) → vs = ns.map V.int
  | _, [], .nil => rfl
  | _, n :: ns, .cons h r => by
    cases h
    rw [rpl_ints r]
    rfl
def maxL : List Int → Int
  | [] => 0
  | [x] => x
  | x :: y :: r => let m := maxL (y :: r); if m > x then m else x
def minL : List Int → Int
  | [] => 0
  | [x] => x
  | x :: y :: r => let m := minL (y :: r); if m < x then m else x
theorem maxL_spec : ∀ {ns : List Int}, 0 < ns.length → maxL ns ∈ ns ∧ ∀ y ∈ ns, y ≤ maxL ns
  | [x], _ => ⟨List.mem_singleton.mpr rfl, fun y h => by rw [List.mem_singleton.mp h]; exact Int.le_refl _⟩
  | x :: y :: r, _ => by
    obtain ⟨h1, h2⟩ := maxL_spec (ns := y :: r) (Nat.succ_pos _)
    unfold maxL
    by_cases c : maxL (y :: r) > x
    · simp only [if_pos c]
      refine ⟨List.mem_cons_of_mem _ h1, fun z hz => ?_⟩
      rcases List.mem_cons.mp hz with e | e
      · rw [e]; omega
      · exact h2 z e
    · simp only [if_neg c]
      refine ⟨List.mem_cons_self, fun z hz => ?_⟩
      rcases List.mem_cons.mp hz with e | e
      · rw [e]; exact Int.le_refl _
      · have := h2 z e; omega
theorem minL_spec : ∀ {ns : List Int}, 0 < ns.length → minL ns ∈ ns ∧ ∀ y ∈ ns, minL ns ≤ y
  | [x], _ => ⟨List.mem_singleton.mpr rfl, fun y h => by rw [List.mem_singleton.mp h]; exact Int.le_refl _⟩
  | x :: y :: r, _ => by
    obtain ⟨h1, h2⟩ := minL_spec (ns := y :: r) (Nat.succ_pos _)
    unfold minL
    by_cases c : minL (y :: r) < x
    · simp only [if_pos c]
      refine ⟨List.mem_cons_of_mem _ h1, fun z hz => ?_⟩
      rcases List.mem_cons.mp hz with e | e
      · rw [e]; omega
      · exact h2 z e
    · simp only [if_neg c]
      refine ⟨List.mem_cons_self, fun z hz => ?_⟩
      rcases List.mem_cons.mp hz with e | e
      · rw [e]; exact Int.le_refl _
      · have := h2 z e; omega
def intsD (g : List Int → (Sl → Prop) → Prop) : List D → (Sl → Prop) → Prop
  | [.lst xs], Φ => match D.ints xs with
    | some ns => g ns Φ
    | none => False
  | _, _ => False
abbrev maxLD := intsD fun ns Φ => 0 < ns.length ∧ Φ (.val (.int (maxL ns)))
abbrev minLD := intsD fun ns Φ => 0 < ns.length ∧ Φ (.val (.int (minL ns)))
abbrev sumD := intsD fun ns Φ => Φ (.val (.int ns.sum))
def max2D : List D → (Sl → Prop) → Prop
  | [.int i, .int j], Φ => Φ (.val (.int (if j > i then j else i)))
  | _, _ => False
def min2D : List D → (Sl → Prop) → Prop
  | [.int i, .int j], Φ => Φ (.val (.int (if j < i then j else i)))
  | _, _ => False
def tname : D → String
  | .non => "NoneType"
  | .bl _ => "bool"
  | .int _ => "int"
  | .str _ => "str"
  | .tup _ => "tuple"
  | .lst _ => "list"
  | .dic _ => "dict"
  | .rd _ => "list"
  | .ins _ _ => ""
  | .ty _ => ""
  | .cls _ => ""
  | .exc _ _ _ _ _ => ""
def isiB (x : D) (n : String) : Bool := tname x == n || (tname x == "bool" && n == "int")
def isiD : List D → (Sl → Prop) → Prop
  | [x, .ty n], Φ => n ∈ ["str", "int", "bool", "tuple", "list"] ∧ tname x ∈ ["NoneType", "bool", "int", "str", "tuple", "list", "dict"] ∧ Φ (.val (.bl (isiB x n)))
  | _, _ => False
theorem kit_all : ∀ n ∈ (["str", "int", "bool", "tuple", "list"] : List String), ∀ t ∈ (["NoneType", "bool", "int", "str", "tuple", "list", "dict"] : List String), kitB t n = some (t == n || (t == "bool" && n == "int")) := by decide +kernel
section
variable {K : PySem.W.Frag}
theorem simc_len : SimC K (fun xs H Q => ∃ x n, xs = [x] ∧ LenV K x H n ∧ Q (.int n) H) lenD := by
  intro M Z G0 H0 G H σ ρ F vs xs Φ Q A r hf k
  unfold lenD at hf
  split at hf
  · match r with
    | .cons (.lst h px) .nil => exact ⟨_, _, rfl, .inl ⟨_, SqL.of (A.gh _ _ h), rfl⟩, by rw [px.length]; exact k _ _ _ G H A (Same.refl G) (.val (.int _)) hf⟩
  · match r with
    | .cons (.tup h px) .nil => exact ⟨_, _, rfl, .inr ⟨_, same_t A.gh h, rfl⟩, by rw [px.length]; exact k _ _ _ G H A (Same.refl G) (.val (.int _)) hf⟩
  · match r with
    | .cons (.rd h px) .nil => exact ⟨_, _, rfl, .inl ⟨_, same_l A.gh h, rfl⟩, by rw [px.length]; exact k _ _ _ G H A (Same.refl G) (.val (.int _)) hf⟩
  · match r with
    | .cons (.str z) .nil => exact ⟨_, _, rfl, ⟨line_le hf.1, rfl⟩, k _ _ _ G H A (Same.refl G) (.val (.int _)) hf.2⟩
  · exact hf.elim
theorem simc_list : SimC K (fun xs H Q => ∃ p ys, xs = [.ref p] ∧ (SqL K H p ys ∨ SqT K H p ys) ∧ ∀ l, H l = none → Q (.ref l) (upd H l (.lst ys))) listD := by
  intro M Z G0 H0 G H σ ρ F vs xs Φ Q A r hf k
  unfold listD at hf
  split at hf
  · match r with
    | .cons (.lst h px) .nil => exact ⟨_, _, rfl, .inl (SqL.of (A.gh _ _ h)), fun l hl => by
        obtain ⟨A2, r2⟩ := A.lst_new hl px
        exact k _ _ _ G _ A2 (Same.refl G) r2 hf⟩
  · match r with
    | .cons (.tup h px) .nil => exact ⟨_, _, rfl, .inr (same_t A.gh h), fun l hl => by
        obtain ⟨A2, r2⟩ := A.lst_new hl px
        exact k _ _ _ G _ A2 (Same.refl G) r2 hf⟩
  · match r with
    | .cons (.rd h px) .nil => exact ⟨_, _, rfl, .inl (same_l A.gh h), fun l hl => by
        obtain ⟨A2, r2⟩ := A.lst_new hl px
        exact k _ _ _ G _ A2 (Same.refl G) r2 hf⟩
  · exact hf.elim
theorem simc_tuple : SimC K (fun xs H Q => ∃ p ys, xs = [.ref p] ∧ ((SqL K H p ys ∧ ∀ l, H l = none → Q (.ref l) (upd H l (.tup ys))) ∨ (SqT K H p ys ∧ Q (.ref p) H))) tupleD := by
  intro M Z G0 H0 G H σ ρ F vs xs Φ Q A r hf k
  unfold tupleD at hf
  split at hf
  · match r with
    | .cons (.lst h px) .nil => exact ⟨_, _, rfl, .inl ⟨SqL.of (A.gh _ _ h), fun l hl => by
        obtain ⟨G2, A2, e2, r2⟩ := A.tup_new hl px
        exact k _ _ _ G2 _ A2 e2 (.val r2) hf⟩⟩
  · match r with
    | .cons (.tup h px) .nil => exact ⟨_, _, rfl, .inr ⟨same_t A.gh h, k _ _ _ G H A (Same.refl G) (.val (.tup h px)) hf⟩⟩
  · exact hf.elim
theorem simc_int : SimC K (fun xs H Q => (∃ i, xs = [.int i] ∧ Q (.int i) H) ∨ ∃ k, xs = [.bl k] ∧ Q (.int (if k then 1 else 0)) H) intD := by
  intro M Z G0 H0 G H σ ρ F vs xs Φ Q A r hf k
  unfold intD at hf
  split at hf
  · match r with
    | .cons (.int i) .nil => exact .inl ⟨i, rfl, k _ _ _ G H A (Same.refl G) (.val (.int _)) hf⟩
  · match r with
    | .cons (.bl b) .nil => exact .inr ⟨b, rfl, k _ _ _ G H A (Same.refl G) (.val (.int _)) hf⟩
  · exact hf.elim
theorem ints_args {vs : List V} {xs : List D} {G : Hp} {g : List Int → (Sl → Prop) → Prop} {Φ : Sl → Prop} (r : RpL K G vs xs) (h : intsD g xs Φ) : ∃ a ns, vs = [.ref a] ∧ G a = some (.lst (ns.map V.int)) ∧ g ns Φ := by
  unfold intsD at h
  split at h
  · split at h
    · rename_i ns e
      rw [ints_some e] at r
      match r with
      | .cons (.lst hx px) .nil =>
        rw [rpl_ints px] at hx
        exact ⟨_, ns, rfl, hx, h⟩
    · exact h.elim
  · exact h.elim
theorem simc_max : SimC K (rMax K) maxLD := by
  intro M Z G0 H0 G H σ ρ F vs xs Φ Q A r hf k
  obtain ⟨a, ns, rfl, h, h0, hf⟩ := ints_args r hf
  refine ⟨a, ns, rfl, SqL.of (A.gh _ _ h), h0, fun m hm hle => ?_⟩
  obtain ⟨h1, h2⟩ := maxL_spec h0
  have e : m = maxL ns := Int.le_antisymm (h2 m hm) (hle _ h1)
  rw [e]
  exact k _ _ _ G H A (Same.refl G) (.val (.int _)) hf
theorem simc_min : SimC K (rMin K) minLD := by
  intro M Z G0 H0 G H σ ρ F vs xs Φ Q A r hf k
  obtain ⟨a, ns, rfl, h, h0, hf⟩ := ints_args r hf
  refine ⟨a, ns, rfl, SqL.of (A.gh _ _ h), h0, fun m hm hle => ?_⟩
  obtain ⟨h1, h2⟩ := minL_spec h0
  have e : m = minL ns := Int.le_antisymm (hle _ h1) (h2 m hm)
  rw [e]
  exact k _ _ _ G H A (Same.refl G) (.val (.int _)) hf
theorem simc_sum : SimC K (rSum K) sumD := by
  intro M Z G0 H0 G H σ ρ F vs xs Φ Q A r hf k
  obtain ⟨a, ns, rfl, h, hf⟩ := ints_args r hf
  exact ⟨a, ns, rfl, SqL.of (A.gh _ _ h), k _ _ _ G H A (Same.refl G) (.val (.int _)) hf⟩
theorem simc_max2 : SimC K (fun xs H Q => ∃ i j, xs = [.int i, .int j] ∧ Q (.int (if j > i then j else i)) H) max2D := by
  intro M Z G0 H0 G H σ ρ F vs xs Φ Q A r hf k
  unfold max2D at hf
  split at hf
  · match r with
    | .cons (.int i) (.cons (.int j) .nil) => exact ⟨i, j, rfl, k _ _ _ G H A (Same.refl G) (.val (.int _)) hf⟩
  · exact hf.elim
theorem simc_min2 : SimC K (fun xs H Q => ∃ i j, xs = [.int i, .int j] ∧ Q (.int (if j < i then j else i)) H) min2D := by
  intro M Z G0 H0 G H σ ρ F vs xs Φ Q A r hf k
  unfold min2D at hf
  split at hf
  · match r with
    | .cons (.int i) (.cons (.int j) .nil) => exact ⟨i, j, rfl, k _ _ _ G H A (Same.refl G) (.val (.int _)) hf⟩
  · exact hf.elim
theorem rd_tyX {K : PySem.W.Frag} {H : Hp} {a : Addr} {xs : List V} (h : SqL K H a xs) : TyX K H (.ref a) (.type "list") := by
  rcases h with (h | ⟨o, h⟩) | ⟨o, its, n, h1, h2, _⟩
  · exact .base (.lst h)
  · exact .base (.frz h)
  · exact .kList h1 h2
theorem tup_tyX {K : PySem.W.Frag} {H : Hp} {a : Addr} {xs : List V} (h : SqT K H a xs) : TyX K H (.ref a) (.type "tuple") := by
  rcases h with (h | ⟨o, h⟩) | ⟨o, its, n, h1, h2, _⟩
  · exact .base (.tup h)
  · exact .fTuple h
  · exact .kTuple h1 h2
theorem rp_tyX {G H : Hp} {v : V} {x : D} (e : Same G H) (r : Rp K G v x) (h : tname x ∈ (["NoneType", "bool", "int", "str", "tuple", "list", "dict"] : List String)) : TyX K H v (.type (tname x)) := by
  cases r with
  | non => exact .base .non
  | bl b => exact .base (.bl b)
  | int i => exact .base (.int i)
  | str s => exact .base (.str s)
  | lst hx px => exact rd_tyX (SqL.of (e _ _ hx))
  | rd hx px => exact rd_tyX (same_l e hx)
  | tup hx px => exact tup_tyX (same_t e hx)
  | dic hx px =>
    rcases same_rd e hx with h | ⟨o, h⟩
    · exact .base (.dK h)
    · exact .fDict h
  | ins _ _ => simp [tname] at h
  | ty _ => simp [tname] at h
  | cls _ => simp [tname] at h
  | exc _ _ _ => simp [tname] at h
theorem simc_isi : SimC K (rIsi K) isiD := by
  intro M Z G0 H0 G H σ ρ F vs xs Φ Q A r hf k
  unfold isiD at hf
  split at hf
  · rename_i x n
    match r with
    | .cons rx (.cons (.ty _) .nil) =>
      obtain ⟨h1, h2, hf⟩ := hf
      exact ⟨_, .ty n, .type (tname x), .type n, isiB x n, rfl, .ty n, rp_tyX A.gh rx h2, kit_ty (kit_all n h1 _ h2), k _ _ _ G H A (Same.refl G) (.val (.bl _)) hf⟩
  · exact hf.elim
end
section
variable {X : Cx} {e a b : Expr} {te ta tb : TE} {de da db : DE} {p p2 pos pos2 : Pos}
/-- list(reversed(e)) -/
theorem sim_lstRev {K : PySem.W.Frag} (h : SimE K te de) : SimR K (tLstRev K te) (dRevL de) := fun {M Z G0 H0 G H σ ρ F Φ Q} A hd kk =>
  h A hd fun v x ρ1 F1 G1 H1 A1 e1 r1 q1 => by
    cases r1 with
    | lst hx px => exact ⟨_, _, rfl, SqL.of (A1.gh _ _ hx), fun p hp => by
        obtain ⟨A4, r4⟩ := A1.lst_new hp px.reverse
        exact kk _ _ _ ρ1 F1 G1 _ A4 e1 r4 q1⟩
    | _ => exact q1.elim
theorem pr_lstRev (hm : X.mg "list" = none) (hm2 : X.mg "reversed" = none) (h : PD X e te de) (hc : X.calm = true := by rfl) (hg : Gl X "list" := by rfl) (hg2 : Gl X "reversed" := by rfl) (hs : starEach [e] X.env = (false, eval e X.env) :: starEach [] X.env := by rfl)
    (hs2 : starEach [.Call (.Name "reversed" p2) [e] [] pos2] X.env = (false, eval (.Call (.Name "reversed" p2) [e] [] pos2) X.env) :: starEach [] X.env := by rfl) :
    PR X (.Call (.Name "list" p) [.Call (.Name "reversed" p2) [e] [] pos2] [] pos) (tLstRev X.K te) (dRevL de) := ⟨pe_lstRev hc hg hm hg2 hm2 h.pe hs hs2, sim_lstRev h.sim⟩
/-- list(range(..)), tuple(range(..)) -/
def dRg1 (d : DE) (g : List D → Sl) : DR := fun ρ Φ => d ρ fun x ρ1 => match x with
  | .int n => 0 ≤ n ∧ n ≤ 1000000 ∧ Φ (g (rng n.toNat 0 1)) ρ1
  | _ => False
def dRg2 (d1 d2 : DE) (g : List D → Sl) : DR := fun ρ Φ => d1 ρ fun x ρ1 => d2 ρ1 fun y ρ2 => match x, y with
  | .int a, .int n => 0 ≤ a ∧ a ≤ 1000000 ∧ 0 ≤ n ∧ n ≤ 1000000 ∧ Φ (g (rng (n - a).toNat a 1)) ρ2
  | _, _ => False
theorem rng_map : ∀ (n : Nat) (a : Int), rng n a 1 = (List.range n).map fun i => D.int (a + (i : Nat))
  | 0, a => rfl
  | n + 1, a => by
    rw [List.range_succ_eq_map, List.map_cons, List.map_map, rng, rng_map n (a + 1)]
    congr 1
    · simp
    · apply List.map_congr_left
      intro i _
      show D.int (a + 1 + (i : Int)) = D.int (a + ((i + 1 : Nat) : Int))
      congr 1
      push_cast
      omega
theorem rgV_rp {K : PySem.W.Frag} {G : Hp} (a b : Int) : RpL K G (rgV a b) (rng (b - a).toNat a 1) := by
  rw [rng_map]
  unfold rgV
  generalize List.range (b - a).toNat = l
  induction l with
  | nil => exact .nil
  | cons i l ih => exact .cons (.int _) ih
theorem sim_lstRg1 {K : PySem.W.Frag} (h : SimE K te de) : SimR K (tLstRg (tRg1 te)) (dRg1 de Sl.own) := fun {M Z G0 H0 G H σ ρ F Φ Q} A hd kk => h A hd fun v x ρ1 F1 G1 H1 A1 e1 r1 q1 => by
  cases r1 with
  | int n =>
    obtain ⟨h1, h2, q1⟩ := q1
    refine ⟨n, rfl, RgOk.of_le (by omega) (by omega) (by omega) h1, fun q hq => ?_⟩
    obtain ⟨A4, r4⟩ := A1.lst_new hq (rgV_rp (K := K) (G := G1) 0 n)
    rw [Int.sub_zero] at r4
    exact kk _ _ _ ρ1 F1 G1 _ A4 e1 r4 q1
  | _ => exact q1.elim
theorem sim_tupRg1 {K : PySem.W.Frag} (h : SimE K te de) : SimR K (tTupRg (tRg1 te)) (dRg1 de fun xs => .val (.tup xs)) := fun {M Z G0 H0 G H σ ρ F Φ Q} A hd kk => h A hd fun v x ρ1 F1 G1 H1 A1 e1 r1 q1 => by
  cases r1 with
  | int n =>
    obtain ⟨h1, h2, q1⟩ := q1
    refine ⟨n, rfl, RgOk.of_le (by omega) (by omega) (by omega) h1, fun q hq => ?_⟩
    obtain ⟨G4, A4, e4, r4⟩ := A1.tup_new hq (rgV_rp (K := K) (G := G1) 0 n)
    rw [Int.sub_zero] at r4
    exact kk _ _ _ ρ1 F1 G4 _ A4 (e1.trans e4) (.val r4) q1
  | _ => exact q1.elim
theorem pr_lstRg1 (hm : X.mg "list" = none) (hm2 : X.mg "range" = none) (h : PD X a ta da) (hc : X.calm = true := by rfl) (hg : Gl X "list" := by rfl) (hg2 : Gl X "range" := by rfl) (na : starEach [a] X.env = (false, eval a X.env) :: starEach [] X.env := by rfl)
    (hs2 : starEach [.Call (.Name "range" p2) [a] [] pos2] X.env = (false, eval (.Call (.Name "range" p2) [a] [] pos2) X.env) :: starEach [] X.env := by rfl) : PR X (.Call (.Name "list" p) [.Call (.Name "range" p2) [a] [] pos2] [] pos) (tLstRg (tRg1 ta)) (dRg1 da Sl.own) :=
  ⟨pe_listRg hc hg hm (prg_1 hg2 hm2 h.pe na) hs2, sim_lstRg1 h.sim⟩
theorem pr_tupRg1 (hm : X.mg "tuple" = none) (hm2 : X.mg "range" = none) (h : PD X a ta da) (hc : X.calm = true := by rfl) (hg : Gl X "tuple" := by rfl) (hg2 : Gl X "range" := by rfl) (na : starEach [a] X.env = (false, eval a X.env) :: starEach [] X.env := by rfl)
    (hs2 : starEach [.Call (.Name "range" p2) [a] [] pos2] X.env = (false, eval (.Call (.Name "range" p2) [a] [] pos2) X.env) :: starEach [] X.env := by rfl) : PR X (.Call (.Name "tuple" p) [.Call (.Name "range" p2) [a] [] pos2] [] pos) (tTupRg (tRg1 ta)) (dRg1 da fun xs => .val (.tup xs)) :=
  ⟨pe_tupRg hc hg hm (prg_1 hg2 hm2 h.pe na) hs2, sim_tupRg1 h.sim⟩
end
end DL
set_option Elab.async false
set_option linter.all false
set_option maxRecDepth 100000
set_option maxHeartbeats 2000000
namespace DL
open PySem PySem.Spec PyProof.Rows L2 RT

/-! ### * -/
def rIsNone : R2 := fun x y H Q => y = .non ∧ Q (.bl (decide (x = .non))) H
def rIsNotNone : R2 := fun x y H Q => y = .non ∧ Q (.bl (!decide (x = .non))) H
def rLenA (K : PySem.W.Frag) : List V → Hp → VK → Prop := fun xs H Q => ∃ x n, xs = [x] ∧ LenV K x H n ∧ Q (.int n) H
def rListA (K : PySem.W.Frag) : List V → Hp → VK → Prop := fun xs H Q => ∃ p ys, xs = [.ref p] ∧ (SqL K H p ys ∨ SqT K H p ys) ∧ ∀ l, H l = none → Q (.ref l) (upd H l (.lst ys))
def rTupleA (K : PySem.W.Frag) : List V → Hp → VK → Prop := fun xs H Q => ∃ p ys, xs = [.ref p] ∧ ((SqL K H p ys ∧ ∀ l, H l = none → Q (.ref l) (upd H l (.tup ys))) ∨ (SqT K H p ys ∧ Q (.ref p) H))
def rIntA : List V → Hp → VK → Prop := fun xs H Q => (∃ i, xs = [.int i] ∧ Q (.int i) H) ∨ ∃ k, xs = [.bl k] ∧ Q (.int (if k then 1 else 0)) H
def rMax2A : List V → Hp → VK → Prop := fun xs H Q => ∃ i j, xs = [.int i, .int j] ∧ Q (.int (if j > i then j else i)) H
def rMin2A : List V → Hp → VK → Prop := fun xs H Q => ∃ i j, xs = [.int i, .int j] ∧ Q (.int (if j < i then j else i)) H
def rMulI : R2 := rI CMul fun i j => .int (i * j)
def rRepTA (K : PySem.W.Frag) : R2 := fun x y H Q => rRepT K x y H Q
def mulD : D → D → (Sl → Prop) → Prop
  | .int i, .int j, Φ => CMul i j ∧ Φ (.val (.int (i * j)))
  | .lst xs, .int k, Φ => 0 ≤ k ∧ k ≤ 1000000 ∧ xs.length * k.toNat ≤ 1000000 ∧ Φ (.own (List.replicate k.toNat xs).flatten)
  | .tup xs, .int k, Φ => xs ≠ [] ∧ 2 ≤ k ∧ k ≤ 1000 ∧ xs.length ≤ 1000 ∧ Φ (.val (.tup (List.replicate k.toNat xs).flatten))
  | _, _, _ => False
def rMulA (K : PySem.W.Frag) : R2 := fun x y H Q => rI CMul (fun i j => .int (i * j)) x y H Q ∨ rRep x y H Q ∨ rRepT K x y H Q
theorem RpL.rep {K : PySem.W.Frag} {G : Hp} {vs : List V} {ds : List D} (r : RpL K G vs ds) : ∀ n : Nat, RpL K G (List.replicate n vs).flatten (List.replicate n ds).flatten
  | 0 => .nil
  | n + 1 => by
    rw [List.replicate_succ, List.replicate_succ, List.flatten_cons, List.flatten_cons]
    exact r.append (RpL.rep r n)
theorem sim_mul {K : PySem.W.Frag} : SimR2 K (rMulA K) mulD := by
  intro M Z G0 H0 G H σ ρ F v w x y Φ Q A rx ry hf k
  unfold mulD at hf
  split at hf
  · cases rx; cases ry
    exact .inl ⟨_, _, rfl, rfl, hf.1, k _ _ _ G H A (Same.refl G) (.val (.int _)) hf.2⟩
  · cases ry
    cases rx with
    | lst hx px =>
      obtain ⟨h1, h2, h3, hf⟩ := hf
      refine .inr (.inl ⟨_, _, _, rfl, rfl, A.gh _ _ hx, by omega, by omega, line_le (by rw [px.length]; exact h3), fun p hp => ?_⟩)
      obtain ⟨A2, r2⟩ := A.lst_new hp (px.rep _)
      exact k _ _ _ G _ A2 (Same.refl G) r2 hf
  · cases ry
    cases rx with
    | tup hx px =>
      obtain ⟨h0, h1, h2, h3, hf⟩ := hf
      refine .inr (.inr ⟨_, _, _, rfl, rfl, same_t A.gh hx, fun z => h0 ((rpl_nil px).mp z), h1, h2, by rw [px.length]; exact h3, fun p hp => ?_⟩)
      obtain ⟨G2, A2, e2, r2⟩ := A.tup_new hp (px.rep _)
      exact k _ _ _ G2 _ A2 e2 (.val r2) hf
  · exact hf.elim
section
variable {K : PySem.W.Frag}
theorem sim_sub : SimV2 K (rI0 fun i j => .int (i - j)) subD := sim_ii fun _ _ _ => .int _
theorem sim_mod : SimV2 K (rI (fun _ j => 0 < j) fun i j => .int (i % j)) modD := sim_iiC fun _ _ _ => .int _
theorem sim_fdv : SimV2 K (rI CDiv fun i j => .int (i / j)) fdvD := sim_iiC fun _ _ _ => .int _
theorem sim_pow : SimV2 K (rI CPow fun i j => .int (i ^ j.toNat)) powD := sim_iiC fun _ _ _ => .int _
theorem sim_lt : SimV2 K (rI0 fun i j => .bl (decide (i < j))) ltD := sim_ii fun _ _ _ => .bl _
theorem sim_le : SimV2 K (rI0 fun i j => .bl (decide (i ≤ j))) leD := sim_ii fun _ _ _ => .bl _
theorem sim_ge : SimV2 K (rI0 fun i j => .bl (decide (j ≤ i))) geD := sim_ii fun _ _ _ => .bl _
theorem sim_gtI : SimV2 K (rI0 fun i j => .bl (decide (j < i))) gtI := sim_ii fun _ _ _ => .bl _
end
section
variable {X : Cx} {a b c e : Expr} {es : List Expr} {ta tb tc te : TE} {da db dc de : DE} {t : TA} {d : DA} {pos p : Pos}
theorem op_mulA : OpR X (binaryOp .Mult) (rMulA X.K) := OpR.or op_mul (OpR.or op_rep op_repT)
theorem pr_add (ha : PD X a ta da) (hb : PD X b tb db) : PR X (.BinOp a .Add b pos) (tOp (rAddA X.K) ta tb) (dOpR addD da db) := pr_op op_addA sim_add ha hb
theorem pr_mul (ha : PD X a ta da) (hb : PD X b tb db) : PR X (.BinOp a .Mult b pos) (tOp (rMulA X.K) ta tb) (dOpR mulD da db) := pr_op op_mulA sim_mul ha hb
theorem pd_sub (ha : PD X a ta da) (hb : PD X b tb db) : PD X (.BinOp a .Sub b pos) (tOp (rI0 fun i j => .int (i - j)) ta tb) (dOp subD da db) := pd_op op_sub sim_sub ha hb
theorem pd_mod (ha : PD X a ta da) (hb : PD X b tb db) : PD X (.BinOp a .Mod b pos) (tOp (rI (fun _ j => 0 < j) fun i j => .int (i % j)) ta tb) (dOp modD da db) := pd_op op_mod sim_mod ha hb
theorem pd_fdv (ha : PD X a ta da) (hb : PD X b tb db) : PD X (.BinOp a .FloorDiv b pos) (tOp (rI CDiv fun i j => .int (i / j)) ta tb) (dOp fdvD da db) := pd_op op_fdiv sim_fdv ha hb
theorem pd_pow (ha : PD X a ta da) (hb : PD X b tb db) : PD X (.BinOp a .Pow b pos) (tOp (rI CPow fun i j => .int (i ^ j.toNat)) ta tb) (dOp powD da db) := pd_op op_pow sim_pow ha hb
theorem pd_lt (ha : PD X a ta da) (hb : PD X b tb db) : PD X (.Compare a [.Lt] [b] pos) (tOp (rI0 fun i j => .bl (decide (i < j))) ta tb) (dOp ltD da db) := pd_cmp op_lt sim_lt ha hb (nomark _)
theorem pd_le (ha : PD X a ta da) (hb : PD X b tb db) : PD X (.Compare a [.LtE] [b] pos) (tOp (rI0 fun i j => .bl (decide (i ≤ j))) ta tb) (dOp leD da db) := pd_cmp op_le sim_le ha hb (nomark _)
theorem pd_ge (ha : PD X a ta da) (hb : PD X b tb db) : PD X (.Compare a [.GtE] [b] pos) (tOp (rI0 fun i j => .bl (decide (j ≤ i))) ta tb) (dOp geD da db) := pd_cmp op_ge sim_ge ha hb (nomark _)
theorem pd_gt (hu : X.A.units < cLine) (ha : PD X a ta da) (hb : PD X b tb db) : PD X (.Compare a [.Gt] [b] pos) (tOp (rGtA X.K) ta tb) (dOp gtD da db) := pd_cmp (op_gtA hu) sim_gt ha hb (nomark _)
theorem pd_eq (hu : X.A.units + 64 < cLine) (ha : PD X a ta da) (hb : PD X b tb db) : PD X (.Compare a [.Eq] [b] pos) (tOp (rEqD X.K) ta tb) (dOp eqD da db) := pd_cmp (op_eqD hu) sim_eq ha hb (nomark _)
theorem pd_ne (hu : X.A.units + 64 < cLine) (ha : PD X a ta da) (hb : PD X b tb db) : PD X (.Compare a [.NotEq] [b] pos) (tOp (rNeD X.K) ta tb) (dOp neD da db) := pd_cmp (op_neD hu) sim_ne ha hb (nomark _)
theorem pd_in (hu : X.A.units + 65 < cLine) (ha : PD X a ta da) (hb : PD X b tb db) (hm : behindInMarks .In b = false := by rfl) : PD X (.Compare a [.In] [b] pos) (tOp (rInA X.K) ta tb) (dOp memV da db) := pd_cmp (op_inA hu) sim_in ha hb hm
theorem pd_notin (hu : X.A.units + 65 < cLine) (ha : PD X a ta da) (hb : PD X b tb db) (hm : behindInMarks .NotIn b = false := by rfl) : PD X (.Compare a [.NotIn] [b] pos) (tOp (rNotInA X.K) ta tb) (dOp notMemV da db) := pd_cmp (op_notInA hu) sim_notIn ha hb hm
theorem pd_is (ha : PD X a ta da) (hb : PD X b tb db) : PD X (.Compare a [.Is] [b] pos) (tOp rIsNone ta tb) (dOp isN da db) := pd_cmp op_isN sim_isN ha hb (nomark _)
theorem pd_isnot (ha : PD X a ta da) (hb : PD X b tb db) : PD X (.Compare a [.IsNot] [b] pos) (tOp rIsNotNone ta tb) (dOp notN da db) := pd_cmp op_notN sim_notN ha hb (nomark _)
theorem pdt_lt (ha : PD X a ta da) (hb : PD X b tb db) : PDT X (.Compare a [.Lt] [b] pos) (tTest (tOp (rI0 fun i j => .bl (decide (i < j))) ta tb)) (dTest (dOp ltD da db)) := pdt_cmp op_lt sim_lt ha hb (nomark _)
theorem pdt_le (ha : PD X a ta da) (hb : PD X b tb db) : PDT X (.Compare a [.LtE] [b] pos) (tTest (tOp (rI0 fun i j => .bl (decide (i ≤ j))) ta tb)) (dTest (dOp leD da db)) := pdt_cmp op_le sim_le ha hb (nomark _)
theorem pdt_ge (ha : PD X a ta da) (hb : PD X b tb db) : PDT X (.Compare a [.GtE] [b] pos) (tTest (tOp (rI0 fun i j => .bl (decide (j ≤ i))) ta tb)) (dTest (dOp geD da db)) := pdt_cmp op_ge sim_ge ha hb (nomark _)
theorem pdt_gt (hu : X.A.units < cLine) (ha : PD X a ta da) (hb : PD X b tb db) : PDT X (.Compare a [.Gt] [b] pos) (tTest (tOp (rGtA X.K) ta tb)) (dTest (dOp gtD da db)) := pdt_cmp (op_gtA hu) sim_gt ha hb (nomark _)
theorem pdt_eq (hu : X.A.units + 64 < cLine) (ha : PD X a ta da) (hb : PD X b tb db) : PDT X (.Compare a [.Eq] [b] pos) (tTest (tOp (rEqD X.K) ta tb)) (dTest (dOp eqD da db)) := pdt_cmp (op_eqD hu) sim_eq ha hb (nomark _)
theorem pdt_ne (hu : X.A.units + 64 < cLine) (ha : PD X a ta da) (hb : PD X b tb db) : PDT X (.Compare a [.NotEq] [b] pos) (tTest (tOp (rNeD X.K) ta tb)) (dTest (dOp neD da db)) := pdt_cmp (op_neD hu) sim_ne ha hb (nomark _)
theorem pdt_in (hu : X.A.units + 65 < cLine) (ha : PD X a ta da) (hb : PD X b tb db) (hm : behindInMarks .In b = false := by rfl) : PDT X (.Compare a [.In] [b] pos) (tTest (tOp (rInA X.K) ta tb)) (dTest (dOp memV da db)) := pdt_cmp (op_inA hu) sim_in ha hb hm
theorem pdt_notin (hu : X.A.units + 65 < cLine) (ha : PD X a ta da) (hb : PD X b tb db) (hm : behindInMarks .NotIn b = false := by rfl) : PDT X (.Compare a [.NotIn] [b] pos) (tTest (tOp (rNotInA X.K) ta tb)) (dTest (dOp notMemV da db)) := pdt_cmp (op_notInA hu) sim_notIn ha hb hm
theorem pdt_is (ha : PD X a ta da) (hb : PD X b tb db) : PDT X (.Compare a [.Is] [b] pos) (tTest (tOp rIsNone ta tb)) (dTest (dOp isN da db)) := pdt_cmp op_isN sim_isN ha hb (nomark _)
theorem pdt_isnot (ha : PD X a ta da) (hb : PD X b tb db) : PDT X (.Compare a [.IsNot] [b] pos) (tTest (tOp rIsNotNone ta tb)) (dTest (dOp notN da db)) := pdt_cmp op_notN sim_notN ha hb (nomark _)
/-! ### calls of built-ins -/
theorem pr_len (hm : X.mg "len" = none) (ha : PDA X (e :: es) t d) (hg : Gl X "len" := by rfl) (hst : starEach (e :: es) X.env = (false, eval e X.env) :: starEach es X.env := by rfl) (hpl : (backTo pos (starEach es X.env)).any (·.1) = false := by rfl) : PR X (.Call (.Name "len" p) (e :: es) [] pos) (tCB (rLenA X.K) t) (dCB lenD d) :=
  pr_callB call_len simc_len hm PySem.boot_len ha hg (by decide) (by decide) hst hpl
theorem pr_list (hm : X.mg "list" = none) (ha : PDA X (e :: es) t d) (hg : Gl X "list" := by rfl) (hst : starEach (e :: es) X.env = (false, eval e X.env) :: starEach es X.env := by rfl) (hpl : (backTo pos (starEach es X.env)).any (·.1) = false := by rfl) : PR X (.Call (.Name "list" p) (e :: es) [] pos) (tCB (rListA X.K) t) (dCB listD d) :=
  pr_callTy call_list_of simc_list hm boot_list ha hg (by decide) (by decide) hst hpl
theorem pr_tuple (hm : X.mg "tuple" = none) (ha : PDA X (e :: es) t d) (hg : Gl X "tuple" := by rfl) (hst : starEach (e :: es) X.env = (false, eval e X.env) :: starEach es X.env := by rfl) (hpl : (backTo pos (starEach es X.env)).any (·.1) = false := by rfl) : PR X (.Call (.Name "tuple" p) (e :: es) [] pos) (tCB (rTupleA X.K) t) (dCB tupleD d) :=
  pr_callTy call_tuple_of simc_tuple hm boot_tuple ha hg (by decide) (by decide) hst hpl
theorem pr_int (hm : X.mg "int" = none) (ha : PDA X (e :: es) t d) (hg : Gl X "int" := by rfl) (hst : starEach (e :: es) X.env = (false, eval e X.env) :: starEach es X.env := by rfl) (hpl : (backTo pos (starEach es X.env)).any (·.1) = false := by rfl) : PR X (.Call (.Name "int" p) (e :: es) [] pos) (tCB rIntA t) (dCB intD d) :=
  pr_callTy call_int1 simc_int hm boot_int ha hg (by decide) (by decide) hst hpl
theorem pr_maxL (hm : X.mg "max" = none) (ha : PDA X (e :: es) t d) (hc : X.calm = true := by rfl) (hg : Gl X "max" := by rfl) (hst : starEach (e :: es) X.env = (false, eval e X.env) :: starEach es X.env := by rfl) (hpl : (backTo pos (starEach es X.env)).any (·.1) = false := by rfl) : PR X (.Call (.Name "max" p) (e :: es) [] pos) (tCB (rMax X.K) t) (dCB maxLD d) :=
  pr_callB (cr_max hc) simc_max hm (by decide +kernel) ha hg (by decide) (by decide) hst hpl
theorem pr_minL (hm : X.mg "min" = none) (ha : PDA X (e :: es) t d) (hc : X.calm = true := by rfl) (hg : Gl X "min" := by rfl) (hst : starEach (e :: es) X.env = (false, eval e X.env) :: starEach es X.env := by rfl) (hpl : (backTo pos (starEach es X.env)).any (·.1) = false := by rfl) : PR X (.Call (.Name "min" p) (e :: es) [] pos) (tCB (rMin X.K) t) (dCB minLD d) :=
  pr_callB (cr_min hc) simc_min hm (by decide +kernel) ha hg (by decide) (by decide) hst hpl
theorem pr_sum (hm : X.mg "sum" = none) (ha : PDA X (e :: es) t d) (hc : X.calm = true := by rfl) (hg : Gl X "sum" := by rfl) (hst : starEach (e :: es) X.env = (false, eval e X.env) :: starEach es X.env := by rfl) (hpl : (backTo pos (starEach es X.env)).any (·.1) = false := by rfl) : PR X (.Call (.Name "sum" p) (e :: es) [] pos) (tCB (rSum X.K) t) (dCB sumD d) :=
  pr_callB (cr_sum hc) simc_sum hm (by decide +kernel) ha hg (by decide) (by decide) hst hpl
theorem pr_max2 (hm : X.mg "max" = none) (ha : PDA X (e :: es) t d) (hc : X.calm = true := by rfl) (hg : Gl X "max" := by rfl) (hst : starEach (e :: es) X.env = (false, eval e X.env) :: starEach es X.env := by rfl) (hpl : (backTo pos (starEach es X.env)).any (·.1) = false := by rfl) : PR X (.Call (.Name "max" p) (e :: es) [] pos) (tCB rMax2A t) (dCB max2D d) :=
  pr_callB (call_max2 hc) simc_max2 hm (by decide +kernel) ha hg (by decide) (by decide) hst hpl
theorem pr_min2 (hm : X.mg "min" = none) (ha : PDA X (e :: es) t d) (hc : X.calm = true := by rfl) (hg : Gl X "min" := by rfl) (hst : starEach (e :: es) X.env = (false, eval e X.env) :: starEach es X.env := by rfl) (hpl : (backTo pos (starEach es X.env)).any (·.1) = false := by rfl) : PR X (.Call (.Name "min" p) (e :: es) [] pos) (tCB rMin2A t) (dCB min2D d) :=
  pr_callB (call_min2 hc) simc_min2 hm (by decide +kernel) ha hg (by decide) (by decide) hst hpl
theorem pr_isi (hm : X.mg "isinstance" = none) (ha : PDA X (e :: es) t d) (hg : Gl X "isinstance" := by rfl) (hst : starEach (e :: es) X.env = (false, eval e X.env) :: starEach es X.env := by rfl) (hpl : (backTo pos (starEach es X.env)).any (·.1) = false := by rfl) : PR X (.Call (.Name "isinstance" p) (e :: es) [] pos) (tCB (rIsi X.K) t) (dCB isiD d) :=
  pr_callB call_isi simc_isi hm (by decide +kernel) ha hg (by decide) (by decide) hst hpl
/-- a built-in class as a value -/
theorem pd_ty {n : String} {x : Str} (hm : X.mg x = none) (hv : bootBuiltins x = some (.type n)) (hg : Gl X x := by rfl) (hn : x ≠ "__name__" := by decide) (hdb : (x == ("__debug__" : Str)) = false := by decide) : PD X (.Name x p) (tC (.ty n)) (dC (.ty n)) :=
  ⟨pe_bltn (v := .ty n) hg hm hv rfl hn hdb, sim_c fun _ => .ty n⟩
end
end DL
set_option Elab.async false
set_option linter.all false
set_option maxRecDepth 100000
set_option maxHeartbeats 2000000
namespace DL
open PySem PySem.Spec PyProof.Rows L2 RT

/-! ### a new list of one's own as a tree -/
/-- x = e, x a tree from now on -/
def dSetT (i : Nat) (d : DR) : DS := fun Δ ρ => d ρ fun x ρ1 => free ρ1 i ∧ match x with
  | .own ds => ∀ p, Δ.nx (ρ1.set i (.loc (.lst p (ds.map OT.val))))
  | x => Δ.nx (ρ1.set i x)
theorem ownL_vals {K : PySem.W.Frag} {G H : Hp} : ∀ {vs : List V} {ds : List D}, RpL K G vs ds → OwnL K G H vs (ds.map OT.val) []
  | _, _, .nil => .nil
  | _, _, .cons h r => by
    have := OwnL.cons (Own.val h) (ownL_vals (H := H) r)
    simpa using this
theorem own_tree {K : PySem.W.Frag} {G H : Hp} {p : Addr} {vs : List V} {ds : List D} (h : H p = some (.lst vs)) (r : RpL K G vs ds) : OT.ok (.lst p (ds.map OT.val)) K G H (.ref p) (fun a => a = p) :=
  ⟨rfl, [p], .lst h (ownL_vals r), by simp, fun a => by simp⟩
theorem sim_setT {K : PySem.W.Frag} {te : TE} {d : DR} {i : Nat} (h : SimR K te d) : SimS K (tAsg te (gName i)) (dSetT i d) := fun {M Z G0 H0 G H σ ρ F Δ Q} A hd k1 _ _ _ => h A hd fun v x Fn ρ1 F1 G1 H1 A1 e1 r1 q1 => by
  obtain ⟨h1, h2⟩ := q1.1.lt
  have q2 := q1.2
  cases x with
  | own ds =>
    obtain ⟨p, vs, ev, hF, hp, r⟩ := r1.ok
    cases ev
    have r2 : ResOk K Z H0 G1 H1 F1 (.ref p) (.loc (.lst p (ds.map OT.val))) (fun a => a = p) := ⟨⟨_, rfl, own_tree hp r⟩, fun z => z, fun a ha => r1.fr a ((hF a).mpr ha)⟩
    exact k1 _ _ _ G1 H1 (A1.set r2 h1 h2) e1 (q2 p)
  | un => exact k1 _ _ _ G1 H1 (A1.set r1 h1 h2) e1 q2
  | val d => exact k1 _ _ _ G1 H1 (A1.set r1 h1 h2) e1 q2
  | loc t => exact k1 _ _ _ G1 H1 (A1.set r1 h1 h2) e1 q2
  | arg t => exact (r1.na trivial).elim
theorem pd_setT {X : Cx} {e : Expr} {te : TE} {d : DR} {pos pos' : Pos} {i : Nat} {x : Str} (hN : X.N.Nodup) (h : PR X e te d) (hi : X.N[i]? = some x := by rfl) (hx : Loc X.env.scope x := by first | exact Or.inl rfl | exact Or.inr rfl) (hs : swapsWith e (some (.Name x pos')) pos.line X.env = pure false := by rfl)
    (hf : X.fn x = true ∨ X.env.scope.names.lookup x = some .local := by first | exact .inl rfl | exact .inr rfl | assumption) : PDS X (.Assign [.Name x pos'] e pos) (tAsg te (gName i)) (dSetT i d) := ⟨ps_set hN hi hx h.pe hs hf, sim_setT h.sim⟩

/-! ### - -/
def negD : D → (D → Prop) → Prop
  | .int i, Φ => Φ (.int (-i))
  | _, _ => False
def dUn (f : D → (D → Prop) → Prop) (d : DE) : DE := fun ρ Φ => d ρ fun x ρ1 => f x fun y => Φ y ρ1
section
variable {X : Cx} {a : Expr} {ta : TE} {da : DE} {pos : Pos}
theorem pd_neg (h : PD X a ta da) : PD X (.UnaryOp .USub a pos) (tUn (rU fun i => .int (-i)) ta) (dUn negD da) := ⟨pe_un un_neg h.pe, fun {M Z G0 H0 G H σ ρ F Φ Q} A hd k => h.sim A hd fun v x ρ1 F1 G1 H1 A1 e1 r1 q1 => by
  cases r1 with
  | int i => exact ⟨i, rfl, k _ _ ρ1 F1 G1 H1 A1 e1 (.int _) q1⟩
  | _ => exact q1.elim⟩
end

/-! ### methods of values: index, count -/
def rCountD (K : PySem.W.Frag) : V → List V → Hp → VK → Prop := fun x xs H Q => ∃ (a : Addr) (y : V) (d : PyData) (ds : List PyData), x = V.ref a ∧ xs = [y] ∧ Dp K H (V.ref a) (.list ds) ∧ Dp K H y d ∧
  SeqAt.shaped (.list ds) = true ∧ SeqAt.shaped d = true ∧ Q (.int ((ds.countP fun z => PyData.eqv z d) : Nat)) H
theorem mt_countD {X : Cx} (hu : X.A.units + 65 < cLine) : MtR X "list.count" (rCountD X.K) := by
  intro pins s σ H x xs v us Q I rx rxs h
  obtain ⟨a, y, d, ds, rfl, rfl, hl, hy, sl, sd, q⟩ := h
  cases rx
  cases rxs with
  | cons ry rt =>
    rename_i uy ut
    cases rt
    obtain ⟨bs, r1⟩ := Dp.reads I d y uy hy ry
    have hxs : PyData.canLayAll0 ds = true := SeqAt.canLay_of_shaped sl
    have hroom : X.A.units + 1 + min (PyData.depthAll ds) d.depth < cLine := room_in_shaped sd hu
    cases hl with
    | lst hs ha =>
      obtain ⟨its, rv, ⟨⟨cls, dd, data, sls⟩, n, ho, hc, hdn, hdt⟩, hlen⟩ := I.list hs
      simp only at hc hdt
      subst hc hdt
      obtain ⟨as, h4⟩ := Dp.readsAll I ds _ its ha rv
      have hmap : its.map (SeqAt.readOf s.heap) = ds := SeqAt.readsAll_map ds its as hxs h4
      refine call_meets PySem.F.slot_list_count ⟨_, ho, rfl⟩ PySem.F.entry_list_count (PySem.F.args_list_count_2 _ _)
        (SeqAt.list_countAt a its.toArray n dd sls uy (fun u => PyData.eqv (SeqAt.readOf s.heap u) d)) ⟨ho, SeqAt.items_eqAt (vs := its.toArray) (show ReadsAll s.heap its.toArray.toList ds as from h4) r1 hxs (SeqAt.canLay_of_shaped sd) hroom, ?_⟩
      have ec : (its.countP fun u => PyData.eqv (SeqAt.readOf s.heap u) d) = ds.countP fun z => PyData.eqv z d := by
        rw [← hmap, List.countP_map]
        rfl
      refine ⟨.int _, H, I.tok _, ⟨s.toks, ?_⟩, q⟩
      show Value.int ((its.toArray.toList.countP (fun u => PyData.eqv (SeqAt.readOf s.heap u) d) : Nat) : Int) s.toks = _
      rw [List.toList_toArray, ec]
def SimM (K : PySem.W.Frag) (r : V → List V → Hp → VK → Prop) (T : String) (f : D → List D → (Sl → Prop) → Prop) : Prop := (∀ (x : D) (v : V) (G H : Hp) (xs : List D) (Φ : Sl → Prop), Same G H → Rp K G v x → f x xs Φ → tyV K T v H) ∧
  ∀ {M : Addr → Prop} {Z G0 H0 G H : Hp} {σ : L2.St} {ρ : List Sl} {F : Nat → Addr → Prop} {v : V} {x : D} {vs : List V} {xs : List D} {Φ : Sl → Prop} {Q : VK}, At K M Z G0 H0 G H σ ρ F → Rp K G v x → RpL K G vs xs → f x xs Φ →
  (∀ u z Fn G' H', At K M Z G0 H0 G' H' σ ρ F → Same G G' → ResOk K Z H0 G' H' F u z Fn → Φ z → Q u H') → r v vs H Q
/-- o.m(e, ..) of a value: what the method wants of its receiver, ty, is asked ahead of the arguments -/
def dMt (ty : D → Prop) (f : D → List D → (Sl → Prop) → Prop) (d : DE) (da : DA) : DR := fun ρ Φ => d ρ fun x ρ1 => ty x ∧ da ρ1 fun xs ρ2 => f x xs fun z => Φ z ρ2
def isL : D → Prop
  | .lst _ => True
  | _ => False
def isS : D → Prop
  | .str _ => True
  | _ => False
theorem tyV_l {K : PySem.W.Frag} {G H : Hp} {v : V} {x : D} (e : Same G H) (r : Rp K G v x) (h : isL x) : tyV K "list" v H := by
  cases r with
  | lst hx px => exact .inl ⟨rfl, _, SqL.of (e _ _ hx)⟩
  | _ => exact h.elim
theorem tyV_s {K : PySem.W.Frag} {G H : Hp} {v : V} {x : D} (e : Same G H) (r : Rp K G v x) (h : isS x) : tyV K "str" v H := by
  cases r with
  | str z => rfl
  | _ => exact h.elim
def SimMt (K : PySem.W.Frag) (r : V → List V → Hp → VK → Prop) (f : D → List D → (Sl → Prop) → Prop) : Prop := ∀ {M : Addr → Prop} {Z G0 H0 G H : Hp} {σ : L2.St} {ρ : List Sl} {F : Nat → Addr → Prop} {v : V} {x : D} {vs : List V} {xs : List D} {Φ : Sl → Prop} {Q : VK}, At K M Z G0 H0 G H σ ρ F → Rp K G v x → RpL K G vs xs → f x xs Φ →
  (∀ u z Fn G' H', At K M Z G0 H0 G' H' σ ρ F → Same G G' → ResOk K Z H0 G' H' F u z Fn → Φ z → Q u H') → r v vs H Q
theorem sim_mt {K : PySem.W.Frag} {T : String} {r : V → List V → Hp → VK → Prop} {f : D → List D → (Sl → Prop) → Prop} {ty : D → Prop} {to : TE} {t : TA} {d : DE} {da : DA} (hty : ∀ {G H : Hp} {v : V} {x : D}, Same G H → Rp K G v x → ty x → tyV K T v H) (hf : SimMt K r f) (h : SimE K to d) (ha : SimA K t da) :
    SimR K (tBM K T r to t) (dMt ty f d da) := fun {M Z G0 H0 G H σ ρ F Φ Q} A hd k => h A hd fun v x ρ1 F1 G1 H1 A1 e1 r1 q1 => ⟨hty A1.gh r1 q1.1, ha A1 q1.2 fun vs xs ρ2 F2 G2 H2 A2 e2 r2 q2 => hf A2 (r1.mono e2) r2 q2 fun u z Fn G3 H3 A3 e3 r3 q3 => k u z Fn ρ2 F2 G3 H3 A3 (e1.trans (e2.trans e3)) r3 q3⟩
/-- the first place of an equal one -/
def indexL (x : D) : List D → Option Nat
  | [] => none
  | y :: r => if D.eqv y x = true then some 0 else match indexL x r with
    | some k => some (k + 1)
    | none => none
def indexD : D → List D → (Sl → Prop) → Prop
  | .lst ds, [y], Φ => D.okL ds 59 = true ∧ y.okN 60 = true ∧ match indexL y ds with
    | some k => Φ (.val (.int k))
    | none => False
  | _, _, _ => False
def countD : D → List D → (Sl → Prop) → Prop
  | .lst ds, [y], Φ => D.okL ds 59 = true ∧ y.okN 60 = true ∧ Φ (.val (.int ((ds.countP fun z => D.eqv z y) : Nat)))
  | _, _, _ => False
theorem indexL_spec {x : D} : ∀ {ds : List D} {k : Nat}, indexL x ds = some k → (∃ z, ds[k]? = some z ∧ D.eqv z x = true) ∧ ∀ m z', m < k → ds[m]? = some z' → D.eqv z' x = false
  | [], k, h => by cases h
  | y :: r, k, h => by
    unfold indexL at h
    by_cases c : D.eqv y x = true
    · rw [if_pos c] at h
      cases h
      exact ⟨⟨y, rfl, c⟩, fun m z' hm _ => absurd hm (Nat.not_lt_zero _)⟩
    · rw [if_neg c] at h
      split at h
      · rename_i j e
        cases h
        obtain ⟨⟨z, h1, h2⟩, h3⟩ := indexL_spec e
        refine ⟨⟨z, h1, h2⟩, fun m z' hm hz => ?_⟩
        cases m with
        | zero =>
          cases hz
          simpa using c
        | succ m => exact h3 m z' (by omega) hz
      · cases h
theorem simm_index {K : PySem.W.Frag} : SimMt K (rIndexD K) indexD := by
  intro M Z G0 H0 G H σ ρ F v x vs xs Φ Q A rx r hf k
  unfold indexD at hf
  split at hf
  · rename_i ds y
    obtain ⟨h1, h2, hf⟩ := hf
    split at hf
    · rename_i j e
      match r with
      | .cons ry .nil =>
        obtain ⟨⟨z, e1, e2⟩, e3⟩ := indexL_spec e
        have o1 : (D.lst ds).okN 60 = true := by simpa [D.okN] using h1
        have d1 := rx.dp A.gh o1
        cases rx with
        | lst hx px =>
          refine ⟨_, _, _, _, j, z.py, rfl, rfl, d1, ry.dp A.gh h2, D.shaped o1, D.shaped h2, ?_, e2, fun m z' hm hz => ?_, k _ _ _ G H A (Same.refl G) (.val (.int _)) hf⟩
          · rw [pyL_map, List.getElem?_map, e1]
            rfl
          · rw [pyL_map, List.getElem?_map] at hz
            cases e4 : ds[m]? with
            | none => rw [e4] at hz; cases hz
            | some w =>
              rw [e4] at hz
              cases hz
              exact e3 m w hm e4
    · exact hf.elim
  · exact hf.elim
theorem simm_count {K : PySem.W.Frag} : SimMt K (rCountD K) countD := by
  intro M Z G0 H0 G H σ ρ F v x vs xs Φ Q A rx r hf k
  unfold countD at hf
  split at hf
  · rename_i ds y
    obtain ⟨h1, h2, hf⟩ := hf
    match r with
    | .cons ry .nil =>
      have o1 : (D.lst ds).okN 60 = true := by simpa [D.okN] using h1
      have d1 := rx.dp A.gh o1
      cases rx with
      | lst hx px =>
        refine ⟨_, _, _, _, rfl, rfl, d1, ry.dp A.gh h2, D.shaped o1, D.shaped h2, ?_⟩
        have e : (D.pyL ds).countP (fun z => PyData.eqv z y.py) = ds.countP fun z => D.eqv z y := by
          rw [pyL_map, List.countP_map]
          rfl
        rw [e]
        exact k _ _ _ G H A (Same.refl G) (.val (.int _)) hf
  · exact hf.elim
section
variable {X : Cx} {o e : Expr} {es : List Expr} {to : TE} {d : DE} {t : TA} {da : DA} {apos cpos : Pos}
theorem pr_index (hu : X.A.units + 65 < cLine) (h : PD X o to d) (ha : PDA X (e :: es) t da) (hbase : attributeBase o "index" X.env (eval o X.env) = eval o X.env := by rfl)
    (hfew : ((backTo cpos (starEach (e :: es) X.env)).all (fun x => !x.1) && (backToKw cpos (keywordEach [] X.env)).all (fun x => x.1.isSome)
      && decide ((e :: es).length + ([] : List Keyword).length + (if ([] : List Keyword).isEmpty then 0 else 1) < 30)) = true := by rfl)
    (hline : (apos.endLine == cpos.line) = true := by rfl) (hs : starEach (e :: es) X.env = (false, eval e X.env) :: starEach es X.env := by rfl) (hplain : (backTo cpos (starEach es X.env)).any (·.1) = false := by rfl) :
    PR X (.Call (.Attribute o "index" apos) (e :: es) [] cpos) (tBM X.K "list" (rIndexD X.K) to t) (dMt isL indexD d da) :=
  ⟨pe_bm PySem.F.plainAttrs_list PySem.F.slot_list_index PySem.F.type_list_index (mt_indexD hu) h.pe ha.pe hbase hfew hline hs hplain, sim_mt tyV_l simm_index h.sim ha.sim⟩
theorem pr_count (hu : X.A.units + 65 < cLine) (h : PD X o to d) (ha : PDA X (e :: es) t da) (hbase : attributeBase o "count" X.env (eval o X.env) = eval o X.env := by rfl)
    (hfew : ((backTo cpos (starEach (e :: es) X.env)).all (fun x => !x.1) && (backToKw cpos (keywordEach [] X.env)).all (fun x => x.1.isSome)
      && decide ((e :: es).length + ([] : List Keyword).length + (if ([] : List Keyword).isEmpty then 0 else 1) < 30)) = true := by rfl)
    (hline : (apos.endLine == cpos.line) = true := by rfl) (hs : starEach (e :: es) X.env = (false, eval e X.env) :: starEach es X.env := by rfl) (hplain : (backTo cpos (starEach es X.env)).any (·.1) = false := by rfl) :
    PR X (.Call (.Attribute o "count" apos) (e :: es) [] cpos) (tBM X.K "list" (rCountD X.K) to t) (dMt isL countD d da) :=
  ⟨pe_bm PySem.F.plainAttrs_list PySem.F.slot_list_count PySem.F.type_list_count (mt_countD hu) h.pe ha.pe hbase hfew hline hs hplain, sim_mt tyV_l simm_count h.sim ha.sim⟩
end
end DL
set_option Elab.async false
set_option linter.all false
set_option maxRecDepth 100000
set_option maxHeartbeats 2000000
namespace DL
open PySem PySem.Spec PyProof.Rows L2 RT

/-! ### [e for ..], each e a new thing of one's own -/
open Classical in
noncomputable def aside (Z H : Hp) (A : List Addr) : Hp := fun a => if a ∈ A then H a else Z a
section
variable {K : PySem.W.Frag} {M : Addr → Prop} {Z G0 H0 G H : Hp} {σ : L2.St} {ρ : List Sl} {F : Nat → Addr → Prop}
theorem At.asideS {A' : List Addr} (A : At K M Z G0 H0 G H σ ρ F) (h : ∀ a ∈ A', G a = none ∧ ∀ i, ¬ F i a) : At K M (aside Z H A') G0 H0 G H σ ρ F :=
  ⟨A.gh, A.g0, A.h0, A.fr, A.hn, A.len, A.sl, A.no, A.fp, A.dj, fun a u q => by
    unfold aside at q
    split at q
    · rename_i ha
      exact ⟨q, (h a ha).1, (h a ha).2⟩
    · exact A.hz a u q⟩
/-- less stands aside -/
theorem At.less {Z' : Hp} (A : At K M Z G0 H0 G H σ ρ F) (h : ∀ a u, Z' a = some u → Z a = some u) : At K M Z' G0 H0 G H σ ρ F :=
  ⟨A.gh, A.g0, A.h0, A.fr, A.hn, A.len, A.sl, A.no, A.fp, A.dj, fun a u q => A.hz a u (h a u q)⟩
end
/-- the result of an element as a tree -/
def asT (Φ : OT → List Sl → Prop) : Sl → List Sl → Prop
  | .val d, ρ => Φ (.val d) ρ
  | .own ds, ρ => ∀ p, Φ (.lst p (ds.map OT.val)) ρ
  | .loc t, ρ => Φ t ρ
  | _, _ => False
theorem res_tree {K : PySem.W.Frag} {Z H0 G H : Hp} {F : Nat → Addr → Prop} {v : V} {x : Sl} {Fn : Addr → Prop} {Φ : OT → List Sl → Prop} {ρ : List Sl} (r : ResOk K Z H0 G H F v x Fn) (h : asT Φ x ρ) :
    ∃ t A, Φ t ρ ∧ Own K G H v t A ∧ A.Nodup ∧ ∀ a ∈ A, G a = none ∧ H a ≠ none ∧ H0 a = none ∧ Z a = none ∧ ∀ j, ¬ F j a := by
  cases x with
  | un => exact h.elim
  | arg t => exact h.elim
  | val d =>
    obtain ⟨_, w, e, hr⟩ := r.ok
    cases e
    exact ⟨.val d, [], h, .val hr, List.nodup_nil, fun a ha => nomatch ha⟩
  | own ds =>
    obtain ⟨p, vs, e, hF, hp, hr⟩ := r.ok
    cases e
    obtain ⟨_, A, o, nd, hA⟩ := own_tree hp hr
    exact ⟨_, A, h p, o, nd, fun a ha => r.fr a ((hF a).mpr ((hA a).mpr ha))⟩
  | loc t =>
    obtain ⟨w, e, n, A, o, nd, hA⟩ := r.ok
    cases e
    exact ⟨t, A, h, o, nd, fun a ha => r.fr a ((hA a).mpr ha)⟩
theorem OwnL.snoc {K : PySem.W.Frag} {G H : Hp} {v : V} {t : OT} {B : List Addr} (r : Own K G H v t B) : ∀ {vs : List V} {ts : List OT} {A : List Addr}, OwnL K G H vs ts A → OwnL K G H (vs ++ [v]) (ts ++ [t]) (A ++ B)
  | _, _, _, .nil => by
    have := OwnL.cons r (OwnL.nil (K := K) (G := G) (H := H))
    simpa using this
  | _, _, _, .cons (A := A) (B := B') h s => by
    rw [List.append_assoc]
    exact .cons h (OwnL.snoc r s)
def dLcOL (vs : List Nat) (g : DG) (te : DR) : List D → List OT → List Sl → (List OT → List Sl → Prop) → Prop
  | [], acc, ρ, Φ => Φ acc ρ
  | x :: xs, acc, ρ, Φ => g x (wipeR ρ vs) fun ρ2 => te ρ2 (asT fun t ρ4 => clean ρ4 vs ∧ dLcOL vs g te xs (acc ++ [t]) ρ4 Φ)
@[irreducible] def dLcO (di : DI) (g : DG) (te : DR) (vs : List Nat) : DR := fun ρ Φ => di ρ fun ds ρ1 => ds.length ≤ 1000000 ∧ clean ρ1 vs ∧ dLcOL vs g te ds [] ρ1 fun acc ρ2 => ∀ p, Φ (.loc (.lst p acc)) (restR ρ1 ρ2 vs)
theorem sim_lcO {K : PySem.W.Frag} {wi : TI} {di : DI} {g : TG} {dg : DG} {te : TE} {de : DR} {vs : List Nat} (hi : SimI K wi di) (hg : SimG K g dg) (hm : MonoG g) (hs : Sets vs g) (he : SimR K te de) : SimR K (tLc wi g tYes te vs) (dLcO di dg de vs) := by
  intro M Z G0 H0 G H σ ρ F Φ Q A hd k
  unfold dLcO at hd
  refine hi A hd fun J ds ρ1 F1 G1 H1 A1 e1 w ⟨hz, hc, q1⟩ => ?_
  intro D hD
  have zD : Z D = none := by
    cases q : Z D with
    | none => rfl
    | some o =>
      have := (A1.hz D o q).1
      rw [hD] at this
      cases this
  have hD0 : H0 D = none := by
    cases q : H0 D with
    | none => rfl
    | some o => exact absurd hD (A1.hn D (by rw [q]; exact Option.some_ne_none _))
  refine lc_it w (fun i H' => ∃ ρ' F' G' accv acc B, At K M (aside (upd Z D (.lst accv)) H' B) G0 H0 G' H' (L2.wipe σ vs) (wipeR ρ' vs) F' ∧ Same G1 G' ∧ H' D = some (.lst accv) ∧ OwnL K G' H' accv acc B ∧ B.Nodup ∧ D ∉ B ∧ (∀ a ∈ B, H' a ≠ none ∧ H0 a = none ∧ Z a = none ∧ G' a = none ∧ ∀ j, ¬ F' j a) ∧ acc.length ≤ i ∧ ρ'.length = ρ1.length ∧
      dLcOL vs dg de (ds.drop i) acc ρ' fun acc ρ2 => ∀ p, Φ (.loc (.lst p acc)) (restR ρ1 ρ2 vs))
    ⟨ρ1, F1, G1, [], [], [], ((A1.hide hD).wipe hc rfl).less (fun a u q => by unfold aside at q; rw [if_neg (by simp)] at q; exact q), Same.refl G1, upd_same, .nil, List.nodup_nil, by simp, (fun a ha => absurd ha (by simp)), Nat.le_refl _, rfl, q1⟩ (fun i H' _ ⟨ρ', F', G', accv, acc, B, A', e', _⟩ => e'.trans A'.gh) ?_ ?_
  · rintro i x H' H'' hi ⟨ρ', F', G', accv, acc, B, A', e', hDl, oB, ndB, nDB, fB, hl, hln, q'⟩ ⟨rfl, d, hd1, hr⟩
    have hlt : i < ds.length := hi
    have hdr : ds.drop i = d :: ds.drop (i + 1) := by
      rw [List.drop_eq_getElem_cons hlt]
      rw [List.getElem?_eq_getElem hlt] at hd1
      rw [Option.some.inj hd1]
    rw [hdr] at q'
    refine hm _ _ _ _ _ (fun σ' H2 ⟨z1, z2⟩ => ?_) (hs _ _ _ _ (hg (Q := fun σ' H2 => ∃ ρ2 F2 G2, At K M (aside (upd Z D (.lst accv)) H'' B) G0 H0 G2 H2 σ' ρ2 F2 ∧ Same G' G2 ∧ de ρ2 (asT fun t ρ4 => clean ρ4 vs ∧ dLcOL vs dg de (ds.drop (i + 1)) (acc ++ [t]) ρ4 (fun acc ρ2 => ∀ p, Φ (.loc (.lst p acc)) (restR ρ1 ρ2 vs))))
      A' (hr.mono e') q' fun σ2 ρ2 F2 G2 H2 A2 e2 q2 => ⟨ρ2, F2, G2, A2, e2, q2⟩))
    obtain ⟨ρ2, F2, G2, A2, e2, q2⟩ := z2
    have zw : L2.wipe σ' vs = L2.wipe σ vs := by
      rw [z1]
      exact wipe_ext (by rw [wipe_length]) fun j hj => by rw [wipe_get, if_neg hj]
    refine ⟨zw, ?_⟩
    unfold tYes
    dsimp only
    rw [if_pos rfl]
    have len2 : ρ2.length = ρ1.length := by rw [← A2.len, (wipe_off zw).1]; exact A1.len
    refine he A2 q2 fun v y Fn ρ4 F4 G4 H4 A4 e4 r4 q4 => ?_
    obtain ⟨t, C, ⟨c4, q5⟩, oC, ndC, fC⟩ := res_tree r4 q4
    have eG4 : Same G' G4 := e2.trans e4
    -- what stood aside stands
    have keepB : ∀ a ∈ B, H4 a = H'' a ∧ G4 a = none ∧ ∀ j, ¬ F4 j a := fun a ha => by
      cases q : H'' a with
      | none => exact absurd q (fB a ha).1
      | some u =>
        have hz4 : aside (upd Z D (.lst accv)) H'' B a = some u := by
          unfold aside
          rw [if_pos ha]
          exact q
        obtain ⟨h1, h2, h3⟩ := A4.hz a u hz4
        exact ⟨h1, h2, h3⟩
    have zD4 : aside (upd Z D (.lst accv)) H'' B D = some (.lst accv) := by
      unfold aside
      rw [if_neg nDB, upd_same]
    obtain ⟨hD4, gD4, fD4⟩ := A4.hz D _ zD4
    have dCB : ∀ a ∈ C, a ∉ B ∧ a ≠ D := fun a ha => by
      obtain ⟨_, h2, _, h4, _⟩ := fC a ha
      refine ⟨fun hb => ?_, fun e => ?_⟩
      · unfold aside at h4
        rw [if_pos hb] at h4
        exact (fB a hb).1 h4
      · subst e
        rw [zD4] at h4
        cases h4
    have oB4 : OwnL K G4 H4 accv acc B := oB.st eG4 fun a ha => (keepB a ha).1
    have hlv := oB4.len
    refine ⟨accv, hD4, line_lt (by omega), ρ4, F4, G4, accv ++ [v], acc ++ [t], B ++ C, ?_, e'.trans eG4, upd_same, ?_, ?_, ?_, ?_, ?_, ?_, q5⟩
    · have A5 : At K M (upd (aside Z H4 (B ++ C)) D (.lst accv)) G0 H0 G4 H4 σ' ρ4 F4 := by
        have A6 := A4.asideS (A' := D :: (B ++ C)) fun a ha => by
          rcases List.mem_cons.mp ha with e | ha
          · rw [e]; exact ⟨gD4, fD4⟩
          · rcases List.mem_append.mp ha with hb | hc
            · exact (keepB a hb).2
            · exact ⟨(fC a hc).1, (fC a hc).2.2.2.2⟩
        refine A6.less fun a u q => ?_
        unfold aside
        by_cases e : a = D
        · rw [if_pos (by rw [e]; exact List.mem_cons_self)]
          rw [e, upd_same] at q
          rw [e, hD4]
          exact q
        · rw [upd_ne e] at q
          unfold aside at q
          by_cases hb : a ∈ B ++ C
          · rw [if_pos hb] at q
            rw [if_pos (List.mem_cons_of_mem _ hb)]
            exact q
          · rw [if_neg hb] at q
            rw [if_neg (by simp only [List.mem_cons, not_or]; exact ⟨e, hb⟩), if_neg fun z => hb (List.mem_append_left _ z), upd_ne e]
            exact q
      have A7 := (A5.rehide (o' := .lst (accv ++ [v])) hD0).wipe c4 zw
      refine A7.less fun a u q => ?_
      unfold aside at q ⊢
      by_cases e : a = D
      · rw [e, upd_same]
        rw [e, if_neg (by simp only [List.mem_append, not_or]; exact ⟨nDB, fun z => (dCB D z).2 rfl⟩), upd_same] at q
        exact q
      · rw [upd_ne e]
        by_cases hb : a ∈ B ++ C
        · rw [if_pos hb, upd_ne e] at q
          rw [if_pos hb]
          exact q
        · rw [if_neg hb, upd_ne e] at q
          rw [if_neg hb]
          exact q
    · exact (oB4.snoc oC).st (Same.refl G4) fun a ha => upd_ne fun e => by
        rcases List.mem_append.mp ha with hb | hc
        · exact nDB (by rw [← e]; exact hb)
        · exact (dCB a hc).2 e
    · exact List.nodup_append.mpr ⟨ndB, ndC, fun a ha c hc e => (dCB c hc).1 (by rw [← e]; exact ha)⟩
    · intro z
      rcases List.mem_append.mp z with hb | hc
      · exact nDB hb
      · exact (dCB D hc).2 rfl
    · intro a ha
      have ne : a ≠ D := fun e => by
        rcases List.mem_append.mp ha with hb | hc
        · exact nDB (by rw [← e]; exact hb)
        · exact (dCB a hc).2 e
      rw [upd_ne ne]
      rcases List.mem_append.mp ha with hb | hc
      · obtain ⟨h1, h2, h3, h4, h5⟩ := fB a hb
        obtain ⟨g1, g2, g3⟩ := keepB a hb
        exact ⟨by rw [g1]; exact h1, h2, h3, g2, g3⟩
      · obtain ⟨h1, h2, h3, h4, h5⟩ := fC a hc
        refine ⟨h2, h3, ?_, h1, h5⟩
        unfold aside at h4
        rw [if_neg (dCB a hc).1, upd_ne ne] at h4
        exact h4
    · rw [List.length_append, List.length_singleton]
      omega
    · rw [← A4.len, A2.len]
      exact len2
  · rintro H' ⟨ρ', F', G', accv, acc, B, A', e', hDl, oB, ndB, nDB, fB, hl, hln, q'⟩
    rw [List.drop_length] at q'
    have zD' : aside (upd Z D (.lst accv)) H' B D = some (.lst accv) := by
      unfold aside
      rw [if_neg nDB, upd_same]
    obtain ⟨_, gD, fD⟩ := A'.hz D _ zD'
    have A2 : At K M Z G0 H0 G' H' (L2.wipe σ vs) (wipeR ρ' vs) F' := A'.less fun a u q => by
      unfold aside
      have nb : a ∉ B := fun z => by
        rw [(fB a z).2.2.1] at q
        cases q
      rw [if_neg nb, upd_ne (ne_of_none q zD)]
      exact q
    have B2 := A2.rest A1 hc hln.symm e'
    exact k (.ref D) (.loc (.lst D acc)) (fun a => a ∈ D :: B) _ F' G' H' B2 (e1.trans e') ⟨⟨_, rfl, rfl, D :: B, .lst hDl oB, List.nodup_cons.mpr ⟨nDB, ndB⟩, fun _ => Iff.rfl⟩, fun z => z, fun a ha => by
      rcases List.mem_cons.mp ha with e | hb
      · subst e
        exact ⟨gD, by rw [hDl]; exact Option.some_ne_none _, hD0, zD, fD⟩
      · obtain ⟨h1, h2, h3, h4, h5⟩ := fB a hb
        exact ⟨h4, h1, h2, h3, h5⟩⟩ (q' D)
section
variable {X : Cx}
theorem pr_lcO {elt tg iter : Expr} {scope : Scope} {pos : Pos} {wi : TI} {di : DI} {g : Shared → Hp → Addr → List (Str × Addr) → List Addr → TG} {dg : DG} {te : Shared → Hp → Addr → List (Str × Addr) → List Addr → TE} {de : DR} (own : List (Str × Nat)) (hN : X.N.Nodup) (hi : PDI X tg iter wi di) (ok : BlkOk X.N X.env.scope scope own)
    (hg : ∀ (s : Shared) (H : Hp) (C : Addr) (cl : List (Str × Addr)) (fp : List Addr), PDG (X.blk s H scope (compEnvC scope cl C X.env) fp) tg (g s H C cl fp) dg) (hm : MonoG (g X.s_0 X.H_0 0 [] [])) (hst : Sets (own.map (·.2)) (g X.s_0 X.H_0 0 [] []))
    (he : ∀ (s : Shared) (H : Hp) (C : Addr) (cl : List (Str × Addr)) (fp : List Addr), PR (X.blk s H scope (compEnvC scope cl C X.env) fp) elt (te s H C cl fp) de)
    (hgE : ∀ (s : Shared) (H : Hp) (C : Addr) (cl : List (Str × Addr)) (fp : List Addr), g s H C cl fp = g X.s_0 X.H_0 0 [] [] := by intros; rfl) (heE : ∀ (s : Shared) (H : Hp) (C : Addr) (cl : List (Str × Addr)) (fp : List Addr), te s H C cl fp = te X.s_0 X.H_0 0 [] [] := by intros; rfl)
    (hc : X.calm = true := by rfl) (hs : ∀ x, foldedSetIterable iter X.env x = pure x := by intro _; rfl) : PR X (.ListComp elt [⟨tg, iter, [], 0⟩] scope pos) (tLc wi (g X.s_0 X.H_0 0 [] []) tYes (te X.s_0 X.H_0 0 [] []) (own.map (·.2))) (dLcO di dg de (own.map (·.2))) :=
  ⟨pe_lc hc hN hi.pi ok (fun s H C cl fp => hgE s H C cl fp ▸ (hg s H C cl fp).pg) (fun s H C cl fp => pts_nil) (fun s H C cl fp => heE s H C cl fp ▸ (he s H C cl fp).pe) hs,
    sim_lcO hi.sim (hg X.s_0 X.H_0 0 [] []).sim hm hst (he X.s_0 X.H_0 0 [] []).sim⟩
theorem pd_setLcO {i : Nat} {y : Str} {py : Pos} {elt tg iter : Expr} {scope : Scope} {pos spos : Pos} {wi : TI} {di : DI} {g : Shared → Hp → Addr → List (Str × Addr) → List Addr → TG} {dg : DG} {te : Shared → Hp → Addr → List (Str × Addr) → List Addr → TE} {de : DR} (own : List (Str × Nat)) (hN : X.N.Nodup) (hyl : X.env.scope.names.lookup y = some .local)
    (hsw : swapsWith (.ListComp elt [⟨tg, iter, [], 0⟩] scope pos) (some (.Name y py)) spos.line X.env = pure true) (hi : PDI X tg iter wi di) (ok : BlkOk X.N X.env.scope scope own)
    (hg : ∀ (s : Shared) (H : Hp) (C : Addr) (cl : List (Str × Addr)) (fp : List Addr), PDG (X.blk s H scope (compEnvC scope cl C X.env) fp) tg (g s H C cl fp) dg) (hm : MonoG (g X.s_0 X.H_0 0 [] [])) (hst : Sets (own.map (·.2)) (g X.s_0 X.H_0 0 [] []))
    (he : ∀ (s : Shared) (H : Hp) (C : Addr) (cl : List (Str × Addr)) (fp : List Addr), PR (X.blk s H scope (compEnvC scope cl C X.env) fp) elt (te s H C cl fp) de)
    (hgE : ∀ (s : Shared) (H : Hp) (C : Addr) (cl : List (Str × Addr)) (fp : List Addr), g s H C cl fp = g X.s_0 X.H_0 0 [] [] := by intros; rfl) (heE : ∀ (s : Shared) (H : Hp) (C : Addr) (cl : List (Str × Addr)) (fp : List Addr), te s H C cl fp = te X.s_0 X.H_0 0 [] [] := by intros; rfl)
    (hy : X.N[i]? = some y := by rfl) (hc : X.calm = true := by rfl) (hs : ∀ x, foldedSetIterable iter X.env x = pure x := by intro _; rfl) :
    PDS X (.Assign [.Name y py] (.ListComp elt [⟨tg, iter, [], 0⟩] scope pos) spos) (tAsg (tLc wi (g X.s_0 X.H_0 0 [] []) tYes (te X.s_0 X.H_0 0 [] []) (own.map (·.2))) (gName i)) (dSet i (dLcO di dg de (own.map (·.2)))) :=
  ⟨ps_setLc hc hN hy hyl hsw hi.pi ok (fun s H C cl fp => hgE s H C cl fp ▸ (hg s H C cl fp).pg) (fun s H C cl fp => pts_nil) (fun s H C cl fp => heE s H C cl fp ▸ (he s H C cl fp).pe) hs,
    sim_set (sim_lcO hi.sim (hg X.s_0 X.H_0 0 [] []).sim hm hst (he X.s_0 X.H_0 0 [] []).sim)⟩
end
end DL
set_option Elab.async false
set_option linter.all false
set_option maxRecDepth 100000
set_option maxHeartbeats 2000000
namespace DL
open PySem PySem.Spec PyProof.Rows L2 RT

/-! ### a thing of one's own lent to a call that gives no more than a number, a text, a truth value -/
def D.scalar : D → Bool
  | .non => true
  | .bl _ => true
  | .int _ => true
  | .str _ => true
  | _ => false
theorem Rp.sc {K : PySem.W.Frag} {G G' : Hp} {v : V} {d : D} (r : Rp K G v d) (h : d.scalar = true) : Rp K G' v d := by
  cases r with
  | non => exact .non
  | bl b => exact .bl b
  | int i => exact .int i
  | str s => exact .str s
  | _ => exact absurd h (by simp [D.scalar])
/-- what a slot of one's own holds, as data -/
def ownD : Option Sl → Option D
  | some (.own ds) => some (.lst ds)
  | some (.loc t) => t.toD
  | _ => none
theorem same_knowA {G H : Hp} {B : List Addr} (e : Same G H) : Same G (knowA G H B) ∧ Same (knowA G H B) H := by
  refine ⟨fun a o h => ?_, fun a o h => ?_⟩
  · unfold knowA
    by_cases c : a ∈ B
    · rw [if_pos c]; exact e a o h
    · rw [if_neg c]; exact h
  · unfold knowA at h
    split at h
    · exact h
    · exact e a o h
/-- a slot of one's own, read as data over a heap that knows more -/
theorem At.lend {K : PySem.W.Frag} {M : Addr → Prop} {Z G0 H0 G H Gp : Hp} {σ : L2.St} {ρ : List Sl} {F : Nat → Addr → Prop} {i : Nat} {d : D} (A : At K M Z G0 H0 G H σ ρ F) (h : ownD (ρ[i]?) = some d) (e : Same G Gp) (e2 : Same Gp H) :
    ∃ v G2, σ[i]? = some (some v) ∧ Same Gp G2 ∧ Same G2 H ∧ Rp K G2 v d := by
  unfold ownD at h
  split at h
  · rename_i ds eq
    cases h
    obtain ⟨p, vs, h1, h2, h3, h4, h5, h6⟩ := A.own_at eq
    obtain ⟨k1, k2⟩ := same_knowA (B := [p]) e2
    refine ⟨.ref p, knowA Gp H [p], h1, k1, k2, .lst ?_ (h4.mono (e.trans k1))⟩
    unfold knowA
    rw [if_pos (by simp)]
    exact h3
  · rename_i t eq
    obtain ⟨v, e1, n, B, o, nd, hB⟩ := A.sl i _ eq
    obtain ⟨k1, k2⟩ := same_knowA (B := B) e2
    exact ⟨v, knowA Gp H B, join_some e1, k1, k2, o.rp h (e.trans k1) fun a ha => by
      unfold knowA
      rw [if_pos ha]⟩
  · cases h
def SimAb (K : PySem.W.Frag) (t : TA) (d : DA) : Prop := ∀ {M : Addr → Prop} {Z G0 H0 G H : Hp} {σ : L2.St} {ρ : List Sl} {F : Nat → Addr → Prop} {Φ : List D → List Sl → Prop} {Q : List V → Hp → Prop}, At K M Z G0 H0 G H σ ρ F → d ρ Φ →
  (∀ vs xs ρ' F' G' Gp H', At K M Z G0 H0 G' H' σ ρ' F' → Same G G' → Same G' Gp → Same Gp H' → RpL K Gp vs xs → Φ xs ρ' → Q vs H') → t σ H Q
structure PDAb (X : Cx) (es : List Expr) (t : TA) (d : DA) : Prop where
  pe : PA X es t
  sim : SimAb X.K t d
@[irreducible] def dbOwn (i : Nat) (d : DA) : DA := fun ρ Φ => match ownD (ρ[i]?) with
  | some _ => d ρ fun xs ρ1 => match ownD (ρ1[i]?) with
    | some y => Φ (y :: xs) ρ1
    | none => False
  | none => False
/-- f(..), things of one's own lent -/
def dCallBr (f : DF) (d : DA) : DE := fun ρ Φ => d ρ fun xs ρ1 => f xs fun r => match r with
  | .val x => x.scalar = true ∧ Φ x ρ1
  | _ => False
section
variable {K : PySem.W.Frag}
theorem sim_bnil : SimAb K tNil dNil := fun {M Z G0 H0 G H σ ρ F Φ Q} A hd k => k [] [] ρ F G G H A (Same.refl G) (Same.refl G) A.gh .nil hd
theorem sim_bcons {t : TE} {ta : TA} {d : DE} {da : DA} (h : SimE K t d) (ha : SimAb K ta da) : SimAb K (tCons t ta) (dCons d da) := fun {M Z G0 H0 G H σ ρ F Φ Q} A hd k =>
  h A hd fun v x ρ1 F1 G1 H1 A1 e1 r1 q1 => ha A1 q1 fun vs xs ρ2 F2 G2 Gp H2 A2 e2 ep ep2 r2 q2 => k _ _ ρ2 F2 G2 Gp H2 A2 (e1.trans e2) ep ep2 (.cons (r1.mono (e2.trans ep)) r2) q2
theorem sim_bown {i : Nat} {ta : TA} {da : DA} (ha : SimAb K ta da) : SimAb K (tCons (tVar i) ta) (dbOwn i da) := by
  intro M Z G0 H0 G H σ ρ F Φ Q A hd k
  unfold dbOwn at hd
  split at hd
  · rename_i y0 e0
    obtain ⟨v, _, h1, _⟩ := A.lend e0 (Same.refl G) A.gh
    refine ⟨v, h1, ha A hd fun vs xs ρ1 F1 G1 Gp H1 A1 e1 ep ep2 r1 q1 => ?_⟩
    split at q1
    · rename_i y e2
      obtain ⟨w, G2, h2, k1, k2, r⟩ := A1.lend e2 ep ep2
      rw [h1] at h2
      cases h2
      exact k _ _ ρ1 F1 G1 G2 H1 A1 e1 (ep.trans k1) k2 (.cons r (r1.mono k1)) q1
    · exact q1.elim
  · exact hd.elim
theorem sim_callBr {f : DF} {t : TA} {d : DA} {E : XK} (h : SimAb K t d) : SimE K (tCall (SpV K f) [] E t) (dCallBr f d) := by
  intro M Z G0 H0 G H σ ρ F Φ Q A hd k
  refine h A hd fun vs xs ρ1 F1 G1 Gp H1 A1 e1 ep ep2 r1 q1 => ?_
  rw [List.append_nil]
  refine ⟨Gp, xs, _, ep2, r1, q1, fun v r Fr Gp2 H2 eG eH eGH old hr q2 => ?_⟩
  cases r with
  | val x =>
    obtain ⟨hs, q2⟩ := q2
    obtain ⟨_, w, ew, rw'⟩ := hr.ok
    cases ew
    have hG : ∃ G2 : Hp, Same G1 G2 ∧ Same G2 H2 ∧ ∀ a, H1 a ≠ none → G2 a = G1 a := by
      classical
      refine ⟨fun a => if H1 a = none then Gp2 a else G1 a, fun a o q => ?_, fun a o q => ?_, fun a n => if_neg n⟩
      · show (if H1 a = none then Gp2 a else G1 a) = some o
        rw [if_neg (by rw [A1.gh a o q]; exact Option.some_ne_none _)]
        exact q
      · have q' : (if H1 a = none then Gp2 a else G1 a) = some o := q
        split at q'
        · exact eGH a o q'
        · exact eH a o (A1.gh a o q')
    obtain ⟨G2, g1, g2, g3⟩ := hG
    exact k v x ρ1 F1 G2 H2 (A1.grow g1 eH g2 g3) (e1.trans g1) (rw'.sc hs) q2
  | _ => exact q2.elim
end
/-- x == e, x one's own -/
@[irreducible] def dCmpOwn (f : D → D → (D → Prop) → Prop) (i : Nat) (d : DE) : DE := fun ρ Φ => match ownD (ρ[i]?) with
  | some _ => d ρ fun y ρ1 => match ownD (ρ1[i]?) with
    | some x => f x y fun z => Φ z ρ1
    | none => False
  | none => False
theorem sim_eqOwn {K : PySem.W.Frag} {i : Nat} {t : TE} {d : DE} (h : SimE K t d) : SimE K (tOp (rEqD K) (tVar i) t) (dCmpOwn eqD i d) := by
  intro M Z G0 H0 G H σ ρ F Φ Q A hd k
  unfold dCmpOwn at hd
  split at hd
  · rename_i y0 e0
    obtain ⟨v, _, h1, _⟩ := A.lend e0 (Same.refl G) A.gh
    refine ⟨v, h1, h A hd fun w y ρ1 F1 G1 H1 A1 e1 r1 q1 => ?_⟩
    split at q1
    · rename_i x e2
      obtain ⟨v', G2, h2, k1, k2, r⟩ := A1.lend e2 (Same.refl G1) A1.gh
      rw [h1] at h2
      cases h2
      obtain ⟨o1, o2, q1⟩ := q1
      exact ⟨_, _, r.dp k2 o1, r1.dp A1.gh o2, D.shaped o1, D.shaped o2, k _ _ ρ1 F1 G1 H1 A1 e1 (.bl _) q1⟩
    · exact q1.elim
  · exact hd.elim
theorem sim_neOwn {K : PySem.W.Frag} {i : Nat} {t : TE} {d : DE} (h : SimE K t d) : SimE K (tOp (rNeD K) (tVar i) t) (dCmpOwn neD i d) := by
  intro M Z G0 H0 G H σ ρ F Φ Q A hd k
  unfold dCmpOwn at hd
  split at hd
  · rename_i y0 e0
    obtain ⟨v, _, h1, _⟩ := A.lend e0 (Same.refl G) A.gh
    refine ⟨v, h1, h A hd fun w y ρ1 F1 G1 H1 A1 e1 r1 q1 => ?_⟩
    split at q1
    · rename_i x e2
      obtain ⟨v', G2, h2, k1, k2, r⟩ := A1.lend e2 (Same.refl G1) A1.gh
      rw [h1] at h2
      cases h2
      obtain ⟨o1, o2, q1⟩ := q1
      exact ⟨_, _, r.dp k2 o1, r1.dp A1.gh o2, D.shaped o1, D.shaped o2, k _ _ ρ1 F1 G1 H1 A1 e1 (.bl _) q1⟩
    · exact q1.elim
  · exact hd.elim
section
variable {X : Cx} {k : Nat} {f : DF} {fa : Addr} {fd : FuncData} {ps : List Str} {x y : Str} {e a b : Expr} {es : List Expr} {t : TA} {d : DA} {te : TE} {de : DE} {p pos q : Pos}
theorem pdab_nil : PDAb X [] tNil dNil := ⟨pa_nil, sim_bnil⟩
theorem pdab_cons (h : PD X e te de) (ha : PDAb X es t d) (hs : starEach (e :: es) X.env = (false, eval e X.env) :: starEach es X.env := by rfl) : PDAb X (e :: es) (tCons te t) (dCons de d) := ⟨pa_cons h.pe ha.pe hs, sim_bcons h.sim ha.sim⟩
theorem pdab_own (i : Nat) (ha : PDAb X es t d) (hN : X.N[i]? = some x := by rfl) (hv : Vis X.env.scope x := by first | exact Or.inl rfl | exact Or.inr (Or.inl rfl) | exact Or.inr (Or.inr rfl)) (hd : (x == ("__debug__" : Str)) = false := by decide)
    (hcd : (x == ("__classdict__" : Str)) = false := by decide) (hs : starEach (.Name x p :: es) X.env = (false, eval (.Name x p) X.env) :: starEach es X.env := by rfl) : PDAb X (.Name x p :: es) (tCons (tVar i) t) (dbOwn i d) := ⟨pa_cons (pe_var hN hv hd hcd) ha.pe hs, sim_bown ha.sim⟩
theorem pd_callBr (G : FnOk X.prog X.w X.K X.mg X.base CX0 k fa fd ps (SpV X.K f)) (hr : Room k X.A) (hm : X.mg x = some (.ref fa)) (hk : PySem.W.keepIn X.K (.ref fa) = true) (hb : Binds X.K fd ps []) (ha : PDAb X (e :: es) t d) (hg : Gl X x := by rfl)
    (hdb : (x == ("__debug__" : Str)) = false := by decide) (hs : starEach (e :: es) X.env = (false, eval e X.env) :: starEach es X.env := by rfl) (hpl : (backTo pos (starEach es X.env)).any (·.1) = false := by rfl) :
    PD X (.Call (.Name x p) (e :: es) [] pos) (tCall (SpV X.K f) [] E0 t) (dCallBr f d) := ⟨pe_call G hr hg hm hk hb .nil pass0 ha.pe hdb hs hpl, sim_callBr ha.sim⟩
theorem pd_eqOwn (i : Nat) (hu : X.A.units + 64 < cLine) (hb : PD X b te de) (hN : X.N[i]? = some x := by rfl) (hv : Vis X.env.scope x := by first | exact Or.inl rfl | exact Or.inr (Or.inl rfl) | exact Or.inr (Or.inr rfl)) (hd : (x == ("__debug__" : Str)) = false := by decide)
    (hcd : (x == ("__classdict__" : Str)) = false := by decide) : PD X (.Compare (.Name x p) [.Eq] [b] pos) (tOp (rEqD X.K) (tVar i) te) (dCmpOwn eqD i de) := ⟨pe_cmpR (op_eqD hu) (pe_var hN hv hd hcd) hb.pe (nomark _), sim_eqOwn hb.sim⟩
theorem pd_neOwn (i : Nat) (hu : X.A.units + 64 < cLine) (hb : PD X b te de) (hN : X.N[i]? = some x := by rfl) (hv : Vis X.env.scope x := by first | exact Or.inl rfl | exact Or.inr (Or.inl rfl) | exact Or.inr (Or.inr rfl)) (hd : (x == ("__debug__" : Str)) = false := by decide)
    (hcd : (x == ("__classdict__" : Str)) = false := by decide) : PD X (.Compare (.Name x p) [.NotEq] [b] pos) (tOp (rNeD X.K) (tVar i) te) (dCmpOwn neD i de) := ⟨pe_cmpR (op_neD hu) (pe_var hN hv hd hcd) hb.pe (nomark _), sim_neOwn hb.sim⟩
theorem pdt_eqOwn (i : Nat) (hu : X.A.units + 64 < cLine) (hb : PD X b te de) (hN : X.N[i]? = some x := by rfl) (hv : Vis X.env.scope x := by first | exact Or.inl rfl | exact Or.inr (Or.inl rfl) | exact Or.inr (Or.inr rfl)) (hd : (x == ("__debug__" : Str)) = false := by decide)
    (hcd : (x == ("__classdict__" : Str)) = false := by decide) : PDT X (.Compare (.Name x p) [.Eq] [b] pos) (tTest (tOp (rEqD X.K) (tVar i) te)) (dTest (dCmpOwn eqD i de)) := ⟨pt_cmpR (op_eqD hu) (pe_var hN hv hd hcd) hb.pe (nomark _), sim_test (sim_eqOwn hb.sim)⟩
theorem pdt_neOwn (i : Nat) (hu : X.A.units + 64 < cLine) (hb : PD X b te de) (hN : X.N[i]? = some x := by rfl) (hv : Vis X.env.scope x := by first | exact Or.inl rfl | exact Or.inr (Or.inl rfl) | exact Or.inr (Or.inr rfl)) (hd : (x == ("__debug__" : Str)) = false := by decide)
    (hcd : (x == ("__classdict__" : Str)) = false := by decide) : PDT X (.Compare (.Name x p) [.NotEq] [b] pos) (tTest (tOp (rNeD X.K) (tVar i) te)) (dTest (dCmpOwn neD i de)) := ⟨pt_cmpR (op_neD hu) (pe_var hN hv hd hcd) hb.pe (nomark _), sim_test (sim_neOwn hb.sim)⟩
end
end DL
set_option Elab.async false
set_option linter.all false
set_option maxRecDepth 100000
set_option maxHeartbeats 2000000
namespace DL
open PySem PySem.Spec PyProof.Rows L2 RT

/-! ### for x in t: .., t a tree of one's own, each x a tree of its own while its turn lasts -/
theorem At.forget {K : PySem.W.Frag} {M : Addr → Prop} {Z G0 H0 G H : Hp} {σ : L2.St} {ρ : List Sl} {F : Nat → Addr → Prop} {i : Nat} (A : At K M Z G0 H0 G H σ ρ F) (hi : i < ρ.length) (na : ¬ Sl.isArg (ρ[i]?)) :
    At K M Z G0 H0 G H σ (ρ.set i .un) (fun j a => if j = i then False else F j a) :=
  A.chg (i := i) (x := .un) (Fn := fun _ => False) hi (Same.refl G) A.gh (fun _ _ => rfl) (fun _ h => h) (fun _ _ h _ => h) (fun _ z => z) (fun z => absurd z na) (fun _ z => z.elim)
theorem OwnL.fresh {K : PySem.W.Frag} {G H : Hp} {v : V} {vs : List V} {t : OT} {ts : List OT} {B : List Addr} (h : OwnL K G H (v :: vs) (t :: ts) B) : ∃ A1 A2, B = A1 ++ A2 ∧ Own K G H v t A1 ∧ OwnL K G H vs ts A2 := by
  cases h with
  | cons h r => exact ⟨_, _, rfl, h, r⟩
def dForTL (j : Nat) (b : DS) (Δ : Ds) : List OT → List Sl → Prop
  | [], ρ => Δ.nx ρ
  | t :: ts, ρ => t.node = true ∧ free ρ j ∧ b { nx := fun ρ' => free ρ' j ∧ dForTL j b Δ ts (ρ'.set j .un), rt := fun _ _ => False, bk := fun _ => False, ct := fun ρ' => free ρ' j ∧ dForTL j b Δ ts (ρ'.set j .un) } (ρ.set j (.loc t))
@[irreducible] def dForT (i j : Nat) (b : DS) : DS := fun Δ ρ => match ρ[i]? with
  | some (.loc (.lst p ts)) => dForTL j b Δ ts (ρ.set i .un)
  | _ => False
theorem forT_core {K : PySem.W.Frag} {j : Nat} {t : TS} {b : DS} {M : Addr → Prop} {Z G0 H0 G H : Hp} {σ : L2.St} {ρ : List Sl} {F : Nat → Addr → Prop} {Δ : Ds} {Q : Ends} {p : Addr} {vs : List V} {ts : List OT} {A0 : List Addr} (hb : SimS K t b) (oL : OwnL K G H vs ts A0) (hp : H p = some (.lst vs))
    (A1 : At K M (aside Z H (p :: A0)) G0 H0 G H σ ρ F) (hB : (p :: A0).Nodup) (fI : ∀ a ∈ p :: A0, H a ≠ none ∧ H0 a = none ∧ Z a = none) (hd : dForTL j b Δ ts ρ)
    (k1 : ∀ σ' ρ' F' G' H', At K M Z G0 H0 G' H' σ' ρ' F' → Same G G' → Δ.nx ρ' → Q.nx σ' H') : tFor (fun σ H R => R (Itl K p) H) (gName j) t Q σ H := by
  have lenv := oL.len
  have hw := walk_list (K := K) (a := p) (xs := vs)
  refine for_it hw (fun n σ' H' => ∃ ρ' F' G' C, At K M (aside Z H' (p :: C)) G0 H0 G' H' σ' ρ' F' ∧ Same G G' ∧ H' p = some (.lst vs) ∧ OwnL K G' H' (vs.drop n) (ts.drop n) C ∧ (p :: C).Nodup ∧ (∀ a ∈ p :: C, H' a ≠ none ∧ H0 a = none ∧ Z a = none) ∧ dForTL j b Δ (ts.drop n) ρ')
    ⟨ρ, F, G, A0, A1, Same.refl G, hp, oL, hB, fI, hd⟩ (fun n σ' H' _ ⟨ρ', F', G', C, A', e', hp', _⟩ => SqL.of hp') ?_ ?_
  · rintro n x σ' H' H'' hn ⟨ρ', F', G', C, A', e', hp', oC, ndC, fC, q'⟩ ⟨rfl, hx⟩
    have hlt : n < vs.length := hn
    have hlt2 : n < ts.length := by omega
    have hdv : vs.drop n = x :: vs.drop (n + 1) := by
      rw [List.drop_eq_getElem_cons hlt]
      rw [List.getElem?_eq_getElem hlt] at hx
      rw [Option.some.inj hx]
    have hdt : ts.drop n = ts[n] :: ts.drop (n + 1) := List.drop_eq_getElem_cons hlt2
    rw [hdv, hdt] at oC
    rw [hdt] at q'
    obtain ⟨C1, C2, rfl, o1, o2⟩ := oC.fresh
    obtain ⟨hnode, fr, qb⟩ := q'
    obtain ⟨fl, fna⟩ := fr.lt
    have zC : ∀ a ∈ p :: (C1 ++ C2), G' a = none ∧ ∀ k, ¬ F' k a := fun a ha => by
      cases q : H'' a with
      | none => exact absurd q (fC a ha).1
      | some u =>
        have := A'.hz a u (by unfold aside; rw [if_pos ha]; exact q)
        exact this.2
    have nd2 : (p :: C2).Nodup := by
      obtain ⟨n1, n2⟩ := List.nodup_cons.mp ndC
      obtain ⟨_, n4, _⟩ := List.nodup_append.mp n2
      exact List.nodup_cons.mpr ⟨fun z => n1 (List.mem_append_right _ z), n4⟩
    have nd1 : C1.Nodup := (List.nodup_append.mp (List.nodup_cons.mp ndC).2).1
    have dC1 : ∀ a ∈ C1, a ∉ p :: C2 := fun a ha z => by
      rcases List.mem_cons.mp z with e | z
      · exact (List.nodup_cons.mp ndC).1 (by rw [← e]; exact List.mem_append_left _ ha)
      · exact (List.nodup_append.mp (List.nodup_cons.mp ndC).2).2.2 a ha a z rfl
    have A2 : At K M (aside Z H'' (p :: C2)) G0 H0 G' H'' σ' ρ' F' := A'.less fun a u q => by
      unfold aside at q ⊢
      by_cases c : a ∈ p :: C2
      · rw [if_pos c] at q
        rw [if_pos (by
          rcases List.mem_cons.mp c with e | c
          · rw [e]; exact List.mem_cons_self
          · exact List.mem_cons_of_mem _ (List.mem_append_right _ c))]
        exact q
      · rw [if_neg c] at q
        by_cases c1 : a ∈ p :: (C1 ++ C2)
        · rw [(fC a c1).2.2] at q
          cases q
        · rw [if_neg c1]
          exact q
    have R : ResOk K (aside Z H'' (p :: C2)) H0 G' H'' F' x (.loc ts[n]) (fun a => a ∈ C1) := ⟨⟨x, rfl, hnode, C1, o1, nd1, fun a => Iff.rfl⟩, fun z => z, fun a ha => by
      have hm : a ∈ p :: (C1 ++ C2) := List.mem_cons_of_mem _ (List.mem_append_left _ ha)
      refine ⟨(zC a hm).1, (fC a hm).1, (fC a hm).2.1, ?_, (zC a hm).2⟩
      unfold aside
      rw [if_neg (dC1 a ha)]
      exact (fC a hm).2.2⟩
    have A3 := A2.set R fl fna
    have step : ∀ (σ3 : L2.St) (ρ3 : List Sl) (F3 : Nat → Addr → Prop) (G3 H3 : Hp), At K M (aside Z H'' (p :: C2)) G0 H0 G3 H3 σ3 ρ3 F3 → Same G' G3 → (free ρ3 j ∧ dForTL j b Δ (ts.drop (n + 1)) (ρ3.set j .un)) →
        ∃ ρ4 F4 G4 C, At K M (aside Z H3 (p :: C)) G0 H0 G4 H3 σ3 ρ4 F4 ∧ Same G G4 ∧ H3 p = some (.lst vs) ∧ OwnL K G4 H3 (vs.drop (n + 1)) (ts.drop (n + 1)) C ∧ (p :: C).Nodup ∧ (∀ a ∈ p :: C, H3 a ≠ none ∧ H0 a = none ∧ Z a = none) ∧ dForTL j b Δ (ts.drop (n + 1)) ρ4 := by
      rintro σ3 ρ3 F3 G3 H3 B3 e3 ⟨f3, q3⟩
      obtain ⟨g1, g2⟩ := f3.lt
      have keep : ∀ a ∈ p :: C2, H3 a = H'' a := fun a ha => by
        have hm : a ∈ p :: (C1 ++ C2) := by
          rcases List.mem_cons.mp ha with e | c
          · rw [e]; exact List.mem_cons_self
          · exact List.mem_cons_of_mem _ (List.mem_append_right _ c)
        cases q : H'' a with
        | none => exact absurd q (fC a hm).1
        | some u => exact (B3.hz a u (by unfold aside; rw [if_pos ha]; exact q)).1
      refine ⟨ρ3.set j .un, _, G3, C2, (B3.forget g1 g2).less fun a u q => ?_, e'.trans e3, by rw [keep p List.mem_cons_self]; exact hp', o2.st e3 fun a ha => keep a (List.mem_cons_of_mem _ ha), nd2, fun a ha => ?_, q3⟩
      · unfold aside at q ⊢
        by_cases c : a ∈ p :: C2
        · rw [if_pos c] at q ⊢
          rw [← keep a c]
          exact q
        · rw [if_neg c] at q ⊢
          exact q
      · rw [keep a ha]
        refine fC a ?_
        rcases List.mem_cons.mp ha with e | c
        · rw [e]; exact List.mem_cons_self
        · exact List.mem_cons_of_mem _ (List.mem_append_right _ c)
    exact hb A3 qb (fun σ3 ρ3 F3 G3 H3 B3 e3 q3 => step σ3 ρ3 F3 G3 H3 B3 e3 q3) (fun v x Fn σ3 ρ3 F3 G3 H3 B3 e3 r3 q3 => q3.elim) (fun σ3 ρ3 F3 G3 H3 B3 e3 q3 => q3.elim) (fun σ3 ρ3 F3 G3 H3 B3 e3 q3 => step σ3 ρ3 F3 G3 H3 B3 e3 q3)
  · rintro σ' H' ⟨ρ', F', G', C, A', e', hp', oC, ndC, fC, q'⟩
    rw [show ts.drop vs.length = [] from by rw [lenv, List.drop_length]] at q'
    refine k1 σ' ρ' F' G' H' (A'.less fun a u q => ?_) e' q'
    unfold aside
    by_cases c : a ∈ p :: C
    · rw [(fC a c).2.2] at q
      cases q
    · rw [if_neg c]
      exact q
theorem sim_forT {K : PySem.W.Frag} {i j : Nat} {t : TS} {b : DS} (hb : SimS K t b) : SimS K (tFor (iAny K (tVar i)) (gName j) t) (dForT i j b) := by
  intro M Z G0 H0 G H σ ρ F Δ Q A hd k1 k2 k3 k4
  unfold dForT at hd
  split at hd
  · rename_i p ts ei
    obtain ⟨v, hv, nd, B, ho, hB, hF⟩ := A.sl i _ ei
    have hi : i < ρ.length := (List.getElem?_eq_some_iff.mp ei).1
    cases ho with
    | lst hp oL =>
      rename_i vs A0
      have fI : ∀ a ∈ p :: A0, G a = none ∧ H a ≠ none ∧ H0 a = none ∧ Z a = none := fun a ha => by
        obtain ⟨h1, h2, h3⟩ := A.fp i a ((hF a).mpr ha)
        refine ⟨h1, h2, ?_, ?_⟩
        · rcases h3 with h3 | h3
          · exact h3
          · rw [ei] at h3; exact h3.2.elim
        · cases q : Z a with
          | none => rfl
          | some o => exact absurd ((hF a).mpr ha) ((A.hz a o q).2.2 i)
      refine ⟨.ref p, join_some hv, .inl ⟨p, rfl, ⟨vs, SqL.of hp⟩, ?_⟩⟩
      have A1 := (A.forget hi (by rw [ei]; exact fun z => z)).asideS (A' := p :: A0) fun a ha => ⟨(fI a ha).1, fun k z => by
        by_cases e : k = i
        · rw [if_pos e] at z; exact z
        · rw [if_neg e] at z; exact e (A.dj k i a z ((hF a).mpr ha))⟩
      exact forT_core hb oL hp A1 hB (fun a ha => (fI a ha).2) hd k1
  · exact hd.elim
theorem pd_forT {X : Cx} {x y : Str} {p p' : Pos} {body : List Stmt} {t : TS} {b : DS} {pos : Pos} (i j : Nat) (nd : X.N.Nodup) (hb : PDSs X body t b) (hN : X.N[i]? = some x := by rfl) (hv : Vis X.env.scope x := by first | exact Or.inl rfl | exact Or.inr (Or.inl rfl) | exact Or.inr (Or.inr rfl)) (hd : (x == ("__debug__" : Str)) = false := by decide)
    (hcd : (x == ("__classdict__" : Str)) = false := by decide) (hi : X.N[j]? = some y := by rfl) (hx : Loc X.env.scope y := by first | exact Or.inl rfl | exact Or.inr rfl) (hf : X.fn y = true ∨ X.env.scope.names.lookup y = some .local := by first | exact .inl rfl | exact .inr rfl | assumption)
    (hp : PassesOwn (model X.prog X.w) X.A X.env X.xe := by exact PassesOwn.never) (hc : X.calm = true := by rfl)
    (hs : ∀ z, foldedSetIterable (.Name x p) X.env z = pure z := by intro _; rfl) : PDS X (.For (.Name y p') (.Name x p) body [] pos) (tFor (iAny X.K (tVar i)) (gName j) t) (dForT i j b) :=
  ⟨ps_for hp hc (pi_any (pe_var hN hv hd hcd)) (pdg_name nd hi hx hf).pg hb.pe hs, sim_forT hb.sim⟩
end DL
set_option Elab.async false
set_option linter.all false
set_option maxRecDepth 100000
set_option maxHeartbeats 2000000
namespace DL
open PySem PySem.Spec PyProof.Rows L2 RT

/-! ### sorted(set(..)) of pairs of whole numbers of any sign -/
def pr2 : List Int → Int × Int
  | [x, y] => (x, y)
  | _ => (0, 0)
def rSortSet (K : PySem.W.Frag) (P : Program) (w : World) : List V → Hp → VK → Prop := fun vs H Q => ∃ (a : Addr) (L : List (Addr × List Int)), vs = [V.ref a] ∧ H a = some (SetTO P w a L) ∧ (∀ z ∈ L, SqT K H z.1 (z.2.map V.int)) ∧ (∀ z ∈ L, z.2.length = 2) ∧
  ∀ (M : List (Addr × List Int)) (p : Addr), M.Perm L → (M.map (·.2)).Nodup → M.Pairwise (fun y z => SrtO.lexB (pr2 z.2) (pr2 y.2) = false) → H p = none → Q (.ref p) (upd H p (.lst (M.map fun z => V.ref z.1)))
/-- values that are references of rows of L: they are the references of a list of rows -/
theorem rows_back {L : List (Addr × List Int)} : ∀ {us : List Value}, (∀ u ∈ us, ∃ z ∈ L, u = Value.ref z.1) → ∃ M : List (Addr × List Int), us = M.map (fun z => Value.ref z.1) ∧ ∀ z ∈ M, z ∈ L
  | [], _ => ⟨[], rfl, fun z h => nomatch h⟩
  | u :: us, h => by
    obtain ⟨z, hz, e⟩ := h u List.mem_cons_self
    obtain ⟨M, e2, hM⟩ := rows_back (us := us) fun v hv => h v (List.mem_cons_of_mem _ hv)
    refine ⟨z :: M, by rw [e, e2]; rfl, fun y hy => ?_⟩
    rcases List.mem_cons.mp hy with e3 | e3
    · rw [e3]; exact hz
    · exact hM y e3
theorem rows_perm {L M : List (Addr × List Int)} (inj : ∀ y ∈ L, ∀ z ∈ L, y.1 = z.1 → y = z) (hM : ∀ z ∈ M, z ∈ L) (nd : L.Nodup) (pm : (M.map fun z => Value.ref z.1).Perm (L.map fun z => Value.ref z.1)) : M.Perm L := by
  have ndr : (L.map fun z => Value.ref z.1).Nodup := by
    rw [List.nodup_iff_pairwise_ne, List.pairwise_map]
    exact (List.nodup_iff_pairwise_ne.mp nd).imp_of_mem fun {y z} hy hz ne e => ne (inj y hy z hz (Value.ref.inj e))
  have ndm : M.Nodup := by
    have := pm.nodup_iff.mpr ndr
    rw [List.nodup_iff_pairwise_ne, List.pairwise_map] at this
    exact List.nodup_iff_pairwise_ne.mpr (this.imp fun ne e => ne (by rw [e]))
  refine (List.perm_ext_iff_of_nodup ndm nd).mpr fun y => ⟨hM y, fun hy => ?_⟩
  have : Value.ref y.1 ∈ M.map fun z => Value.ref z.1 := pm.mem_iff.mpr (List.mem_map_of_mem hy)
  obtain ⟨z, hz, e⟩ := List.mem_map.mp this
  have := inj z (hM z hz) y hy (Value.ref.inj e)
  rw [← this]
  exact hz
theorem pair_of {P : Program} {w : World} {h : Heap} {b : Addr} {k : List Int} (x : IsT P w h k b) (l : k.length = 2) : Srt.IsPair h (.ref b) (pr2 k).1 (pr2 k).2 := by
  obtain ⟨o, items, n, ho, hc, hd, hi⟩ := x
  obtain ⟨l0⟩ := items
  match k, l, l0, ho, hc, hd, hi with
  | [x, y], _, l0, ho, hc, hd, hi =>
    have hi' := ints_of_items hi
    change IntsAre l0 [x, y] at hi'
    cases hi' with
    | cons _ t r =>
      cases r with
      | cons _ u r =>
        cases r
        exact ⟨b, o, t, u, n, rfl, ho, hc, hd⟩
section
variable {X : Cx}
theorem cr_sortSet (hc : X.calm = true) : CallR X (.builtin "sorted") (rSortSet X.K X.prog X.w) := by
  intro pins s σ H vs us Q I r hyp
  obtain ⟨a, L, rfl, ha, hk, len2, cont⟩ := hyp
  obtain ⟨es, ep, t, R⟩ := SetT0.full (I.hok a _ ha).1 fun z hz => Inv.isT I (hk z hz)
  have calm := I.ok.hd hc
  rw [Vals.ref1 r]
  obtain ⟨o, ho, hex, hd⟩ := R.ob
  have few := R.few
  have esz := R.size
  refine Calls.call_function_entry kind_sorted plain_sorted entry_sorted (args_sorted1 (Value.ref a)) ?_
  unfold Builtin.«sorted»
  refine wpAny_bind (m := checkCount "sorted" 1 1 _) (wpAny_pure (wpAny_bind ?_))
  refine collect_set calm ⟨o, ho, hex.1, hd⟩ R.fits (by unfold scanBound; omega) R.tab.ris R.led fun s1 ys old grown gens os pm => ?_
  have rows : es.toList.map (·.2) = L.map fun z => Value.ref z.1 := by
    rw [R.rows, rowsOf, List.map_map]
    rfl
  rw [rows] at pm
  have inj : ∀ y ∈ L, ∀ z ∈ L, y.1 = z.1 → y = z := fun y hy z hz e => Prod.ext e (by
    have h1 := R.tup y hy
    rw [e] at h1
    exact h1.inj (R.tup z hz))
  have ylen : ys.length < 64 := by rw [pm.length_eq, List.length_map]; exact few
  refine wpAny_bind (wpAny_newList ?_ (by rw [sizeLine_eq]; omega))
  have here : (s1.heap.push (seqObj "list" ys.toArray 0)).get? s1.heap.objs.size = some (seqObj "list" ys.toArray 0) := Heap.get?_push_size _ rfl
  have tups : ∀ z ∈ L, IsT X.prog X.w (s1.heap.push (seqObj "list" ys.toArray 0)) z.2 z.1 := fun z hz => isT_keep (R.tup z hz) fun b u e => Heap.get?_push_of_some _ (old b u e)
  -- the key of a value
  let kf : Value → Int × Int := fun v => pr2 (TS.intsOf (s1.heap.push (seqObj "list" ys.toArray 0)) v)
  have kfe : ∀ z ∈ L, kf (.ref z.1) = pr2 z.2 := fun z hz => congrArg pr2 (tupInts_of (tups z hz)).ints
  have pairs : ∀ v ∈ ys, Srt.IsPair (s1.heap.push (seqObj "list" ys.toArray 0)) v (kf v).1 (kf v).2 := fun v hv => by
    obtain ⟨z, hz, e⟩ := List.mem_map.mp (pm.mem_iff.mp hv)
    rw [← e, kfe z hz]
    exact pair_of (tups z hz) (len2 z hz)
  refine wpAny_bind (wpAny_holding (wpAny_call_entry slot_list_sort ⟨_, here, rfl⟩ entry_list_sort (SrtO.list_sort_ord (s := { s1 with heap := s1.heap.push (seqObj "list" ys.toArray 0) }) (SrtO.swo_lex kf) here (by rw [sizeLine_eq]; omega) (fun l2 => ?_) fun out hs hb => ⟨_, rfl, ?_⟩) (args_list_sort _)))
  · refine SrtO.pairs_sortableO (s := { s1 with heap := s1.heap.push (seqObj "list" ys.toArray 0) }) (by omega) pairs fun o' e => ?_
    have := e.symm.trans here
    cases this
    exact fun c => absurd (Value.type.inj c) (by decide)
  · obtain ⟨c, hl⟩ := sortedHeap_at (vs := ys) (out := out.toArray) here
    obtain ⟨M, eM, hM⟩ := rows_back (L := L) (us := out) fun v hv => by
      obtain ⟨z, hz, e⟩ := List.mem_map.mp (pm.mem_iff.mp (hb.perm.mem_iff.mp hv))
      exact ⟨z, hz, e.symm⟩
    have pM : M.Perm L := rows_perm inj hM (nodup_of_map R.nd) (by rw [← eM]; exact hb.perm.trans pm)
    have few' : M.length < 64 := by rw [pM.length_eq]; exact few
    have oM : M.Pairwise (fun y z => SrtO.lexB (pr2 z.2) (pr2 y.2) = false) := by
      rw [eM] at hs
      refine (List.pairwise_map.mp hs).imp_of_mem fun {y z} hy hz h => ?_
      rw [← kfe y (hM y hy), ← kfe z (hM z hz)]
      exact h
    have keep : ∀ b u, s.heap.get? b = some u → (sortedHeap (s1.heap.push (seqObj "list" ys.toArray 0)) s1.heap.objs.size ys out.toArray).get? b = some u := fun b u e => by
      have e1 := old b u e
      have lt := Heap.lt_size e1
      rw [sortedHeap_old (Nat.ne_of_lt lt) (by rw [size_push']; exact Nat.lt_succ_of_lt lt)]
      exact Heap.get?_push_of_some _ e1
    have nH : H s1.heap.objs.size = none := I.hok.fresh grown
    have vM : Vals (M.map fun z => V.ref z.1) out := by rw [eM]; exact vals_of_refs M
    have J := Inv.call (ch := []) (g' := s1.gens) (t' := s1.toks) (d' := s1.drawn) I (Un.laid keep grown nH) (I.hok.laid keep grown (o := .lst (M.map fun z => V.ref z.1)) ⟨by rw [List.length_map, sizeLine_eq]; omega, out, c, vM, hl⟩) (by rw [gens]; exact I.bare) (fun _ z => nomatch z)
    refine wpAny_pure ⟨_, rfl, .ref s1.heap.objs.size, _, ?_, rfl, cont M _ pM ((pM.map (·.2)).nodup_iff.mpr R.nd) oM nH⟩
    cases s1
    cases s
    cases os
    exact J
end
/-! ### over data -/
def pairD (p : Int × Int) : D := .tup [.int p.1, .int p.2]
def D.pairs : List D → Option (List (Int × Int))
  | [] => some []
  | .tup [.int x, .int y] :: r => match D.pairs r with
    | some ps => some ((x, y) :: ps)
    | none => none
  | _ :: _ => none
theorem pairs_map : ∀ ps : List (Int × Int), D.pairs (ps.map pairD) = some ps
  | [] => rfl
  | p :: ps => by
    have := pairs_map ps
    show D.pairs (.tup [.int p.1, .int p.2] :: ps.map pairD) = _
    rw [D.pairs, this]
theorem pairs_some : ∀ {xs : List D} {ps : List (Int × Int)}, D.pairs xs = some ps → xs = ps.map pairD
  | [], ps, h => by cases h; rfl
  | x :: r, ps, h => by
    unfold D.pairs at h
    split at h
    · rename_i e
      cases e
    · rename_i e
      cases e
      split at h
      · rename_i qs e2
        cases h
        rw [pairs_some e2]
        rfl
      · cases h
    · cases h
/-- sorted(set(d)) -/
@[irreducible] def dSortSet (d : DE) : DR := fun ρ Φ => d ρ fun x ρ1 => match x with
  | .lst xs => match D.pairs xs with
    | some ps => ps.length < 64 ∧ ∀ qs : List (Int × Int), (∀ q, q ∈ qs ↔ q ∈ ps) → qs.Pairwise (fun a b => SrtO.lexB a b = true) → Φ (.own (qs.map pairD)) ρ1
    | none => False
  | _ => False
theorem pairs_rows {K : PySem.W.Frag} {G : Hp} : ∀ {ps : List (Int × Int)} {vs : List V}, RpL K G vs (ps.map pairD) → ∃ ks : List (Addr × List Int), vs = ks.map (fun z => V.ref z.1) ∧ (∀ z ∈ ks, SqT K G z.1 (z.2.map V.int)) ∧ ks.map (·.2) = ps.map fun q => [q.1, q.2]
  | [], vs, r => by
    cases r
    exact ⟨[], rfl, fun z h => (nomatch h), rfl⟩
  | p :: ps, vs, r => by
    cases r with
    | cons h r =>
      obtain ⟨ks, e, hk, e2⟩ := pairs_rows r
      cases h with
      | tup hx px =>
        rename_i a ws
        cases px with
        | cons h1 px =>
          cases px with
          | cons h2 px =>
            cases px
            cases h1
            cases h2
            refine ⟨(a, [p.1, p.2]) :: ks, by rw [e]; rfl, fun z hz => ?_, by rw [List.map_cons, e2]; rfl⟩
            rcases List.mem_cons.mp hz with q | q
            · rw [q]; exact hx
            · exact hk z q
theorem sim_sortSet {K : PySem.W.Frag} {P : Program} {w : World} {t : TE} {d : DE} (h : SimE K t d) : SimR K (tCB (rSortSet K P w) (tCons (tCB (rSetOfT K P w) (tCons t tNil)) tNil)) (dSortSet d) := by
  intro M Z G0 H0 G H σ ρ F Φ Q A hd k
  unfold dSortSet at hd
  refine h A hd fun v x ρ1 F1 G1 H1 A1 e1 r1 q1 => ?_
  split at q1
  · rename_i xs
    split at q1
    · rename_i ps ep
      obtain ⟨few, q1⟩ := q1
      rw [pairs_some ep] at r1
      cases r1 with
      | lst hx px =>
        obtain ⟨ks, ev, hk, e2⟩ := pairs_rows px
        have lk : ks.length = ps.length := by
          have := congrArg List.length e2
          simpa using this
        refine ⟨_, ks, rfl, by rw [← ev]; exact SqL.of (A1.gh _ _ hx), fun z hz => same_t A1.gh (hk z hz), by omega, fun a L ha sub all => ?_⟩
        have A2 := A1.newH (o := SetTO P w a L) ha
        have same2 : Same H1 (upd H1 a (SetTO P w a L)) := fun b u q => by rw [upd_ne (ne_of_none q ha)]; exact q
        have two : ∀ z ∈ ks, ∃ q ∈ ps, z.2 = [q.1, q.2] := fun z hz => by
          have : z.2 ∈ ps.map fun q => [q.1, q.2] := by rw [← e2]; exact List.mem_map_of_mem hz
          obtain ⟨q, hq, e⟩ := List.mem_map.mp this
          exact ⟨q, hq, e.symm⟩
        refine ⟨a, L, rfl, upd_same, fun z hz => same_t (A1.gh.trans same2) (hk z (sub z hz)), fun z hz => ?_, fun M' p pm nd ord hp => ?_⟩
        · obtain ⟨q, _, e⟩ := two z (sub z hz)
          rw [e]
          rfl
        · have inK : ∀ z ∈ M', z ∈ ks := fun z hz => sub z (pm.subset hz)
          have hpr : ∀ z ∈ M', z.2 = [(pr2 z.2).1, (pr2 z.2).2] := fun z hz => by
            obtain ⟨q, _, e⟩ := two z (inK z hz)
            rw [e]
            rfl
          have rp : RpL K G1 (M'.map fun z => V.ref z.1) ((M'.map fun z => pr2 z.2).map pairD) := by
            have : ∀ N : List (Addr × List Int), (∀ z ∈ N, z ∈ M') → RpL K G1 (N.map fun z => V.ref z.1) ((N.map fun z => pr2 z.2).map pairD) := fun N => by
              induction N with
              | nil => exact fun _ => .nil
              | cons z N ih =>
                intro hN
                have hz := hN z List.mem_cons_self
                have sq := hk z (inK z hz)
                rw [hpr z hz] at sq
                exact .cons (.tup sq (.cons (.int _) (.cons (.int _) .nil))) (ih fun y hy => hN y (List.mem_cons_of_mem _ hy))
            exact this M' fun _ h => h
          obtain ⟨A3, r3⟩ := A2.lst_new hp rp
          refine k _ _ _ ρ1 F1 G1 _ A3 e1 r3 (q1 _ (fun q => ?_) ?_)
          · constructor
            · intro hq
              obtain ⟨z, hz, e⟩ := List.mem_map.mp hq
              obtain ⟨q', hq', e'⟩ := two z (inK z hz)
              rw [← e, e']
              exact hq'
            · intro hq
              have hm : [q.1, q.2] ∈ ks.map (·.2) := by rw [e2]; exact List.mem_map.mpr ⟨q, hq, rfl⟩
              obtain ⟨z, hz, e⟩ := List.mem_map.mp hm
              obtain ⟨y, hy, ey⟩ := List.mem_map.mp (all z hz)
              refine List.mem_map.mpr ⟨y, pm.symm.subset hy, ?_⟩
              rw [ey, e]
              rfl
          · rw [List.pairwise_map]
            have nd' : M'.Pairwise fun y z => y.2 ≠ z.2 := by
              rw [List.nodup_iff_pairwise_ne, List.pairwise_map] at nd
              exact nd
            refine (ord.and nd').imp_of_mem fun {y z} hy hz ⟨h1, h2⟩ => ?_
            rw [hpr y hy, hpr z hz] at h2
            have h3 := SrtO.lexB_no.mp h1
            refine SrtO.lexB_iff.mpr ?_
            by_cases c1 : (pr2 y.2).1 = (pr2 z.2).1
            · by_cases c2 : (pr2 y.2).2 = (pr2 z.2).2
              · rw [c1, c2] at h2
                exact absurd rfl h2
              · omega
            · omega
    · exact q1.elim
  · exact q1.elim
section
variable {X : Cx} {e : Expr} {t : TE} {d : DE} {p p2 pos pos2 : Pos}
theorem pr_sortedSet (hu : X.A.units + 64 < cLine) (hm : X.mg "sorted" = none) (hm2 : X.mg "set" = none) (h : PD X e t d) (hc : X.calm = true := by rfl) (hg : Gl X "sorted" := by rfl) (hg2 : Gl X "set" := by rfl) (hs2 : starEach [e] X.env = (false, eval e X.env) :: starEach [] X.env := by rfl)
    (hs : starEach [.Call (.Name "set" p2) [e] [] pos2] X.env = (false, eval (.Call (.Name "set" p2) [e] [] pos2) X.env) :: starEach [] X.env := by rfl) (hpl : (backTo pos (starEach [] X.env)).any (·.1) = false := by rfl) (hpl2 : (backTo pos2 (starEach [] X.env)).any (·.1) = false := by rfl) :
    PR X (.Call (.Name "sorted" p) [.Call (.Name "set" p2) [e] [] pos2] [] pos) (tCB (rSortSet X.K X.prog X.w) (tCons (tCB (rSetOfT X.K X.prog X.w) (tCons t tNil)) tNil)) (dSortSet d) :=
  ⟨pe_callB (cr_sortSet hc) hg hm (by rfl) (pa_cons (pe_callTy (cr_setOfT hc hu) hg2 hm2 (by rfl) (pa_cons h.pe pa_nil hs2) (by decide) (by decide) hs2 hpl2) pa_nil hs) (by decide) (by decide) hs hpl, sim_sortSet h.sim⟩
end
end DL
set_option Elab.async false
set_option linter.all false
set_option maxRecDepth 100000
set_option maxHeartbeats 2000000
namespace DL
open PySem PySem.Spec PyProof.Rows L2 RT

/-! ### the module's constants -/
theorem pd_globI {X : Cx} {x : Str} {i : Int} {t : Tok} {pos : Pos} (hm : X.mg x = some (.int i t)) (hg : Gl X x := by rfl) (hd : (x == ("__debug__" : Str)) = false := by decide) : PD X (.Name x pos) (tC (.int i)) (dC (.int i)) := ⟨pe_glob hg hm ⟨t, rfl⟩ hd, sim_c fun _ => .int i⟩
theorem pd_globS {X : Cx} {x : Str} {s : Str} {t : Tok} {pos : Pos} (hm : X.mg x = some (.str s t)) (hg : Gl X x := by rfl) (hd : (x == ("__debug__" : Str)) = false := by decide) : PD X (.Name x pos) (tC (.str s)) (dC (.str s)) := ⟨pe_glob hg hm ⟨t, rfl⟩ hd, sim_c fun _ => .str s⟩

/-! ### (e, f), [e, f], each a new thing of one's own -/
abbrev DAO := List Sl → (List OT → List Sl → Prop) → Prop
def SimAo (K : PySem.W.Frag) (t : TA) (d : DAO) : Prop := ∀ {M : Addr → Prop} {Z G0 H0 G H : Hp} {σ : L2.St} {ρ : List Sl} {F : Nat → Addr → Prop} {Φ : List OT → List Sl → Prop} {Q : List V → Hp → Prop}, At K M Z G0 H0 G H σ ρ F → d ρ Φ →
  (∀ vs ts C ρ' F' G' H', At K M Z G0 H0 G' H' σ ρ' F' → Same G G' → OwnL K G' H' vs ts C → C.Nodup → (∀ a ∈ C, G' a = none ∧ H' a ≠ none ∧ H0 a = none ∧ Z a = none ∧ ∀ j, ¬ F' j a) → Φ ts ρ' → Q vs H') → t σ H Q
structure PDAo (X : Cx) (es : List Expr) (t : TA) (d : DAO) : Prop where
  pe : PA X es t
  sim : SimAo X.K t d
def doNil : DAO := fun ρ Φ => Φ [] ρ
@[irreducible] def doCons (d : DR) (da : DAO) : DAO := fun ρ Φ => d ρ (asT fun t ρ1 => da ρ1 fun ts ρ2 => Φ (t :: ts) ρ2)
section
variable {K : PySem.W.Frag}
theorem sim_onil : SimAo K tNil doNil := fun {M Z G0 H0 G H σ ρ F Φ Q} A hd k => k [] [] [] ρ F G H A (Same.refl G) .nil List.nodup_nil (fun a h => nomatch h) hd
theorem sim_ocons {t : TE} {ta : TA} {d : DR} {da : DAO} (h : SimR K t d) (ha : SimAo K ta da) : SimAo K (tCons t ta) (doCons d da) := by
  intro M Z G0 H0 G H σ ρ F Φ Q A hd k
  unfold doCons at hd
  refine h A hd fun v x Fn ρ1 F1 G1 H1 A1 e1 r1 q1 => ?_
  obtain ⟨t1, C1, q1, o1, nd1, f1⟩ := res_tree r1 q1
  refine ha (A1.asideS (A' := C1) fun a ha => ⟨(f1 a ha).1, (f1 a ha).2.2.2.2⟩) q1 fun vs ts C2 ρ2 F2 G2 H2 A2 e2 o2 nd2 f2 q2 => ?_
  have keep : ∀ a ∈ C1, H2 a = H1 a ∧ G2 a = none ∧ ∀ j, ¬ F2 j a := fun a ha => by
    cases q : H1 a with
    | none => exact absurd q (f1 a ha).2.1
    | some u => exact A2.hz a u (by unfold aside; rw [if_pos ha]; exact q)
  have dis : ∀ a ∈ C2, a ∉ C1 ∧ Z a = none := fun a ha => by
    have z := (f2 a ha).2.2.2.1
    unfold aside at z
    by_cases c : a ∈ C1
    · rw [if_pos c] at z
      exact absurd z (f1 a c).2.1
    · rw [if_neg c] at z
      exact ⟨c, z⟩
  have A3 : At K M Z G0 H0 G2 H2 σ ρ2 F2 := A2.less fun a u q => by
    unfold aside
    by_cases c : a ∈ C1
    · rw [(f1 a c).2.2.2.1] at q
      cases q
    · rw [if_neg c]; exact q
  refine k (v :: vs) (t1 :: ts) (C1 ++ C2) ρ2 F2 G2 H2 A3 (e1.trans e2) (.cons (o1.st e2 fun a ha => (keep a ha).1) o2) (List.nodup_append.mpr ⟨nd1, nd2, fun a ha b hb e => (dis b hb).1 (by rw [← e]; exact ha)⟩) (fun a ha => ?_) q2
  rcases List.mem_append.mp ha with h | h
  · rw [(keep a h).1]
    exact ⟨(keep a h).2.1, (f1 a h).2.1, (f1 a h).2.2.1, (f1 a h).2.2.2.1, (keep a h).2.2⟩
  · exact ⟨(f2 a h).1, (f2 a h).2.1, (f2 a h).2.2.1, (dis a h).2, (f2 a h).2.2.2.2⟩
/-- a new node over owned ones -/
theorem At.node {M : Addr → Prop} {Z G0 H0 G H : Hp} {σ : L2.St} {ρ : List Sl} {F : Nat → Addr → Prop} {vs : List V} {ts : List OT} {C : List Addr} {p : Addr} {u : HO} {t : OT} (A : At K M Z G0 H0 G H σ ρ F) (o : OwnL K G H vs ts C) (nd : C.Nodup)
    (f : ∀ a ∈ C, G a = none ∧ H a ≠ none ∧ H0 a = none ∧ Z a = none ∧ ∀ j, ¬ F j a) (hp : H p = none) (ht : t.node = true) (mk : ∀ H', H' p = some u → OwnL K G H' vs ts C → Own K G H' (.ref p) t (p :: C)) :
    At K M Z G0 H0 G (upd H p u) σ ρ F ∧ ResOk K Z H0 G (upd H p u) F (.ref p) (.loc t) (fun a => a ∈ p :: C) := by
  have np : ∀ a ∈ C, a ≠ p := fun a ha e => (f a ha).2.1 (by rw [e]; exact hp)
  have h0p : H0 p = none := by
    cases q : H0 p with
    | none => rfl
    | some o => exact absurd hp (A.hn p (by rw [q]; exact Option.some_ne_none _))
  refine ⟨A.newH hp, ⟨⟨.ref p, rfl, ht, p :: C, mk _ upd_same (o.st (Same.refl G) fun a ha => upd_ne (np a ha)), List.nodup_cons.mpr ⟨fun h => np p h rfl, nd⟩, fun a => Iff.rfl⟩, fun z => z, fun a ha => ?_⟩⟩
  rcases List.mem_cons.mp ha with e | ha
  · rw [e, upd_same]
    refine ⟨A.gh.free hp, Option.some_ne_none _, h0p, ?_, fun j z => (A.fp j p z).2.1 hp⟩
    cases q : Z p with
    | none => rfl
    | some o =>
      have := (A.hz p o q).1
      rw [hp] at this
      cases this
  · rw [upd_ne (np a ha)]
    exact f a ha
def dTupO (da : DAO) : DR := fun ρ Φ => da ρ fun ts ρ1 => ts.length ≤ 1000000 ∧ ∀ p, Φ (.loc (.tup p ts)) ρ1
def dLstO (da : DAO) : DR := fun ρ Φ => da ρ fun ts ρ1 => ts.length ≤ 1000000 ∧ ∀ p, Φ (.loc (.lst p ts)) ρ1
theorem sim_tupO {ta : TA} {da : DAO} (h : SimAo K ta da) : SimR K (tTup ta) (dTupO da) := fun {M Z G0 H0 G H σ ρ F Φ Q} A hd k => h A hd fun vs ts C ρ1 F1 G1 H1 A1 e1 o nd f q => by
  refine ⟨by rw [o.len]; exact line_le q.1, fun p hp => ?_⟩
  obtain ⟨A2, e2⟩ := A1.new (o := .tup vs) hp
  have np : ∀ a ∈ C, a ≠ p := fun a ha z => by
    have := (f a ha).2.1
    rw [z] at this
    exact this hp
  refine k (.ref p) (.loc (.tup p ts)) (fun a => a ∈ C) ρ1 F1 _ _ A2 (e1.trans e2) ⟨⟨.ref p, rfl, rfl, C, .tup upd_same (o.st e2 fun a ha => upd_ne (np a ha)), nd, fun _ => Iff.rfl⟩, fun z => z, fun a ha => ?_⟩ (q.2 p)
  obtain ⟨h1, h2, h3, h4, h5⟩ := f a ha
  exact ⟨by rw [upd_ne (np a ha)]; exact h1, by rw [upd_ne (np a ha)]; exact h2, h3, h4, h5⟩
theorem sim_lstO {ta : TA} {da : DAO} (h : SimAo K ta da) : SimR K (tLst ta) (dLstO da) := fun {M Z G0 H0 G H σ ρ F Φ Q} A hd k => h A hd fun vs ts C ρ1 F1 G1 H1 A1 e1 o nd f q => by
  refine ⟨by rw [o.len]; exact line_le q.1, fun p hp => ?_⟩
  obtain ⟨A2, r⟩ := A1.node (u := .lst vs) (t := .lst p ts) o nd f hp rfl fun H' e o' => .lst e o'
  exact k _ _ _ ρ1 F1 G1 _ A2 e1 r (q.2 p)
end
section
variable {X : Cx} {e : Expr} {es : List Expr} {t : TE} {ta : TA} {d : DR} {da : DAO} {k : Nat} {pos : Pos}
theorem pdao_nil : PDAo X [] tNil doNil := ⟨pa_nil, sim_onil⟩
theorem pdao_cons (h : PR X e t d) (ha : PDAo X es ta da) (hs : starEach (e :: es) X.env = (false, eval e X.env) :: starEach es X.env := by rfl) : PDAo X (e :: es) (tCons t ta) (doCons d da) := ⟨pa_cons h.pe ha.pe hs, sim_ocons h.sim ha.sim⟩
theorem pr_tupO (h : PDAo X es ta da) : PR X (.Tuple es k pos) (tTup ta) (dTupO da) := ⟨pe_tup h.pe, sim_tupO h.sim⟩
theorem pr_lstO (h : PDAo X es ta da) : PR X (.List es pos) (tLst ta) (dLstO da) := ⟨pe_lst h.pe, sim_lstO h.sim⟩
end

/-! ### for x in e: .., e new things of one's own -/
@[irreducible] def dForTE (d : DR) (j : Nat) (b : DS) : DS := fun Δ ρ => d ρ fun x ρ1 => match x with
  | .loc (.lst p ts) => dForTL j b Δ ts ρ1
  | _ => False
theorem sim_forTE {K : PySem.W.Frag} {te : TE} {d : DR} {j : Nat} {t : TS} {b : DS} (h : SimR K te d) (hb : SimS K t b) : SimS K (tFor (iAny K te) (gName j) t) (dForTE d j b) := by
  intro M Z G0 H0 G H σ ρ F Δ Q A hd k1 k2 k3 k4
  unfold dForTE at hd
  refine h A hd fun v x Fn ρ1 F1 G1 H1 A1 e1 r1 q1 => ?_
  split at q1
  · rename_i p ts
    obtain ⟨v', hv, nd, B, ho, hB, hF⟩ := r1.ok
    cases hv
    cases ho with
    | lst hp oL =>
      rename_i vs A0
      have fI : ∀ a ∈ p :: A0, G1 a = none ∧ H1 a ≠ none ∧ H0 a = none ∧ Z a = none ∧ ∀ i, ¬ F1 i a := fun a ha => r1.fr a ((hF a).mpr ha)
      refine .inl ⟨p, rfl, ⟨vs, SqL.of hp⟩, ?_⟩
      refine forT_core hb oL hp (A1.asideS fun a ha => ⟨(fI a ha).1, (fI a ha).2.2.2.2⟩) hB (fun a ha => ⟨(fI a ha).2.1, (fI a ha).2.2.1, (fI a ha).2.2.2.1⟩) q1 fun σ' ρ' F' G' H' A' e' q' => k1 σ' ρ' F' G' H' A' (e1.trans e') q'
  · exact q1.elim
theorem pd_forTE {X : Cx} {y : Str} {p' : Pos} {e : Expr} {te : TE} {d : DR} {body : List Stmt} {t : TS} {b : DS} {pos : Pos} (j : Nat) (nd : X.N.Nodup) (h : PR X e te d) (hb : PDSs X body t b) (hi : X.N[j]? = some y := by rfl) (hx : Loc X.env.scope y := by first | exact Or.inl rfl | exact Or.inr rfl)
    (hf : X.fn y = true ∨ X.env.scope.names.lookup y = some .local := by first | exact .inl rfl | exact .inr rfl | assumption) (hp : PassesOwn (model X.prog X.w) X.A X.env X.xe := by exact PassesOwn.never) (hc : X.calm = true := by rfl) (hs : ∀ z, foldedSetIterable e X.env z = pure z := by intro _; rfl) :
    PDS X (.For (.Name y p') e body [] pos) (tFor (iAny X.K te) (gName j) t) (dForTE d j b) := ⟨ps_for hp hc (pi_any h.pe) (pdg_name nd hi hx hf).pg hb.pe hs, sim_forTE h.sim hb.sim⟩
end DL
set_option Elab.async false
set_option linter.all false
set_option maxRecDepth 100000
set_option maxHeartbeats 2000000
namespace DL
open PySem PySem.Spec PyProof.Rows L2 RT

/-! ### a list of one's own lent to a call whose answer has no lists but its own -/
mutual
def D.flat : D → Bool
  | .non => true
  | .bl _ => true
  | .int _ => true
  | .str _ => true
  | .tup xs => D.flatL xs
  | _ => false
def D.flatL : List D → Bool
  | [] => true
  | x :: xs => x.flat && D.flatL xs
end
mutual
def OT.flat : OT → Bool
  | .val d => d.flat
  | .lst _ xs => OT.flatL xs
  | .tup _ xs => OT.flatL xs
  | .ins _ _ _ fs => OT.flatF fs
  | .dic _ _ => false
def OT.flatL : List OT → Bool
  | [] => true
  | x :: xs => x.flat && OT.flatL xs
def OT.flatF : List (Str × OT) → Bool
  | [] => true
  | (_, x) :: xs => x.flat && OT.flatF xs
end
def Sl.flat : Sl → Bool
  | .val d => d.flat
  | .own ds => D.flatL ds
  | .loc t => t.flat
  | _ => false
/-- G' knows what G knows, but some lists -/
def ButLists (G G' : Hp) : Prop := ∀ a u, G a = some u → G' a = some u ∨ ∃ vs, u = .lst vs
theorem ButLists.t {K : PySem.W.Frag} {G G' : Hp} {a : Addr} {xs : List V} (e : ButLists G G') (h : SqT K G a xs) : SqT K G' a xs := by
  rcases h with (h | ⟨o, h⟩) | h
  · rcases e _ _ h with q | ⟨vs, q⟩
    · exact .inl (.inl q)
    · cases q
  · rcases e _ _ h with q | ⟨vs, q⟩
    · exact .inl (.inr ⟨o, q⟩)
    · cases q
  · exact .inr h
section
variable {K : PySem.W.Frag} {G G' H : Hp}
mutual
theorem Rp.fl (e : ButLists G G') : ∀ {v : V} {d : D}, Rp K G v d → d.flat = true → Rp K G' v d
  | _, _, .non, _ => .non
  | _, _, .bl b, _ => .bl b
  | _, _, .int i, _ => .int i
  | _, _, .str x, _ => .str x
  | _, _, .lst _ _, h => by simp [D.flat] at h
  | _, _, .rd _ _, h => by simp [D.flat] at h
  | _, _, .ty n, h => .ty n
  | _, _, .cls a, h => .cls a
  | _, _, .tup h r, q => .tup (e.t h) (RpL.fl e r (by simpa [D.flat] using q))
  | _, _, .dic _ _, h => by simp [D.flat] at h
  | _, _, .ins _ _, h => by simp [D.flat] at h
  | _, _, .exc _ _ _, h => by simp [D.flat] at h
theorem RpL.fl (e : ButLists G G') : ∀ {v : List V} {d : List D}, RpL K G v d → D.flatL d = true → RpL K G' v d
  | _, _, .nil, _ => .nil
  | _, _, .cons h r, q => by
    simp only [D.flatL, Bool.and_eq_true] at q
    exact .cons (Rp.fl e h q.1) (RpL.fl e r q.2)
end
mutual
theorem Own.fl (e : ButLists G G') : ∀ {v : V} {t : OT} {C : List Addr}, Own K G H v t C → t.flat = true → Own K G' H v t C
  | _, _, _, .val r, q => .val (r.fl e (by simpa [OT.flat] using q))
  | _, _, _, .lst h r, q => .lst h (OwnL.fl e r (by simpa [OT.flat] using q))
  | _, _, _, .tup h r, q => .tup (by
    rcases e _ _ h with z | ⟨vs, z⟩
    · exact z
    · cases z) (OwnL.fl e r (by simpa [OT.flat] using q))
  | _, _, _, .ins h h2 r, q => .ins h h2 (OwnF.fl e r (by simpa [OT.flat] using q))
  | _, _, _, .dic _ _, q => by simp [OT.flat] at q
theorem OwnL.fl (e : ButLists G G') : ∀ {v : List V} {t : List OT} {C : List Addr}, OwnL K G H v t C → OT.flatL t = true → OwnL K G' H v t C
  | _, _, _, .nil, _ => .nil
  | _, _, _, .cons h r, q => by
    simp only [OT.flatL, Bool.and_eq_true] at q
    exact .cons (Own.fl e h q.1) (OwnL.fl e r q.2)
theorem OwnF.fl (e : ButLists G G') : ∀ {v : List (Str × V)} {t : List (Str × OT)} {C : List Addr}, OwnF K G H v t C → OT.flatF t = true → OwnF K G' H v t C
  | _, _, _, .nil, _ => .nil
  | _, _, _, .cons h r, q => by
    simp only [OT.flatF, Bool.and_eq_true] at q
    exact .cons (Own.fl e h q.1) (OwnF.fl e r q.2)
end
end
theorem SlOk.fl {K : PySem.W.Frag} {G G' H : Hp} {o : Option V} {F : Addr → Prop} {x : Sl} (e : ButLists G G') (h : SlOk K G H o F x) (q : x.flat = true) : SlOk K G' H o F x := by
  cases x with
  | un => exact h
  | val d =>
    obtain ⟨h1, v, h2, r⟩ := h
    exact ⟨h1, v, h2, r.fl e q⟩
  | own ds =>
    obtain ⟨p, vs, h1, h2, h3, r⟩ := h
    exact ⟨p, vs, h1, h2, h3, r.fl e q⟩
  | loc t =>
    obtain ⟨v, h1, n, C, r, h2⟩ := h
    exact ⟨v, h1, n, C, r.fl e q, h2⟩
  | arg t => cases q
def SimAl (K : PySem.W.Frag) (t : TA) (d : DA) : Prop := ∀ {M : Addr → Prop} {Z G0 H0 G H : Hp} {σ : L2.St} {ρ : List Sl} {F : Nat → Addr → Prop} {Φ : List D → List Sl → Prop} {Q : List V → Hp → Prop}, At K M Z G0 H0 G H σ ρ F → d ρ Φ →
  (∀ vs xs ρ' F' G' Gp H', At K M Z G0 H0 G' H' σ ρ' F' → Same G G' → Same G' Gp → Same Gp H' → ButLists Gp G' → RpL K Gp vs xs → Φ xs ρ' → Q vs H') → t σ H Q
structure PDAl (X : Cx) (es : List Expr) (t : TA) (d : DA) : Prop where
  pe : PA X es t
  sim : SimAl X.K t d
@[irreducible] def dlOwn (i : Nat) (d : DA) : DA := fun ρ Φ => match ρ[i]? with
  | some (.own _) => d ρ fun xs ρ1 => match ρ1[i]? with
    | some (.own ds) => Φ (.lst ds :: xs) ρ1
    | _ => False
  | _ => False
def dCallL (f : DF) (d : DA) : DR := fun ρ Φ => d ρ fun xs ρ1 => f xs fun r => r.flat = true ∧ Φ r ρ1
section
variable {K : PySem.W.Frag}
theorem sim_lnil : SimAl K tNil dNil := fun {M Z G0 H0 G H σ ρ F Φ Q} A hd k => k [] [] ρ F G G H A (Same.refl G) (Same.refl G) A.gh (fun a u h => .inl h) .nil hd
theorem sim_lcons {t : TE} {ta : TA} {d : DE} {da : DA} (h : SimE K t d) (ha : SimAl K ta da) : SimAl K (tCons t ta) (dCons d da) := fun {M Z G0 H0 G H σ ρ F Φ Q} A hd k =>
  h A hd fun v x ρ1 F1 G1 H1 A1 e1 r1 q1 => ha A1 q1 fun vs xs ρ2 F2 G2 Gp H2 A2 e2 ep ep2 el r2 q2 => k _ _ ρ2 F2 G2 Gp H2 A2 (e1.trans e2) ep ep2 el (.cons (r1.mono (e2.trans ep)) r2) q2
theorem sim_lown {i : Nat} {ta : TA} {da : DA} (ha : SimAl K ta da) : SimAl K (tCons (tVar i) ta) (dlOwn i da) := by
  intro M Z G0 H0 G H σ ρ F Φ Q A hd k
  unfold dlOwn at hd
  split at hd
  · rename_i ds0 e0
    obtain ⟨p, _, h1, _⟩ := A.own_at e0
    refine ⟨.ref p, h1, ha A hd fun vs xs ρ1 F1 G1 Gp H1 A1 e1 ep ep2 el r1 q1 => ?_⟩
    split at q1
    · rename_i ds e2
      obtain ⟨p', ws, h2, _, h4, h5, _, _⟩ := A1.own_at e2
      rw [h1] at h2
      cases h2
      obtain ⟨k1, k2⟩ := same_knowA (B := [p]) ep2
      have at_p : knowA Gp H1 [p] p = some (.lst ws) := by
        unfold knowA
        rw [if_pos (by simp)]
        exact h4
      refine k _ _ ρ1 F1 G1 (knowA Gp H1 [p]) H1 A1 e1 (ep.trans k1) k2 (fun a u h => ?_) (.cons (.lst at_p (h5.mono (ep.trans k1))) (r1.mono k1)) q1
      by_cases c : a = p
      · rw [c, at_p] at h
        exact .inr ⟨ws, (Option.some.inj h).symm⟩
      · unfold knowA at h
        rw [if_neg (by simpa using c)] at h
        exact el a u h
    · exact q1.elim
  · exact hd.elim
theorem sim_callL {f : DF} {t : TA} {d : DA} {E : XK} (h : SimAl K t d) : SimR K (tCall (SpV K f) [] E t) (dCallL f d) := by
  intro M Z G0 H0 G H σ ρ F Φ Q A hd k
  refine h A hd fun vs xs ρ1 F1 G1 Gp H1 A1 e1 ep ep2 el r1 q1 => ?_
  rw [List.append_nil]
  refine ⟨Gp, xs, _, ep2, r1, q1, fun v r Fr Gp2 H2 eG eH eGH old hr q2 => ?_⟩
  obtain ⟨hs, q2⟩ := q2
  classical
  have hG : ∃ G2 : Hp, Same G1 G2 ∧ Same G2 H2 ∧ (∀ a, H1 a ≠ none → G2 a = G1 a) ∧ ∀ a, H1 a = none → G2 a = Gp2 a := by
    refine ⟨fun a => if H1 a = none then Gp2 a else G1 a, fun a o q => ?_, fun a o q => ?_, fun a n => if_neg n, fun a n => if_pos n⟩
    · show (if H1 a = none then Gp2 a else G1 a) = some o
      rw [if_neg (by rw [A1.gh a o q]; exact Option.some_ne_none _)]
      exact q
    · have q' : (if H1 a = none then Gp2 a else G1 a) = some o := q
      split at q'
      · exact eGH a o q'
      · exact eH a o (A1.gh a o q')
  obtain ⟨G2, g1, g2, g3, g4⟩ := hG
  have fl : ButLists Gp2 G2 := fun a u q => by
    by_cases n : H1 a = none
    · exact .inl (by rw [g4 a n]; exact q)
    · rw [old a n] at q
      rw [g3 a n]
      exact el a u q
  refine k v r Fr ρ1 F1 G2 H2 (A1.grow g1 eH g2 g3) (e1.trans g1) ⟨hr.ok.fl fl hs, hr.na, fun a fa => ?_⟩ q2
  obtain ⟨h1, h2, h3, _, _⟩ := hr.fr a fa
  refine ⟨by rw [g4 a h3]; exact h1, h2, ?_, ?_, fun j z => (A1.fp j a z).2.1 h3⟩
  · cases q : H0 a with
    | none => rfl
    | some o => exact absurd h3 (A1.hn a (by rw [q]; exact Option.some_ne_none _))
  · cases q : Z a with
    | none => rfl
    | some o =>
      have := (A1.hz a o q).1
      rw [h3] at this
      cases this
end
/-- e == x, x one's own -/
@[irreducible] def dCmpOwnR (f : D → D → (D → Prop) → Prop) (d : DE) (i : Nat) : DE := fun ρ Φ => d ρ fun x ρ1 => match ownD (ρ1[i]?) with
  | some y => f x y fun z => Φ z ρ1
  | none => False
theorem sim_eqOwnR {K : PySem.W.Frag} {i : Nat} {t : TE} {d : DE} (h : SimE K t d) : SimE K (tOp (rEqD K) t (tVar i)) (dCmpOwnR eqD d i) := by
  intro M Z G0 H0 G H σ ρ F Φ Q A hd k
  unfold dCmpOwnR at hd
  refine h A hd fun w y ρ1 F1 G1 H1 A1 e1 r1 q1 => ?_
  split at q1
  · rename_i x e2
    obtain ⟨v, G2, h2, k1, k2, r⟩ := A1.lend e2 (Same.refl G1) A1.gh
    obtain ⟨o1, o2, q1⟩ := q1
    exact ⟨v, h2, _, _, r1.dp A1.gh o1, r.dp k2 o2, D.shaped o1, D.shaped o2, k _ _ ρ1 F1 G1 H1 A1 e1 (.bl _) q1⟩
  · exact q1.elim
theorem sim_neOwnR {K : PySem.W.Frag} {i : Nat} {t : TE} {d : DE} (h : SimE K t d) : SimE K (tOp (rNeD K) t (tVar i)) (dCmpOwnR neD d i) := by
  intro M Z G0 H0 G H σ ρ F Φ Q A hd k
  unfold dCmpOwnR at hd
  refine h A hd fun w y ρ1 F1 G1 H1 A1 e1 r1 q1 => ?_
  split at q1
  · rename_i x e2
    obtain ⟨v, G2, h2, k1, k2, r⟩ := A1.lend e2 (Same.refl G1) A1.gh
    obtain ⟨o1, o2, q1⟩ := q1
    exact ⟨v, h2, _, _, r1.dp A1.gh o1, r.dp k2 o2, D.shaped o1, D.shaped o2, k _ _ ρ1 F1 G1 H1 A1 e1 (.bl _) q1⟩
  · exact q1.elim
section
variable {X : Cx} {k : Nat} {f : DF} {fa : Addr} {fd : FuncData} {ps : List Str} {x y : Str} {e a b : Expr} {es : List Expr} {t : TA} {d : DA} {te : TE} {de : DE} {p pos q : Pos}
theorem pdal_nil : PDAl X [] tNil dNil := ⟨pa_nil, sim_lnil⟩
theorem pdal_cons (h : PD X e te de) (ha : PDAl X es t d) (hs : starEach (e :: es) X.env = (false, eval e X.env) :: starEach es X.env := by rfl) : PDAl X (e :: es) (tCons te t) (dCons de d) := ⟨pa_cons h.pe ha.pe hs, sim_lcons h.sim ha.sim⟩
theorem pdal_own (i : Nat) (ha : PDAl X es t d) (hN : X.N[i]? = some x := by rfl) (hv : Vis X.env.scope x := by first | exact Or.inl rfl | exact Or.inr (Or.inl rfl) | exact Or.inr (Or.inr rfl)) (hd : (x == ("__debug__" : Str)) = false := by decide)
    (hcd : (x == ("__classdict__" : Str)) = false := by decide) (hs : starEach (.Name x p :: es) X.env = (false, eval (.Name x p) X.env) :: starEach es X.env := by rfl) : PDAl X (.Name x p :: es) (tCons (tVar i) t) (dlOwn i d) := ⟨pa_cons (pe_var hN hv hd hcd) ha.pe hs, sim_lown ha.sim⟩
theorem pr_callL (G : FnOk X.prog X.w X.K X.mg X.base CX0 k fa fd ps (SpV X.K f)) (hr : Room k X.A) (hm : X.mg x = some (.ref fa)) (hk : PySem.W.keepIn X.K (.ref fa) = true) (hb : Binds X.K fd ps []) (ha : PDAl X (e :: es) t d) (hg : Gl X x := by rfl)
    (hdb : (x == ("__debug__" : Str)) = false := by decide) (hs : starEach (e :: es) X.env = (false, eval e X.env) :: starEach es X.env := by rfl) (hpl : (backTo pos (starEach es X.env)).any (·.1) = false := by rfl) :
    PR X (.Call (.Name x p) (e :: es) [] pos) (tCall (SpV X.K f) [] E0 t) (dCallL f d) := ⟨pe_call G hr hg hm hk hb .nil pass0 ha.pe hdb hs hpl, sim_callL ha.sim⟩
theorem pd_eqOwnR (i : Nat) (hu : X.A.units + 64 < cLine) (ha : PD X a te de) (hN : X.N[i]? = some x := by rfl) (hv : Vis X.env.scope x := by first | exact Or.inl rfl | exact Or.inr (Or.inl rfl) | exact Or.inr (Or.inr rfl)) (hd : (x == ("__debug__" : Str)) = false := by decide)
    (hcd : (x == ("__classdict__" : Str)) = false := by decide) : PD X (.Compare a [.Eq] [.Name x p] pos) (tOp (rEqD X.K) te (tVar i)) (dCmpOwnR eqD de i) := ⟨pe_cmpR (op_eqD hu) ha.pe (pe_var hN hv hd hcd) (nomark _), sim_eqOwnR ha.sim⟩
theorem pd_neOwnR (i : Nat) (hu : X.A.units + 64 < cLine) (ha : PD X a te de) (hN : X.N[i]? = some x := by rfl) (hv : Vis X.env.scope x := by first | exact Or.inl rfl | exact Or.inr (Or.inl rfl) | exact Or.inr (Or.inr rfl)) (hd : (x == ("__debug__" : Str)) = false := by decide)
    (hcd : (x == ("__classdict__" : Str)) = false := by decide) : PD X (.Compare a [.NotEq] [.Name x p] pos) (tOp (rNeD X.K) te (tVar i)) (dCmpOwnR neD de i) := ⟨pe_cmpR (op_neD hu) ha.pe (pe_var hN hv hd hcd) (nomark _), sim_neOwnR ha.sim⟩
theorem pdt_eqOwnR (i : Nat) (hu : X.A.units + 64 < cLine) (ha : PD X a te de) (hN : X.N[i]? = some x := by rfl) (hv : Vis X.env.scope x := by first | exact Or.inl rfl | exact Or.inr (Or.inl rfl) | exact Or.inr (Or.inr rfl)) (hd : (x == ("__debug__" : Str)) = false := by decide)
    (hcd : (x == ("__classdict__" : Str)) = false := by decide) : PDT X (.Compare a [.Eq] [.Name x p] pos) (tTest (tOp (rEqD X.K) te (tVar i))) (dTest (dCmpOwnR eqD de i)) := ⟨pt_cmpR (op_eqD hu) ha.pe (pe_var hN hv hd hcd) (nomark _), sim_test (sim_eqOwnR ha.sim)⟩
theorem pdt_neOwnR (i : Nat) (hu : X.A.units + 64 < cLine) (ha : PD X a te de) (hN : X.N[i]? = some x := by rfl) (hv : Vis X.env.scope x := by first | exact Or.inl rfl | exact Or.inr (Or.inl rfl) | exact Or.inr (Or.inr rfl)) (hd : (x == ("__debug__" : Str)) = false := by decide)
    (hcd : (x == ("__classdict__" : Str)) = false := by decide) : PDT X (.Compare a [.NotEq] [.Name x p] pos) (tTest (tOp (rNeD X.K) te (tVar i))) (dTest (dCmpOwnR neD de i)) := ⟨pt_cmpR (op_neD hu) ha.pe (pe_var hN hv hd hcd) (nomark _), sim_test (sim_neOwnR ha.sim)⟩
end
end DL
set_option Elab.async false
set_option linter.all false
set_option maxRecDepth 100000
set_option maxHeartbeats 2000000
namespace DL
open PySem PySem.Spec PyProof.Rows L2 RT

/-! ### join, split -/
def D.strs : List D → Option (List Str)
  | [] => some []
  | .str x :: r => match D.strs r with
    | some xs => some (x :: xs)
    | none => none
  | _ :: _ => none
theorem strs_map : ∀ xs : List Str, D.strs (xs.map D.str) = some xs
  | [] => rfl
  | x :: xs => by
    rw [List.map_cons, D.strs, strs_map xs]
theorem strs_some : ∀ {ds : List D} {xs : List Str}, D.strs ds = some xs → ds = xs.map D.str
  | [], xs, h => by cases h; rfl
  | x :: r, xs, h => by
    unfold D.strs at h
    split at h
    · rename_i e
      cases e
    · rename_i e
      cases e
      split at h
      · rename_i ys e2
        cases h
        rw [strs_some e2]
        rfl
      · cases h
    · cases h
theorem rpl_strs {K : PySem.W.Frag} {G : Hp} : ∀ {xs : List Str} {vs : List V}, RpL K G vs (xs.map D.str) → vs = xs.map V.str
  | [], _, .nil => rfl
  | x :: xs, _, .cons h r => by
    cases h
    rw [rpl_strs r]
    rfl
theorem rpl_ofStrs {K : PySem.W.Frag} {G : Hp} : ∀ xs : List Str, RpL K G (xs.map V.str) (xs.map D.str)
  | [] => .nil
  | x :: xs => .cons (.str x) (rpl_ofStrs xs)
@[irreducible] def joinD : D → List D → (Sl → Prop) → Prop
  | .str a, [.lst xs], Φ => match D.strs xs with
    | some ys => (ys.map (·.length)).sum + ys.length * a.length ≤ 1000000 ∧ Φ (.val (.str (Txt.join a ys)))
    | none => False
  | _, _, _ => False
def splitD : D → List D → (Sl → Prop) → Prop
  | .str a, [.str b], Φ => (b.length == 0) = false ∧ a.length ≤ 1000000 ∧ Φ (.own ((Txt.split a b).map D.str))
  | _, _, _ => False
def rJoinT (K : PySem.W.Frag) : V → List V → Hp → VK → Prop := fun x xs H Q => ∃ a p, ∃ ys : List Str, x = .str a ∧ xs = [.ref p] ∧ (SqL K H p (ys.map V.str) ∨ SqT K H p (ys.map V.str)) ∧ (ys.map (·.length)).sum + ys.length * a.length ≤ 16777216 ∧ Q (.str (Txt.join a ys)) H
def rSplitT : V → List V → Hp → VK → Prop := fun x xs H Q => ∃ a b, x = .str a ∧ xs = [.str b] ∧ (b.length == 0) = false ∧ a.length + 2 ≤ sizeLine ∧ rNewStrs (Txt.split a b) H Q
theorem simm_join {K : PySem.W.Frag} : SimMt K (rJoinT K) joinD := by
  intro M Z G0 H0 G H σ ρ F v x vs xs Φ Q A rx rxs hf k
  unfold joinD at hf
  split at hf
  · rename_i a ds
    split at hf
    · rename_i ys e
      obtain ⟨hl, hf⟩ := hf
      cases rx
      cases rxs with
      | cons r1 r2 =>
        cases r2
        rw [strs_some e] at r1
        cases r1 with
        | lst hx px =>
          rw [rpl_strs px] at hx
          exact ⟨a, _, ys, rfl, rfl, .inl (SqL.of (A.gh _ _ hx)), by omega, k _ _ _ G H A (Same.refl G) (.val (.str _)) hf⟩
    · exact hf.elim
  · exact hf.elim
theorem simm_split {K : PySem.W.Frag} : SimMt K rSplitT splitD := by
  intro M Z G0 H0 G H σ ρ F v x vs xs Φ Q A rx rxs hf k
  unfold splitD at hf
  split at hf
  · rename_i a b
    obtain ⟨h0, hl, hf⟩ := hf
    cases rx
    cases rxs with
    | cons r1 r2 =>
      cases r2
      cases r1
      refine ⟨a, b, rfl, rfl, h0, by rw [sizeLine_eq]; omega, fun p hp => ?_⟩
      obtain ⟨A2, r⟩ := A.lst_new hp (rpl_ofStrs (K := K) (G := G) (Txt.split a b))
      exact k _ _ _ G _ A2 (Same.refl G) r hf
  · exact hf.elim
section
variable {X : Cx} {o e : Expr} {es : List Expr} {to : TE} {t : TA} {d : DE} {da : DA} {apos cpos : Pos}
theorem pr_join (h : PD X o to d) (ha : PDA X (e :: es) t da) (hbase : attributeBase o "join" X.env (eval o X.env) = eval o X.env := by rfl)
    (hfew : ((backTo cpos (starEach (e :: es) X.env)).all (fun x => !x.1) && (backToKw cpos (keywordEach [] X.env)).all (fun x => x.1.isSome)
      && decide ((e :: es).length + ([] : List Keyword).length + (if ([] : List Keyword).isEmpty then 0 else 1) < 30)) = true := by rfl)
    (hline : (apos.endLine == cpos.line) = true := by rfl) (hs : starEach (e :: es) X.env = (false, eval e X.env) :: starEach es X.env := by rfl) (hplain : (backTo cpos (starEach es X.env)).any (·.1) = false := by rfl) :
    PR X (.Call (.Attribute o "join" apos) (e :: es) [] cpos) (tBM X.K "str" (rJoinT X.K) to t) (dMt isS joinD d da) :=
  ⟨pe_bm PySem.F.plainAttrs_str PySem.F.slot_str_join PySem.F.type_str_join mt_join h.pe ha.pe hbase hfew hline hs hplain, sim_mt tyV_s simm_join h.sim ha.sim⟩
theorem pr_split (h : PD X o to d) (ha : PDA X (e :: es) t da) (hbase : attributeBase o "split" X.env (eval o X.env) = eval o X.env := by rfl)
    (hfew : ((backTo cpos (starEach (e :: es) X.env)).all (fun x => !x.1) && (backToKw cpos (keywordEach [] X.env)).all (fun x => x.1.isSome)
      && decide ((e :: es).length + ([] : List Keyword).length + (if ([] : List Keyword).isEmpty then 0 else 1) < 30)) = true := by rfl)
    (hline : (apos.endLine == cpos.line) = true := by rfl) (hs : starEach (e :: es) X.env = (false, eval e X.env) :: starEach es X.env := by rfl) (hplain : (backTo cpos (starEach es X.env)).any (·.1) = false := by rfl) :
    PR X (.Call (.Attribute o "split" apos) (e :: es) [] cpos) (tBM X.K "str" rSplitT to t) (dMt isS splitD d da) :=
  ⟨pe_bm PySem.F.plainAttrs_str PySem.F.slot_str_split PySem.F.type_str_split mt_split h.pe ha.pe hbase hfew hline hs hplain, sim_mt tyV_s simm_split h.sim ha.sim⟩
end

/-! ### {k: v, ..} -/
abbrev DPs := List Sl → (List (D × D) → List Sl → Prop) → Prop
inductive RpP (K : PySem.W.Frag) (G : Hp) : List (V × V) → List (D × D) → Prop
  | nil : RpP K G [] []
  | cons {x y : V} {a b : D} {vs : List (V × V)} {ds : List (D × D)} : Rp K G x a → Rp K G y b → RpP K G vs ds → RpP K G ((x, y) :: vs) ((a, b) :: ds)
def SimPs (K : PySem.W.Frag) (trs : List (TE × TE)) (d : DPs) : Prop := ∀ {M : Addr → Prop} {Z G0 H0 G H : Hp} {σ : L2.St} {ρ : List Sl} {F : Nat → Addr → Prop} {Φ : List (D × D) → List Sl → Prop} {Q : List (V × V) → Hp → Prop}, At K M Z G0 H0 G H σ ρ F → d ρ Φ →
  (∀ ps ds ρ' F' G' H', At K M Z G0 H0 G' H' σ ρ' F' → Same G G' → RpP K G' ps ds → Φ ds ρ' → Q ps H') → tPairs trs σ H Q
structure PDPs (X : Cx) (pos : Pos) (keys : List (Option Expr)) (values : List Expr) (trs : List (TE × TE)) (d : DPs) : Prop where
  pe : PPs X pos keys values trs
  sim : SimPs X.K trs d
def dpNil : DPs := fun ρ Φ => Φ [] ρ
def dpCons (dk dv : DE) (r : DPs) : DPs := fun ρ Φ => dk ρ fun x ρ1 => dv ρ1 fun y ρ2 => r ρ2 fun ps ρ3 => Φ ((x, y) :: ps) ρ3
def D.keys : List (D × D) → Option (List (Key × D))
  | [] => some []
  | (a, b) :: r => match a.key, D.keys r with
    | some k, some ks => some ((k, b) :: ks)
    | _, _ => none
def dDict (d : DPs) : DR := fun ρ Φ => d ρ fun ps ρ1 => match D.keys ps with
  | some ks => ks.length ≤ 15 ∧ (ks.map (·.1)).Nodup ∧ Φ (.val (.dic ks)) ρ1
  | none => False
section
variable {K : PySem.W.Frag}
theorem sim_pnil : SimPs K [] dpNil := fun {M Z G0 H0 G H σ ρ F Φ Q} A hd k => k [] [] ρ F G H A (Same.refl G) .nil hd
theorem RpP.mono {G G' : Hp} (e : Same G G') : ∀ {vs : List (V × V)} {ds : List (D × D)}, RpP K G vs ds → RpP K G' vs ds
  | _, _, .nil => .nil
  | _, _, .cons a b r => .cons (a.mono e) (b.mono e) (RpP.mono e r)
theorem sim_pcons {tk tv : TE} {trs : List (TE × TE)} {dk dv : DE} {r : DPs} (hk : SimE K tk dk) (hv : SimE K tv dv) (hr : SimPs K trs r) : SimPs K ((tk, tv) :: trs) (dpCons dk dv r) := fun {M Z G0 H0 G H σ ρ F Φ Q} A hd k =>
  hk A hd fun x a ρ1 F1 G1 H1 A1 e1 r1 q1 => hv A1 q1 fun y b ρ2 F2 G2 H2 A2 e2 r2 q2 => hr A2 q2 fun ps ds ρ3 F3 G3 H3 A3 e3 r3 q3 => k _ _ ρ3 F3 G3 H3 A3 (e1.trans (e2.trans e3)) (.cons (r1.mono (e2.trans e3)) (r2.mono e3) r3) q3
theorem putK_new {α : Type} {kvs : List (Key × V)} {k : Key} {v : V} (h : k ∉ kvs.map (·.1)) : putK kvs k v = kvs ++ [(k, v)] := by
  unfold putK
  rw [if_neg]
  rw [List.any_eq_true]
  rintro ⟨p, hp, e⟩
  exact h (List.mem_map.mpr ⟨p, hp, of_decide_eq_true e⟩)
theorem mergeK_new : ∀ (more kvs : List (Key × V)), ((kvs ++ more).map (·.1)).Nodup → mergeK kvs more = kvs ++ more
  | [], kvs, _ => (List.append_nil kvs).symm
  | p :: more, kvs, h => by
    have hn : p.1 ∉ kvs.map (·.1) := fun hm => by
      rw [List.map_append, List.map_cons] at h
      exact (List.nodup_append.mp h).2.2 _ hm _ List.mem_cons_self rfl
    have h2 : ((kvs ++ [(p.1, p.2)] ++ more).map (·.1)).Nodup := by
      rw [List.append_assoc]
      exact h
    have e1 : mergeK kvs (p :: more) = mergeK (putK kvs p.1 p.2) more := rfl
    rw [e1, putK_new (α := Unit) hn, mergeK_new more _ h2, List.append_assoc]
    rfl
theorem keys_rp {G : Hp} : ∀ {vs : List (V × V)} {ds : List (D × D)} {ks : List (Key × D)}, RpP K G vs ds → D.keys ds = some ks → ∃ kvs : List (Key × V), vs = kvs.map (fun kv => (kV kv.1, kv.2)) ∧ RpK K G kvs ks ∧ kvs.map (·.1) = ks.map (·.1)
  | _, _, ks, .nil, e => by
    cases e
    exact ⟨[], rfl, .nil, rfl⟩
  | _, _, ks, .cons (a := a) (b := b) ra rb r, e => by
    unfold D.keys at e
    split at e
    · rename_i k ks' e1 e2
      cases e
      obtain ⟨kvs, h1, h2, h3⟩ := keys_rp r e2
      exact ⟨(k, _) :: kvs, by rw [h1, key_rp ra e1]; rfl, .cons rb h2, by rw [List.map_cons, List.map_cons, h3]⟩
    · cases e
theorem sim_dict {trs : List (TE × TE)} {d : DPs} (h : SimPs K trs d) : SimR K (tDisp trs) (dDict d) := by
  intro M Z G0 H0 G H σ ρ F Φ Q A hd k p hp
  have zp : Z p = none := by
    cases q : Z p with
    | none => rfl
    | some o =>
      have := (A.hz p o q).1
      rw [hp] at this
      cases this
  have h0p : H0 p = none := by
    cases q : H0 p with
    | none => rfl
    | some o => exact absurd hp (A.hn p (by rw [q]; exact Option.some_ne_none _))
  refine h (A.hide hp) hd fun ps ds ρ1 F1 G1 H1 A1 e1 r1 q1 => ?_
  obtain ⟨hp1, gp1, fp1⟩ := A1.hz p _ upd_same
  refine ⟨hp1, ?_⟩
  split at q1
  · rename_i ks ek
    obtain ⟨l15, nd, q1⟩ := q1
    obtain ⟨kvs, ev, rk, ekk⟩ := keys_rp r1 ek
    have me : mergeK [] kvs = kvs := mergeK_new kvs [] (by rw [List.nil_append, ekk]; exact nd)
    refine ⟨kvs, ev, by rw [← List.length_map (f := (·.1)), ekk, List.length_map]; exact l15, ?_⟩
    rw [me]
    have A2 := (A1.rehide (o' := .dK kvs) h0p).unhide zp
    obtain ⟨A3, e3⟩ := A2.know (p := p) (o := .dK kvs) upd_same h0p fp1 gp1 zp
    have rk' : RpK K (upd G1 p (.dK kvs)) kvs ks := rk.mono e3
    exact k (.ref p) (.val (.dic ks)) _ ρ1 F1 _ _ A3 (e1.trans e3) (.val (.dic (.inl upd_same) rk')) q1
  · exact q1.elim
end
section
variable {X : Cx} {pos : Pos} {k v : Expr} {ks : List (Option Expr)} {vs : List Expr} {tk tv : TE} {trs : List (TE × TE)} {dk dv : DE} {d : DPs}
theorem pdp_nil : PDPs X pos [] [] [] dpNil := ⟨pps_nil, sim_pnil⟩
theorem pdp_cons (hk : PD X k tk dk) (hv : PD X v tv dv) (hr : PDPs X pos ks vs trs d) : PDPs X pos (some k :: ks) (v :: vs) ((tk, tv) :: trs) (dpCons dk dv d) := ⟨pps_cons hk.pe hv.pe hr.pe, sim_pcons hk.sim hv.sim hr.sim⟩
theorem pr_dict (h : PDPs X pos (some k :: ks) (v :: vs) trs d) (hall : ((some k :: ks).all (·.isSome)) = true := by rfl) (hl : (some k :: ks).length = (v :: vs).length := by rfl) (h15 : (some k :: ks).length ≤ 15 := by decide) : PR X (.Dict (some k :: ks) (v :: vs) pos) (tDisp trs) (dDict d) :=
  ⟨pe_disp h.pe hall hl (fun z => nomatch z) h15, sim_dict h.sim⟩
end

/-! ### a dict of the module with whole numbers as keys, its values texts -/
structure DictI (K : PySem.W.Frag) (a : Addr) (kvs : List (Int × Str)) : Prop where
  ex : ∃ (es : List DictEntry) (n : Nat), K.lookup a = some ⟨.type "dict", none, .dict es.toArray n, #[]⟩ ∧ Paired (fun (e : DictEntry) (kv : Int × Str) => (∃ t, e.key = .int kv.1 t) ∧ e.hash = hashInt kv.1 ∧ ∃ t, e.val = .str kv.2 t) es kvs
def rDicI (a : Addr) (kvs : List (Int × Str)) : R2 := fun x y H Q => x = .ref a ∧ ∃ i s, y = .int i ∧ kvs.lookup i = some s ∧ Q (.str s) H
theorem dictI_find {es : List DictEntry} {kvs : List (Int × Str)} (h : Paired (fun (e : DictEntry) (kv : Int × Str) => (∃ t, e.key = .int kv.1 t) ∧ e.hash = hashInt kv.1 ∧ ∃ t, e.val = .str kv.2 t) es kvs) {i : Int} {s : Str} (e : kvs.lookup i = some s) :
    ∃ t, findBy keyIs es.toArray (.inl i) = some (.str s t) := by
  unfold findBy
  rw [List.find?_toArray]
  induction h with
  | nil => cases e
  | @cons d kv ds ks h1 _ ih =>
    obtain ⟨⟨t, hk⟩, _, t2, hv⟩ := h1
    obtain ⟨k, s'⟩ := kv
    rw [List.lookup_cons] at e
    have hq : keyIs (.inl i) d.key = decide (k = i) := by
      rw [hk]
      by_cases c : k = i <;> simp [keyIs, Value.isInt, c]
    rw [List.find?_cons, hq]
    by_cases c : i = k
    · subst c
      simp at e
      subst e
      simp
      exact ⟨t2, hv⟩
    · have c' : ¬ k = i := fun q => c q.symm
      rw [decide_eq_false c']
      have : (i == k) = false := by simp [c]
      rw [this] at e
      exact ih e
theorem ix_dictI {X : Cx} {a : Addr} {kvs : List (Int × Str)} (T : DictI X.K a kvs) : IxR X (rDicI a kvs) := by
  intro value slice pins s σ H x y v u Q I rx ry h hs
  obtain ⟨rfl, i, z, rfl, el, q⟩ := h
  cases rx
  obtain ⟨t, rfl⟩ := ry
  obtain ⟨es, n, hl, hp⟩ := T.ex
  obtain ⟨t2, hf⟩ := dictI_find hp el
  have hm : s.heap.MapOf (mixKind X.prog X.w) a (fun k => findBy keyIs es.toArray k) := by
    refine ⟨_, es.toArray, n, I.kIn _ _ hl, ⟨rfl, rfl, rfl⟩, rfl, fun e he => ?_, fun _ => rfl⟩
    have he' : e ∈ es := by simpa using he
    have : ∀ {es : List DictEntry} {kvs : List (Int × Str)}, Paired (fun (e : DictEntry) (kv : Int × Str) => (∃ t, e.key = .int kv.1 t) ∧ e.hash = hashInt kv.1 ∧ ∃ t, e.val = .str kv.2 t) es kvs → ∀ e ∈ es, ∃ k, (mixKind X.prog X.w).is k e.key = true ∧ e.hash = (mixKind X.prog X.w).hash k := by
      intro es kvs h
      induction h with
      | nil => exact fun e he => nomatch he
      | @cons d kv ds ks h1 _ ih =>
        intro e he
        rcases List.mem_cons.mp he with q | q
        · obtain ⟨⟨t, hk⟩, hh, _⟩ := h1
          rw [q]
          exact ⟨.inl kv.1, by rw [hk]; exact mixKind_int X.prog X.w kv.1 t, hh⟩
        · exact ih e q
    exact this hp e he'
  exact tail_any hm.typeIs PySem.F.slot_dict_getitem.lookup (wpAny_getItem_of (knd := mixKind X.prog X.w) (mixKind_int X.prog X.w i t) hm hf ⟨.str z, H, I.tok _, ⟨t2, rfl⟩, q⟩) hs
/-- TABLE[e] -/
def dIxI (kvs : List (Int × Str)) (d : DE) : DE := fun ρ Φ => d ρ fun y ρ1 => match y with
  | .int i => match kvs.lookup i with
    | some s => Φ (.str s) ρ1
    | none => False
  | _ => False
theorem sim_ixI {K : PySem.W.Frag} {a : Addr} {kvs : List (Int × Str)} {t : TE} {d : DE} (h : SimE K t d) : SimE K (tOp (rDicI a kvs) (tC (.ref a)) t) (dIxI kvs d) := by
  intro M Z G0 H0 G H σ ρ F Φ Q A hd k
  refine h A hd fun v y ρ1 F1 G1 H1 A1 e1 r1 q1 => ?_
  split at q1
  · rename_i i
    split at q1
    · rename_i s es
      cases r1
      exact ⟨rfl, i, s, rfl, es, k _ _ ρ1 F1 G1 H1 A1 e1 (.str s) q1⟩
    · exact q1.elim
  · exact q1.elim
theorem pd_ixI {X : Cx} {x : Str} {a : Addr} {kvs : List (Int × Str)} {e : Expr} {t : TE} {d : DE} {p pos : Pos} (T : DictI X.K a kvs) (hm : X.mg x = some (.ref a)) (h : PD X e t d) (hs : PlainIx e) (hg : Gl X x := by rfl) (hd : (x == ("__debug__" : Str)) = false := by decide) :
    PD X (.Subscript (.Name x p) e pos) (tOp (rDicI a kvs) (tC (.ref a)) t) (dIxI kvs d) := ⟨pe_ix (ix_dictI T) (pe_glob hg hm rfl hd) h.pe hs, sim_ixI h.sim⟩
end DL
set_option Elab.async false
set_option linter.all false
set_option maxRecDepth 100000
set_option maxHeartbeats 2000000
namespace DL
open PySem PySem.Spec PyProof.Rows L2 RT

/-! ### a op b op c op d -/
def tChain3 (r r' r'' : R2) (ta tb tc td : TE) : TE := fun σ H Q => ta σ H fun x H1 => tb σ H1 fun y H2 => r x y H2 fun z H3 => ∃ k, z = .bl k ∧
  (if k = true then tc σ H3 fun w H4 => r' y w H4 fun z' H5 => ∃ k', z' = .bl k' ∧ (if k' = true then td σ H5 fun v H6 => r'' w v H6 Q else Q (.bl false) H5) else Q (.bl false) H3)
theorem pe_chain3 {X : Cx} {a b c d : Expr} {o1 o2 o3 : CmpOp} {r r' r'' : R2} {ta tb tc td : TE} {pos : Pos} (h1 : OpR X (compareOp o1) r) (h2 : OpR X (compareOp o2) r') (h3 : OpR X (compareOp o3) r'') (ha : PE X a ta) (hb : PE X b tb) (hc : PE X c tc) (hd : PE X d td)
    (hm : lastMarks [o1, o2, o3] [b, c, d] = false := by with_unfolding_all rfl) : PE X (.Compare a [o1, o2, o3] [b, c, d] pos) (tChain3 r r' r'' ta tb tc td) := by
  refine ⟨fun pins s σ H Q I h => ?_⟩
  refine Compare_chain (thn (ha.run pins s σ H _ I h) fun v s1 ⟨x, H1, I1, rx, q1⟩ => chain_link (thn (hb.run pins s1 σ H1 _ I1 q1) fun u s2 ⟨y, H2, I2, ry, q2⟩ =>
    thn (h1 pins s2 σ H2 x y v u _ I2 rx ry q2) fun e s3 ⟨z, H3, I3, rz, k, ez, q3⟩ => ?_)) hm
  subst ez
  cases rz
  refine wpAny_truthy_bool ?_
  cases k with
  | false => exact ite_ff ⟨.bl false, H3, I3, rfl, q3⟩
  | true =>
    refine ite_tt (chain_link (thn (hc.run pins s3 σ H3 _ I3 q3) fun u2 s4 ⟨w, H4, I4, rw4, q4⟩ => thn (h2 pins s4 σ H4 y w u u2 _ I4 ry rw4 q4) fun e2 s5 ⟨z2, H5, I5, rz2, k2, ez2, q5⟩ => ?_))
    subst ez2
    cases rz2
    refine wpAny_truthy_bool ?_
    cases k2 with
    | false => exact ite_ff ⟨.bl false, H5, I5, rfl, q5⟩
    | true => exact ite_tt (chain_last (thn (hd.run pins s5 σ H5 _ I5 q5) fun u3 s6 ⟨v6, H6, I6, r6, q6⟩ => h3 pins s6 σ H6 w v6 u2 u3 Q I6 rw4 r6 q6))
def dChain3 (f f' f'' : D → D → (D → Prop) → Prop) (da db dc dd : DE) : DE := fun ρ Φ => da ρ fun x ρ1 => db ρ1 fun y ρ2 => f x y fun z => match z with
  | .bl k => if k = true then dc ρ2 fun w ρ3 => f' y w fun z' => match z' with
      | .bl k' => if k' = true then dd ρ3 fun v ρ4 => f'' w v fun u => Φ u ρ4 else Φ (.bl false) ρ3
      | _ => False
    else Φ (.bl false) ρ2
  | _ => False
theorem sim_chain3 {K : PySem.W.Frag} {r r' r'' : R2} {f f' f'' : D → D → (D → Prop) → Prop} {ta tb tc td : TE} {da db dc dd : DE} (h : SimV2 K r f) (h' : SimV2 K r' f') (h'' : SimV2 K r'' f'') (ha : SimE K ta da) (hb : SimE K tb db) (hc : SimE K tc dc) (hd : SimE K td dd) :
    SimE K (tChain3 r r' r'' ta tb tc td) (dChain3 f f' f'' da db dc dd) := by
  intro M Z G0 H0 G H σ ρ F Φ Q A hyp k
  refine ha A hyp fun v x ρ1 F1 G1 H1 A1 e1 rx q1 => hb A1 q1 fun u y ρ2 F2 G2 H2 A2 e2 ry q2 => h A2 (rx.mono e2) ry q2 fun z zd G3 H3 A3 e3 rz q3 => ?_
  split at q3
  · rename_i b
    cases rz
    refine ⟨b, rfl, ?_⟩
    cases b with
    | false => exact k _ _ ρ2 F2 G3 H3 A3 (e1.trans (e2.trans e3)) (.bl _) q3
    | true =>
      refine hc A3 q3 fun w wd ρ4 F4 G4 H4 A4 e4 rw4 q4 => h' A4 (ry.mono (e3.trans e4)) rw4 q4 fun z2 zd2 G5 H5 A5 e5 rz2 q5 => ?_
      split at q5
      · rename_i b2
        cases rz2
        refine ⟨b2, rfl, ?_⟩
        cases b2 with
        | false => exact k _ _ ρ4 F4 G5 H5 A5 (e1.trans (e2.trans (e3.trans (e4.trans e5)))) (.bl _) q5
        | true =>
          refine hd A5 q5 fun t td' ρ6 F6 G6 H6 A6 e6 rt q6 => h'' A6 (rw4.mono (e5.trans e6)) rt q6 fun z3 zd3 G7 H7 A7 e7 rz3 q7 => ?_
          exact k _ _ ρ6 F6 G7 H7 A7 (e1.trans (e2.trans (e3.trans (e4.trans (e5.trans (e6.trans e7)))))) rz3 q7
      · exact q5.elim
  · exact q3.elim
theorem pd_chain3 {X : Cx} {a b c d : Expr} {o1 o2 o3 : CmpOp} {r r' r'' : R2} {f f' f'' : D → D → (D → Prop) → Prop} {ta tb tc td : TE} {da db dc dd : DE} {pos : Pos} (h1 : OpR X (compareOp o1) r) (s1 : SimV2 X.K r f) (h2 : OpR X (compareOp o2) r') (s2 : SimV2 X.K r' f') (h3 : OpR X (compareOp o3) r'') (s3 : SimV2 X.K r'' f'')
    (ha : PD X a ta da) (hb : PD X b tb db) (hc : PD X c tc dc) (hd : PD X d td dd) (hm : lastMarks [o1, o2, o3] [b, c, d] = false := by with_unfolding_all rfl) : PD X (.Compare a [o1, o2, o3] [b, c, d] pos) (tChain3 r r' r'' ta tb tc td) (dChain3 f f' f'' da db dc dd) :=
  ⟨pe_chain3 h1 h2 h3 ha.pe hb.pe hc.pe hd.pe hm, sim_chain3 s1 s2 s3 ha.sim hb.sim hc.sim hd.sim⟩
/-! ### range(a, b, -1) -/
theorem pdi_rng3 {X : Cx} {tg a b c : Expr} {ta tb tc : TE} {da db dc : DE} {p pos : Pos} (hm : X.mg "range" = none) (ha : PD X a ta da) (hb : PD X b tb db) (hc : PD X c tc dc) (hg : Gl X "range" := by rfl) (hs3 : starEach [c] X.env = (false, eval c X.env) :: starEach [] X.env := by rfl)
    (hs2 : starEach [b, c] X.env = (false, eval b X.env) :: starEach [c] X.env := by rfl) (hs : starEach [a, b, c] X.env = (false, eval a X.env) :: starEach [b, c] X.env := by rfl) (hpl : (backTo pos (starEach [b, c] X.env)).any (·.1) = false := by rfl) :
    PDI X tg (.Call (.Name "range" p) [a, b, c] [] pos) (iRng3 (tCons ta (tCons tb (tCons tc tNil)))) (diRng3 da db dc) := ⟨pi_range3 hg hm (pa_cons ha.pe (pa_cons hb.pe (pa_cons hc.pe pa_nil hs3) hs2) hs) hs hpl, sim_rng3 ha.sim hb.sim hc.sim⟩
/-! ### texts of numbers, numbers of texts, blanks -/
def strD : List D → (Sl → Prop) → Prop
  | [.int i], Φ => i.natAbs.log2 < 1920 ∧ Φ (.val (.str (toString i : String)))
  | _, _ => False
def intSD : List D → (Sl → Prop) → Prop
  | [.str a], Φ => ∃ n, PySem.intText? a = some n ∧ a.length ≤ 640 ∧ Φ (.val (.int n))
  | _, _ => False
@[irreducible] def mulSD : D → D → (Sl → Prop) → Prop
  | .str z, .int k, Φ => -1000 ≤ k ∧ k ≤ 1000 ∧ z.length ≤ 1000 ∧ Φ (.val (.str (Txt.mul z k)))
  | _, _, _ => False
@[irreducible] def ljustD : D → List D → (Sl → Prop) → Prop
  | .str z, [.int k], Φ => 0 ≤ k ∧ k ≤ 1000 ∧ Φ (.val (.str (Txt.ljust z k)))
  | _, _, _ => False
section
variable {K : PySem.W.Frag}
theorem simc_str : SimC K (fun xs H Q => ∃ i, xs = [.int i] ∧ i.natAbs.log2 < 1920 ∧ Q (.str (toString i : String)) H) strD := by
  intro M Z G0 H0 G H σ ρ F vs xs Φ Q A r hf k
  unfold strD at hf
  split at hf
  · rename_i i
    match r with
    | .cons (.int _) .nil => exact ⟨i, rfl, hf.1, k _ _ _ G H A (Same.refl G) (.val (.str _)) hf.2⟩
  · exact hf.elim
theorem simc_intS : SimC K (fun xs H Q => ∃ a n, xs = [.str a] ∧ PySem.intText? a = some n ∧ a.length ≤ 640 ∧ Q (.int n) H) intSD := by
  intro M Z G0 H0 G H σ ρ F vs xs Φ Q A r hf k
  unfold intSD at hf
  split at hf
  · rename_i a
    obtain ⟨n, h1, h2, h3⟩ := hf
    match r with
    | .cons (.str _) .nil => exact ⟨a, n, rfl, h1, h2, k _ _ _ G H A (Same.refl G) (.val (.int _)) h3⟩
  · exact hf.elim
end
def rMulS : R2 := fun x y H Q => ∃ a n, x = .str a ∧ y = .int n ∧ MulOk a n ∧ Q (.str (Txt.mul a n)) H
theorem op_mulS {X : Cx} : OpR X (binaryOp .Mult) rMulS := by
  intro pins s σ H x y v u Q I rx ry h
  obtain ⟨a, n, rfl, rfl, ok, q⟩ := h
  obtain ⟨t, rfl⟩ := rx
  obtain ⟨t2, rfl⟩ := ry
  exact PySem.SB.mul ok fun t' k => ⟨.str _, H, I.tok k, ⟨t', rfl⟩, q⟩
theorem mulOk {z : Str} {k : Int} (h1 : -1000 ≤ k) (h2 : k ≤ 1000) (h3 : z.length ≤ 1000) : MulOk z k := by
  refine ⟨?_, fun h4 _ h6 => ?_, fun h4 _ => ?_⟩
  · rw [Bool.or_eq_false_iff]
    exact ⟨decide_eq_false (by omega), decide_eq_false (by omega)⟩
  · have h5 : (1000 : Int) * k ≤ 2 ^ 63 - 1 := by omega
    have h7 : (1000 : Int) ≤ (2 ^ 63 - 1) / k := (Int.le_ediv_iff_mul_le (by omega)).mpr h5
    omega
  · have : z.length * k.toNat ≤ 1000 * 1000 := Nat.mul_le_mul h3 (by omega)
    show decide (z.length * k.toNat > sizeLine) = false
    rw [sizeLine_eq]
    exact decide_eq_false (by omega)
theorem sim_mulS {K : PySem.W.Frag} : SimR2 K rMulS mulSD := by
  intro M Z G0 H0 G H σ ρ F v w x y Φ Q A rx ry hf k
  unfold mulSD at hf
  split at hf
  · rename_i z n
    cases rx
    cases ry
    obtain ⟨h1, h2, h3, h4⟩ := hf
    exact ⟨z, n, rfl, rfl, mulOk h1 h2 h3, k _ _ _ G H A (Same.refl G) (.val (.str _)) h4⟩
  · exact hf.elim
def rLjust : V → List V → Hp → VK → Prop := fun x xs H Q => ∃ (a : Str) (i : Int), x = .str a ∧ xs = [.int i] ∧ PadOk i = true ∧ Q (.str (Txt.ljust a i)) H
theorem simm_ljust {K : PySem.W.Frag} : SimMt K rLjust ljustD := by
  intro M Z G0 H0 G H σ ρ F v x vs xs Φ Q A rx rxs hf k
  unfold ljustD at hf
  split at hf
  · rename_i z i
    obtain ⟨h0, h1, hf⟩ := hf
    cases rx
    match rxs with
    | .cons (.int _) .nil =>
      refine ⟨z, i, rfl, rfl, ?_, k _ _ _ G H A (Same.refl G) (.val (.str _)) hf⟩
      have e1 : Builtin.Str.tooLong i.toNat = false := by
        show decide (i.toNat > sizeLine) = false
        rw [sizeLine_eq]
        exact decide_eq_false (by omega)
      unfold PadOk fitsSsize
      rw [e1]
      simp
      omega
  · exact hf.elim
section
variable {X : Cx} {a b o e : Expr} {es : List Expr} {ta tb to : TE} {t : TA} {d da db : DE} {dA : DA} {p pos apos cpos : Pos}
theorem pr_strI (hm : X.mg "str" = none) (ha : PDA X (e :: es) t dA) (hg : Gl X "str" := by rfl) (hst : starEach (e :: es) X.env = (false, eval e X.env) :: starEach es X.env := by rfl) (hpl : (backTo pos (starEach es X.env)).any (·.1) = false := by rfl) :
    PR X (.Call (.Name "str" p) (e :: es) [] pos) (tCB (fun xs H Q => ∃ i, xs = [.int i] ∧ i.natAbs.log2 < 1920 ∧ Q (.str (toString i : String)) H) t) (dCB strD dA) := pr_callTy call_str_int simc_str hm (by rfl) ha hg (by decide) (by decide) hst hpl
theorem pr_intS (hm : X.mg "int" = none) (ha : PDA X (e :: es) t dA) (hg : Gl X "int" := by rfl) (hst : starEach (e :: es) X.env = (false, eval e X.env) :: starEach es X.env := by rfl) (hpl : (backTo pos (starEach es X.env)).any (·.1) = false := by rfl) :
    PR X (.Call (.Name "int" p) (e :: es) [] pos) (tCB (fun xs H Q => ∃ a n, xs = [.str a] ∧ PySem.intText? a = some n ∧ a.length ≤ 640 ∧ Q (.int n) H) t) (dCB intSD dA) := pr_callTy call_int_str simc_intS hm (by rfl) ha hg (by decide) (by decide) hst hpl
theorem pr_mulS (ha : PD X a ta da) (hb : PD X b tb db) : PR X (.BinOp a .Mult b pos) (tOp rMulS ta tb) (dOpR mulSD da db) := pr_op op_mulS sim_mulS ha hb
theorem pr_ljust (h : PD X o to d) (ha : PDA X (e :: es) t dA) (hbase : attributeBase o "ljust" X.env (eval o X.env) = eval o X.env := by rfl)
    (hfew : ((backTo cpos (starEach (e :: es) X.env)).all (fun x => !x.1) && (backToKw cpos (keywordEach [] X.env)).all (fun x => x.1.isSome)
      && decide ((e :: es).length + ([] : List Keyword).length + (if ([] : List Keyword).isEmpty then 0 else 1) < 30)) = true := by rfl)
    (hline : (apos.endLine == cpos.line) = true := by rfl) (hs : starEach (e :: es) X.env = (false, eval e X.env) :: starEach es X.env := by rfl) (hplain : (backTo cpos (starEach es X.env)).any (·.1) = false := by rfl) :
    PR X (.Call (.Attribute o "ljust" apos) (e :: es) [] cpos) (tBM X.K "str" rLjust to t) (dMt isS ljustD d dA) :=
  ⟨pe_bm PySem.F.plainAttrs_str PySem.F.slot_str_ljust PySem.F.type_str_ljust mt_ljust h.pe ha.pe hbase hfew hline hs hplain, sim_mt tyV_s simm_ljust h.sim ha.sim⟩
end
end DL
set_option Elab.async false
set_option linter.all false
set_option maxRecDepth 100000
set_option maxHeartbeats 2000000
namespace DL
open PySem PySem.Spec PyProof.Rows L2 RT

theorem iteB {c : Bool} {A B : Prop} (h1 : c = true → A) (h2 : c = false → B) : if c = true then A else B := by
  cases c with
  | true => exact h1 rfl
  | false => exact h2 rfl
theorem iteD {c A B : Prop} [Decidable c] (h1 : c → A) (h2 : ¬ c → B) : if decide c = true then A else B := by
  by_cases h : c
  · rw [if_pos (decide_eq_true h)]; exact h1 h
  · rw [if_neg (by simpa using h)]; exact h2 h

/-! ### the dice -/
def diceT (p : Addr) (ns : List Int) (pos mixed carry : Int) : OT := .lst p [.val (.rd (ns.map D.int)), .val (.int pos), .val (.int mixed), .val (.int carry)]
def Dice (S : OT) : Prop := ∃ p ns pos mixed carry, S = diceT p ns pos mixed carry ∧ 0 ≤ pos ∧ 0 ≤ mixed ∧ mixed < 2147483647
def F_L_next : DFO := fun S xs Φ => Dice S ∧ ∃ many : Int, xs = [.int many] ∧ 0 < many ∧ many ≤ 1000000 ∧ ∀ i S', 0 ≤ i → i < many → Dice S' → S'.root = S.root → Φ (.val (.int i)) S'
/- slots of _law_next: 0 _law_dice_here, 1 _law_many, 2 _law_found, 3 _law_cell -/
def b_L_next : DS := (dSeq (dIfS (dTest (dOp gtD (dLeaf (dpIx (dpVar 0) (dC (.int 3)))) (dC (.int 0)))) (dSeq (dSet 2 (dR (dOp modD (dLeaf (dpIx (dpVar 0) (dC (.int 3)))) (dVar 1))))
  (dSeq (dPSet (dpVar 0) (dC (.int 3)) (dOp fdvD (dLeaf (dpIx (dpVar 0) (dC (.int 3)))) (dVar 1)))
  (dRet (dR (dVar 2))))) dNext)
  (dSeq (dPSet (dpVar 0) (dC (.int 1)) (dV (dOpR addD (dLeaf (dpIx (dpVar 0) (dC (.int 1)))) (dC (.int 1)))))
  (dSeq (dIfS (dTest (dOp leD (dLeaf (dpIx (dpVar 0) (dC (.int 1)))) (dV (dCB lenD (dCons (dLeaf (dpIx (dpVar 0) (dC (.int 0)))) dNil))))) (dSeq (dSet 3 (dR (dOp ixD (dLeaf (dpIx (dpVar 0) (dC (.int 0)))) (dOp subD (dLeaf (dpIx (dpVar 0) (dC (.int 1)))) (dC (.int 1))))))
  (dSeq (dPSet (dpVar 0) (dC (.int 3)) (dIf (dTest (dOp geD (dVar 3) (dOp powD (dC (.int 10)) (dC (.int 18))))) (dOp fdvD (dVar 3) (dVar 1)) (dC (.int 0))))
  (dRet (dR (dOp modD (dVar 3) (dVar 1)))))) dNext)
  (dSeq (dPSet (dpVar 0) (dC (.int 2)) (dOp modD (dV (dOpR mulD (dLeaf (dpIx (dpVar 0) (dC (.int 2)))) (dC (.int 48271)))) (dC (.int 2147483647))))
  (dRet (dR (dOp modD (dOp fdvD (dLeaf (dpIx (dpVar 0) (dC (.int 2)))) (dC (.int 7))) (dVar 1))))))))
theorem atI_map {α β : Type} (f : α → β) (xs : List α) {i : Int} (h0 : 0 ≤ i) (h1 : i < xs.length) : ∃ x, x ∈ xs ∧ atI (xs.map f) i = some (f x) := by
  have hj : i.toNat < xs.length := by omega
  refine ⟨xs[i.toNat], List.getElem_mem hj, ?_⟩
  have e : atI (xs.map f) ((i.toNat : Nat) : Int) = some (f xs[i.toNat]) := atI_nat (by rw [List.getElem?_map, List.getElem?_eq_getElem hj]; rfl)
  rw [Int.toNat_of_nonneg h0] at e
  exact e
theorem rd_L_next : ∀ S xs Φ, F_L_next S xs Φ → b_L_next (rtO S Φ) (.arg S :: slots xs 3) := by
  rintro S xs Φ ⟨⟨p, ns, pos, mixed, carry, rfl, h1, h2, h3⟩, many, rfl, m1, m2, k⟩
  refine ⟨⟨rfl, rfl⟩, by decide, ?_⟩
  refine iteD (fun c => ?_) (fun c => ?_)
  · refine ⟨⟨rfl, rfl⟩, by decide, m1, trivial, ⟨rfl, rfl⟩, by decide, ⟨m1, by omega⟩, rfl, rfl, by decide, by simp, rfl, ?_⟩
    exact k (carry % many) _ (Int.emod_nonneg _ (by omega)) (Int.emod_lt_of_pos _ m1) ⟨p, ns, pos, mixed, carry / many, rfl, h1, h2, h3⟩ rfl
  · refine ⟨⟨rfl, rfl⟩, by decide, rfl, rfl, by decide, by simp, ?_⟩
    refine ⟨⟨rfl, rfl⟩, by decide, ⟨rfl, rfl⟩, by decide, ?_⟩
    refine iteD (fun d => ?_) (fun d => ?_)
    · have hl : pos + 1 ≤ ((ns.map D.int).length : Int) := d
      rw [List.length_map] at hl
      obtain ⟨cell, _, ec⟩ := atI_map D.int ns (i := pos) (by omega) (by omega)
      refine ⟨⟨rfl, rfl⟩, by decide, ⟨rfl, rfl⟩, by decide, ?_⟩
      show ixL (ns.map D.int) (.int (pos + 1 - 1)) _
      unfold ixL
      rw [show pos + 1 - 1 = pos by omega]
      dsimp only
      rw [ec]
      refine ⟨trivial, ⟨by decide, by decide, by decide⟩, ?_⟩
      refine iteD (fun g => ?_) (fun g => ?_)
      · refine ⟨⟨m1, by omega⟩, rfl, rfl, by decide, by simp, m1, rfl, ?_⟩
        exact k (cell % many) _ (Int.emod_nonneg _ (by omega)) (Int.emod_lt_of_pos _ m1) ⟨p, ns, pos + 1, mixed, cell / many, rfl, by omega, h2, h3⟩ rfl
      · refine ⟨rfl, rfl, by decide, by simp, m1, rfl, ?_⟩
        exact k (cell % many) _ (Int.emod_nonneg _ (by omega)) (Int.emod_lt_of_pos _ m1) ⟨p, ns, pos + 1, mixed, 0, rfl, by omega, h2, h3⟩ rfl
    · refine ⟨⟨rfl, rfl⟩, by decide, .inl ⟨by omega, by omega⟩, (by show (0 : Int) < 2147483647; decide), rfl, rfl, by decide, by simp, ⟨rfl, rfl⟩, by decide, ⟨by decide, by decide⟩, m1, rfl, ?_⟩
      exact k _ _ (Int.emod_nonneg _ (by omega)) (Int.emod_lt_of_pos _ m1) ⟨p, ns, pos + 1, mixed * 48271 % 2147483647, carry, rfl, by omega, Int.emod_nonneg _ (by decide), Int.emod_lt_of_pos _ (by decide)⟩ rfl
end DL
set_option Elab.async false
set_option linter.all false
set_option maxRecDepth 100000
set_option maxHeartbeats 2000000
namespace DL
open PySem PySem.Spec PyProof.Rows L2 RT

/-! ### loops and comprehensions by an invariant -/
theorem forL_inv {g : DG} {b : DS} {Δ : Ds} (I : List D → List Sl → Prop) (step : ∀ d rest ρ, I (d :: rest) ρ → ∀ K : List Sl → Prop, (∀ ρ', I rest ρ' → K ρ') → g d ρ fun ρ1 => b { Δ with nx := K, ct := K, bk := Δ.nx } ρ1)
    (done : ∀ ρ, I [] ρ → Δ.nx ρ) : ∀ {ds : List D} {ρ : List Sl}, I ds ρ → dForL g b Δ ds ρ
  | [], ρ, h => done ρ h
  | d :: rest, ρ, h => step d rest ρ h (dForL g b Δ rest) fun ρ' h' => forL_inv I step done h'
theorem for_inv {di : DI} {g : DG} {b : DS} {Δ : Ds} {ρ : List Sl} (I : List D → List Sl → Prop) (h0 : di ρ I)
    (mono : ∀ {J : List D → List Sl → Prop}, (∀ ds ρ', I ds ρ' → J ds ρ') → di ρ I → di ρ J)
    (step : ∀ d rest ρ, I (d :: rest) ρ → ∀ K : List Sl → Prop, (∀ ρ', I rest ρ' → K ρ') → g d ρ fun ρ1 => b { Δ with nx := K, ct := K, bk := Δ.nx } ρ1)
    (done : ∀ ρ, I [] ρ → Δ.nx ρ) : dFor di g b Δ ρ := by
  unfold dFor
  exact mono (fun ds ρ' h => forL_inv I step done h) h0
/-- the things looped over are known beforehand -/
theorem for_inv' {di : DI} {g : DG} {b : DS} {Δ : Ds} {ρ ρ1 : List Sl} (ds : List D) (hd : ∀ Ψ : List D → List Sl → Prop, Ψ ds ρ1 → di ρ Ψ) (I : List D → List Sl → Prop) (h0 : I ds ρ1)
    (step : ∀ d rest ρ, I (d :: rest) ρ → ∀ K : List Sl → Prop, (∀ ρ', I rest ρ' → K ρ') → g d ρ fun ρ1 => b { Δ with nx := K, ct := K, bk := Δ.nx } ρ1)
    (done : ∀ ρ, I [] ρ → Δ.nx ρ) : dFor di g b Δ ρ := by
  unfold dFor
  exact hd _ (forL_inv I step done h0)
theorem lcL_inv {vs : List Nat} {g : DG} {tt : DT} {te : DE} {Φ : List D → List Sl → Prop} (I : List D → List D → List Sl → Prop)
    (step : ∀ d rest acc ρ, I (d :: rest) acc ρ → ∀ K : List D → List Sl → Prop, (∀ acc' ρ', I rest acc' ρ' → K acc' ρ') → g d (wipeR ρ vs) fun ρ2 => tt ρ2 fun b ρ3 => if b = true then te ρ3 fun y ρ4 => clean ρ4 vs ∧ K (acc ++ [y]) ρ4 else clean ρ3 vs ∧ K acc ρ3)
    (done : ∀ acc ρ, I [] acc ρ → Φ acc ρ) : ∀ {ds acc : List D} {ρ : List Sl}, I ds acc ρ → dLcL vs g tt te ds acc ρ Φ
  | [], acc, ρ, h => done acc ρ h
  | d :: rest, acc, ρ, h => step d rest acc ρ h (fun acc' ρ' => dLcL vs g tt te rest acc' ρ' Φ) fun acc' ρ' h' => lcL_inv I step done h'
theorem lc_inv {vs : List Nat} {di : DI} {g : DG} {tt : DT} {te : DE} {ρ ρ1 : List Sl} {Φ : Sl → List Sl → Prop} (ds : List D) (hd : ∀ Ψ : List D → List Sl → Prop, Ψ ds ρ1 → di ρ Ψ) (hl : ds.length ≤ 1000000) (hc : clean ρ1 vs) (I : List D → List D → List Sl → Prop) (h0 : I ds [] ρ1)
    (step : ∀ d rest acc ρ, I (d :: rest) acc ρ → ∀ K : List D → List Sl → Prop, (∀ acc' ρ', I rest acc' ρ' → K acc' ρ') → g d (wipeR ρ vs) fun ρ2 => tt ρ2 fun b ρ3 => if b = true then te ρ3 fun y ρ4 => clean ρ4 vs ∧ K (acc ++ [y]) ρ4 else clean ρ3 vs ∧ K acc ρ3)
    (done : ∀ acc ρ, I [] acc ρ → Φ (.own acc) (restR ρ1 ρ vs)) : dLc di g tt te vs ρ Φ := by
  unfold dLc
  exact hd _ ⟨hl, hc, lcL_inv I step done h0⟩
theorem lc_open {vs : List Nat} {di : DI} {g : DG} {tt : DT} {te : DE} {ρ : List Sl} {Φ : Sl → List Sl → Prop} (h : di ρ fun ds ρ1 => ds.length ≤ 1000000 ∧ clean ρ1 vs ∧ dLcL vs g tt te ds [] ρ1 fun acc ρ2 => Φ (.own acc) (restR ρ1 ρ2 vs)) : dLc di g tt te vs ρ Φ := by
  unfold dLc
  exact h
theorem for_open {di : DI} {g : DG} {b : DS} {Δ : Ds} {ρ : List Sl} (h : di ρ fun ds ρ1 => dForL g b Δ ds ρ1) : dFor di g b Δ ρ := by
  unfold dFor
  exact h
def idle (ρ : List Sl) (j : Nat) : Prop := ρ[j]? = some .un ∨ ∃ d, ρ[j]? = some (.val d)
theorem idle.free {ρ : List Sl} {j : Nat} (h : idle ρ j) : free ρ j := by
  unfold DL.free
  rcases h with h | ⟨d, h⟩ <;> rw [h] <;> trivial
theorem idle.clean {ρ : List Sl} {j : Nat} (h : idle ρ j) : clean ρ [j] := by
  unfold DL.clean
  rcases h with h | ⟨d, h⟩ <;> rw [h] <;> exact ⟨trivial, trivial⟩
theorem idle.lt {ρ : List Sl} {j : Nat} (h : idle ρ j) : j < ρ.length := by
  rcases h with h | ⟨d, h⟩ <;> exact (List.getElem?_eq_some_iff.mp h).1
theorem idle.set {ρ : List Sl} {j : Nat} (h : idle ρ j) (d : D) : idle (ρ.set j (.val d)) j := .inr ⟨d, List.getElem?_set_self h.lt⟩
theorem idle.back {ρ : List Sl} {j : Nat} (h : idle ρ j) (d : D) : restR ρ (ρ.set j (.val d)) [j] = ρ := by
  show (ρ.set j (.val d)).set j ((ρ[j]?).getD .un) = ρ
  rw [List.set_set]
  rcases h with h | ⟨e, h⟩ <;> rw [h] <;> exact set_self h
/-- [e(x) for x in ds if c(x)], nothing changed but the comprehension's own name -/
theorem lc_pure {j : Nat} {di : DI} {tt : DT} {te : DE} {ρ ρ1 : List Sl} {Φ : Sl → List Sl → Prop} {α : Type} (l : List α) (enc : α → D) (c : α → Bool) (f : α → D) (hd : ∀ Ψ : List D → List Sl → Prop, Ψ (l.map enc) ρ1 → di ρ Ψ) (hl : l.length ≤ 1000000) (hj : idle ρ1 j)
    (ht : ∀ d ∈ l, ∀ Ψ : Bool → List Sl → Prop, Ψ (c d) (ρ1.set j (.val (enc d))) → tt (ρ1.set j (.val (enc d))) Ψ) (he : ∀ d ∈ l, c d = true → ∀ Ψ : D → List Sl → Prop, Ψ (f d) (ρ1.set j (.val (enc d))) → te (ρ1.set j (.val (enc d))) Ψ)
    (k : Φ (.own ((l.filter c).map f)) ρ1) : dLc di (dgName j) tt te [j] ρ Φ := by
  refine lc_inv (l.map enc) hd (by rw [List.length_map]; exact hl) hj.clean (fun rest acc ρ' => ∃ pre post, l = pre ++ post ∧ rest = post.map enc ∧ acc = (pre.filter c).map f ∧ (ρ' = ρ1 ∨ ∃ d, ρ' = ρ1.set j (.val d))) ⟨[], l, rfl, rfl, rfl, .inl rfl⟩ ?_ ?_
  · rintro d rest acc ρ' ⟨pre, post, e1, e2, e3, e4⟩ K hK
    cases post with
    | nil => cases e2
    | cons x post =>
      cases e2
      have hw : (wipeR ρ' [j]).set j (.val (enc x)) = ρ1.set j (.val (enc x)) := by
        show (ρ'.set j .un).set j (.val (enc x)) = _
        rw [List.set_set]
        rcases e4 with e4 | ⟨d, e4⟩
        · rw [e4]
        · rw [e4, List.set_set]
      have hf : free (wipeR ρ' [j]) j := by
        have hl : j < (wipeR ρ' [j]).length := by
          rw [wipeR_length]
          rcases e4 with e4 | ⟨d, e4⟩
          · rw [e4]; exact hj.lt
          · rw [e4, List.length_set]; exact hj.lt
        unfold DL.free
        show match (ρ'.set j .un)[j]? with | some (.arg _) => False | some _ => True | none => False
        rw [List.getElem?_set_self (by rw [wipeR_length] at hl; exact hl)]
        trivial
      refine ⟨hf, ?_⟩
      rw [hw]
      have hx : x ∈ l := by rw [e1]; exact List.mem_append_right _ List.mem_cons_self
      have hdone : clean (ρ1.set j (.val (enc x))) [j] := (hj.set (enc x)).clean
      have hs : l = (pre ++ [x]) ++ post := by rw [e1, List.append_assoc]; rfl
      refine ht x hx _ ?_
      cases hc : c x with
      | true =>
        rw [if_pos rfl]
        refine he x hx hc _ ⟨hdone, hK _ _ ⟨pre ++ [x], post, hs, rfl, ?_, .inr ⟨_, rfl⟩⟩⟩
        rw [List.filter_append, List.map_append, e3]
        congr 1
        simp [hc]
      | false =>
        rw [if_neg (by decide)]
        refine ⟨hdone, hK _ _ ⟨pre ++ [x], post, hs, rfl, ?_, .inr ⟨_, rfl⟩⟩⟩
        rw [List.filter_append, List.map_append, e3]
        simp [hc]
  · rintro acc ρ' ⟨pre, post, e1, e2, e3, e4⟩
    have : post = [] := by
      cases post with
      | nil => rfl
      | cons _ _ => cases e2
    subst this
    rw [List.append_nil] at e1
    subst e1
    rw [e3]
    have : restR ρ1 ρ' [j] = ρ1 := by
      rcases e4 with e4 | ⟨d, e4⟩
      · rw [e4]
        show ρ1.set j ((ρ1[j]?).getD .un) = ρ1
        rcases hj with h | ⟨e, h⟩ <;> rw [h] <;> exact set_self h
      · rw [e4]; exact hj.back d
    rw [this]
    exact k

theorem filter_all {α : Type} (l : List α) : l.filter (fun _ => true) = l := List.filter_eq_self.mpr fun _ _ => rfl
theorem lc_map {j : Nat} {di : DI} {te : DE} {ρ ρ1 : List Sl} {Φ : Sl → List Sl → Prop} {α : Type} (l : List α) (enc : α → D) (f : α → D) (hd : ∀ Ψ : List D → List Sl → Prop, Ψ (l.map enc) ρ1 → di ρ Ψ) (hl : l.length ≤ 1000000) (hj : idle ρ1 j)
    (he : ∀ d ∈ l, ∀ Ψ : D → List Sl → Prop, Ψ (f d) (ρ1.set j (.val (enc d))) → te (ρ1.set j (.val (enc d))) Ψ)
    (k : Φ (.own (l.map f)) ρ1) : dLc di (dgName j) dYes te [j] ρ Φ :=
  lc_pure l enc (fun _ => true) f hd hl hj (fun _ _ _ h => h) (fun d hd _ => he d hd) (by rw [filter_all]; exact k)

/-! ### data that stand for plain things -/
theorem eqvAll_map {α : Type} [DecidableEq α] (f : α → D) (h : ∀ a b, D.eqv (f a) (f b) = decide (a = b)) : ∀ xs ys : List α, PyData.eqvAll (D.pyL (xs.map f)) (D.pyL (ys.map f)) = decide (xs = ys)
  | [], [] => rfl
  | [], _ :: _ => rfl
  | _ :: _, [] => rfl
  | x :: xs, y :: ys => by
    have e1 : PyData.eqv (f x).py (f y).py = decide (x = y) := h x y
    have e2 := eqvAll_map f h xs ys
    simp only [List.map_cons, D.pyL, PyData.eqvAll, e1, e2]
    by_cases c1 : x = y <;> by_cases c2 : xs = ys <;> simp [c1, c2]
theorem eqv_int (i j : Int) : D.eqv (.int i) (.int j) = decide (i = j) := by
  show (i == j) = _
  by_cases c : i = j <;> simp [c]
theorem eqv_tup {α : Type} [DecidableEq α] (f : α → D) (h : ∀ a b, D.eqv (f a) (f b) = decide (a = b)) (xs ys : List α) : D.eqv (.tup (xs.map f)) (.tup (ys.map f)) = decide (xs = ys) := by
  have : D.eqv (.tup (xs.map f)) (.tup (ys.map f)) = PyData.eqvAll (D.pyL (xs.map f)) (D.pyL (ys.map f)) := by
    simp [D.eqv, D.py, PyData.eqv]
  rw [this, eqvAll_map f h]
theorem eqv_lst {α : Type} [DecidableEq α] (f : α → D) (h : ∀ a b, D.eqv (f a) (f b) = decide (a = b)) (xs ys : List α) : D.eqv (.lst (xs.map f)) (.lst (ys.map f)) = decide (xs = ys) := by
  have : D.eqv (.lst (xs.map f)) (.lst (ys.map f)) = PyData.eqvAll (D.pyL (xs.map f)) (D.pyL (ys.map f)) := by
    simp [D.eqv, D.py, PyData.eqv]
  rw [this, eqvAll_map f h]
theorem any_map {α : Type} [DecidableEq α] (f : α → D) (h : ∀ a b, D.eqv (f a) (f b) = decide (a = b)) (xs : List α) (y : α) [Decidable (y ∈ xs)] : ((xs.map f).any fun z => D.eqv z (f y)) = decide (y ∈ xs) := by
  refine Eq.trans ?_ (show @decide (y ∈ xs) (Classical.propDecidable _) = _ from by congr)
  rw [List.any_map]
  induction xs with
  | nil => simp
  | cons x xs ih =>
    rw [List.any_cons, ih]
    simp only [Function.comp, h]
    by_cases c : x = y
    · simp [c]
    · have c' : ¬ y = x := fun e => c e.symm
      simp [c, c']
theorem okL_map {α : Type} (f : α → D) {n : Nat} : ∀ {xs : List α}, (∀ x ∈ xs, (f x).okN n = true) → D.okL (xs.map f) n = true
  | [], _ => rfl
  | x :: xs, h => by
    simp only [List.map_cons, D.okL, Bool.and_eq_true]
    exact ⟨h x List.mem_cons_self, okL_map f fun y hy => h y (List.mem_cons_of_mem _ hy)⟩
theorem ok_tup {α : Type} (f : α → D) {n : Nat} {xs : List α} (h : ∀ x ∈ xs, (f x).okN n = true) : (D.tup (xs.map f)).okN (n + 1) = true := by
  simp only [D.okN]
  exact okL_map f h
theorem ok_lst {α : Type} (f : α → D) {n : Nat} {xs : List α} (h : ∀ x ∈ xs, (f x).okN n = true) : (D.lst (xs.map f)).okN (n + 1) = true := by
  simp only [D.okN]
  exact okL_map f h
abbrev Col := List Int
abbrev Card := List Col
def colD (c : Col) : D := .tup (c.map D.int)
def cardD (c : Card) : D := .tup (c.map colD)
def deckD (d : List Card) : D := .lst (d.map cardD)
theorem eqv_col (a b : Col) : D.eqv (colD a) (colD b) = decide (a = b) := eqv_tup D.int eqv_int a b
theorem eqv_card (a b : Card) : D.eqv (cardD a) (cardD b) = decide (a = b) := eqv_tup colD eqv_col a b
theorem eqv_deck (a b : List Card) : D.eqv (deckD a) (deckD b) = decide (a = b) := eqv_lst cardD eqv_card a b
theorem ok_int (i : Int) (n : Nat) : (D.int i).okN n = true := by
  cases n <;> rfl
theorem ok_bl (b : Bool) (n : Nat) : (D.bl b).okN n = true := by
  cases n <;> rfl
theorem ok_col (c : Col) (n : Nat) : (colD c).okN (n + 1) = true := ok_tup D.int fun i _ => ok_int i n
theorem ok_card (c : Card) (n : Nat) : (cardD c).okN (n + 2) = true := ok_tup colD fun c _ => ok_col c n
theorem ok_deck (d : List Card) (n : Nat) : (deckD d).okN (n + 3) = true := ok_lst cardD fun c _ => ok_card c n

/-! ### like -/
mutual
def D.lk : D → Nat → Bool
  | .non, _ => true
  | .int _, _ => true
  | .str s, _ => PyData.strOk s
  | .tup xs, n => match n with
    | 0 => false
    | n + 1 => decide (xs.length ≤ 1000000) && D.lkL xs n
  | .lst xs, n => match n with
    | 0 => false
    | n + 1 => decide (xs.length ≤ 1000000) && D.lkL xs n
  | _, _ => false
def D.lkL : List D → Nat → Bool
  | [], _ => true
  | x :: xs, n => x.lk n && D.lkL xs n
end
theorem lkL_get {n : Nat} : ∀ {xs : List D} {k : Nat} {d : D}, D.lkL xs n = true → xs[k]? = some d → d.lk n = true
  | [], k, d, _, h => by simp at h
  | x :: xs, 0, d, h, e => by
    simp only [D.lkL, Bool.and_eq_true] at h
    simp at e
    rw [← e]; exact h.1
  | x :: xs, k + 1, d, h, e => by
    simp only [D.lkL, Bool.and_eq_true] at h
    exact lkL_get h.2 (by simpa using e)
theorem lkL_map {α : Type} (f : α → D) {n : Nat} : ∀ {xs : List α}, (∀ x ∈ xs, (f x).lk n = true) → D.lkL (xs.map f) n = true
  | [], _ => rfl
  | x :: xs, h => by
    simp only [List.map_cons, D.lkL, Bool.and_eq_true]
    exact ⟨h x List.mem_cons_self, lkL_map f fun y hy => h y (List.mem_cons_of_mem _ hy)⟩
theorem lk_tup {α : Type} (f : α → D) {n : Nat} {xs : List α} (hl : xs.length ≤ 1000000) (h : ∀ x ∈ xs, (f x).lk n = true) : (D.tup (xs.map f)).lk (n + 1) = true := by
  simp only [D.lk, Bool.and_eq_true, List.length_map, decide_eq_true_eq]
  exact ⟨hl, lkL_map f h⟩
theorem lk_lst {α : Type} (f : α → D) {n : Nat} {xs : List α} (hl : xs.length ≤ 1000000) (h : ∀ x ∈ xs, (f x).lk n = true) : (D.lst (xs.map f)).lk (n + 1) = true := by
  simp only [D.lk, Bool.and_eq_true, List.length_map, decide_eq_true_eq]
  exact ⟨hl, lkL_map f h⟩
theorem lk_int (i : Int) (n : Nat) : (D.int i).lk n = true := by
  cases n <;> rfl
def F_L_like : Nat → DF
  | 0 => fun _ _ => False
  | n + 1 => fun xs Φ => ∃ x y, xs = [x, y] ∧ x.lk n = true ∧ y.lk n = true ∧ ∀ b : Bool, (x = y → b = true) → Φ (.val (.bl b))
/- slots of _law_like: 0 _law_found, 1 _law_due, 2 _law_k -/
def b_L_like (n : Nat) : DS := (dSeq (dIfS (dTest (dV (dCB isiD (dCons (dVar 1) (dCons (dC (.ty "str")) dNil))))) (dRet (dR (dAndV (dV (dCB isiD (dCons (dVar 0) (dCons (dC (.ty "str")) dNil)))) (dOp eqD (dVar 0) (dVar 1))))) dNext)
  (dSeq (dIfS (dTest (dV (dCB isiD (dCons (dVar 1) (dCons (dC (.ty "int")) dNil))))) (dRet (dR (dAndV (dV (dCB isiD (dCons (dVar 0) (dCons (dC (.ty "int")) dNil)))) (dAndV (dNotV (dV (dCB isiD (dCons (dVar 0) (dCons (dC (.ty "bool")) dNil))))) (dOp eqD (dVar 0) (dVar 1)))))) dNext)
  (dSeq (dIfS (dTest (dOp isN (dVar 1) (dC .non))) (dRet (dR (dOp isN (dVar 0) (dC .non)))) dNext)
  (dSeq (dIfS (dOr (dTest (dOp neD (dV (dCB isiD (dCons (dVar 1) (dCons (dC (.ty "tuple")) dNil)))) (dV (dCB isiD (dCons (dVar 0) (dCons (dC (.ty "tuple")) dNil)))))) (dTest (dOp neD (dV (dCB isiD (dCons (dVar 1) (dCons (dC (.ty "list")) dNil)))) (dV (dCB isiD (dCons (dVar 0) (dCons (dC (.ty "list")) dNil))))))) (dRet (dR (dC (.bl false)))) dNext)
  (dSeq (dIfS (dTest (dOp neD (dV (dCB lenD (dCons (dVar 0) dNil))) (dV (dCB lenD (dCons (dVar 1) dNil))))) (dRet (dR (dC (.bl false)))) dNext)
  (dSeq (dFor (diRng1 (dV (dCB lenD (dCons (dVar 1) dNil)))) (dgName 2) (dIfS (dNot (dTest (dV (dCall (F_L_like n) (dCons (dOp ixD (dVar 0) (dVar 2)) (dCons (dOp ixD (dVar 1) (dVar 2)) dNil)))))) (dRet (dR (dC (.bl false)))) dNext))
  (dRet (dR (dC (.bl true))))))))))

/-! ### the law's own promise -/
def F_law : DF := fun xs Φ => ∃ ns : List Int, xs = [.rd (ns.map D.int)] ∧ ns.length ≤ 63 ∧ Φ (.val (.bl true))
theorem rpl_ns {K : PySem.W.Frag} {G : Hp} : ∀ ns : List Int, RpL K G (ns.map V.int) (ns.map D.int)
  | [] => .nil
  | n :: ns => .cons (.int n) (rpl_ns ns)
theorem law_sp {K : PySem.W.Frag} {H : Hp} {a : Addr} {ns : List Int} {E : XK} (hl : ns.length ≤ 63) (hS : SqL K H a (ns.map V.int)) : SpV K F_law [.ref a] H (fun v _ => v = .bl true) E := by
  refine ⟨H, [.rd (ns.map D.int)], fun r => r = .val (.bl true), Same.refl H, .cons (.rd hS (rpl_ns ns)) .nil, ⟨ns, rfl, hl, rfl⟩, fun v r Fr G' H' _ _ _ _ hr q => ?_⟩
  subst q
  obtain ⟨_, w, e, r⟩ := hr.ok
  cases e
  cases r with
  | bl b => rfl
end DL
set_option Elab.async false
set_option linter.all false
set_option maxRecDepth 100000
set_option maxHeartbeats 2000000
namespace DL
open PySem PySem.Spec PyProof.Rows L2 RT

theorem eqv_refl_lk : ∀ {y : D}, (∃ s, y = .str s) ∨ (∃ i, y = .int i) → D.eqv y y = true := by
  rintro y (⟨s, rfl⟩ | ⟨i, rfl⟩)
  · simp [D.eqv, D.py, PyData.eqv]
  · simp [D.eqv, D.py, PyData.eqv]
/-- the loop of like, over two things of one kind -/
theorem like_loop {m : Nat} {x y : D} {xs ys : List D} {Φ : Sl → Prop} (hx : ∀ k Ψ, ixL xs k Ψ → ixD x k Ψ) (hy : ∀ k Ψ, ixL ys k Ψ → ixD y k Ψ) (hl : ∀ Ψ, Ψ (.val (.int ys.length)) → lenD [y] Ψ) (hlen : ys.length ≤ 1000000) (e : xs.length = ys.length)
    (h1 : D.lkL xs m = true) (h2 : D.lkL ys m = true) (ne : x = y → xs = ys) (k : ∀ b : Bool, (x = y → b = true) → Φ (.val (.bl b))) :
    dSeq (dFor (diRng1 (dV (dCB lenD (dCons (dVar 1) dNil)))) (dgName 2) (dIfS (dNot (dTest (dV (dCall (F_L_like (m + 1)) (dCons (dOp ixD (dVar 0) (dVar 2)) (dCons (dOp ixD (dVar 1) (dVar 2)) dNil)))))) (dRet (dR (dC (.bl false)))) dNext)) (dRet (dR (dC (.bl true)))) (rtV Φ) [.val x, .val y, .un] := by
  show dFor _ _ _ { rtV Φ with nx := _ } _
  refine for_inv' (ρ1 := [.val x, .val y, .un]) (rng ys.length 0 1) (fun Ψ h => hl _ ⟨⟨by omega, by omega⟩, h⟩) (fun rest ρ => ∃ j : Nat, rest = rng (ys.length - j) j 1 ∧ j ≤ ys.length ∧ ∃ s, ρ = [.val x, .val y, s] ∧ free [.val x, .val y, s] 2)
    ⟨0, rfl, Nat.zero_le _, _, rfl, trivial⟩ ?_ ?_
  · rintro d rest ρ ⟨j, e1, hj, s, rfl, fr⟩ K hK
    have hlt : j < ys.length := by
      rcases Nat.lt_or_ge j ys.length with h | h
      · exact h
      · rw [show ys.length - j = 0 by omega] at e1
        cases e1
    rw [show ys.length - j = (ys.length - (j + 1)) + 1 by omega] at e1
    cases e1
    refine ⟨fr, ?_⟩
    have ex : atI xs ((j : Nat) : Int) = some (xs[j]'(by omega)) := atI_nat (List.getElem?_eq_getElem (by omega))
    have ey : atI ys ((j : Nat) : Int) = some ys[j] := atI_nat (List.getElem?_eq_getElem hlt)
    refine hx _ _ ?_
    unfold ixL
    dsimp only
    rw [ex]
    refine hy _ _ ?_
    unfold ixL
    dsimp only
    rw [ey]
    refine ⟨_, _, rfl, lkL_get h1 (List.getElem?_eq_getElem (by omega)), lkL_get h2 (List.getElem?_eq_getElem hlt), fun b hb => ?_⟩
    cases b with
    | true => exact hK _ ⟨j + 1, by push_cast; rfl, hlt, _, rfl, trivial⟩
    | false => exact k false fun q => absurd (hb (by simp only [ne q])) (by decide)
  · rintro ρ ⟨j, e1, hj, s, rfl, fr⟩
    exact k true fun _ => rfl
theorem like_len {m : Nat} {x y : D} {xs ys : List D} {Φ : Sl → Prop} (hx : ∀ k Ψ, ixL xs k Ψ → ixD x k Ψ) (hy : ∀ k Ψ, ixL ys k Ψ → ixD y k Ψ) (hl0 : ∀ Ψ, Ψ (.val (.int xs.length)) → lenD [x] Ψ) (hl : ∀ Ψ, Ψ (.val (.int ys.length)) → lenD [y] Ψ) (hlen : ys.length ≤ 1000000)
    (h1 : D.lkL xs m = true) (h2 : D.lkL ys m = true) (ne : x = y → xs = ys) (k : ∀ b : Bool, (x = y → b = true) → Φ (.val (.bl b))) :
    dSeq (dIfS (dTest (dOp neD (dV (dCB lenD (dCons (dVar 0) dNil))) (dV (dCB lenD (dCons (dVar 1) dNil))))) (dRet (dR (dC (.bl false)))) dNext)
  (dSeq (dFor (diRng1 (dV (dCB lenD (dCons (dVar 1) dNil)))) (dgName 2) (dIfS (dNot (dTest (dV (dCall (F_L_like (m + 1)) (dCons (dOp ixD (dVar 0) (dVar 2)) (dCons (dOp ixD (dVar 1) (dVar 2)) dNil)))))) (dRet (dR (dC (.bl false)))) dNext)) (dRet (dR (dC (.bl true))))) (rtV Φ) [.val x, .val y, .un] := by
  refine hl0 _ (hl _ ⟨ok_int _ _, ok_int _ _, ?_⟩)
  rw [eqv_int]
  by_cases c : (xs.length : Int) = ys.length
  · rw [decide_eq_true c]
    exact like_loop hx hy hl hlen (by omega) h1 h2 ne k
  · rw [decide_eq_false c]
    exact k false fun q => absurd (by rw [ne q]) c
theorem rd_L_like (n : Nat) : ∀ xs Φ, F_L_like (n + 1) xs Φ → b_L_like n (rtV Φ) (slots xs 3) := by
  rintro xs Φ ⟨x, y, rfl, hx, hy, k⟩
  have tn : ∀ {n : Nat} {x : D}, x.lk n = true → tname x ∈ ["NoneType", "bool", "int", "str", "tuple", "list", "dict"] := fun {n x} h => by
    cases x <;> first | (simp [tname]; done) | (simp [D.lk] at h; done)
  have tx := tn hx
  refine ⟨by decide, tn hy, ?_⟩
  cases y with
  | str s =>
    refine ⟨by decide, tx, ?_⟩
    show if isiB x "str" = true then _ else _
    refine iteB (fun c => ?_) (fun c => ?_)
    · cases x with
      | str t =>
        refine ⟨by simpa [D.lk, D.okN] using hx, by simpa [D.lk, D.okN] using hy, ?_⟩
        refine k _ fun q => ?_
        rw [q]
        exact eqv_refl_lk (.inl ⟨s, rfl⟩)
      | _ => simp [isiB, tname] at c
    · exact k false fun q => absurd c (by rw [q]; simp [isiB, tname])
  | int i =>
    refine ⟨by decide, by simp [tname], ?_⟩
    refine ⟨by decide, tx, ?_⟩
    show if isiB x "int" = true then _ else _
    refine iteB (fun c => ?_) (fun c => ?_)
    · refine ⟨by decide, tx, ?_⟩
      show if (!isiB x "bool") = true then _ else _
      refine iteB (fun c2 => ?_) (fun c2 => ?_)
      · cases x with
        | int t =>
          refine ⟨ok_int _ _, ok_int _ _, ?_⟩
          refine k _ fun q => ?_
          rw [q]
          exact eqv_refl_lk (.inr ⟨i, rfl⟩)
        | _ => simp [D.lk, isiB, tname] at hx c c2
      · exact k false fun q => absurd c2 (by rw [q]; simp [isiB, tname])
    · exact k false fun q => absurd c (by rw [q]; simp [isiB, tname])
  | non =>
    refine ⟨by decide, by decide, ?_⟩
    exact k _ fun q => by rw [q]
  | tup ys =>
    cases n with
    | zero => simp [D.lk] at hy
    | succ m =>
      simp only [D.lk, Bool.and_eq_true, decide_eq_true_eq] at hy
      refine ⟨by decide, by simp [tname], ?_⟩
      refine ⟨by decide, by simp [tname], ⟨by decide, tx, ok_bl _ _, ok_bl _ _, ?_⟩⟩
      have ne : ∀ b : Bool, D.eqv (.bl true) (.bl b) = b := fun b => by cases b <;> rfl
      have nf : ∀ b : Bool, D.eqv (.bl false) (.bl b) = !b := fun b => by cases b <;> rfl
      show if (!D.eqv (.bl true) (.bl (isiB x "tuple"))) = true then _ else _
      rw [ne]
      refine iteB (fun c => ?_) (fun c => ?_)
      · exact k false fun q => absurd c (by rw [q]; simp [isiB, tname])
      · cases x with
        | tup xs =>
          simp only [D.lk, Bool.and_eq_true, decide_eq_true_eq] at hx
          refine ⟨by decide, by simp [tname], ⟨by decide, by simp [tname], ok_bl _ _, ok_bl _ _, ?_⟩⟩
          exact like_len (x := .tup xs) (y := .tup ys) (xs := xs) (ys := ys) (fun _ _ h => h) (fun _ _ h => h) (fun _ h => h) (fun _ h => h) hy.1 hx.2 hy.2 (fun q => by cases q; rfl) k
        | _ => simp [D.lk, isiB, tname] at hx c
  | lst ys =>
    cases n with
    | zero => simp [D.lk] at hy
    | succ m =>
      simp only [D.lk, Bool.and_eq_true, decide_eq_true_eq] at hy
      refine ⟨by decide, by simp [tname], ?_⟩
      refine ⟨by decide, by simp [tname], ⟨by decide, tx, ok_bl _ _, ok_bl _ _, ?_⟩⟩
      have ne : ∀ b : Bool, D.eqv (.bl true) (.bl b) = b := fun b => by cases b <;> rfl
      have nf : ∀ b : Bool, D.eqv (.bl false) (.bl b) = !b := fun b => by cases b <;> rfl
      show if (!D.eqv (.bl false) (.bl (isiB x "tuple"))) = true then _ else _
      rw [nf]
      refine iteB (fun c => ?_) (fun c => ?_)
      · exact k false fun q => absurd c (by rw [q]; simp [isiB, tname])
      · refine ⟨by decide, by simp [tname], ⟨by decide, tx, ok_bl _ _, ok_bl _ _, ?_⟩⟩
        show if (!D.eqv (.bl true) (.bl (isiB x "list"))) = true then _ else _
        rw [ne]
        refine iteB (fun c => ?_) (fun c => ?_)
        · exact k false fun q => absurd c (by rw [q]; simp [isiB, tname])
        · cases x with
          | lst xs =>
            simp only [D.lk, Bool.and_eq_true, decide_eq_true_eq] at hx
            exact like_len (x := .lst xs) (y := .lst ys) (xs := xs) (ys := ys) (fun _ _ h => h) (fun _ _ h => h) (fun _ h => h) (fun _ h => h) hy.1 hx.2 hy.2 (fun q => by cases q; rfl) k
          | _ => simp [D.lk, isiB, tname] at hx c
  | _ => simp [D.lk] at hy
end DL
set_option Elab.async false
set_option linter.all false
set_option maxRecDepth 100000
set_option maxHeartbeats 2000000
namespace DL
open PySem PySem.Spec PyProof.Rows L2 RT

theorem iteE {a b : Int} {A B : Prop} (h1 : a = b → A) (h2 : ¬ a = b → B) : if D.eqv (.int a) (.int b) = true then A else B := by
  rw [eqv_int]
  exact iteD h1 h2
theorem iteN {a b : Int} {A B : Prop} (h1 : ¬ a = b → A) (h2 : a = b → B) : if (!D.eqv (.int a) (.int b)) = true then A else B := by
  rw [eqv_int]
  by_cases h : a = b
  · rw [decide_eq_true h]; exact h2 h
  · rw [decide_eq_false h]; exact h1 h
theorem cutD_map {α β : Type} (f : α → β) (xs : List α) (lo hi : Option Int) : cutD (xs.map f) lo hi = (cutD xs lo hi).map f := by
  unfold cutD
  rw [List.length_map, List.map_take, List.map_drop]
theorem cutD_sub {α : Type} (xs : List α) (lo hi : Option Int) : (cutD xs lo hi).Sublist xs := (List.take_sublist _ _).trans (List.drop_sublist _ _)

/-! ### the dice's seed -/
def F_L_dice : DF := fun xs Φ => ∃ ns : List Int, xs = [.rd (ns.map D.int)] ∧ ns.length ≤ 63 ∧ ∀ m, 0 ≤ m → m < 2147483647 → Φ (.own [.rd (ns.map D.int), .int 0, .int m, .int 0])
/- slots of _law_dice: 0 _law_script, 1 _law_mixed, 2 _law_cell -/
def b_L_dice : DS := (dSeq (dSet 1 (dR (dC (.int 0))))
  (dSeq (dFor (diAny (dVar 0)) (dgName 2) (dSet 1 (dR (dOp modD (dV (dOpR addD (dV (dOpR addD (dV (dOpR mulD (dVar 1) (dC (.int 48271)))) (dV (dOpR mulD (dOp modD (dVar 2) (dC (.int 2147483647))) (dC (.int 69621)))))) (dC (.int 11)))) (dC (.int 2147483647))))))
  (dRet (dLst (dCons (dVar 0) (dCons (dC (.int 0)) (dCons (dV (dOpR mulD (dVar 1) (dV (dCB intD (dCons (dOp gtD (dV (dCB lenD (dCons (dVar 0) dNil))) (dC (.int 2))) dNil))))) (dCons (dC (.int 0)) dNil))))))))
theorem rd_L_dice : ∀ xs Φ, F_L_dice xs Φ → b_L_dice (rtV Φ) (slots xs 3) := by
  rintro xs Φ ⟨ns, rfl, hl, k⟩
  refine ⟨trivial, ?_⟩
  show dFor _ _ _ _ _
  refine for_inv' (ns.map D.int) (fun Ψ h => h) (fun rest ρ => ∃ (post : List Int) (m : Int) (s : Sl), rest = post.map D.int ∧ 0 ≤ m ∧ m < 2147483647 ∧ ρ = [.val (.rd (ns.map D.int)), .val (.int m), s] ∧ free [.val (.rd (ns.map D.int)), .val (.int m), s] 2)
    ⟨ns, 0, .un, rfl, by decide, by decide, rfl, trivial⟩ ?_ ?_
  · rintro d rest ρ ⟨post, m, s, e, m0, m1, rfl, fr⟩ K hK
    cases post with
    | nil => cases e
    | cons i post =>
      cases e
      refine ⟨fr, .inl ⟨by omega, by omega⟩, (by show (0 : Int) < 2147483647; decide), .inr ⟨by decide, by decide⟩, (by show (0 : Int) < 2147483647; decide), trivial, ?_⟩
      exact hK _ ⟨post, _, _, rfl, Int.emod_nonneg _ (by decide), Int.emod_lt_of_pos _ (by decide), rfl, trivial⟩
  · rintro ρ ⟨post, m, s, e, m0, m1, rfl, fr⟩
    show CMul _ _ ∧ _
    refine ⟨.inl ⟨by omega, by omega⟩, (by show 4 ≤ 1000000; decide), ?_⟩
    refine k _ ?_ ?_
    · split
      · omega
      · omega
    · split
      · omega
      · omega

/-! ### the signs' columns -/
def blockC (o : Col) : List Col := o :: (List.range 10).map fun f => ((f : Nat) : Int) :: o
def every : List Col := [([] : Col), [10], [11]].flatMap blockC
def F_L_columns : DF := fun xs Φ => xs = [] ∧ Φ (.val (.lst (every.map colD)))
/- slots of _law_columns: 0 _law_found, 1 _law_over, 2 _law_figure_here -/
def b_L_columns : DS := (dSeq (dSet 0 (dR (dV (dLst dNil))))
  (dSeq (dFor (diAny (dV (dLst (dCons (dTup dNil) (dCons (dTup (dCons (dC (.int 10)) dNil)) (dCons (dTup (dCons (dC (.int 11)) dNil)) dNil)))))) (dgName 1) (dSet 0 (dR (dV (dOpR addD (dV (dOpR addD (dVar 0) (dV (dLst (dCons (dVar 1) dNil))))) (dV (dLc (diRng1 (dC (.int 10))) (dgName 2) dYes (dV (dOpR addD (dTup (dCons (dVar 2) dNil)) (dVar 1))) [2])))))))
  (dRet (dR (dVar 0)))))
theorem rd_L_columns : ∀ xs Φ, F_L_columns xs Φ → b_L_columns (rtV Φ) (slots xs 3) := by
  rintro xs Φ ⟨rfl, k⟩
  refine ⟨by decide, trivial, ?_⟩
  show dFor _ _ _ _ _
  refine for_inv' ([([] : Col), [10], [11]].map colD) (fun Ψ h => ⟨by decide, by decide, by decide, by decide, h⟩) (fun rest ρ => ∃ (pre post : List Col) (s : Sl), [([] : Col), [10], [11]] = pre ++ post ∧ rest = post.map colD ∧ ρ = [.val (.lst ((pre.flatMap blockC).map colD)), s, .un] ∧ free [.val (.lst ((pre.flatMap blockC).map colD)), s, .un] 1)
    ⟨[], _, .un, rfl, rfl, rfl, trivial⟩ ?_ ?_
  · rintro d rest ρ ⟨pre, post, s, e1, e, rfl, fr⟩ K hK
    cases post with
    | nil => cases e
    | cons o post =>
      cases e
      have ho : o ∈ [([] : Col), [10], [11]] := by rw [e1]; exact List.mem_append_right _ List.mem_cons_self
      have ol : o.length ≤ 1 := by
        have : ∀ x ∈ [([] : Col), [10], [11]], x.length ≤ 1 := by decide
        exact this o ho
      have pl : pre.length ≤ 3 := by
        have := congrArg List.length e1
        rw [List.length_append] at this
        simp at this
        omega
      have bl : ((pre.flatMap blockC).map colD).length ≤ 33 := by
        rw [List.length_map, List.length_flatMap]
        have : ∀ l : List Col, (l.map fun x => (blockC x).length).sum = 11 * l.length := fun l => by
          induction l with
          | nil => rfl
          | cons x l ih =>
            rw [List.map_cons, List.sum_cons, ih, List.length_cons]
            simp [blockC]
            omega
        rw [this]
        omega
      refine ⟨fr, by simp, ?_⟩
      refine ⟨(by show _ + 1 ≤ 1000000; omega), ?_⟩
      refine lc_map (List.range 10) (fun f => .int f) (fun f => colD ((f : Int) :: o)) (fun Ψ h => ⟨by unfold inR; decide, h⟩) (by decide) (.inl rfl) (fun d _ Ψ h => ?_) ?_
      · exact ⟨by simp, (by show 1 + (o.map D.int).length ≤ 1000000; rw [List.length_map]; omega), h⟩
      · refine ⟨?_, trivial, ?_⟩
        · have hb : (pre.flatMap blockC).length ≤ 33 := by rw [List.length_map] at bl; exact bl
          simp only [List.length_append, List.length_map, List.length_range, List.length_cons, List.length_nil]
          omega
        · refine hK _ ⟨pre ++ [o], post, .val (colD o), (by rw [e1, List.append_assoc]; rfl), rfl, ?_, trivial⟩
          congr 2
          rw [List.flatMap_append, List.map_append, List.append_assoc]
          simp [blockC, Function.comp_def]
  · rintro ρ ⟨pre, post, s, e1, e, rfl, fr⟩
    have : post = [] := by
      cases post with
      | nil => rfl
      | cons _ _ => cases e
    subst this
    rw [List.append_nil] at e1
    subst e1
    exact k

/-! ### a card's column -/
def colAt (c : Card) (at_ : Int) : Col := c.getD at_.toNat []
def F_L_column : DF := fun xs Φ => ∃ (c : Card) (a : Int), xs = [cardD c, .int a] ∧ c.length ≤ 1000 ∧ 0 ≤ a ∧ a < 12 ∧ Φ (.val (colD (colAt c a)))
/- slots of _law_column: 0 _law_card, 1 _law_at -/
def b_L_column : DS := (dRet (dR (dOp ixD (dV (dOpR addD (dV (dCB listD (dCons (dVar 0) dNil))) (dV (dOpR mulD (dV (dLst (dCons (dTup dNil) dNil))) (dC (.int 12)))))) (dVar 1))))
theorem colAt_at {c : Card} {a : Int} (h0 : 0 ≤ a) (h1 : a < 12) : atI (c.map colD ++ (List.replicate 12 [D.tup []]).flatten) a = some (colD (colAt c a)) := by
  have e : a = ((a.toNat : Nat) : Int) := (Int.toNat_of_nonneg h0).symm
  rw [e]
  have hr : (List.replicate 12 [D.tup []]).flatten = List.replicate 12 (colD []) := rfl
  refine atI_nat ?_
  rw [hr]
  unfold colAt
  rw [Int.toNat_natCast]
  by_cases h : a.toNat < c.length
  · rw [List.getElem?_append_left (by rw [List.length_map]; exact h), List.getElem?_map, List.getElem?_eq_getElem h, List.getD_eq_getElem?_getD, List.getElem?_eq_getElem h]
    rfl
  · rw [List.getElem?_append_right (by rw [List.length_map]; omega), List.length_map, List.getElem?_replicate, if_pos (by omega), List.getD_eq_getElem?_getD, List.getElem?_eq_none (by omega)]
    rfl
theorem rd_L_column : ∀ xs Φ, F_L_column xs Φ → b_L_column (rtV Φ) (slots xs 2) := by
  rintro xs Φ ⟨c, a, rfl, hl, h0, h1, k⟩
  refine ⟨by decide, by decide, ?_⟩
  refine ⟨by decide, by decide, by decide, (by show (c.map colD).length + 12 ≤ 1000000; rw [List.length_map]; omega), ?_⟩
  show ixL (c.map colD ++ (List.replicate 12 [D.tup []]).flatten) (.int a) _
  unfold ixL
  dsimp only
  rw [colAt_at h0 h1]
  exact k
end DL
set_option Elab.async false
set_option linter.all false
set_option maxRecDepth 100000
set_option maxHeartbeats 2000000
namespace DL
open PySem PySem.Spec PyProof.Rows L2 RT

/-! ### palettes -/
def palD (p : List Col) : D := .lst (p.map colD)
def PalOk (p : List Col) : Prop := p ≠ [] ∧ p.Sublist every
theorem PalOk.len {p : List Col} (h : PalOk p) : p.length ≤ 33 := by
  have := h.2.length_le
  have e : every.length = 33 := by decide
  omega
theorem PalOk.pos {p : List Col} (h : PalOk p) : 0 < p.length := List.length_pos_iff.mpr h.1
/-- what the dice have left -/
def After (S S' : OT) : Prop := Dice S' ∧ S'.root = S.root
theorem After.trans {S S' S'' : OT} (h : After S S') (g : After S' S'') : After S S'' := ⟨g.1, g.2.trans h.2⟩
def F_L_palette : DFO := fun S xs Φ => Dice S ∧ xs = [] ∧ ∀ p S', PalOk p → After S S' → Φ (.own (p.map colD)) S' ∧ Φ (.val (palD p)) S'
/- slots of _law_palette: 0 _law_d, 1 _law_every, 2 _law_way, 3 _law_found, 4 _law_k, 5 _law_column_here -/
def b_L_palette : DS := (dSeq (dSet 1 (dR (dV (dCall F_L_columns dNil))))
  (dSeq (dSet 2 (dR (dV (dCallO F_L_next 0 (dCons (dC (.int 6)) dNil)))))
  (dSeq (dIfS (dTest (dOp eqD (dVar 2) (dC (.int 0)))) (dRet (dSl (dV (dLst (dCons (dTup dNil) (dCons (dTup (dCons (dC (.int 1)) dNil)) (dCons (dTup (dCons (dC (.int 2)) dNil)) dNil))))) (dPart (dV (dCallO F_L_next 0 (dCons (dC (.int 2)) dNil)))) dNoPart)) dNext)
  (dSeq (dIfS (dTest (dOp eqD (dVar 2) (dC (.int 1)))) (dRet (dSl (dVar 1) (dPart (dC (.int 1))) (dPart (dC (.int 11))))) dNext)
  (dSeq (dIfS (dTest (dOp eqD (dVar 2) (dC (.int 2)))) (dRet (dSl (dVar 1) (dPart (dV (dCallO F_L_next 0 (dCons (dC (.int 2)) dNil)))) (dPart (dV (dOpR addD (dC (.int 12)) (dV (dCallO F_L_next 0 (dCons (dC (.int 4)) dNil)))))))) dNext)
  (dSeq (dIfS (dTest (dOp eqD (dVar 2) (dC (.int 3)))) (dRet (dR (dVar 1))) dNext)
  (dSeq (dSet 3 (dR (dV (dLc (diRng1 (dV (dOpR addD (dC (.int 1)) (dV (dCallO F_L_next 0 (dCons (dC (.int 6)) dNil)))))) (dgName 4) dYes (dOp ixD (dVar 1) (dV (dCallO F_L_next 0 (dCons (dC (.int 33)) dNil)))) [4]))))
  (dRet (dLc (diAny (dVar 1)) (dgName 5) (dTest (dOp memV (dVar 5) (dVar 3))) (dVar 5) [5])))))))))
theorem rd_L_palette : ∀ S xs Φ, F_L_palette S xs Φ → b_L_palette (rtO S Φ) (.arg S :: slots xs 5) := by
  rintro S xs Φ ⟨dS, rfl, k⟩
  refine ⟨rfl, trivial, dS, 6, rfl, by decide, by decide, fun way S1 w0 w1 d1 r1 => ⟨trivial, ?_⟩⟩
  have a1 : After S S1 := ⟨d1, r1⟩
  refine ⟨ok_int _ _, ok_int _ _, iteE (fun c => ?_) (fun c => ?_)⟩
  · refine ⟨by simp, by simp, by simp, by simp, d1, 2, rfl, by decide, by decide, fun i S2 i0 i1 d2 r2 => ?_⟩
    have a2 := a1.trans ⟨d2, r2⟩
    obtain rfl | rfl : i = 0 ∨ i = 1 := by omega
    · exact ⟨a2.2, (k [[], [1], [2]] S2 ⟨by decide, by decide⟩ a2).1⟩
    · exact ⟨a2.2, (k [[1], [2]] S2 ⟨by decide, by decide⟩ a2).1⟩
  refine ⟨ok_int _ _, ok_int _ _, iteE (fun c => ?_) (fun c => ?_)⟩
  · have e : Φ (.own (cutD (every.map colD) (some 1) (some 11))) S1 := by
      rw [cutD_map]
      exact (k _ S1 ⟨by decide, cutD_sub _ _ _⟩ a1).1
    exact ⟨a1.2, e⟩
  refine ⟨ok_int _ _, ok_int _ _, iteE (fun c => ?_) (fun c => ?_)⟩
  · refine ⟨d1, 2, rfl, by decide, by decide, fun i S2 i0 i1 d2 r2 => ⟨d2, 4, rfl, by decide, by decide, fun j S3 j0 j1 d3 r3 => ?_⟩⟩
    have a3 := (a1.trans ⟨d2, r2⟩).trans ⟨d3, r3⟩
    have e : Φ (.own (cutD (every.map colD) (some i) (some (12 + j)))) S3 := by
      rw [cutD_map]
      refine (k _ S3 ⟨?_, cutD_sub _ _ _⟩ a3).1
      obtain rfl | rfl : i = 0 ∨ i = 1 := by omega
      all_goals (obtain rfl | rfl | rfl | rfl : j = 0 ∨ j = 1 ∨ j = 2 ∨ j = 3 := by omega) <;> decide
    exact ⟨a3.2, e⟩
  refine ⟨ok_int _ _, ok_int _ _, iteE (fun c => ?_) (fun c => ?_)⟩
  · exact ⟨a1.2, (k every S1 ⟨by decide, List.Sublist.refl _⟩ a1).2⟩
  refine lc_open ⟨d1, 6, rfl, by decide, by decide, fun n S2 n0 n1 d2 r2 => ?_⟩
  have a2 := a1.trans ⟨d2, r2⟩
  refine ⟨(by unfold inR; omega), by rw [rng_length]; omega, ⟨trivial, trivial⟩, ?_⟩
  refine lcL_inv (fun rest acc ρ => ∃ (ch : List Col) (S' : OT) (s : Sl), acc = ch.map colD ∧ (∀ c ∈ ch, c ∈ every) ∧ ch.length + rest.length = (1 + n).toNat ∧ After S S' ∧ ρ = [.arg S', .val (.lst (every.map colD)), .val (.int way), .un, s, .un]) ?_ ?_ ⟨[], S2, .un, rfl, (by simp), by rw [rng_length]; simp, a2, rfl⟩
  · rintro d rest acc ρ ⟨ch, S', s, rfl, hc, hl, a', rfl⟩ K hK
    refine ⟨trivial, ?_⟩
    refine ⟨a'.1, 33, rfl, by decide, by decide, fun i S3 i0 i1 d3 r3 => ?_⟩
    obtain ⟨x, hx, ex⟩ := atI_map colD every (i := i) i0 (by show i < ((33 : Nat) : Int); omega)
    have e : ∀ Ψ : D → Prop, Ψ (colD x) → ixL (every.map colD) (.int i) Ψ := fun Ψ h => by
      unfold ixL
      dsimp only
      rw [ex]
      exact h
    refine e _ ?_
    refine ⟨⟨trivial, trivial⟩, hK _ _ ⟨ch ++ [x], S3, _, by rw [List.map_append]; rfl, fun c hc' => ?_, by rw [List.length_append]; simp at hl ⊢; omega, a'.trans ⟨d3, r3⟩, rfl⟩⟩
    rcases List.mem_append.mp hc' with h | h
    · exact hc c h
    · rw [List.mem_singleton.mp h]; exact hx
  · rintro acc ρ ⟨ch, S', s, rfl, hc, hl, a', rfl⟩
    refine ⟨trivial, ?_⟩
    refine lc_pure every colD (fun c => decide (c ∈ ch)) colD (fun Ψ h => h) (by decide) (.inl rfl) (fun c hc Ψ h => ?_) (fun c hc _ Ψ h => h) ?_
    · refine ⟨ok_col _ _, okL_map colD fun c _ => ok_col c _, ?_⟩
      rw [any_map colD eqv_col]
      exact h
    · refine ⟨a'.2, (k _ S' ⟨?_, List.filter_sublist⟩ a').1⟩
      intro e
      cases ch with
      | nil =>
        simp at hl
        omega
      | cons c ch =>
        have := List.filter_eq_nil_iff.mp e c (hc c List.mem_cons_self)
        simp at this
end DL
set_option Elab.async false
set_option linter.all false
set_option maxRecDepth 100000
set_option maxHeartbeats 2000000
namespace DL
open PySem PySem.Spec PyProof.Rows L2 RT

theorem ixL_map {α : Type} (f : α → D) {xs : List α} {i : Int} (h0 : 0 ≤ i) (h1 : i < xs.length) {Ψ : D → Prop} (k : ∀ x ∈ xs, Ψ (f x)) : ixL (xs.map f) (.int i) Ψ := by
  obtain ⟨x, hx, ex⟩ := atI_map f xs h0 h1
  unfold ixL
  dsimp only
  rw [ex]
  exact k x hx
/-- a card of these palettes -/
def Pick : Card → List (List Col) → Prop
  | [], [] => True
  | c :: cs, p :: ps => c ∈ p ∧ Pick cs ps
  | _, _ => False
theorem Pick.snoc {c : Col} {p : List Col} (h : c ∈ p) : ∀ {cs : Card} {ps : List (List Col)}, Pick cs ps → Pick (cs ++ [c]) (ps ++ [p])
  | [], [], _ => ⟨h, trivial⟩
  | _ :: _, _ :: _, g => ⟨g.1, Pick.snoc h g.2⟩
  | [], _ :: _, g => g.elim
  | _ :: _, [], g => g.elim
theorem Pick.length : ∀ {cs : Card} {ps : List (List Col)}, Pick cs ps → cs.length = ps.length
  | [], [], _ => rfl
  | _ :: _, _ :: _, g => by rw [List.length_cons, List.length_cons, Pick.length g.2]
  | [], _ :: _, g => g.elim
  | _ :: _, [], g => g.elim
theorem Pick.mem {P : Col → Prop} : ∀ {cs : Card} {ps : List (List Col)}, Pick cs ps → (∀ p ∈ ps, ∀ c ∈ p, P c) → ∀ c ∈ cs, P c
  | [], [], _, _, c, h => nomatch h
  | x :: cs, p :: ps, g, k, c, h => by
    rcases List.mem_cons.mp h with e | h
    · rw [e]; exact k p List.mem_cons_self x g.1
    · exact Pick.mem g.2 (fun q hq => k q (List.mem_cons_of_mem _ hq)) c h
  | [], _ :: _, g, _, _, _ => g.elim
  | _ :: _, [], g, _, _, _ => g.elim
/-- a card of this office -/
def CardOk (c : Card) : Prop := c.length ≤ 12 ∧ ∀ x ∈ c, x ∈ every
theorem Pick.ok {c : Card} {ps : List (List Col)} (h : Pick c ps) (hl : ps.length ≤ 12) (hp : ∀ p ∈ ps, PalOk p) : CardOk c :=
  ⟨by rw [h.length]; exact hl, h.mem fun p hp' c hc => (hp p hp').2.subset hc⟩
def F_L_deck : DFO := fun S xs Φ => Dice S ∧ ∃ (ps : List (List Col)) (most : Int), xs = [.lst (ps.map palD), .int most] ∧ ps.length ≤ 12 ∧ (∀ p ∈ ps, PalOk p) ∧ 0 ≤ most ∧ most ≤ 900 ∧
  ∀ (d : List Card) S', d.length ≤ most → (∀ c ∈ d, Pick c ps) → After S S' → Φ (.own (d.map cardD)) S'
/- slots of _law_deck: 0 _law_d, 1 _law_palettes_here, 2 _law_most, 3 _law_deck_here, 4 _law_k, 5 _law_palette_here -/
def b_L_deck : DS := (dSeq (dSet 3 (dLst dNil))
  (dSeq (dFor (diRng1 (dV (dCallO F_L_next 0 (dCons (dV (dOpR addD (dVar 2) (dC (.int 1)))) dNil)))) (dgName 4) (dDrop (dApp 3 (dV (dCB tupleD (dCons (dV (dLc (diAny (dVar 1)) (dgName 5) dYes (dOp ixD (dVar 5) (dV (dCallO F_L_next 0 (dCons (dV (dCB lenD (dCons (dVar 5) dNil))) dNil)))) [5])) dNil))))))
  (dRetM 3)))
theorem rd_L_deck : ∀ S xs Φ, F_L_deck S xs Φ → b_L_deck (rtO S Φ) (.arg S :: slots xs 5) := by
  rintro S xs Φ ⟨dS, ps, most, rfl, hp, hpo, m0, m1, k⟩
  refine ⟨by simp, trivial, ?_⟩
  refine for_open ⟨dS, most + 1, rfl, by omega, by omega, fun n S1 n0 n1 d1 r1 => ⟨(by unfold inR; omega), ?_⟩⟩
  refine forL_inv (fun rest ρ => ∃ (d : List Card) (S' : OT) (s : Sl), d.length + rest.length = n.toNat ∧ (∀ c ∈ d, Pick c ps) ∧ After S S' ∧ ρ = [.arg S', .val (.lst (ps.map palD)), .val (.int most), .own (d.map cardD), s, .un] ∧ free [.arg S', .val (.lst (ps.map palD)), .val (.int most), .own (d.map cardD), s, .un] 4) ?_ ?_ ⟨[], S1, .un, by rw [rng_length]; simp, by simp, ⟨d1, r1⟩, rfl, trivial⟩
  · rintro x rest ρ ⟨d, S', s, hl, hd, a', rfl, fr⟩ K hK
    rw [List.length_cons] at hl
    refine ⟨fr, ?_⟩
    refine lc_open ⟨by rw [List.length_map]; omega, ⟨trivial, trivial⟩, ?_⟩
    refine lcL_inv (fun rest' acc ρ => ∃ (pre post : List (List Col)) (c : Card) (S2 : OT) (s' : Sl), ps = pre ++ post ∧ rest' = post.map palD ∧ acc = c.map colD ∧ Pick c pre ∧ After S S2 ∧ ρ = [.arg S2, .val (.lst (ps.map palD)), .val (.int most), .own (d.map cardD), .val x, s']) ?_ ?_
      ⟨[], ps, [], S', .un, rfl, rfl, rfl, trivial, a', rfl⟩
    · rintro y rest' acc ρ ⟨pre, post, c, S2, s', e1, e2, rfl, pc, a2, rfl⟩ K' hK'
      cases post with
      | nil => cases e2
      | cons p post =>
        cases e2
        have pok := hpo p (by rw [e1]; exact List.mem_append_right _ List.mem_cons_self)
        have pl := pok.len
        have pp := pok.pos
        refine ⟨trivial, ?_⟩
        refine ⟨a2.1, ((p.map colD).length : Int), rfl, by rw [List.length_map]; omega, by rw [List.length_map]; omega, fun i S3 i0 i1 d3 r3 => ?_⟩
        rw [List.length_map] at i1
        refine ixL_map colD i0 i1 fun z hz => ?_
        exact ⟨⟨trivial, trivial⟩, hK' _ _ ⟨pre ++ [p], post, c ++ [z], S3, _, by rw [e1, List.append_assoc]; rfl, rfl, by rw [List.map_append]; rfl, pc.snoc hz, a2.trans ⟨d3, r3⟩, rfl⟩⟩
    · rintro acc ρ ⟨pre, post, c, S2, s', e1, e2, rfl, pc, a2, rfl⟩
      have : post = [] := by
        cases post with
        | nil => rfl
        | cons _ _ => cases e2
      subst this
      rw [List.append_nil] at e1
      subst e1
      refine ⟨by rw [List.length_map]; omega, ?_⟩
      refine hK _ ⟨d ++ [c], S2, .val x, by rw [List.length_append]; simp; omega, fun z hz => ?_, a2, ?_, trivial⟩
      · rcases List.mem_append.mp hz with h | h
        · exact hd z h
        · rw [List.mem_singleton.mp h]; exact pc
      · rw [List.map_append]
        rfl
  · rintro ρ ⟨d, S', s, hl, hd, a', rfl, fr⟩
    exact ⟨a'.2, k d S' (by simp at hl; omega) hd a'⟩
def F_L_palettes : DFO := fun S xs Φ => Dice S ∧ xs = [] ∧ ∀ (ps : List (List Col)) S', 1 ≤ ps.length → ps.length ≤ 12 → (∀ p ∈ ps, PalOk p) → After S S' → Φ (.own (ps.map palD)) S'
/- slots of _law_palettes: 0 _law_d, 1 _law_k -/
def b_L_palettes : DS := (dRet (dLc (diRng1 (dOp ixD (dV (dLst (dCons (dV (dOpR addD (dC (.int 1)) (dV (dCallO F_L_next 0 (dCons (dC (.int 5)) dNil))))) (dCons (dC (.int 12)) dNil)))) (dV (dCB intD (dCons (dOp eqD (dV (dCallO F_L_next 0 (dCons (dC (.int 8)) dNil))) (dC (.int 7))) dNil))))) (dgName 1) dYes (dV (dCallO F_L_palette 0 dNil)) [1]))
theorem rd_L_palettes : ∀ S xs Φ, F_L_palettes S xs Φ → b_L_palettes (rtO S Φ) (.arg S :: slots xs 1) := by
  rintro S xs Φ ⟨dS, rfl, k⟩
  refine lc_open ⟨dS, 5, rfl, by decide, by decide, fun n S1 n0 n1 d1 r1 => ⟨by simp, d1, 8, rfl, by decide, by decide, fun m S2 m0 m1 d2 r2 => ⟨ok_int _ _, ok_int _ _, ?_⟩⟩⟩
  have a2 : After S S2 := After.trans ⟨d1, r1⟩ ⟨d2, r2⟩
  rw [eqv_int]
  have main : ∀ j : Int, 1 ≤ j → j ≤ 12 → dLcL [1] (dgName 1) dYes (dV (dCallO F_L_palette 0 dNil)) (rng j.toNat 0 1) [] [.arg S2, .un] fun acc ρ2 => (rtO S Φ).rt (.own acc) (restR [.arg S2, .un] ρ2 [1]) := by
    intro j j0 j1
    refine lcL_inv (fun rest acc ρ => ∃ (ps : List (List Col)) (S' : OT) (s : Sl), acc = ps.map palD ∧ (∀ p ∈ ps, PalOk p) ∧ ps.length + rest.length = j.toNat ∧ After S S' ∧ ρ = [.arg S', s]) ?_ ?_ ⟨[], S2, .un, rfl, by simp, by rw [rng_length]; simp, a2, rfl⟩
    · rintro x rest acc ρ ⟨ps, S', s, rfl, hp, hl, a', rfl⟩ K hK
      refine ⟨trivial, ?_⟩
      refine ⟨a'.1, rfl, fun p S3 hp3 a3 => ?_⟩
      have h : ∀ r, r = Sl.own (p.map colD) ∨ r = Sl.val (palD p) → asD (fun y ρ4 => clean ρ4 [1] ∧ K (ps.map palD ++ [y]) ρ4) r [.arg S3, .val x] := by
        have : ∀ y, y = palD p → clean [.arg S3, .val x] [1] ∧ K (ps.map palD ++ [y]) [.arg S3, .val x] := fun y ey => by
          refine ⟨⟨trivial, trivial⟩, hK _ _ ⟨ps ++ [p], S3, _, by rw [List.map_append, ey]; rfl, fun q hq => ?_, by rw [List.length_append]; simp at hl ⊢; omega, a'.trans a3, rfl⟩⟩
          rcases List.mem_append.mp hq with h | h
          · exact hp q h
          · rw [List.mem_singleton.mp h]; exact hp3
        rintro r (rfl | rfl)
        · exact this _ rfl
        · exact this _ rfl
      exact ⟨h _ (.inl rfl), h _ (.inr rfl)⟩
    · rintro acc ρ ⟨ps, S', s, rfl, hp, hl, a', rfl⟩
      have hl' : ps.length = j.toNat := by simpa using hl
      exact ⟨a'.2, k ps S' (by omega) (by omega) hp a'⟩
  by_cases c : m = 7
  · rw [decide_eq_true c]
    exact ⟨(by unfold inR; decide), by decide, ⟨trivial, trivial⟩, main 12 (by decide) (by decide)⟩
  · rw [decide_eq_false c]
    refine ⟨(by unfold inR; omega), by rw [rng_length]; omega, ⟨trivial, trivial⟩, main (1 + n) (by omega) (by omega)⟩
end DL
set_option Elab.async false
set_option linter.all false
set_option maxRecDepth 100000
set_option maxHeartbeats 2000000
namespace DL
open PySem PySem.Spec PyProof.Rows L2 RT

theorem papp_ix {ρ : List Sl} {i : Nat} {dk de : DE} {Φ : Sl → List Sl → Prop} {q r : Addr} {ts xs : List OT} {j : Nat} {x : D} (hs : ρ[i]? = some (.loc (.lst q ts))) (hk : ∀ Ψ : D → List Sl → Prop, Ψ (.int (j : Nat)) ρ → dk ρ Ψ) (hj : ts[j]? = some (.lst r xs))
    (he : ∀ Ψ : D → List Sl → Prop, Ψ x ρ → de ρ Ψ) (hl : xs.length ≤ 1000000) (k : Φ (.val .non) (ρ.set i (.loc (.lst q (ts.set j (.lst r (xs ++ [.val x]))))))) : dPApp (dpIx (dpVar i) dk) de ρ Φ := by
  have g1 : OT.get (.lst q ts) [.ix j] = some (.lst r xs) := by
    unfold OT.get
    rw [hj]
    unfold OT.get
    rfl
  have g2 : OT.put (.lst q ts) [.ix j] (.lst r (xs ++ [.val x])) = .lst q (ts.set j (.lst r (xs ++ [.val x]))) := by
    unfold OT.put
    rw [hj]
    unfold OT.put
    rfl
  unfold dPApp dpIx dpVar
  rw [hs]
  refine hk _ ?_
  rw [hs]
  show nodeRoot (.lst q ts) (.lst q ts) ∧ 0 ≤ ((j : Nat) : Int) ∧ match ts[((j : Nat) : Int).toNat]? with | some y => _ | none => _
  rw [Int.toNat_natCast, hj]
  refine ⟨⟨rfl, rfl⟩, Int.natCast_nonneg _, trivial, he _ ?_⟩
  rw [hs]
  show match OT.get (.lst q ts) [.ix j] with | some (.lst p xs) => _ | _ => _
  rw [g1]
  refine ⟨rfl, hl, ?_⟩
  show Φ _ (ρ.set i (.loc (OT.put (.lst q ts) [.ix j] (.lst r (xs ++ [.val x])))))
  rw [g2]
  exact k

/-! ### the program's column_of, pocket_of -/
theorem colAt_lt {c : Card} {a : Int} (h0 : 0 ≤ a) (h1 : a < c.length) : atI (c.map colD) a = some (colD (colAt c a)) := by
  have e : a = ((a.toNat : Nat) : Int) := (Int.toNat_of_nonneg h0).symm
  rw [e]
  refine atI_nat ?_
  unfold colAt
  rw [Int.toNat_natCast, List.getElem?_map, List.getD_eq_getElem?_getD, List.getElem?_eq_getElem (by omega)]
  rfl
theorem colAt_ge {c : Card} {a : Int} (h1 : ¬ a < c.length) : colAt c a = [] := by
  unfold colAt
  rw [List.getD_eq_getElem?_getD, List.getElem?_eq_none (by omega)]
  rfl
theorem colAt_mem {c : Card} {a : Int} {P : Col → Prop} (h : ∀ x ∈ c, P x) (h0 : P []) : P (colAt c a) := by
  unfold colAt
  rw [List.getD_eq_getElem?_getD]
  by_cases hl : a.toNat < c.length
  · rw [List.getElem?_eq_getElem hl]
    exact h _ (List.getElem_mem hl)
  · rw [List.getElem?_eq_none (by omega)]
    exact h0
theorem CardOk.col {c : Card} (h : CardOk c) (a : Int) : colAt c a ∈ every := colAt_mem h.2 (by decide)
def F_column_of : DF := fun xs Φ => ∃ (c : Card) (a : Int), xs = [cardD c, .int a] ∧ 0 ≤ a ∧ Φ (.val (colD (colAt c a)))
/- slots of column_of: 0 card, 1 at -/
def b_column_of : DS := (dSeq (dIfS (dTest (dOp ltD (dVar 1) (dV (dCB lenD (dCons (dVar 0) dNil))))) (dRet (dR (dOp ixD (dVar 0) (dVar 1)))) dNext)
  (dRet (dR (dTup dNil))))
theorem rd_column_of : ∀ xs Φ, F_column_of xs Φ → b_column_of (rtV Φ) (slots xs 2) := by
  rintro xs Φ ⟨c, a, rfl, h0, k⟩
  refine iteD (fun h => ?_) (fun h => ?_)
  · have e : ixL (c.map colD) (.int a) fun z => Φ (.val z) := by
      unfold ixL
      dsimp only
      rw [colAt_lt h0 (by rw [List.length_map] at h; exact h)]
      exact k
    exact e
  · refine ⟨by decide, ?_⟩
    rw [colAt_ge (by rw [List.length_map] at h; exact h)] at k
    exact k
/-- the first of these in a column, and one more; 0 for none -/
def firstIn (ps : List Int) : Col → Int
  | [] => 0
  | x :: r => if x ∈ ps then x + 1 else firstIn ps r
theorem firstIn_rng {ps : List Int} {n : Int} (h0 : 0 ≤ n) : ∀ {c : Col}, (∀ x ∈ c, 0 ≤ x ∧ x < n) → 0 ≤ firstIn ps c ∧ firstIn ps c ≤ n
  | [], _ => ⟨Int.le_refl _, h0⟩
  | x :: r, h => by
    unfold firstIn
    have hx := h x List.mem_cons_self
    split
    · omega
    · exact firstIn_rng h0 fun y hy => h y (List.mem_cons_of_mem _ hy)
theorem every_holes : ∀ c ∈ every, ∀ x ∈ c, 0 ≤ x ∧ x < 12 := by decide
def pocketOf (c : Card) (a : Int) (ps : List Int) : Int := firstIn ps (colAt c a)
theorem pocketOf_rng {c : Card} {a : Int} {ps : List Int} (h : CardOk c) : 0 ≤ pocketOf c a ps ∧ pocketOf c a ps ≤ 12 := firstIn_rng (by decide) (every_holes _ (h.col a))
def F_pocket_of : DF := fun xs Φ => ∃ (c : Card) (a : Int) (ps : List Int), xs = [cardD c, .int a, .tup (ps.map D.int)] ∧ 0 ≤ a ∧ Φ (.val (.int (pocketOf c a ps)))
/- slots of pocket_of: 0 card, 1 column, 2 places, 3 place -/
def b_pocket_of : DS := (dSeq (dFor (diAny (dV (dCall F_column_of (dCons (dVar 0) (dCons (dVar 1) dNil))))) (dgName 3) (dIfS (dTest (dOp memV (dVar 3) (dVar 2))) (dRet (dOpR addD (dVar 3) (dC (.int 1)))) dNext))
  (dRet (dR (dC (.int 0)))))
theorem rd_pocket_of : ∀ xs Φ, F_pocket_of xs Φ → b_pocket_of (rtV Φ) (slots xs 4) := by
  rintro xs Φ ⟨c, a, ps, rfl, h0, k⟩
  refine for_open ⟨c, a, rfl, h0, ?_⟩
  refine forL_inv (fun rest ρ => ∃ (r : Col) (s : Sl), rest = r.map D.int ∧ Φ (.val (.int (firstIn ps r))) ∧ ρ = [.val (cardD c), .val (.int a), .val (.tup (ps.map D.int)), s] ∧ free [.val (cardD c), .val (.int a), .val (.tup (ps.map D.int)), s] 3) ?_ ?_ ⟨colAt c a, .un, rfl, k, rfl, trivial⟩
  · rintro d rest ρ ⟨r, s, e, k, rfl, fr⟩ K hK
    cases r with
    | nil => cases e
    | cons x r =>
      cases e
      refine ⟨fr, ok_int _ _, okL_map D.int fun _ _ => ok_int _ _, ?_⟩
      rw [any_map D.int eqv_int]
      unfold firstIn at k
      refine iteD (fun h => ?_) (fun h => ?_)
      · rw [if_pos h] at k
        exact k
      · rw [if_neg h] at k
        exact hK _ ⟨r, .val (.int x), rfl, k, rfl, trivial⟩
  · rintro ρ ⟨r, s, e, k, rfl, fr⟩
    cases r with
    | nil => exact k
    | cons x r => cases e

/-! ### pockets, passed, sorted_by -/
structure Pass where
  col : Int
  places : List Int
  falling : Bool
deriving DecidableEq
def passD (p : Pass) : D := .tup [.int p.col, .tup (p.places.map D.int), .bl p.falling]
def PassOk (p : Pass) : Prop := 0 ≤ p.col ∧ p.col < 12
def pocket (d : List Card) (p : Pass) (k : Nat) : List Card := d.filter fun c => decide (pocketOf c p.col p.places = (k : Int))
def pockets (d : List Card) (p : Pass) : List (List Card) := (List.range 13).map (pocket d p)
def rowT (x : Addr × List Card) : OT := .lst x.1 (x.2.map fun c => .val (cardD c))
def F_pockets : DF := fun xs Φ => ∃ (d : List Card) (p : Pass), xs = [deckD d, passD p] ∧ d.length ≤ 1000 ∧ (∀ c ∈ d, CardOk c) ∧ PassOk p ∧ ∀ (q : Addr) (qs : List Addr), qs.length = 13 → Φ (.loc (.lst q ((qs.zip (pockets d p)).map rowT)))
/- slots of pockets: 0 deck, 1 one, 2 column, 3 places, 4 falling, 5 found, 6 card, 7 pocket -/
def b_pockets : DS := (dSeq (dAsg (dVar 1) (dgTup 3 (dgCons (dgName 2) (dgCons (dgName 3) (dgCons (dgName 4) dgNil)))))
  (dSeq (dSet 5 (dLcO (diRng1 (dC (.int 13))) (dgName 7) (dLst dNil) [7]))
  (dSeq (dFor (diAny (dVar 0)) (dgName 6) (dDrop (dPApp (dpIx (dpVar 5) (dV (dCall F_pocket_of (dCons (dVar 6) (dCons (dVar 2) (dCons (dVar 3) dNil)))))) (dVar 6))))
  (dRetM 5))))
theorem lcO_open {vs : List Nat} {di : DI} {g : DG} {te : DR} {ρ : List Sl} {Φ : Sl → List Sl → Prop} (h : di ρ fun ds ρ1 => ds.length ≤ 1000000 ∧ clean ρ1 vs ∧ dLcOL vs g te ds [] ρ1 fun acc ρ2 => ∀ p, Φ (.loc (.lst p acc)) (restR ρ1 ρ2 vs)) : dLcO di g te vs ρ Φ := by
  unfold dLcO
  exact h
theorem lcOL_inv {vs : List Nat} {g : DG} {te : DR} {Φ : List OT → List Sl → Prop} (I : List D → List OT → List Sl → Prop)
    (step : ∀ d rest acc ρ, I (d :: rest) acc ρ → ∀ K : List OT → List Sl → Prop, (∀ acc' ρ', I rest acc' ρ' → K acc' ρ') → g d (wipeR ρ vs) fun ρ2 => te ρ2 (asT fun t ρ4 => clean ρ4 vs ∧ K (acc ++ [t]) ρ4))
    (done : ∀ acc ρ, I [] acc ρ → Φ acc ρ) : ∀ {ds : List D} {acc : List OT} {ρ : List Sl}, I ds acc ρ → dLcOL vs g te ds acc ρ Φ
  | [], acc, ρ, h => done acc ρ h
  | d :: rest, acc, ρ, h => step d rest acc ρ h (fun acc' ρ' => dLcOL vs g te rest acc' ρ' Φ) fun acc' ρ' h' => lcOL_inv I step done h'
theorem pocket_snoc (d : List Card) (p : Pass) (c : Card) (k : Nat) : pocket (d ++ [c]) p k = if pocketOf c p.col p.places = (k : Int) then pocket d p k ++ [c] else pocket d p k := by
  unfold pocket
  rw [List.filter_append]
  by_cases h : pocketOf c p.col p.places = (k : Int)
  · rw [if_pos h, List.filter_cons_of_pos (by simp [h])]
    rfl
  · rw [if_neg h, List.filter_cons_of_neg (by simp [h])]
    simp
theorem zip_get {α β : Type} {as : List α} {bs : List β} {k : Nat} {a : α} {b : β} (h1 : as[k]? = some a) (h2 : bs[k]? = some b) : (as.zip bs)[k]? = some (a, b) := by
  rw [List.getElem?_zip_eq_some]
  exact ⟨h1, h2⟩
theorem pockets_get (d : List Card) (p : Pass) {k : Nat} (h : k < 13) : (pockets d p)[k]? = some (pocket d p k) := by
  unfold pockets
  rw [List.getElem?_map, List.getElem?_range h]
  rfl
theorem pockets_set (d : List Card) (p : Pass) (c : Card) (qs : List Addr) (hq : qs.length = 13) {k : Nat} (hk : pocketOf c p.col p.places = (k : Int)) (q : Addr) (e : qs[k]? = some q) :
    ((qs.zip (pockets d p)).map rowT).set k (.lst q ((pocket d p k).map (fun c => OT.val (cardD c)) ++ [.val (cardD c)])) = (qs.zip (pockets (d ++ [c]) p)).map rowT := by
  refine List.ext_getElem? fun j => ?_
  have lz : ∀ d, (qs.zip (pockets d p)).length = 13 := fun d => by
    rw [List.length_zip, hq]
    simp [pockets]
  by_cases hj : j < 13
  · have hqj : qs[j]? = some qs[j] := List.getElem?_eq_getElem (by omega)
    by_cases hjk : j = k
    · subst hjk
      rw [List.getElem?_set_self (by rw [List.length_map, lz]; exact hj), List.getElem?_map, zip_get e (pockets_get _ p hj), pocket_snoc, if_pos hk]
      simp [rowT]
    · rw [List.getElem?_set_ne (Ne.symm hjk), List.getElem?_map, List.getElem?_map, zip_get hqj (pockets_get _ p hj), zip_get hqj (pockets_get _ p hj), pocket_snoc, if_neg (by omega)]
  · rw [List.getElem?_eq_none (by rw [List.length_set, List.length_map, lz]; omega), List.getElem?_eq_none (by rw [List.length_map, lz]; omega)]
theorem rd_pockets : ∀ xs Φ, F_pockets xs Φ → b_pockets (rtV Φ) (slots xs 8) := by
  rintro xs Φ ⟨d, ⟨col, places, falling⟩, rfl, hl, hd, ⟨c0, c1⟩, k⟩
  refine ⟨rfl, trivial, trivial, trivial, ?_⟩
  refine lcO_open ⟨(by unfold inR; decide), by decide, ⟨trivial, trivial⟩, ?_⟩
  refine lcOL_inv (fun rest acc ρ => ∃ (qs : List Addr) (s : Sl), acc = qs.map (fun q => OT.lst q []) ∧ qs.length + rest.length = 13 ∧ ρ = [.val (deckD d), .val (passD ⟨col, places, falling⟩), .val (.int col), .val (.tup (places.map D.int)), .val (.bl falling), .un, .un, s]) ?_ ?_
    ⟨[], .un, rfl, rfl, rfl⟩
  · rintro x rest acc ρ ⟨qs, s, rfl, hl, rfl⟩ K hK
    refine ⟨trivial, by decide, fun q => ⟨⟨trivial, trivial⟩, hK _ _ ⟨qs ++ [q], _, by rw [List.map_append]; rfl, by rw [List.length_append]; simp at hl ⊢; omega, rfl⟩⟩⟩
  · rintro acc ρ ⟨qs, s, rfl, hq, rfl⟩ q
    have hq13 : qs.length = 13 := by simpa using hq
    refine ⟨trivial, ?_⟩
    refine for_open ?_
    have init : qs.map (fun q => OT.lst q []) = (qs.zip (pockets [] ⟨col, places, falling⟩)).map rowT := by
      refine List.ext_getElem? fun j => ?_
      by_cases hj : j < 13
      · have hqj : qs[j]? = some qs[j] := List.getElem?_eq_getElem (by omega)
        rw [List.getElem?_map, hqj, List.getElem?_map, zip_get hqj (pockets_get _ _ hj)]
        rfl
      · rw [List.getElem?_eq_none (by rw [List.length_map]; omega), List.getElem?_eq_none (by rw [List.length_map, List.length_zip]; omega)]
    show dForL _ _ _ (d.map cardD) _
    rw [init]
    refine forL_inv (fun rest ρ => ∃ (pre post : List Card) (s : Sl), d = pre ++ post ∧ rest = post.map cardD ∧ ρ = [.val (deckD d), .val (passD ⟨col, places, falling⟩), .val (.int col), .val (.tup (places.map D.int)), .val (.bl falling), .loc (.lst q ((qs.zip (pockets pre ⟨col, places, falling⟩)).map rowT)), s, .un] ∧
      free [.val (deckD d), .val (passD ⟨col, places, falling⟩), .val (.int col), .val (.tup (places.map D.int)), .val (.bl falling), .loc (.lst q ((qs.zip (pockets pre ⟨col, places, falling⟩)).map rowT)), s, .un] 6) ?_ ?_ ⟨[], d, .un, rfl, rfl, rfl, trivial⟩
    · rintro x rest ρ ⟨pre, post, s, e1, e2, rfl, fr⟩ K hK
      cases post with
      | nil => cases e2
      | cons c post =>
        cases e2
        have hc : CardOk c := hd c (by rw [e1]; exact List.mem_append_right _ List.mem_cons_self)
        have hr := pocketOf_rng (a := col) (ps := places) hc
        have hk : pocketOf c col places = ((pocketOf c col places).toNat : Int) := (Int.toNat_of_nonneg hr.1).symm
        have hlt : (pocketOf c col places).toNat < 13 := by omega
        generalize (pocketOf c col places).toNat = j at hk hlt
        refine ⟨fr, ?_⟩
        have hqj : qs[j]? = some qs[j] := List.getElem?_eq_getElem (by omega)
        have hget : ((qs.zip (pockets pre ⟨col, places, falling⟩)).map rowT)[j]? = some (.lst qs[j] ((pocket pre ⟨col, places, falling⟩ j).map fun c => .val (cardD c))) := by
          rw [List.getElem?_map, zip_get hqj (pockets_get _ _ hlt)]
          rfl
        refine papp_ix (x := cardD c) rfl (fun Ψ h => ⟨c, col, places, rfl, c0, by rw [hk]; exact h⟩) hget (fun Ψ h => h) ?_ ?_
        · have := List.length_filter_le (fun c => decide (pocketOf c col places = (j : Int))) pre
          rw [List.length_map]
          have hpl : pre.length ≤ d.length := by rw [e1, List.length_append]; omega
          exact Nat.le_trans this (by omega)
        · refine hK _ ⟨pre ++ [c], post, .val (cardD c), by rw [e1, List.append_assoc]; rfl, rfl, ?_, trivial⟩
          rw [← pockets_set pre ⟨col, places, falling⟩ c qs hq13 hk qs[j] hqj]
          rfl
    · rintro ρ ⟨pre, post, s, e1, e2, rfl, fr⟩
      have : post = [] := by
        cases post with
        | nil => rfl
        | cons _ _ => cases e2
      subst this
      rw [List.append_nil] at e1
      subst e1
      exact k q qs hq13

/-! ### passed -/
def passedL (d : List Card) (p : Pass) : List Card := (if p.falling = true then (pockets d p).reverse else pockets d p).flatten
theorem parts_perm {α : Type} (l : List α) (f : α → Int) : ∀ n : Nat, (((List.range n).map fun (k : Nat) => l.filter fun x => decide (f x = (k : Int))).flatten).Perm (l.filter fun x => decide (0 ≤ f x ∧ f x < (n : Int)))
  | 0 => by
    have : (l.filter fun x => decide (0 ≤ f x ∧ f x < ((0 : Nat) : Int))) = [] := List.filter_eq_nil_iff.mpr fun x _ => by
      simp only [decide_eq_true_eq]
      omega
    rw [this]
    exact List.Perm.refl _
  | n + 1 => by
    rw [List.range_succ, List.map_append, List.flatten_append]
    simp only [List.map_cons, List.map_nil, List.flatten_cons, List.flatten_nil, List.append_nil]
    refine (List.Perm.append_right _ (parts_perm l f n)).trans ?_
    have h := List.filter_append_perm (fun x => decide (f x < (n : Int))) (l.filter fun x => decide (0 ≤ f x ∧ f x < ((n + 1 : Nat) : Int)))
    rw [List.filter_filter, List.filter_filter] at h
    refine List.Perm.trans (List.Perm.of_eq ?_) h
    congr 1
    · congr 1
      funext x
      rw [Bool.eq_iff_iff]
      simp
      omega
    · congr 1
      funext x
      rw [Bool.eq_iff_iff]
      simp
      omega
theorem pockets_perm {d : List Card} {p : Pass} (hd : ∀ c ∈ d, CardOk c) : (pockets d p).flatten.Perm d := by
  refine (parts_perm d (fun c => pocketOf c p.col p.places) 13).trans (List.Perm.of_eq ?_)
  refine List.filter_eq_self.mpr fun c hc => ?_
  have := pocketOf_rng (a := p.col) (ps := p.places) (hd c hc)
  simp
  omega
theorem passed_perm {d : List Card} {p : Pass} (hd : ∀ c ∈ d, CardOk c) : (passedL d p).Perm d := by
  unfold passedL
  split
  · exact (List.Perm.flatten (List.reverse_perm _)).trans (pockets_perm hd)
  · exact pockets_perm hd
theorem toDs_row : ∀ xs : List (Addr × List Card), OT.toDs (xs.map rowT) = some (xs.map fun x => deckD x.2)
  | [] => rfl
  | (q, r) :: xs => by
    have e : ∀ l : List Card, OT.toDs (l.map fun c => OT.val (cardD c)) = some (l.map cardD) := fun l => by
      induction l with
      | nil => rfl
      | cons c l ih => rw [List.map_cons, OT.toDs, ih]; rfl
    rw [List.map_cons, OT.toDs, toDs_row xs]
    have e2 : (rowT (q, r)).toD = some (deckD r) := by
      show (OT.lst q (r.map fun c => OT.val (cardD c))).toD = _
      rw [OT.toD, e]
      rfl
    rw [e2]
    rfl
theorem toD_pockets {q : Addr} {qs : List Addr} {rows : List (List Card)} (h : qs.length = rows.length) : OT.toD (.lst q ((qs.zip rows).map rowT)) = some (.lst (rows.map deckD)) := by
  rw [OT.toD, toDs_row]
  have : (qs.zip rows).map (fun x => deckD x.2) = rows.map deckD := by
    have e := List.map_map (g := deckD) (f := Prod.snd) (l := qs.zip rows)
    rw [List.map_snd_zip (by omega)] at e
    exact e.symm
  rw [this]
def F_passed : DF := fun xs Φ => ∃ (d : List Card) (p : Pass), xs = [deckD d, passD p] ∧ d.length ≤ 1000 ∧ (∀ c ∈ d, CardOk c) ∧ PassOk p ∧ Φ (.own ((passedL d p).map cardD))
/- slots of passed: 0 deck, 1 one, 2 column, 3 places, 4 falling, 5 found, 6 rows, 7 row -/
def b_passed : DS := (dSeq (dAsg (dVar 1) (dgTup 3 (dgCons (dgName 2) (dgCons (dgName 3) (dgCons (dgName 4) dgNil)))))
  (dSeq (dSet 5 (dLst dNil))
  (dSeq (dSet 6 (dR (dV (dCall F_pockets (dCons (dVar 0) (dCons (dVar 1) dNil))))))
  (dSeq (dIfS (dTest (dVar 4)) (dSet 6 (dR (dV (dRevL (dVar 6))))) dNext)
  (dSeq (dFor (diAny (dVar 6)) (dgName 7) (dDrop (dExt 5 (dVar 7))))
  (dRetM 5))))))
theorem flatten_len {α : Type} {n : Nat} : ∀ {rows : List (List α)}, (∀ r ∈ rows, r.length ≤ n) → rows.flatten.length ≤ rows.length * n
  | [], _ => by simp
  | r :: rows, h => by
    have h1 := h r List.mem_cons_self
    have h2 := flatten_len (rows := rows) fun x hx => h x (List.mem_cons_of_mem _ hx)
    rw [List.flatten_cons, List.length_append, List.length_cons, Nat.add_mul]
    omega
theorem rd_passed : ∀ xs Φ, F_passed xs Φ → b_passed (rtV Φ) (slots xs 8) := by
  rintro xs Φ ⟨d, ⟨col, places, falling⟩, rfl, hl, hd, hp, k⟩
  refine ⟨rfl, trivial, trivial, trivial, by simp, trivial, d, ⟨col, places, falling⟩, rfl, hl, hd, hp, fun q qs hq => ?_⟩
  have lp : (pockets d ⟨col, places, falling⟩).length = 13 := by simp [pockets]
  have rowl : ∀ r ∈ pockets d ⟨col, places, falling⟩, r.length ≤ 1000 := fun r hr => by
    obtain ⟨j, _, rfl⟩ := List.mem_map.mp hr
    exact Nat.le_trans (List.length_filter_le _ _) hl
  have main : ∀ rows : List (List Card), rows.length = 13 → (∀ r ∈ rows, r.length ≤ 1000) → Φ (.own (rows.flatten.map cardD)) →
      dSeq (dFor (diAny (dVar 6)) (dgName 7) (dDrop (dExt 5 (dVar 7)))) (dRetM 5) (rtV Φ) [.val (deckD d), .val (passD ⟨col, places, falling⟩), .val (.int col), .val (.tup (places.map D.int)), .val (.bl falling), .own [], .val (.lst (rows.map deckD)), .un] := by
    intro rows h13 hr k
    refine for_open ?_
    show dForL _ _ _ (rows.map deckD) _
    refine forL_inv (fun rest ρ => ∃ (pre post : List (List Card)) (s : Sl), rows = pre ++ post ∧ rest = post.map deckD ∧ ρ = [.val (deckD d), .val (passD ⟨col, places, falling⟩), .val (.int col), .val (.tup (places.map D.int)), .val (.bl falling), .own (pre.flatten.map cardD), .val (.lst (rows.map deckD)), s] ∧
      free [.val (deckD d), .val (passD ⟨col, places, falling⟩), .val (.int col), .val (.tup (places.map D.int)), .val (.bl falling), .own (pre.flatten.map cardD), .val (.lst (rows.map deckD)), s] 7) ?_ ?_ ⟨[], rows, .un, rfl, rfl, rfl, trivial⟩
    · rintro x rest ρ ⟨pre, post, s, e1, e2, rfl, fr⟩ K hK
      cases post with
      | nil => cases e2
      | cons r post =>
        cases e2
        refine ⟨fr, ?_⟩
        have hrl := hr r (by rw [e1]; exact List.mem_append_right _ List.mem_cons_self)
        have hpl := flatten_len (rows := pre) fun x hx => hr x (by rw [e1]; exact List.mem_append_left _ hx)
        have hpn : pre.length ≤ 13 := by rw [← h13, e1, List.length_append]; omega
        refine ⟨?_, hK _ ⟨pre ++ [r], post, .val (deckD r), by rw [e1, List.append_assoc]; rfl, rfl, ?_, trivial⟩⟩
        · rw [List.length_map, List.length_map]
          have : pre.length * 1000 ≤ 13 * 1000 := Nat.mul_le_mul_right _ hpn
          omega
        · rw [List.flatten_append, List.map_append]
          simp
    · rintro ρ ⟨pre, post, s, e1, e2, rfl, fr⟩
      have : post = [] := by
        cases post with
        | nil => rfl
        | cons _ _ => cases e2
      subst this
      rw [List.append_nil] at e1
      subst e1
      exact k
  show match OT.toD (.lst q ((qs.zip (pockets d ⟨col, places, falling⟩)).map rowT)) with | some d => _ | none => False
  rw [toD_pockets (by rw [hq, lp])]
  refine ⟨trivial, ?_⟩
  cases falling with
  | true =>
    refine ⟨trivial, ?_⟩
    have := main (pockets d ⟨col, places, true⟩).reverse (by rw [List.length_reverse, lp]) (fun r hr => rowl r (List.mem_reverse.mp hr)) k
    rw [List.map_reverse] at this
    exact this
  | false => exact main (pockets d ⟨col, places, false⟩) lp rowl k
def F_sorted_by : DF := fun xs Φ => ∃ (d : List Card) (ps : List Pass), xs = [deckD d, .lst (ps.map passD)] ∧ d.length ≤ 1000 ∧ (∀ c ∈ d, CardOk c) ∧ (∀ p ∈ ps, PassOk p) ∧ Φ (.own ((ps.foldl passedL d).map cardD))
/- slots of sorted_by: 0 deck, 1 passes, 2 found, 3 one -/
def b_sorted_by : DS := (dSeq (dSet 2 (dCB listD (dCons (dVar 0) dNil)))
  (dSeq (dFor (diAny (dVar 1)) (dgName 3) (dSet 2 (dCall F_passed (dCons (dVar 2) (dCons (dVar 3) dNil)))))
  (dRetM 2)))
theorem rd_sorted_by : ∀ xs Φ, F_sorted_by xs Φ → b_sorted_by (rtV Φ) (slots xs 4) := by
  rintro xs Φ ⟨d, ps, rfl, hl, hd, hp, k⟩
  refine ⟨trivial, ?_⟩
  refine for_open ?_
  show dForL _ _ _ (ps.map passD) _
  refine forL_inv (fun rest ρ => ∃ (post : List Pass) (d' : List Card) (s : Sl), rest = post.map passD ∧ d'.length ≤ 1000 ∧ (∀ c ∈ d', CardOk c) ∧ (∀ p ∈ post, PassOk p) ∧ Φ (.own ((post.foldl passedL d').map cardD)) ∧ ρ = [.val (deckD d), .val (.lst (ps.map passD)), .own (d'.map cardD), s] ∧
      free [.val (deckD d), .val (.lst (ps.map passD)), .own (d'.map cardD), s] 3) ?_ ?_ ⟨ps, d, .un, rfl, hl, hd, hp, k, rfl, trivial⟩
  · rintro x rest ρ ⟨post, d', s, e2, hl', hd', hp', k', rfl, fr⟩ K hK
    cases post with
    | nil => cases e2
    | cons p post =>
      cases e2
      refine ⟨fr, ?_⟩
      have pm := passed_perm (p := p) hd'
      refine ⟨d', p, rfl, hl', hd', hp' p List.mem_cons_self, trivial, hK _ ⟨post, passedL d' p, .val (passD p), rfl, by rw [pm.length_eq]; exact hl', fun c hc => hd' c (pm.subset hc), fun q hq => hp' q (List.mem_cons_of_mem _ hq), k', rfl, trivial⟩⟩
  · rintro ρ ⟨post, d', s, e2, hl', hd', hp', k', rfl, fr⟩
    cases post with
    | nil => exact k'
    | cons _ _ => cases e2
end DL
set_option Elab.async false
set_option linter.all false
set_option maxRecDepth 100000
set_option maxHeartbeats 2000000
namespace DL
open PySem PySem.Spec PyProof.Rows L2 RT

mutual
theorem eqv_self : ∀ (d : D) (n : Nat), d.okN n = true → PyData.eqv d.py d.py = true
  | .non, _, _ => rfl
  | .bl b, _, _ => by simp [D.py, PyData.eqv]
  | .int i, _, _ => by simp [D.py, PyData.eqv]
  | .str s, _, _ => by simp [D.py, PyData.eqv]
  | .tup xs, n, h => by
    cases n with
    | zero => simp [D.okN] at h
    | succ n =>
      simp only [D.py, PyData.eqv]
      exact eqv_selfL xs n (by simpa [D.okN] using h)
  | .lst xs, n, h => by
    cases n with
    | zero => simp [D.okN] at h
    | succ n =>
      simp only [D.py, PyData.eqv]
      exact eqv_selfL xs n (by simpa [D.okN] using h)
  | .rd xs, n, h => by
    cases n with
    | zero => simp [D.okN] at h
    | succ n =>
      simp only [D.py, PyData.eqv]
      exact eqv_selfL xs n (by simpa [D.okN] using h)
  | .dic _, _, h => by simp [D.okN] at h
  | .ins _ _, _, h => by simp [D.okN] at h
  | .ty _, _, h => by simp [D.okN] at h
  | .cls _, _, h => by simp [D.okN] at h
theorem eqv_selfL : ∀ (xs : List D) (n : Nat), D.okL xs n = true → PyData.eqvAll (D.pyL xs) (D.pyL xs) = true
  | [], _, _ => rfl
  | x :: xs, n, h => by
    simp only [D.okL, Bool.and_eq_true] at h
    simp only [D.pyL, PyData.eqvAll, Bool.and_eq_true]
    exact ⟨eqv_self x n h.1, eqv_selfL xs n h.2⟩
end
theorem eqD_self {d : D} {Φ : D → Prop} (h : d.okN 60 = true) (k : Φ (.bl true)) : eqD d d Φ := ⟨h, h, by
  have : D.eqv d d = true := eqv_self d 60 h
  rw [this]; exact k⟩
theorem neD_self {d : D} {Φ : D → Prop} (h : d.okN 60 = true) (k : Φ (.bl false)) : neD d d Φ := ⟨h, h, by
  have : D.eqv d d = true := eqv_self d 60 h
  rw [this]; exact k⟩
theorem iteS {x : D} {A B : Prop} (h : x.okN 60 = true) (k : B) : if (!D.eqv x x) = true then A else B := by
  have : D.eqv x x = true := eqv_self x 60 h
  rw [this]; exact k
theorem iteT {x : D} {A B : Prop} (h : x.okN 60 = true) (k : A) : if D.eqv x x = true then A else B := by
  have : D.eqv x x = true := eqv_self x 60 h
  rw [this]; exact k
theorem ok_pass (p : Pass) (n : Nat) : (passD p).okN (n + 2) = true := by
  have := ok_tup D.int (n := n) (xs := p.places) fun i _ => ok_int i n
  rw [passD, D.okN, D.okL, ok_int, D.okL, this, D.okL, ok_bl, D.okL]
  rfl
theorem lk_col (c : Col) (h : c.length ≤ 1000000) (n : Nat) : (colD c).lk (n + 1) = true := lk_tup D.int h fun i _ => lk_int i n
theorem CardOk.lk {c : Card} (h : CardOk c) (n : Nat) : (cardD c).lk (n + 2) = true := lk_tup colD (by have := h.1; omega) fun x hx => lk_col x (by
  have : ∀ x ∈ every, x.length ≤ 2 := by decide
  have := this x (h.2 x hx)
  omega) n
theorem lk_deck {d : List Card} (h : d.length ≤ 1000000) (hd : ∀ c ∈ d, CardOk c) (n : Nat) : (deckD d).lk (n + 3) = true := lk_lst cardD h fun c hc => (hd c hc).lk n
/-- like of two things that are alike -/
theorem like_same {n : Nat} {x : D} {Φ : Sl → Prop} (h : x.lk n = true) (k : Φ (.val (.bl true))) : F_L_like (n + 1) [x, x] Φ := ⟨x, x, rfl, h, h, fun b hb => by rw [hb rfl]; exact k⟩
theorem dbOwn_of {i : Nat} {d : DA} {ρ ρ1 : List Sl} {Φ : List D → List Sl → Prop} {y : D} {xs : List D} (h : ownD (ρ[i]?) = some y) (hd : ∀ Ψ : List D → List Sl → Prop, Ψ xs ρ1 → d ρ Ψ) (h1 : ownD (ρ1[i]?) = some y) (k : Φ (y :: xs) ρ1) : dbOwn i d ρ Φ := by
  unfold dbOwn
  rw [h]
  refine hd _ ?_
  rw [h1]
  exact k
theorem cmpOwn_of {f : D → D → (D → Prop) → Prop} {i : Nat} {d : DE} {ρ ρ1 : List Sl} {Φ : D → List Sl → Prop} {x y : D} (h : ownD (ρ[i]?) = some x) (hd : ∀ Ψ : D → List Sl → Prop, Ψ y ρ1 → d ρ Ψ) (h1 : ownD (ρ1[i]?) = some x) (k : f x y fun z => Φ z ρ1) : dCmpOwn f i d ρ Φ := by
  unfold dCmpOwn
  rw [h]
  refine hd _ ?_
  rw [h1]
  exact k
theorem papp_root {ρ : List Sl} {i : Nat} {de : DE} {Φ : Sl → List Sl → Prop} {r : Addr} {xs : List OT} {x : D} (hs : ρ[i]? = some (.loc (.lst r xs))) (he : ∀ Ψ : D → List Sl → Prop, Ψ x ρ → de ρ Ψ) (hl : xs.length ≤ 1000000) (k : Φ (.val .non) (ρ.set i (.loc (.lst r (xs ++ [.val x]))))) : dPApp (dpVar i) de ρ Φ := by
  unfold dPApp dpVar
  rw [hs]
  refine ⟨trivial, he _ ?_⟩
  rw [hs]
  exact ⟨rfl, hl, k⟩
theorem forT_open {i j : Nat} {b : DS} {Δ : Ds} {ρ : List Sl} {p : Addr} {ts : List OT} (h : ρ[i]? = some (.loc (.lst p ts))) (k : dForTL j b Δ ts (ρ.set i .un)) : dForT i j b Δ ρ := by
  unfold dForT
  rw [h]
  exact k
end DL
set_option Elab.async false
set_option linter.all false
set_option maxRecDepth 100000
set_option maxHeartbeats 2000000
namespace DL
open PySem PySem.Spec PyProof.Rows L2 RT

/-! ### sorting, stable, by any order: there is just one answer -/
section
variable {α : Type} {lt : α → α → Bool}
def insL (lt : α → α → Bool) (y : α) : List α → List α
  | [] => [y]
  | x :: l => if lt y x = true then y :: x :: l else x :: insL lt y l
def sortOf (lt : α → α → Bool) (d : List α) : List α := d.foldl (fun l y => insL lt y l) []
theorem insL_split (y : α) : ∀ l : List α, ∃ A B, l = A ++ B ∧ insL lt y l = A ++ y :: B ∧ (∀ x ∈ A, lt y x = false) ∧ (∀ b B', B = b :: B' → lt y b = true)
  | [] => ⟨[], [], rfl, rfl, fun x h => (nomatch h), fun b B' h => nomatch h⟩
  | x :: l => by
    unfold insL
    by_cases c : lt y x = true
    · rw [if_pos c]
      exact ⟨[], x :: l, rfl, rfl, fun x h => (nomatch h), fun b B' h => by cases h; exact c⟩
    · rw [if_neg c]
      obtain ⟨A, B, e1, e2, h1, h2⟩ := insL_split y l
      refine ⟨x :: A, B, by rw [e1]; rfl, by rw [e2]; rfl, fun z hz => ?_, h2⟩
      rcases List.mem_cons.mp hz with e | hz
      · rw [e]; simpa using c
      · exact h1 z hz
theorem insL_ok (O : SrtO.Swo lt) {y : α} {l d : List α} (h : SrtO.Srtd lt l) (s : SrtO.Stb lt l d) : SrtO.Srtd lt (insL lt y l) ∧ SrtO.Stb lt (insL lt y l) (d ++ [y]) := by
  obtain ⟨A, B, e1, e2, h1, h2⟩ := insL_split (lt := lt) y l
  rw [e2]
  rw [e1] at h s
  have h3 : ∀ x ∈ B, lt y x = true := by
    cases B with
    | nil => exact fun x h => nomatch h
    | cons b B => exact O.lt_all (SrtO.srtd_app.mp h).2.1 (h2 b B rfl)
  exact ⟨SrtO.ins_srtd O h h1 h3, SrtO.ins_stb O h3 s⟩
theorem sortOf_spec (O : SrtO.Swo lt) (d : List α) : SrtO.Srtd lt (sortOf lt d) ∧ SrtO.Stb lt (sortOf lt d) d := by
  have : ∀ (post l pre : List α), SrtO.Srtd lt l → SrtO.Stb lt l pre → SrtO.Srtd lt (post.foldl (fun l y => insL lt y l) l) ∧ SrtO.Stb lt (post.foldl (fun l y => insL lt y l) l) (pre ++ post) := by
    intro post
    induction post with
    | nil => exact fun l pre h s => ⟨h, by rw [List.append_nil]; exact s⟩
    | cons y post ih =>
      intro l pre h s
      obtain ⟨h', s'⟩ := insL_ok O (y := y) h s
      have := ih _ _ h' s'
      rw [List.append_assoc] at this
      exact this
  exact this d [] [] List.Pairwise.nil (SrtO.Stb.refl _)
theorem Stb.symm' {l m : List α} (h : SrtO.Stb lt l m) : SrtO.Stb lt m l := ⟨h.perm.symm, fun x => (h.cls x).symm⟩
theorem sort_uniq (O : SrtO.Swo lt) {l d : List α} (h : SrtO.Srtd lt l) (s : SrtO.Stb lt l d) : l = sortOf lt d :=
  have q := sortOf_spec O d
  SrtO.stb_uniq O h q.1 (s.trans (Stb.symm' q.2))
theorem sortOf_sorted (O : SrtO.Swo lt) {l : List α} (h : SrtO.Srtd lt l) : sortOf lt l = l := (sort_uniq O h (SrtO.Stb.refl l)).symm
theorem sortOf_perm (O : SrtO.Swo lt) (d : List α) : (sortOf lt d).Perm d := (sortOf_spec O d).2.perm
/-- what holds in each class holds of the like ones -/
theorem cls_pair {R : α → α → Prop} (O : SrtO.Swo lt) : ∀ {r : List α}, (∀ x, (r.filter (SrtO.eqv lt x)).Pairwise R) → r.Pairwise fun x y => SrtO.eqv lt x y = true → R x y
  | [], _ => List.Pairwise.nil
  | x :: r, h => by
    refine List.pairwise_cons.mpr ⟨fun y hy e => ?_, cls_pair O fun z => ?_⟩
    · have hx := h x
      rw [List.filter_cons_of_pos (SrtO.eqv_iff.mpr ⟨O.refl x, O.refl x⟩)] at hx
      exact (List.pairwise_cons.mp hx).1 y (List.mem_filter.mpr ⟨hy, e⟩)
    · exact (h z).sublist ((List.sublist_cons_self x r).filter _)
end

/-! ### the office's order -/
def figOf : Col → Int
  | x :: _ => if x < 10 then x else -1
  | [] => -1
def overOf (c : Col) : Int := match c.getLast? with
  | some x => if x > 9 then x else -1
  | none => -1
def keyOf (c : Col) : Int × Int := (overOf c, figOf c)
abbrev Order := List (Int × Bool)
def keyAt (p : Int × Bool) (x : Card) : Int × Int := keyOf (colAt x p.1)
/-- x before y by one column -/
def ltC (p : Int × Bool) (x y : Card) : Bool := if p.2 = true then SrtO.lexB (keyAt p y) (keyAt p x) else SrtO.lexB (keyAt p x) (keyAt p y)
def ltO : Order → Card → Card → Bool
  | [], _, _ => false
  | p :: o, x, y => if keyAt p x = keyAt p y then ltO o x y else ltC p x y
theorem lex_swo : SrtO.Swo SrtO.lexB := by
  refine ⟨fun x y h => ?_, fun x y z h1 h2 => ?_⟩
  · have := SrtO.lexB_iff.mp h
    refine SrtO.lexB_no.mpr ?_
    omega
  · have a := SrtO.lexB_no.mp h1
    have b := SrtO.lexB_no.mp h2
    refine SrtO.lexB_no.mpr ?_
    omega
theorem lex_tri {a b : Int × Int} (h1 : SrtO.lexB a b = false) (h2 : SrtO.lexB b a = false) : a = b := by
  have a1 := SrtO.lexB_no.mp h1
  have a2 := SrtO.lexB_no.mp h2
  exact Prod.ext (by omega) (by omega)
theorem ltC_swo (p : Int × Bool) : SrtO.Swo (ltC p) := by
  unfold ltC
  by_cases h : p.2 = true
  · simp only [if_pos h]
    exact ⟨fun x y q => lex_swo.asym _ _ q, fun x y z q1 q2 => lex_swo.tr _ _ _ q2 q1⟩
  · simp only [if_neg h]
    exact ⟨fun x y q => lex_swo.asym _ _ q, fun x y z q1 q2 => lex_swo.tr _ _ _ q1 q2⟩
theorem ltC_key {p : Int × Bool} {x y : Card} (h1 : ltC p x y = false) (h2 : ltC p y x = false) : keyAt p x = keyAt p y := by
  unfold ltC at h1 h2
  split at h1
  · rename_i h
    rw [if_pos h] at h2
    exact lex_tri h2 h1
  · rename_i h
    rw [if_neg h] at h2
    exact lex_tri h1 h2
theorem ltC_same {p : Int × Bool} {x y : Card} (h : keyAt p x = keyAt p y) : ltC p x y = false := by
  unfold ltC
  rw [h]
  split <;> exact lex_swo.refl _
theorem eqvC {p : Int × Bool} {x y : Card} : SrtO.eqv (ltC p) x y = true ↔ keyAt p x = keyAt p y :=
  ⟨fun h => ltC_key (SrtO.eqv_iff.mp h).1 (SrtO.eqv_iff.mp h).2, fun h => SrtO.eqv_iff.mpr ⟨ltC_same h, ltC_same h.symm⟩⟩
theorem ltO_swo : ∀ o : Order, SrtO.Swo (ltO o)
  | [] => ⟨fun _ _ h => (nomatch h), fun _ _ _ _ _ => rfl⟩
  | p :: o => by
    have Oo := ltO_swo o
    have Oc := ltC_swo p
    refine ⟨fun x y h => ?_, fun x y z h1 h2 => ?_⟩
    · unfold ltO at h ⊢
      by_cases c : keyAt p x = keyAt p y
      · rw [if_pos c] at h
        rw [if_pos c.symm]
        exact Oo.asym _ _ h
      · rw [if_neg c] at h
        rw [if_neg fun e => c e.symm]
        exact Oc.asym _ _ h
    · -- h1 : ltO y x = false, h2 : ltO z y = false
      unfold ltO at h1 h2 ⊢
      by_cases c1 : keyAt p y = keyAt p x
      · by_cases c2 : keyAt p z = keyAt p y
        · rw [if_pos c1] at h1
          rw [if_pos c2] at h2
          rw [if_pos (c2.trans c1)]
          exact Oo.tr _ _ _ h1 h2
        · rw [if_neg c2] at h2
          rw [if_neg fun e => c2 (e.trans c1.symm)]
          exact Oc.tr _ _ _ (ltC_same c1) h2
      · rw [if_neg c1] at h1
        by_cases c2 : keyAt p z = keyAt p y
        · rw [if_neg fun e => c1 (c2.symm.trans e)]
          exact Oc.tr _ _ _ h1 (ltC_same c2)
        · rw [if_neg c2] at h2
          by_cases c3 : keyAt p z = keyAt p x
          · -- then y lies strictly on both sides
            exfalso
            have h3 : ltC p z x = false := ltC_same c3
            have h4 : ltC p x z = false := ltC_same c3.symm
            have h5 : ltC p x y = false := Oc.tr _ _ _ h2 h4
            exact c1 (ltC_key h1 h5)
          · rw [if_neg c3]
            exact Oc.tr _ _ _ h1 h2
theorem eqvO_cons {p : Int × Bool} {o : Order} {x y : Card} : SrtO.eqv (ltO (p :: o)) x y = (SrtO.eqv (ltO o) x y && SrtO.eqv (ltC p) x y) := by
  rw [Bool.eq_iff_iff, Bool.and_eq_true, eqvC]
  rw [SrtO.eqv_iff, SrtO.eqv_iff]
  show (if keyAt p x = keyAt p y then ltO o x y else ltC p x y) = false ∧ (if keyAt p y = keyAt p x then ltO o y x else ltC p y x) = false ↔ _
  by_cases c : keyAt p x = keyAt p y
  · rw [if_pos c, if_pos c.symm]
    exact ⟨fun h => ⟨h, c⟩, fun h => h.1⟩
  · rw [if_neg c, if_neg fun e => c e.symm]
    exact ⟨fun h => absurd (ltC_key h.1 h.2) c, fun h => absurd h.2 c⟩
/-- a stable sort by one column of what is sorted by the others -/
theorem radix {p : Int × Bool} {o : Order} {r d' d : List Card} (h1 : SrtO.Srtd (ltC p) r) (s1 : SrtO.Stb (ltC p) r d') (h2 : SrtO.Srtd (ltO o) d') (s2 : SrtO.Stb (ltO o) d' d) : SrtO.Srtd (ltO (p :: o)) r ∧ SrtO.Stb (ltO (p :: o)) r d := by
  refine ⟨?_, s1.perm.trans s2.perm, fun x => ?_⟩
  · have cls := cls_pair (R := fun x y => ltO o y x = false) (ltC_swo p) (r := r) fun x => by
      rw [s1.cls x]
      exact h2.sublist List.filter_sublist
    refine (h1.and cls).imp fun {x y} ⟨a, b⟩ => ?_
    show ltO (p :: o) y x = false
    unfold ltO
    by_cases c : keyAt p y = keyAt p x
    · rw [if_pos c]
      exact b (eqvC.mpr c.symm)
    · rw [if_neg c]
      exact a
  · have e : SrtO.eqv (ltO (p :: o)) x = fun y => SrtO.eqv (ltO o) x y && SrtO.eqv (ltC p) x y := funext fun y => eqvO_cons
    have e2 : (fun y => SrtO.eqv (ltO o) x y && SrtO.eqv (ltC p) x y) = fun y => SrtO.eqv (ltC p) x y && SrtO.eqv (ltO o) x y := funext fun y => Bool.and_comm _ _
    rw [e]
    calc r.filter (fun y => SrtO.eqv (ltO o) x y && SrtO.eqv (ltC p) x y) = (r.filter (SrtO.eqv (ltC p) x)).filter (SrtO.eqv (ltO o) x) := by rw [List.filter_filter]
      _ = (d'.filter (SrtO.eqv (ltC p) x)).filter (SrtO.eqv (ltO o) x) := by rw [s1.cls x]
      _ = (d'.filter (SrtO.eqv (ltO o) x)).filter (SrtO.eqv (ltC p) x) := by rw [List.filter_filter, List.filter_filter, e2]
      _ = (d.filter (SrtO.eqv (ltO o) x)).filter (SrtO.eqv (ltC p) x) := by rw [s2.cls x]
      _ = d.filter (fun y => SrtO.eqv (ltO o) x y && SrtO.eqv (ltC p) x y) := by rw [List.filter_filter, e2]
/-- groups by the key of a column, in the keys' order: a stable sort -/
theorem groups {p : Int × Bool} {d : List Card} {qs : List (Int × Int)} (hm : ∀ q, q ∈ qs ↔ q ∈ d.map (keyAt p)) (ho : qs.Pairwise fun a b => SrtO.lexB a b = true) :
    SrtO.Srtd (ltC p) ((if p.2 = true then qs.reverse else qs).flatMap fun q => d.filter fun c => decide (keyAt p c = q)) ∧ SrtO.Stb (ltC p) ((if p.2 = true then qs.reverse else qs).flatMap fun q => d.filter fun c => decide (keyAt p c = q)) d := by
  generalize hks : (if p.2 = true then qs.reverse else qs) = ks
  have ltk : ks.Pairwise fun a b => ∀ x y : Card, keyAt p x = a → keyAt p y = b → ltC p y x = false ∧ a ≠ b := by
    rw [← hks]
    unfold ltC
    by_cases h : p.2 = true
    · simp only [if_pos h]
      rw [List.pairwise_reverse]
      refine ho.imp fun {a b} q x y ex ey => ?_
      rw [ex, ey]
      refine ⟨lex_swo.asym _ _ q, fun e => ?_⟩
      rw [e, lex_swo.refl] at q
      cases q
    · simp only [if_neg h]
      refine ho.imp fun {a b} q x y ex ey => ?_
      rw [ex, ey]
      refine ⟨lex_swo.asym _ _ q, fun e => ?_⟩
      rw [e, lex_swo.refl] at q
      cases q
  have nd : ks.Nodup := by
    rw [List.nodup_iff_pairwise_ne, ← hks]
    have ne : qs.Pairwise (· ≠ ·) := ho.imp fun {a b} q e => by
      rw [e, lex_swo.refl] at q
      cases q
    split
    · rw [List.pairwise_reverse]
      exact ne.imp fun h => Ne.symm h
    · exact ne
  have hmk : ∀ c ∈ d, keyAt p c ∈ ks := fun c hc => by
    have : keyAt p c ∈ qs := (hm _).mpr (List.mem_map_of_mem hc)
    rw [← hks]
    split
    · exact List.mem_reverse.mpr this
    · exact this
  have srt : ∀ ks : List (Int × Int), ks.Pairwise (fun a b => ∀ x y : Card, keyAt p x = a → keyAt p y = b → ltC p y x = false ∧ a ≠ b) → SrtO.Srtd (ltC p) (ks.flatMap fun q => d.filter fun c => decide (keyAt p c = q)) := by
    intro ks
    induction ks with
    | nil => exact fun _ => List.Pairwise.nil
    | cons k ks ih =>
      intro h
      obtain ⟨h1, h2⟩ := List.pairwise_cons.mp h
      rw [List.flatMap_cons]
      refine SrtO.srtd_app.mpr ⟨SrtO.srtd_eq fun x hx y hy => ?_, ih h2, fun x hx y hy => ?_⟩
      · have ex := of_decide_eq_true (List.mem_filter.mp hx).2
        have ey := of_decide_eq_true (List.mem_filter.mp hy).2
        exact ltC_same (ex.trans ey.symm)
      · have ex := of_decide_eq_true (List.mem_filter.mp hx).2
        obtain ⟨k', hk', hy⟩ := List.mem_flatMap.mp hy
        have ey := of_decide_eq_true (List.mem_filter.mp hy).2
        exact (h1 k' hk' x y ex ey).1
  have cls : ∀ (x : Card) (ks : List (Int × Int)), ks.Nodup → (ks.flatMap fun q => d.filter fun c => decide (keyAt p c = q)).filter (fun y => decide (keyAt p y = keyAt p x)) = if keyAt p x ∈ ks then d.filter (fun y => decide (keyAt p y = keyAt p x)) else [] := by
    intro x ks
    induction ks with
    | nil => exact fun _ => rfl
    | cons k ks ih =>
      intro nd
      obtain ⟨n1, n2⟩ := List.nodup_cons.mp nd
      rw [List.flatMap_cons, List.filter_append, ih n2]
      by_cases c : k = keyAt p x
      · have : ¬ keyAt p x ∈ ks := by rw [← c]; exact n1
        rw [if_neg this, List.append_nil, if_pos (by rw [c]; exact List.mem_cons_self), c, List.filter_filter]
        congr 1
        funext y
        simp
      · have e : (d.filter fun c => decide (keyAt p c = k)).filter (fun y => decide (keyAt p y = keyAt p x)) = [] := by
          rw [List.filter_filter, List.filter_eq_nil_iff]
          intro y _
          simp only [Bool.and_eq_true, decide_eq_true_eq, not_and]
          exact fun h1 h2 => c (h2.symm.trans h1)
        rw [e, List.nil_append]
        have : (keyAt p x ∈ k :: ks) ↔ keyAt p x ∈ ks := by
          rw [List.mem_cons]
          exact ⟨fun h => h.resolve_left fun e => c e.symm, fun h => .inr h⟩
        simp only [this]
  have eC : ∀ x, SrtO.eqv (ltC p) x = fun y => decide (keyAt p y = keyAt p x) := fun x => funext fun y => by
    rw [Bool.eq_iff_iff, eqvC, decide_eq_true_eq]
    exact ⟨fun h => h.symm, fun h => h.symm⟩
  refine ⟨srt ks ltk, ?_, fun x => ?_⟩
  · -- each card stands in the group of its key
    have : ∀ ks : List (Int × Int), ks.Nodup → (ks.flatMap fun q => d.filter fun c => decide (keyAt p c = q)).Perm (d.filter fun c => decide (keyAt p c ∈ ks)) := by
      intro ks
      induction ks with
      | nil =>
        intro _
        have : (d.filter fun c => decide (keyAt p c ∈ ([] : List (Int × Int)))) = [] := List.filter_eq_nil_iff.mpr fun c _ => by simp
        rw [this]
        exact List.Perm.refl _
      | cons k ks ih =>
        intro nd
        obtain ⟨n1, n2⟩ := List.nodup_cons.mp nd
        rw [List.flatMap_cons]
        refine (List.Perm.append_left _ (ih n2)).trans ?_
        have h := List.filter_append_perm (fun c => decide (keyAt p c = k)) (d.filter fun c => decide (keyAt p c ∈ k :: ks))
        rw [List.filter_filter, List.filter_filter] at h
        refine List.Perm.trans (List.Perm.of_eq ?_) h
        congr 1
        · congr 1
          funext c
          rw [Bool.eq_iff_iff]
          simp
          exact fun h => .inl h
        · congr 1
          funext c
          rw [Bool.eq_iff_iff]
          simp
          constructor
          · exact fun h => ⟨fun e => n1 (by rw [← e]; exact h), .inr h⟩
          · rintro ⟨h1, h2⟩
            exact h2.resolve_left h1
    refine (this ks nd).trans (List.Perm.of_eq (List.filter_eq_self.mpr fun c hc => ?_))
    simpa using hmk c hc
  · rw [eC, cls x ks nd]
    by_cases c : keyAt p x ∈ ks
    · rw [if_pos c]
    · rw [if_neg c]
      symm
      rw [List.filter_eq_nil_iff]
      intro y hy h
      exact c (by rw [← of_decide_eq_true h]; exact hmk y hy)
end DL
set_option Elab.async false
set_option linter.all false
set_option maxRecDepth 100000
set_option maxHeartbeats 2000000
namespace DL
open PySem PySem.Spec PyProof.Rows L2 RT

theorem while_open {c : DT} {b : DS} {Δ : Ds} {ρ : List Sl} (W : Nat → List Sl → Prop) (m : Nat) (h : W m ρ)
    (step : ∀ m ρ, W m ρ → ∀ K : List Sl → Prop, (∀ m' ρ', m' < m → W m' ρ' → K ρ') → c ρ fun k ρ1 => if k = true then b { Δ with nx := K, ct := K, bk := Δ.nx } ρ1 else Δ.nx ρ1) : dWhile c b Δ ρ := by
  unfold dWhile
  exact ⟨W, ⟨m, h⟩, fun m ρ w => step m ρ w _ fun m' ρ' lt w' => ⟨m', lt, w'⟩⟩
theorem ixL_zero {d : D} {ds : List D} {Ψ : D → Prop} (k : Ψ d) : ixL (d :: ds) (.int 0) Ψ := by
  unfold ixL
  have : atI (d :: ds) 0 = some d := atI_nat (j := 0) rfl
  dsimp only
  rw [this]
  exact k
theorem ixL_last {d : D} {ds : List D} {Ψ : D → Prop} (k : Ψ d) : ixL (ds ++ [d]) (.int (-1)) Ψ := by
  unfold ixL
  dsimp only
  rw [atI_last]
  exact k
theorem ixL_nat {ds : List D} {j : Nat} {d : D} {Ψ : D → Prop} (h : ds[j]? = some d) (k : Ψ d) : ixL ds (.int (j : Nat)) Ψ := by
  unfold ixL
  dsimp only
  rw [atI_nat h]
  exact k
/-! ### keys -/
def F_figure_of : DF := fun xs Φ => ∃ c : Col, xs = [colD c] ∧ Φ (.val (.int (figOf c)))
/- slots of figure_of: 0 column -/
def b_figure_of : DS := (dSeq (dIfS (dAnd (dTest (dOp neD (dVar 0) (dTup dNil))) (dTest (dOp ltD (dOp ixD (dVar 0) (dC (.int 0))) (dC (.int 10))))) (dRet (dR (dOp ixD (dVar 0) (dC (.int 0))))) dNext)
  (dRet (dR (dUn negD (dC (.int 1))))))
theorem rd_figure_of : ∀ xs Φ, F_figure_of xs Φ → b_figure_of (rtV Φ) (slots xs 1) := by
  rintro xs Φ ⟨c, rfl, k⟩
  cases c with
  | nil => exact ⟨by simp, ok_col _ _, rfl, k⟩
  | cons x r =>
    refine ⟨by simp, ok_col _ _, rfl, ?_⟩
    refine ixL_zero ?_
    have e : figOf (x :: r) = if x < 10 then x else -1 := rfl
    rw [e] at k
    refine iteD (fun h => ?_) (fun h => ?_)
    · rw [if_pos h] at k
      exact ixL_zero k
    · rw [if_neg h] at k
      exact k
def F_over_of : DF := fun xs Φ => ∃ c : Col, xs = [colD c] ∧ Φ (.val (.int (overOf c)))
/- slots of over_of: 0 column -/
def b_over_of : DS := (dSeq (dIfS (dAnd (dTest (dOp neD (dVar 0) (dTup dNil))) (dTest (dOp gtD (dOp ixD (dVar 0) (dUn negD (dC (.int 1)))) (dC (.int 9))))) (dRet (dR (dOp ixD (dVar 0) (dUn negD (dC (.int 1)))))) dNext)
  (dRet (dR (dUn negD (dC (.int 1))))))
theorem snoc_or_nil {α : Type} (l : List α) : l = [] ∨ ∃ r x, l = r ++ [x] := by
  cases l with
  | nil => exact .inl rfl
  | cons a l => exact .inr ⟨(a :: l).dropLast, (a :: l).getLast (by simp), (List.dropLast_concat_getLast (by simp)).symm⟩
theorem rd_over_of : ∀ xs Φ, F_over_of xs Φ → b_over_of (rtV Φ) (slots xs 1) := by
  rintro xs Φ ⟨c, rfl, k⟩
  rcases snoc_or_nil c with rfl | ⟨r, x, rfl⟩
  · exact ⟨by simp, ok_col _ _, rfl, k⟩
  · refine ⟨by simp, ok_col _ _, rfl, ?_⟩
    have e1 : D.eqv (colD (r ++ [x])) (.tup []) = false := by
      have := eqv_col (r ++ [x]) []
      rw [decide_eq_false (by simp)] at this
      exact this
    have e2 : (r ++ [x]).map D.int = r.map D.int ++ [.int x] := by simp
    have e3 : (r ++ [x]).getLast? = some x := by simp
    have kk : x > 9 ∧ Φ (.val (.int x)) ∨ ¬ x > 9 ∧ Φ (.val (.int (-1))) := by
      unfold overOf at k
      rw [e3] at k
      dsimp only at k
      by_cases h : x > 9
      · rw [if_pos h] at k
        exact .inl ⟨h, k⟩
      · rw [if_neg h] at k
        exact .inr ⟨h, k⟩
    have ix : ∀ Ψ : D → Prop, Ψ (.int x) → ixL ((r ++ [x]).map D.int) (.int (-1)) Ψ := fun Ψ h => by
      rw [e2]
      exact ixL_last h
    show if (!D.eqv (colD (r ++ [x])) (.tup [])) = true then _ else _
    rw [e1]
    refine ix _ ?_
    refine iteD (fun h => ?_) (fun h => ?_)
    · rcases kk with ⟨_, k⟩ | ⟨n, _⟩
      · exact ix _ k
      · exact absurd h n
    · rcases kk with ⟨n, _⟩ | ⟨_, k⟩
      · exact absurd n h
      · exact k
def F_key_of : DF := fun xs Φ => ∃ c : Col, xs = [colD c] ∧ Φ (.val (pairD (keyOf c)))
/- slots of key_of: 0 column -/
def b_key_of : DS := (dRet (dR (dTup (dCons (dV (dCall F_over_of (dCons (dVar 0) dNil))) (dCons (dV (dCall F_figure_of (dCons (dVar 0) dNil))) dNil)))))
theorem rd_key_of : ∀ xs Φ, F_key_of xs Φ → b_key_of (rtV Φ) (slots xs 1) := by
  rintro xs Φ ⟨c, rfl, k⟩
  exact ⟨c, rfl, c, rfl, by simp, k⟩
/-! ### orders -/
def ordD (p : Int × Bool) : D := .tup [.int p.1, .bl p.2]
def orderD (o : Order) : D := .lst (o.map ordD)
structure OrderOk (o : Order) : Prop where
  few : o.length ≤ 6
  nd : (o.map (·.1)).Nodup
  rng : ∀ p ∈ o, 0 ≤ p.1 ∧ p.1 < 12
def F_need_order : DF := fun xs Φ => ∃ o : Order, xs = [orderD o] ∧ OrderOk o ∧ Φ (.val .non)
/- slots of need_order: 0 order, 1 at, 2 row -/
def b_need_order : DS := (dSeq (dIfS (dTest (dOp gtD (dV (dCB lenD (dCons (dVar 0) dNil))) (dC (.int 6)))) (fun _ _ => False) dNext)
  (dFor (diRng1 (dV (dCB lenD (dCons (dVar 0) dNil)))) (dgName 1) (dIfS (dOr (dNot (dTest (dChain leD ltD (dC (.int 0)) (dOp ixD (dOp ixD (dVar 0) (dVar 1)) (dC (.int 0))) (dC (.int 12))))) (dTest (dOp memV (dOp ixD (dOp ixD (dVar 0) (dVar 1)) (dC (.int 0))) (dV (dLc (diAny (dV (dSl (dVar 0) dNoPart (dPart (dVar 1))))) (dgName 2) dYes (dOp ixD (dVar 2) (dC (.int 0))) [2]))))) (fun _ _ => False) dNext)))
theorem cutD_take {α : Type} (xs : List α) (j : Nat) : cutD xs none (some (j : Int)) = xs.take j := by
  unfold cutD
  have h1 : HT.sIx xs.length 0 none = 0 := rfl
  rw [h1, HT.sIx_nat, List.drop_zero, Nat.sub_zero]
  rcases Nat.le_total j xs.length with h | h
  · rw [Nat.min_eq_left h]
  · rw [Nat.min_eq_right h, List.take_of_length_le (Nat.le_refl _), List.take_of_length_le h]
theorem cutD_drop {α : Type} (xs : List α) (j : Nat) : cutD xs (some (j : Int)) none = xs.drop j := by
  unfold cutD
  have h1 : HT.sIx xs.length xs.length none = xs.length := rfl
  rw [h1, HT.sIx_nat]
  rcases Nat.le_total j xs.length with h | h
  · rw [Nat.min_eq_left h, List.take_of_length_le (by rw [List.length_drop]; omega)]
  · rw [Nat.min_eq_right h, List.drop_eq_nil_of_le (Nat.le_refl _), List.drop_eq_nil_of_le h, List.take_nil]
theorem rd_need_order : ∀ xs Φ, F_need_order xs Φ → b_need_order (rtV Φ) (slots xs 3) := by
  rintro xs Φ ⟨o, rfl, ok, k⟩
  have few := ok.few
  refine iteD (fun h => ?_) (fun _ => ?_)
  · rw [List.length_map] at h
    omega
  refine for_open ⟨(by unfold inR; rw [List.length_map]; omega), ?_⟩
  refine forL_inv (fun rest ρ => ∃ (j : Nat) (s : Sl), rest = rng (o.length - j) j 1 ∧ j ≤ o.length ∧ ρ = [.val (orderD o), s, .un] ∧ free [.val (orderD o), s, .un] 1) ?_ ?_ ⟨0, .un, by rw [List.length_map]; rfl, Nat.zero_le _, rfl, trivial⟩
  · rintro d rest ρ ⟨j, s, e, hj, rfl, fr⟩ K hK
    have hlt : j < o.length := by
      rcases Nat.lt_or_ge j o.length with h | h
      · exact h
      · rw [show o.length - j = 0 by omega] at e
        cases e
    rw [show o.length - j = (o.length - (j + 1)) + 1 by omega] at e
    cases e
    have hat : (o.map ordD)[j]? = some (ordD o[j]) := by rw [List.getElem?_map, List.getElem?_eq_getElem hlt]; rfl
    have rg := ok.rng o[j] (List.getElem_mem hlt)
    refine ⟨fr, ?_⟩
    refine ixL_nat hat ?_
    refine iteD (fun _ => ?_) (fun h => absurd rg.1 h)
    show if (!decide ((o[j]).1 < 12)) = true then _ else _
    rw [decide_eq_true rg.2]
    refine ixL_nat hat ?_
    refine lc_map (ρ1 := [.val (orderD o), .val (.int (j : Nat)), .un]) (o.take j) ordD (fun p => .int p.1) (fun Ψ h => ?_) (by rw [List.length_take]; omega) (.inl rfl) (fun p _ Ψ h => h) ?_
    · have e : Ψ (cutD (o.map ordD) none (some (j : Int))) [.val (orderD o), .val (.int (j : Nat)), .un] := by
        rw [cutD_take, ← List.map_take]
        exact h
      exact e
    · have em : (o.take j).map (fun p => D.int p.1) = ((o.take j).map (·.1)).map D.int := by rw [List.map_map]; rfl
      refine ⟨ok_int _ _, ?_, ?_⟩
      · rw [em]
        exact okL_map D.int fun _ _ => ok_int _ _
      · rw [em, any_map D.int eqv_int]
        have nin : ¬ (o[j]).1 ∈ (o.take j).map (·.1) := by
          intro h
          have nd := ok.nd
          have e2 : o.map (·.1) = (o.take j).map (·.1) ++ (o[j]).1 :: (o.drop (j + 1)).map (·.1) := by
            rw [← List.map_cons, ← List.map_append, ← List.drop_eq_getElem_cons hlt, List.take_append_drop]
          rw [e2] at nd
          exact (List.nodup_append.mp nd).2.2 _ h _ List.mem_cons_self rfl
        rw [decide_eq_false nin]
        exact hK _ ⟨j + 1, .val (.int (j : Nat)), by push_cast; rfl, hlt, rfl, trivial⟩
  · rintro ρ ⟨j, s, e, hj, rfl, fr⟩
    exact k
/-! ### which card comes first -/
theorem eqv_pair (a b : Int × Int) : D.eqv (pairD a) (pairD b) = decide (a = b) := by
  have := eqv_col [a.1, a.2] [b.1, b.2]
  refine this.trans ?_
  by_cases h : a = b
  · rw [h]; simp
  · rw [decide_eq_false h, decide_eq_false fun e => h (Prod.ext (by simp at e; exact e.1) (by simp at e; exact e.2))]
theorem ok_pair (a : Int × Int) (n : Nat) : (pairD a).okN (n + 1) = true := ok_col [a.1, a.2] n
def F_is_ahead : DF := fun xs Φ => ∃ (x y : Card) (o : Order), xs = [cardD x, cardD y, orderD o] ∧ (∀ p ∈ o, 0 ≤ p.1) ∧ Φ (.val (.bl (ltO o x y)))
/- slots of is_ahead: 0 one, 1 other, 2 order, 3 column, 4 falling, 5 mine, 6 theirs -/
def b_is_ahead : DS := (dSeq (dFor (diAny (dVar 2)) (dgTup 2 (dgCons (dgName 3) (dgCons (dgName 4) dgNil))) (dSeq (dSet 5 (dR (dV (dCall F_key_of (dCons (dV (dCall F_column_of (dCons (dVar 0) (dCons (dVar 3) dNil)))) dNil)))))
  (dSeq (dSet 6 (dR (dV (dCall F_key_of (dCons (dV (dCall F_column_of (dCons (dVar 1) (dCons (dVar 3) dNil)))) dNil)))))
  (dIfS (dTest (dOp neD (dVar 5) (dVar 6))) (dRet (dR (dOp eqD (dOp gtD (dVar 5) (dVar 6)) (dVar 4)))) dNext))))
  (dRet (dR (dC (.bl false)))))
def fr4 (x y : Card) (o : Order) (a b c d : Sl) : List Sl := [.val (cardD x), .val (cardD y), .val (orderD o), a, b, c, d]
theorem rd_is_ahead : ∀ xs Φ, F_is_ahead xs Φ → b_is_ahead (rtV Φ) (slots xs 7) := by
  rintro xs Φ ⟨x, y, o, rfl, hp, k⟩
  refine for_open ?_
  show dForL _ _ _ (o.map ordD) _
  refine forL_inv (fun rest ρ => ∃ (post : Order) (a b c d : Sl), rest = post.map ordD ∧ (∀ p ∈ post, 0 ≤ p.1) ∧ Φ (.val (.bl (ltO post x y))) ∧ ρ = [.val (cardD x), .val (cardD y), .val (orderD o), a, b, c, d] ∧ (a = .un ∨ ∃ z, a = .val z) ∧ (b = .un ∨ ∃ z, b = .val z) ∧ (c = .un ∨ ∃ z, c = .val z) ∧ (d = .un ∨ ∃ z, d = .val z)) ?_ ?_
    ⟨o, .un, .un, .un, .un, rfl, hp, k, rfl, .inl rfl, .inl rfl, .inl rfl, .inl rfl⟩
  · rintro d rest ρ ⟨post, s1, s2, s3, s4, e, hp, k, rfl, f1, f2, f3, f4⟩ K hK
    cases post with
    | nil => cases e
    | cons p post =>
      cases e
      have h0 := hp p List.mem_cons_self
      refine ⟨rfl, ?_, ?_, x, p.1, rfl, h0, _, rfl, ?_, y, p.1, rfl, h0, _, rfl, ?_, ?_⟩
      · rcases f1 with rfl | ⟨_, rfl⟩ <;> trivial
      · rcases f2 with rfl | ⟨_, rfl⟩ <;> trivial
      · rcases f3 with rfl | ⟨_, rfl⟩ <;> trivial
      · rcases f4 with rfl | ⟨_, rfl⟩ <;> trivial
      · refine ⟨ok_pair _ _, ok_pair _ _, ?_⟩
        rw [eqv_pair]
        unfold ltO keyAt at k
        by_cases c : keyOf (colAt x p.1) = keyOf (colAt y p.1)
        · rw [if_pos c] at k
          rw [decide_eq_true c]
          exact hK _ ⟨post, .val (.int p.1), .val (.bl p.2), .val (pairD (keyOf (colAt x p.1))), .val (pairD (keyOf (colAt y p.1))), rfl, fun q hq => hp q (List.mem_cons_of_mem _ hq), k, rfl, .inr ⟨_, rfl⟩, .inr ⟨_, rfl⟩, .inr ⟨_, rfl⟩, .inr ⟨_, rfl⟩⟩
        · rw [if_neg c] at k
          rw [decide_eq_false c]
          have main : ltC p x y = (decide ((keyOf (colAt y p.1)).1 < (keyOf (colAt x p.1)).1 ∨ ((keyOf (colAt x p.1)).1 = (keyOf (colAt y p.1)).1 ∧ (keyOf (colAt y p.1)).2 < (keyOf (colAt x p.1)).2)) == p.2) := by
            unfold ltC keyAt
            generalize keyOf (colAt x p.1) = a at c ⊢
            generalize keyOf (colAt y p.1) = b at c ⊢
            have c' : ¬ (a.1 = b.1 ∧ a.2 = b.2) := fun h => c (Prod.ext h.1 h.2)
            cases p.2 with
            | true =>
              rw [if_pos rfl, Bool.eq_iff_iff, SrtO.lexB_iff]
              simp
              omega
            | false =>
              rw [if_neg (by decide), Bool.eq_iff_iff, SrtO.lexB_iff]
              simp
              omega
          rw [main] at k
          refine ⟨ok_bl _ _, ok_bl _ _, ?_⟩
          exact k
  · rintro ρ ⟨post, s1, s2, s3, s4, e, hp, k, rfl, f1, f2, f3, f4⟩
    cases post with
    | nil => exact k
    | cons _ _ => cases e
def F_is_like : DF := fun xs Φ => ∃ (x y : Card) (o : Order), xs = [cardD x, cardD y, orderD o] ∧ (∀ p ∈ o, 0 ≤ p.1) ∧ Φ (.val (.bl (SrtO.eqv (ltO o) x y)))
/- slots of is_like: 0 one, 1 other, 2 order -/
def b_is_like : DS := (dRet (dR (dAndV (dNotV (dV (dCall F_is_ahead (dCons (dVar 0) (dCons (dVar 1) (dCons (dVar 2) dNil)))))) (dNotV (dV (dCall F_is_ahead (dCons (dVar 1) (dCons (dVar 0) (dCons (dVar 2) dNil)))))))))
theorem rd_is_like : ∀ xs Φ, F_is_like xs Φ → b_is_like (rtV Φ) (slots xs 3) := by
  rintro xs Φ ⟨x, y, o, rfl, hp, k⟩
  refine ⟨x, y, o, rfl, hp, ?_⟩
  unfold SrtO.eqv at k
  show if (!ltO o x y) = true then _ else _
  cases h : ltO o x y with
  | true =>
    rw [h] at k
    exact k
  | false =>
    rw [h] at k
    exact ⟨y, x, o, rfl, hp, k⟩
end DL
set_option Elab.async false
set_option linter.all false
set_option maxRecDepth 100000
set_option maxHeartbeats 2000000
namespace DL
open PySem PySem.Spec PyProof.Rows L2 RT

/-! ### plainly -/
def sortO (o : Order) (d : List Card) : List Card := sortOf (ltO o) d
theorem sortO_len (o : Order) (d : List Card) : (sortO o d).length = d.length := (sortOf_perm (ltO_swo o) d).length_eq
theorem sortO_mem {o : Order} {d : List Card} {P : Card → Prop} (h : ∀ c ∈ d, P c) : ∀ c ∈ sortO o d, P c := fun c hc => h c ((sortOf_perm (ltO_swo o) d).subset hc)
def F_plainly : DF := fun xs Φ => ∃ (d : List Card) (o : Order), xs = [deckD d, orderD o] ∧ OrderOk o ∧ d.length ≤ 1000 ∧ Φ (.own ((sortO o d).map cardD))
/- slots of plainly: 0 deck, 1 order, 2 found, 3 card, 4 place -/
def b_plainly : DS := (dSeq (dDrop (dCall F_need_order (dCons (dVar 1) dNil)))
  (dSeq (dSet 2 (dLst dNil))
  (dSeq (dFor (diAny (dVar 0)) (dgName 3) (dSeq (dSet 4 (dR (dV (dLenOwn 2))))
  (dSeq (dWhile (dAnd (dTest (dOp gtD (dVar 4) (dC (.int 0)))) (dTest (dV (dCall F_is_ahead (dCons (dVar 3) (dCons (dOp ixD (dVar 2) (dOp subD (dVar 4) (dC (.int 1)))) (dCons (dVar 1) dNil))))))) (dSet 4 (dR (dOp subD (dVar 4) (dC (.int 1))))))
  (dSet 2 (dOpR addD (dV (dOpR addD (dV (dSl (dVar 2) dNoPart (dPart (dVar 4)))) (dV (dLst (dCons (dVar 3) dNil))))) (dV (dSl (dVar 2) (dPart (dVar 4)) dNoPart)))))))
  (dRetM 2))))
theorem rd_plainly : ∀ xs Φ, F_plainly xs Φ → b_plainly (rtV Φ) (slots xs 5) := by
  rintro xs Φ ⟨d, o, rfl, ok, hl, k⟩
  have h0 : ∀ p ∈ o, 0 ≤ p.1 := fun p hp => (ok.rng p hp).1
  have O := ltO_swo o
  refine ⟨o, rfl, ok, by simp, trivial, ?_⟩
  refine for_open ?_
  show dForL _ _ _ (d.map cardD) _
  refine forL_inv (fun rest ρ => ∃ (pre post l : List Card) (s3 s4 : Sl), d = pre ++ post ∧ rest = post.map cardD ∧ SrtO.Srtd (ltO o) l ∧ SrtO.Stb (ltO o) l pre ∧ ρ = [.val (deckD d), .val (orderD o), .own (l.map cardD), s3, s4] ∧ (s3 = .un ∨ ∃ z, s3 = .val z) ∧ (s4 = .un ∨ ∃ z, s4 = .val z)) ?_ ?_
    ⟨[], d, [], .un, .un, rfl, rfl, List.Pairwise.nil, SrtO.Stb.refl _, rfl, .inl rfl, .inl rfl⟩
  · rintro x rest ρ ⟨pre, post, l, s3, s4, e1, e2, hs, hb, rfl, f3, f4⟩ K hK
    cases post with
    | nil => cases e2
    | cons c post =>
      cases e2
      have ll : l.length ≤ 1000 := by
        rw [hb.len]
        have := congrArg List.length e1
        rw [List.length_append] at this
        omega
      refine ⟨by rcases f3 with rfl | ⟨_, rfl⟩ <;> trivial, by rcases f4 with rfl | ⟨_, rfl⟩ <;> trivial, ?_⟩
      refine while_open (fun m ρ => ∃ s2, (s2 = .own (l.map cardD) ∨ s2 = .val (deckD l)) ∧ m ≤ l.length ∧ (∀ x ∈ l.drop m, ltO o c x = true) ∧ ρ = [.val (deckD d), .val (orderD o), s2, .val (cardD c), .val (.int (m : Nat))]) l.length ⟨.own (l.map cardD), .inl rfl, Nat.le_refl _, by rw [List.drop_length]; exact fun x h => (nomatch h), by rw [List.length_map]; rfl⟩ ?_
      rintro m ρ ⟨s2, f2, hm, hd, rfl⟩ K2 hK2
      have fin : (∀ x ∈ l.take m, ltO o c x = false) → dSet 2 (dOpR addD (dV (dOpR addD (dV (dSl (dVar 2) dNoPart (dPart (dVar 4)))) (dV (dLst (dCons (dVar 3) dNil))))) (dV (dSl (dVar 2) (dPart (dVar 4)) dNoPart)))
          { rtV Φ with nx := K, ct := K, bk := dRetM 2 (rtV Φ) } [.val (deckD d), .val (orderD o), .val (deckD l), .val (cardD c), .val (.int (m : Nat))] := by
        intro ht
        have hs' : SrtO.Srtd (ltO o) (l.take m ++ l.drop m) := by rw [List.take_append_drop]; exact hs
        have hb' : SrtO.Stb (ltO o) (l.take m ++ l.drop m) pre := by rw [List.take_append_drop]; exact hb
        have r1 := SrtO.ins_srtd O hs' ht hd
        have r2 := SrtO.ins_stb O hd hb'
        have l1 : (l.take m).length ≤ 1000 := by rw [List.length_take]; omega
        have l2 : (l.drop m).length ≤ 1000 := by rw [List.length_drop]; omega
        have e3 : cutD (l.map cardD) none (some ((m : Nat) : Int)) = (l.take m).map cardD := by rw [cutD_take, List.map_take]
        have e4 : cutD (l.map cardD) (some ((m : Nat) : Int)) none = (l.drop m).map cardD := by rw [cutD_drop, List.map_drop]
        have goal : (cutD (l.map cardD) none (some ((m : Nat) : Int))).length + 1 ≤ 1000000 ∧ (cutD (l.map cardD) none (some ((m : Nat) : Int)) ++ [cardD c]).length + (cutD (l.map cardD) (some ((m : Nat) : Int)) none).length ≤ 1000000 ∧
            K [.val (deckD d), .val (orderD o), .own (cutD (l.map cardD) none (some ((m : Nat) : Int)) ++ [cardD c] ++ cutD (l.map cardD) (some ((m : Nat) : Int)) none), .val (cardD c), .val (.int (m : Nat))] := by
          rw [e3, e4]
          refine ⟨by rw [List.length_map]; omega, by rw [List.length_append, List.length_map, List.length_map, List.length_singleton]; omega, hK _ ⟨pre ++ [c], post, l.take m ++ c :: l.drop m, .val (cardD c), .val (.int (m : Nat)), by rw [e1, List.append_assoc]; rfl, rfl, r1, r2, ?_, .inr ⟨_, rfl⟩, .inr ⟨_, rfl⟩⟩⟩
          simp
        obtain ⟨g1, g2, g3⟩ := goal
        exact ⟨by simp, g1, g2, trivial, g3⟩
      have fin2 : (∀ x ∈ l.take m, ltO o c x = false) → dSet 2 (dOpR addD (dV (dOpR addD (dV (dSl (dVar 2) dNoPart (dPart (dVar 4)))) (dV (dLst (dCons (dVar 3) dNil))))) (dV (dSl (dVar 2) (dPart (dVar 4)) dNoPart)))
          { rtV Φ with nx := K, ct := K, bk := dRetM 2 (rtV Φ) } [.val (deckD d), .val (orderD o), s2, .val (cardD c), .val (.int (m : Nat))] := by
        intro ht
        rcases f2 with rfl | rfl
        · exact fin ht
        · exact fin ht
      refine iteD (fun hpos => ?_) (fun hpos => ?_)
      · have hm1 : m - 1 < l.length := by omega
        have hat : (l.map cardD)[m - 1]? = some (cardD l[m - 1]) := by rw [List.getElem?_map, List.getElem?_eq_getElem hm1]; rfl
        have ei : ((m : Nat) : Int) - 1 = ((m - 1 : Nat) : Int) := by omega
        have test : ∀ ρ' : List Sl, ρ' = [.val (deckD d), .val (orderD o), .val (deckD l), .val (cardD c), .val (.int (m : Nat))] → ∀ Ψ : Bool → List Sl → Prop, Ψ (ltO o c l[m - 1]) ρ' → ixL (l.map cardD) (.int (((m : Nat) : Int) - 1)) fun z => F_is_ahead [cardD c, z, orderD o] fun r => asD (fun x ρ1 => match x with | .bl b => Ψ b ρ1 | _ => False) r ρ' := by
          intro ρ' _ Ψ h
          rw [ei]
          exact ixL_nat hat ⟨c, l[m - 1], o, rfl, h0, h⟩
        have go : ∀ Ψ : Bool → List Sl → Prop, Ψ (ltO o c l[m - 1]) [.val (deckD d), .val (orderD o), .val (deckD l), .val (cardD c), .val (.int (m : Nat))] →
            dTest (dV (dCall F_is_ahead (dCons (dVar 3) (dCons (dOp ixD (dVar 2) (dOp subD (dVar 4) (dC (.int 1)))) (dCons (dVar 1) dNil))))) [.val (deckD d), .val (orderD o), s2, .val (cardD c), .val (.int (m : Nat))] Ψ := by
          intro Ψ h
          rcases f2 with rfl | rfl
          · exact test _ rfl Ψ h
          · exact test _ rfl Ψ h
        refine go _ ?_
        cases hlt : ltO o c l[m - 1] with
        | true =>
          refine ⟨trivial, hK2 (m - 1) _ (by omega) ⟨.val (deckD l), .inr rfl, by omega, fun x hx => ?_, by rw [← ei]; rfl⟩⟩
          rw [List.drop_eq_getElem_cons hm1] at hx
          rcases List.mem_cons.mp hx with e | hx
          · rw [e]; exact hlt
          · rw [show m - 1 + 1 = m by omega] at hx
            exact hd x hx
        | false =>
          refine fin fun x hx => ?_
          have et : l.take m = l.take (m - 1) ++ [l[m - 1]] := by
            have := List.take_append_getElem hm1
            rw [show m - 1 + 1 = m by omega] at this
            exact this.symm
          rw [et] at hx
          rcases List.mem_append.mp hx with hx | hx
          · have hs2 : SrtO.Srtd (ltO o) (l.take m) := hs.sublist (List.take_sublist _ _)
            rw [et] at hs2
            have h2 := (SrtO.srtd_app.mp hs2).2.2 x hx l[m - 1] (List.mem_singleton.mpr rfl)
            exact O.tr x l[m - 1] c h2 hlt
          · rw [List.mem_singleton.mp hx]; exact hlt
      · have m0 : m = 0 := by omega
        exact fin2 (by rw [m0]; exact fun x h => nomatch h)
  · rintro ρ ⟨pre, post, l, s3, s4, e1, e2, hs, hb, rfl, f3, f4⟩
    have : post = [] := by
      cases post with
      | nil => rfl
      | cons _ _ => cases e2
    subst this
    rw [List.append_nil] at e1
    subst e1
    have := sort_uniq O hs hb
    rw [sortO, ← this] at k
    exact k
end DL
set_option Elab.async false
set_option linter.all false
set_option maxRecDepth 100000
set_option maxHeartbeats 2000000
namespace DL
open PySem PySem.Spec PyProof.Rows L2 RT

theorem rng_stop {j n : Nat} {d : D} {rest : List D} {i c : Int} (e : d :: rest = rng (n - j) i c) : j < n := by
  rcases Nat.lt_or_ge j n with h | h
  · exact h
  · rw [show n - j = 0 by omega] at e
    cases e
theorem rng_step {j n : Nat} (h : j < n) (i c : Int) : rng (n - j) i c = .int i :: rng (n - (j + 1)) (i + c) c := by
  rw [show n - j = (n - (j + 1)) + 1 by omega]
  rfl
def dat (s : Sl) : Prop := s = .un ∨ ∃ d, s = .val d
theorem dat.free {ρ : List Sl} {i : Nat} {s : Sl} (h : dat s) (e : ρ[i]? = some s) : free ρ i := by
  unfold DL.free
  rw [e]
  rcases h with rfl | ⟨d, rfl⟩ <;> trivial
theorem dat.un : dat .un := .inl rfl
theorem dat.val (d : D) : dat (.val d) := .inr ⟨d, rfl⟩
/-! ### need_sorted -/
def F_need_sorted : DF := fun xs Φ => ∃ (ds : List (List Card)) (o : Order), xs = [.lst (ds.map deckD), orderD o] ∧ OrderOk o ∧ ds.length ≤ 1000 ∧ (∀ d ∈ ds, d.length ≤ 1000 ∧ SrtO.Srtd (ltO o) d) ∧ Φ (.val .non)
/- slots of need_sorted: 0 decks, 1 order, 2 number, 3 at -/
def b_need_sorted : DS := (dSeq (dDrop (dCall F_need_order (dCons (dVar 1) dNil)))
  (dFor (diRng1 (dV (dCB lenD (dCons (dVar 0) dNil)))) (dgName 2) (dFor (diRng2 (dC (.int 1)) (dV (dCB lenD (dCons (dOp ixD (dVar 0) (dVar 2)) dNil)))) (dgName 3) (dIfS (dTest (dV (dCall F_is_ahead (dCons (dOp ixD (dOp ixD (dVar 0) (dVar 2)) (dVar 3)) (dCons (dOp ixD (dOp ixD (dVar 0) (dVar 2)) (dOp subD (dVar 3) (dC (.int 1)))) (dCons (dVar 1) dNil)))))) (fun _ _ => False) dNext))))
theorem rd_need_sorted : ∀ xs Φ, F_need_sorted xs Φ → b_need_sorted (rtV Φ) (slots xs 4) := by
  rintro xs Φ ⟨ds, o, rfl, ok, hl, hd, k⟩
  have h0 : ∀ p ∈ o, 0 ≤ p.1 := fun p hp => (ok.rng p hp).1
  refine ⟨o, rfl, ok, ?_⟩
  refine for_open ⟨(by unfold inR; rw [List.length_map]; omega), ?_⟩
  refine forL_inv (fun rest ρ => ∃ (j : Nat) (s2 s3 : Sl), rest = rng (ds.length - j) j 1 ∧ dat s2 ∧ dat s3 ∧ ρ = [.val (.lst (ds.map deckD)), .val (orderD o), s2, s3]) ?_ ?_ ⟨0, .un, .un, by rw [List.length_map]; rfl, .un, .un, rfl⟩
  · rintro x rest ρ ⟨j, s2, s3, e, f2, f3, rfl⟩ K hK
    have hj := rng_stop e
    rw [rng_step hj] at e
    cases e
    refine ⟨f2.free rfl, ?_⟩
    obtain ⟨hdl, hds⟩ := hd ds[j] (List.getElem_mem hj)
    generalize hD : ds[j] = dk at hdl hds
    have hat : (ds.map deckD)[j]? = some (deckD dk) := by rw [List.getElem?_map, List.getElem?_eq_getElem hj, hD]; rfl
    refine for_open ?_
    refine ixL_nat hat ?_
    refine ⟨(by unfold inR; decide), (by unfold inR; rw [List.length_map]; omega), ?_⟩
    have er : ((((dk.map cardD).length : Nat) : Int) - 1).toNat = dk.length - 1 := by rw [List.length_map]; omega
    rw [er]
    refine forL_inv (fun rest ρ => ∃ (i : Nat) (s3 : Sl), 1 ≤ i ∧ rest = rng (dk.length - i) i 1 ∧ dat s3 ∧ ρ = [.val (.lst (ds.map deckD)), .val (orderD o), .val (.int (j : Nat)), s3]) ?_ ?_ ⟨1, s3, Nat.le_refl _, rfl, f3, rfl⟩
    · rintro y rest ρ ⟨i, s3, hi, e, f3, rfl⟩ K2 hK2
      have hlt := rng_stop e
      rw [rng_step hlt] at e
      cases e
      have hi1 : i - 1 < dk.length := by omega
      have a1 : (dk.map cardD)[i]? = some (cardD dk[i]) := by rw [List.getElem?_map, List.getElem?_eq_getElem hlt]; rfl
      have a2 : (dk.map cardD)[i - 1]? = some (cardD dk[i - 1]) := by rw [List.getElem?_map, List.getElem?_eq_getElem hi1]; rfl
      have no : ltO o dk[i] dk[i - 1] = false := (List.pairwise_iff_getElem.mp hds) (i - 1) i hi1 hlt (by omega)
      refine ⟨f3.free rfl, ?_⟩
      refine ixL_nat hat ?_
      refine ixL_nat a1 ?_
      refine ixL_nat hat ?_
      have ei : ((i : Nat) : Int) - 1 = ((i - 1 : Nat) : Int) := by omega
      have step : ∀ ρ' : List Sl, ∀ Ψ : D → Prop, Ψ (cardD dk[i - 1]) → ixL (dk.map cardD) (.int (((i : Nat) : Int) - 1)) Ψ := by
        intro ρ' Ψ h
        rw [ei]
        exact ixL_nat a2 h
      refine step [] _ ?_
      refine ⟨dk[i], dk[i - 1], o, rfl, h0, ?_⟩
      rw [no]
      exact hK2 _ ⟨i + 1, .val (.int (i : Nat)), by omega, by push_cast; rfl, .val _, rfl⟩
    · rintro ρ ⟨i, s3, hi, e, f3, rfl⟩
      exact hK _ ⟨j + 1, .val (.int (j : Nat)), s3, by push_cast; rfl, .val _, f3, rfl⟩
  · rintro ρ ⟨j, s2, s3, e, f2, f3, rfl⟩
    exact k
/-! ### laid -/
def F_laid : DF := fun xs Φ => ∃ (a b : List Card) (o : Order), xs = [deckD a, deckD b, orderD o] ∧ OrderOk o ∧ a.length ≤ 1000 ∧ b.length ≤ 1000 ∧ SrtO.Srtd (ltO o) a ∧ SrtO.Srtd (ltO o) b ∧ Φ (.own ((sortO o (a ++ b)).map cardD))
/- slots of laid: 0 one, 1 other, 2 order, 3 found, 4 mine, 5 theirs, 6 takes -/
def b_laid : DS := (dSeq (dDrop (dCall F_need_sorted (dCons (dV (dLst (dCons (dVar 0) (dCons (dVar 1) dNil)))) (dCons (dVar 2) dNil))))
  (dSeq (dSet 3 (dLst dNil))
  (dSeq (dSet 4 (dR (dC (.int 0))))
  (dSeq (dSet 5 (dR (dC (.int 0))))
  (dSeq (dWhile (dOr (dTest (dOp ltD (dVar 4) (dV (dCB lenD (dCons (dVar 0) dNil))))) (dTest (dOp ltD (dVar 5) (dV (dCB lenD (dCons (dVar 1) dNil)))))) (dSeq (dSet 6 (dR (dOp eqD (dVar 5) (dV (dCB lenD (dCons (dVar 1) dNil))))))
  (dSeq (dIfS (dAnd (dTest (dOp ltD (dVar 4) (dV (dCB lenD (dCons (dVar 0) dNil))))) (dTest (dOp ltD (dVar 5) (dV (dCB lenD (dCons (dVar 1) dNil)))))) (dSet 6 (dR (dNotV (dV (dCall F_is_ahead (dCons (dOp ixD (dVar 1) (dVar 5)) (dCons (dOp ixD (dVar 0) (dVar 4)) (dCons (dVar 2) dNil)))))))) dNext)
  (dIfS (dTest (dVar 6)) (dSeq (dDrop (dApp 3 (dOp ixD (dVar 0) (dVar 4))))
  (dSet 4 (dR (dV (dOpR addD (dVar 4) (dC (.int 1))))))) (dSeq (dDrop (dApp 3 (dOp ixD (dVar 1) (dVar 5))))
  (dSet 5 (dR (dV (dOpR addD (dVar 5) (dC (.int 1)))))))))))
  (dRetM 3))))))
theorem rd_laid : ∀ xs Φ, F_laid xs Φ → b_laid (rtV Φ) (slots xs 7) := by
  rintro xs Φ ⟨a, b, o, rfl, ok, la, lb, sa, sb, k⟩
  have h0 : ∀ p ∈ o, 0 ≤ p.1 := fun p hp => (ok.rng p hp).1
  have O := ltO_swo o
  refine ⟨by simp, [a, b], o, rfl, ok, by simp, fun d hd => ?_, ?_⟩
  · rcases List.mem_cons.mp hd with e | hd
    · rw [e]; exact ⟨la, sa⟩
    · rw [List.mem_singleton.mp hd]; exact ⟨lb, sb⟩
  refine ⟨by simp, trivial, trivial, trivial, ?_⟩
  refine while_open (fun m ρ => ∃ (i j : Nat) (out : List Card) (s6 : Sl), m = (a.length - i) + (b.length - j) ∧ i ≤ a.length ∧ j ≤ b.length ∧ out.length = i + j ∧ SrtO.MLo (ltO o) out (a.drop i) (b.drop j) (a ++ b) ∧ dat s6 ∧ ρ = [.val (deckD a), .val (deckD b), .val (orderD o), .own (out.map cardD), .val (.int (i : Nat)), .val (.int (j : Nat)), s6]) (a.length + b.length)
    ⟨0, 0, [], .un, rfl, Nat.zero_le _, Nat.zero_le _, rfl, ⟨sa, sb, SrtO.Stb.refl _⟩, .un, rfl⟩ ?_
  rintro m ρ ⟨i, j, out, s6, hm, hi, hj, ho, ml, f6, rfl⟩ K hK
  -- one card of the first
  have takeA : ∀ (hia : i < a.length), (∀ y ∈ b.drop j, ltO o y a[i] = false) → K [.val (deckD a), .val (deckD b), .val (orderD o), .own ((out ++ [a[i]]).map cardD), .val (.int ((i : Nat) + 1)), .val (.int (j : Nat)), .val (.bl true)] := fun hia h => by
    refine hK (m - 1) _ (by omega) ⟨i + 1, j, out ++ [a[i]], .val (.bl true), by omega, hia, hj, by rw [List.length_append, List.length_singleton, ho]; omega, ?_, .val _, by push_cast; rfl⟩
    refine SrtO.MLo.a (A1 := [a[i]]) ?_ fun x hx y hy => by rw [List.mem_singleton.mp hx]; exact h y hy
    have : a.drop i = [a[i]] ++ a.drop (i + 1) := List.drop_eq_getElem_cons hia
    rw [← this]
    exact ml
  have takeB : ∀ (hjb : j < b.length), (∀ x ∈ a.drop i, ltO o b[j] x = true) → K [.val (deckD a), .val (deckD b), .val (orderD o), .own ((out ++ [b[j]]).map cardD), .val (.int (i : Nat)), .val (.int ((j : Nat) + 1)), .val (.bl false)] := fun hjb h => by
    refine hK (m - 1) _ (by omega) ⟨i, j + 1, out ++ [b[j]], .val (.bl false), by omega, hi, hjb, by rw [List.length_append, List.length_singleton, ho]; omega, ?_, .val _, by push_cast; rfl⟩
    refine SrtO.MLo.b O (B1 := [b[j]]) ?_ fun y hy x hx => by rw [List.mem_singleton.mp hy]; exact h x hx
    have : b.drop j = [b[j]] ++ b.drop (j + 1) := List.drop_eq_getElem_cons hjb
    rw [← this]
    exact ml
  have outl : (out.map cardD).length ≤ 1000000 := by rw [List.length_map, ho]; omega
  have atA : ∀ (hia : i < a.length) (Ψ : D → Prop), Ψ (cardD a[i]) → ixL (a.map cardD) (.int (i : Nat)) Ψ := fun hia Ψ h => ixL_nat (by rw [List.getElem?_map, List.getElem?_eq_getElem hia]; rfl) h
  have atB : ∀ (hjb : j < b.length) (Ψ : D → Prop), Ψ (cardD b[j]) → ixL (b.map cardD) (.int (j : Nat)) Ψ := fun hjb Ψ h => ixL_nat (by rw [List.getElem?_map, List.getElem?_eq_getElem hjb]; rfl) h
  have eA : ∀ x, (out ++ [x]).map cardD = out.map cardD ++ [cardD x] := fun x => by simp
  have srtA : ∀ (hia : i < a.length), ∀ x ∈ a.drop i, ltO o x a[i] = false := fun hia x hx => by
    have hs : SrtO.Srtd (ltO o) (a.drop i) := sa.sublist (List.drop_sublist _ _)
    rw [List.drop_eq_getElem_cons hia] at hx hs
    rcases List.mem_cons.mp hx with e | hx
    · rw [e]; exact O.refl _
    · exact SrtO.srtd_head hs x hx
  have srtB : ∀ (hjb : j < b.length), ∀ x ∈ b.drop j, ltO o x b[j] = false := fun hjb x hx => by
    have hs : SrtO.Srtd (ltO o) (b.drop j) := sb.sublist (List.drop_sublist _ _)
    rw [List.drop_eq_getElem_cons hjb] at hx hs
    rcases List.mem_cons.mp hx with e | hx
    · rw [e]; exact O.refl _
    · exact SrtO.srtd_head hs x hx
  have cA : decide (((i : Nat) : Int) < (((a.map cardD).length : Nat) : Int)) = decide (i < a.length) := by rw [List.length_map]; simp
  have cB : decide (((j : Nat) : Int) < (((b.map cardD).length : Nat) : Int)) = decide (j < b.length) := by rw [List.length_map]; simp
  have body : (i < a.length ∨ j < b.length) → (dSeq (dSet 6 (dR (dOp eqD (dVar 5) (dV (dCB lenD (dCons (dVar 1) dNil))))))
  (dSeq (dIfS (dAnd (dTest (dOp ltD (dVar 4) (dV (dCB lenD (dCons (dVar 0) dNil))))) (dTest (dOp ltD (dVar 5) (dV (dCB lenD (dCons (dVar 1) dNil)))))) (dSet 6 (dR (dNotV (dV (dCall F_is_ahead (dCons (dOp ixD (dVar 1) (dVar 5)) (dCons (dOp ixD (dVar 0) (dVar 4)) (dCons (dVar 2) dNil)))))))) dNext)
  (dIfS (dTest (dVar 6)) (dSeq (dDrop (dApp 3 (dOp ixD (dVar 0) (dVar 4))))
  (dSet 4 (dR (dV (dOpR addD (dVar 4) (dC (.int 1))))))) (dSeq (dDrop (dApp 3 (dOp ixD (dVar 1) (dVar 5))))
  (dSet 5 (dR (dV (dOpR addD (dVar 5) (dC (.int 1)))))))))) { rtV Φ with nx := K, ct := K, bk := dRetM 3 (rtV Φ) } [.val (deckD a), .val (deckD b), .val (orderD o), .own (out.map cardD), .val (.int (i : Nat)), .val (.int (j : Nat)), s6] := by
    intro hor
    refine ⟨ok_int _ _, ok_int _ _, f6.free rfl, ?_⟩
    rw [eqv_int]
    have eqB : decide (((j : Nat) : Int) = (((b.map cardD).length : Nat) : Int)) = decide (j = b.length) := by
      rw [List.length_map]
      by_cases h : j = b.length
      · rw [decide_eq_true h, decide_eq_true (by omega)]
      · rw [decide_eq_false h, decide_eq_false (by omega)]
    rw [eqB]
    have last : ∀ t : Bool, (t = true → i < a.length ∧ ∀ (hia : i < a.length), ∀ y ∈ b.drop j, ltO o y a[i] = false) → (t = false → j < b.length ∧ ∀ (hjb : j < b.length), ∀ x ∈ a.drop i, ltO o b[j] x = true) →
        dIfS (dTest (dVar 6)) (dSeq (dDrop (dApp 3 (dOp ixD (dVar 0) (dVar 4)))) (dSet 4 (dR (dV (dOpR addD (dVar 4) (dC (.int 1))))))) (dSeq (dDrop (dApp 3 (dOp ixD (dVar 1) (dVar 5)))) (dSet 5 (dR (dV (dOpR addD (dVar 5) (dC (.int 1)))))))
          { rtV Φ with nx := K, ct := K, bk := dRetM 3 (rtV Φ) } [.val (deckD a), .val (deckD b), .val (orderD o), .own (out.map cardD), .val (.int (i : Nat)), .val (.int (j : Nat)), .val (.bl t)] := by
      intro t ht hf
      cases t with
      | true =>
        obtain ⟨hia, h⟩ := ht rfl
        have kk := takeA hia (h hia)
        rw [eA] at kk
        refine atA hia _ ?_
        exact ⟨outl, trivial, kk⟩
      | false =>
        obtain ⟨hjb, h⟩ := hf rfl
        have kk := takeB hjb (h hjb)
        rw [eA] at kk
        refine atB hjb _ ?_
        exact ⟨outl, trivial, kk⟩
    refine iteB (fun h1 => ?_) (fun h1 => ?_)
    · rw [cA] at h1
      have hia : i < a.length := of_decide_eq_true h1
      refine iteB (fun h2 => ?_) (fun h2 => ?_)
      · rw [cB] at h2
        have hjb : j < b.length := of_decide_eq_true h2
        refine atB hjb _ ?_
        refine atA hia _ ?_
        refine ⟨b[j], a[i], o, rfl, h0, trivial, ?_⟩
        refine last (!ltO o b[j] a[i]) (fun ht => ⟨hia, fun _ y hy => ?_⟩) (fun hf => ⟨hjb, fun _ x hx => ?_⟩)
        · have e : ltO o b[j] a[i] = false := by simpa using ht
          exact O.tr _ _ _ e (srtB hjb y hy)
        · have e : ltO o b[j] a[i] = true := by simpa using hf
          exact O.ltle e (srtA hia x hx)
      · rw [cB] at h2
        have hjb : ¬ j < b.length := of_decide_eq_false h2
        have je : j = b.length := by omega
        refine last (decide (j = b.length)) (fun _ => ⟨hia, fun _ y hy => ?_⟩) (fun hf => absurd je (of_decide_eq_false hf))
        rw [je, List.drop_length] at hy
        cases hy
    · rw [cA] at h1
      have hia : ¬ i < a.length := of_decide_eq_false h1
      have hjb : j < b.length := hor.resolve_left hia
      have ie : i = a.length := by omega
      refine last (decide (j = b.length)) (fun ht => absurd (of_decide_eq_true ht) (by omega)) (fun _ => ⟨hjb, fun _ x hx => ?_⟩)
      rw [ie, List.drop_length] at hx
      cases hx
  refine iteB (fun h1 => ?_) (fun h1 => ?_)
  · rw [cA] at h1
    exact body (.inl (of_decide_eq_true h1))
  · rw [cA] at h1
    refine iteB (fun h2 => ?_) (fun h2 => ?_)
    · rw [cB] at h2
      exact body (.inr (of_decide_eq_true h2))
    · rw [cB] at h2
      have ie : a.length ≤ i := Nat.le_of_not_lt (of_decide_eq_false h1)
      have je : b.length ≤ j := Nat.le_of_not_lt (of_decide_eq_false h2)
      obtain ⟨r1, r2⟩ := ml.done (.inl (List.drop_eq_nil_of_le ie))
      rw [List.drop_eq_nil_of_le ie, List.drop_eq_nil_of_le je, List.append_nil, List.append_nil] at r1 r2
      have := sort_uniq O r1 r2
      rw [sortO, ← this] at k
      exact k
end DL
set_option Elab.async false
set_option linter.all false
set_option maxRecDepth 100000
set_option maxHeartbeats 2000000
namespace DL
open PySem PySem.Spec PyProof.Rows L2 RT

theorem papp_ixT {ρ : List Sl} {i : Nat} {dk de : DE} {Φ : Sl → List Sl → Prop} {q r : Addr} {ts xs : List OT} {j : Nat} {x : D} (hs : ρ[i]? = some (.loc (.tup q ts))) (hk : ∀ Ψ : D → List Sl → Prop, Ψ (.int (j : Nat)) ρ → dk ρ Ψ) (hj : ts[j]? = some (.lst r xs))
    (he : ∀ Ψ : D → List Sl → Prop, Ψ x ρ → de ρ Ψ) (hl : xs.length ≤ 1000000) (k : Φ (.val .non) (ρ.set i (.loc (.tup q (ts.set j (.lst r (xs ++ [.val x]))))))) : dPApp (dpIx (dpVar i) dk) de ρ Φ := by
  have g1 : OT.get (.tup q ts) [.ix j] = some (.lst r xs) := by
    unfold OT.get
    rw [hj]
    unfold OT.get
    rfl
  have g2 : OT.put (.tup q ts) [.ix j] (.lst r (xs ++ [.val x])) = .tup q (ts.set j (.lst r (xs ++ [.val x]))) := by
    unfold OT.put
    rw [hj]
    unfold OT.put
    rfl
  unfold dPApp dpIx dpVar
  rw [hs]
  refine hk _ ?_
  rw [hs]
  show nodeRoot (.tup q ts) (.tup q ts) ∧ 0 ≤ ((j : Nat) : Int) ∧ match ts[((j : Nat) : Int).toNat]? with | some y => _ | none => _
  rw [Int.toNat_natCast, hj]
  refine ⟨⟨rfl, rfl⟩, Int.natCast_nonneg _, trivial, he _ ?_⟩
  rw [hs]
  show match OT.get (.tup q ts) [.ix j] with | some (.lst p xs) => _ | _ => _
  rw [g1]
  refine ⟨rfl, hl, ?_⟩
  show Φ _ (ρ.set i (.loc (OT.put (.tup q ts) [.ix j] (.lst r (xs ++ [.val x])))))
  rw [g2]
  exact k
theorem cons_open {d : DR} {da : DAO} {ρ : List Sl} {Φ : List OT → List Sl → Prop} (h : d ρ (asT fun t ρ1 => da ρ1 fun ts ρ2 => Φ (t :: ts) ρ2)) : doCons d da ρ Φ := by
  unfold doCons
  exact h
/-! ### parted -/
def hasL (o : Order) (other : List Card) (c : Card) : Bool := other.any fun e => SrtO.eqv (ltO o) e c
def cardsT (d : List Card) : List OT := d.map fun c => .val (cardD c)
def partT (o : Order) (d other : List Card) (p q1 q2 : Addr) : OT := .tup p [.lst q1 (cardsT (d.filter (hasL o other))), .lst q2 (cardsT (d.filter fun c => !hasL o other c))]
def F_parted : DF := fun xs Φ => ∃ (d other : List Card) (o : Order), xs = [deckD d, deckD other, orderD o] ∧ OrderOk o ∧ d.length ≤ 1000 ∧ other.length ≤ 1000 ∧ SrtO.Srtd (ltO o) d ∧ SrtO.Srtd (ltO o) other ∧ ∀ p q1 q2, Φ (.loc (partT o d other p q1 q2))
/- slots of parted: 0 deck, 1 other, 2 order, 3 found, 4 at, 5 card, 6 has -/
def b_parted : DS := (dSeq (dDrop (dCall F_need_sorted (dCons (dV (dLst (dCons (dVar 0) (dCons (dVar 1) dNil)))) (dCons (dVar 2) dNil))))
  (dSeq (dSet 3 (dTupO (doCons (dLst dNil) (doCons (dLst dNil) doNil))))
  (dSeq (dSet 4 (dR (dC (.int 0))))
  (dSeq (dFor (diAny (dVar 0)) (dgName 5) (dSeq (dWhile (dAnd (dTest (dOp ltD (dVar 4) (dV (dCB lenD (dCons (dVar 1) dNil))))) (dTest (dV (dCall F_is_ahead (dCons (dOp ixD (dVar 1) (dVar 4)) (dCons (dVar 5) (dCons (dVar 2) dNil))))))) (dSet 4 (dR (dV (dOpR addD (dVar 4) (dC (.int 1)))))))
  (dSeq (dSet 6 (dR (dAndV (dOp ltD (dVar 4) (dV (dCB lenD (dCons (dVar 1) dNil)))) (dV (dCall F_is_like (dCons (dOp ixD (dVar 1) (dVar 4)) (dCons (dVar 5) (dCons (dVar 2) dNil))))))))
  (dDrop (dPApp (dpIx (dpVar 3) (dOp subD (dC (.int 1)) (dV (dCB intD (dCons (dVar 6) dNil))))) (dVar 5))))))
  (dRetM 3)))))
theorem rd_parted : ∀ xs Φ, F_parted xs Φ → b_parted (rtV Φ) (slots xs 7) := by
  rintro xs Φ ⟨d, other, o, rfl, ok, ld, lo, sd, so, k⟩
  have h0 : ∀ p ∈ o, 0 ≤ p.1 := fun p hp => (ok.rng p hp).1
  have O := ltO_swo o
  refine ⟨by simp, [d, other], o, rfl, ok, by simp, fun x hx => ?_, ?_⟩
  · rcases List.mem_cons.mp hx with e | hx
    · rw [e]; exact ⟨ld, sd⟩
    · rw [List.mem_singleton.mp hx]; exact ⟨lo, so⟩
  refine cons_open ⟨by simp, fun q1 => ?_⟩
  refine cons_open ⟨by simp, fun q2 => ⟨by simp, fun p => ⟨trivial, trivial, ?_⟩⟩⟩
  refine for_open ?_
  show dForL _ _ _ (d.map cardD) _
  refine forL_inv (fun rest ρ => ∃ (pre post : List Card) (j : Nat) (s5 s6 : Sl), d = pre ++ post ∧ rest = post.map cardD ∧ j ≤ other.length ∧ (∀ e ∈ other.take j, ∀ c ∈ post, ltO o e c = true) ∧ dat s5 ∧ dat s6 ∧
      ρ = [.val (deckD d), .val (deckD other), .val (orderD o), .loc (partT o pre other p q1 q2), .val (.int (j : Nat)), s5, s6]) ?_ ?_ ⟨[], d, 0, .un, .un, rfl, rfl, Nat.zero_le _, fun e he => (nomatch he), .un, .un, rfl⟩
  · rintro x rest ρ ⟨pre, post, j, s5, s6, e1, e2, hj, hb, f5, f6, rfl⟩ K hK
    cases post with
    | nil => cases e2
    | cons c post =>
      cases e2
      refine ⟨f5.free rfl, ?_⟩
      have sd2 : SrtO.Srtd (ltO o) (c :: post) := by
        rw [e1] at sd
        exact (SrtO.srtd_app.mp sd).2.1
      have lp : pre.length ≤ 1000 := by
        have := congrArg List.length e1
        rw [List.length_append] at this
        omega
      refine while_open (fun m ρ => ∃ i : Nat, m = other.length - i ∧ i ≤ other.length ∧ (∀ e ∈ other.take i, ∀ x ∈ c :: post, ltO o e x = true) ∧ ρ = [.val (deckD d), .val (deckD other), .val (orderD o), .loc (partT o pre other p q1 q2), .val (.int (i : Nat)), .val (cardD c), s6]) (other.length - j) ⟨j, rfl, hj, hb, rfl⟩ ?_
      rintro m ρ ⟨i, hm, hi, hb, rfl⟩ K2 hK2
      have cO : decide (((i : Nat) : Int) < (((other.map cardD).length : Nat) : Int)) = decide (i < other.length) := by rw [List.length_map]; simp
      have atO : ∀ (h : i < other.length) (Ψ : D → Prop), Ψ (cardD other[i]) → ixL (other.map cardD) (.int (i : Nat)) Ψ := fun h Ψ q => ixL_nat (by rw [List.getElem?_map, List.getElem?_eq_getElem h]; rfl) q
      -- the end of a turn
      have turn : ∀ t : Bool, t = hasL o other c → K [.val (deckD d), .val (deckD other), .val (orderD o), .loc (partT o (pre ++ [c]) other p q1 q2), .val (.int (i : Nat)), .val (cardD c), .val (.bl t)] := fun t ht =>
        hK _ ⟨pre ++ [c], post, i, .val (cardD c), .val (.bl t), by rw [e1, List.append_assoc]; rfl, rfl, hi, fun e he x hx => hb e he x (List.mem_cons_of_mem _ hx), .val _, .val _, rfl⟩
      have put : ∀ t : Bool, t = hasL o other c → dDrop (dPApp (dpIx (dpVar 3) (dOp subD (dC (.int 1)) (dV (dCB intD (dCons (dVar 6) dNil))))) (dVar 5)) { rtV Φ with nx := K, ct := K, bk := dRetM 3 (rtV Φ) }
          [.val (deckD d), .val (deckD other), .val (orderD o), .loc (partT o pre other p q1 q2), .val (.int (i : Nat)), .val (cardD c), .val (.bl t)] := by
        intro t ht
        have lf : ∀ g : Card → Bool, (cardsT (pre.filter g)).length ≤ 1000000 := fun g => by
          unfold cardsT
          rw [List.length_map]
          have := List.length_filter_le g pre
          omega
        have tk := turn t ht
        cases t with
        | true =>
          have e : partT o (pre ++ [c]) other p q1 q2 = .tup p ([OT.lst q1 (cardsT (pre.filter (hasL o other))), .lst q2 (cardsT (pre.filter fun c => !hasL o other c))].set 0 (.lst q1 (cardsT (pre.filter (hasL o other)) ++ [.val (cardD c)]))) := by
            unfold partT cardsT
            rw [List.filter_append, List.filter_append, List.filter_cons_of_pos ht.symm, List.filter_cons_of_neg (by rw [← ht]; decide)]
            simp
          rw [e] at tk
          exact papp_ixT (ρ := [.val (deckD d), .val (deckD other), .val (orderD o), .loc (partT o pre other p q1 q2), .val (.int (i : Nat)), .val (cardD c), .val (.bl true)]) (j := 0) (x := cardD c) rfl (fun Ψ h => h) rfl (fun Ψ h => h) (lf _) tk
        | false =>
          have e : partT o (pre ++ [c]) other p q1 q2 = .tup p ([OT.lst q1 (cardsT (pre.filter (hasL o other))), .lst q2 (cardsT (pre.filter fun c => !hasL o other c))].set 1 (.lst q2 (cardsT (pre.filter fun c => !hasL o other c) ++ [.val (cardD c)]))) := by
            unfold partT cardsT
            rw [List.filter_append, List.filter_append, List.filter_cons_of_neg (by rw [← ht]; decide), List.filter_cons_of_pos (by rw [← ht]; decide)]
            simp
          rw [e] at tk
          exact papp_ixT (ρ := [.val (deckD d), .val (deckD other), .val (orderD o), .loc (partT o pre other p q1 q2), .val (.int (i : Nat)), .val (cardD c), .val (.bl false)]) (j := 1) (x := cardD c) rfl (fun Ψ h => h) rfl (fun Ψ h => h) (lf _) tk
      have early : ∀ e ∈ other.take i, SrtO.eqv (ltO o) e c = false := fun e he => by
        have := hb e he c List.mem_cons_self
        unfold SrtO.eqv
        rw [this]
        rfl
      have split : hasL o other c = ((other.take i).any (fun e => SrtO.eqv (ltO o) e c) || (other.drop i).any fun e => SrtO.eqv (ltO o) e c) := by
        unfold hasL
        rw [← List.any_append, List.take_append_drop]
      have early' : (other.take i).any (fun e => SrtO.eqv (ltO o) e c) = false := List.any_eq_false.mpr fun e he => by rw [early e he]; decide
      rw [early', Bool.false_or] at split
      refine iteB (fun h1 => ?_) (fun h1 => ?_)
      · rw [cO] at h1
        have hlt : i < other.length := of_decide_eq_true h1
        have hd : other.drop i = other[i] :: other.drop (i + 1) := List.drop_eq_getElem_cons hlt
        refine atO hlt _ ?_
        refine ⟨other[i], c, o, rfl, h0, ?_⟩
        cases hl : ltO o other[i] c with
        | true =>
          refine ⟨trivial, hK2 (m - 1) _ (by omega) ⟨i + 1, by omega, hlt, fun e he x hx => ?_, by push_cast; rfl⟩⟩
          have et := (List.take_append_getElem hlt).symm
          rw [et] at he
          rcases List.mem_append.mp he with he | he
          · exact hb e he x hx
          · rw [List.mem_singleton.mp he]
            rcases List.mem_cons.mp hx with ex | hx
            · rw [ex]; exact hl
            · exact O.ltle hl (SrtO.srtd_head sd2 x hx)
        | false =>
          have so2 : SrtO.Srtd (ltO o) (other[i] :: other.drop (i + 1)) := by
            rw [← hd]
            exact so.sublist (List.drop_sublist _ _)
          have ev : SrtO.eqv (ltO o) other[i] c = hasL o other c := by
            rw [split, hd, List.any_cons]
            cases hq : SrtO.eqv (ltO o) other[i] c with
            | true => rfl
            | false =>
              rw [Bool.false_or]
              symm
              refine List.any_eq_false.mpr fun e he => ?_
              have gt : ltO o c other[i] = true := by
                unfold SrtO.eqv at hq
                rw [hl] at hq
                simpa using hq
              have : ltO o c e = true := O.ltle gt (SrtO.srtd_head so2 e he)
              unfold SrtO.eqv
              rw [this]
              simp
          show if decide (((i : Nat) : Int) < (((other.map cardD).length : Nat) : Int)) = true then _ else _
          rw [cO, decide_eq_true hlt]
          refine atO hlt _ ?_
          refine ⟨other[i], c, o, rfl, h0, f6.free rfl, ?_⟩
          exact put _ ev
      · have h1' := h1
        rw [cO] at h1'
        have hge : other.length ≤ i := Nat.le_of_not_lt (of_decide_eq_false h1')
        rw [List.drop_eq_nil_of_le hge] at split
        show if decide (((i : Nat) : Int) < (((other.map cardD).length : Nat) : Int)) = true then _ else _
        rw [h1]
        refine ⟨f6.free rfl, ?_⟩
        exact put false split.symm
  · rintro ρ ⟨pre, post, j, s5, s6, e1, e2, hj, hb, f5, f6, rfl⟩
    have : post = [] := by
      cases post with
      | nil => rfl
      | cons _ _ => cases e2
    subst this
    rw [List.append_nil] at e1
    subst e1
    exact k p q1 q2
end DL
set_option Elab.async false
set_option linter.all false
set_option maxRecDepth 100000
set_option maxHeartbeats 2000000
namespace DL
open PySem PySem.Spec PyProof.Rows L2 RT

/-! ### the law's keys -/
theorem every_fig : ∀ c ∈ every, maxL ((c.filter fun x => decide (x < 10)) ++ [-1]) = figOf c := by decide
theorem every_over : ∀ c ∈ every, maxL ((c.filter fun x => decide (9 < x)) ++ [-1]) = overOf c := by decide
theorem every_len : ∀ c ∈ every, c.length ≤ 2 := by decide
def F_L_figure : DF := fun xs Φ => ∃ c : Col, xs = [colD c] ∧ c ∈ every ∧ Φ (.val (.int (figOf c)))
/- slots of _law_figure: 0 _law_column_here, 1 _law_hole -/
def b_L_figure : DS := (dRet (dCB maxLD (dCons (dV (dOpR addD (dV (dLc (diAny (dVar 0)) (dgName 1) (dTest (dOp ltD (dVar 1) (dC (.int 10)))) (dVar 1) [1])) (dV (dLst (dCons (dUn negD (dC (.int 1))) dNil))))) dNil)))
theorem rd_L_figure : ∀ xs Φ, F_L_figure xs Φ → b_L_figure (rtV Φ) (slots xs 2) := by
  rintro xs Φ ⟨c, rfl, hc, k⟩
  have hl := every_len c hc
  refine lc_pure c D.int (fun x => decide (x < 10)) D.int (fun Ψ h => h) (by omega) (.inl rfl) (fun x _ Ψ h => h) (fun x _ _ Ψ h => h) ?_
  have hf := List.length_filter_le (fun x => decide (x < 10)) c
  refine ⟨by simp, by rw [List.length_map]; simp; omega, ?_⟩
  have e : (c.filter fun x => decide (x < 10)).map D.int ++ [D.int (-1)] = ((c.filter fun x => decide (x < 10)) ++ [-1]).map D.int := by rw [List.map_append]; rfl
  show match D.ints _ with | some ns => _ | none => _
  rw [e, ints_map]
  refine ⟨by simp, ?_⟩
  rw [every_fig c hc]
  exact k
def F_L_key : DF := fun xs Φ => ∃ c : Col, xs = [colD c] ∧ c ∈ every ∧ Φ (.val (pairD (keyOf c)))
/- slots of _law_key: 0 _law_column_here, 1 _law_hole -/
def b_L_key : DS := (dRet (dR (dTup (dCons (dV (dCB maxLD (dCons (dV (dOpR addD (dV (dLc (diAny (dVar 0)) (dgName 1) (dTest (dOp gtD (dVar 1) (dC (.int 9)))) (dVar 1) [1])) (dV (dLst (dCons (dUn negD (dC (.int 1))) dNil))))) dNil))) (dCons (dV (dCall F_L_figure (dCons (dVar 0) dNil))) dNil)))))
theorem rd_L_key : ∀ xs Φ, F_L_key xs Φ → b_L_key (rtV Φ) (slots xs 2) := by
  rintro xs Φ ⟨c, rfl, hc, k⟩
  have hl := every_len c hc
  refine lc_pure c D.int (fun x => decide (9 < x)) D.int (fun Ψ h => h) (by omega) (.inl rfl) (fun x _ Ψ h => h) (fun x _ _ Ψ h => h) ?_
  have hf := List.length_filter_le (fun x => decide (9 < x)) c
  refine ⟨by simp, by rw [List.length_map]; simp; omega, ?_⟩
  have e : (c.filter fun x => decide (9 < x)).map D.int ++ [D.int (-1)] = ((c.filter fun x => decide (9 < x)) ++ [-1]).map D.int := by rw [List.map_append]; rfl
  show match D.ints _ with | some ns => _ | none => _
  rw [e, ints_map]
  refine ⟨by simp, ?_⟩
  rw [every_over c hc]
  exact ⟨c, rfl, hc, by simp, k⟩
/-! ### drawn orders -/
def F_L_order : DFO := fun S xs Φ => Dice S ∧ ∃ most : Int, xs = [.int most] ∧ 0 ≤ most ∧ most ≤ 12 ∧ ∀ (o : Order) S', OrderOk o → (∀ p ∈ o, p.1 < most) → After S S' → Φ (.own (o.map ordD)) S'
/- slots of _law_order: 0 _law_d, 1 _law_most, 2 _law_left, 3 _law_order_here, 4 _law_k -/
def b_L_order : DS := (dSeq (dSet 2 (dRg1 (dVar 1) Sl.own))
  (dSeq (dSet 3 (dLst dNil))
  (dSeq (dFor (diRng1 (dOp ixD (dV (dLst (dCons (dV (dCallO F_L_next 0 (dCons (dC (.int 4)) dNil))) (dCons (dV (dCallO F_L_next 0 (dCons (dC (.int 7)) dNil))) dNil)))) (dV (dCallO F_L_next 0 (dCons (dC (.int 2)) dNil))))) (dgName 4) (dIfS (dTest (dCmpOwn neD 2 (dV (dLst dNil)))) (dDrop (dApp 3 (dTup (dCons (dV (dPop 2 (dV (dCallO F_L_next 0 (dCons (dV (dLenOwn 2)) dNil))))) (dCons (dOp eqD (dV (dCallO F_L_next 0 (dCons (dC (.int 3)) dNil))) (dC (.int 2))) dNil))))) dNext))
  (dRetM 3))))
theorem eqv_nil_ints (xs : List Int) : D.eqv (.lst (xs.map D.int)) (.lst []) = decide (xs = []) := eqv_lst D.int eqv_int xs []
theorem rng_ints (n : Nat) : rng n 0 1 = ((List.range n).map fun i => ((i : Nat) : Int)).map D.int := by
  rw [rng_map, List.map_map]
  congr 1
  funext i
  simp
theorem rd_L_order : ∀ S xs Φ, F_L_order S xs Φ → b_L_order (rtO S Φ) (.arg S :: slots xs 4) := by
  rintro S xs Φ ⟨dS, most, rfl, m0, m1, k⟩
  refine ⟨m0, by omega, trivial, by simp, trivial, ?_⟩
  refine for_open ⟨dS, 4, rfl, by decide, by decide, fun a S1 a0 a1 d1 r1 => ⟨d1, 7, rfl, by decide, by decide, fun b S2 b0 b1 d2 r2 => ⟨by simp, d2, 2, rfl, by decide, by decide, fun c S3 c0 c1 d3 r3 => ?_⟩⟩⟩
  have a3 : After S S3 := (After.trans ⟨d1, r1⟩ ⟨d2, r2⟩).trans ⟨d3, r3⟩
  have main : ∀ n : Int, 0 ≤ n → n ≤ 6 → dForL (dgName 4) (dIfS (dTest (dCmpOwn neD 2 (dV (dLst dNil)))) (dDrop (dApp 3 (dTup (dCons (dV (dPop 2 (dV (dCallO F_L_next 0 (dCons (dV (dLenOwn 2)) dNil))))) (dCons (dOp eqD (dV (dCallO F_L_next 0 (dCons (dC (.int 3)) dNil))) (dC (.int 2))) dNil))))) dNext)
      { rtO S Φ with nx := dRetM 3 (rtO S Φ) } (rng n.toNat 0 1) [.arg S3, .val (.int most), .own (rng most.toNat 0 1), .own [], .un] := by
    intro n n0 n1
    refine forL_inv (fun rest ρ => ∃ (left : List Int) (o : Order) (S' : OT) (s : Sl), o.length + rest.length ≤ 6 ∧ left.Nodup ∧ (o.map (·.1)).Nodup ∧ (∀ p ∈ o, p.1 ∉ left) ∧ (∀ x ∈ left, 0 ≤ x ∧ x < most) ∧ (∀ p ∈ o, 0 ≤ p.1 ∧ p.1 < most) ∧ left.length ≤ 12 ∧ After S S' ∧ dat s ∧
        ρ = [.arg S', .val (.int most), .own (left.map D.int), .own (o.map ordD), s]) ?_ ?_
      ⟨(List.range most.toNat).map fun i => ((i : Nat) : Int), [], S3, .un, by rw [rng_length]; simp; omega, ?_, List.nodup_nil, by simp, ?_, by simp, by simp; omega, a3, .un, by rw [rng_ints]; rfl⟩
    · rintro x rest ρ ⟨left, o, S', s, hlen, nl, no, dis, rl, ro, ll, a', fs, rfl⟩ K hK
      rw [List.length_cons] at hlen
      refine ⟨fs.free rfl, ?_⟩
      refine cmpOwn_of (i := 2) (ρ := [.arg S', .val (.int most), .own (left.map D.int), .own (o.map ordD), .val x]) (ρ1 := [.arg S', .val (.int most), .own (left.map D.int), .own (o.map ordD), .val x]) (x := .lst (left.map D.int)) (y := .lst []) rfl (fun Ψ h => ⟨by simp, h⟩) rfl ?_
      refine ⟨ok_lst D.int fun _ _ => ok_int _ _, rfl, ?_⟩
      rw [eqv_nil_ints]
      by_cases he : left = []
      · rw [decide_eq_true he]
        exact hK _ ⟨left, o, S', .val x, by omega, nl, no, dis, rl, ro, ll, a', .val _, rfl⟩
      · rw [decide_eq_false he]
        have lp := List.length_pos_iff.mpr he
        refine ⟨a'.1, ((left.map D.int).length : Int), rfl, by rw [List.length_map]; omega, by rw [List.length_map]; omega, fun i S4 i0 i1 d4 r4 => ?_⟩
        rw [List.length_map] at i1
        have hi : i.toNat < left.length := by omega
        have hat : (left.map D.int)[i.toNat]? = some (.int left[i.toNat]) := by rw [List.getElem?_map, List.getElem?_eq_getElem hi]; rfl
        refine ⟨i0, by omega, ?_⟩
        show match (left.map D.int)[i.toNat]? with | some y => _ | none => _
        rw [hat]
        refine ⟨d4, 3, rfl, by decide, by decide, fun f S5 f0 f1 d5 r5 => ⟨ok_int _ _, ok_int _ _, by simp, by rw [List.length_map]; omega, ?_⟩⟩
        rw [eqv_int]
        have el : (left.map D.int).eraseIdx i.toNat = (left.eraseIdx i.toNat).map D.int := by rw [List.eraseIdx_eq_take_drop_succ, List.eraseIdx_eq_take_drop_succ, List.map_append, List.map_take, List.map_drop]
        have sub := List.eraseIdx_sublist left i.toNat
        have hm : left[i.toNat] ∈ left := List.getElem_mem hi
        have nin : left[i.toNat] ∉ left.eraseIdx i.toNat := by
          have e1 : left = left.take i.toNat ++ left[i.toNat] :: left.drop (i.toNat + 1) := by rw [← List.drop_eq_getElem_cons hi, List.take_append_drop]
          have nd2 := nl
          rw [e1] at nd2
          obtain ⟨_, n2, n3⟩ := List.nodup_append.mp nd2
          rw [List.eraseIdx_eq_take_drop_succ]
          intro h
          rcases List.mem_append.mp h with h | h
          · exact n3 _ h _ List.mem_cons_self rfl
          · exact (List.nodup_cons.mp n2).1 h
        have fin : K [.arg S5, .val (.int most), .own ((left.eraseIdx i.toNat).map D.int), .own ((o ++ [(left[i.toNat], decide (f = 2))]).map ordD), .val x] := by
          refine hK _ ⟨left.eraseIdx i.toNat, o ++ [(left[i.toNat], decide (f = 2))], S5, .val x, by rw [List.length_append]; simp; omega, nl.sublist sub, ?_, fun p hp => ?_, fun y hy => rl y (sub.subset hy), fun p hp => ?_, Nat.le_trans sub.length_le ll, (a'.trans ⟨d4, r4⟩).trans ⟨d5, r5⟩, .val _, rfl⟩
          · rw [List.map_append]
            refine List.nodup_append.mpr ⟨no, by simp, fun y hy z hz e => ?_⟩
            obtain ⟨p, hp, rfl⟩ := List.mem_map.mp hy
            simp at hz
            exact dis p hp (by rw [e, hz]; exact hm)
          · rcases List.mem_append.mp hp with h | h
            · exact fun q => dis p h (sub.subset q)
            · rw [List.mem_singleton.mp h]; exact nin
          · rcases List.mem_append.mp hp with h | h
            · exact ro p h
            · rw [List.mem_singleton.mp h]; exact rl _ hm
        rw [← el, List.map_append] at fin
        exact fin
    · rintro ρ ⟨left, o, S', s, hlen, nl, no, dis, rl, ro, ll, a', fs, rfl⟩
      refine ⟨a'.2, k o S' ⟨by simp at hlen; exact hlen, no, fun p hp => ⟨(ro p hp).1, by have := (ro p hp).2; omega⟩⟩ (fun p hp => (ro p hp).2) a'⟩
    · rw [List.nodup_iff_pairwise_ne, List.pairwise_map]
      exact (List.nodup_iff_pairwise_ne.mp List.nodup_range).imp fun h e => h (by omega)
    · intro x hx
      obtain ⟨i, hi, rfl⟩ := List.mem_map.mp hx
      have := List.mem_range.mp hi
      omega
  obtain rfl | rfl : c = 0 ∨ c = 1 := by omega
  · exact ⟨(by unfold inR; omega), main a a0 (by omega)⟩
  · exact ⟨(by unfold inR; omega), main b b0 (by omega)⟩
/-! ### the law's sorting -/
def F_L_sorted : DF := fun xs Φ => ∃ (d : List Card) (o : Order), xs = [deckD d, orderD o] ∧ d.length < 64 ∧ (∀ c ∈ d, CardOk c) ∧ (∀ p ∈ o, 0 ≤ p.1 ∧ p.1 < 12) ∧ Φ (.val (deckD (sortO o d)))
/- slots of _law_sorted: 0 _law_deck_here, 1 _law_order_here, 2 _law_found, 3 _law_column_here, 4 _law_falling, 5 _law_rows, 6 _law_later, 7 _law_row, 8 _law_card -/
def b_L_sorted : DS := (dSeq (dSet 2 (dR (dV (dCB listD (dCons (dVar 0) dNil)))))
  (dSeq (dFor (diAny (dV (dRevL (dVar 1)))) (dgTup 2 (dgCons (dgName 3) (dgCons (dgName 4) dgNil))) (dSeq (dSet 5 (dR (dV (dSortSet (dV (dLc (diAny (dVar 2)) (dgName 8) dYes (dV (dCall F_L_key (dCons (dV (dCall F_L_column (dCons (dVar 8) (dCons (dVar 3) dNil)))) dNil))) [8]))))))
  (dSeq (dIfS (dTest (dVar 4)) (dSet 5 (dR (dV (dRevL (dVar 5))))) dNext)
  (dSeq (dSet 6 (dR (dV (dLst dNil))))
  (dSeq (dFor (diAny (dVar 5)) (dgName 7) (dSet 6 (dR (dV (dOpR addD (dVar 6) (dV (dLc (diAny (dVar 2)) (dgName 8) (dTest (dOp eqD (dV (dCall F_L_key (dCons (dV (dCall F_L_column (dCons (dVar 8) (dCons (dVar 3) dNil)))) dNil))) (dVar 7))) (dVar 8) [8])))))))
  (dSet 2 (dR (dVar 6))))))))
  (dRet (dR (dVar 2)))))
theorem sortSet_open {d : DE} {ρ ρ1 : List Sl} {Φ : Sl → List Sl → Prop} (ps : List (Int × Int)) (h : ∀ Ψ : D → List Sl → Prop, Ψ (.lst (ps.map pairD)) ρ1 → d ρ Ψ) (few : ps.length < 64) (k : ∀ qs : List (Int × Int), (∀ q, q ∈ qs ↔ q ∈ ps) → qs.Pairwise (fun a b => SrtO.lexB a b = true) → Φ (.own (qs.map pairD)) ρ1) : dSortSet d ρ Φ := by
  unfold dSortSet
  refine h _ ?_
  show match D.pairs (ps.map pairD) with | some ps => _ | none => _
  rw [pairs_map]
  exact ⟨few, k⟩
theorem rd_L_sorted : ∀ xs Φ, F_L_sorted xs Φ → b_L_sorted (rtV Φ) (slots xs 9) := by
  rintro xs Φ ⟨d, o, rfl, hl, hd, hp, k⟩
  refine ⟨trivial, ?_⟩
  refine for_open ?_
  have er : (o.map ordD).reverse = o.reverse.map ordD := List.map_reverse.symm
  show dForL _ _ _ ((o.map ordD).reverse) _
  rw [er]
  refine forL_inv (fun rest ρ => ∃ (pre post : Order) (d' : List Card) (s3 s4 s5 s6 s7 : Sl), o = post ++ pre ∧ rest = post.reverse.map ordD ∧ SrtO.Srtd (ltO pre) d' ∧ SrtO.Stb (ltO pre) d' d ∧ dat s3 ∧ dat s4 ∧ dat s5 ∧ dat s6 ∧ dat s7 ∧ ρ = [.val (deckD d), .val (orderD o), .val (deckD d'), s3, s4, s5, s6, s7, .un]) ?_ ?_
    ⟨[], o, d, .un, .un, .un, .un, .un, (List.append_nil o).symm, rfl, SrtO.srtd_eq fun _ _ _ _ => rfl, SrtO.Stb.refl d, .un, .un, .un, .un, .un, rfl⟩
  · rintro x rest ρ ⟨pre, post, d', s3, s4, s5, s6, s7, e1, e2, hs, hb, f3, f4, f5, f6, f7, rfl⟩ K hK
    rcases snoc_or_nil post with rfl | ⟨post, p, rfl⟩
    · cases e2
    · rw [List.reverse_append] at e2
      cases e2
      have pm : p ∈ o := by rw [e1]; simp
      obtain ⟨p0, p1⟩ := hp p pm
      have dl : d'.length = d.length := hb.len
      have dm : ∀ c ∈ d', CardOk c := fun c hc => hd c (hb.perm.subset hc)
      refine ⟨rfl, f3.free rfl, f4.free rfl, ?_⟩
      refine sortSet_open (d'.map (keyAt p)) (ρ1 := [.val (deckD d), .val (orderD o), .val (deckD d'), .val (.int p.1), .val (.bl p.2), s5, s6, s7, .un]) (fun Ψ h => ?_) (by rw [List.length_map]; omega) fun qs hm ho => ⟨f5.free rfl, ?_⟩
      · refine lc_map (ρ1 := [.val (deckD d), .val (orderD o), .val (deckD d'), .val (.int p.1), .val (.bl p.2), s5, s6, s7, .un]) d' cardD (fun c => pairD (keyAt p c)) (fun Ψ h => h) (by omega) (.inl rfl) (fun c hc Ψ h => ?_) ?_
        · exact ⟨c, p.1, rfl, by have := (dm c hc).1; omega, p0, p1, colAt c p.1, rfl, (dm c hc).col p.1, h⟩
        · rw [List.map_map] at h
          exact h
      have groupsOk := groups (p := p) (d := d') hm ho
      have main : ∀ ks : List (Int × Int), ks = (if p.2 = true then qs.reverse else qs) →
          dSeq (dSet 6 (dR (dV (dLst dNil)))) (dSeq (dFor (diAny (dVar 5)) (dgName 7) (dSet 6 (dR (dV (dOpR addD (dVar 6) (dV (dLc (diAny (dVar 2)) (dgName 8) (dTest (dOp eqD (dV (dCall F_L_key (dCons (dV (dCall F_L_column (dCons (dVar 8) (dCons (dVar 3) dNil)))) dNil))) (dVar 7))) (dVar 8) [8])))))))
  (dSet 2 (dR (dVar 6)))) { rtV Φ with nx := K, ct := K, bk := dRet (dR (dVar 2)) (rtV Φ) } [.val (deckD d), .val (orderD o), .val (deckD d'), .val (.int p.1), .val (.bl p.2), .val (.lst (ks.map pairD)), s6, s7, .un] := by
        intro ks hks
        refine ⟨by simp, f6.free rfl, ?_⟩
        refine for_open ?_
        show dForL _ _ _ (ks.map pairD) _
        refine forL_inv (fun rest ρ => ∃ (k1 k2 : List (Int × Int)) (s7 : Sl), ks = k1 ++ k2 ∧ rest = k2.map pairD ∧ dat s7 ∧ ρ = [.val (deckD d), .val (orderD o), .val (deckD d'), .val (.int p.1), .val (.bl p.2), .val (.lst (ks.map pairD)), .val (deckD (k1.flatMap fun q => d'.filter fun c => decide (keyAt p c = q))), s7, .un]) ?_ ?_
          ⟨[], ks, s7, rfl, rfl, f7, rfl⟩
        · rintro x rest ρ ⟨k1, k2, s7, e3, e4, f7, rfl⟩ K2 hK2
          cases k2 with
          | nil => cases e4
          | cons q k2 =>
            cases e4
            refine ⟨f7.free rfl, ?_⟩
            have sz : (k1.flatMap fun q => d'.filter fun c => decide (keyAt p c = q)).length ≤ d'.length := by
              have := groupsOk.2.len
              rw [← hks, e3, List.flatMap_append, List.length_append] at this
              omega
            refine lc_pure (ρ1 := [.val (deckD d), .val (orderD o), .val (deckD d'), .val (.int p.1), .val (.bl p.2), .val (.lst (ks.map pairD)), .val (deckD (k1.flatMap fun q => d'.filter fun c => decide (keyAt p c = q))), .val (pairD q), .un]) d' cardD (fun c => decide (keyAt p c = q)) cardD (fun Ψ h => h) (by omega) (.inl rfl) (fun c hc Ψ h => ?_) (fun c hc _ Ψ h => h) ?_
            · refine ⟨c, p.1, rfl, by have := (dm c hc).1; omega, p0, p1, colAt c p.1, rfl, (dm c hc).col p.1, ok_pair _ _, ok_pair _ _, ?_⟩
              rw [eqv_pair]
              exact h
            · refine ⟨?_, trivial, hK2 _ ⟨k1 ++ [q], k2, .val (pairD q), by rw [e3, List.append_assoc]; rfl, rfl, .val _, ?_⟩⟩
              · rw [List.length_map, List.length_map]
                have := List.length_filter_le (fun c => decide (keyAt p c = q)) d'
                omega
              · have : deckD ((k1 ++ [q]).flatMap fun q => d'.filter fun c => decide (keyAt p c = q)) = .lst ((k1.flatMap fun q => d'.filter fun c => decide (keyAt p c = q)).map cardD ++ (d'.filter fun c => decide (keyAt p c = q)).map cardD) := by
                  unfold deckD
                  rw [List.flatMap_append, List.map_append]
                  simp
                rw [this]
                rfl
        · rintro ρ ⟨k1, k2, s7, e3, e4, f7, rfl⟩
          have : k2 = [] := by
            cases k2 with
            | nil => rfl
            | cons _ _ => cases e4
          subst this
          rw [List.append_nil] at e3
          subst e3
          rw [← hks] at groupsOk
          obtain ⟨r1, r2⟩ := radix groupsOk.1 groupsOk.2 hs hb
          exact ⟨trivial, hK _ ⟨p :: pre, post, _, .val (.int p.1), .val (.bl p.2), .val (.lst (ks.map pairD)), _, s7, by rw [e1, List.append_assoc]; rfl, rfl, r1, r2, .val _, .val _, .val _, .val _, f7, rfl⟩⟩
      cases hf : p.2 with
      | true =>
        rw [hf] at main
        refine ⟨trivial, ?_⟩
        have e : (qs.map pairD).reverse = qs.reverse.map pairD := List.map_reverse.symm
        have := main qs.reverse (by rw [if_pos rfl])
        rw [← e] at this
        exact this
      | false =>
        rw [hf] at main
        exact main qs (by rw [if_neg (by decide)])
  · rintro ρ ⟨pre, post, d', s3, s4, s5, s6, s7, e1, e2, hs, hb, f3, f4, f5, f6, f7, rfl⟩
    have : post = [] := by
      rcases snoc_or_nil post with rfl | ⟨post, p, rfl⟩
      · rfl
      · rw [List.reverse_append] at e2
        cases e2
    subst this
    rw [List.nil_append] at e1
    subst e1
    have := sort_uniq (ltO_swo o) hs hb
    rw [sortO, ← this] at k
    exact k
end DL
set_option Elab.async false
set_option linter.all false
set_option maxRecDepth 100000
set_option maxHeartbeats 2000000
namespace DL
open PySem PySem.Spec PyProof.Rows L2 RT

/-! ### signs -/
def signsS : Str := " 0123456789-KLMNOPQRST+ABCDEFGHIJ"
def cpOf (c : Col) : Nat := signsS.cps.toList.getD (every.idxOf c) 0
def signOf (c : Col) : Str := ⟨#[cpOf c]⟩
def figsS : Str := "0123456789"
def over3 : List (Int × Str) := [(-1, " "), (10, "-"), (11, "+")]
def letters : List (Int × Str) := [(10, "KLMNOPQRST"), (11, "ABCDEFGHIJ")]
theorem fact1 : ∀ c ∈ every, figOf c < 0 → over3.lookup (overOf c) = some (signOf c) := by decide +kernel
theorem fact2 : ∀ c ∈ every, 0 ≤ figOf c → overOf c < 0 → atI figsS.cps.toList (figOf c) = some (cpOf c) := by decide +kernel
theorem fact3 : ∀ c ∈ every, 0 ≤ figOf c → 0 ≤ overOf c → ((letters.lookup (overOf c)).bind fun s => atI s.cps.toList (figOf c)) = some (cpOf c) := by decide +kernel
theorem fact4 : ∀ c ∈ every, indexL (colD c) (every.map colD) = some (every.idxOf c) := by decide +kernel
theorem fact5 : ∀ c ∈ every, atI signsS.cps.toList ((every.idxOf c : Nat) : Int) = some (cpOf c) := by decide +kernel
theorem fact6 : ∀ c ∈ every, cpOf c < 1114112 ∧ cpOf c ≠ 10 := by decide +kernel
theorem fact7 : ∀ c ∈ every, every.find? (fun x => decide (cpOf x = cpOf c)) = some c := by decide +kernel
theorem fact8 : ∀ c ∈ every, overOf c = -1 ∨ overOf c = 10 ∨ overOf c = 11 := by decide +kernel
def F_all_columns : DF := fun xs Φ => xs = [] ∧ Φ (.own (every.map colD))
/- slots of all_columns: 0 found, 1 over, 2 figure -/
def b_all_columns : DS := (dSeq (dSet 0 (dLst dNil))
  (dSeq (dFor (diAny (dV (dLst (dCons (dTup dNil) (dCons (dTup (dCons (dC (.int 10)) dNil)) (dCons (dTup (dCons (dC (.int 11)) dNil)) dNil)))))) (dgName 1) (dSeq (dDrop (dApp 0 (dVar 1)))
  (dDrop (dExt 0 (dV (dLc (diRng1 (dC (.int 10))) (dgName 2) dYes (dV (dOpR addD (dTup (dCons (dVar 2) dNil)) (dVar 1))) [2]))))))
  (dRetM 0)))
theorem rd_all_columns : ∀ xs Φ, F_all_columns xs Φ → b_all_columns (rtV Φ) (slots xs 3) := by
  rintro xs Φ ⟨rfl, k⟩
  refine ⟨by decide, trivial, ?_⟩
  refine for_inv' ([([] : Col), [10], [11]].map colD) (fun Ψ h => ⟨by decide, by decide, by decide, by decide, h⟩) (fun rest ρ => ∃ (pre post : List Col) (s : Sl), [([] : Col), [10], [11]] = pre ++ post ∧ rest = post.map colD ∧ ρ = [.own ((pre.flatMap blockC).map colD), s, .un] ∧ free [.own ((pre.flatMap blockC).map colD), s, .un] 1)
    ⟨[], _, .un, rfl, rfl, rfl, trivial⟩ ?_ ?_
  · rintro d rest ρ ⟨pre, post, s, e1, e, rfl, fr⟩ K hK
    cases post with
    | nil => cases e
    | cons o post =>
      cases e
      have ho : o ∈ [([] : Col), [10], [11]] := by rw [e1]; exact List.mem_append_right _ List.mem_cons_self
      have ol : o.length ≤ 1 := by
        have : ∀ x ∈ [([] : Col), [10], [11]], x.length ≤ 1 := by decide
        exact this o ho
      have pl : pre.length ≤ 3 := by
        have := congrArg List.length e1
        rw [List.length_append] at this
        simp at this
        omega
      have bl : ((pre.flatMap blockC).map colD).length ≤ 33 := by
        rw [List.length_map, List.length_flatMap]
        have : ∀ l : List Col, (l.map fun x => (blockC x).length).sum = 11 * l.length := fun l => by
          induction l with
          | nil => rfl
          | cons x l ih =>
            rw [List.map_cons, List.sum_cons, ih, List.length_cons]
            simp [blockC]
            omega
        rw [this]
        omega
      refine ⟨fr, by omega, ?_⟩
      refine lc_map (ρ1 := [.own ((pre.flatMap blockC).map colD ++ [colD o]), .val (colD o), .un]) (List.range 10) (fun f => .int f) (fun f => colD ((f : Int) :: o)) (fun Ψ h => ⟨by unfold inR; decide, h⟩) (by decide) (.inl rfl) (fun d _ Ψ h => ?_) ?_
      · exact ⟨by simp, (by show 1 + (o.map D.int).length ≤ 1000000; rw [List.length_map]; omega), h⟩
      · refine ⟨?_, hK _ ⟨pre ++ [o], post, .val (colD o), by rw [e1, List.append_assoc]; rfl, rfl, ?_, trivial⟩⟩
        · have hb : (pre.flatMap blockC).length ≤ 33 := by rw [List.length_map] at bl; exact bl
          simp only [List.length_append, List.length_map, List.length_range, List.length_cons, List.length_nil]
          omega
        · have : (List.flatMap blockC (pre ++ [o])).map colD = (pre.flatMap blockC).map colD ++ [colD o] ++ (List.range 10).map fun f => colD (((f : Nat) : Int) :: o) := by
            rw [List.flatMap_append, List.map_append, List.append_assoc]
            simp [blockC, Function.comp_def]
          rw [this]
          rfl
  · rintro ρ ⟨pre, post, s, e1, e, rfl, fr⟩
    have : post = [] := by
      cases post with
      | nil => rfl
      | cons _ _ => cases e
    subst this
    rw [List.append_nil] at e1
    subst e1
    exact k
def F_sign_of : DF := fun xs Φ => ∃ c : Col, xs = [colD c] ∧ c ∈ every ∧ Φ (.val (.str (signOf c)))
/- slots of sign_of: 0 column, 1 figure, 2 over -/
def b_sign_of : DS := (dSeq (dSet 1 (dR (dV (dCall F_figure_of (dCons (dVar 0) dNil)))))
  (dSeq (dSet 2 (dR (dV (dCall F_over_of (dCons (dVar 0) dNil)))))
  (dSeq (dIfS (dTest (dOp ltD (dVar 1) (dC (.int 0)))) (dRet (dR (dOp ixD (dV (dDict (dpCons (dUn negD (dC (.int 1))) (dC (.str " ")) (dpCons (dC (.int 10)) (dC (.str "-")) (dpCons (dC (.int 11)) (dC (.str "+")) dpNil))))) (dVar 2)))) dNext)
  (dSeq (dIfS (dTest (dOp ltD (dVar 2) (dC (.int 0)))) (dRet (dR (dOp ixD (dC (.str "0123456789")) (dVar 1)))) dNext)
  (dRet (dR (dOp ixD (dIxI [(10, "KLMNOPQRST"), (11, "ABCDEFGHIJ")] (dVar 2)) (dVar 1))))))))
theorem ixS {z : Str} {i : Int} {cp : Nat} {Ψ : D → Prop} (hl : z.length ≤ 1000000) (h : atI z.cps.toList i = some cp) (k : Ψ (.str ⟨#[cp]⟩)) : ixD (.str z) (.int i) Ψ := by
  show z.length ≤ 1000000 ∧ match atI z.cps.toList i with | some c => _ | none => _
  rw [h]
  exact ⟨hl, k⟩
theorem rd_sign_of : ∀ xs Φ, F_sign_of xs Φ → b_sign_of (rtV Φ) (slots xs 3) := by
  rintro xs Φ ⟨c, rfl, hc, k⟩
  refine ⟨c, rfl, trivial, c, rfl, trivial, ?_⟩
  refine iteD (fun h => ?_) (fun h => ?_)
  · have f1 := fact1 c hc h
    have leaf : ∀ o : Int, over3.lookup o = some (signOf c) → (o = -1 ∨ o = 10 ∨ o = 11) → ∀ s0 s1 : Sl, dRet (dR (dOp ixD (dV (dDict (dpCons (dUn negD (dC (.int 1))) (dC (.str " ")) (dpCons (dC (.int 10)) (dC (.str "-")) (dpCons (dC (.int 11)) (dC (.str "+")) dpNil))))) (dVar 2))) (rtV Φ) [s0, s1, .val (.int o)] := by
      rintro o ho (rfl | rfl | rfl) s0 s1
      · have e : signOf c = " " := (Option.some.inj ho).symm
        rw [e] at k
        exact ⟨by decide, by decide, k⟩
      · have e : signOf c = "-" := (Option.some.inj ho).symm
        rw [e] at k
        exact ⟨by decide, by decide, k⟩
      · have e : signOf c = "+" := (Option.some.inj ho).symm
        rw [e] at k
        exact ⟨by decide, by decide, k⟩
    exact leaf _ f1 (fact8 c hc) _ _
  · refine iteD (fun h2 => ?_) (fun h2 => ?_)
    · have q : ixD (.str figsS) (.int (figOf c)) (fun z => Φ (.val z)) := ixS (by decide +kernel) (fact2 c hc (by omega) h2) k
      exact q
    · have f3 := fact3 c hc (by omega) (by omega)
      have leaf : ∀ o : Int, ((letters.lookup o).bind fun s => atI s.cps.toList (figOf c)) = some (cpOf c) → (o = -1 ∨ o = 10 ∨ o = 11) → ∀ s0 : Sl, dRet (dR (dOp ixD (dIxI [(10, "KLMNOPQRST"), (11, "ABCDEFGHIJ")] (dVar 2)) (dVar 1))) (rtV Φ) [s0, .val (.int (figOf c)), .val (.int o)] := by
        rintro o ho (rfl | rfl | rfl) s0
        · cases ho
        · have q : ixD (.str "KLMNOPQRST") (.int (figOf c)) (fun z => Φ (.val z)) := ixS (by decide +kernel) ho k
          exact q
        · have q : ixD (.str "ABCDEFGHIJ") (.int (figOf c)) (fun z => Φ (.val z)) := ixS (by decide +kernel) ho k
          exact q
      exact leaf _ f3 (fact8 c hc) _
/-! ### a sign's column -/
def columnBy (s : Str) : Option Col := every.find? fun c => decide (signOf c = s)
def optD : Option Col → D
  | some c => colD c
  | none => .non
def F_column_by : DF := fun xs Φ => ∃ s : Str, xs = [.str s] ∧ PyData.strOk s = true ∧ Φ (.val (optD (columnBy s)))
/- slots of column_by: 0 sign, 1 column -/
def b_column_by : DS := (dSeq (dFor (diAny (dV (dCall F_all_columns dNil))) (dgName 1) (dIfS (dTest (dOp eqD (dV (dCall F_sign_of (dCons (dVar 1) dNil))) (dVar 0))) (dRet (dR (dVar 1))) dNext))
  (dRet (dR (dC .non))))
theorem eqv_str (a b : Str) : D.eqv (.str a) (.str b) = decide (a = b) := by
  show (a == b) = _
  by_cases h : a = b <;> simp [h]
theorem sign_ok {c : Col} (h : c ∈ every) : PyData.strOk (signOf c) = true := by
  have := (fact6 c h).1
  show (#[cpOf c] : Array Nat).all (· < 0x110000) = true
  simp
  exact this
theorem rd_column_by : ∀ xs Φ, F_column_by xs Φ → b_column_by (rtV Φ) (slots xs 2) := by
  rintro xs Φ ⟨s, rfl, ok, k⟩
  refine for_open ⟨rfl, ?_⟩
  refine forL_inv (fun rest ρ => ∃ (post : List Col) (s1 : Sl), rest = post.map colD ∧ (∀ c ∈ post, c ∈ every) ∧ Φ (.val (optD (post.find? fun c => decide (signOf c = s)))) ∧ ρ = [.val (.str s), s1] ∧ free [.val (.str s), s1] 1) ?_ ?_ ⟨every, .un, rfl, fun _ h => h, k, rfl, trivial⟩
  · rintro d rest ρ ⟨post, s1, e, hm, k, rfl, fr⟩ K hK
    cases post with
    | nil => cases e
    | cons c post =>
      cases e
      have hc := hm c List.mem_cons_self
      refine ⟨fr, c, rfl, hc, sign_ok hc, ok, ?_⟩
      rw [eqv_str]
      rw [List.find?_cons] at k
      refine iteD (fun h => ?_) (fun h => ?_)
      · rw [decide_eq_true h] at k
        exact k
      · rw [decide_eq_false h] at k
        exact hK _ ⟨post, .val (colD c), rfl, fun x hx => hm x (List.mem_cons_of_mem _ hx), k, rfl, trivial⟩
  · rintro ρ ⟨post, s1, e, hm, k, rfl, fr⟩
    cases post with
    | nil => exact k
    | cons _ _ => cases e
theorem signOf_inj {a b : Col} : signOf a = signOf b ↔ cpOf a = cpOf b := by
  constructor
  · intro h
    have : (⟨#[cpOf a]⟩ : Str) = ⟨#[cpOf b]⟩ := h
    injection this with h
    simpa using h
  · intro h
    unfold signOf
    rw [h]
theorem columnBy_sign {c : Col} (h : c ∈ every) : columnBy (signOf c) = some c := by
  have := fact7 c h
  unfold columnBy
  rw [← this]
  congr 1
  funext x
  simp only [signOf_inj]
/-! ### texts -/
def textOf (c : Card) : Str := Txt.join "" (c.map signOf)
def textD (d : List Card) : Str := Txt.join "\n" (d.map textOf)
theorem joinL_nil : ∀ ls : List (List Nat), TL.joinL [] ls = ls.flatten
  | [] => rfl
  | [p] => by simp [TL.joinL]
  | p :: q :: r => by
    show p ++ ([] ++ TL.joinL [] (q :: r)) = _
    rw [joinL_nil (q :: r)]
    simp
theorem tl_empty : TL.tl ("" : Str) = [] := by decide +kernel
theorem tl_line : TL.tl ("\n" : Str) = [10] := by decide +kernel
theorem tl_text (c : Card) : TL.tl (textOf c) = c.map cpOf := by
  unfold textOf
  rw [TL.join_eq, TL.tl_join, tl_empty, joinL_nil, List.map_map]
  induction c with
  | nil => rfl
  | cons x c ih =>
    rw [List.map_cons, List.flatten_cons, ih]
    rfl
theorem tl_len (x : Str) : (TL.tl x).length = x.length := by
  show x.cps.toList.length = x.cps.size
  simp
theorem text_len (c : Card) : (textOf c).length = c.length := by
  rw [← tl_len, tl_text, List.length_map]
theorem strOk_tl {x : Str} (h : ∀ n ∈ TL.tl x, n < 1114112) : PyData.strOk x = true := by
  unfold PyData.strOk
  rw [Array.all_eq_true']
  intro n hn
  have : n ∈ TL.tl x := by
    show n ∈ x.cps.toList
    simpa using hn
  simpa using h n this
theorem text_ok {c : Card} (h : CardOk c) : PyData.strOk (textOf c) = true := strOk_tl fun n hn => by
  rw [tl_text] at hn
  obtain ⟨x, hx, rfl⟩ := List.mem_map.mp hn
  exact (fact6 x (h.2 x hx)).1
theorem joinL_mem {S : List Nat} {n : Nat} : ∀ {ls : List (List Nat)}, n ∈ TL.joinL S ls → n ∈ S ∨ ∃ l ∈ ls, n ∈ l
  | [], h => nomatch h
  | [p], h => .inr ⟨p, List.mem_singleton.mpr rfl, h⟩
  | p :: q :: r, h => by
    have h' : n ∈ p ++ (S ++ TL.joinL S (q :: r)) := h
    rcases List.mem_append.mp h' with h1 | h1
    · exact .inr ⟨p, List.mem_cons_self, h1⟩
    · rcases List.mem_append.mp h1 with h2 | h2
      · exact .inl h2
      · rcases joinL_mem h2 with h3 | ⟨l, hl, h3⟩
        · exact .inl h3
        · exact .inr ⟨l, List.mem_cons_of_mem _ hl, h3⟩
theorem tl_deck (d : List Card) : TL.tl (textD d) = TL.joinL [10] (d.map fun c => c.map cpOf) := by
  unfold textD
  rw [TL.join_eq, TL.tl_join, tl_line, List.map_map]
  congr 1
  exact List.map_congr_left fun c _ => tl_text c
theorem deck_ok {d : List Card} (h : ∀ c ∈ d, CardOk c) : PyData.strOk (textD d) = true := strOk_tl fun n hn => by
  rw [tl_deck] at hn
  rcases joinL_mem hn with q | ⟨l, hl, q⟩
  · rw [List.mem_singleton.mp q]; decide
  · obtain ⟨c, hc, rfl⟩ := List.mem_map.mp hl
    obtain ⟨x, hx, rfl⟩ := List.mem_map.mp q
    exact (fact6 x ((h c hc).2 x hx)).1
theorem split_deck {d : List Card} (hne : d ≠ []) (h : ∀ c ∈ d, CardOk c) : Txt.split (textD d) "\n" = d.map textOf := by
  refine TL.split_join (s := 10) (S := []) tl_line (by decide +kernel) (fun e => hne (List.map_eq_nil_iff.mp e)) fun p hp hm => ?_
  obtain ⟨c, hc, rfl⟩ := List.mem_map.mp hp
  rw [tl_text] at hm
  obtain ⟨x, hx, e⟩ := List.mem_map.mp hm
  exact (fact6 x ((h c hc).2 x hx)).2 e
theorem joinL_len {S : List Nat} : ∀ ls : List (List Nat), (TL.joinL S ls).length ≤ (ls.map fun l => l.length + S.length).sum
  | [] => Nat.zero_le _
  | [p] => by simp [TL.joinL]
  | p :: q :: r => by
    have := joinL_len (S := S) (q :: r)
    show (p ++ (S ++ TL.joinL S (q :: r))).length ≤ _
    rw [List.length_append, List.length_append, List.map_cons, List.sum_cons]
    omega
theorem sum_le {α : Type} {f : α → Nat} {n : Nat} : ∀ {l : List α}, (∀ x ∈ l, f x ≤ n) → (l.map f).sum ≤ l.length * n
  | [], _ => Nat.zero_le _
  | x :: l, h => by
    have h1 := h x List.mem_cons_self
    have h2 := sum_le (l := l) fun y hy => h y (List.mem_cons_of_mem _ hy)
    rw [List.map_cons, List.sum_cons, List.length_cons, Nat.add_mul]
    omega
theorem deck_len {d : List Card} (h : ∀ c ∈ d, CardOk c) : (textD d).length ≤ d.length * 13 := by
  rw [← tl_len, tl_deck]
  refine Nat.le_trans (joinL_len _) ?_
  rw [List.map_map]
  refine sum_le fun c hc => ?_
  have := (h c hc).1
  show (c.map cpOf).length + 1 ≤ 13
  rw [List.length_map]
  omega
theorem deck_ne {d : List Card} (hne : d ≠ []) (h1 : ∀ c ∈ d, 1 ≤ c.length) : ¬ textD d = ("" : Str) := by
  intro e
  have := congrArg TL.tl e
  rw [tl_deck, tl_empty] at this
  cases d with
  | nil => exact hne rfl
  | cons c d =>
    have hc := h1 c List.mem_cons_self
    have hl : c.map cpOf = [] := by
      cases d with
      | nil => exact this
      | cons c2 d =>
        have q : c.map cpOf ++ ([10] ++ TL.joinL [10] ((c2 :: d).map fun c => c.map cpOf)) = [] := this
        exact (List.append_eq_nil_iff.mp q).1
    rw [List.map_eq_nil_iff] at hl
    rw [hl] at hc
    simp at hc
/-- the signs of a card's text, one by one -/
theorem signs_text (c : Card) : signs (textOf c) = c.map fun x => D.str (signOf x) := by
  show (textOf c).cps.toList.map _ = _
  have : (textOf c).cps.toList = c.map cpOf := tl_text c
  rw [this, List.map_map]
  rfl
theorem join_open {a : Str} {ds : List D} {ys : List Str} {Φ : Sl → Prop} (e : ds = ys.map D.str) (hl : (ys.map (·.length)).sum + ys.length * a.length ≤ 1000000) (k : Φ (.val (.str (Txt.join a ys)))) : joinD (.str a) [.lst ds] Φ := by
  subst e
  unfold joinD
  show match D.strs (ys.map D.str) with | some ys => _ | none => _
  rw [strs_map]
  exact ⟨hl, k⟩
end DL
set_option Elab.async false
set_option linter.all false
set_option maxRecDepth 100000
set_option maxHeartbeats 2000000
namespace DL
open PySem PySem.Spec PyProof.Rows L2 RT

/-! ### a card's text, a deck's -/
theorem join_text {c : Card} (h : CardOk c) {Φ : Sl → Prop} (k : Φ (.val (.str (textOf c)))) : joinD (.str "") [.lst (c.map fun x => D.str (signOf x))] Φ := by
  refine join_open (ys := c.map signOf) (by rw [List.map_map]; rfl) ?_ k
  have h1 : ((c.map signOf).map (·.length)).sum ≤ (c.map signOf).length * 1 := sum_le fun x hx => by
    obtain ⟨y, _, rfl⟩ := List.mem_map.mp hx
    exact Nat.le_refl 1
  have h2 : ("" : Str).length = 0 := by decide +kernel
  rw [List.length_map] at h1 ⊢
  have := h.1
  rw [h2]
  omega
theorem join_deck {d : List Card} (hl : d.length ≤ 1000) (h : ∀ c ∈ d, CardOk c) {Φ : Sl → Prop} (k : Φ (.val (.str (textD d)))) : joinD (.str "\n") [.lst (d.map fun c => D.str (textOf c))] Φ := by
  refine join_open (ys := d.map textOf) (by rw [List.map_map]; rfl) ?_ k
  have h1 : ((d.map textOf).map (·.length)).sum ≤ (d.map textOf).length * 12 := sum_le fun x hx => by
    obtain ⟨c, hc, rfl⟩ := List.mem_map.mp hx
    rw [text_len]
    exact (h c hc).1
  have h2 : ("\n" : Str).length = 1 := by decide +kernel
  rw [List.length_map] at h1 ⊢
  rw [h2]
  omega
def F_text_of : DF := fun xs Φ => ∃ c : Card, xs = [cardD c] ∧ CardOk c ∧ Φ (.val (.str (textOf c)))
/- slots of text_of: 0 card, 1 column -/
def b_text_of : DS := (dRet (dMt isS joinD (dC (.str "")) (dCons (dV (dLc (diAny (dVar 0)) (dgName 1) dYes (dV (dCall F_sign_of (dCons (dVar 1) dNil))) [1])) dNil)))
theorem rd_text_of : ∀ xs Φ, F_text_of xs Φ → b_text_of (rtV Φ) (slots xs 2) := by
  rintro xs Φ ⟨c, rfl, hc, k⟩
  refine ⟨trivial, ?_⟩
  refine lc_map (ρ1 := [.val (cardD c), .un]) c colD (fun x => .str (signOf x)) (fun Ψ h => h) (by have := hc.1; omega) (.inl rfl) (fun x hx Ψ h => ⟨x, rfl, hc.2 x hx, h⟩) ?_
  exact join_text hc k
def F_written : DF := fun xs Φ => ∃ d : List Card, xs = [deckD d] ∧ d.length ≤ 1000 ∧ (∀ c ∈ d, CardOk c) ∧ Φ (.val (.str (textD d)))
/- slots of written: 0 deck, 1 card -/
def b_written : DS := (dRet (dMt isS joinD (dC (.str "\n")) (dCons (dV (dLc (diAny (dVar 0)) (dgName 1) dYes (dV (dCall F_text_of (dCons (dVar 1) dNil))) [1])) dNil)))
theorem rd_written : ∀ xs Φ, F_written xs Φ → b_written (rtV Φ) (slots xs 2) := by
  rintro xs Φ ⟨d, rfl, hl, hd, k⟩
  refine ⟨trivial, ?_⟩
  refine lc_map (ρ1 := [.val (deckD d), .un]) d cardD (fun c => .str (textOf c)) (fun Ψ h => h) (by omega) (.inl rfl) (fun c hc Ψ h => ⟨c, rfl, hd c hc, h⟩) ?_
  exact join_deck hl hd k
def F_read : DF := fun xs Φ => ∃ d : List Card, xs = [.str (textD d)] ∧ d.length ≤ 200 ∧ (∀ c ∈ d, CardOk c ∧ 1 ≤ c.length) ∧ Φ (.own (d.map cardD))
/- slots of read: 0 text, 1 deck, 2 rows, 3 at, 4 card, 5 sign -/
def b_read : DS := (dSeq (dIfS (dTest (dOp eqD (dVar 0) (dC (.str "")))) (dRet (dLst dNil)) dNext)
  (dSeq (dSet 1 (dLst dNil))
  (dSeq (dSet 2 (dR (dV (dMt isS splitD (dVar 0) (dCons (dC (.str "\n")) dNil)))))
  (dSeq (dFor (diRng1 (dV (dCB lenD (dCons (dVar 2) dNil)))) (dgName 3) (dSeq (dSet 4 (dR (dV (dCB tupleD (dCons (dV (dLc (diAny (dOp ixD (dVar 2) (dVar 3))) (dgName 5) dYes (dV (dCall F_column_by (dCons (dVar 5) dNil))) [5])) dNil)))))
  (dSeq (dIfS (dOr (dTest (dOp memV (dC .non) (dVar 4))) (dOr (dNot (dTest (dChain leD leD (dC (.int 1)) (dV (dCB lenD (dCons (dVar 4) dNil))) (dC (.int 12))))) (dTest (dOp geD (dVar 3) (dC (.int 200)))))) (fun _ _ => False) dNext)
  (dDrop (dApp 1 (dVar 4))))))
  (dRetM 1)))))
theorem rd_read : ∀ xs Φ, F_read xs Φ → b_read (rtV Φ) (slots xs 6) := by
  rintro xs Φ ⟨d, rfl, hl, hd, k⟩
  have hok : ∀ c ∈ d, CardOk c := fun c hc => (hd c hc).1
  refine ⟨deck_ok hok, by decide +kernel, ?_⟩
  rw [eqv_str]
  refine iteD (fun h => ?_) (fun h => ?_)
  · cases d with
    | nil => exact ⟨by simp, k⟩
    | cons c d => exact absurd h (deck_ne (by simp) fun x hx => (hd x hx).2)
  · have hne : d ≠ [] := fun e => h (by rw [e]; decide +kernel)
    have tl := deck_len hok
    refine ⟨by simp, trivial, ?_⟩
    have rows : splitD (.str (textD d)) [.str "\n"] fun z => asD (fun x ρ1 => free ρ1 2 ∧ dSeq (dFor (diRng1 (dV (dCB lenD (dCons (dVar 2) dNil)))) (dgName 3) (dSeq (dSet 4 (dR (dV (dCB tupleD (dCons (dV (dLc (diAny (dOp ixD (dVar 2) (dVar 3))) (dgName 5) dYes (dV (dCall F_column_by (dCons (dVar 5) dNil))) [5])) dNil)))))
  (dSeq (dIfS (dOr (dTest (dOp memV (dC .non) (dVar 4))) (dOr (dNot (dTest (dChain leD leD (dC (.int 1)) (dV (dCB lenD (dCons (dVar 4) dNil))) (dC (.int 12))))) (dTest (dOp geD (dVar 3) (dC (.int 200)))))) (fun _ _ => False) dNext)
  (dDrop (dApp 1 (dVar 4))))))
  (dRetM 1) (rtV Φ) (ρ1.set 2 (.val x))) z [.val (.str (textD d)), .own [], .un, .un, .un, .un] := by
      refine ⟨by decide +kernel, by omega, ?_⟩
      rw [split_deck hne hok, List.map_map]
      refine ⟨trivial, ?_⟩
      refine for_open ⟨(by unfold inR; rw [List.length_map]; omega), ?_⟩
      refine forL_inv (fun rest ρ => ∃ (j : Nat) (s3 s4 : Sl), rest = rng (d.length - j) j 1 ∧ j ≤ d.length ∧ (s3 = .un ∨ ∃ z, s3 = .val z) ∧ (s4 = .un ∨ ∃ z, s4 = .val z) ∧ ρ = [.val (.str (textD d)), .own ((d.take j).map cardD), .val (.lst (d.map fun c => D.str (textOf c))), s3, s4, .un]) ?_ ?_
        ⟨0, .un, .un, by rw [List.length_map]; rfl, Nat.zero_le _, .inl rfl, .inl rfl, rfl⟩
      · rintro x rest ρ ⟨j, s3, s4, e, hj, f3, f4, rfl⟩ K hK
        have hlt : j < d.length := by
          rcases Nat.lt_or_ge j d.length with h | h
          · exact h
          · rw [show d.length - j = 0 by omega] at e
            cases e
        rw [show d.length - j = (d.length - (j + 1)) + 1 by omega] at e
        cases e
        obtain ⟨ck, cl⟩ := hd d[j] (List.getElem_mem hlt)
        have et : d.take (j + 1) = d.take j ++ [d[j]] := (List.take_append_getElem hlt).symm
        generalize hc : d[j] = c at ck cl et
        refine ⟨by rcases f3 with rfl | ⟨_, rfl⟩ <;> trivial, ?_⟩
        have at_j : ∀ Ψ : D → Prop, Ψ (.str (textOf c)) → ixL (d.map fun c => D.str (textOf c)) (.int (j : Nat)) Ψ := fun Ψ h => ixL_nat (d := .str (textOf c)) (by rw [List.getElem?_map, List.getElem?_eq_getElem hlt, hc]; rfl) h
        refine lc_map (ρ1 := [.val (.str (textD d)), .own ((d.take j).map cardD), .val (.lst (d.map fun c => D.str (textOf c))), .val (.int (j : Nat)), s4, .un]) c (fun x => .str (signOf x)) colD (fun Ψ h => ?_) (by have := ck.1; omega) (.inl rfl) (fun x hx Ψ h => ⟨signOf x, rfl, sign_ok (ck.2 x hx), by rw [columnBy_sign (ck.2 x hx)]; exact h⟩) ?_
        · refine at_j _ ?_
          have q : Ψ (signs (textOf c)) [.val (.str (textD d)), .own ((d.take j).map cardD), .val (.lst (d.map fun c => D.str (textOf c))), .val (.int (j : Nat)), s4, .un] := by
            rw [signs_text]
            exact h
          exact q
        · refine ⟨by rcases f4 with rfl | ⟨_, rfl⟩ <;> trivial, ?_⟩
          refine ⟨rfl, okL_map colD fun x _ => ok_col x _, ?_⟩
          have nn : ((c.map colD).any fun z => D.eqv z .non) = false := by
            rw [List.any_map, List.any_eq_false]
            intro x _
            simp [colD, D.eqv, D.py, PyData.eqv]
          rw [nn]
          have c1 : (1 : Int) ≤ ((c.map colD).length : Nat) := by rw [List.length_map]; omega
          have c2 : (((c.map colD).length : Nat) : Int) ≤ 12 := by rw [List.length_map]; have := ck.1; omega
          refine iteD (fun _ => ?_) (fun h => absurd c1 h)
          show if (!decide ((((c.map colD).length : Nat) : Int) ≤ 12)) = true then _ else _
          rw [decide_eq_true c2]
          refine iteD (fun h => ?_) (fun _ => ?_)
          · omega
          · refine ⟨by rw [List.length_map, List.length_take]; omega, hK _ ⟨j + 1, .val (.int (j : Nat)), .val (cardD c), by push_cast; rfl, hlt, .inr ⟨_, rfl⟩, .inr ⟨_, rfl⟩, ?_⟩⟩
            rw [et, List.map_append]
            rfl
      · rintro ρ ⟨j, s3, s4, e, hj, f3, f4, rfl⟩
        have : j = d.length := by
          rcases Nat.lt_or_ge j d.length with h | h
          · rw [show d.length - j = (d.length - (j + 1)) + 1 by omega] at e
            cases e
          · omega
        rw [this, List.take_of_length_le (Nat.le_refl _)]
        exact k
    exact ⟨trivial, rows⟩
def F_L_sign : DF := fun xs Φ => ∃ c : Col, xs = [colD c] ∧ c ∈ every ∧ Φ (.val (.str (signOf c)))
/- slots of _law_sign: 0 _law_column_here -/
def b_L_sign : DS := (dRet (dR (dOp ixD (dC (.str " 0123456789-KLMNOPQRST+ABCDEFGHIJ")) (dV (dMt isL indexD (dV (dCall F_L_columns dNil)) (dCons (dVar 0) dNil))))))
theorem rd_L_sign : ∀ xs Φ, F_L_sign xs Φ → b_L_sign (rtV Φ) (slots xs 1) := by
  rintro xs Φ ⟨c, rfl, hc, k⟩
  refine ⟨rfl, trivial, okL_map colD fun x _ => ok_col x _, ok_col _ _, ?_⟩
  rw [fact4 c hc]
  have q : ixD (.str signsS) (.int ((every.idxOf c : Nat) : Int)) (fun z => Φ (.val z)) := ixS (by decide +kernel) (fact5 c hc) k
  exact q
end DL
set_option Elab.async false
set_option linter.all false
set_option maxRecDepth 100000
set_option maxHeartbeats 2000000
namespace DL
open PySem PySem.Spec PyProof.Rows L2

/-! ### instances: fields, stores, making, methods -/
def OT.adr : OT → Addr
  | .val _ => 0
  | .lst p _ => p
  | .tup p _ => p
  | .ins p _ _ _ => p
  | .dic p _ => p
theorem OT.root_adr {t : OT} (h : t.node = true) : t.root = .ref t.adr := by
  cases t with
  | val _ => cases h
  | _ => rfl
section
variable {K : PySem.W.Frag} {M : Addr → Prop} {Z G0 H0 G H : Hp} {σ : L2.St} {ρ : List Sl} {F : Nat → Addr → Prop}
/-- as put; who owns what behind it is known -/
theorem At.put2 {i : Nat} {t s' : OT} {π : List Stp} {B A' R C : List Addr} {v' : V} {G' H' : Hp} (A : At K M Z G0 H0 G H σ ρ F) (h : treeOf (ρ[i]?) = some t) (hv : σ[i]? = some (some t.root)) (nd : B.Nodup) (hF : ∀ a, F i a ↔ a ∈ B) (pm : B.Perm (A' ++ R))
    (b : ∀ (G' H' : Hp) (s' : OT) (C : List Addr), Same G G' → (∀ a ∈ R, H' a = H a) → Own K G' H' v' s' C → ∃ E, Own K G' H' t.root (t.put π s') E ∧ E.Perm (C ++ R))
    (eG : Same G G') (eGH : Same G' H') (old : ∀ a, H a ≠ none → G' a = G a) (hn : ∀ a, H a ≠ none → H' a ≠ none) (eH : ∀ a o, H a = some o → a ∉ A' → H' a = some o) (o : Own K G' H' v' s' C) (ndC : C.Nodup)
    (hC : ∀ a ∈ C, G' a = none ∧ H' a ≠ none ∧ (a ∈ A' ∨ H a = none ∨ (H0 a = none ∧ Z a = none ∧ ∀ j, ¬ F j a))) (node : (t.put π s').node = true) :
    ∃ F', At K M Z G0 H0 G' H' σ (ρ.set i (withTree (t.put π s') (ρ[i]?))) F' ∧ ∀ j a, F' j a → a ∈ C ∨ (a ∉ A' ∧ F j a) := by
  have hi : i < ρ.length := by
    rcases tree_sl h with e | e <;> exact (List.getElem?_eq_some_iff.mp e).1
  have ndB := (pm.nodup_iff).mp nd
  have hd := List.nodup_append.mp ndB
  have inF : ∀ a, a ∈ A' ∨ a ∈ R → F i a := fun a z => (hF a).mpr (pm.mem_iff.mpr (List.mem_append.mpr z))
  obtain ⟨E, oE, pE⟩ := b G' H' s' C eG (fun a ha => by
    have fa := inF a (.inr ha)
    obtain ⟨_, h2, _⟩ := A.fp i a fa
    cases q : H a with
    | none => exact absurd q h2
    | some u => exact eH a u q fun z => hd.2.2 a z a ha rfl) o
  have ndE : E.Nodup := by
    rw [pE.nodup_iff, List.nodup_append]
    refine ⟨ndC, hd.2.1, fun a ha c hc e => ?_⟩
    subst e
    have fa := inF a (.inr hc)
    rcases (hC a ha).2.2 with z | z | z
    · exact hd.2.2 a z a hc rfl
    · exact (A.fp i a fa).2.1 z
    · exact z.2.2 i fa
  have ok : (t.put π s').ok K G' H' t.root (fun a => a ∈ E) := ⟨node, E, oE, ndE, fun _ => Iff.rfl⟩
  refine ⟨_, A.chg (i := i) (x := withTree (t.put π s') (ρ[i]?)) (Fn := fun a => a ∈ E) hi eG eGH old hn (fun a u q nf => eH a u q fun z => nf (inF a (.inl z))) ?_ ?_ (fun a ha => ?_), fun j a z => ?_⟩
  · rw [hv]
    rcases tree_sl h with e | e
    · rw [e]
      exact ⟨t.root, rfl, ok⟩
    · rw [e]
      exact ⟨t.root, rfl, ok⟩
  · intro z
    rcases tree_sl h with e | e
    · rw [e] at z
      exact z.elim
    · rw [e]
      trivial
  · rcases List.mem_append.mp (pE.mem_iff.mp ha) with z | z
    · obtain ⟨h1, h2, h3⟩ := hC a z
      refine ⟨h1, h2, ?_⟩
      rcases h3 with h3 | h3
      · exact .inl (inF a (.inl h3))
      · exact .inr h3
    · have fa := inF a (.inr z)
      obtain ⟨g1, g2, _⟩ := A.fp i a fa
      exact ⟨(old a g2).trans g1, hn a g2, .inl fa⟩
  · by_cases hj : j = i
    · rw [if_pos hj] at z
      rcases List.mem_append.mp (pE.mem_iff.mp z) with z | z
      · exact .inl z
      · exact .inr ⟨fun q => hd.2.2 a q a z rfl, by rw [hj]; exact inF a (.inr z)⟩
    · rw [if_neg hj] at z
      refine .inr ⟨fun q => hj (A.dj j i a z (inF a (.inl q))), z⟩
end
/-! fields -/
/-- place.f -/
def dpFd (C : Addr) (d : DP) (f : Str) : DP := fun ρ Φ => d ρ fun i π s ρ1 => match s with
  | .ins _ _ C' fs => C' = C ∧ match fs.lookup f with
    | some y => Φ i (π ++ [.fd f]) y ρ1
    | none => False
  | _ => False
/-- data.f -/
def dFld (C : Addr) (d : DE) (f : Str) : DE := fun ρ Φ => d ρ fun x ρ1 => match x with
  | .ins C' fs => C' = C ∧ match fs.lookup f with
    | some y => Φ y ρ1
    | none => False
  | _ => False
theorem OwnF.get {K : PySem.W.Frag} {G H : Hp} {vs : List (Str × V)} {ts : List (Str × OT)} {A : List Addr} {f : Str} {t : OT} (h : OwnF K G H vs ts A) (e : ts.lookup f = some t) : ∃ v A', vs.lookup f = some v ∧ Own K G H v t A' := by
  obtain ⟨v, A', _, h1, h2, _⟩ := h.at e
  exact ⟨v, A', h1, h2⟩
theorem RpF.get {K : PySem.W.Frag} {G : Hp} : ∀ {vs : List (Str × V)} {ds : List (Str × D)} {f : Str} {d : D}, RpF K G vs ds → ds.lookup f = some d → ∃ v, vs.lookup f = some v ∧ Rp K G v d
  | _, _, _, _, .nil, e => by simp at e
  | (g, v0) :: vs, (_, d0) :: ds, f, d, .cons h r, e => by
    by_cases c : f = g
    · subst c
      have e' : d0 = d := by simpa [List.lookup] using e
      subst e'
      exact ⟨v0, by simp [List.lookup], h⟩
    · have cb : (f == g) = false := by simpa using c
      have e' : ds.lookup f = some d := by simpa [List.lookup, cb] using e
      obtain ⟨v, h1, h2⟩ := RpF.get r e'
      exact ⟨v, by simpa [List.lookup, cb] using h1, h2⟩
theorem OwnF.len {K : PySem.W.Frag} {G H : Hp} : ∀ {vs : List (Str × V)} {ts : List (Str × OT)} {A : List Addr}, OwnF K G H vs ts A → vs.length = ts.length
  | _, _, _, .nil => rfl
  | _, _, _, .cons _ r => by rw [List.length_cons, List.length_cons, OwnF.len r]
theorem OwnF.lookN {K : PySem.W.Frag} {G H : Hp} {f : Str} : ∀ {vs : List (Str × V)} {ts : List (Str × OT)} {A : List Addr}, OwnF K G H vs ts A → ts.lookup f = none → vs.lookup f = none
  | _, _, _, .nil, _ => rfl
  | (g, v0) :: vs, (_, t0) :: ts, _, .cons h r, e => by
    by_cases c : f = g
    · subst c
      simp [List.lookup] at e
    · have cb : (f == g) = false := by simpa using c
      have e' : ts.lookup f = none := by simpa [List.lookup, cb] using e
      have := OwnF.lookN r e'
      simpa [List.lookup, cb] using this
section
variable {K : PySem.W.Frag} {C : Addr} {f : Str}
theorem sim_pfd {t : TE} {d : DP} (c : Cls K C) (n : NoAttr K C f) (h : SimP K t d) : SimP K (tFld K t f) (dpFd C d f) := by
  intro M Z G0 H0 G H σ ρ F Φ Q A hd k
  refine h A hd fun v i π s ρ1 F1 G1 H1 A1 e1 p1 q1 => ?_
  split at q1
  · rename_i p dx C' fs
    obtain ⟨ec, q1⟩ := q1
    subst ec
    split at q1
    · rename_i y ey
      obtain ⟨B, o⟩ := p1.own
      cases o with
      | ins hp hdx of =>
        obtain ⟨u, A', e3, o3⟩ := of.get ey
        refine ⟨p, C', dx, _, u, rfl, hp, c, n, e3, ?_⟩
        obtain ⟨t0, et, eg⟩ := p1.ex
        refine k u i (π ++ [.fd f]) y ρ1 F1 G1 H1 A1 e1 ⟨⟨t0, et, ?_⟩, ⟨A', o3⟩⟩ q1
        rw [get_app eg]
        show (match fs.lookup f with | some t => t.get [] | none => none) = _
        rw [ey]
        rfl
    · exact q1.elim
  · exact q1.elim
theorem sim_dfld {t : TE} {d : DE} (c : Cls K C) (n : NoAttr K C f) (h : SimE K t d) : SimE K (tFld K t f) (dFld C d f) := by
  intro M Z G0 H0 G H σ ρ F Φ Q A hd k
  refine h A hd fun v x ρ1 F1 G1 H1 A1 e1 r1 q1 => ?_
  split at q1
  · rename_i C' fs
    obtain ⟨ec, q1⟩ := q1
    subst ec
    split at q1
    · rename_i y ey
      cases r1 with
      | ins hp rf =>
        rename_i a dx vs
        obtain ⟨u, e3, r3⟩ := rf.get ey
        exact ⟨a, C', dx, _, u, rfl, A1.gh _ _ hp, c, n, e3, k u y ρ1 F1 G1 H1 A1 e1 r3 q1⟩
    · exact q1.elim
  · exact q1.elim
end
/-! stores -/
/-- the tree of a result -/
def asTr (Φ : OT → Prop) : Sl → Prop
  | .val d => Φ (.val d)
  | .own ds => ∀ p, Φ (.lst p (ds.map OT.val))
  | .loc t => Φ t
  | _ => False
/-- place.f = e -/
def dFSet (C : Addr) (d : DP) (f : Str) (e : DR) : DS := fun Δ ρ => e ρ (asT fun r ρ0 => d ρ0 fun i π s ρ1 => match s, treeOf (ρ1[i]?) with
  | .ins p dx C' fs, some t => C' = C ∧ fs.length < 1000 ∧ Δ.nx (ρ1.set i (withTree (t.put π (.ins p dx C' (putFs f r fs))) (ρ1[i]?)))
  | _, _ => False)
/-- place[k] = e, e a new thing -/
def dPSetT (d : DP) (k : DE) (e : DR) : DS := fun Δ ρ => e ρ (asT fun r ρ0 => d ρ0 fun i π s ρ1 => k ρ1 fun x ρ2 => match treeOf (ρ2[i]?), x with
  | some t, .int j => match t.get π with
    | some (.lst p xs) => s.node = true ∧ s.root = .ref p ∧ 0 ≤ j ∧ j < xs.length ∧ Δ.nx (ρ2.set i (withTree (t.put π (.lst p (xs.set j.toNat r))) (ρ2[i]?)))
    | _ => False
  | _, _ => False)
theorem OwnF.put {K : PySem.W.Frag} {G H : Hp} {v : V} {t : OT} {B : List Addr} {f : Str} (o : Own K G H v t B) : ∀ {vs : List (Str × V)} {ts : List (Str × OT)} {A : List Addr}, OwnF K G H vs ts A → ∃ A', OwnF K G H (putF f v vs) (putFs f t ts) A' ∧ ∃ A0 : List Addr, A'.Perm (A0 ++ B) ∧ A0.Sublist A
  | _, _, _, .nil => ⟨B ++ [], .cons o .nil, [], by simp, List.Sublist.refl _⟩
  | (g, v0) :: vs, (_, t0) :: ts, _, .cons (A := A1) (B := A2) h r => by
    by_cases c : g = f
    · subst c
      have e1 : putF g v ((g, v0) :: vs) = (g, v) :: vs := by simp [putF]
      have e2 : putFs g t ((g, t0) :: ts) = (g, t) :: ts := by simp [putFs]
      rw [e1, e2]
      exact ⟨B ++ A2, .cons o r, A2, List.perm_append_comm, List.sublist_append_right A1 A2⟩
    · have e1 : putF f v ((g, v0) :: vs) = (g, v0) :: putF f v vs := by
        show (if g = f then _ else _) = _
        rw [if_neg c]
      have e2 : putFs f t ((g, t0) :: ts) = (g, t0) :: putFs f t ts := by
        show (if g = f then _ else _) = _
        rw [if_neg c]
      obtain ⟨A', h1, A0, h2, h3⟩ := OwnF.put (f := f) o r
      rw [e1, e2]
      refine ⟨A1 ++ A', .cons h h1, A1 ++ A0, ?_, List.Sublist.append (List.Sublist.refl A1) h3⟩
      rw [List.append_assoc]
      exact List.Perm.append_left A1 h2
theorem OwnL.sett {K : PySem.W.Frag} {G H : Hp} {v : V} {t : OT} {B : List Addr} (o : Own K G H v t B) : ∀ {vs : List V} {ts : List OT} {A : List Addr} (k : Nat), OwnL K G H vs ts A → ∃ A', OwnL K G H (vs.set k v) (ts.set k t) A' ∧ ∃ A0 : List Addr, (A'.Perm (A0 ++ B) ∨ A' = A0) ∧ A0.Sublist A
  | _, _, _, _, .nil => ⟨[], .nil, [], .inr rfl, List.Sublist.refl _⟩
  | _, _, _, 0, .cons (A := A1) (B := A2) h r => ⟨B ++ A2, .cons o r, A2, .inl List.perm_append_comm, List.sublist_append_right A1 A2⟩
  | _, _, _, k + 1, .cons (A := A1) (B := A2) h r => by
    obtain ⟨A', h1, A0, h2, h3⟩ := OwnL.sett o k r
    refine ⟨A1 ++ A', .cons h h1, A1 ++ A0, ?_, List.Sublist.append (List.Sublist.refl A1) h3⟩
    rcases h2 with h2 | h2
    · left
      rw [List.append_assoc]
      exact List.Perm.append_left A1 h2
    · right
      rw [h2]
theorem sim_fset {K : PySem.W.Frag} {C : Addr} {f : Str} {tv tp : TE} {d : DP} {e : DR} (c : Cls K C) (n : NoAttr K C f) (hv : SimR K tv e) (h : SimP K tp d) : SimS K (sFld K tp tv f) (dFSet C d f e) := by
  intro M Z G0 H0 G H σ ρ F Δ Q A hd k1 k2 k3 k4
  refine hv A hd fun v x Fn ρ0 F0 G1 H1 A0 e0 r0 q0 => ?_
  obtain ⟨tr, Cr, q0, or, ndr, fr⟩ := res_tree r0 q0
  refine h (A0.asideS (A' := Cr) fun a ha => ⟨(fr a ha).1, (fr a ha).2.2.2.2⟩) q0 fun w i π s ρ1 F1 G2 H2 A1 e1 p1 q1 => ?_
  have keep : ∀ a ∈ Cr, H2 a = H1 a ∧ G2 a = none ∧ ∀ j, ¬ F1 j a := fun a ha => by
    cases q : H1 a with
    | none => exact absurd q (fr a ha).2.1
    | some u => exact A1.hz a u (by unfold aside; rw [if_pos ha]; exact q)
  have A2 : At K M Z G0 H0 G2 H2 σ ρ1 F1 := A1.less fun a u q => by
    unfold aside
    by_cases c : a ∈ Cr
    · rw [(fr a c).2.2.2.1] at q
      cases q
    · rw [if_neg c]; exact q
  have or2 : Own K G2 H2 v tr Cr := or.st e1 fun a ha => (keep a ha).1
  split at q1
  · rename_i s0 o0 p dx C' fs t et
    obtain ⟨ec, hl, q1⟩ := q1
    subst ec
    obtain ⟨t', et', eg⟩ := p1.ex
    rw [et] at et'
    cases et'
    obtain ⟨g1, nn, B, v', A', R, o, nd, hF, o2, pm, b⟩ := A2.tree et eg
    cases o2 with
    | ins hp hdx of =>
      rename_i vs A''
      obtain ⟨Bp, op⟩ := p1.own
      have hw : w = .ref p := op.root rfl
      refine ⟨p, C', dx, vs, hw, hp, c, n, by rw [of.len]; exact hl, ?_⟩
      have ndA : (p :: dx :: A'').Nodup := (List.nodup_append.mp ((pm.nodup_iff).mp nd)).1
      have hpA : p ∉ dx :: A'' := (List.nodup_cons.mp ndA).1
      have inB : ∀ a ∈ p :: dx :: A'', F1 i a := fun a ha => (hF a).mpr (pm.mem_iff.mpr (List.mem_append_left _ ha))
      have gp : G2 p = none := (A2.fp i p (inB p List.mem_cons_self)).1
      have pC : ∀ a ∈ Cr, a ≠ p := fun a ha z => (keep a ha).2.2 i (by rw [z]; exact inB p List.mem_cons_self)
      have of' := of.st (G' := G2) (H' := upd H2 p (.ins C' dx (putF f v vs))) (Same.refl G2) fun a ha => upd_ne fun z => hpA (by rw [← z]; exact List.mem_cons_of_mem _ ha)
      have or3 : Own K G2 (upd H2 p (.ins C' dx (putF f v vs))) v tr Cr := or2.st (Same.refl G2) fun a ha => upd_ne (pC a ha)
      obtain ⟨A3, of3, A4, pm3, sub⟩ := OwnF.put (f := f) or3 of'
      have dxp : dx ≠ p := fun z => hpA (by rw [z]; exact List.mem_cons_self)
      have onew : Own K G2 (upd H2 p (.ins C' dx (putF f v vs))) (.ref p) (.ins p dx C' (putFs f tr fs)) (p :: dx :: A3) := .ins upd_same (by rw [upd_ne dxp]; exact hdx) of3
      have mem3 : ∀ a ∈ A3, a ∈ A'' ∨ a ∈ Cr := fun a ha => by
        rcases List.mem_append.mp (pm3.mem_iff.mp ha) with z | z
        · exact .inl (sub.mem z)
        · exact .inr z
      have nd3 : A3.Nodup := by
        rw [pm3.nodup_iff, List.nodup_append]
        refine ⟨((List.nodup_cons.mp (List.nodup_cons.mp ndA).2).2).sublist sub, ndr, fun a ha c hc e => ?_⟩
        subst e
        exact (keep a hc).2.2 i (inB a (List.mem_cons_of_mem _ (List.mem_cons_of_mem _ (sub.mem ha))))
      have ndC : (p :: dx :: A3).Nodup := by
        refine List.nodup_cons.mpr ⟨fun z => ?_, List.nodup_cons.mpr ⟨fun z => ?_, nd3⟩⟩
        · rcases List.mem_cons.mp z with z | z
          · exact dxp z.symm
          · rcases mem3 p z with z | z
            · exact hpA (List.mem_cons_of_mem _ z)
            · exact pC p z rfl
        · rcases mem3 dx z with z | z
          · exact (List.nodup_cons.mp (List.nodup_cons.mp ndA).2).1 z
          · exact (keep dx z).2.2 i (inB dx (by simp))
      obtain ⟨F3, B3, _⟩ := A2.put2 et g1 nd hF pm b (Same.refl G2) (fun a u q => by rw [upd_ne (ne_of_none q gp)]; exact A2.gh a u q) (fun _ _ => rfl) (fun a ha => by
          by_cases z : a = p
          · rw [z, upd_same]; exact Option.some_ne_none _
          · rw [upd_ne z]; exact ha)
        (fun a u q na => by rw [upd_ne fun z => na (by rw [z]; exact List.mem_cons_self)]; exact q) onew ndC (fun a ha => by
          have old : a ∈ p :: dx :: A'' → G2 a = none ∧ upd H2 p (.ins C' dx (putF f v vs)) a ≠ none ∧ (a ∈ p :: dx :: A'' ∨ H2 a = none ∨ (H0 a = none ∧ Z a = none ∧ ∀ j, ¬ F1 j a)) := fun hm => by
            obtain ⟨g1, g2, _⟩ := A2.fp i a (inB a hm)
            refine ⟨g1, ?_, .inl hm⟩
            by_cases z : a = p
            · rw [z, upd_same]; exact Option.some_ne_none _
            · rw [upd_ne z]; exact g2
          rcases List.mem_cons.mp ha with z | ha
          · exact old (by rw [z]; exact List.mem_cons_self)
          · rcases List.mem_cons.mp ha with z | ha
            · exact old (by rw [z]; simp)
            · rcases mem3 a ha with z | z
              · exact old (List.mem_cons_of_mem _ (List.mem_cons_of_mem _ z))
              · refine ⟨(keep a z).2.1, ?_, .inr (.inr ⟨(fr a z).2.2.1, (fr a z).2.2.2.1, (keep a z).2.2⟩)⟩
                rw [upd_ne (pC a z), (keep a z).1]
                exact (fr a z).2.1) (put_node nn (.inl rfl))
      exact k1 _ _ F3 G2 _ B3 (e0.trans e1) q1
  · exact q1.elim
theorem sim_psetT {K : PySem.W.Frag} {tv tp tk : TE} {d : DP} {ek : DE} {ev : DR} (hv : SimR K tv ev) (h : SimP K tp d) (g : SimE K tk ek) : SimS K (tAsg tv (gSub tp tk rSetL)) (dPSetT d ek ev) := by
  intro M Z G0 H0 G H σ ρ F Δ Q A hd k1 k2 k3 k4
  refine hv A hd fun v x Fn ρ0 F0 G1 H1 A0 e0 r0 q0 => ?_
  obtain ⟨tr, Cr, q0, or, ndr, fr⟩ := res_tree r0 q0
  refine h (A0.asideS (A' := Cr) fun a ha => ⟨(fr a ha).1, (fr a ha).2.2.2.2⟩) q0 fun w i π s ρ1 F1 G2 H2 A1 e1 p1 q1 => g A1 q1 fun u x ρ2 F2 G3 H3 A1' e2 r2 q2 => ?_
  have keep : ∀ a ∈ Cr, H3 a = H1 a ∧ G3 a = none ∧ ∀ j, ¬ F2 j a := fun a ha => by
    cases q : H1 a with
    | none => exact absurd q (fr a ha).2.1
    | some u => exact A1'.hz a u (by unfold aside; rw [if_pos ha]; exact q)
  have A2 : At K M Z G0 H0 G3 H3 σ ρ2 F2 := A1'.less fun a u q => by
    unfold aside
    by_cases c : a ∈ Cr
    · rw [(fr a c).2.2.2.1] at q
      cases q
    · rw [if_neg c]; exact q
  have or2 : Own K G3 H3 v tr Cr := or.st (e1.trans e2) fun a ha => (keep a ha).1
  split at q2
  · rename_i t j et
    split at q2
    · rename_i p xs eg
      obtain ⟨hn, hr, hj, hl, q2⟩ := q2
      obtain ⟨h1, nn, B, v', A', R, o, nd, hF, o2, pm, b⟩ := A2.tree et eg
      cases r2
      have hvr : w = .ref p := by
        obtain ⟨A1', o1⟩ := p1.own
        rw [o1.root hn, hr]
      cases o2 with
      | lst hp ol =>
        rename_i vs' A''
        have hlen := ol.len
        have hix : ixN vs'.length j = some j.toNat := by
          unfold ixN
          rw [if_pos hj, if_pos (by omega)]
        refine ⟨p, vs', j, j.toNat, hvr, rfl, hp, hix, ?_⟩
        have ndA : (p :: A'').Nodup := (List.nodup_append.mp ((pm.nodup_iff).mp nd)).1
        have hpA : p ∉ A'' := (List.nodup_cons.mp ndA).1
        have inB : ∀ a ∈ p :: A'', F2 i a := fun a ha => (hF a).mpr (pm.mem_iff.mpr (List.mem_append_left _ ha))
        have gp : G3 p = none := (A2.fp i p (inB p List.mem_cons_self)).1
        have pC : ∀ a ∈ Cr, a ≠ p := fun a ha z => (keep a ha).2.2 i (by rw [z]; exact inB p List.mem_cons_self)
        have ol' := ol.st (G' := G3) (H' := upd H3 p (.lst (vs'.set j.toNat v))) (Same.refl G3) fun a ha => upd_ne fun z => hpA (by rw [← z]; exact ha)
        have or3 : Own K G3 (upd H3 p (.lst (vs'.set j.toNat v))) v tr Cr := or2.st (Same.refl G3) fun a ha => upd_ne (pC a ha)
        obtain ⟨A3, ol3, A4, pm3, sub⟩ := OwnL.sett or3 j.toNat ol'
        have onew : Own K G3 (upd H3 p (.lst (vs'.set j.toNat v))) (.ref p) (.lst p (xs.set j.toNat tr)) (p :: A3) := .lst upd_same ol3
        have mem3 : ∀ a ∈ A3, a ∈ A'' ∨ a ∈ Cr := fun a ha => by
          rcases pm3 with pm3 | pm3
          · rcases List.mem_append.mp (pm3.mem_iff.mp ha) with z | z
            · exact .inl (sub.mem z)
            · exact .inr z
          · rw [pm3] at ha
            exact .inl (sub.mem ha)
        have nd4 : A4.Nodup := ((List.nodup_cons.mp ndA).2).sublist sub
        have nd3 : A3.Nodup := by
          rcases pm3 with pm3 | pm3
          · rw [pm3.nodup_iff, List.nodup_append]
            refine ⟨nd4, ndr, fun a ha c hc e => ?_⟩
            subst e
            exact (keep a hc).2.2 i (inB a (List.mem_cons_of_mem _ (sub.mem ha)))
          · rw [pm3]; exact nd4
        have ndC : (p :: A3).Nodup := List.nodup_cons.mpr ⟨fun z => by
          rcases mem3 p z with z | z
          · exact hpA z
          · exact pC p z rfl, nd3⟩
        obtain ⟨F3, B3, _⟩ := A2.put2 et h1 nd hF pm b (Same.refl G3) (fun a u q => by rw [upd_ne (ne_of_none q gp)]; exact A2.gh a u q) (fun _ _ => rfl) (fun a ha => by
            by_cases z : a = p
            · rw [z, upd_same]; exact Option.some_ne_none _
            · rw [upd_ne z]; exact ha)
          (fun a u q na => by rw [upd_ne fun z => na (by rw [z]; exact List.mem_cons_self)]; exact q) onew ndC (fun a ha => by
            have old : a ∈ p :: A'' → G3 a = none ∧ upd H3 p (.lst (vs'.set j.toNat v)) a ≠ none ∧ (a ∈ p :: A'' ∨ H3 a = none ∨ (H0 a = none ∧ Z a = none ∧ ∀ j, ¬ F2 j a)) := fun hm => by
              obtain ⟨g1, g2, _⟩ := A2.fp i a (inB a hm)
              refine ⟨g1, ?_, .inl hm⟩
              by_cases z : a = p
              · rw [z, upd_same]; exact Option.some_ne_none _
              · rw [upd_ne z]; exact g2
            rcases List.mem_cons.mp ha with z | ha
            · exact old (by rw [z]; exact List.mem_cons_self)
            · rcases mem3 a ha with z | z
              · exact old (List.mem_cons_of_mem _ z)
              · refine ⟨(keep a z).2.1, ?_, .inr (.inr ⟨(fr a z).2.2.1, (fr a z).2.2.2.1, (keep a z).2.2⟩)⟩
                rw [upd_ne (pC a z), (keep a z).1]
                exact (fr a z).2.1) (put_node nn (.inl rfl))
        exact k1 _ _ F3 G3 _ B3 (e0.trans (e1.trans e2)) q2
    · exact q2.elim
  · exact q2.elim
end DL
set_option Elab.async false
set_option linter.all false
set_option maxRecDepth 100000
set_option maxHeartbeats 2000000
namespace DL
open PySem PySem.Spec PyProof.Rows L2 RT

/-! ### C(..) -/
def dMk (C : Addr) (f : DFO) (da : DA) : DR := fun ρ Φ => da ρ fun xs ρ1 => ∀ p dx, f (.ins p dx C []) xs fun r S' => r = .val .non ∧ Φ (.loc S') ρ1
/-- .., lists of one's own lent -/
def dMkL (C : Addr) (f : DFO) (da : DA) : DR := fun ρ Φ => da ρ fun xs ρ1 => ∀ p dx, f (.ins p dx C []) xs fun r S' => r = .val .non ∧ S'.flat = true ∧ Φ (.loc S') ρ1
section
variable {K : PySem.W.Frag} {C : Addr} {f : DFO} {t : TA} {d : DA} {E : XK}
theorem new_obj {G H : Hp} {x dx C : Addr} (gh : Same G H) (hx : H x = none) (hdx : H dx = none) (ne : dx ≠ x) :
    Same H (upd (upd H dx (.own x)) x (.ins C dx [])) ∧ OT.ok (.ins x dx C []) K G (upd (upd H dx (.own x)) x (.ins C dx [])) (.ref x) (fun a => a ∈ [x, dx]) ∧ (∀ a ∈ [x, dx], G a = none ∧ upd (upd H dx (.own x)) x (.ins C dx []) a ≠ none) := by
  have hd : upd (upd H dx (.own x)) x (.ins C dx []) dx = some (.own x) := by rw [upd_ne ne, upd_same]
  refine ⟨fun a u q => by rw [upd_ne (ne_of_none q hx), upd_ne (ne_of_none q hdx)]; exact q, ⟨rfl, [x, dx], .ins upd_same hd .nil, by simp [Ne.symm ne], fun _ => Iff.rfl⟩, fun a ha => ?_⟩
  rcases List.mem_cons.mp ha with z | z
  · rw [z, upd_same]
    exact ⟨gh.free hx, Option.some_ne_none _⟩
  · rw [List.mem_singleton.mp z, hd]
    exact ⟨gh.free hdx, Option.some_ne_none _⟩
theorem val_non {K : PySem.W.Frag} {Z H0 G H : Hp} {F : Nat → Addr → Prop} {v : V} {Fn : Addr → Prop} (r : ResOk K Z H0 G H F v (.val .non) Fn) : v = .non := by
  obtain ⟨_, w, e, h⟩ := r.ok
  cases e
  cases h
  rfl
theorem At.fresh0 {M : Addr → Prop} {Z G0 H0 G H : Hp} {σ : L2.St} {ρ : List Sl} {F : Nat → Addr → Prop} {a : Addr} (A : At K M Z G0 H0 G H σ ρ F) (h : H a = none) : H0 a = none ∧ Z a = none ∧ ∀ j, ¬ F j a := by
  refine ⟨?_, ?_, fun j z => (A.fp j a z).2.1 h⟩
  · cases q : H0 a with
    | none => rfl
    | some o => exact absurd h (A.hn a (by rw [q]; exact Option.some_ne_none _))
  · cases q : Z a with
    | none => rfl
    | some o =>
      have := (A.hz a o q).1
      rw [h] at this
      cases this
theorem sim_mk (h : SimA K t d) : SimR K (tMake C (SpO K f) [] E t) (dMk C f d) := by
  intro M Z G0 H0 G H σ ρ F Φ Q A hd k
  refine h A hd fun vs xs ρ1 F1 G1 H1 A1 e1 r1 q1 => ?_
  intro x dx hx hdx ne
  obtain ⟨sm, ok, fr⟩ := new_obj (K := K) (C := C) A1.gh hx hdx ne
  rw [List.append_nil]
  refine ⟨G1, .ins x dx C [], fun a => a ∈ [x, dx], xs, _, .ref x, vs, rfl, ok, fr, A1.gh.trans sm, r1, q1 x dx, fun v r Fr S' Fs' G2 H2 eG eH hn eGH old er hs hf hr q2 => ?_⟩
  obtain ⟨rfl, q2⟩ := q2
  have np : ∀ a, H1 a ≠ none → a ∉ [x, dx] := fun a ha z => by
    rcases List.mem_cons.mp z with z | z
    · rw [z] at ha; exact ha hx
    · rw [List.mem_singleton.mp z] at ha; exact ha hdx
  have up : ∀ a, H1 a ≠ none → upd (upd H1 dx (.own x)) x (.ins C dx []) a ≠ none := fun a ha => by
    cases q : H1 a with
    | none => exact absurd q ha
    | some u => rw [sm a u q]; exact Option.some_ne_none _
  have un : ∀ a, upd (upd H1 dx (.own x)) x (.ins C dx []) a = none → H1 a = none := fun a ha => by
    cases q : H1 a with
    | none => rfl
    | some u => rw [sm a u q] at ha; cases ha
  have sH : Same H1 H2 := fun a o q => eH a o (sm a o q) (np a (by rw [q]; exact Option.some_ne_none _))
  have od : ∀ a, H1 a ≠ none → G2 a = G1 a := fun a ha => old a (up a ha)
  have A2 := A1.grow eG sH eGH od
  refine ⟨val_non hr, k (.ref x) (.loc S') Fs' ρ1 F1 G2 H2 A2 (e1.trans eG) ⟨⟨.ref x, rfl, hs⟩, fun z => z, fun a fa => ?_⟩ q2⟩
  obtain ⟨h1, h2, h3⟩ := hf a fa
  have n1 : H1 a = none := by
    rcases h3 with h3 | h3
    · rcases List.mem_cons.mp h3 with z | z
      · rw [z]; exact hx
      · rw [List.mem_singleton.mp z]; exact hdx
    · exact un a h3
  obtain ⟨f1, f2, f3⟩ := A1.fresh0 n1
  exact ⟨h1, h2, f1, f2, f3⟩
theorem sim_mkL (h : SimAl K t d) : SimR K (tMake C (SpO K f) [] E t) (dMkL C f d) := by
  intro M Z G0 H0 G H σ ρ F Φ Q A hd k
  refine h A hd fun vs xs ρ1 F1 G1 Gp H1 A1 e1 ep ep2 el r1 q1 => ?_
  intro x dx hx hdx ne
  obtain ⟨sm, ok, fr⟩ := new_obj (K := K) (C := C) ep2 hx hdx ne
  rw [List.append_nil]
  refine ⟨Gp, .ins x dx C [], fun a => a ∈ [x, dx], xs, _, .ref x, vs, rfl, ok, fr, ep2.trans sm, r1, q1 x dx, fun v r Fr S' Fs' Gq H2 eG eH hn eGH old er hs hf hr q2 => ?_⟩
  obtain ⟨rfl, hfl, q2⟩ := q2
  have np : ∀ a, H1 a ≠ none → a ∉ [x, dx] := fun a ha z => by
    rcases List.mem_cons.mp z with z | z
    · rw [z] at ha; exact ha hx
    · rw [List.mem_singleton.mp z] at ha; exact ha hdx
  have up : ∀ a, H1 a ≠ none → upd (upd H1 dx (.own x)) x (.ins C dx []) a ≠ none := fun a ha => by
    cases q : H1 a with
    | none => exact absurd q ha
    | some u => rw [sm a u q]; exact Option.some_ne_none _
  have un : ∀ a, upd (upd H1 dx (.own x)) x (.ins C dx []) a = none → H1 a = none := fun a ha => by
    cases q : H1 a with
    | none => rfl
    | some u => rw [sm a u q] at ha; cases ha
  have sH : Same H1 H2 := fun a o q => eH a o (sm a o q) (np a (by rw [q]; exact Option.some_ne_none _))
  classical
  have hG : ∃ G2 : Hp, Same G1 G2 ∧ Same G2 H2 ∧ (∀ a, H1 a ≠ none → G2 a = G1 a) ∧ ∀ a, H1 a = none → G2 a = Gq a := by
    refine ⟨fun a => if H1 a = none then Gq a else G1 a, fun a o q => ?_, fun a o q => ?_, fun a n => if_neg n, fun a n => if_pos n⟩
    · show (if H1 a = none then Gq a else G1 a) = some o
      rw [if_neg (by rw [A1.gh a o q]; exact Option.some_ne_none _)]
      exact q
    · have q' : (if H1 a = none then Gq a else G1 a) = some o := q
      split at q'
      · exact eGH a o q'
      · exact sH a o (A1.gh a o q')
  obtain ⟨G2, g1, g2, g3, g4⟩ := hG
  have fl : ButLists Gq G2 := fun a u q => by
    by_cases n : H1 a = none
    · exact .inl (by rw [g4 a n]; exact q)
    · rw [old a (up a n)] at q
      rw [g3 a n]
      exact el a u q
  have A2 := A1.grow g1 sH g2 g3
  obtain ⟨nn, B, oB, nd, hB⟩ := hs
  refine ⟨val_non hr, k (.ref x) (.loc S') Fs' ρ1 F1 G2 H2 A2 (e1.trans g1) ⟨⟨.ref x, rfl, nn, B, oB.fl fl hfl, nd, hB⟩, fun z => z, fun a fa => ?_⟩ q2⟩
  obtain ⟨h1, h2, h3⟩ := hf a fa
  have n1 : H1 a = none := by
    rcases h3 with h3 | h3
    · rcases List.mem_cons.mp h3 with z | z
      · rw [z]; exact hx
      · rw [List.mem_singleton.mp z]; exact hdx
    · exact un a h3
  obtain ⟨f1, f2, f3⟩ := A1.fresh0 n1
  exact ⟨by rw [g4 a n1]; exact h1, h2, f1, f2, f3⟩
end
/-! ### o.m(..), o a place -/
def isInst (C : Addr) (m : Str) : OT → Prop
  | .ins _ _ C' fs => C' = C ∧ fs.lookup m = none
  | _ => False
def dCallM (C : Addr) (m : Str) (f : DFO) (d : DP) (da : DA) : DR := fun ρ Φ => d ρ fun i π s ρ1 => isInst C m s ∧ da ρ1 fun xs ρ2 => match treeOf (ρ2[i]?) with
  | some t => match t.get π with
    | some s2 => s2.node = true ∧ s2.adr = s.adr ∧ f s2 xs fun r S' => Φ r (ρ2.set i (withTree (t.put π S') (ρ2[i]?)))
    | none => False
  | none => False
theorem sim_callM {K : PySem.W.Frag} {C : Addr} {m : Str} {f : DFO} {tp : TE} {t : TA} {d : DP} {da : DA} {E : XK} (h : SimP K tp d) (g : SimA K t da) : SimR K (tMeth C m (SpO K f) [] E tp t) (dCallM C m f d da) := by
  intro M Z G0 H0 G H σ ρ F Φ Q A hd k
  refine h A hd fun v i π s ρ1 F1 G1 H1 A1 e1 p1 ⟨qi, q1⟩ => ?_
  have hv : ∃ a dx fs, v = .ref a ∧ s.adr = a ∧ H1 a = some (.ins C dx fs) ∧ fs.lookup m = none := by
    obtain ⟨B, o⟩ := p1.own
    cases s with
    | ins p dx C' fs =>
      obtain ⟨ec, hl⟩ := qi
      cases o with
      | ins hp hdx of => exact ⟨p, dx, _, rfl, rfl, by rw [← ec]; exact hp, of.lookN hl⟩
    | _ => exact qi.elim
  obtain ⟨a, dx, fs, hv1, hv2, hv3, hv4⟩ := hv
  refine ⟨a, dx, fs, hv1, hv3, hv4, g A1 q1 fun vs xs ρ2 F2 G2 H2 A2 e2 r2 q2 => ?_⟩
  rw [List.append_nil]
  split at q2
  · rename_i t0 et
    split at q2
    · rename_i s2 eg
      obtain ⟨hn, ha, q2⟩ := q2
      obtain ⟨h1, n, B, v', A', R, o, nd, hF, o2, pm, b⟩ := A2.tree et eg
      have ev : v' = v := by rw [o2.root hn, OT.root_adr hn, ha, hv2, hv1]
      subst ev
      have ndA : A'.Nodup := (List.nodup_append.mp ((pm.nodup_iff).mp nd)).1
      have inB : ∀ a ∈ A', F2 i a := fun a ha => (hF a).mpr (pm.mem_iff.mpr (List.mem_append_left _ ha))
      refine ⟨G2, s2, fun a => a ∈ A', xs, _, v', vs, rfl, ⟨hn, A', o2, ndA, fun _ => Iff.rfl⟩, fun a ha => ⟨(A2.fp i a (inB a ha)).1, (A2.fp i a (inB a ha)).2.1⟩, A2.gh, r2, q2, fun v r Fr S' Fs' G3 H3 eG eH hn3 eGH old er hs hf hr q3 => ?_⟩
      obtain ⟨nn, C', oC, ndC, hC⟩ := hs
      obtain ⟨F3, A3, f3⟩ := A2.put2 et h1 nd hF pm b eG eGH old hn3 eH oC ndC (fun a ha => by
        obtain ⟨g1, g2, g3⟩ := hf a ((hC a).mpr ha)
        exact ⟨g1, g2, g3.elim .inl fun z => .inr (.inl z)⟩) (put_node n (.inl nn))
      refine k v r Fr _ F3 G3 H3 A3 (e1.trans (e2.trans eG)) ⟨hr.ok, hr.na, fun a fa => ?_⟩ q3
      obtain ⟨g1, g2, g3, _, g5⟩ := hr.fr a fa
      obtain ⟨f1, f2, f4⟩ := A2.fresh0 g3
      refine ⟨g1, g2, f1, f2, fun j z => ?_⟩
      rcases f3 j a z with z | z
      · exact g5 0 ((hC a).mpr z)
      · exact f4 j z.2
    · exact q2.elim
  · exact q2.elim
/-! ### parts of a new thing are known for good -/
def frzL : List (List Stp) → OT → (OT → Prop) → Prop
  | [], t, Φ => Φ t
  | π :: r, t, Φ => match t.get π with
    | some s => match s.toD with
      | some x => (t.put π (.val x)).node = true ∧ frzL r (t.put π (.val x)) Φ
      | none => False
    | none => False
def dFrz (πs : List (List Stp)) (d : DR) : DR := fun ρ Φ => d ρ fun x ρ1 => match x with
  | .loc t => frzL πs t fun t' => Φ (.loc t') ρ1
  | _ => False
section
variable {K : PySem.W.Frag} {M : Addr → Prop} {Z G0 H0 G H : Hp} {σ : L2.St} {ρ : List Sl} {F : Nat → Addr → Prop}
theorem frz_core {v : V} {Ψ : OT → Prop} : ∀ {πs : List (List Stp)} {t : OT} {G : Hp} {Fn : Addr → Prop}, At K M Z G0 H0 G H σ ρ F → ResOk K Z H0 G H F v (.loc t) Fn → frzL πs t Ψ → ∃ G' Fn' t', At K M Z G0 H0 G' H σ ρ F ∧ Same G G' ∧ ResOk K Z H0 G' H F v (.loc t') Fn' ∧ Ψ t'
  | [], t, G, Fn, A, r, q => ⟨G, Fn, t, A, Same.refl G, r, q⟩
  | π :: πs, t, G, Fn, A, r, q => by
    unfold frzL at q
    split at q
    · rename_i s eg
      split at q
      · rename_i x ex
        obtain ⟨nn, q⟩ := q
        obtain ⟨w, ew, n, B, o, nd, hB⟩ := r.ok
        cases ew
        obtain ⟨v', A', R, o2, pm, b⟩ := o.at nd eg
        have ndB := (pm.nodup_iff).mp nd
        have hd := List.nodup_append.mp ndB
        have frA : ∀ a ∈ B, G a = none ∧ H a ≠ none ∧ H0 a = none ∧ Z a = none ∧ ∀ j, ¬ F j a := fun a ha => r.fr a ((hB a).mpr ha)
        have inA : ∀ a ∈ A', a ∈ B := fun a ha => pm.mem_iff.mpr (List.mem_append_left _ ha)
        have inR : ∀ a ∈ R, a ∈ B := fun a ha => pm.mem_iff.mpr (List.mem_append_right _ ha)
        obtain ⟨A2, e2⟩ := A.knowS (B := A') (fun a ha => (frA a (inA a ha)).1) (fun a ha => (frA a (inA a ha)).2.2.1) (fun a ha => (frA a (inA a ha)).2.2.2.1) fun a ha => (frA a (inA a ha)).2.2.2.2
        have rx : Rp K (knowA G H A') v' x := o2.rp ex e2 fun a ha => by
          unfold knowA
          rw [if_pos ha]
        obtain ⟨E, oE, pE⟩ := b (knowA G H A') H (.val x) [] e2 (fun _ _ => rfl) (.val rx)
        have pE' : E.Perm R := by simpa using pE
        obtain ⟨G', Fn', t', A3, e3, r3, q3⟩ := frz_core (πs := πs) A2 (Fn := fun a => a ∈ E) ⟨⟨v, rfl, nn, E, oE, (pE'.nodup_iff).mpr hd.2.1, fun _ => Iff.rfl⟩, fun z => z, fun a ha => by
          have hr := pE'.mem_iff.mp ha
          obtain ⟨h1, h2⟩ := frA a (inR a hr)
          refine ⟨?_, h2⟩
          unfold knowA
          rw [if_neg fun z => hd.2.2 a z a hr rfl]
          exact h1⟩ q
        exact ⟨G', Fn', t', A3, e2.trans e3, r3, q3⟩
      · exact q.elim
    · exact q.elim
end
theorem sim_frz {K : PySem.W.Frag} {t : TE} {d : DR} {πs : List (List Stp)} (h : SimR K t d) : SimR K t (dFrz πs d) := fun {M Z G0 H0 G H σ ρ F Φ Q} A hd k => h A hd fun v x Fn ρ' F' G' H' A' eG r q => by
  split at q
  · obtain ⟨G2, Fn2, t', A2, e2, r2, q2⟩ := frz_core A' r q
    exact k v (.loc t') Fn2 ρ' F' G2 H' A2 (eG.trans e2) r2 q2
  · exact q.elim
theorem PR.frz {X : Cx} {e : Expr} {t : TE} {d : DR} (πs : List (List Stp)) (h : PR X e t d) : PR X e t (dFrz πs d) := ⟨h.pe, sim_frz h.sim⟩
/-- a place of a thing of one's own is known for good from now on -/
def dFrzP (d : DP) : DE := fun ρ Φ => d ρ fun i π s ρ1 => match ρ1[i]?, s.toD with
  | some (.loc t), some x => s.node = true ∧ (t.put π (.val x)).node = true ∧ Φ x (ρ1.set i (.loc (t.put π (.val x))))
  | _, _ => False
theorem sim_frzP {K : PySem.W.Frag} {t : TE} {d : DP} (h : SimP K t d) : SimE K t (dFrzP d) := fun {M Z G0 H0 G H σ ρ F Φ Q} A hd k => h A hd fun v i π s ρ1 F1 G1 H1 A1 e1 p1 q1 => by
  split at q1
  · rename_i o1 o2 t0 x ei ex
    obtain ⟨hs, nn, q1⟩ := q1
    obtain ⟨t', et, eg⟩ := p1.ex
    have et' : t' = t0 := by
      rw [ei] at et
      exact (Option.some.inj et).symm
    subst et'
    obtain ⟨h1, n, B, v', A', R, o, nd, hF, o2, pm, b⟩ := A1.tree (t := t') (by rw [ei]; rfl) eg
    have hi : i < ρ1.length := (List.getElem?_eq_some_iff.mp ei).1
    have ndB := (pm.nodup_iff).mp nd
    have hd := List.nodup_append.mp ndB
    have frA : ∀ a ∈ B, G1 a = none ∧ H1 a ≠ none ∧ H0 a = none ∧ Z a = none := fun a ha => by
      have fa := (hF a).mpr ha
      obtain ⟨g1, g2, g3⟩ := A1.fp i a fa
      refine ⟨g1, g2, ?_, ?_⟩
      · rcases g3 with g3 | g3
        · exact g3
        · rw [ei] at g3
          exact g3.2.elim
      · cases q : Z a with
        | none => rfl
        | some u => exact absurd fa ((A1.hz a u q).2.2 i)
    have inA : ∀ a ∈ A', a ∈ B := fun a ha => pm.mem_iff.mpr (List.mem_append_left _ ha)
    have inR : ∀ a ∈ R, a ∈ B := fun a ha => pm.mem_iff.mpr (List.mem_append_right _ ha)
    have A2 := A1.forget hi (by rw [ei]; exact fun z => z)
    have nob : ∀ a ∈ B, ∀ j, ¬ (if j = i then False else F1 j a) := fun a ha j z => by
      by_cases hj : j = i
      · rw [if_pos hj] at z; exact z
      · rw [if_neg hj] at z; exact hj (A1.dj j i a z ((hF a).mpr ha))
    obtain ⟨A3, e3⟩ := A2.knowS (B := A') (fun a ha => (frA a (inA a ha)).1) (fun a ha => (frA a (inA a ha)).2.2.1) (fun a ha => (frA a (inA a ha)).2.2.2) fun a ha => nob a (inA a ha)
    have rx : Rp K (knowA G1 H1 A') v' x := o2.rp ex e3 fun a ha => by
      unfold knowA
      rw [if_pos ha]
    obtain ⟨E, oE, pE⟩ := b (knowA G1 H1 A') H1 (.val x) [] e3 (fun _ _ => rfl) (.val rx)
    have pE' : E.Perm R := by simpa using pE
    have A4 := A3.chg (i := i) (x := .loc (t'.put π (.val x))) (Fn := fun a => a ∈ E) (G' := knowA G1 H1 A') (H' := H1) (by rw [List.length_set]; exact hi) (Same.refl _) A3.gh (fun _ _ => rfl) (fun _ h => h) (fun _ _ h _ => h)
      (by rw [h1]; exact ⟨_, rfl, nn, E, oE, (pE'.nodup_iff).mpr hd.2.1, fun _ => Iff.rfl⟩) (fun z => by rw [List.getElem?_set_self hi] at z; exact z.elim) (fun a ha => by
        have hr := pE'.mem_iff.mp ha
        obtain ⟨g1, g2, g3, g4⟩ := frA a (inR a hr)
        refine ⟨?_, g2, .inr (.inr ⟨g3, g4, nob a (inR a hr)⟩)⟩
        unfold knowA
        rw [if_neg fun z => hd.2.2 a z a hr rfl]
        exact g1)
    rw [List.set_set] at A4
    have ev : v' = v := by
      obtain ⟨Bv, ov⟩ := p1.own
      rw [o2.root hs, ov.root hs]
    subst ev
    exact k v' x _ _ _ H1 A4 (e1.trans e3) rx q1
  · exact q1.elim

/-! ### for x in place: .., each x taken out of the place while its turn lasts -/
section
variable {K : PySem.W.Frag} {M : Addr → Prop} {Z G0 H0 G H : Hp} {σ : L2.St} {ρ : List Sl} {F : Nat → Addr → Prop}
/-- another account of the slots -/
theorem At.move {σ' : L2.St} {ρ' : List Sl} {F' : Nat → Addr → Prop} (A : At K M Z G0 H0 G H σ ρ F) (len : σ'.length = ρ'.length) (sl : ∀ i x, ρ'[i]? = some x → SlOk K G H ((σ'[i]?).join) (F' i) x) (no : ∀ i, ρ'[i]? = none → ∀ a, ¬ F' i a)
    (fp : ∀ i a, F' i a → ∃ j, F j a ∧ (Sl.isArg (ρ[j]?) → Sl.isArg (ρ'[i]?))) (dj : ∀ i j a, F' i a → F' j a → i = j) : At K M Z G0 H0 G H σ' ρ' F' where
  gh := A.gh
  g0 := A.g0
  h0 := A.h0
  fr := A.fr
  hn := A.hn
  len := len
  sl := sl
  no := no
  fp := fun i a fa => by
    obtain ⟨j, f1, f2⟩ := fp i a fa
    obtain ⟨h1, h2, h3⟩ := A.fp j a f1
    refine ⟨h1, h2, ?_⟩
    rcases h3 with h3 | h3
    · exact .inl h3
    · exact .inr ⟨h3.1, f2 h3.2⟩
  dj := dj
  hz := fun a o q => by
    obtain ⟨h1, h2, h3⟩ := A.hz a o q
    exact ⟨h1, h2, fun i z => by
      obtain ⟨j, f1, _⟩ := fp i a z
      exact h3 j f1⟩
theorem withTree_ok {t : OT} {o : Option Sl} {v : V} {Fn : Addr → Prop} (h : t.ok K G H v Fn) : SlOk K G H (some v) Fn (withTree t o) := by
  unfold withTree
  split <;> exact ⟨v, rfl, h⟩
theorem withTree_arg {t t' : OT} {o : Option Sl} (h : Sl.isArg o) : Sl.isArg (some (withTree t o)) := by
  cases o with
  | none => exact h.elim
  | some x =>
    cases x with
    | arg s => trivial
    | _ => exact h.elim
/-- a part is taken out into slot j -/
theorem At.take {i j : Nat} {t s : OT} {π : List Stp} (A : At K M Z G0 H0 G H σ ρ F) (h : treeOf (ρ[i]?) = some t) (hg : t.get π = some s) (hs : s.node = true) (hp : (t.put π (.val (.cls s.adr))).node = true) (ij : i ≠ j) (fj : free ρ j) :
    ∃ F', At K M Z G0 H0 G H (σ.set j (some (.ref s.adr))) ((ρ.set i (withTree (t.put π (.val (.cls s.adr))) (ρ[i]?))).set j (withTree s (ρ[i]?))) F' := by
  obtain ⟨h1, n, B, v', A', R, o, nd, hF, o2, pm, b⟩ := A.tree h hg
  have ev : v' = .ref s.adr := by rw [o2.root hs, OT.root_adr hs]
  subst ev
  have ndB := (pm.nodup_iff).mp nd
  have hd := List.nodup_append.mp ndB
  obtain ⟨E, oE, pE⟩ := b G H (.val (.cls s.adr)) [] (Same.refl G) (fun _ _ => rfl) (.val (.cls _))
  have pE' : E.Perm R := by simpa using pE
  obtain ⟨fl, fna⟩ := fj.lt
  have hi : i < ρ.length := by
    rcases tree_sl h with e | e <;> exact (List.getElem?_eq_some_iff.mp e).1
  have inF : ∀ a, a ∈ A' ∨ a ∈ R → F i a := fun a z => (hF a).mpr (pm.mem_iff.mpr (List.mem_append.mpr z))
  have atj : ((ρ.set i (withTree (t.put π (.val (.cls s.adr))) (ρ[i]?))).set j (withTree s (ρ[i]?)))[j]? = some (withTree s (ρ[i]?)) := List.getElem?_set_self (by rw [List.length_set]; exact fl)
  have ati : ((ρ.set i (withTree (t.put π (.val (.cls s.adr))) (ρ[i]?))).set j (withTree s (ρ[i]?)))[i]? = some (withTree (t.put π (.val (.cls s.adr))) (ρ[i]?)) := by
    rw [List.getElem?_set_ne (Ne.symm ij), List.getElem?_set_self hi]
  have atm : ∀ m, m ≠ i → m ≠ j → ((ρ.set i (withTree (t.put π (.val (.cls s.adr))) (ρ[i]?))).set j (withTree s (ρ[i]?)))[m]? = ρ[m]? := fun m hi hj => by
    rw [List.getElem?_set_ne (Ne.symm hj), List.getElem?_set_ne (Ne.symm hi)]
  refine ⟨fun m a => if m = j then a ∈ A' else if m = i then a ∈ R else F m a, A.move (by rw [List.length_set, List.length_set, List.length_set]; exact A.len) (fun m x hx => ?_) (fun m hm a z => ?_) (fun m a z => ?_) fun m m' a y z => ?_⟩
  · by_cases hj : m = j
    · subst hj
      rw [atj] at hx
      cases hx
      rw [List.getElem?_set_self (by rw [A.len]; exact fl)]
      have e : (fun a => if m = m then a ∈ A' else if m = i then a ∈ R else F m a) = fun a => a ∈ A' := by funext a; exact if_pos rfl
      show SlOk K G H (some (.ref s.adr)) (fun a => if m = m then a ∈ A' else if m = i then a ∈ R else F m a) _
      rw [e]
      exact withTree_ok ⟨hs, A', o2, hd.1, fun _ => Iff.rfl⟩
    · rw [List.getElem?_set_ne (Ne.symm hj)]
      by_cases hm : m = i
      · subst hm
        rw [ati] at hx
        cases hx
        have e : (fun a => if m = j then a ∈ A' else if m = m then a ∈ R else F m a) = fun a => a ∈ R := by funext a; rw [if_neg hj, if_pos rfl]
        show SlOk K G H _ (fun a => if m = j then a ∈ A' else if m = m then a ∈ R else F m a) _
        rw [e, h1]
        exact withTree_ok ⟨hp, E, oE, (pE'.nodup_iff).mpr hd.2.1, fun a => pE'.mem_iff.symm⟩
      · rw [atm m hm hj] at hx
        have e : (fun a => if m = j then a ∈ A' else if m = i then a ∈ R else F m a) = F m := by funext a; rw [if_neg hj, if_neg hm]
        show SlOk K G H _ (fun a => if m = j then a ∈ A' else if m = i then a ∈ R else F m a) _
        rw [e]
        exact A.sl m x hx
  · by_cases hj : m = j
    · subst hj
      rw [atj] at hm
      cases hm
    · by_cases hm2 : m = i
      · subst hm2
        rw [ati] at hm
        cases hm
      · rw [atm m hm2 hj] at hm
        rw [if_neg hj, if_neg hm2] at z
        exact A.no m hm a z
  · by_cases hj : m = j
    · subst hj
      rw [if_pos rfl] at z
      refine ⟨i, inF a (.inl z), fun q => ?_⟩
      rw [atj]
      exact withTree_arg (t' := s) q
    · by_cases hm : m = i
      · subst hm
        rw [if_neg hj, if_pos rfl] at z
        refine ⟨m, inF a (.inr z), fun q => ?_⟩
        rw [ati]
        exact withTree_arg (t' := s) q
      · rw [if_neg hj, if_neg hm] at z
        exact ⟨m, z, fun q => by rw [atm m hm hj]; exact q⟩
  · have dis : ∀ m, m ≠ i → F m a → ¬ (a ∈ A' ∨ a ∈ R) := fun m hm q1 q2 => hm (A.dj m i a q1 (inF a q2))
    by_cases hj : m = j
    · rw [if_pos hj] at y
      by_cases hj' : m' = j
      · exact hj.trans hj'.symm
      · rw [if_neg hj'] at z
        by_cases hm' : m' = i
        · rw [if_pos hm'] at z
          exact absurd rfl (hd.2.2 a y a z)
        · rw [if_neg hm'] at z
          exact absurd (.inl y) (dis m' hm' z)
    · rw [if_neg hj] at y
      by_cases hm : m = i
      · rw [if_pos hm] at y
        by_cases hj' : m' = j
        · rw [if_pos hj'] at z
          exact absurd rfl (hd.2.2 a z a y)
        · rw [if_neg hj'] at z
          by_cases hm' : m' = i
          · exact hm.trans hm'.symm
          · rw [if_neg hm'] at z
            exact absurd (.inr y) (dis m' hm' z)
      · rw [if_neg hm] at y
        by_cases hj' : m' = j
        · rw [if_pos hj'] at z
          exact absurd (.inl z) (dis m hm y)
        · rw [if_neg hj'] at z
          by_cases hm' : m' = i
          · rw [if_pos hm'] at z
            exact absurd (.inr z) (dis m hm y)
          · rw [if_neg hm'] at z
            exact A.dj m m' a y z
/-- .. and given back -/
theorem At.give {i j : Nat} {t s : OT} {π : List Stp} {p : Addr} (A : At K M Z G0 H0 G H σ ρ F) (h : treeOf (ρ[i]?) = some t) (hj : treeOf (ρ[j]?) = some s) (hg : t.get π = some (.val (.cls p))) (hs : s.adr = p) (ij : i ≠ j) (hk : Sl.isArg (ρ[j]?) → Sl.isArg (ρ[i]?)) (hp : (t.put π s).node = true) :
    ∃ F', At K M Z G0 H0 G H σ ((ρ.set i (withTree (t.put π s) (ρ[i]?))).set j .un) F' := by
  obtain ⟨h1, n, B, v', A', R, o, nd, hF, o2, pm, b⟩ := A.tree h hg
  obtain ⟨g1, ns, C, _, _, _, oC, ndC, hC, _⟩ := A.tree (π := []) hj rfl
  cases o2 with
  | val r =>
    cases r with
    | cls _ =>
      have hR : ∀ a, F i a ↔ a ∈ R := fun a => by
        rw [hF a, pm.mem_iff]
        simp
      have ndR : R.Nodup := by
        have := (pm.nodup_iff).mp nd
        simpa using this
      have er : s.root = .ref p := by rw [OT.root_adr ns, hs]
      rw [er] at oC
      obtain ⟨E, oE, pE⟩ := b G H s C (Same.refl G) (fun _ _ => rfl) oC
      have hi : i < ρ.length := by
        rcases tree_sl h with e | e <;> exact (List.getElem?_eq_some_iff.mp e).1
      have hjl : j < ρ.length := by
        rcases tree_sl hj with e | e <;> exact (List.getElem?_eq_some_iff.mp e).1
      have ndE : E.Nodup := by
        rw [pE.nodup_iff, List.nodup_append]
        refine ⟨ndC, ndR, fun a ha c hc e => ?_⟩
        subst e
        exact ij (A.dj i j a ((hR a).mpr hc) ((hC a).mpr ha))
      have inE : ∀ a, a ∈ E ↔ (a ∈ C ∨ a ∈ R) := fun a => by rw [pE.mem_iff, List.mem_append]
      have atj : ((ρ.set i (withTree (t.put π s) (ρ[i]?))).set j Sl.un)[j]? = some .un := List.getElem?_set_self (by rw [List.length_set]; exact hjl)
      have ati : ((ρ.set i (withTree (t.put π s) (ρ[i]?))).set j Sl.un)[i]? = some (withTree (t.put π s) (ρ[i]?)) := by
        rw [List.getElem?_set_ne (Ne.symm ij), List.getElem?_set_self hi]
      have atm : ∀ m, m ≠ i → m ≠ j → ((ρ.set i (withTree (t.put π s) (ρ[i]?))).set j Sl.un)[m]? = ρ[m]? := fun m hi hj => by
        rw [List.getElem?_set_ne (Ne.symm hj), List.getElem?_set_ne (Ne.symm hi)]
      refine ⟨fun m a => if m = i then a ∈ E else if m = j then False else F m a, A.move (by rw [List.length_set, List.length_set]; exact A.len) (fun m x hx => ?_) (fun m hm a z => ?_) (fun m a z => ?_) fun m m' a y z => ?_⟩
      · by_cases hm : m = i
        · subst hm
          rw [ati] at hx
          cases hx
          have e : (fun a => if m = m then a ∈ E else if m = j then False else F m a) = fun a => a ∈ E := by funext a; exact if_pos rfl
          show SlOk K G H _ (fun a => if m = m then a ∈ E else if m = j then False else F m a) _
          rw [e, h1]
          exact withTree_ok ⟨hp, E, oE, ndE, fun _ => Iff.rfl⟩
        · by_cases hmj : m = j
          · subst hmj
            rw [atj] at hx
            cases hx
            intro a z
            have z' : if m = i then a ∈ E else if m = m then False else F m a := z
            rw [if_neg hm, if_pos rfl] at z'
            exact z'
          · rw [atm m hm hmj] at hx
            have e : (fun a => if m = i then a ∈ E else if m = j then False else F m a) = F m := by funext a; rw [if_neg hm, if_neg hmj]
            show SlOk K G H _ (fun a => if m = i then a ∈ E else if m = j then False else F m a) _
            rw [e]
            exact A.sl m x hx
      · by_cases hm2 : m = i
        · subst hm2
          rw [ati] at hm
          cases hm
        · rw [if_neg hm2] at z
          by_cases hmj : m = j
          · rw [if_pos hmj] at z
            exact z
          · rw [if_neg hmj] at z
            rw [atm m hm2 hmj] at hm
            exact A.no m hm a z
      · by_cases hm : m = i
        · subst hm
          rw [if_pos rfl] at z
          rcases (inE a).mp z with z | z
          · exact ⟨j, (hC a).mpr z, fun q => by rw [ati]; exact withTree_arg (t' := s) (hk q)⟩
          · exact ⟨m, (hR a).mpr z, fun q => by rw [ati]; exact withTree_arg (t' := s) q⟩
        · rw [if_neg hm] at z
          by_cases hmj : m = j
          · rw [if_pos hmj] at z
            exact z.elim
          · rw [if_neg hmj] at z
            exact ⟨m, z, fun q => by rw [atm m hm hmj]; exact q⟩
      · have dis : ∀ m, m ≠ i → m ≠ j → F m a → ¬ a ∈ E := fun m hm hmj q1 q2 => by
          rcases (inE a).mp q2 with z | z
          · exact hmj (A.dj m j a q1 ((hC a).mpr z))
          · exact hm (A.dj m i a q1 ((hR a).mpr z))
        by_cases hm : m = i
        · rw [if_pos hm] at y
          by_cases hm' : m' = i
          · exact hm.trans hm'.symm
          · rw [if_neg hm'] at z
            by_cases hj' : m' = j
            · rw [if_pos hj'] at z; exact z.elim
            · rw [if_neg hj'] at z
              exact absurd y (dis m' hm' hj' z)
        · rw [if_neg hm] at y
          by_cases hmj : m = j
          · rw [if_pos hmj] at y; exact y.elim
          · rw [if_neg hmj] at y
            by_cases hm' : m' = i
            · rw [if_pos hm'] at z
              exact absurd z (dis m hm hmj y)
            · rw [if_neg hm'] at z
              by_cases hj' : m' = j
              · rw [if_pos hj'] at z; exact z.elim
              · rw [if_neg hj'] at z
                exact A.dj m m' a y z
end
/-- i, π: the place of the list; n turns are left, k were -/
def dForPL (i j : Nat) (π : List Stp) (b : DS) (Δ : Ds) : Nat → Nat → List Sl → Prop
  | 0, _, ρ => Δ.nx ρ
  | n + 1, k, ρ => i ≠ j ∧ free ρ j ∧ ∃ t s, treeOf (ρ[i]?) = some t ∧ t.get (π ++ [.ix k]) = some s ∧ s.node = true ∧
      let hole := t.put (π ++ [.ix k]) (.val (.cls s.adr))
      let back : List Sl → Prop := fun ρ2 => ∃ s', ρ2[j]? = some (withTree s' (ρ[i]?)) ∧ s'.node = true ∧ s'.adr = s.adr ∧ ρ2[i]? = some (withTree hole (ρ[i]?)) ∧ dForPL i j π b Δ n (k + 1) ((ρ2.set i (withTree (hole.put (π ++ [.ix k]) s') (ρ[i]?))).set j .un)
      b { nx := back, rt := fun _ _ => False, bk := fun _ => False, ct := back } ((ρ.set i (withTree hole (ρ[i]?))).set j (withTree s (ρ[i]?)))
@[irreducible] def dForP (d : DP) (j : Nat) (b : DS) : DS := fun Δ ρ => d ρ fun i π s ρ1 => match s with
  | .lst _ xs => (∀ x ∈ xs, x.node = true) ∧ dForPL i j π b Δ xs.length 0 ρ1
  | _ => False
theorem get_put : ∀ {π : List Stp} {t s u : OT}, t.get π = some s → (t.put π u).get π = some u
  | [], t, s, u, h => rfl
  | .ix k :: π, .lst p xs, s, u, h => by
    unfold OT.get at h
    split at h
    · rename_i t e
      have hk : k < xs.length := (List.getElem?_eq_some_iff.mp e).1
      unfold OT.put
      rw [e]
      show (match (xs.set k (t.put π u))[k]? with | some t => t.get π | none => none) = _
      rw [List.getElem?_set_self hk]
      exact get_put h
    · cases h
  | .ix k :: π, .tup p xs, s, u, h => by
    unfold OT.get at h
    split at h
    · rename_i t e
      have hk : k < xs.length := (List.getElem?_eq_some_iff.mp e).1
      unfold OT.put
      rw [e]
      show (match (xs.set k (t.put π u))[k]? with | some t => t.get π | none => none) = _
      rw [List.getElem?_set_self hk]
      exact get_put h
    · cases h
  | .fd f :: π, .ins p dx C fs, s, u, h => by
    unfold OT.get at h
    split at h
    · rename_i t e
      unfold OT.put
      rw [e]
      show (match (putFs f (t.put π u) fs).lookup f with | some t => t.get π | none => none) = _
      have : ∀ fs : List (Str × OT), (putFs f (t.put π u) fs).lookup f = some (t.put π u) := by
        intro fs
        induction fs with
        | nil => simp [putFs, List.lookup]
        | cons x r ih =>
          obtain ⟨g, y⟩ := x
          show (if g = f then (g, t.put π u) :: r else (g, y) :: putFs f (t.put π u) r).lookup f = _
          by_cases c : g = f
          · rw [if_pos c, c]; simp [List.lookup]
          · rw [if_neg c]
            have cb : (f == g) = false := by simpa using fun z => c z.symm
            simpa [List.lookup, cb] using ih
      rw [this]
      exact get_put h
    · cases h
  | .ix _ :: _, .val _, _, _, h => by cases h
  | .fd _ :: _, .val _, _, _, h => by cases h
  | .fd _ :: _, .lst _ _, _, _, h => by cases h
  | .fd _ :: _, .tup _ _, _, _, h => by cases h
  | .ix _ :: _, .ins _ _ _ _, _, _, h => by cases h
  | .ix _ :: _, .dic _ _, _, _, h => by cases h
  | .fd _ :: _, .dic _ _, _, _, h => by cases h
theorem put_put : ∀ {π : List Stp} {t s u w : OT}, t.get π = some s → (t.put π u).put π w = t.put π w
  | [], t, s, u, w, h => rfl
  | .ix k :: π, .lst p xs, s, u, w, h => by
    unfold OT.get at h
    split at h
    · rename_i t e
      have hk : k < xs.length := (List.getElem?_eq_some_iff.mp e).1
      have e1 : OT.put (.lst p xs) (.ix k :: π) u = .lst p (xs.set k (t.put π u)) := by
        show (match xs[k]? with | some t => OT.lst p (xs.set k (t.put π u)) | none => .lst p xs) = _
        rw [e]
      have e2 : OT.put (.lst p xs) (.ix k :: π) w = .lst p (xs.set k (t.put π w)) := by
        show (match xs[k]? with | some t => OT.lst p (xs.set k (t.put π w)) | none => .lst p xs) = _
        rw [e]
      rw [e1, e2]
      show (match (xs.set k (t.put π u))[k]? with | some t' => OT.lst p ((xs.set k (t.put π u)).set k (t'.put π w)) | none => _) = _
      rw [List.getElem?_set_self hk]
      show OT.lst p _ = _
      rw [List.set_set, put_put h]
    · cases h
  | .ix k :: π, .tup p xs, s, u, w, h => by
    unfold OT.get at h
    split at h
    · rename_i t e
      have hk : k < xs.length := (List.getElem?_eq_some_iff.mp e).1
      have e1 : OT.put (.tup p xs) (.ix k :: π) u = .tup p (xs.set k (t.put π u)) := by
        show (match xs[k]? with | some t => OT.tup p (xs.set k (t.put π u)) | none => .tup p xs) = _
        rw [e]
      have e2 : OT.put (.tup p xs) (.ix k :: π) w = .tup p (xs.set k (t.put π w)) := by
        show (match xs[k]? with | some t => OT.tup p (xs.set k (t.put π w)) | none => .tup p xs) = _
        rw [e]
      rw [e1, e2]
      show (match (xs.set k (t.put π u))[k]? with | some t' => OT.tup p ((xs.set k (t.put π u)).set k (t'.put π w)) | none => _) = _
      rw [List.getElem?_set_self hk]
      show OT.tup p _ = _
      rw [List.set_set, put_put h]
    · cases h
  | .fd f :: π, .ins p dx C fs, s, u, w, h => by
    unfold OT.get at h
    split at h
    · rename_i t e
      have lk : ∀ (y : OT) (fs : List (Str × OT)), (putFs f y fs).lookup f = some y := by
        intro y fs
        induction fs with
        | nil => simp [putFs, List.lookup]
        | cons x r ih =>
          obtain ⟨g, z⟩ := x
          show (if g = f then (g, y) :: r else (g, z) :: putFs f y r).lookup f = _
          by_cases c : g = f
          · rw [if_pos c, c]; simp [List.lookup]
          · rw [if_neg c]
            have cb : (f == g) = false := by simpa using fun z => c z.symm
            simpa [List.lookup, cb] using ih
      have pp : ∀ (y z : OT) (fs : List (Str × OT)), putFs f z (putFs f y fs) = putFs f z fs := by
        intro y z fs
        induction fs with
        | nil => simp [putFs]
        | cons x r ih =>
          obtain ⟨g, q⟩ := x
          by_cases c : g = f
          · subst c; simp [putFs]
          · have e1 : ∀ y, putFs f y ((g, q) :: r) = (g, q) :: putFs f y r := fun y => if_neg c
            rw [e1, e1]
            have e2 : putFs f z ((g, q) :: putFs f y r) = (g, q) :: putFs f z (putFs f y r) := if_neg c
            rw [e2, ih]
      have e1 : ∀ u, OT.put (.ins p dx C fs) (.fd f :: π) u = .ins p dx C (putFs f (t.put π u) fs) := by
        intro u
        show (match fs.lookup f with | some t => OT.ins p dx C (putFs f (t.put π u) fs) | none => .ins p dx C fs) = _
        rw [e]
      rw [e1, e1]
      show (match (putFs f (t.put π u) fs).lookup f with | some t' => OT.ins p dx C (putFs f (t'.put π w) (putFs f (t.put π u) fs)) | none => _) = _
      rw [lk]
      show OT.ins p dx C _ = _
      rw [pp, put_put h]
    · cases h
  | .ix _ :: _, .val _, _, _, _, h => by cases h
  | .fd _ :: _, .val _, _, _, _, h => by cases h
  | .fd _ :: _, .lst _ _, _, _, _, h => by cases h
  | .fd _ :: _, .tup _ _, _, _, _, h => by cases h
  | .ix _ :: _, .ins _ _ _ _, _, _, _, h => by cases h
  | .ix _ :: _, .dic _ _, _, _, _, h => by cases h
  | .fd _ :: _, .dic _ _, _, _, _, h => by cases h
theorem get_pre : ∀ {π : List Stp} {t s : OT} {k : Stp}, t.get (π ++ [k]) = some s → ∃ u, t.get π = some u ∧ u.get [k] = some s
  | [], t, s, k, h => ⟨t, rfl, h⟩
  | .ix j :: π, .lst p xs, s, k, h => by
    have h' : (match xs[j]? with | some t => t.get (π ++ [k]) | none => none) = some s := h
    split at h'
    · rename_i t e
      obtain ⟨u, h1, h2⟩ := get_pre h'
      exact ⟨u, by show (match xs[j]? with | some t => t.get π | none => none) = _; rw [e]; exact h1, h2⟩
    · cases h'
  | .ix j :: π, .tup p xs, s, k, h => by
    have h' : (match xs[j]? with | some t => t.get (π ++ [k]) | none => none) = some s := h
    split at h'
    · rename_i t e
      obtain ⟨u, h1, h2⟩ := get_pre h'
      exact ⟨u, by show (match xs[j]? with | some t => t.get π | none => none) = _; rw [e]; exact h1, h2⟩
    · cases h'
  | .fd f :: π, .ins p dx C fs, s, k, h => by
    have h' : (match fs.lookup f with | some t => t.get (π ++ [k]) | none => none) = some s := h
    split at h'
    · rename_i t e
      obtain ⟨u, h1, h2⟩ := get_pre h'
      exact ⟨u, by show (match fs.lookup f with | some t => t.get π | none => none) = _; rw [e]; exact h1, h2⟩
    · cases h'
  | .ix _ :: _, .val _, _, _, h => by cases h
  | .fd _ :: _, .val _, _, _, h => by cases h
  | .fd _ :: _, .lst _ _, _, _, h => by cases h
  | .fd _ :: _, .tup _ _, _, _, h => by cases h
  | .ix _ :: _, .ins _ _ _ _, _, _, h => by cases h
  | .ix _ :: _, .dic _ _, _, _, h => by cases h
  | .fd _ :: _, .dic _ _, _, _, h => by cases h
/-- the list of a place, an item of it put -/
theorem get_put_ix : ∀ {π : List Stp} {t : OT} {q : Addr} {xs : List OT} {k : Nat} {s : OT}, t.get π = some (.lst q xs) → k < xs.length → (t.put (π ++ [Stp.ix k]) s).get π = some (.lst q (xs.set k s))
  | [], t, q, xs, k, s, h, hk => by
    cases h
    show OT.get (match xs[k]? with | some t => OT.lst q (xs.set k (t.put [] s)) | none => .lst q xs) [] = _
    rw [List.getElem?_eq_getElem hk]
    rfl
  | .ix j :: π, .lst p ys, q, xs, k, s, h, hk => by
    unfold OT.get at h
    split at h
    · rename_i t e
      have hj : j < ys.length := (List.getElem?_eq_some_iff.mp e).1
      have e1 : OT.put (.lst p ys) (Stp.ix j :: (π ++ [Stp.ix k])) s = .lst p (ys.set j (t.put (π ++ [Stp.ix k]) s)) := by
        show (match ys[j]? with | some t => OT.lst p (ys.set j (t.put (π ++ [Stp.ix k]) s)) | none => .lst p ys) = _
        rw [e]
      rw [List.cons_append, e1]
      show (match (ys.set j (t.put (π ++ [Stp.ix k]) s))[j]? with | some t => t.get π | none => none) = _
      rw [List.getElem?_set_self hj]
      exact get_put_ix h hk
    · cases h
  | .ix j :: π, .tup p ys, q, xs, k, s, h, hk => by
    unfold OT.get at h
    split at h
    · rename_i t e
      have hj : j < ys.length := (List.getElem?_eq_some_iff.mp e).1
      have e1 : OT.put (.tup p ys) (Stp.ix j :: (π ++ [Stp.ix k])) s = .tup p (ys.set j (t.put (π ++ [Stp.ix k]) s)) := by
        show (match ys[j]? with | some t => OT.tup p (ys.set j (t.put (π ++ [Stp.ix k]) s)) | none => .tup p ys) = _
        rw [e]
      rw [List.cons_append, e1]
      show (match (ys.set j (t.put (π ++ [Stp.ix k]) s))[j]? with | some t => t.get π | none => none) = _
      rw [List.getElem?_set_self hj]
      exact get_put_ix h hk
    · cases h
  | .fd f :: π, .ins p dx C fs, q, xs, k, s, h, hk => by
    unfold OT.get at h
    split at h
    · rename_i t e
      have e1 : OT.put (.ins p dx C fs) (Stp.fd f :: (π ++ [Stp.ix k])) s = .ins p dx C (putFs f (t.put (π ++ [Stp.ix k]) s) fs) := by
        show (match fs.lookup f with | some t => OT.ins p dx C (putFs f (t.put (π ++ [Stp.ix k]) s) fs) | none => .ins p dx C fs) = _
        rw [e]
      have lk : ∀ (y : OT) (fs : List (Str × OT)), (putFs f y fs).lookup f = some y := by
        intro y fs
        induction fs with
        | nil => simp [putFs, List.lookup]
        | cons x r ih =>
          obtain ⟨g, z⟩ := x
          show (if g = f then (g, y) :: r else (g, z) :: putFs f y r).lookup f = _
          by_cases c : g = f
          · rw [if_pos c, c]; simp [List.lookup]
          · rw [if_neg c]
            have cb : (f == g) = false := by simpa using fun z => c z.symm
            simpa [List.lookup, cb] using ih
      rw [List.cons_append, e1]
      show (match (putFs f (t.put (π ++ [Stp.ix k]) s) fs).lookup f with | some t => t.get π | none => none) = _
      rw [lk]
      exact get_put_ix h hk
    · cases h
  | .ix _ :: _, .val _, _, _, _, _, h, _ => by cases h
  | .fd _ :: _, .val _, _, _, _, _, h, _ => by cases h
  | .fd _ :: _, .lst _ _, _, _, _, _, h, _ => by cases h
  | .fd _ :: _, .tup _ _, _, _, _, _, h, _ => by cases h
  | .ix _ :: _, .ins _ _ _ _, _, _, _, _, h, _ => by cases h
  | .ix _ :: _, .dic _ _, _, _, _, _, h, _ => by cases h
  | .fd _ :: _, .dic _ _, _, _, _, _, h, _ => by cases h
end DL
set_option Elab.async false
set_option linter.all false
set_option maxRecDepth 100000
set_option maxHeartbeats 2000000
namespace DL
open PySem PySem.Spec PyProof.Rows L2 RT

theorem OwnL.roots {K : PySem.W.Frag} {G H : Hp} : ∀ {vs : List V} {ts : List OT} {A : List Addr}, OwnL K G H vs ts A → (∀ t ∈ ts, t.node = true) → vs = ts.map OT.root
  | _, _, _, .nil, _ => rfl
  | _, _, _, .cons h r, n => by
    rw [List.map_cons, h.root (n _ List.mem_cons_self), OwnL.roots r fun t ht => n t (List.mem_cons_of_mem _ ht)]
theorem treeOf_with {t : OT} {o : Option Sl} : treeOf (some (withTree t o)) = some t := by
  unfold withTree
  split <;> rfl
theorem with_with {t u : OT} {o : Option Sl} : withTree t (some (withTree u o)) = withTree t o := by
  cases o with
  | none => rfl
  | some x => cases x <;> rfl
theorem isArg_with {t u : OT} {o : Option Sl} : Sl.isArg (some (withTree t o)) → Sl.isArg (some (withTree u o)) := by
  unfold withTree
  cases o with
  | none => exact id
  | some x =>
    cases x with
    | arg y => exact id
    | _ => exact id
theorem sim_forP {K : PySem.W.Frag} {tp : TE} {d : DP} {j : Nat} {t : TS} {b : DS} (h : SimP K tp d) (hb : SimS K t b) : SimS K (tFor (iAny K tp) (gName j) t) (dForP d j b) := by
  intro M Z G0 H0 G H σ ρ F Δ Q A hd k1 k2 k3 k4
  unfold dForP at hd
  refine h A hd fun v i π s ρ1 F1 G1 H1 A1 e1 p1 q1 => ?_
  split at q1
  · rename_i q xs
    obtain ⟨hn, q1⟩ := q1
    obtain ⟨t0, et, eg⟩ := p1.ex
    obtain ⟨B, o⟩ := p1.own
    cases o with
    | lst hp ol =>
      rename_i vs A0
      have hvs : vs = xs.map OT.root := ol.roots hn
      have hlen : vs.length = xs.length := by rw [hvs, List.length_map]
      refine .inl ⟨q, rfl, ⟨vs, SqL.of hp⟩, ?_⟩
      refine for_it (walk_list (K := K) (a := q) (xs := vs)) (fun n σ' H' => ∃ ρ' F' G' tr xs', At K M Z G0 H0 G' H' σ' ρ' F' ∧ Same G1 G' ∧ treeOf (ρ'[i]?) = some tr ∧ tr.get π = some (.lst q xs') ∧ (∀ x ∈ xs', x.node = true) ∧ xs'.map OT.root = xs.map OT.root ∧ dForPL i j π b Δ (xs.length - n) n ρ')
        ⟨ρ1, F1, G1, t0, xs, A1, Same.refl G1, et, eg, hn, rfl, q1⟩ ?_ ?_ ?_
      · rintro n σ' H' _ ⟨ρ', F', G', tr, xs', A', e', ht, hg, hn', hr, _⟩
        obtain ⟨_, _, _, _, _, _, _, _, _, o2, _⟩ := A'.tree ht hg
        cases o2 with
        | lst hp' ol' =>
          have e2 := ol'.roots hn'
          rw [hr, ← hvs] at e2
          rw [e2] at hp'
          exact SqL.of hp'
      · rintro n x σ' H' H'' hnl ⟨ρ', F', G', tr, xs', A', e', ht, hg, hn', hr, qd⟩ ⟨rfl, hx⟩
        have hlt : n < xs.length := by rw [← hlen]; exact hnl
        have em : xs.length - n = (xs.length - (n + 1)) + 1 := by omega
        rw [em] at qd
        obtain ⟨ij, fj, t1, s, ht1, hg1, hs, qb⟩ := qd
        rw [ht] at ht1
        cases ht1
        obtain ⟨u, hu1, hu2⟩ := get_pre hg1
        rw [hg] at hu1
        cases hu1
        have hxs : xs'[n]? = some s := by
          have hu3 : (match xs'[n]? with | some t => t.get [] | none => none) = some s := hu2
          split at hu3
          · rename_i t e
            cases hu3
            exact e
          · cases hu3
        have hn2 : n < xs'.length := (List.getElem?_eq_some_iff.mp hxs).1
        have ex : x = .ref s.adr := by
          rw [hvs, ← hr, List.getElem?_map, hxs] at hx
          have := Option.some.inj hx
          rw [← this, OT.root_adr hs]
        subst ex
        obtain ⟨_, nn, _⟩ := A'.tree ht hg
        obtain ⟨F2, A2⟩ := A'.take ht hg1 hs (put_node nn (.inr (by simp))) ij fj
        have fin : ∀ σ3 ρ3 F3 G3 H3, At K M Z G0 H0 G3 H3 σ3 ρ3 F3 → Same G' G3 → (∃ s', ρ3[j]? = some (withTree s' (ρ'[i]?)) ∧ s'.node = true ∧ s'.adr = s.adr ∧ ρ3[i]? = some (withTree (tr.put (π ++ [.ix n]) (.val (.cls s.adr))) (ρ'[i]?)) ∧ dForPL i j π b Δ (xs.length - (n + 1)) (n + 1) ((ρ3.set i (withTree ((tr.put (π ++ [.ix n]) (.val (.cls s.adr))).put (π ++ [.ix n]) s') (ρ'[i]?))).set j .un)) →
            ∃ ρ' F' G' tr xs', At K M Z G0 H0 G' H3 σ3 ρ' F' ∧ Same G1 G' ∧ treeOf (ρ'[i]?) = some tr ∧ tr.get π = some (.lst q xs') ∧ (∀ x ∈ xs', x.node = true) ∧ xs'.map OT.root = xs.map OT.root ∧ dForPL i j π b Δ (xs.length - (n + 1)) (n + 1) ρ' := by
          rintro σ3 ρ3 F3 G3 H3 A3 e3 ⟨s', hj', ns', as', hi', q'⟩
          have et3 : treeOf (ρ3[i]?) = some (tr.put (π ++ [.ix n]) (.val (.cls s.adr))) := by rw [hi', treeOf_with]
          obtain ⟨F4, A4⟩ := A3.give et3 (by rw [hj', treeOf_with]) (get_put hg1) as' ij (fun z => by rw [hj'] at z; rw [hi']; exact isArg_with z) (put_node (put_node nn (.inr (by simp))) (.inr (by simp)))
          rw [hi', with_with] at A4
          have epp : (tr.put (π ++ [.ix n]) (.val (.cls s.adr))).put (π ++ [.ix n]) s' = tr.put (π ++ [.ix n]) s' := put_put hg1
          rw [epp] at A4 q'
          have hil : i < ρ3.length := (List.getElem?_eq_some_iff.mp hi').1
          refine ⟨_, F4, G3, tr.put (π ++ [.ix n]) s', xs'.set n s', A4, e'.trans e3, ?_, get_put_ix hg hn2, fun y hy => ?_, ?_, q'⟩
          · rw [List.getElem?_set_ne (Ne.symm ij), List.getElem?_set_self hil, treeOf_with]
          · rcases List.mem_or_eq_of_mem_set hy with z | z
            · exact hn' y z
            · rw [z]; exact ns'
          · rw [← hr, List.map_set]
            have er : s'.root = s.root := by rw [OT.root_adr ns', OT.root_adr hs, as']
            rw [er]
            exact set_self (by rw [List.getElem?_map, hxs]; rfl)
        exact hb A2 qb (fun σ3 ρ3 F3 G3 H3 A3 e3 q3 => fin σ3 ρ3 F3 G3 H3 A3 e3 q3) (fun _ _ _ _ _ _ _ _ _ _ _ z => z.elim) (fun _ _ _ _ _ _ _ z => z.elim) (fun σ3 ρ3 F3 G3 H3 A3 e3 q3 => fin σ3 ρ3 F3 G3 H3 A3 e3 q3)
      · rintro σ' H' ⟨ρ', F', G', tr, xs', A', e', ht, hg, hn', hr, qd⟩
        rw [hlen, Nat.sub_self] at qd
        exact k1 σ' ρ' F' G' H' A' (e1.trans e') qd
  · exact q1.elim
/-- place.clear() -/
def dPClear (d : DP) : DR := fun ρ Φ => d ρ fun i π s ρ1 => match s, treeOf (ρ1[i]?) with
  | .lst p _, some t => Φ (.val .non) (ρ1.set i (withTree (t.put π (.lst p [])) (ρ1[i]?)))
  | _, _ => False
theorem sim_pclear {K : PySem.W.Frag} {tp : TE} {d : DP} (h : SimP K tp d) : SimR K (tBM0 K "list" rClear tp) (dPClear d) := by
  intro M Z G0 H0 G H σ ρ F Φ Q A hd k
  refine h A hd fun v i π s ρ1 F1 G1 H1 A1 e1 p1 q1 => ?_
  split at q1
  · rename_i s0 o0 p xs t et
    obtain ⟨t', et', eg⟩ := p1.ex
    rw [et] at et'
    cases et'
    obtain ⟨h1, n, B, v', A', R, o, nd, hF, o2, pm, b⟩ := A1.tree et eg
    obtain ⟨Bp, op⟩ := p1.own
    have hv : v = .ref p := op.root rfl
    subst hv
    cases o2 with
    | lst hp ol =>
      rename_i vs A''
      refine ⟨.inl ⟨rfl, vs, SqL.of hp⟩, p, vs, rfl, rfl, hp, ?_⟩
      have ndA : (p :: A'').Nodup := (List.nodup_append.mp ((pm.nodup_iff).mp nd)).1
      have inB : ∀ a ∈ p :: A'', F1 i a := fun a ha => (hF a).mpr (pm.mem_iff.mpr (List.mem_append_left _ ha))
      have gp : G1 p = none := (A1.fp i p (inB p List.mem_cons_self)).1
      have onew : Own K G1 (upd H1 p (.lst [])) (.ref p) (.lst p []) [p] := .lst upd_same .nil
      obtain ⟨F3, A3, _⟩ := A1.put2 et h1 nd hF pm b (Same.refl G1) (fun a u q => by rw [upd_ne (ne_of_none q gp)]; exact A1.gh a u q) (fun _ _ => rfl) (fun a ha => by
          by_cases z : a = p
          · rw [z, upd_same]; exact Option.some_ne_none _
          · rw [upd_ne z]; exact ha)
        (fun a u q na => by rw [upd_ne fun z => na (by rw [z]; exact List.mem_cons_self)]; exact q) onew (by simp) (fun a ha => by
          rw [List.mem_singleton.mp ha]
          exact ⟨gp, by rw [upd_same]; exact Option.some_ne_none _, .inl List.mem_cons_self⟩) (put_node n (.inl rfl))
      exact k _ (.val .non) _ _ F3 G1 _ A3 e1 (.val .non) q1
  · exact q1.elim
/-! ### a tree of lists and tuples lent -/
mutual
def OT.listy : OT → Bool
  | .val _ => true
  | .lst _ xs => OT.listyL xs
  | .tup _ xs => OT.listyL xs
  | .ins _ _ _ _ => false
  | .dic _ _ => false
def OT.listyL : List OT → Bool
  | [] => true
  | x :: xs => x.listy && OT.listyL xs
end
section
variable {K : PySem.W.Frag} {G H : Hp}
mutual
theorem Own.listy : ∀ {v : V} {t : OT} {A : List Addr}, Own K G H v t A → t.listy = true → ∀ a ∈ A, ∃ vs, H a = some (.lst vs)
  | _, _, _, .val _, _, _, ha => nomatch ha
  | _, _, _, .lst h r, q, a, ha => by
    rcases List.mem_cons.mp ha with z | z
    · rw [z]; exact ⟨_, h⟩
    · exact OwnL.listy r (by simpa [OT.listy] using q) a z
  | _, _, _, .tup h r, q, a, ha => OwnL.listy r (by simpa [OT.listy] using q) a ha
  | _, _, _, .ins _ _ _, q, _, _ => by simp [OT.listy] at q
  | _, _, _, .dic _ _, q, _, _ => by simp [OT.listy] at q
theorem OwnL.listy : ∀ {v : List V} {t : List OT} {A : List Addr}, OwnL K G H v t A → OT.listyL t = true → ∀ a ∈ A, ∃ vs, H a = some (.lst vs)
  | _, _, _, .nil, _, _, ha => nomatch ha
  | _, _, _, .cons h r, q, a, ha => by
    simp only [OT.listyL, Bool.and_eq_true] at q
    rcases List.mem_append.mp ha with z | z
    · exact Own.listy h q.1 a z
    · exact OwnL.listy r q.2 a z
end
end
@[irreducible] def dlTree (i : Nat) (d : DA) : DA := fun ρ Φ => match ρ[i]? with
  | some (.loc _) => d ρ fun xs ρ1 => match ρ1[i]? with
    | some (.loc t) => t.listy = true ∧ match t.toD with
      | some x => Φ (x :: xs) ρ1
      | none => False
    | _ => False
  | _ => False
theorem sim_ltree {K : PySem.W.Frag} {i : Nat} {ta : TA} {da : DA} (ha : SimAl K ta da) : SimAl K (tCons (tVar i) ta) (dlTree i da) := by
  intro M Z G0 H0 G H σ ρ F Φ Q A hd k
  unfold dlTree at hd
  split at hd
  · rename_i t0 e0
    obtain ⟨h1, _⟩ := A.mut_at (S := t0) (.inl e0)
    refine ⟨t0.root, h1, ha A hd fun vs xs ρ1 F1 G1 Gp H1 A1 e1 ep ep2 el r1 q1 => ?_⟩
    split at q1
    · rename_i t e2
      obtain ⟨hl, q1⟩ := q1
      split at q1
      · rename_i x ex
        obtain ⟨h2, ⟨n, B, o, nd, hB⟩, _⟩ := A1.mut_at (S := t) (.inl e2)
        rw [h1] at h2
        have er : t.root = t0.root := (Option.some.inj (Option.some.inj h2)).symm
        obtain ⟨k1, k2⟩ := same_knowA (B := B) ep2
        have rx : Rp K (knowA Gp H1 B) t.root x := o.rp ex (ep.trans k1) fun a ha => by
          unfold knowA
          rw [if_pos ha]
        rw [er] at rx
        refine k _ _ ρ1 F1 G1 (knowA Gp H1 B) H1 A1 e1 (ep.trans k1) k2 (fun a u h => ?_) (.cons rx (r1.mono k1)) q1
        unfold knowA at h
        split at h
        · rename_i hm
          obtain ⟨vs, hv⟩ := o.listy hl a hm
          rw [hv] at h
          exact .inr ⟨vs, (Option.some.inj h).symm⟩
        · exact el a u h
      · exact q1.elim
    · exact q1.elim
  · exact hd.elim
/-! ### the rules -/
section
variable {X : Cx} {CX : CXT} {k : Nat} {C fa : Addr} {fd : FuncData} {ps : List Str} {f m x y : Str} {o e ei : Expr} {es : List Expr} {tp te ti : TE} {t : TA} {d : DP} {de di : DE} {dr : DR} {da : DA} {fo : DFO} {p p' pos pos' apos cpos q : Pos} {pl : Sem Bool}
theorem pp_fd (c : Cls X.K C) (n : NoAttr X.K C f) (h : PP X o tp d) (hb : attributeBase o f X.env (eval o X.env) = eval o X.env := by rfl) : PP X (.Attribute o f pos) (tFld X.K tp f) (dpFd C d f) := ⟨pe_fld h.pe hb, sim_pfd c n h.sim⟩
theorem pd_fld (c : Cls X.K C) (n : NoAttr X.K C f) (h : PD X o te de) (hb : attributeBase o f X.env (eval o X.env) = eval o X.env := by rfl) : PD X (.Attribute o f pos) (tFld X.K te f) (dFld C de f) := ⟨pe_fld h.pe hb, sim_dfld c n h.sim⟩
theorem pd_fset (c : Cls X.K C) (n : NoAttr X.K C f) (hv : PR X e te dr) (h : PP X o tp d) (hs : swapsWith e (some (.Attribute o f p')) pos.line X.env = pure false := by rfl) : PDS X (.Assign [.Attribute o f p'] e pos) (sFld X.K tp te f) (dFSet C d f dr) := ⟨ps_fld h.pe hv.pe hs, sim_fset c n hv.sim h.sim⟩
theorem pd_psetT (hv : PR X e te dr) (h : PP X o tp d) (hi : PD X ei ti di) (hs : swapsWithSole [.Subscript o ei pos'] e pos.line X.env = pure false := by rfl) (hw : swappedStores [.Subscript o ei pos'] e X.env = pure none := by rfl)
    (h1 : (assignEach [.Subscript o ei pos'] X.env).map (·.2) = [assign (.Subscript o ei pos') X.env] := by rfl)
    (ha : ∀ v, assign (.Subscript o ei pos') X.env v = (do
      let ov ← holding [v] (eval o X.env)
      let iv ← holding [v, ov] (eval ei X.env)
      standAt pos'
      holding [v, ov, iv] (setItem ov iv v)
      release [v, ov, iv] []) := by intro _; rfl) : PDS X (.Assign [.Subscript o ei pos'] e pos) (tAsg te (gSub tp ti rSetL)) (dPSetT d di dr) :=
  ⟨ps_asg hv.pe (pg_sub h.pe hi.pe set_list ha) hs hw h1, sim_psetT hv.sim h.sim hi.sim⟩
theorem pr_mk (Mk_ : Mk X.K C fa) (G : FnOk X.prog X.w X.K X.mg X.base CX0 k fa fd ps (SpO X.K fo)) (hr : Room (k + 1) X.A) (hm : X.mg x = some (.ref C)) (hb : Binds X.K fd ps []) (ha : PDA X (e :: es) t da) (hg : Gl X x := by rfl)
    (hdb : (x == ("__debug__" : Str)) = false := by decide) (he : starEach (e :: es) X.env = (false, eval e X.env) :: starEach es X.env := by rfl) (hpl : (backTo pos (starEach es X.env)).any (·.1) = false := by rfl) :
    PR X (.Call (.Name x p) (e :: es) [] pos) (tMake C (SpO X.K fo) [] E0 t) (dMk C fo da) := ⟨pe_make Mk_ G hr hg hm hb .nil pass0 ha.pe hdb he hpl, sim_mk ha.sim⟩
theorem pr_mk0 (Mk_ : Mk X.K C fa) (G : FnOk X.prog X.w X.K X.mg X.base CX0 k fa fd ps (SpO X.K fo)) (hr : Room (k + 1) X.A) (hm : X.mg x = some (.ref C)) (hb : Binds X.K fd ps []) (hg : Gl X x := by rfl)
    (hdb : (x == ("__debug__" : Str)) = false := by decide) : PR X (.Call (.Name x p) [] [] pos) (tMake C (SpO X.K fo) [] E0 tNil) (dMk C fo dNil) := ⟨pe_make0 Mk_ G hr hg hm hb .nil pass0 hdb, sim_mk sim_nil⟩
theorem pr_mkL (Mk_ : Mk X.K C fa) (G : FnOk X.prog X.w X.K X.mg X.base CX0 k fa fd ps (SpO X.K fo)) (hr : Room (k + 1) X.A) (hm : X.mg x = some (.ref C)) (hb : Binds X.K fd ps []) (ha : PDAl X (e :: es) t da) (hg : Gl X x := by rfl)
    (hdb : (x == ("__debug__" : Str)) = false := by decide) (he : starEach (e :: es) X.env = (false, eval e X.env) :: starEach es X.env := by rfl) (hpl : (backTo pos (starEach es X.env)).any (·.1) = false := by rfl) :
    PR X (.Call (.Name x p) (e :: es) [] pos) (tMake C (SpO X.K fo) [] E0 t) (dMkL C fo da) := ⟨pe_make Mk_ G hr hg hm hb .nil pass0 ha.pe hdb he hpl, sim_mkL ha.sim⟩
theorem pr_callM (c : Cls X.K C) (hM : Meth X.K C m fa) (G : FnOk X.prog X.w X.K X.mg X.base CX0 k fa fd ps (SpO X.K fo)) (hr : Room k X.A) (hb : Binds X.K fd ps []) (h : PP X o tp d) (ha : PDA X (e :: es) t da)
    (hst : starEach (e :: es) X.env = (false, eval e X.env) :: starEach es X.env := by rfl) (hpl : (backTo pos (starEach es X.env)).any (·.1) = false := by rfl)
    (ht : eval (.Call (.Attribute o m apos) (e :: es) [] pos) X.env = (do
      let ov ← eval o X.env
      standAt apos.atName
      let (f, first) ← holding [ov] (getMethod ov m pl)
      callWith pos f first (backTo pos (starEach (e :: es) X.env)) (backToKw pos (keywordEach [] X.env))) := by rfl) :
    PR X (.Call (.Attribute o m apos) (e :: es) [] pos) (tMeth C m (SpO X.K fo) [] E0 tp t) (dCallM C m fo d da) := ⟨pe_meth h.pe c hM G hr hb .nil pass0 ha.pe hst hpl ht, sim_callM h.sim ha.sim⟩
theorem pr_callM0 (c : Cls X.K C) (hM : Meth X.K C m fa) (G : FnOk X.prog X.w X.K X.mg X.base CX0 k fa fd ps (SpO X.K fo)) (hr : Room k X.A) (hb : Binds X.K fd ps []) (h : PP X o tp d)
    (ht : eval (.Call (.Attribute o m apos) [] [] pos) X.env = (do
      let ov ← eval o X.env
      standAt apos.atName
      let (f, first) ← holding [ov] (getMethod ov m pl)
      callWith pos f first (backTo pos (starEach [] X.env)) (backToKw pos (keywordEach [] X.env))) := by rfl) :
    PR X (.Call (.Attribute o m apos) [] [] pos) (tMeth C m (SpO X.K fo) [] E0 tp tNil) (dCallM C m fo d dNil) := ⟨pe_meth0 h.pe c hM G hr hb .nil pass0 ht, sim_callM h.sim sim_nil⟩
theorem pr_pclear (h : PP X o tp d) (hbase : attributeBase o "clear" X.env (eval o X.env) = eval o X.env := by rfl) (hline : (apos.endLine == cpos.line) = true := by rfl) :
    PR X (.Call (.Attribute o "clear" apos) [] [] cpos) (tBM0 X.K "list" rClear tp) (dPClear d) := ⟨pe_bm0 PySem.F.plainAttrs_list PySem.F.slot_list_clear PySem.F.type_list_clear mt_clear h.pe hbase hline, sim_pclear h.sim⟩
theorem pdal_tree (i : Nat) (ha : PDAl X es t da) (hN : X.N[i]? = some x := by rfl) (hv : Vis X.env.scope x := by first | exact Or.inl rfl | exact Or.inr (Or.inl rfl) | exact Or.inr (Or.inr rfl)) (hd : (x == ("__debug__" : Str)) = false := by decide)
    (hcd : (x == ("__classdict__" : Str)) = false := by decide) (hs : starEach (.Name x p :: es) X.env = (false, eval (.Name x p) X.env) :: starEach es X.env := by rfl) : PDAl X (.Name x p :: es) (tCons (tVar i) t) (dlTree i da) := ⟨pa_cons (pe_var hN hv hd hcd) ha.pe hs, sim_ltree ha.sim⟩
theorem PP.frz (h : PP X e tp d) : PD X e tp (dFrzP d) := ⟨h.pe, sim_frzP h.sim⟩
theorem pd_forP {body : List Stmt} {tb : TS} {b : DS} (j : Nat) (nd : X.N.Nodup) (h : PP X o tp d) (hb : PDSs X body tb b) (hi : X.N[j]? = some y := by rfl) (hx : Loc X.env.scope y := by first | exact Or.inl rfl | exact Or.inr rfl)
    (hf : X.fn y = true ∨ X.env.scope.names.lookup y = some .local := by first | exact .inl rfl | exact .inr rfl | assumption)
    (hp : PassesOwn (model X.prog X.w) X.A X.env X.xe := by exact PassesOwn.never) (hc : X.calm = true := by rfl)
    (hs : ∀ z, foldedSetIterable o X.env z = pure z := by intro _; rfl) : PDS X (.For (.Name y p') o body [] pos) (tFor (iAny X.K tp) (gName j) tb) (dForP d j b) :=
  ⟨ps_for hp hc (pi_any h.pe) (pdg_name nd hi hx hf).pg hb.pe hs, sim_forP h.sim hb.sim⟩
end
end DL
set_option Elab.async false
set_option linter.all false
set_option maxRecDepth 100000
set_option maxHeartbeats 2000000
namespace DL
open PySem PySem.Spec PyProof.Rows L2 RT

/-! ### an expression for which lists of one's own are locked -/
def Locked (L : List Addr) (H H1 : Hp) : Prop := (∀ a, a ∉ L → H1 a = H a) ∧ ∀ q ∈ L, ∃ od vs, H q = some (.lst vs) ∧ H1 q = some (.frz od (.lst vs))
open Classical in
noncomputable def thaw (L : List Addr) (H H2 : Hp) : Hp := fun a => if a ∈ L then H a else H2 a
def tLocks (t : TE) : TE := fun σ H Q => ∃ L : List Addr, L.Nodup ∧ (∀ q ∈ L, ∃ vs, H q = some (.lst vs)) ∧ ∀ H1, Locked L H H1 → t σ H1 fun v H2 => (∀ q ∈ L, H2 q = H1 q) ∧ Q v (thaw L H H2)
section
variable {X : Cx} {pins : List (Addr × Obj)} {σ : L2.St} {H : Hp} {s : Shared}
theorem lock_all (I : Inv X pins σ H s) : ∀ {L : List Addr}, L.Nodup → (∀ q ∈ L, ∃ vs, H q = some (.lst vs)) → ∃ H1, Inv X pins σ H1 s ∧ Locked L H H1
  | [], _, _ => ⟨H, I, fun _ _ => rfl, fun q hq => nomatch hq⟩
  | q :: L, nd, h => by
    obtain ⟨n1, n2⟩ := List.nodup_cons.mp nd
    obtain ⟨H1, I1, l1, l2⟩ := lock_all I n2 fun x hx => h x (List.mem_cons_of_mem _ hx)
    obtain ⟨vs, hq⟩ := h q List.mem_cons_self
    have h1 : H1 q = some (.lst vs) := by rw [l1 q n1, hq]
    obtain ⟨od, I2⟩ := I1.lock h1 True.intro
    refine ⟨_, I2, fun a ha => ?_, fun x hx => ?_⟩
    · rw [upd_ne fun z => ha (by rw [z]; exact List.mem_cons_self)]
      exact l1 a fun z => ha (List.mem_cons_of_mem _ z)
    · by_cases e : x = q
      · subst e
        exact ⟨od, vs, hq, upd_same⟩
      · obtain ⟨od', vs', g1, g2⟩ := l2 x ((List.mem_cons.mp hx).resolve_left e)
        exact ⟨od', vs', g1, by rw [upd_ne e]; exact g2⟩
theorem unlock_all {H H1 H2 : Hp} (hn : ∀ q o' u', H q ≠ none → (∃ vs, H q = some (.lst vs)) → X.H_0 q ≠ some (.frz o' u')) : ∀ {L : List Addr} {H3 : Hp} {s : Shared}, Inv X pins σ H3 s → L.Nodup → (∀ q ∈ L, ∃ od vs, H q = some (.lst vs) ∧ H3 q = some (.frz od (.lst vs))) → Inv X pins σ (thaw L H H3) s
  | [], H3, s, I, _, _ => by
    have : thaw [] H H3 = H3 := by
      funext a
      unfold thaw
      rw [if_neg (by simp)]
    rw [this]
    exact I
  | q :: L, H3, s, I, nd, h => by
    obtain ⟨n1, n2⟩ := List.nodup_cons.mp nd
    obtain ⟨od, vs, g1, g2⟩ := h q List.mem_cons_self
    have I2 := I.unlock g2 fun o' u' => hn q o' u' (by rw [g1]; exact Option.some_ne_none _) ⟨vs, g1⟩
    have I3 := unlock_all (H1 := H1) (H2 := H2) hn (L := L) I2 n2 fun x hx => by
      obtain ⟨od', vs', k1, k2⟩ := h x (List.mem_cons_of_mem _ hx)
      exact ⟨od', vs', k1, by rw [upd_ne fun z => n1 (by rw [← z]; exact hx)]; exact k2⟩
    have e : thaw L H (upd H3 q (.lst vs)) = thaw (q :: L) H H3 := by
      funext a
      unfold thaw
      by_cases hq : a = q
      · subst hq
        rw [if_neg n1, if_pos List.mem_cons_self, upd_same, g1]
      · by_cases ha : a ∈ L
        · rw [if_pos ha, if_pos (List.mem_cons_of_mem _ ha)]
        · rw [if_neg ha, if_neg (by simp [hq, ha]), upd_ne hq]
    rw [e] at I3
    exact I3
end
theorem pe_locks {X : Cx} {e : Expr} {t : TE} (he : PE X e t) : PE X e (tLocks t) := by
  refine ⟨fun pins s σ H Q I h => ?_⟩
  obtain ⟨L, nd, hl, h⟩ := h
  obtain ⟨H1, I1, lk⟩ := lock_all I nd hl
  have hn : ∀ q o' u', H q ≠ none → (∃ vs, H q = some (.lst vs)) → X.H_0 q ≠ some (.frz o' u') := fun q o' u' _ ⟨vs, e⟩ => I.nofrz e True.intro o' u'
  refine thn (he.run pins s σ H1 _ I1 (h H1 lk)) fun u s1 ⟨v, H2, I2, r, keep, q⟩ => ⟨v, _, ?_, r, q⟩
  refine unlock_all (H1 := H1) (H2 := H2) hn I2 nd fun x hx => ?_
  obtain ⟨od, vs, g1, g2⟩ := lk.2 x hx
  exact ⟨od, vs, g1, by rw [keep x hx]; exact g2⟩
/-! ### data of a tree whose lists are locked -/
mutual
def OT.toRd : OT → Option D
  | .val d => some d
  | .lst _ xs => match OT.toRds xs with
    | some ds => some (.rd ds)
    | none => none
  | .tup _ xs => match OT.toRds xs with
    | some ds => some (.tup ds)
    | none => none
  | .ins _ _ _ _ => none
  | .dic _ _ => none
def OT.toRds : List OT → Option (List D)
  | [] => some []
  | t :: r => match t.toRd, OT.toRds r with
    | some d, some ds => some (d :: ds)
    | _, _ => none
end
section
variable {K : PySem.W.Frag} {G H G' H1 : Hp}
mutual
theorem Own.rd : ∀ {t : OT} {v : V} {A : List Addr} {d : D}, Own K G H v t A → t.toRd = some d → Same G G' → (∀ a ∈ A, ∀ vs, H a = some (.lst vs) → ∃ od, G' a = some (.frz od (.lst vs))) → Rp K G' v d
  | .val x, _, _, d, .val r, e, g, _ => by
    cases e
    exact r.mono g
  | .lst p xs, _, _, d, .lst h r, e, g, k => by
    unfold OT.toRd at e
    split at e
    · rename_i ds e1
      cases e
      obtain ⟨od, q⟩ := k _ List.mem_cons_self _ h
      exact .rd (.inl (.inr ⟨od, q⟩)) (OwnL.rd r e1 g fun a ha => k a (List.mem_cons_of_mem _ ha))
    · cases e
  | .tup p xs, _, _, d, .tup h r, e, g, k => by
    unfold OT.toRd at e
    split at e
    · rename_i ds e1
      cases e
      exact .tup (SqT.of (g _ _ h)) (OwnL.rd r e1 g k)
    · cases e
  | .ins _ _ _ _, _, _, d, _, e, _, _ => by cases e
  | .dic _ _, _, _, d, _, e, _, _ => by cases e
theorem OwnL.rd : ∀ {ts : List OT} {vs : List V} {A : List Addr} {ds : List D}, OwnL K G H vs ts A → OT.toRds ts = some ds → Same G G' → (∀ a ∈ A, ∀ vs, H a = some (.lst vs) → ∃ od, G' a = some (.frz od (.lst vs))) → RpL K G' vs ds
  | [], _, _, ds, .nil, e, _, _ => by
    cases e
    exact .nil
  | t :: r, _, _, ds, .cons h q, e, g, k => by
    unfold OT.toRds at e
    split at e
    · rename_i d es e1 e2
      cases e
      exact .cons (Own.rd h e1 g fun a ha => k a (List.mem_append_left _ ha)) (OwnL.rd q e2 g fun a ha => k a (List.mem_append_right _ ha))
    · cases e
end
end
/-! data without read-only lists -/
mutual
def D.noRd : D → Bool
  | .tup xs => D.noRdL xs
  | .lst xs => D.noRdL xs
  | .dic kvs => D.noRdK kvs
  | .ins _ fs => D.noRdF fs
  | .rd _ => false
  | .exc _ _ _ _ _ => false
  | _ => true
def D.noRdL : List D → Bool
  | [] => true
  | x :: xs => x.noRd && D.noRdL xs
def D.noRdK : List (Key × D) → Bool
  | [] => true
  | (_, x) :: xs => x.noRd && D.noRdK xs
def D.noRdF : List (Str × D) → Bool
  | [] => true
  | (_, x) :: xs => x.noRd && D.noRdF xs
end
mutual
def OT.noRd : OT → Bool
  | .val d => d.noRd
  | .lst _ xs => OT.noRdL xs
  | .tup _ xs => OT.noRdL xs
  | .ins _ _ _ fs => OT.noRdF fs
  | .dic _ kvs => D.noRdK kvs
def OT.noRdL : List OT → Bool
  | [] => true
  | x :: xs => x.noRd && OT.noRdL xs
def OT.noRdF : List (Str × OT) → Bool
  | [] => true
  | (_, x) :: xs => x.noRd && OT.noRdF xs
end
/-- G' knows what G knows, but for some locked lists -/
def ButLocks (G G' : Hp) : Prop := ∀ a u, G a = some u → G' a = some u ∨ ∃ od vs, u = .frz od (.lst vs)
theorem ButLocks.t {K : PySem.W.Frag} {G G' : Hp} {a : Addr} {xs : List V} (e : ButLocks G G') (h : SqT K G a xs) : SqT K G' a xs := by
  rcases h with (h | ⟨o, h⟩) | h
  · rcases e _ _ h with q | ⟨od, vs, q⟩
    · exact .inl (.inl q)
    · cases q
  · rcases e _ _ h with q | ⟨od, vs, q⟩
    · exact .inl (.inr ⟨o, q⟩)
    · cases q
  · exact .inr h
section
variable {K : PySem.W.Frag} {G G' H : Hp}
mutual
theorem Rp.ul (e : ButLocks G G') : ∀ {v : V} {d : D}, Rp K G v d → d.noRd = true → Rp K G' v d
  | _, _, .non, _ => .non
  | _, _, .bl b, _ => .bl b
  | _, _, .int i, _ => .int i
  | _, _, .str x, _ => .str x
  | _, _, .lst h r, q => .lst (by
    rcases e _ _ h with z | ⟨od, vs, z⟩
    · exact z
    · cases z) (RpL.ul e r (by simpa [D.noRd] using q))
  | _, _, .rd _ _, h => by simp [D.noRd] at h
  | _, _, .ty n, h => .ty n
  | _, _, .cls a, h => .cls a
  | _, _, .tup h r, q => .tup (e.t h) (RpL.ul e r (by simpa [D.noRd] using q))
  | _, _, .dic h r, q => .dic (by
    rcases h with h | ⟨o, h⟩
    · rcases e _ _ h with z | ⟨od, vs, z⟩
      · exact .inl z
      · cases z
    · rcases e _ _ h with z | ⟨od, vs, z⟩
      · exact .inr ⟨o, z⟩
      · cases z) (RpK.ul e r (by simpa [D.noRd] using q))
  | _, _, .ins h r, q => .ins (by
    rcases e _ _ h with z | ⟨od, vs, z⟩
    · exact z
    · cases z) (RpF.ul e r (by simpa [D.noRd] using q))
  | _, _, .exc _ _ _, h => by simp [D.noRd] at h
theorem RpL.ul (e : ButLocks G G') : ∀ {v : List V} {d : List D}, RpL K G v d → D.noRdL d = true → RpL K G' v d
  | _, _, .nil, _ => .nil
  | _, _, .cons h r, q => by
    simp only [D.noRdL, Bool.and_eq_true] at q
    exact .cons (Rp.ul e h q.1) (RpL.ul e r q.2)
theorem RpK.ul (e : ButLocks G G') : ∀ {v : List (Key × V)} {d : List (Key × D)}, RpK K G v d → D.noRdK d = true → RpK K G' v d
  | _, _, .nil, _ => .nil
  | _, _, .cons h r, q => by
    simp only [D.noRdK, Bool.and_eq_true] at q
    exact .cons (Rp.ul e h q.1) (RpK.ul e r q.2)
theorem RpF.ul (e : ButLocks G G') : ∀ {v : List (Str × V)} {d : List (Str × D)}, RpF K G v d → D.noRdF d = true → RpF K G' v d
  | _, _, .nil, _ => .nil
  | _, _, .cons h r, q => by
    simp only [D.noRdF, Bool.and_eq_true] at q
    exact .cons (Rp.ul e h q.1) (RpF.ul e r q.2)
end
mutual
theorem Own.ul (e : ButLocks G G') : ∀ {v : V} {t : OT} {C : List Addr}, Own K G H v t C → t.noRd = true → Own K G' H v t C
  | _, _, _, .val r, q => .val (r.ul e (by simpa [OT.noRd] using q))
  | _, _, _, .lst h r, q => .lst h (OwnL.ul e r (by simpa [OT.noRd] using q))
  | _, _, _, .tup h r, q => .tup (by
    rcases e _ _ h with z | ⟨od, vs, z⟩
    · exact z
    · cases z) (OwnL.ul e r (by simpa [OT.noRd] using q))
  | _, _, _, .ins h h2 r, q => .ins h h2 (OwnF.ul e r (by simpa [OT.noRd] using q))
  | _, _, _, .dic h r, q => .dic h (r.ul e (by simpa [OT.noRd] using q))
theorem OwnL.ul (e : ButLocks G G') : ∀ {v : List V} {t : List OT} {C : List Addr}, OwnL K G H v t C → OT.noRdL t = true → OwnL K G' H v t C
  | _, _, _, .nil, _ => .nil
  | _, _, _, .cons h r, q => by
    simp only [OT.noRdL, Bool.and_eq_true] at q
    exact .cons (Own.ul e h q.1) (OwnL.ul e r q.2)
theorem OwnF.ul (e : ButLocks G G') : ∀ {v : List (Str × V)} {t : List (Str × OT)} {C : List Addr}, OwnF K G H v t C → OT.noRdF t = true → OwnF K G' H v t C
  | _, _, _, .nil, _ => .nil
  | _, _, _, .cons h r, q => by
    simp only [OT.noRdF, Bool.and_eq_true] at q
    exact .cons (Own.ul e h q.1) (OwnF.ul e r q.2)
end
end
/-- C(x), x a tree of one's own, its lists locked meanwhile -/
def dMkK (C : Addr) (f : DFO) (i : Nat) : DR := fun ρ Φ => match ρ[i]? with
  | some (.loc t) => t.listy = true ∧ match t.toRd with
    | some x => ∀ p dx, f (.ins p dx C []) [x] fun r S' => r = .val .non ∧ S'.noRd = true ∧ Φ (.loc S') ρ
    | none => False
  | _ => False
theorem sim_mkK {K : PySem.W.Frag} {C : Addr} {f : DFO} {i : Nat} {E : XK} : SimR K (tLocks (tMake C (SpO K f) [] E (tCons (tVar i) tNil))) (dMkK C f i) := by
  intro M Z G0 H0 G H σ ρ F Φ Q A hd k
  unfold dMkK at hd
  split at hd
  · rename_i t ei
    obtain ⟨hl, hd⟩ := hd
    split at hd
    · rename_i x0 ex
      obtain ⟨h1, ⟨n, B, o, nd, hB⟩, hfp⟩ := A.mut_at (S := t) (.inl ei)
      have lB := o.listy hl
      refine ⟨B, nd, lB, fun H1 ⟨l1, l2⟩ => ⟨t.root, h1, ?_⟩⟩
      intro x dx hx hdx ne
      classical
      -- what is known meanwhile
      have hGp : ∃ Gp : Hp, Same G Gp ∧ Same Gp H1 ∧ (∀ a ∈ B, Gp a = H1 a) ∧ ∀ a, a ∉ B → Gp a = G a := by
        refine ⟨fun a => if a ∈ B then H1 a else G a, fun a u q => ?_, fun a u q => ?_, fun a ha => if_pos ha, fun a ha => if_neg ha⟩
        · show (if a ∈ B then H1 a else G a) = some u
          rw [if_neg fun z => by
            have := (hfp a ((hB a).mpr z)).1
            rw [q] at this
            cases this]
          exact q
        · have q' : (if a ∈ B then H1 a else G a) = some u := q
          split at q'
          · exact q'
          · rename_i hn
            rw [l1 a hn]
            exact A.gh a u q'
      obtain ⟨Gp, ep, ep2, gB, gN⟩ := hGp
      have rx : Rp K Gp t.root x0 := o.rd ex ep fun a ha vs hv => by
        obtain ⟨od, vs', q1, q2⟩ := l2 a ha
        rw [hv] at q1
        cases q1
        exact ⟨od, by rw [gB a ha]; exact q2⟩
      obtain ⟨sm, ok, fr⟩ := new_obj (K := K) (C := C) ep2 hx hdx ne
      rw [List.append_nil]
      refine ⟨Gp, .ins x dx C [], fun a => a ∈ [x, dx], [x0], _, .ref x, [t.root], rfl, ok, fr, ep2.trans sm, .cons rx .nil, hd x dx, fun v r Fr S' Fs' Gq H2 eG eH hn eGH old er hs hf hr q2 => ?_⟩
      obtain ⟨rfl, hnr, q2⟩ := q2
      have np : ∀ a, H1 a ≠ none → a ∉ [x, dx] := fun a ha z => by
        rcases List.mem_cons.mp z with z | z
        · rw [z] at ha; exact ha hx
        · rw [List.mem_singleton.mp z] at ha; exact ha hdx
      have up : ∀ a, H1 a ≠ none → upd (upd H1 dx (.own x)) x (.ins C dx []) a ≠ none := fun a ha => by
        cases q : H1 a with
        | none => exact absurd q ha
        | some u => rw [sm a u q]; exact Option.some_ne_none _
      have un : ∀ a, upd (upd H1 dx (.own x)) x (.ins C dx []) a = none → H1 a = none := fun a ha => by
        cases q : H1 a with
        | none => rfl
        | some u => rw [sm a u q] at ha; cases ha
      have sH1 : Same H1 H2 := fun a o q => eH a o (sm a o q) (np a (by rw [q]; exact Option.some_ne_none _))
      have nB : ∀ a ∈ B, H1 a ≠ none := fun a ha => by
        obtain ⟨od, vs, _, q⟩ := l2 a ha
        rw [q]
        exact Option.some_ne_none _
      have nH : ∀ a, H a = none ↔ H1 a = none := fun a => by
        by_cases ha : a ∈ B
        · obtain ⟨od, vs, q1, q2⟩ := l2 a ha
          rw [q1, q2]
          simp
        · rw [l1 a ha]
      refine ⟨val_non hr, fun q hq => ?_, ?_⟩
      · cases e : H1 q with
        | none => exact absurd e (nB q hq)
        | some u => exact sH1 q u e
      -- behind it
      have t1 : ∀ a ∈ B, thaw B H H2 a = H a := fun a ha => by unfold thaw; exact if_pos ha
      have t2 : ∀ a, a ∉ B → thaw B H H2 a = H2 a := fun a ha => by unfold thaw; exact if_neg ha
      have sH : Same H (thaw B H H2) := fun a u q => by
        by_cases ha : a ∈ B
        · rw [t1 a ha]; exact q
        · rw [t2 a ha]
          exact sH1 a u (by rw [l1 a ha]; exact q)
      have hG : ∃ G2 : Hp, Same G G2 ∧ Same G2 (thaw B H H2) ∧ (∀ a, H a ≠ none → G2 a = G a) ∧ ∀ a, H a = none → G2 a = Gq a := by
        refine ⟨fun a => if H a = none then Gq a else G a, fun a o q => ?_, fun a o q => ?_, fun a n => if_neg n, fun a n => if_pos n⟩
        · show (if H a = none then Gq a else G a) = some o
          rw [if_neg (by rw [A.gh a o q]; exact Option.some_ne_none _)]
          exact q
        · have q' : (if H a = none then Gq a else G a) = some o := q
          split at q'
          · rename_i hz
            rw [t2 a fun z => nB a z ((nH a).mp hz)]
            exact eGH a o q'
          · exact sH a o (A.gh a o q')
      obtain ⟨G2, g1, g2, g3, g4⟩ := hG
      have fl : ButLocks Gq G2 := fun a u q => by
        by_cases hz : H a = none
        · exact .inl (by rw [g4 a hz]; exact q)
        · rw [old a (up a fun z => hz ((nH a).mpr z))] at q
          by_cases ha : a ∈ B
          · rw [gB a ha] at q
            obtain ⟨od, vs, _, q'⟩ := l2 a ha
            rw [q'] at q
            exact .inr ⟨od, vs, (Option.some.inj q).symm⟩
          · rw [gN a ha] at q
            exact .inl (by rw [g3 a hz]; exact q)
      have A2 := A.grow g1 sH g2 g3
      obtain ⟨nn, C', oC, ndC, hC⟩ := hs
      have frs : ∀ a, Fs' a → H1 a = none := fun a fa => by
        rcases (hf a fa).2.2 with h3 | h3
        · rcases List.mem_cons.mp h3 with z | z
          · rw [z]; exact hx
          · rw [List.mem_singleton.mp z]; exact hdx
        · exact un a h3
      have oC2 : Own K G2 (thaw B H H2) (.ref x) S' C' := (oC.ul fl hnr).st (Same.refl G2) fun a ha => t2 a fun z => nB a z (frs a ((hC a).mpr ha))
      refine k (.ref x) (.loc S') Fs' ρ F G2 _ A2 g1 ⟨⟨.ref x, rfl, nn, C', oC2, ndC, hC⟩, fun z => z, fun a fa => ?_⟩ q2
      have n1 := frs a fa
      obtain ⟨h1', h2', _⟩ := hf a fa
      obtain ⟨f1, f2, f3⟩ := A.fresh0 ((nH a).mpr n1)
      exact ⟨by rw [g4 a ((nH a).mpr n1)]; exact h1', by rw [t2 a fun z => nB a z n1]; exact h2', f1, f2, f3⟩
    · exact hd.elim
  · exact hd.elim
theorem pr_mkK {X : Cx} {k : Nat} {C fa : Addr} {fd : FuncData} {ps : List Str} {x y : Str} {fo : DFO} {p q pos : Pos} (i : Nat) (Mk_ : Mk X.K C fa) (G : FnOk X.prog X.w X.K X.mg X.base CX0 k fa fd ps (SpO X.K fo)) (hr : Room (k + 1) X.A) (hm : X.mg x = some (.ref C)) (hb : Binds X.K fd ps []) (hg : Gl X x := by rfl)
    (hN : X.N[i]? = some y := by rfl) (hv : Vis X.env.scope y := by first | exact Or.inl rfl | exact Or.inr (Or.inl rfl) | exact Or.inr (Or.inr rfl)) (hdy : (y == ("__debug__" : Str)) = false := by decide) (hcd : (y == ("__classdict__" : Str)) = false := by decide)
    (hdb : (x == ("__debug__" : Str)) = false := by decide) (he : starEach (.Name y q :: []) X.env = (false, eval (.Name y q) X.env) :: starEach [] X.env := by rfl) (hpl : (backTo pos (starEach [] X.env)).any (·.1) = false := by rfl) :
    PR X (.Call (.Name x p) [.Name y q] [] pos) (tLocks (tMake C (SpO X.K fo) [] E0 (tCons (tVar i) tNil))) (dMkK C fo i) := ⟨pe_locks (pe_make Mk_ G hr hg hm hb .nil pass0 (pa_cons (pe_var hN hv hdy hcd) pa_nil he) hdb he hpl), sim_mkK⟩
end DL
set_option Elab.async false
set_option linter.all false
set_option maxRecDepth 100000
set_option maxHeartbeats 2000000
namespace DL
open PySem PySem.Spec PyProof.Rows L2 RT

/-! ### a dict of the module with texts as keys, its values whole numbers -/
def datS (kvs : List (Str × Int)) : List (Str × KTD.Dat) := kvs.map fun p => (p.1, KTD.Dat.flat (.int p.2))
structure DictS (K : PySem.W.Frag) (a : Addr) (kvs : List (Str × Int)) : Prop where
  no : (a == sysModules) = false
  ex : ∃ (es : List DictEntry) (n : Nat), K.lookup a = some ⟨.type "dict", none, .dict es.toArray n, #[]⟩ ∧ ∀ h, KTD.Rows (KTD.Dat.At h) es (datS kvs)
theorem datS_at {k : Str} {i : Int} : ∀ {kvs : List (Str × Int)}, kvs.lookup k = some i → KTD.datumAt k (datS kvs) = some (.flat (.int i))
  | [], e => by cases e
  | (x, j) :: r, e => by
    rw [List.lookup_cons] at e
    show (if decide (k = x) = true then some (KTD.Dat.flat (.int j)) else KTD.datumAt k (datS r)) = _
    by_cases c : k = x
    · subst c
      simp at e
      subst e
      simp
    · have cb : (k == x) = false := by simpa using c
      rw [cb] at e
      simp only [c, decide_false, Bool.false_eq_true, if_false]
      exact datS_at e
theorem datS_in {k : Str} : ∀ {kvs : List (Str × Int)}, KTD.inKeys k (datS kvs) = (kvs.lookup k).isSome
  | [] => rfl
  | (x, j) :: r => by
    rw [List.lookup_cons]
    show (decide (k = x) || KTD.inKeys k (datS r)) = _
    by_cases c : k = x
    · subst c
      simp
    · have cb : (k == x) = false := by simpa using c
      rw [cb]
      simp only [c, decide_false, Bool.false_or]
      exact datS_in
theorem datS_each {h : Heap} {k : Str} {P : Value → Prop} {i : Int} (hP : ∀ t, P (.int i t)) : ∀ {kvs : List (Str × Int)}, kvs.lookup k = some i → KTD.EachL h k P (datS kvs)
  | [], e => by cases e
  | [(x, j)], e => fun c => by
    subst c
    simp at e
    subst e
    exact hP
  | (x, j) :: (y, l) :: r, e => by
    rw [List.lookup_cons] at e
    show if decide (k = x) = true then KTD.Opened h P (.flat (.int j)) else KTD.EachL h k P (datS ((y, l) :: r))
    by_cases c : k = x
    · subst c
      simp at e
      subst e
      rw [if_pos (by simp)]
      exact hP
    · have cb : (k == x) = false := by simpa using c
      rw [cb] at e
      rw [if_neg (by simpa using c)]
      exact datS_each hP e
theorem datS_plain : ∀ {kvs : List (Str × Int)}, ((datS kvs).all fun p => KTD.plain p.2) = true
  | [] => rfl
  | _ :: r => by
    show (true && _) = true
    rw [Bool.true_and]
    exact datS_plain (kvs := r)
theorem datS_int {h : Heap} (i : Int) (t : Tok) : KTD.Dat.At h (.flat (.int i)) (.int i t) := PyProof.V.Flat.int i t
def rDicS (a : Addr) (kvs : List (Str × Int)) : R2 := fun x y H Q => x = .ref a ∧ ∃ k i, y = .str k ∧ kvs.lookup k = some i ∧ Q (.int i) H
def rNotInS (a : Addr) (kvs : List (Str × Int)) : R2 := fun x y H Q => y = .ref a ∧ ∃ k, x = .str k ∧ Q (.bl (!(kvs.lookup k).isSome)) H
section
variable {X : Cx} {a : Addr} {kvs : List (Str × Int)}
theorem DictS.here (T : DictS X.K a kvs) {pins : List (Addr × Obj)} {s : Shared} {σ : L2.St} {H : Hp} (I : Inv X pins σ H s) : KTD.Here s.heap s.heap a (datS kvs) := by
  obtain ⟨es, n, hl, hr⟩ := T.ex
  exact ⟨⟨T.no, _, es.toArray, n, I.kIn _ _ hl, ⟨rfl, rfl, rfl⟩, rfl, by simpa using hr s.heap⟩, fun _ _ h => h⟩
theorem ix_dictS (T : DictS X.K a kvs) : IxR X (rDicS a kvs) := by
  intro value slice pins s σ H x y v u Q I rx ry h hs
  obtain ⟨rfl, k, i, rfl, el, q⟩ := h
  cases rx
  obtain ⟨t, rfl⟩ := ry
  exact KTD.item_textA (T.here I) datS_plain (by rw [datS_in, el]; rfl) (datS_each (fun t2 => ⟨.int i, H, I.tok _, ⟨t2, rfl⟩, q⟩) el) hs
theorem op_notInS (T : DictS X.K a kvs) : OpR X (compareOp .NotIn) (rNotInS a kvs) := by
  intro pins s σ H x y v u Q I rx ry h
  obtain ⟨rfl, k, rfl, q⟩ := h
  cases ry
  obtain ⟨t, rfl⟩ := rx
  refine KTD.notin_text (T.here I) ?_
  rw [datS_in]
  exact ⟨.bl _, H, I.tok _, rfl, q⟩
end
/-- TABLE[e] -/
def dIxS (kvs : List (Str × Int)) (d : DE) : DE := fun ρ Φ => d ρ fun y ρ1 => match y with
  | .str k => match kvs.lookup k with
    | some i => Φ (.int i) ρ1
    | none => False
  | _ => False
/-- e not in TABLE -/
def dNotInS (kvs : List (Str × Int)) (d : DE) : DE := fun ρ Φ => d ρ fun y ρ1 => match y with
  | .str k => Φ (.bl (!(kvs.lookup k).isSome)) ρ1
  | _ => False
section
variable {K : PySem.W.Frag} {a : Addr} {kvs : List (Str × Int)} {t : TE} {d : DE}
theorem sim_ixS (h : SimE K t d) : SimE K (tOp (rDicS a kvs) (tC (.ref a)) t) (dIxS kvs d) := by
  intro M Z G0 H0 G H σ ρ F Φ Q A hd k
  refine h A hd fun v y ρ1 F1 G1 H1 A1 e1 r1 q1 => ?_
  split at q1
  · rename_i z
    split at q1
    · rename_i i es
      cases r1
      exact ⟨rfl, z, i, rfl, es, k _ _ ρ1 F1 G1 H1 A1 e1 (.int i) q1⟩
    · exact q1.elim
  · exact q1.elim
theorem sim_notInS (h : SimE K t d) : SimE K (tOp (rNotInS a kvs) t (tC (.ref a))) (dNotInS kvs d) := by
  intro M Z G0 H0 G H σ ρ F Φ Q A hd k
  refine h A hd fun v y ρ1 F1 G1 H1 A1 e1 r1 q1 => ?_
  split at q1
  · rename_i z
    cases r1
    exact ⟨rfl, z, rfl, k _ _ ρ1 F1 G1 H1 A1 e1 (.bl _) q1⟩
  · exact q1.elim
end
section
variable {X : Cx} {x : Str} {a : Addr} {kvs : List (Str × Int)} {e : Expr} {t : TE} {d : DE} {p pos : Pos}
theorem pd_ixS (T : DictS X.K a kvs) (hm : X.mg x = some (.ref a)) (h : PD X e t d) (hs : PlainIx e) (hg : Gl X x := by rfl) (hd : (x == ("__debug__" : Str)) = false := by decide) :
    PD X (.Subscript (.Name x p) e pos) (tOp (rDicS a kvs) (tC (.ref a)) t) (dIxS kvs d) := ⟨pe_ix (ix_dictS T) (pe_glob hg hm rfl hd) h.pe hs, sim_ixS h.sim⟩
theorem pd_notInS (T : DictS X.K a kvs) (hm : X.mg x = some (.ref a)) (h : PD X e t d) (hg : Gl X x := by rfl) (hd : (x == ("__debug__" : Str)) = false := by decide) (hb : behindInMarks .NotIn (.Name x p) = false := by rfl) :
    PD X (.Compare e [.NotIn] [.Name x p] pos) (tOp (rNotInS a kvs) t (tC (.ref a))) (dNotInS kvs d) := ⟨pe_cmpR (op_notInS T) h.pe (pe_glob hg hm rfl hd) hb, sim_notInS h.sim⟩
theorem pdt_notInS (T : DictS X.K a kvs) (hm : X.mg x = some (.ref a)) (h : PD X e t d) (hg : Gl X x := by rfl) (hd : (x == ("__debug__" : Str)) = false := by decide) (hb : behindInMarks .NotIn (.Name x p) = false := by rfl) :
    PDT X (.Compare e [.NotIn] [.Name x p] pos) (tTest (tOp (rNotInS a kvs) t (tC (.ref a)))) (dTest (dNotInS kvs d)) := ⟨pt_cmpR (op_notInS T) h.pe (pe_glob hg hm rfl hd) hb, sim_test (sim_notInS h.sim)⟩
end
section
variable {X : Cx}
/-- x = [..], x a tree from now on -/
theorem pd_setLcT {i : Nat} {y : Str} {py : Pos} {elt tg iter : Expr} {ifs : List Expr} {scope : Scope} {pos spos : Pos} {wi : TI} {di : DI} {g : Shared → Hp → Addr → List (Str × Addr) → List Addr → TG} {dg : DG} {tt : Shared → Hp → Addr → List (Str × Addr) → List Addr → TT} {dt : DT} {te : Shared → Hp → Addr → List (Str × Addr) → List Addr → TE} {de : DE} (own : List (Str × Nat)) (hN : X.N.Nodup) (hyl : X.env.scope.names.lookup y = some .local)
    (hsw : swapsWith (.ListComp elt [⟨tg, iter, ifs, 0⟩] scope pos) (some (.Name y py)) spos.line X.env = pure true) (hi : PDI X tg iter wi di) (ok : BlkOk X.N X.env.scope scope own)
    (hg : ∀ (s : Shared) (H : Hp) (C : Addr) (cl : List (Str × Addr)) (fp : List Addr), PDG (X.blk s H scope (compEnvC scope cl C X.env) fp) tg (g s H C cl fp) dg) (hm : MonoG (g X.s_0 X.H_0 0 [] [])) (hst : Sets (own.map (·.2)) (g X.s_0 X.H_0 0 [] []))
    (ht : ∀ (s : Shared) (H : Hp) (C : Addr) (cl : List (Str × Addr)) (fp : List Addr), PDTs (X.blk s H scope (compEnvC scope cl C X.env) fp) ifs (tt s H C cl fp) dt) (he : ∀ (s : Shared) (H : Hp) (C : Addr) (cl : List (Str × Addr)) (fp : List Addr), PD (X.blk s H scope (compEnvC scope cl C X.env) fp) elt (te s H C cl fp) de)
    (hgE : ∀ (s : Shared) (H : Hp) (C : Addr) (cl : List (Str × Addr)) (fp : List Addr), g s H C cl fp = g X.s_0 X.H_0 0 [] [] := by intros; rfl) (htE : ∀ (s : Shared) (H : Hp) (C : Addr) (cl : List (Str × Addr)) (fp : List Addr), tt s H C cl fp = tt X.s_0 X.H_0 0 [] [] := by intros; rfl) (heE : ∀ (s : Shared) (H : Hp) (C : Addr) (cl : List (Str × Addr)) (fp : List Addr), te s H C cl fp = te X.s_0 X.H_0 0 [] [] := by intros; rfl)
    (hy : X.N[i]? = some y := by rfl) (hc : X.calm = true := by rfl) (hs : ∀ x, foldedSetIterable iter X.env x = pure x := by intro _; rfl) :
    PDS X (.Assign [.Name y py] (.ListComp elt [⟨tg, iter, ifs, 0⟩] scope pos) spos) (tAsg (tLc wi (g X.s_0 X.H_0 0 [] []) (tt X.s_0 X.H_0 0 [] []) (te X.s_0 X.H_0 0 [] []) (own.map (·.2))) (gName i)) (dSetT i (dLc di dg dt de (own.map (·.2)))) :=
  ⟨ps_setLc hc hN hy hyl hsw hi.pi ok (fun s H C cl fp => hgE s H C cl fp ▸ (hg s H C cl fp).pg) (fun s H C cl fp => htE s H C cl fp ▸ (ht s H C cl fp).pts) (fun s H C cl fp => heE s H C cl fp ▸ (he s H C cl fp).pe) hs,
    sim_setT (sim_lc hi.sim (hg X.s_0 X.H_0 0 [] []).sim hm hst (ht X.s_0 X.H_0 0 [] []).sim (he X.s_0 X.H_0 0 [] []).sim)⟩
end
/-- the classes of the house -/
structure CA where
  Counter : Addr
  Table : Addr
  Judge : Addr
  Parting : Addr
end DL
set_option Elab.async false
set_option linter.all false
set_option maxRecDepth 100000
set_option maxHeartbeats 2000000
namespace DL
open PySem PySem.Spec PyProof.Rows L2 RT

/-! ### evaluation, big steps: the state stays -/
def Ev (e : DE) (ρ : List Sl) (x : D) : Prop := ∀ Ψ : D → List Sl → Prop, Ψ x ρ → e ρ Ψ
def EvT (c : DT) (ρ : List Sl) (b : Bool) : Prop := ∀ Ψ : Bool → List Sl → Prop, Ψ b ρ → c ρ Ψ
def EvP (d : DP) (ρ : List Sl) (i : Nat) (π : List Stp) (s : OT) : Prop := ∀ Ψ : Nat → List Stp → OT → List Sl → Prop, Ψ i π s ρ → d ρ Ψ
section
variable {e e' a b : DE} {c c' : DT} {d : DP} {ρ : List Sl} {x y : D} {i j : Nat} {π : List Stp} {s t : OT}
theorem ev_c : Ev (dC x) ρ x := fun Ψ h => h
theorem ev_var (h : ρ[i]? = some (.val x)) : Ev (dVar i) ρ x := fun Ψ k => by
  unfold dVar
  rw [h]
  exact k
theorem ev_op {f : D → D → (D → Prop) → Prop} {z : D} (h : Ev a ρ x) (g : Ev b ρ y) (k : ∀ Ψ : D → Prop, Ψ z → f x y Ψ) : Ev (dOp f a b) ρ z := fun Ψ q => h _ (g _ (k _ q))
theorem ev_ix {xs : List D} (h : Ev a ρ (.tup xs)) (g : Ev b ρ (.int (j : Int))) (k : xs[j]? = some x) : Ev (dOp ixD a b) ρ x := ev_op h g fun Ψ q => by
  show ixL xs (.int (j : Int)) Ψ
  unfold ixL
  dsimp only
  rw [atI_nat k]
  exact q
theorem ev_ixl {xs : List D} (h : Ev a ρ (.lst xs)) (g : Ev b ρ (.int (j : Int))) (k : xs[j]? = some x) : Ev (dOp ixD a b) ρ x := ev_op h g fun Ψ q => by
  show ixL xs (.int (j : Int)) Ψ
  unfold ixL
  dsimp only
  rw [atI_nat k]
  exact q
/-- a[j], j a literal -/
theorem ev_at {xs : List D} (j : Nat) (h : ρ[i]? = some (.val (.tup xs))) (k : xs[j]? = some x) : Ev (dOp ixD (dVar i) (dC (.int (j : Int)))) ρ x := ev_ix (ev_var h) ev_c k
theorem ev_r {k : List Sl → Prop} {Ψ : Sl → List Sl → Prop} (h : Ev e ρ x) (q : Ψ (.val x) ρ) : dR e ρ Ψ := h _ q
theorem evt_of {v : Bool} (h : Ev e ρ (.bl v)) : EvT (dTest e) ρ v := fun Ψ q => h _ q
theorem evt_not {v : Bool} (h : EvT c ρ v) : EvT (dNot c) ρ (!v) := fun Ψ q => h _ q
theorem evt_and {v w : Bool} (h : EvT c ρ v) (g : v = true → EvT c' ρ w) (hw : v = false → w = false) : EvT (dAnd c c') ρ w := fun Ψ q => h _ (by
  cases v with
  | true =>
    rw [if_pos rfl]
    exact g rfl _ q
  | false =>
    rw [if_neg (by simp)]
    rw [hw rfl] at q
    exact q)
theorem evt_or {v w : Bool} (h : EvT c ρ v) (g : v = false → EvT c' ρ w) (hw : v = true → w = true) : EvT (dOr c c') ρ w := fun Ψ q => h _ (by
  cases v with
  | false =>
    rw [if_neg (by simp)]
    exact g rfl _ q
  | true =>
    rw [if_pos rfl]
    rw [hw rfl] at q
    exact q)
theorem evt_andF (h : EvT c ρ false) : EvT (dAnd c c') ρ false := evt_and h (fun z => nomatch z) fun _ => rfl
theorem evt_andT {w : Bool} (h : EvT c ρ true) (g : EvT c' ρ w) : EvT (dAnd c c') ρ w := evt_and h (fun _ => g) fun z => nomatch z
theorem evt_orF {w : Bool} (h : EvT c ρ false) (g : EvT c' ρ w) : EvT (dOr c c') ρ w := evt_or h (fun _ => g) fun z => nomatch z
/-- e == "text" -/
theorem evt_eqS {u z : Str} {v : Bool} (h : Ev e ρ (.str u)) (hv : decide (u = z) = v := by first | rfl | decide +kernel) (h1 : (D.str u).okN 60 = true := by first | rfl | decide +kernel) (h2 : (D.str z).okN 60 = true := by first | rfl | decide +kernel) : EvT (dTest (dOp eqD e (dC (.str z)))) ρ v :=
  evt_of (ev_op h ev_c fun Ψ q => ⟨h1, h2, by
    rw [eqv_str, hv]
    exact q⟩)
/-- e in ("text", ..) -/
theorem ev_in {xs : List D} {u : Str} {v : Bool} (h : Ev e ρ (.str u)) (g : Ev e' ρ (.tup xs)) (hv : (xs.any fun z => D.eqv z (.str u)) = v := by first | rfl | decide +kernel) (h1 : (D.str u).okN 60 = true := by first | rfl | decide +kernel) (h2 : D.okL xs 60 = true := by first | rfl | decide +kernel) : Ev (dOp memV e e') ρ (.bl v) :=
  ev_op h g fun Ψ q => ⟨h1, h2, by rw [hv]; exact q⟩
/-- m <= e < k -/
theorem ev_rangeL {m n : Int} {k : Int} {v : Bool} (h : Ev a ρ (.int m)) (g : Ev e ρ (.int n)) (l : Ev b ρ (.int k)) (hv : (decide (m ≤ n) && decide (n < k)) = v) : Ev (dChain leD ltD a e b) ρ (.bl v) := fun Ψ q => by
  refine h _ (g _ ?_)
  show if decide (m ≤ n) = true then _ else _
  by_cases c : m ≤ n
  · rw [if_pos (by simpa using c)]
    refine l _ ?_
    rw [show decide (m ≤ n) = true by simpa using c, Bool.true_and] at hv
    show Ψ (.bl (decide (n < k))) ρ
    rw [hv]
    exact q
  · rw [if_neg (by simpa using c)]
    rw [show decide (m ≤ n) = false by simpa using c, Bool.false_and] at hv
    rw [hv]
    exact q
theorem ev_rangeE {m n : Int} {k : Int} {v : Bool} (h : Ev a ρ (.int m)) (g : Ev e ρ (.int n)) (l : Ev b ρ (.int k)) (hv : (decide (m ≤ n) && decide (n ≤ k)) = v) : Ev (dChain leD leD a e b) ρ (.bl v) := fun Ψ q => by
  refine h _ (g _ ?_)
  show if decide (m ≤ n) = true then _ else _
  by_cases c : m ≤ n
  · rw [if_pos (by simpa using c)]
    refine l _ ?_
    rw [show decide (m ≤ n) = true by simpa using c, Bool.true_and] at hv
    show Ψ (.bl (decide (n ≤ k))) ρ
    rw [hv]
    exact q
  · rw [if_neg (by simpa using c)]
    rw [show decide (m ≤ n) = false by simpa using c, Bool.false_and] at hv
    rw [hv]
    exact q
theorem ev_and {v w : Bool} (h : Ev a ρ (.bl v)) (g : v = true → Ev b ρ (.bl w)) (hw : v = false → w = false) : Ev (dAndV a b) ρ (.bl w) := fun Ψ q => h _ (by
  cases v with
  | true =>
    show if true = true then _ else _
    rw [if_pos rfl]
    exact g rfl _ q
  | false =>
    show if false = true then _ else _
    rw [if_neg (by simp)]
    rw [hw rfl] at q
    exact q)
theorem ev_len {xs : List D} (h : Ev e ρ (.tup xs)) : Ev (dV (dCB lenD (dCons e dNil))) ρ (.int xs.length) := fun Ψ q => h _ q
theorem ev_lenl {xs : List D} (h : Ev e ρ (.lst xs)) : Ev (dV (dCB lenD (dCons e dNil))) ρ (.int xs.length) := fun Ψ q => h _ q
theorem ev_ixS {kvs : List (Str × Int)} {u : Str} {n : Int} (h : Ev e ρ (.str u)) (hn : kvs.lookup u = some n := by first | rfl | decide +kernel) : Ev (dIxS kvs e) ρ (.int n) := fun Ψ q => h _ (by
  dsimp only
  rw [hn]
  exact q)
theorem evt_notInS {kvs : List (Str × Int)} {u : Str} {v : Bool} (h : Ev e ρ (.str u)) (hn : (!(kvs.lookup u).isSome) = v := by first | rfl | decide +kernel) : EvT (dTest (dNotInS kvs e)) ρ v := evt_of fun Ψ q => h _ (by
  dsimp only
  rw [hn]
  exact q)
theorem ev_add {m n k : Int} (h : Ev a ρ (.int m)) (g : Ev b ρ (.int n)) (hk : m + n = k) : Ev (dV (dOpR addD a b)) ρ (.int k) := fun Ψ q => h _ (g _ (by subst hk; exact q))
/-! statements -/
variable {Δ : Ds} {p q : DS}
theorem if_f (h : EvT c ρ false) (k : q Δ ρ) : dIfS c p q Δ ρ := h _ (by rw [if_neg (by simp)]; exact k)
theorem if_t (h : EvT c ρ true) (k : p Δ ρ) : dIfS c p q Δ ρ := h _ (by rw [if_pos rfl]; exact k)
theorem if_b {v : Bool} (h : EvT c ρ v) (k1 : v = true → p Δ ρ) (k2 : v = false → q Δ ρ) : dIfS c p q Δ ρ := by
  cases v with
  | true => exact if_t h (k1 rfl)
  | false => exact if_f h (k2 rfl)
theorem ret_e (h : Ev e ρ x) (k : Δ.rt (.val x) ρ) : dRet (dR e) Δ ρ := h _ k
theorem set_e (h : Ev e ρ x) (f : free ρ i) (k : Δ.nx (ρ.set i (.val x))) : dSet i (dR e) Δ ρ := h _ ⟨f, k⟩
/-! places -/
theorem evp_var (h : treeOf (ρ[i]?) = some t) : EvP (dpVar i) ρ i [] t := fun Ψ k => by
  unfold dpVar
  rw [h]
  exact k
theorem evp_fd {C p' dx : Addr} {fs : List (Str × OT)} {f : Str} (h : EvP d ρ i π (.ins p' dx C fs)) (e : fs.lookup f = some t) : EvP (dpFd C d f) ρ i (π ++ [.fd f]) t := fun Ψ k => h _ (by
  refine ⟨rfl, ?_⟩
  rw [e]
  exact k)
theorem evp_ix {t0 : OT} {p' : Addr} {xs : List OT} (h : EvP d ρ i π (.lst p' xs)) (g : Ev e ρ (.int (j : Int))) (ht : treeOf (ρ[i]?) = some t0) (hg : t0.get π = some (.lst p' xs)) (k : xs[j]? = some t) : EvP (dpIx d e) ρ i (π ++ [.ix j]) t := fun Ψ q => h _ (g _ (by
  rw [ht]
  dsimp only
  rw [hg]
  refine ⟨⟨rfl, rfl⟩, Int.natCast_nonneg _, ?_⟩
  rw [Int.toNat_natCast, k]
  exact q))
theorem evp_ixT {t0 : OT} {p' : Addr} {xs : List OT} (h : EvP d ρ i π (.tup p' xs)) (g : Ev e ρ (.int (j : Int))) (ht : treeOf (ρ[i]?) = some t0) (hg : t0.get π = some (.tup p' xs)) (k : xs[j]? = some t) : EvP (dpIx d e) ρ i (π ++ [.ix j]) t := fun Ψ q => h _ (g _ (by
  rw [ht]
  dsimp only
  rw [hg]
  refine ⟨⟨rfl, rfl⟩, Int.natCast_nonneg _, ?_⟩
  rw [Int.toNat_natCast, k]
  exact q))
theorem ev_leaf (h : EvP d ρ i π (.val x)) : Ev (dLeaf d) ρ x := fun Ψ k => h _ k
end
end DL
set_option Elab.async false
set_option linter.all false
set_option maxRecDepth 100000
set_option maxHeartbeats 2000000
namespace DL
open PySem PySem.Spec PyProof.Rows L2 RT

/-! ### plugs, wirings -/
inductive Plug where
  | hole (col place : Nat)
  | head (col place level : Nat)
  | add (ctr col wheel : Nat)
  | count (ctr : Nat)
  | print (ctr wheel place : Nat)
  | level (place : Nat)
def nD (n : Nat) : D := .int (n : Int)
def plugD : Plug → D
  | .hole c p => .tup [.str "hole", nD c, nD p]
  | .head c p l => .tup [.str "head", nD c, nD p, nD l]
  | .add k c w => .tup [.str "add", nD k, nD c, nD w]
  | .count k => .tup [.str "count", nD k]
  | .print k w p => .tup [.str "print", nD k, nD w, nD p]
  | .level p => .tup [.str "level", nD p]
def PlugOk (L : Nat) : Plug → Prop
  | .hole c p => c < 12 ∧ p < 40
  | .head c p l => c < 12 ∧ p < 40 ∧ 1 ≤ l ∧ l ≤ L
  | .add k c w => k < 4 ∧ c < 12 ∧ w < 8
  | .count k => k < 4
  | .print k w p => k < 4 ∧ w < 8 ∧ p < 40
  | .level p => p < 40
def F_is_plug : DF := fun xs Φ => ∃ (p : Plug) (L : Nat), xs = [plugD p, nD L] ∧ PlugOk L p ∧ Φ (.val (.bl true))
/- slots of is_plug: 0 plug, 1 levels -/
def b_is_plug : DS := (dSeq (dIfS (dOr (dTest (dOp eqD (dVar 0) (dTup dNil))) (dOr (dTest (dNotInS [("hole", 3), ("head", 4), ("add", 4), ("count", 2), ("print", 4), ("level", 2)] (dOp ixD (dVar 0) (dC (.int 0))))) (dTest (dOp neD (dV (dCB lenD (dCons (dVar 0) dNil))) (dIxS [("hole", 3), ("head", 4), ("add", 4), ("count", 2), ("print", 4), ("level", 2)] (dOp ixD (dVar 0) (dC (.int 0)))))))) (dRet (dR (dC (.bl false)))) dNext)
  (dSeq (dIfS (dAnd (dTest (dOp memV (dOp ixD (dVar 0) (dC (.int 0))) (dTup (dCons (dC (.str "hole")) (dCons (dC (.str "head")) dNil))))) (dNot (dTest (dChain leD ltD (dC (.int 0)) (dOp ixD (dVar 0) (dC (.int 1))) (dC (.int 12)))))) (dRet (dR (dC (.bl false)))) dNext)
  (dSeq (dIfS (dAnd (dTest (dOp eqD (dOp ixD (dVar 0) (dC (.int 0))) (dC (.str "head")))) (dNot (dTest (dChain leD leD (dC (.int 1)) (dOp ixD (dVar 0) (dC (.int 3))) (dVar 1))))) (dRet (dR (dC (.bl false)))) dNext)
  (dSeq (dIfS (dAnd (dTest (dOp memV (dOp ixD (dVar 0) (dC (.int 0))) (dTup (dCons (dC (.str "add")) (dCons (dC (.str "count")) (dCons (dC (.str "print")) dNil)))))) (dNot (dTest (dChain leD ltD (dC (.int 0)) (dOp ixD (dVar 0) (dC (.int 1))) (dC (.int 4)))))) (dRet (dR (dC (.bl false)))) dNext)
  (dSeq (dIfS (dTest (dOp eqD (dOp ixD (dVar 0) (dC (.int 0))) (dC (.str "add")))) (dRet (dR (dAndV (dChain leD ltD (dC (.int 0)) (dOp ixD (dVar 0) (dC (.int 2))) (dC (.int 12))) (dChain leD ltD (dC (.int 0)) (dOp ixD (dVar 0) (dC (.int 3))) (dC (.int 8)))))) dNext)
  (dSeq (dIfS (dAnd (dTest (dOp eqD (dOp ixD (dVar 0) (dC (.int 0))) (dC (.str "print")))) (dNot (dTest (dChain leD ltD (dC (.int 0)) (dOp ixD (dVar 0) (dC (.int 2))) (dC (.int 8)))))) (dRet (dR (dC (.bl false)))) dNext)
  (dSeq (dIfS (dTest (dOp eqD (dOp ixD (dVar 0) (dC (.int 0))) (dC (.str "count")))) (dRet (dR (dC (.bl true)))) dNext)
  (dRet (dR (dChain leD ltD (dC (.int 0)) (dOp ixD (dVar 0) (dOp ixD (dV (dDict (dpCons (dC (.str "hole")) (dC (.int 2)) (dpCons (dC (.str "head")) (dC (.int 2)) (dpCons (dC (.str "print")) (dC (.int 3)) (dpCons (dC (.str "level")) (dC (.int 1)) dpNil)))))) (dOp ixD (dVar 0) (dC (.int 0))))) (dC (.int 40))))))))))))
theorem sok_hole : PyData.strOk "hole" = true := by decide +kernel
theorem sok_head : PyData.strOk "head" = true := by decide +kernel
theorem sok_add : PyData.strOk "add" = true := by decide +kernel
theorem sok_count : PyData.strOk "count" = true := by decide +kernel
theorem sok_print : PyData.strOk "print" = true := by decide +kernel
theorem sok_level : PyData.strOk "level" = true := by decide +kernel
theorem ok_plug (p : Plug) : (plugD p).okN 60 = true := by
  cases p <;> simp [plugD, nD, D.okN, D.okL, sok_hole, sok_head, sok_add, sok_count, sok_print, sok_level]
theorem eqv_plug_nil (p : Plug) : D.eqv (plugD p) (.tup []) = false := by
  cases p <;> simp [plugD, D.eqv, D.py, D.pyL, PyData.eqv, PyData.eqvAll]
section
variable {ρ : List Sl} {xs : List D} {L : Nat} {u : Str}
theorem pl0 (h : ρ[0]? = some (.val (.tup (.str u :: xs)))) : Ev (dOp ixD (dVar 0) (dC (.int 0))) ρ (.str u) := ev_at 0 h rfl
theorem pl1 {n : Nat} (h : ρ[0]? = some (.val (.tup (.str u :: nD n :: xs)))) : Ev (dOp ixD (dVar 0) (dC (.int 1))) ρ (.int (n : Int)) := ev_at 1 h rfl
theorem pl2 {n : Nat} {y : D} (h : ρ[0]? = some (.val (.tup (.str u :: y :: nD n :: xs)))) : Ev (dOp ixD (dVar 0) (dC (.int 2))) ρ (.int (n : Int)) := ev_at 2 h rfl
theorem pl3 {n : Nat} {y z : D} (h : ρ[0]? = some (.val (.tup (.str u :: y :: z :: nD n :: xs)))) : Ev (dOp ixD (dVar 0) (dC (.int 3))) ρ (.int (n : Int)) := ev_at 3 h rfl
end
theorem inr_ok {n m : Nat} (h : n < m) {k : Int} (hk : k = (m : Int)) : (decide ((0 : Int) ≤ (n : Int)) && decide ((n : Int) < k)) = true := by
  subst hk
  simp
  omega
def wordsL : List (Str × Int) := [("hole", 3), ("head", 4), ("add", 4), ("count", 2), ("print", 4), ("level", 2)]
theorem plug_first {p : Plug} {u : Str} {ys : List D} {L : Nat} (m : Int) (hp : plugD p = .tup (.str u :: ys)) (h1 : wordsL.lookup u = some m) (h2 : m = ((D.str u :: ys).length : Nat)) :
    EvT (dOr (dTest (dOp eqD (dVar 0) (dTup dNil))) (dOr (dTest (dNotInS [("hole", 3), ("head", 4), ("add", 4), ("count", 2), ("print", 4), ("level", 2)] (dOp ixD (dVar 0) (dC (.int 0))))) (dTest (dOp neD (dV (dCB lenD (dCons (dVar 0) dNil))) (dIxS [("hole", 3), ("head", 4), ("add", 4), ("count", 2), ("print", 4), ("level", 2)] (dOp ixD (dVar 0) (dC (.int 0)))))))) (slots [plugD p, nD L] 2) false := by
  have v0 : (slots [plugD p, nD L] 2)[0]? = some (.val (.tup (.str u :: ys))) := by rw [hp]; rfl
  have e0 := pl0 v0
  subst h2
  refine evt_orF (evt_of (ev_op (ev_var (x := plugD p) rfl) (fun Ψ q => ⟨Nat.zero_le _, q⟩) fun Ψ q => ⟨ok_plug p, rfl, by rw [eqv_plug_nil]; exact q⟩)) (evt_orF (evt_notInS e0 (by
    have h1' : ([("hole", 3), ("head", 4), ("add", 4), ("count", 2), ("print", 4), ("level", 2)] : List (Str × Int)).lookup u = _ := h1
    rw [h1']; rfl)) (evt_of (ev_op (ev_len (ev_var v0)) (ev_ixS e0 h1) fun Ψ q => ⟨ok_int _ _, ok_int _ _, by rw [eqv_int]; simpa using q⟩)))
section
variable {e : DE} {ρ : List Sl}
theorem ev_in2 {s t u : Str} {v : Bool} (h : Ev e ρ (.str u)) (hs : PyData.strOk s = true) (ht : PyData.strOk t = true) (hu : PyData.strOk u = true) (hv : (decide (s = u) || decide (t = u)) = v) : EvT (dTest (dOp memV e (dTup (dCons (dC (.str s)) (dCons (dC (.str t)) dNil))))) ρ v :=
  evt_of (ev_in h (xs := [.str s, .str t]) (fun Ψ q => ⟨by simp, q⟩) (by
    simp only [List.any_cons, List.any_nil, Bool.or_false, eqv_str]
    exact hv) hu (by
    simp [D.okL, D.okN, hs, ht]))
theorem ev_in3 {s t r u : Str} {v : Bool} (h : Ev e ρ (.str u)) (hs : PyData.strOk s = true) (ht : PyData.strOk t = true) (hr : PyData.strOk r = true) (hu : PyData.strOk u = true) (hv : (decide (s = u) || (decide (t = u) || decide (r = u))) = v) : EvT (dTest (dOp memV e (dTup (dCons (dC (.str s)) (dCons (dC (.str t)) (dCons (dC (.str r)) dNil)))))) ρ v :=
  evt_of (ev_in h (xs := [.str s, .str t, .str r]) (fun Ψ q => ⟨by simp, q⟩) (by
    simp only [List.any_cons, List.any_nil, Bool.or_false, eqv_str]
    exact hv) hu (by
    simp [D.okL, D.okN, hs, ht, hr]))
def whereL : List (Key × D) := [(.inr "hole", .int 2), (.inr "head", .int 2), (.inr "print", .int 3), (.inr "level", .int 1)]
theorem ev_where {u : Str} {n : Nat} (h : Ev e ρ (.str u)) (hn : getK whereL (.inr u) = some (.int (n : Int))) :
    Ev (dOp ixD (dV (dDict (dpCons (dC (.str "hole")) (dC (.int 2)) (dpCons (dC (.str "head")) (dC (.int 2)) (dpCons (dC (.str "print")) (dC (.int 3)) (dpCons (dC (.str "level")) (dC (.int 1)) dpNil)))))) e) ρ (.int (n : Int)) :=
  ev_op (x := .dic whereL) (fun Ψ q => ⟨by decide, by decide +kernel, q⟩) h fun Ψ q => by
    show match getK whereL (.inr u) with
      | some d => Ψ d
      | none => False
    rw [hn]
    exact q
end
theorem rd_is_plug : ∀ xs Φ, F_is_plug xs Φ → b_is_plug (rtV Φ) (slots xs 2) := by
  rintro xs Φ ⟨p, L, rfl, hp, k⟩
  cases p with
  | hole c p =>
    obtain ⟨h1, h2⟩ := hp
    have e0 := pl0 (ρ := slots [plugD (.hole c p), nD L] 2) (u := "hole") rfl
    have e1 : Ev _ (slots [plugD (.hole c p), nD L] 2) _ := pl1 (u := "hole") rfl
    refine if_f (plug_first 3 rfl (by decide +kernel) rfl) ?_
    refine if_f (evt_andT (ev_in2 (v := true) e0 sok_hole sok_head sok_hole (by decide +kernel)) (evt_not (v := true) (evt_of (ev_rangeL ev_c e1 ev_c (inr_ok h1 rfl))))) ?_
    refine if_f (evt_andF (evt_eqS e0)) ?_
    refine if_f (evt_andF (ev_in3 (v := false) e0 sok_add sok_count sok_print sok_hole (by decide +kernel))) ?_
    refine if_f (evt_eqS e0) (if_f (evt_andF (evt_eqS e0)) (if_f (evt_eqS e0) ?_))
    refine ret_e (ev_rangeL ev_c (ev_ix (xs := [.str "hole", nD c, nD p]) (ev_var (i := 0) rfl) (j := 2) (ev_where e0 rfl) rfl) ev_c (inr_ok h2 rfl)) ?_
    exact k
  | head c p l =>
    obtain ⟨h1, h2, h3, h4⟩ := hp
    have e0 := pl0 (ρ := slots [plugD (.head c p l), nD L] 2) (u := "head") rfl
    have e1 : Ev _ (slots [plugD (.head c p l), nD L] 2) _ := pl1 (u := "head") rfl
    have e3 : Ev _ (slots [plugD (.head c p l), nD L] 2) _ := pl3 (u := "head") rfl
    refine if_f (plug_first 4 rfl (by decide +kernel) rfl) ?_
    refine if_f (evt_andT (ev_in2 (v := true) e0 sok_hole sok_head sok_head (by decide +kernel)) (evt_not (v := true) (evt_of (ev_rangeL ev_c e1 ev_c (inr_ok h1 rfl))))) ?_
    refine if_f (evt_andT (evt_eqS e0) (evt_not (v := true) (evt_of (ev_rangeE ev_c e3 (ev_var (x := nD L) rfl) (by simp; omega))))) ?_
    refine if_f (evt_andF (ev_in3 (v := false) e0 sok_add sok_count sok_print sok_head (by decide +kernel))) ?_
    refine if_f (evt_eqS e0) (if_f (evt_andF (evt_eqS e0)) (if_f (evt_eqS e0) ?_))
    refine ret_e (ev_rangeL ev_c (ev_ix (xs := [.str "head", nD c, nD p, nD l]) (ev_var (i := 0) rfl) (j := 2) (ev_where e0 rfl) rfl) ev_c (inr_ok h2 rfl)) ?_
    exact k
  | add kk c w =>
    obtain ⟨h1, h2, h3⟩ := hp
    have e0 := pl0 (ρ := slots [plugD (.add kk c w), nD L] 2) (u := "add") rfl
    have e1 : Ev _ (slots [plugD (.add kk c w), nD L] 2) _ := pl1 (u := "add") rfl
    have e2 : Ev _ (slots [plugD (.add kk c w), nD L] 2) _ := pl2 (u := "add") rfl
    have e3 : Ev _ (slots [plugD (.add kk c w), nD L] 2) _ := pl3 (u := "add") rfl
    refine if_f (plug_first 4 rfl (by decide +kernel) rfl) ?_
    refine if_f (evt_andF (ev_in2 (v := false) e0 sok_hole sok_head sok_add (by decide +kernel))) ?_
    refine if_f (evt_andF (evt_eqS e0)) ?_
    refine if_f (evt_andT (ev_in3 (v := true) e0 sok_add sok_count sok_print sok_add (by decide +kernel)) (evt_not (v := true) (evt_of (ev_rangeL ev_c e1 ev_c (inr_ok h1 rfl))))) ?_
    refine if_t (evt_eqS e0) ?_
    refine ret_e (ev_and (ev_rangeL ev_c e2 ev_c (inr_ok h2 rfl)) (fun _ => ev_rangeL ev_c e3 ev_c (inr_ok h3 rfl)) fun z => nomatch z) ?_
    exact k
  | count kk =>
    have h1 := hp
    have e0 := pl0 (ρ := slots [plugD (.count kk), nD L] 2) (u := "count") rfl
    have e1 : Ev _ (slots [plugD (.count kk), nD L] 2) _ := pl1 (u := "count") rfl
    refine if_f (plug_first 2 rfl (by decide +kernel) rfl) ?_
    refine if_f (evt_andF (ev_in2 (v := false) e0 sok_hole sok_head sok_count (by decide +kernel))) ?_
    refine if_f (evt_andF (evt_eqS e0)) ?_
    refine if_f (evt_andT (ev_in3 (v := true) e0 sok_add sok_count sok_print sok_count (by decide +kernel)) (evt_not (v := true) (evt_of (ev_rangeL ev_c e1 ev_c (inr_ok h1 rfl))))) ?_
    refine if_f (evt_eqS e0) (if_f (evt_andF (evt_eqS e0)) (if_t (evt_eqS e0) ?_))
    refine ret_e ev_c ?_
    exact k
  | print kk w p =>
    obtain ⟨h1, h2, h3⟩ := hp
    have e0 := pl0 (ρ := slots [plugD (.print kk w p), nD L] 2) (u := "print") rfl
    have e1 : Ev _ (slots [plugD (.print kk w p), nD L] 2) _ := pl1 (u := "print") rfl
    have e2 : Ev _ (slots [plugD (.print kk w p), nD L] 2) _ := pl2 (u := "print") rfl
    refine if_f (plug_first 4 rfl (by decide +kernel) rfl) ?_
    refine if_f (evt_andF (ev_in2 (v := false) e0 sok_hole sok_head sok_print (by decide +kernel))) ?_
    refine if_f (evt_andF (evt_eqS e0)) ?_
    refine if_f (evt_andT (ev_in3 (v := true) e0 sok_add sok_count sok_print sok_print (by decide +kernel)) (evt_not (v := true) (evt_of (ev_rangeL ev_c e1 ev_c (inr_ok h1 rfl))))) ?_
    refine if_f (evt_eqS e0) (if_f (evt_andT (evt_eqS e0) (evt_not (v := true) (evt_of (ev_rangeL ev_c e2 ev_c (inr_ok h2 rfl))))) (if_f (evt_eqS e0) ?_))
    refine ret_e (ev_rangeL ev_c (ev_ix (xs := [.str "print", nD kk, nD w, nD p]) (ev_var (i := 0) rfl) (j := 3) (ev_where e0 rfl) rfl) ev_c (inr_ok h3 rfl)) ?_
    exact k
  | level p =>
    have h1 := hp
    have e0 := pl0 (ρ := slots [plugD (.level p), nD L] 2) (u := "level") rfl
    refine if_f (plug_first 2 rfl (by decide +kernel) rfl) ?_
    refine if_f (evt_andF (ev_in2 (v := false) e0 sok_hole sok_head sok_level (by decide +kernel))) ?_
    refine if_f (evt_andF (evt_eqS e0)) ?_
    refine if_f (evt_andF (ev_in3 (v := false) e0 sok_add sok_count sok_print sok_level (by decide +kernel))) ?_
    refine if_f (evt_eqS e0) (if_f (evt_andF (evt_eqS e0)) (if_f (evt_eqS e0) ?_))
    refine ret_e (ev_rangeL ev_c (ev_ix (xs := [.str "level", nD p]) (ev_var (i := 0) rfl) (j := 1) (ev_where e0 rfl) rfl) ev_c (inr_ok h1 rfl)) ?_
    exact k
end DL
set_option Elab.async false
set_option linter.all false
set_option maxRecDepth 100000
set_option maxHeartbeats 2000000
namespace DL
open PySem PySem.Spec PyProof.Rows L2 RT

/-! ### drawn plugs and wirings -/
structure Wiring where
  watched : List Nat
  plugs : List Plug
  detail : Bool
def watchedD (w : Wiring) : D := .lst (w.watched.map nD)
def plugsD (w : Wiring) : D := .lst (w.plugs.map plugD)
def wiringD (w : Wiring) : D := .tup [watchedD w, plugsD w, .bl w.detail]
structure WiringOk (w : Wiring) : Prop where
  l3 : w.watched.length ≤ 3
  cols : ∀ x ∈ w.watched, x < 12
  l24 : w.plugs.length ≤ 24
  plugs : ∀ p ∈ w.plugs, PlugOk w.watched.length p
def F_L_plug : DFO := fun S xs Φ => Dice S ∧ ∃ L : Nat, xs = [nD L] ∧ L ≤ 3 ∧ ∀ p S', PlugOk L p → After S S' → Φ (.val (plugD p)) S'
/- slots of _law_plug: 0 _law_d, 1 _law_levels, 2 _law_word, 3 _law_place, 4 _law_counter -/
def b_L_plug : DS := (dSeq (dSet 2 (dR (dOp ixD (dV (dLst (dCons (dC (.str "hole")) (dCons (dC (.str "head")) (dCons (dC (.str "add")) (dCons (dC (.str "count")) (dCons (dC (.str "print")) (dCons (dC (.str "level")) (dCons (dC (.str "add")) (dCons (dC (.str "print")) dNil)))))))))) (dV (dCallO F_L_next 0 (dCons (dC (.int 8)) dNil))))))
  (dSeq (dSet 3 (dR (dV (dCallO F_L_next 0 (dCons (dC (.int 40)) dNil)))))
  (dSeq (dSet 4 (dR (dV (dCallO F_L_next 0 (dCons (dC (.int 4)) dNil)))))
  (dSeq (dIfS (dAnd (dTest (dOp eqD (dVar 2) (dC (.str "head")))) (dTest (dOp gtD (dVar 1) (dC (.int 0))))) (dRet (dR (dTup (dCons (dC (.str "head")) (dCons (dV (dCallO F_L_next 0 (dCons (dC (.int 12)) dNil))) (dCons (dVar 3) (dCons (dV (dOpR addD (dC (.int 1)) (dV (dCallO F_L_next 0 (dCons (dVar 1) dNil))))) dNil))))))) dNext)
  (dSeq (dIfS (dTest (dOp eqD (dVar 2) (dC (.str "add")))) (dRet (dR (dTup (dCons (dC (.str "add")) (dCons (dVar 4) (dCons (dV (dCallO F_L_next 0 (dCons (dC (.int 12)) dNil))) (dCons (dV (dCallO F_L_next 0 (dCons (dC (.int 8)) dNil))) dNil))))))) dNext)
  (dSeq (dIfS (dTest (dOp eqD (dVar 2) (dC (.str "print")))) (dRet (dR (dTup (dCons (dC (.str "print")) (dCons (dVar 4) (dCons (dV (dCallO F_L_next 0 (dCons (dC (.int 8)) dNil))) (dCons (dVar 3) dNil))))))) dNext)
  (dSeq (dIfS (dTest (dOp eqD (dVar 2) (dC (.str "count")))) (dRet (dR (dTup (dCons (dC (.str "count")) (dCons (dVar 4) dNil))))) dNext)
  (dSeq (dIfS (dTest (dOp eqD (dVar 2) (dC (.str "level")))) (dRet (dR (dTup (dCons (dC (.str "level")) (dCons (dVar 3) dNil))))) dNext)
  (dRet (dR (dTup (dCons (dC (.str "hole")) (dCons (dV (dCallO F_L_next 0 (dCons (dC (.int 12)) dNil))) (dCons (dVar 3) dNil))))))))))))))
def w6 : List Str := ["hole", "head", "add", "count", "print", "level"]
theorem w8_in (n : Nat) (h : n < 8) : ∃ u, u ∈ w6 ∧ ([.str "hole", .str "head", .str "add", .str "count", .str "print", .str "level", .str "add", .str "print"] : List D)[n]? = some (.str u) := by
  match n, h with
  | 0, _ => exact ⟨"hole", by decide +kernel, rfl⟩
  | 1, _ => exact ⟨"head", by decide +kernel, rfl⟩
  | 2, _ => exact ⟨"add", by decide +kernel, rfl⟩
  | 3, _ => exact ⟨"count", by decide +kernel, rfl⟩
  | 4, _ => exact ⟨"print", by decide +kernel, rfl⟩
  | 5, _ => exact ⟨"level", by decide +kernel, rfl⟩
  | 6, _ => exact ⟨"add", by decide +kernel, rfl⟩
  | 7, _ => exact ⟨"print", by decide +kernel, rfl⟩
  | n + 8, h => omega
theorem rd_L_plug : ∀ S xs Φ, F_L_plug S xs Φ → b_L_plug (rtO S Φ) (.arg S :: slots xs 4) := by
  rintro S xs Φ ⟨dS, L, rfl, hL, k⟩
  refine ⟨by decide, dS, 8, rfl, by decide, by decide, fun n S1 n0 hn d1 r1 => ?_⟩
  obtain ⟨n, rfl⟩ := Int.eq_ofNat_of_zero_le n0
  have a1 : After S S1 := ⟨d1, r1⟩
  obtain ⟨u, hu, eu⟩ := w8_in n (by omega)
  show ixL _ (.int (n : Int)) _
  unfold ixL
  dsimp only
  rw [atI_nat eu]
  refine ⟨trivial, d1, 40, rfl, by decide, by decide, fun p S2 p0 hp d2 r2 => ⟨trivial, d2, 4, rfl, by decide, by decide, fun q S3 q0 hq d3 r3 => ⟨trivial, ?_⟩⟩⟩
  obtain ⟨p, rfl⟩ := Int.eq_ofNat_of_zero_le p0
  obtain ⟨q, rfl⟩ := Int.eq_ofNat_of_zero_le q0
  have a3 : After S S3 := a1.trans (After.trans ⟨d2, r2⟩ ⟨d3, r3⟩)
  have hole : dRet (dR (dTup (dCons (dC (.str "hole")) (dCons (dV (dCallO F_L_next 0 (dCons (dC (.int 12)) dNil))) (dCons (dVar 3) dNil))))) (rtO S Φ) [.arg S3, .val (nD L), .val (.str u), .val (nD p), .val (nD q)] := by
    refine ⟨d3, 12, rfl, by decide, by decide, fun c S4 c0 hc d4 r4 => ⟨by simp, ?_⟩⟩
    obtain ⟨c, rfl⟩ := Int.eq_ofNat_of_zero_le c0
    have a4 := a3.trans ⟨d4, r4⟩
    exact ⟨a4.2, k (.hole c p) S4 ⟨by omega, by omega⟩ a4⟩
  have ev : ∀ v : Str, ∀ b, decide (u = v) = b → PyData.strOk u = true → PyData.strOk v = true → EvT (dTest (dOp eqD (dVar 2) (dC (.str v)))) [.arg S3, .val (nD L), .val (.str u), .val (nD p), .val (nD q)] b := fun v b h h1 h2 => evt_eqS (ev_var rfl) h h1 h2
  have hu' : u = "hole" ∨ u = "head" ∨ u = "add" ∨ u = "count" ∨ u = "print" ∨ u = "level" := by simpa [w6] using hu
  rcases hu' with rfl | rfl | rfl | rfl | rfl | rfl
  · exact if_f (evt_andF (ev _ _ (by decide +kernel) sok_hole sok_head)) (if_f (ev _ _ (by decide +kernel) sok_hole sok_add) (if_f (ev _ _ (by decide +kernel) sok_hole sok_print) (if_f (ev _ _ (by decide +kernel) sok_hole sok_count) (if_f (ev _ _ (by decide +kernel) sok_hole sok_level) hole))))
  · refine if_b (evt_andT (ev _ _ (by decide +kernel) sok_head sok_head) (evt_of (v := decide ((0 : Int) < (L : Int))) (ev_op (ev_var (x := nD L) rfl) ev_c fun Ψ q => q))) (fun hl => ?_) fun _ => ?_
    · have hl' : (0 : Int) < (L : Int) := by simpa using hl
      refine ⟨d3, 12, rfl, by decide, by decide, fun c S4 c0 hc d4 r4 => ⟨d4, _, rfl, hl', by omega, fun l S5 l0 hl5 d5 r5 => ⟨by simp, ?_⟩⟩⟩
      obtain ⟨c, rfl⟩ := Int.eq_ofNat_of_zero_le c0
      obtain ⟨l, rfl⟩ := Int.eq_ofNat_of_zero_le l0
      have a5 := a3.trans (After.trans ⟨d4, r4⟩ ⟨d5, r5⟩)
      have := k (.head c p (1 + l)) S5 ⟨by omega, by omega, by omega, by omega⟩ a5
      have e : nD (1 + l) = .int (1 + (l : Int)) := by unfold nD; push_cast; rfl
      rw [show plugD (.head c p (1 + l)) = .tup [.str "head", nD c, nD p, nD (1 + l)] from rfl, e] at this
      exact ⟨a5.2, this⟩
    · exact if_f (ev _ _ (by decide +kernel) sok_head sok_add) (if_f (ev _ _ (by decide +kernel) sok_head sok_print) (if_f (ev _ _ (by decide +kernel) sok_head sok_count) (if_f (ev _ _ (by decide +kernel) sok_head sok_level) hole)))
  · refine if_f (evt_andF (ev _ _ (by decide +kernel) sok_add sok_head)) (if_t (ev _ _ (by decide +kernel) sok_add sok_add) ?_)
    refine ⟨d3, 12, rfl, by decide, by decide, fun c S4 c0 hc d4 r4 => ⟨d4, 8, rfl, by decide, by decide, fun l S5 l0 hl5 d5 r5 => ⟨by simp, ?_⟩⟩⟩
    obtain ⟨c, rfl⟩ := Int.eq_ofNat_of_zero_le c0
    obtain ⟨l, rfl⟩ := Int.eq_ofNat_of_zero_le l0
    have a5 := a3.trans (After.trans ⟨d4, r4⟩ ⟨d5, r5⟩)
    exact ⟨a5.2, k (.add q c l) S5 ⟨by omega, by omega, by omega⟩ a5⟩
  · refine if_f (evt_andF (ev _ _ (by decide +kernel) sok_count sok_head)) (if_f (ev _ _ (by decide +kernel) sok_count sok_add) (if_f (ev _ _ (by decide +kernel) sok_count sok_print) (if_t (ev _ _ (by decide +kernel) sok_count sok_count) ?_)))
    exact ⟨by simp, a3.2, k (.count q) S3 (by show q < 4; omega) a3⟩
  · refine if_f (evt_andF (ev _ _ (by decide +kernel) sok_print sok_head)) (if_f (ev _ _ (by decide +kernel) sok_print sok_add) (if_t (ev _ _ (by decide +kernel) sok_print sok_print) ?_))
    refine ⟨d3, 8, rfl, by decide, by decide, fun l S4 l0 hc d4 r4 => ⟨by simp, ?_⟩⟩
    obtain ⟨l, rfl⟩ := Int.eq_ofNat_of_zero_le l0
    have a4 := a3.trans ⟨d4, r4⟩
    exact ⟨a4.2, k (.print q l p) S4 ⟨by omega, by omega, by omega⟩ a4⟩
  · refine if_f (evt_andF (ev _ _ (by decide +kernel) sok_level sok_head)) (if_f (ev _ _ (by decide +kernel) sok_level sok_add) (if_f (ev _ _ (by decide +kernel) sok_level sok_print) (if_f (ev _ _ (by decide +kernel) sok_level sok_count) (if_t (ev _ _ (by decide +kernel) sok_level sok_level) ?_))))
    exact ⟨by simp, a3.2, k (.level p) S3 (by show p < 40; omega) a3⟩
def F_L_wiring : DFO := fun S xs Φ => Dice S ∧ ∃ wide : Nat, xs = [nD wide] ∧ wide ≤ 11 ∧ ∀ w S', WiringOk w → After S S' → Φ (.val (wiringD w)) S'
/- slots of _law_wiring: 0 _law_d, 1 _law_wide, 2 _law_watched, 3 _law_plugs, 4 _law_k -/
def b_L_wiring : DS := (dSeq (dSet 2 (dR (dV (dLc (diRng1 (dV (dCallO F_L_next 0 (dCons (dC (.int 4)) dNil)))) (dgName 4) dYes (dV (dCallO F_L_next 0 (dCons (dV (dOpR addD (dVar 1) (dC (.int 1)))) dNil))) [4]))))
  (dSeq (dSet 3 (dR (dV (dLc (diRng1 (dV (dCallO F_L_next 0 (dCons (dC (.int 25)) dNil)))) (dgName 4) dYes (dV (dCallO F_L_plug 0 (dCons (dV (dCB lenD (dCons (dVar 2) dNil))) dNil))) [4]))))
  (dRet (dR (dTup (dCons (dVar 2) (dCons (dVar 3) (dCons (dOp eqD (dV (dCallO F_L_next 0 (dCons (dC (.int 2)) dNil))) (dC (.int 1))) dNil))))))))
theorem rd_L_wiring : ∀ S xs Φ, F_L_wiring S xs Φ → b_L_wiring (rtO S Φ) (.arg S :: slots xs 4) := by
  rintro S xs Φ ⟨dS, wide, rfl, hw, k⟩
  refine lc_open ⟨dS, 4, rfl, by decide, by decide, fun n S1 n0 hn d1 r1 => ⟨(by unfold inR; omega), by rw [rng_length]; omega, ⟨trivial, trivial⟩, ?_⟩⟩
  obtain ⟨n, rfl⟩ := Int.eq_ofNat_of_zero_le n0
  have a1 : After S S1 := ⟨d1, r1⟩
  refine lcL_inv (fun rest acc ρ => ∃ (ws : List Nat) (S' : OT) (s : Sl), acc = ws.map nD ∧ (∀ f ∈ ws, f < 12) ∧ ws.length + rest.length = n ∧ After S S' ∧ ρ = [.arg S', .val (nD wide), .un, .un, s]) ?_ ?_ ⟨[], S1, .un, rfl, fun f h => (nomatch h), by rw [rng_length]; simp, a1, rfl⟩
  · rintro x rest acc ρ ⟨fs, S', s, rfl, hf, hl, a', rfl⟩ K hK
    refine ⟨trivial, a'.1, _, rfl, by omega, by omega, fun c S2 c0 hc d2 r2 => ?_⟩
    obtain ⟨c, rfl⟩ := Int.eq_ofNat_of_zero_le c0
    refine ⟨⟨trivial, trivial⟩, hK _ _ ⟨fs ++ [c], S2, .val x, by rw [List.map_append]; rfl, fun g hg => ?_, by rw [List.length_append]; simp at hl ⊢; omega, a'.trans ⟨d2, r2⟩, rfl⟩⟩
    rcases List.mem_append.mp hg with h | h
    · exact hf g h
    · rw [List.mem_singleton.mp h]; omega
  rintro acc ρ ⟨ws, S2, s, rfl, hws, hwl, a2, rfl⟩
  have hwl' : ws.length = n := by simpa using hwl
  refine ⟨trivial, ?_⟩
  refine lc_open ⟨a2.1, 25, rfl, by decide, by decide, fun m S3 m0 hm d3 r3 => ⟨(by unfold inR; omega), by rw [rng_length]; omega, ⟨trivial, trivial⟩, ?_⟩⟩
  obtain ⟨m, rfl⟩ := Int.eq_ofNat_of_zero_le m0
  have a3 := a2.trans ⟨d3, r3⟩
  refine lcL_inv (fun rest acc ρ => ∃ (ps : List Plug) (S' : OT) (s : Sl), acc = ps.map plugD ∧ (∀ p ∈ ps, PlugOk ws.length p) ∧ ps.length + rest.length = m ∧ After S S' ∧ ρ = [.arg S', .val (nD wide), .val (.lst (ws.map nD)), .un, s]) ?_ ?_ ⟨[], S3, .un, rfl, fun f h => (nomatch h), by rw [rng_length]; simp, a3, rfl⟩
  · rintro x rest acc ρ ⟨ps, S', s, rfl, hf, hl, a', rfl⟩ K hK
    refine ⟨trivial, ?_⟩
    refine ⟨a'.1, ws.length, by rw [List.length_map]; rfl, by omega, fun p S4 hp a4 => ⟨⟨trivial, trivial⟩, hK _ _ ⟨ps ++ [p], S4, .val x, by rw [List.map_append]; rfl, fun g hg => ?_, by rw [List.length_append]; simp at hl ⊢; omega, a'.trans a4, rfl⟩⟩⟩
    rcases List.mem_append.mp hg with h | h
    · exact hf g h
    · rw [List.mem_singleton.mp h]; exact hp
  rintro acc ρ ⟨ps, S4, s, rfl, hps, hpl, a4, rfl⟩
  have hpl' : ps.length = m := by simpa using hpl
  refine ⟨trivial, ?_⟩
  refine ⟨a4.1, 2, rfl, by decide, by decide, fun x S5 x0 hx d5 r5 => ⟨ok_int _ _, ok_int _ _, ?_⟩⟩
  rw [eqv_int]
  have a5 := a4.trans ⟨d5, r5⟩
  exact ⟨by simp, a5.2, k ⟨ws, ps, decide (x = 1)⟩ S5 ⟨by show ws.length ≤ 3; omega, hws, by show ps.length ≤ 24; omega, hps⟩ a5⟩
end DL
set_option Elab.async false
set_option linter.all false
set_option maxRecDepth 100000
set_option maxHeartbeats 2000000
namespace DL
open PySem PySem.Spec PyProof.Rows L2 RT

/-! ### numbers and lines of the law -/
def holesOf (c : Card) (col : Nat) : Nat := (figOf (colAt c (col : Int))).toNat
def plugN (k : Nat) (c : Card) : Plug → Nat
  | .add k' col w => if k' = k then holesOf c col * 10 ^ w else 0
  | .count k' => if k' = k then 1 else 0
  | _ => 0
def cardN (ps : List Plug) (k : Nat) (c : Card) : Nat := (ps.map (plugN k c)).sum
def counted (cs : List Card) (ps : List Plug) (k : Nat) : Nat := (cs.map (cardN ps k)).sum
theorem figOf_every : ∀ c ∈ every, figOf c < 10 ∧ -1 ≤ figOf c := by decide
theorem holes_max {c : Card} (h : CardOk c) (col : Nat) : (if figOf (colAt c (col : Int)) > 0 then figOf (colAt c (col : Int)) else 0) = (holesOf c col : Int) := by
  obtain ⟨h1, h2⟩ := figOf_every _ (h.col (col : Int))
  unfold holesOf
  split <;> omega
theorem holes_lt {c : Card} (h : CardOk c) (col : Nat) : holesOf c col < 10 := by
  obtain ⟨h1, h2⟩ := figOf_every _ (h.col (col : Int))
  unfold holesOf
  omega
def F_L_ten : DF := fun xs Φ => ∃ w : Nat, xs = [nD w] ∧ w < 8 ∧ Φ (.val (nD (10 ^ w)))
/- slots of _law_ten: 0 _law_wheel -/
def b_L_ten : DS := (dRet (dCB intSD (dCons (dV (dOpR addD (dC (.str "1")) (dV (dOpR mulSD (dC (.str "0")) (dVar 0))))) dNil)))
theorem ten_text (w : Nat) (h : w < 8) : PySem.intText? ((Str.ofString "1") ++ Txt.mul (Str.ofString "0") (w : Int)) = some ((10 ^ w : Nat) : Int) ∧ ((Str.ofString "1") ++ Txt.mul (Str.ofString "0") (w : Int)).length ≤ 640 ∧ (Str.ofString "1").length + (Txt.mul (Str.ofString "0") (w : Int)).length ≤ 1000000 := by
  match w, h with
  | 0, _ => exact ⟨by decide +kernel, by decide +kernel, by decide +kernel⟩
  | 1, _ => exact ⟨by decide +kernel, by decide +kernel, by decide +kernel⟩
  | 2, _ => exact ⟨by decide +kernel, by decide +kernel, by decide +kernel⟩
  | 3, _ => exact ⟨by decide +kernel, by decide +kernel, by decide +kernel⟩
  | 4, _ => exact ⟨by decide +kernel, by decide +kernel, by decide +kernel⟩
  | 5, _ => exact ⟨by decide +kernel, by decide +kernel, by decide +kernel⟩
  | 6, _ => exact ⟨by decide +kernel, by decide +kernel, by decide +kernel⟩
  | 7, _ => exact ⟨by decide +kernel, by decide +kernel, by decide +kernel⟩
  | n + 8, h => omega
theorem rd_L_ten : ∀ xs Φ, F_L_ten xs Φ → b_L_ten (rtV Φ) (slots xs 1) := by
  rintro xs Φ ⟨w, rfl, hw, k⟩
  obtain ⟨h1, h2, h3⟩ := ten_text w hw
  show mulSD (.str "0") (.int (w : Int)) _
  unfold mulSD
  refine ⟨by omega, by omega, by decide +kernel, h3, _, h1, h2, k⟩
def F_L_counted : DF := fun xs Φ => ∃ (cs : List Card) (ps : List Plug) (L k : Nat), xs = [deckD cs, .lst (ps.map plugD), nD k] ∧ cs.length ≤ 1000 ∧ (∀ c ∈ cs, CardOk c) ∧ ps.length ≤ 1000 ∧ (∀ p ∈ ps, PlugOk L p) ∧ Φ (.val (nD (counted cs ps k)))
def b_counted_step : DS := (dSeq (dIfS (dAnd (dTest (dOp eqD (dOp ixD (dVar 5) (dC (.int 0))) (dC (.str "count")))) (dTest (dOp eqD (dOp ixD (dVar 5) (dC (.int 1))) (dVar 2)))) (dSet 3 (dR (dV (dOpR addD (dVar 3) (dC (.int 1)))))) dNext)
  (dIfS (dAnd (dTest (dOp eqD (dOp ixD (dVar 5) (dC (.int 0))) (dC (.str "add")))) (dTest (dOp eqD (dOp ixD (dVar 5) (dC (.int 1))) (dVar 2)))) (dSet 3 (dR (dV (dOpR addD (dVar 3) (dV (dOpR mulD (dV (dCB max2D (dCons (dC (.int 0)) (dCons (dV (dCall F_L_figure (dCons (dV (dCall F_L_column (dCons (dVar 4) (dCons (dOp ixD (dVar 5) (dC (.int 2))) dNil)))) dNil))) dNil)))) (dV (dCall F_L_ten (dCons (dOp ixD (dVar 5) (dC (.int 3))) dNil))))))))) dNext))
/- slots of _law_counted: 0 _law_cards, 1 _law_plugs, 2 _law_counter, 3 _law_found, 4 _law_card, 5 _law_plug_here -/
def b_L_counted : DS := (dSeq (dSet 3 (dR (dC (.int 0))))
  (dSeq (dFor (diAny (dVar 0)) (dgName 4) (dFor (diAny (dVar 1)) (dgName 5) b_counted_step))
  (dRet (dR (dVar 3)))))
section
variable {a b : DE} {ρ : List Sl} {m n : Int}
theorem evt_eqI (h : Ev a ρ (.int m)) (g : Ev b ρ (.int n)) : EvT (dTest (dOp eqD a b)) ρ (decide (m = n)) := evt_of (ev_op h g fun Ψ q => ⟨ok_int _ _, ok_int _ _, by rw [eqv_int]; exact q⟩)
end
/-- word and numbers of a plug in slot i -/
theorem ev_word {ρ : List Sl} {i : Nat} {p : Plug} {u : Str} {ys : List D} (h : ρ[i]? = some (.val (plugD p))) (e : plugD p = .tup (.str u :: ys)) : Ev (dOp ixD (dVar i) (dC (.int 0))) ρ (.str u) := ev_at 0 (by rw [h, e]) rfl
theorem ev_num {ρ : List Sl} {i : Nat} {p : Plug} {ys : List D} {x : D} (j : Nat) (h : ρ[i]? = some (.val (plugD p))) (e : plugD p = .tup ys) (k : ys[j]? = some x) : Ev (dOp ixD (dVar i) (dC (.int (j : Int)))) ρ x := ev_at j (by rw [h, e]) k
theorem nD_add (a b : Nat) : nD (a + b) = .int ((a : Int) + (b : Int)) := by
  unfold nD
  push_cast
  rfl
theorem counted_step {Δ : Ds} {cs : List Card} {ps : List Plug} {k : Nat} {n : Nat} {c : Card} {p : Plug} {L : Nat} (co : CardOk c) (po : PlugOk L p) (q : Δ.nx [.val (deckD cs), .val (.lst (ps.map plugD)), .val (nD k), .val (nD (n + plugN k c p)), .val (cardD c), .val (plugD p)]) :
    b_counted_step Δ [.val (deckD cs), .val (.lst (ps.map plugD)), .val (nD k), .val (nD n), .val (cardD c), .val (plugD p)] := by
  have i5 : ∀ s3 : Sl, ([.val (deckD cs), .val (.lst (ps.map plugD)), .val (nD k), s3, .val (cardD c), .val (plugD p)] : List Sl)[5]? = some (.val (plugD p)) := fun _ => rfl
  cases p with
  | add kk col w =>
    obtain ⟨h1, h2, h3⟩ := po
    refine if_f (evt_andF (evt_eqS (ev_word (i5 _) rfl))) ?_
    refine if_b (evt_andT (evt_eqS (v := true) (ev_word (i5 _) rfl)) (evt_eqI (ev_num 1 (i5 _) (ys := [.str "add", nD kk, nD col, nD w]) rfl rfl) (ev_var (i := 2) (x := nD k) rfl))) (fun e => ?_) (fun e => ?_)
    · have e' : kk = k := Int.ofNat.inj (of_decide_eq_true e)
      have hn : plugN k c (.add kk col w) = holesOf c col * 10 ^ w := if_pos e'
      rw [hn] at q
      refine ⟨c, col, rfl, by have := co.1; omega, by omega, by omega, colAt c col, rfl, co.col _, w, rfl, h3, ?_⟩
      show CMul (if figOf (colAt c (col : Int)) > 0 then figOf (colAt c (col : Int)) else 0) ((10 ^ w : Nat) : Int) ∧ _
      rw [holes_max co col]
      have h10 := holes_lt co col
      refine ⟨.inl ⟨by omega, by omega⟩, trivial, ?_⟩
      have e2 : nD (n + holesOf c col * 10 ^ w) = .int ((n : Int) + (holesOf c col : Int) * ((10 ^ w : Nat) : Int)) := by
        unfold nD
        push_cast
        rfl
      rw [e2] at q
      exact q
    · have e' : ¬ kk = k := fun z => (of_decide_eq_false e) (by rw [z])
      have hn : plugN k c (.add kk col w) = 0 := if_neg e'
      rw [hn, Nat.add_zero] at q
      exact q
  | count kk =>
    refine if_b (evt_andT (evt_eqS (v := true) (ev_word (i5 _) rfl)) (evt_eqI (ev_num 1 (i5 _) (ys := [.str "count", nD kk]) rfl rfl) (ev_var (i := 2) (x := nD k) rfl))) (fun e => ?_) (fun e => ?_)
    · have e' : kk = k := Int.ofNat.inj (of_decide_eq_true e)
      have hn : plugN k c (.count kk) = 1 := if_pos e'
      rw [hn, nD_add] at q
      refine ⟨trivial, ?_⟩
      exact if_f (evt_andF (evt_eqS (ev_word (i5 _) rfl))) q
    · have e' : ¬ kk = k := fun z => (of_decide_eq_false e) (by rw [z])
      have hn : plugN k c (.count kk) = 0 := if_neg e'
      rw [hn, Nat.add_zero] at q
      exact if_f (evt_andF (evt_eqS (ev_word (i5 _) rfl))) q
  | hole => exact if_f (evt_andF (evt_eqS (ev_word (i5 _) rfl))) (if_f (evt_andF (evt_eqS (ev_word (i5 _) rfl))) q)
  | head => exact if_f (evt_andF (evt_eqS (ev_word (i5 _) rfl))) (if_f (evt_andF (evt_eqS (ev_word (i5 _) rfl))) q)
  | print => exact if_f (evt_andF (evt_eqS (ev_word (i5 _) rfl))) (if_f (evt_andF (evt_eqS (ev_word (i5 _) rfl))) q)
  | level => exact if_f (evt_andF (evt_eqS (ev_word (i5 _) rfl))) (if_f (evt_andF (evt_eqS (ev_word (i5 _) rfl))) q)
theorem rd_L_counted : ∀ xs Φ, F_L_counted xs Φ → b_L_counted (rtV Φ) (slots xs 6) := by
  rintro xs Φ ⟨cs, ps, L, k, rfl, lc, hc, lp, hp, q⟩
  refine ⟨trivial, ?_⟩
  refine for_inv' (cs.map cardD) (fun Ψ h => h) (fun rest ρ => ∃ (pre post : List Card) (s4 s5 : Sl), cs = pre ++ post ∧ rest = post.map cardD ∧ dat s4 ∧ dat s5 ∧ ρ = [.val (deckD cs), .val (.lst (ps.map plugD)), .val (nD k), .val (nD (counted pre ps k)), s4, s5]) ⟨[], cs, .un, .un, rfl, rfl, .un, .un, rfl⟩ ?_ ?_
  · rintro d rest ρ ⟨pre, post, s4, s5, e1, e2, f4, f5, rfl⟩ K hK
    cases post with
    | nil => cases e2
    | cons c post =>
      cases e2
      have cm : c ∈ cs := by rw [e1]; simp
      have co := hc c cm
      refine ⟨f4.free rfl, ?_⟩
      refine for_inv' (ps.map plugD) (fun Ψ h => h) (fun rest ρ => ∃ (a b : List Plug) (s5 : Sl), ps = a ++ b ∧ rest = b.map plugD ∧ dat s5 ∧ ρ = [.val (deckD cs), .val (.lst (ps.map plugD)), .val (nD k), .val (nD (counted pre ps k + cardN a k c)), .val (cardD c), s5]) ⟨[], ps, s5, rfl, rfl, f5, rfl⟩ ?_ ?_
      · rintro d rest ρ ⟨a, b, s5, ea, eb, f5, rfl⟩ K2 hK2
        cases b with
        | nil => cases eb
        | cons p b =>
          cases eb
          have pm : p ∈ ps := by rw [ea]; simp
          have po := hp p pm
          refine ⟨f5.free rfl, ?_⟩
          have fin : K2 [.val (deckD cs), .val (.lst (ps.map plugD)), .val (nD k), .val (nD (counted pre ps k + cardN (a ++ [p]) k c)), .val (cardD c), .val (plugD p)] := hK2 _ ⟨a ++ [p], b, .val (plugD p), by rw [ea]; simp, rfl, .val _, rfl⟩
          have cs1 : cardN (a ++ [p]) k c = cardN a k c + plugN k c p := by simp [cardN]
          rw [cs1, ← Nat.add_assoc] at fin
          exact counted_step (cs := cs) (ps := ps) (hc c cm) po fin
      · rintro ρ ⟨a, b, s5, ea, eb, f5, rfl⟩
        have : b = [] := by simpa using eb.symm
        subst this
        rw [List.append_nil] at ea
        subst ea
        refine hK _ ⟨pre ++ [c], post, .val (cardD c), s5, by rw [e1]; simp, rfl, .val _, f5, ?_⟩
        simp [counted]
  · rintro ρ ⟨pre, post, s4, s5, e1, e2, f4, f5, rfl⟩
    have : post = [] := by simpa using e2.symm
    subst this
    rw [List.append_nil] at e1
    subst e1
    exact q
end DL
set_option Elab.async false
set_option linter.all false
set_option maxRecDepth 100000
set_option maxHeartbeats 2000000
namespace DL
open PySem PySem.Spec PyProof.Rows L2 RT

/-! ### lines of forty places -/
def lineT (p : Addr) (ts : List Str) : OT := .lst p (ts.map fun s => .val (.str s))
def blanks : List Str := List.replicate 40 (Str.ofString " ")
def setAll (ts : List Str) (signs : List (Nat × Str)) : List Str := signs.foldl (fun l x => l.set x.1 x.2) ts
def lineOf (signs : List (Nat × Str)) : Str := Txt.join (Str.ofString "") (setAll blanks signs)
def signD (x : Nat × Str) : D := .tup [nD x.1, .str x.2]
def SignOk (x : Nat × Str) : Prop := x.1 < 40 ∧ x.2.length ≤ 100
structure LineOk40 (ts : List Str) : Prop where
  len : ts.length = 40
  short : ∀ s ∈ ts, s.length ≤ 100
theorem blanks_ok : LineOk40 blanks := ⟨by simp [blanks], fun s h => by
  rw [List.eq_of_mem_replicate h]
  decide +kernel⟩
theorem LineOk40.set {ts : List Str} (h : LineOk40 ts) {j : Nat} {s : Str} (hs : s.length ≤ 100) : LineOk40 (ts.set j s) := ⟨by rw [List.length_set]; exact h.len, fun x hx => by
  rcases List.mem_or_eq_of_mem_set hx with z | z
  · exact h.short x z
  · rw [z]; exact hs⟩
theorem setAll_ok : ∀ {signs : List (Nat × Str)} {ts : List Str}, LineOk40 ts → (∀ x ∈ signs, SignOk x) → LineOk40 (setAll ts signs)
  | [], ts, h, _ => h
  | x :: r, ts, h, k => setAll_ok (signs := r) (ts := ts.set x.1 x.2) (h.set (k x List.mem_cons_self).2) fun y hy => k y (List.mem_cons_of_mem _ hy)
theorem setAll_app (ts : List Str) (a b : List (Nat × Str)) : setAll ts (a ++ b) = setAll (setAll ts a) b := by
  unfold setAll
  rw [List.foldl_append]
theorem sumS_le {n : Nat} : ∀ {xs : List Str}, (∀ s ∈ xs, s.length ≤ n) → (xs.map (·.length)).sum ≤ xs.length * n
  | [], _ => by simp
  | x :: r, h => by
    have h1 := h x List.mem_cons_self
    have h2 := sumS_le (xs := r) fun s hs => h s (List.mem_cons_of_mem _ hs)
    rw [List.map_cons, List.sum_cons, List.length_cons, Nat.add_mul]
    omega
theorem toD_line (p : Addr) (ts : List Str) : (lineT p ts).toD = some (.lst (ts.map D.str)) := by
  have : ∀ ts : List Str, OT.toDs (ts.map fun s => OT.val (.str s)) = some (ts.map D.str) := by
    intro ts
    induction ts with
    | nil => rfl
    | cons s r ih =>
      rw [List.map_cons, List.map_cons, OT.toDs, ih]
      rfl
  show (match OT.toDs (ts.map fun s => OT.val (.str s)) with
    | some ds => some (D.lst ds)
    | none => none) = _
  rw [this]
section
variable {ρ : List Sl} {i : Nat} {p : Addr} {ts : List Str} {Δ : Ds}
theorem line_set {v k : DE} {s : Str} {j : Nat} (hi : ρ[i]? = some (.loc (lineT p ts))) (hv : Ev v ρ (.str s)) (hk : Ev k ρ (.int (j : Int))) (hj : j < ts.length) (q : Δ.nx (ρ.set i (.loc (lineT p (ts.set j s))))) : dPSet (dpVar i) k v Δ ρ := by
  refine hv _ ?_
  refine evp_var (t := lineT p ts) (by rw [hi]; rfl) _ ?_
  refine hk _ ?_
  rw [hi]
  refine ⟨rfl, rfl, Int.natCast_nonneg _, by rw [List.length_map]; omega, ?_⟩
  rw [Int.toNat_natCast]
  have e : ((ts.map fun s => OT.val (.str s)).set j (.val (.str s))) = (ts.set j s).map fun s => OT.val (.str s) := by rw [List.map_set]
  show Δ.nx (ρ.set i (.loc (.lst p ((ts.map fun s => OT.val (.str s)).set j (.val (.str s))))))
  rw [e]
  exact q
theorem line_join (hi : ρ[i]? = some (.loc (lineT p ts))) (ok : LineOk40 ts) (q : ∀ ρ', Δ.rt (.val (.str (Txt.join (Str.ofString "") ts))) ρ') : dRet (dMt isS joinD (dC (.str "")) (dCons (dVar i) dNil)) Δ ρ := by
  have hs := sumS_le ok.short
  rw [ok.len] at hs
  refine ⟨trivial, ?_⟩
  show dVar i ρ _
  unfold dVar
  rw [hi]
  dsimp only
  rw [toD_line]
  show joinD (.str (Str.ofString "")) [.lst (ts.map D.str)] _
  unfold joinD
  dsimp only
  rw [strs_map]
  have : (Str.ofString "").length = 0 := by decide +kernel
  refine ⟨Nat.le_trans (Nat.add_le_add hs (Nat.le_refl _)) ?_, q _⟩
  rw [this]
  omega
end
def F_L_line : DF := fun xs Φ => ∃ signs : List (Nat × Str), xs = [.lst (signs.map signD)] ∧ (∀ x ∈ signs, SignOk x) ∧ Φ (.val (.str (lineOf signs)))
/- slots of _law_line: 0 _law_signs, 1 _law_line_here, 2 _law_place, 3 _law_sign_here -/
def b_L_line : DS := (dSeq (dSetT 1 (dOpR mulD (dV (dLst (dCons (dC (.str " ")) dNil))) (dC (.int 40))))
  (dSeq (dFor (diAny (dVar 0)) (dgTup 2 (dgCons (dgName 2) (dgCons (dgName 3) dgNil))) (dPSet (dpVar 1) (dVar 2) (dVar 3)))
  (dRet (dMt isS joinD (dC (.str "")) (dCons (dVar 1) dNil)))))
theorem rd_L_line : ∀ xs Φ, F_L_line xs Φ → b_L_line (rtV Φ) (slots xs 4) := by
  rintro xs Φ ⟨signs, rfl, hs, k⟩
  refine ⟨by decide, by decide, by decide, by decide, trivial, fun p => ?_⟩
  refine for_inv' (signs.map signD) (fun Ψ h => h) (fun rest ρ => ∃ (a b : List (Nat × Str)) (s2 s3 : Sl), signs = a ++ b ∧ rest = b.map signD ∧ dat s2 ∧ dat s3 ∧ ρ = [.val (.lst (signs.map signD)), .loc (lineT p (setAll blanks a)), s2, s3]) ⟨[], signs, .un, .un, rfl, rfl, .un, .un, rfl⟩ ?_ ?_
  · rintro d rest ρ ⟨a, b, s2, s3, ea, eb, f2, f3, rfl⟩ K hK
    cases b with
    | nil => cases eb
    | cons x b =>
      cases eb
      have xo := hs x (by rw [ea]; simp)
      have la := setAll_ok blanks_ok (signs := a) fun y hy => hs y (by rw [ea]; simp [hy])
      refine ⟨rfl, f2.free rfl, f3.free rfl, ?_⟩
      refine line_set (i := 1) (p := p) (ts := setAll blanks a) (s := x.2) (j := x.1) rfl (ev_var rfl) (ev_var (x := nD x.1) rfl) (by rw [la.len]; exact xo.1) ?_
      refine hK _ ⟨a ++ [x], b, .val (nD x.1), .val (.str x.2), by rw [ea]; simp, rfl, .val _, .val _, ?_⟩
      rw [setAll_app]
      rfl
  · rintro ρ ⟨a, b, s2, s3, ea, eb, f2, f3, rfl⟩
    have : b = [] := by simpa using eb.symm
    subst this
    rw [List.append_nil] at ea
    subst ea
    exact line_join (i := 1) rfl (setAll_ok blanks_ok hs) fun _ => k
end DL
set_option Elab.async false
set_option linter.all false
set_option maxRecDepth 100000
set_option maxHeartbeats 2000000
namespace DL
open PySem PySem.Spec PyProof.Rows L2 RT

/-! ### a total's and a card's signs -/
def digS (n : Nat) : Str := (toString (n : Int) : String)
def plugSigns (last : Card) (N : Nat → Nat) (level : Nat) : Plug → List (Nat × Str)
  | .head c p l => if l ≤ level then [(p, signOf (colAt last (c : Int)))] else []
  | .print k w p => [(p, digS (N k / 10 ^ w % 10))]
  | .level p => [(p, digS level)]
  | _ => []
def totLine (ps : List Plug) (last : Card) (N : Nat → Nat) (level : Nat) : Str := lineOf (ps.flatMap (plugSigns last N level))
def holeSigns (c : Card) : Plug → List (Nat × Str)
  | .hole col p => [(p, signOf (colAt c (col : Int)))]
  | _ => []
def detLine (ps : List Plug) (c : Card) : Str := lineOf (ps.flatMap (holeSigns c))
theorem sign_short : ∀ c ∈ every, (signOf c).length ≤ 100 := by decide +kernel
theorem dig_short (n : Nat) (h : n < 10) : (digS n).length ≤ 100 ∧ (n : Int).natAbs.log2 < 1920 := by
  match n, h with
  | 0, _ => exact ⟨by decide +kernel, by decide +kernel⟩
  | 1, _ => exact ⟨by decide +kernel, by decide +kernel⟩
  | 2, _ => exact ⟨by decide +kernel, by decide +kernel⟩
  | 3, _ => exact ⟨by decide +kernel, by decide +kernel⟩
  | 4, _ => exact ⟨by decide +kernel, by decide +kernel⟩
  | 5, _ => exact ⟨by decide +kernel, by decide +kernel⟩
  | 6, _ => exact ⟨by decide +kernel, by decide +kernel⟩
  | 7, _ => exact ⟨by decide +kernel, by decide +kernel⟩
  | 8, _ => exact ⟨by decide +kernel, by decide +kernel⟩
  | 9, _ => exact ⟨by decide +kernel, by decide +kernel⟩
  | n + 10, h => omega
theorem plugSigns_ok {last : Card} {N : Nat → Nat} {level L : Nat} (hc : CardOk last) (hl : level ≤ 3) {p : Plug} (po : PlugOk L p) : ∀ x ∈ plugSigns last N level p, SignOk x := by
  intro x hx
  cases p with
  | head c p l =>
    obtain ⟨h1, h2, h3, h4⟩ := po
    have hx' : x ∈ (if l ≤ level then [(p, signOf (colAt last (c : Int)))] else []) := hx
    split at hx'
    · rw [List.mem_singleton.mp hx']
      exact ⟨h2, sign_short _ (hc.col _)⟩
    · cases hx'
  | print k w p =>
    obtain ⟨h1, h2, h3⟩ := po
    have hx' : x ∈ [(p, digS (N k / 10 ^ w % 10))] := hx
    rw [List.mem_singleton.mp hx']
    exact ⟨h3, (dig_short _ (Nat.mod_lt _ (by decide))).1⟩
  | level p =>
    have hx' : x ∈ [(p, digS level)] := hx
    rw [List.mem_singleton.mp hx']
    exact ⟨po, (dig_short _ (by omega)).1⟩
  | _ => cases hx
theorem holeSigns_ok {c : Card} {L : Nat} (hc : CardOk c) {p : Plug} (po : PlugOk L p) : ∀ x ∈ holeSigns c p, SignOk x := by
  intro x hx
  cases p with
  | hole col p =>
    have hx' : x ∈ [(p, signOf (colAt c (col : Int)))] := hx
    rw [List.mem_singleton.mp hx']
    exact ⟨po.2, sign_short _ (hc.col _)⟩
  | _ => cases hx
def F_L_total_row : DF := fun xs Φ => ∃ (cs : List Card) (last : Card) (w : Wiring) (level : Nat), xs = [deckD (cs ++ [last]), wiringD w, nD level] ∧ WiringOk w ∧ cs.length < 1000 ∧ (∀ c ∈ cs ++ [last], CardOk c) ∧ level ≤ w.watched.length ∧ Φ (.val (.str (totLine w.plugs last (counted (cs ++ [last]) w.plugs) level)))
def b_ltot_step : DS := (dSeq (dIfS (dAnd (dTest (dOp eqD (dOp ixD (dVar 4) (dC (.int 0))) (dC (.str "head")))) (dTest (dOp geD (dVar 2) (dOp ixD (dVar 4) (dC (.int 3)))))) (dDrop (dApp 3 (dTup (dCons (dOp ixD (dVar 4) (dC (.int 2))) (dCons (dV (dCall F_L_sign (dCons (dV (dCall F_L_column (dCons (dOp ixD (dVar 0) (dUn negD (dC (.int 1)))) (dCons (dOp ixD (dVar 4) (dC (.int 1))) dNil)))) dNil))) dNil))))) dNext)
  (dSeq (dIfS (dTest (dOp eqD (dOp ixD (dVar 4) (dC (.int 0))) (dC (.str "print")))) (dDrop (dApp 3 (dTup (dCons (dOp ixD (dVar 4) (dC (.int 3))) (dCons (dV (dCB strD (dCons (dOp modD (dOp fdvD (dV (dCall F_L_counted (dCons (dVar 0) (dCons (dOp ixD (dVar 1) (dC (.int 1))) (dCons (dOp ixD (dVar 4) (dC (.int 1))) dNil))))) (dV (dCall F_L_ten (dCons (dOp ixD (dVar 4) (dC (.int 2))) dNil)))) (dC (.int 10))) dNil))) dNil))))) dNext)
  (dIfS (dTest (dOp eqD (dOp ixD (dVar 4) (dC (.int 0))) (dC (.str "level")))) (dDrop (dApp 3 (dTup (dCons (dOp ixD (dVar 4) (dC (.int 1))) (dCons (dV (dCB strD (dCons (dVar 2) dNil))) dNil))))) dNext)))
/- slots of _law_total_row: 0 _law_cards, 1 _law_wiring_here, 2 _law_level, 3 _law_signs, 4 _law_plug_here -/
def b_L_total_row : DS := (dSeq (dSet 3 (dLst dNil))
  (dSeq (dFor (diAny (dOp ixD (dVar 1) (dC (.int 1)))) (dgName 4) b_ltot_step)
  (dRet (dCall F_L_line (dCons (dVar 3) dNil)))))
theorem last_at (cs : List Card) (last : Card) {ρ : List Sl} {i : Nat} (h : ρ[i]? = some (.val (deckD (cs ++ [last])))) : Ev (dOp ixD (dVar i) (dUn negD (dC (.int 1)))) ρ (cardD last) := fun Ψ q => ev_var h _ (by
  show ixL ((cs ++ [last]).map cardD) (.int (-1)) _
  rw [List.map_append]
  exact ixL_last q)
theorem evt_geI {a b : DE} {ρ : List Sl} {m n : Int} (h : Ev a ρ (.int m)) (g : Ev b ρ (.int n)) : EvT (dTest (dOp geD a b)) ρ (decide (n ≤ m)) := evt_of (ev_op h g fun Ψ q => q)
section
variable {a b c : DE} {ρ : List Sl} {x y z u : D}
theorem ev_tup2 (h : Ev a ρ x) (g : Ev b ρ y) : Ev (dTup (dCons a (dCons b dNil))) ρ (.tup [x, y]) := fun Ψ q => h _ (g _ ⟨by simp, q⟩)
theorem ev_call1 {f : DF} (h : Ev a ρ x) (k : ∀ Ψ : Sl → Prop, Ψ (.val u) → f [x] Ψ) : Ev (dV (dCall f (dCons a dNil))) ρ u := fun Ψ q => h _ (k _ q)
theorem ev_call2 {f : DF} (h : Ev a ρ x) (g : Ev b ρ y) (k : ∀ Ψ : Sl → Prop, Ψ (.val u) → f [x, y] Ψ) : Ev (dV (dCall f (dCons a (dCons b dNil)))) ρ u := fun Ψ q => h _ (g _ (k _ q))
theorem ev_call3 {f : DF} (h : Ev a ρ x) (g : Ev b ρ y) (l : Ev c ρ z) (k : ∀ Ψ : Sl → Prop, Ψ (.val u) → f [x, y, z] Ψ) : Ev (dV (dCall f (dCons a (dCons b (dCons c dNil))))) ρ u := fun Ψ q => h _ (g _ (l _ (k _ q)))
theorem ev_str {n : Int} (h : Ev a ρ (.int n)) (hn : n.natAbs.log2 < 1920) : Ev (dV (dCB strD (dCons a dNil))) ρ (.str (toString n : String)) := fun Ψ q => h _ ⟨hn, q⟩
end
theorem app_own {i : Nat} {e : DE} {Δ : Ds} {ρ : List Sl} {ds : List D} {x : D} (h : ρ[i]? = some (.own ds)) (g : Ev e ρ x) (hl : ds.length ≤ 1000000) (q : Δ.nx (ρ.set i (.own (ds ++ [x])))) : dDrop (dApp i e) Δ ρ := by
  show dApp i e ρ _
  unfold dApp
  rw [h]
  refine g _ ?_
  rw [h]
  exact ⟨hl, q⟩
theorem ltot_step {Δ : Ds} {cs : List Card} {last : Card} {w : Wiring} {level : Nat} {signs : List (Nat × Str)} {p : Plug} (ok : WiringOk w) (lc : cs.length < 1000) (hc : ∀ c ∈ cs ++ [last], CardOk c) (hl : level ≤ w.watched.length) (po : PlugOk w.watched.length p) (hs : signs.length ≤ 1000)
    (q : Δ.nx [.val (deckD (cs ++ [last])), .val (wiringD w), .val (nD level), .own ((signs ++ plugSigns last (counted (cs ++ [last]) w.plugs) level p).map signD), .val (plugD p)]) :
    b_ltot_step Δ [.val (deckD (cs ++ [last])), .val (wiringD w), .val (nD level), .own (signs.map signD), .val (plugD p)] := by
  have i4 : ∀ s3 : Sl, ([.val (deckD (cs ++ [last])), .val (wiringD w), .val (nD level), s3, .val (plugD p)] : List Sl)[4]? = some (.val (plugD p)) := fun _ => rfl
  have hlast : CardOk last := hc last (by simp)
  have l3 := ok.l3
  have hz : (signs.map signD).length ≤ 1000000 := by rw [List.length_map]; omega
  rw [List.map_append] at q
  cases p with
  | head c p l =>
    obtain ⟨h1, h2, h3, h4⟩ := po
    refine if_b (evt_andT (evt_eqS (v := true) (ev_word (i4 _) rfl)) (evt_geI (ev_var (i := 2) (x := nD level) rfl) (ev_num 3 (i4 _) (ys := [.str "head", nD c, nD p, nD l]) rfl rfl))) (fun e => ?_) (fun e => ?_)
    · have e' : l ≤ level := by have := of_decide_eq_true e; omega
      have hn : plugSigns last (counted (cs ++ [last]) w.plugs) level (.head c p l) = [(p, signOf (colAt last (c : Int)))] := if_pos e'
      rw [hn] at q
      refine app_own (i := 3) (x := signD (p, signOf (colAt last (c : Int)))) rfl ?_ hz ?_
      · refine ev_tup2 (ev_num 2 (i4 _) (p := .head c p l) (ys := [.str "head", nD c, nD p, nD l]) rfl rfl) (ev_call1 (ev_call2 (u := colD (colAt last (c : Int))) (last_at cs last (i := 0) rfl) (ev_num 1 (i4 _) (p := .head c p l) (ys := [.str "head", nD c, nD p, nD l]) rfl rfl) ?_) ?_)
        · exact fun Ψ k => ⟨last, c, rfl, by have := hlast.1; omega, by omega, by omega, k⟩
        · exact fun Ψ k => ⟨colAt last c, rfl, hlast.col _, k⟩
      · exact if_f (evt_eqS (ev_word (i4 _) rfl)) (if_f (evt_eqS (ev_word (i4 _) rfl)) q)
    · have e' : ¬ l ≤ level := by have := of_decide_eq_false e; omega
      have hn : plugSigns last (counted (cs ++ [last]) w.plugs) level (.head c p l) = [] := if_neg e'
      rw [hn, List.map_nil, List.append_nil] at q
      exact if_f (evt_eqS (ev_word (i4 _) rfl)) (if_f (evt_eqS (ev_word (i4 _) rfl)) q)
  | print k wh p =>
    obtain ⟨h1, h2, h3⟩ := po
    refine if_f (evt_andF (evt_eqS (ev_word (i4 _) rfl))) (if_t (evt_eqS (ev_word (i4 _) rfl)) ?_)
    refine app_own (i := 3) (x := signD (p, digS (counted (cs ++ [last]) w.plugs k / 10 ^ wh % 10))) rfl ?_ hz ?_
    · have hp : (10 ^ wh : Nat) ≤ 10 ^ 7 := Nat.pow_le_pow_right (by decide) (by omega)
      have hp0 : 0 < (10 ^ wh : Nat) := Nat.pow_pos (by decide)
      have e : ((counted (cs ++ [last]) w.plugs k : Nat) : Int) / ((10 ^ wh : Nat) : Int) % 10 = ((counted (cs ++ [last]) w.plugs k / 10 ^ wh % 10 : Nat) : Int) := by push_cast; rfl
      have d := (dig_short (counted (cs ++ [last]) w.plugs k / 10 ^ wh % 10) (Nat.mod_lt _ (by decide))).2
      have n1 := ev_num (x := nD k) 1 (i4 (.own (signs.map signD))) (p := .print k wh p) (ys := [.str "print", nD k, nD wh, nD p]) rfl rfl
      have n2 := ev_num (x := nD wh) 2 (i4 (.own (signs.map signD))) (p := .print k wh p) (ys := [.str "print", nD k, nD wh, nD p]) rfl rfl
      refine ev_tup2 (ev_num 3 (i4 _) (p := .print k wh p) (ys := [.str "print", nD k, nD wh, nD p]) rfl rfl) ?_
      refine ev_str (n := ((counted (cs ++ [last]) w.plugs k / 10 ^ wh % 10 : Nat) : Int)) ?_ d
      refine ev_op (ev_op (x := nD (counted (cs ++ [last]) w.plugs k)) (y := nD (10 ^ wh)) (z := .int (((counted (cs ++ [last]) w.plugs k : Nat) : Int) / ((10 ^ wh : Nat) : Int))) (ev_call3 (ev_var (i := 0) rfl) (ev_ix (j := 1) (ev_var (i := 1) (x := wiringD w) rfl) ev_c rfl) n1 ?_) (ev_call1 n2 ?_) ?_) ev_c ?_
      · exact fun Ψ kk => ⟨cs ++ [last], w.plugs, w.watched.length, k, rfl, by rw [List.length_append, List.length_singleton]; omega, hc, by have := ok.l24; omega, ok.plugs, kk⟩
      · exact fun Ψ kk => ⟨wh, rfl, h2, kk⟩
      · exact fun Ψ kk => ⟨⟨by omega, by omega⟩, kk⟩
      · intro Ψ kk
        refine ⟨(by decide : (0 : Int) < 10), ?_⟩
        rw [← e] at kk
        exact kk
    · exact if_f (evt_eqS (ev_word (i4 _) rfl)) q
  | level p =>
    refine if_f (evt_andF (evt_eqS (ev_word (i4 _) rfl))) (if_f (evt_eqS (ev_word (i4 _) rfl)) (if_t (evt_eqS (ev_word (i4 _) rfl)) ?_))
    refine app_own (i := 3) (x := signD (p, digS level)) rfl ?_ hz q
    exact ev_tup2 (ev_num 1 (i4 _) (p := .level p) (ys := [.str "level", nD p]) rfl rfl) (ev_str (ev_var (i := 2) (x := nD level) rfl) (dig_short level (by omega)).2)
  | hole | add | count =>
    rw [show plugSigns last (counted (cs ++ [last]) w.plugs) level _ = [] from rfl, List.map_nil, List.append_nil] at q
    exact if_f (evt_andF (evt_eqS (ev_word (i4 _) rfl))) (if_f (evt_eqS (ev_word (i4 _) rfl)) (if_f (evt_eqS (ev_word (i4 _) rfl)) q))
theorem signs_len {last : Card} {N : Nat → Nat} {level : Nat} : ∀ ps : List Plug, (ps.flatMap (plugSigns last N level)).length ≤ ps.length
  | [] => by simp
  | p :: r => by
    have := signs_len (last := last) (N := N) (level := level) r
    have h1 : (plugSigns last N level p).length ≤ 1 := by
      cases p with
      | head c p l =>
        show (if l ≤ level then [(p, signOf (colAt last (c : Int)))] else []).length ≤ 1
        split <;> simp
      | _ => simp [plugSigns]
    rw [List.flatMap_cons, List.length_append, List.length_cons]
    omega
theorem signs_ok {last : Card} {N : Nat → Nat} {level L : Nat} (hc : CardOk last) (hl : level ≤ 3) {ps : List Plug} (po : ∀ p ∈ ps, PlugOk L p) : ∀ x ∈ ps.flatMap (plugSigns last N level), SignOk x := fun x hx => by
  obtain ⟨p, hp, hx⟩ := List.mem_flatMap.mp hx
  exact plugSigns_ok hc hl (po p hp) x hx
theorem rd_L_total_row : ∀ xs Φ, F_L_total_row xs Φ → b_L_total_row (rtV Φ) (slots xs 5) := by
  rintro xs Φ ⟨cs, last, w, level, rfl, ok, lc, hc, hl, k⟩
  refine ⟨by decide, trivial, ?_⟩
  refine for_inv' (w.plugs.map plugD) (fun Ψ h => h) (fun rest ρ => ∃ (a b : List Plug) (s4 : Sl), w.plugs = a ++ b ∧ rest = b.map plugD ∧ dat s4 ∧ ρ = [.val (deckD (cs ++ [last])), .val (wiringD w), .val (nD level), .own ((a.flatMap (plugSigns last (counted (cs ++ [last]) w.plugs) level)).map signD), s4]) ⟨[], w.plugs, .un, rfl, rfl, .un, rfl⟩ ?_ ?_
  · rintro d rest ρ ⟨a, b, s4, ea, eb, f4, rfl⟩ K hK
    cases b with
    | nil => cases eb
    | cons p b =>
      cases eb
      have pm : p ∈ w.plugs := by rw [ea]; simp
      refine ⟨f4.free rfl, ?_⟩
      refine ltot_step ok lc hc hl (ok.plugs p pm) ?_ ?_
      · have h1 := signs_len (last := last) (N := counted (cs ++ [last]) w.plugs) (level := level) a
        have h2 := ok.l24
        rw [ea, List.length_append] at h2
        omega
      · refine hK _ ⟨a ++ [p], b, .val (plugD p), by rw [ea]; simp, rfl, .val _, ?_⟩
        simp [List.flatMap_append]
  · rintro ρ ⟨a, b, s4, ea, eb, f4, rfl⟩
    have : b = [] := by simpa using eb.symm
    subst this
    rw [List.append_nil] at ea
    rw [← ea]
    exact ⟨w.plugs.flatMap (plugSigns last (counted (cs ++ [last]) w.plugs) level), rfl, signs_ok (hc last (by simp)) (by have := ok.l3; omega) ok.plugs, k⟩
end DL
set_option Elab.async false
set_option linter.all false
set_option maxRecDepth 100000
set_option maxHeartbeats 2000000
namespace DL
open PySem PySem.Spec PyProof.Rows L2 RT

/-! ### places with the way to them -/
structure Pl (d : DP) (ρ : List Sl) (i : Nat) (π : List Stp) (t s : OT) : Prop where
  ev : EvP d ρ i π s
  tr : treeOf (ρ[i]?) = some t
  get : t.get π = some s
section
variable {d : DP} {e : DE} {ρ : List Sl} {i j : Nat} {π : List Stp} {t s u : OT} {x y : D} {Δ : Ds}
theorem pl_var (h : treeOf (ρ[i]?) = some t) : Pl (dpVar i) ρ i [] t t := ⟨evp_var h, h, rfl⟩
theorem pl_fd {C p' dx : Addr} {fs : List (Str × OT)} {f : Str} (h : Pl d ρ i π t (.ins p' dx C fs)) (e : fs.lookup f = some u) : Pl (dpFd C d f) ρ i (π ++ [.fd f]) t u :=
  ⟨evp_fd h.ev e, h.tr, by
    rw [get_app h.get]
    show (match fs.lookup f with | some t => t.get [] | none => none) = _
    rw [e]
    rfl⟩
theorem pl_ix {p' : Addr} {xs : List OT} (h : Pl d ρ i π t (.lst p' xs)) (g : Ev e ρ (.int (j : Int))) (k : xs[j]? = some u) : Pl (dpIx d e) ρ i (π ++ [.ix j]) t u :=
  ⟨evp_ix h.ev g h.tr h.get k, h.tr, by
    rw [get_app h.get]
    show (match xs[j]? with | some t => t.get [] | none => none) = _
    rw [k]
    rfl⟩
theorem pl_ixT {p' : Addr} {xs : List OT} (h : Pl d ρ i π t (.tup p' xs)) (g : Ev e ρ (.int (j : Int))) (k : xs[j]? = some u) : Pl (dpIx d e) ρ i (π ++ [.ix j]) t u :=
  ⟨evp_ixT h.ev g h.tr h.get k, h.tr, by
    rw [get_app h.get]
    show (match xs[j]? with | some t => t.get [] | none => none) = _
    rw [k]
    rfl⟩
theorem Pl.leaf (h : Pl d ρ i π t (.val x)) : Ev (dLeaf d) ρ x := ev_leaf h.ev
theorem Pl.len {p' : Addr} {xs : List OT} (h : Pl d ρ i π t (.lst p' xs)) : Ev (dV (dR (dPLen d))) ρ (.int xs.length) := fun Ψ k => h.ev _ k
theorem pl_set {p' : Addr} {xs : List OT} {v k : DE} (h : Pl d ρ i π t (.lst p' xs)) (hv : Ev v ρ y) (hk : Ev k ρ (.int (j : Int))) (hj : j < xs.length) (q : Δ.nx (ρ.set i (withTree (t.put π (.lst p' (xs.set j (.val y)))) (ρ[i]?)))) : dPSet d k v Δ ρ := by
  refine hv _ (h.ev _ (hk _ ?_))
  rw [h.tr]
  dsimp only
  rw [h.get]
  refine ⟨rfl, rfl, Int.natCast_nonneg _, by omega, ?_⟩
  rw [Int.toNat_natCast]
  exact q
/-- place[k] = a new thing -/
theorem pl_setT {p' : Addr} {xs : List OT} {v : DR} {k : DE} {ρ0 : List Sl} (hv : ∀ Ψ : OT → List Sl → Prop, Ψ u ρ → v ρ0 (asT Ψ)) (h : Pl d ρ i π t (.lst p' xs)) (hk : Ev k ρ (.int (j : Int))) (hj : j < xs.length) (q : Δ.nx (ρ.set i (withTree (t.put π (.lst p' (xs.set j u))) (ρ[i]?)))) : dPSetT d k v Δ ρ0 := by
  refine hv _ (h.ev _ (hk _ ?_))
  rw [h.tr]
  dsimp only
  rw [h.get]
  refine ⟨rfl, rfl, Int.natCast_nonneg _, by omega, ?_⟩
  rw [Int.toNat_natCast]
  exact q
/-- place.f = e -/
theorem pl_fset {C p' dx : Addr} {fs : List (Str × OT)} {f : Str} {v : DR} {ρ0 : List Sl} (hv : ∀ Ψ : OT → List Sl → Prop, Ψ u ρ → v ρ0 (asT Ψ)) (h : Pl d ρ i π t (.ins p' dx C fs)) (hl : fs.length < 1000) (q : Δ.nx (ρ.set i (withTree (t.put π (.ins p' dx C (putFs f u fs))) (ρ[i]?)))) : dFSet C d f v Δ ρ0 := by
  refine hv _ (h.ev _ ?_)
  rw [h.tr]
  exact ⟨rfl, hl, q⟩
theorem asT_ev {v : DE} (h : Ev v ρ x) : ∀ Ψ : OT → List Sl → Prop, Ψ (.val x) ρ → dR v ρ (asT Ψ) := fun Ψ q => h _ q
theorem callM_open {C : Addr} {m : Str} {f : DFO} {da : DA} {xs : List D} {Φ : Sl → List Sl → Prop} {p' dx : Addr} {fs : List (Str × OT)} (h : Pl d ρ i π t (.ins p' dx C fs)) (hm : fs.lookup m = none) (ha : ∀ Ψ : List D → List Sl → Prop, Ψ xs ρ → da ρ Ψ)
    (k : f (.ins p' dx C fs) xs fun r S' => Φ r (ρ.set i (withTree (t.put π S') (ρ[i]?)))) : dCallM C m f d da ρ Φ := by
  refine h.ev _ ⟨⟨rfl, hm⟩, ha _ ?_⟩
  rw [h.tr]
  dsimp only
  rw [h.get]
  exact ⟨rfl, rfl, k⟩
end

/-! ### counters -/
def valW : List Nat → Nat
  | [] => 0
  | d :: r => d + 10 * valW r
def digitsOf (n : Nat) : List Nat := (List.range 8).map fun i => n / 10 ^ i % 10
theorem valW_at : ∀ {ws : List Nat}, (∀ d ∈ ws, d < 10) → ∀ i, (h : i < ws.length) → valW ws / 10 ^ i % 10 = ws[i]
  | d :: r, hd, 0, _ => by
    have := hd d List.mem_cons_self
    show (d + 10 * valW r) / 10 ^ 0 % 10 = d
    rw [Nat.pow_zero, Nat.div_one]
    omega
  | d :: r, hd, i + 1, h => by
    have h0 := hd d List.mem_cons_self
    have hr : i < r.length := by simpa using h
    have ih := valW_at (ws := r) (fun x hx => hd x (List.mem_cons_of_mem _ hx)) i hr
    show (d + 10 * valW r) / 10 ^ (i + 1) % 10 = r[i]
    rw [Nat.pow_succ, Nat.mul_comm (10 ^ i) 10, ← Nat.div_div_eq_div_mul]
    have : (d + 10 * valW r) / 10 = valW r := by omega
    rw [this]
    exact ih
theorem valW_set : ∀ {ws : List Nat} {k x : Nat} (h : k < ws.length), valW (ws.set k x) + ws[k] * 10 ^ k = valW ws + x * 10 ^ k
  | d :: r, 0, x, _ => by
    show x + 10 * valW r + d * 10 ^ 0 = d + 10 * valW r + x * 10 ^ 0
    simp
    omega
  | d :: r, k + 1, x, h => by
    have hr : k < r.length := by simpa using h
    have ih := valW_set (ws := r) (k := k) (x := x) hr
    show d + 10 * valW (r.set k x) + r[k] * 10 ^ (k + 1) = d + 10 * valW r + x * 10 ^ (k + 1)
    have e1 : r[k] * 10 ^ (k + 1) = 10 * (r[k] * 10 ^ k) := by rw [Nat.pow_succ, ← Nat.mul_assoc, Nat.mul_comm _ 10]
    have e2 : x * 10 ^ (k + 1) = 10 * (x * 10 ^ k) := by rw [Nat.pow_succ, ← Nat.mul_assoc, Nat.mul_comm _ 10]
    rw [e1, e2]
    omega
theorem valW_lt : ∀ {ws : List Nat}, (∀ d ∈ ws, d < 10) → valW ws < 10 ^ ws.length
  | [], _ => by simp [valW]
  | d :: r, h => by
    have h0 := h d List.mem_cons_self
    have ih := valW_lt (ws := r) fun x hx => h x (List.mem_cons_of_mem _ hx)
    show d + 10 * valW r < 10 ^ (r.length + 1)
    rw [Nat.pow_succ]
    omega
theorem digitsOf_mod (n : Nat) : digitsOf (n % 10 ^ 8) = digitsOf n := by
  unfold digitsOf
  refine List.map_congr_left fun i hi => ?_
  have h8 : i < 8 := List.mem_range.mp hi
  have e : (10 : Nat) ^ 8 = 10 ^ i * 10 ^ (8 - i) := by rw [← Nat.pow_add]; congr 1; omega
  rw [e, Nat.mod_mul_right_div_self]
  have d10 : 10 ∣ 10 ^ (8 - i) := by
    have : 8 - i = (8 - i - 1) + 1 := by omega
    rw [this, Nat.pow_succ]
    exact Nat.dvd_mul_left _ _
  exact Nat.mod_mod_of_dvd _ d10
theorem digits_val {ws : List Nat} (h : ∀ d ∈ ws, d < 10) (hl : ws.length = 8) : digitsOf (valW ws) = ws := by
  refine List.ext_getElem (by simp [digitsOf, hl]) fun i h1 h2 => ?_
  simp only [digitsOf, List.getElem_map, List.getElem_range]
  exact valW_at h i h2
theorem digits_len (n : Nat) : (digitsOf n).length = 8 := by simp [digitsOf]
theorem digits_lt (n : Nat) : ∀ d ∈ digitsOf n, d < 10 := fun d hd => by
  obtain ⟨i, _, e⟩ := List.mem_map.mp hd
  rw [← e]
  exact Nat.mod_lt _ (by decide)
theorem val_digits (n : Nat) : valW (digitsOf n) = n % 10 ^ 8 := by
  have h1 := digits_val (digits_lt n) (digits_len n)
  have h2 := valW_lt (digits_lt n)
  rw [digits_len] at h2
  have h3 : n % 10 ^ 8 < 10 ^ 8 := Nat.mod_lt _ (by decide)
  -- both have the same digits
  have key : ∀ k a b : Nat, a < 10 ^ k → b < 10 ^ k → (∀ i, i < k → a / 10 ^ i % 10 = b / 10 ^ i % 10) → a = b := by
    intro k
    induction k with
    | zero => intro a b ha hb _; simp at ha hb; omega
    | succ k ih =>
      intro a b ha hb h
      have h0 := h 0 (by omega)
      simp at h0
      have := ih (a / 10) (b / 10) (by rw [Nat.pow_succ] at ha; omega) (by rw [Nat.pow_succ] at hb; omega) fun i hi => by
        have := h (i + 1) (by omega)
        rw [Nat.pow_succ, Nat.mul_comm (10 ^ i) 10, ← Nat.div_div_eq_div_mul, ← Nat.div_div_eq_div_mul] at this
        exact this
      omega
  refine key 8 _ _ h2 h3 fun i hi => ?_
  have e1 : (digitsOf (valW (digitsOf n)))[i]? = (digitsOf (n % 10 ^ 8))[i]? := by rw [h1, digitsOf_mod]
  simp only [digitsOf, List.getElem?_map, List.getElem?_range hi, Option.map_some] at e1
  exact Option.some.inj e1
/-- one step of the carry -/
theorem carry_step {ws : List Nat} {f k : Nat} (h : k < ws.length) : valW (ws.set k ((ws[k] + f) % 10)) + (ws[k] + f) / 10 * 10 ^ (k + 1) = valW ws + f * 10 ^ k := by
  have h1 := valW_set (ws := ws) (x := (ws[k] + f) % 10) h
  have e : (ws[k] + f) / 10 * 10 ^ (k + 1) + (ws[k] + f) % 10 * 10 ^ k = ws[k] * 10 ^ k + f * 10 ^ k := by
    rw [Nat.pow_succ, Nat.mul_comm (10 ^ k) 10, ← Nat.mul_assoc, ← Nat.add_mul, ← Nat.add_mul]
    congr 1
    omega
  omega
end DL
set_option Elab.async false
set_option linter.all false
set_option maxRecDepth 100000
set_option maxHeartbeats 2000000
namespace DL
open PySem PySem.Spec PyProof.Rows L2 RT

/-! ### the counter's defs -/
def wheelsT (ws : List Nat) : List OT := ws.map fun d => .val (nD d)
def ctrW (c : CA) (p dx q : Addr) (ws : List Nat) : OT := .ins p dx c.Counter [("wheels", .lst q (wheelsT ws))]
def ctrT (c : CA) (p dx q : Addr) (n : Nat) : OT := ctrW c p dx q (digitsOf n)
theorem look_one (f : Str) (t : OT) : ([(f, t)] : List (Str × OT)).lookup f = some t := by simp [List.lookup]
theorem putFs_one (f : Str) (t u : OT) : putFs f u [(f, t)] = [(f, u)] := by simp [putFs]
theorem put_fd {p dx C : Addr} {fs : List (Str × OT)} {f : Str} {t u : OT} (h : fs.lookup f = some t) : (OT.ins p dx C fs).put [.fd f] u = .ins p dx C (putFs f u fs) := by
  show (match fs.lookup f with
    | some t => OT.ins p dx C (putFs f (t.put [] u) fs)
    | none => OT.ins p dx C fs) = _
  rw [h]
  rfl
theorem ctr_put (c : CA) (p dx q : Addr) (ws ws' : List Nat) : (ctrW c p dx q ws).put [.fd "wheels"] (.lst q (wheelsT ws')) = ctrW c p dx q ws' := by
  unfold ctrW
  rw [put_fd (look_one _ _), putFs_one]
/-- place.f = a new list -/
theorem pl_fsetL {d : DP} {ρ : List Sl} {i : Nat} {π : List Stp} {t : OT} {Δ : Ds} {us : List OT} {C p' dx : Addr} {fs : List (Str × OT)} {f : Str} {v : DR} {ρ0 : List Sl} (hv : ∀ Ψ : OT → List Sl → Prop, (∀ q, Ψ (.lst q us) ρ) → v ρ0 (asT Ψ)) (h : Pl d ρ i π t (.ins p' dx C fs)) (hl : fs.length < 1000) (q : ∀ q, Δ.nx (ρ.set i (withTree (t.put π (.ins p' dx C (putFs f (.lst q us) fs))) (ρ[i]?)))) : dFSet C d f v Δ ρ0 := by
  refine hv _ fun a => h.ev _ ?_
  rw [h.tr]
  exact ⟨rfl, hl, q a⟩
def F_Counter_init (c : CA) : DFO := fun S xs Φ => ∃ p dx : Addr, xs = [] ∧ S = .ins p dx c.Counter [] ∧ ∀ q, Φ (.val .non) (ctrT c p dx q 0)
/- slots of Counter.__init__: 0 self, 1 wheel -/
def b_Counter_init (c : CA) : DS := (dFSet c.Counter (dpVar 0) "wheels" (dLc (diRng1 (dC (.int 8))) (dgName 1) dYes (dC (.int 0)) [1]))
theorem rd_Counter_init (c : CA) : ∀ S xs Φ, F_Counter_init c S xs Φ → b_Counter_init c (rtO S Φ) (.arg S :: slots xs 1) := by
  rintro S xs Φ ⟨p, dx, rfl, rfl, k⟩
  refine pl_fsetL (ρ := [.arg (.ins p dx c.Counter []), .un]) (i := 0) (π := []) (t := .ins p dx c.Counter []) (p' := p) (dx := dx) (fs := []) (us := wheelsT (digitsOf 0)) (fun Ψ q => ?_) (pl_var rfl) (by decide) fun q => ⟨rfl, k q⟩
  refine lc_map (List.range 8) nD (fun _ => nD 0) (fun Ψ h => ⟨by unfold inR; decide, h⟩) (by decide) (.inl rfl) (fun d _ Ψ h => h) ?_
  exact q
def F_Counter_add (c : CA) : DFO := fun S xs Φ => ∃ (p dx q : Addr) (n f w : Nat), xs = [nD f, nD w] ∧ S = ctrT c p dx q n ∧ Φ (.val .non) (ctrT c p dx q (n + f * 10 ^ w))
/- slots of Counter.add: 0 self, 1 figure, 2 wheel, 3 whole -/
def b_Counter_add (c : CA) : DS := (dWhile (dAnd (dTest (dOp gtD (dVar 1) (dC (.int 0)))) (dTest (dOp ltD (dVar 2) (dC (.int 8))))) (dSeq (dSet 3 (dR (dV (dOpR addD (dLeaf (dpIx (dpFd c.Counter (dpVar 0) "wheels") (dVar 2))) (dVar 1)))))
  (dSeq (dPSet (dpFd c.Counter (dpVar 0) "wheels") (dVar 2) (dOp modD (dVar 3) (dC (.int 10))))
  (dSeq (dSet 1 (dR (dOp fdvD (dVar 3) (dC (.int 10)))))
  (dSet 2 (dR (dV (dOpR addD (dVar 2) (dC (.int 1))))))))))
theorem rd_Counter_add (c : CA) : ∀ S xs Φ, F_Counter_add c S xs Φ → b_Counter_add c (rtO S Φ) (.arg S :: slots xs 3) := by
  rintro S xs Φ ⟨p, dx, q, n, f0, w0, rfl, rfl, k⟩
  refine while_open (fun m ρ => ∃ (ws : List Nat) (f w : Nat) (s3 : Sl), m = 8 - w ∧ ws.length = 8 ∧ (∀ d ∈ ws, d < 10) ∧ (valW ws + f * 10 ^ w) % 10 ^ 8 = (n + f0 * 10 ^ w0) % 10 ^ 8 ∧ dat s3 ∧ ρ = [.arg (ctrW c p dx q ws), .val (nD f), .val (nD w), s3]) (8 - w0)
    ⟨digitsOf n, f0, w0, .un, rfl, digits_len n, digits_lt n, by rw [val_digits]; simp [Nat.add_mod], .un, rfl⟩ ?_
  rintro m ρ ⟨ws, f, w, s3, rfl, hl, hd, hv, f3, rfl⟩ K hK
  refine evt_and (v := decide ((0 : Int) < (f : Int))) (w := decide (0 < f ∧ w < 8)) (evt_of (ev_op (ev_var (i := 1) (x := nD f) rfl) ev_c fun Ψ q => q)) (fun e => ?_) (fun e => ?_) _ ?_
  · have e' : 0 < f := by have := of_decide_eq_true e; omega
    have : decide (0 < f ∧ w < 8) = decide ((w : Int) < 8) := decide_eq_decide.mpr ⟨fun h => by omega, fun h => ⟨e', by omega⟩⟩
    rw [this]
    exact evt_of (ev_op (ev_var (i := 2) (x := nD w) rfl) ev_c fun Ψ q => q)
  · have e' : ¬ 0 < f := by have := of_decide_eq_false e; omega
    exact decide_eq_false fun h => e' h.1
  by_cases hc : 0 < f ∧ w < 8
  · rw [decide_eq_true hc, if_pos rfl]
    have hw : w < ws.length := by omega
    have wd : ws[w] < 10 := hd _ (List.getElem_mem hw)
    have at_ : ∀ s3 : Sl, Pl (dpIx (dpFd c.Counter (dpVar 0) "wheels") (dVar 2)) [.arg (ctrW c p dx q ws), .val (nD f), .val (nD w), s3] 0 ([.fd "wheels"] ++ [.ix w]) (ctrW c p dx q ws) (.val (nD ws[w])) := fun s3 =>
      pl_ix (xs := wheelsT ws) (p' := q) (pl_fd (pl_var rfl) (look_one _ _)) (ev_var (i := 2) (x := nD w) rfl) (by unfold wheelsT; rw [List.getElem?_map, List.getElem?_eq_getElem hw]; rfl)
    refine set_e (x := nD (ws[w] + f)) (ev_add ((at_ s3).leaf) (ev_var (i := 1) (x := nD f) rfl) (by push_cast; rfl)) (f3.free rfl) ?_
    have em : ((ws[w] + f : Nat) : Int) % 10 = (((ws[w] + f) % 10 : Nat) : Int) := by push_cast; rfl
    have ed : ((ws[w] + f : Nat) : Int) / 10 = (((ws[w] + f) / 10 : Nat) : Int) := by push_cast; rfl
    have pw : Pl (dpFd c.Counter (dpVar 0) "wheels") [.arg (ctrW c p dx q ws), .val (nD f), .val (nD w), .val (nD (ws[w] + f))] 0 ([] ++ [.fd "wheels"]) (ctrW c p dx q ws) (.lst q (wheelsT ws)) := pl_fd (pl_var rfl) (look_one _ _)
    have ew : Ev (dOp modD (dVar 3) (dC (.int 10))) [.arg (ctrW c p dx q ws), .val (nD f), .val (nD w), .val (nD (ws[w] + f))] (nD ((ws[w] + f) % 10)) := ev_op (ev_var (i := 3) (x := nD (ws[w] + f)) rfl) ev_c fun Ψ q => ⟨(by decide : (0 : Int) < 10), by
      have q' : Ψ (.int (((ws[w] + f) % 10 : Nat) : Int)) := q
      rw [← em] at q'
      exact q'⟩
    refine pl_set pw ew (ev_var (i := 2) (x := nD w) rfl) (by unfold wheelsT; rw [List.length_map]; exact hw) ?_
    have es : (wheelsT ws).set w (.val (nD ((ws[w] + f) % 10))) = wheelsT (ws.set w ((ws[w] + f) % 10)) := by unfold wheelsT; rw [List.map_set]
    rw [es]
    show dSeq _ _ _ [.arg ((ctrW c p dx q ws).put [.fd "wheels"] (.lst q (wheelsT (ws.set w ((ws[w] + f) % 10))))), .val (nD f), .val (nD w), .val (nD (ws[w] + f))]
    rw [ctr_put]
    have ee : Ev (dOp fdvD (dVar 3) (dC (.int 10))) [.arg (ctrW c p dx q (ws.set w ((ws[w] + f) % 10))), .val (nD f), .val (nD w), .val (nD (ws[w] + f))] (nD ((ws[w] + f) / 10)) := ev_op (ev_var (i := 3) (x := nD (ws[w] + f)) rfl) ev_c fun Ψ q => ⟨⟨by decide, by decide⟩, by
      have q' : Ψ (.int (((ws[w] + f) / 10 : Nat) : Int)) := q
      rw [← ed] at q'
      exact q'⟩
    refine set_e ee trivial ?_
    have e1 : Ev (dV (dOpR addD (dVar 2) (dC (.int 1)))) [.arg (ctrW c p dx q (ws.set w ((ws[w] + f) % 10))), .val (nD ((ws[w] + f) / 10)), .val (nD w), .val (nD (ws[w] + f))] (nD (w + 1)) := ev_add (ev_var (i := 2) (x := nD w) rfl) ev_c (by push_cast; rfl)
    refine set_e e1 trivial ?_
    refine hK (8 - (w + 1)) _ (by omega) ⟨ws.set w ((ws[w] + f) % 10), (ws[w] + f) / 10, w + 1, .val (nD (ws[w] + f)), rfl, by rw [List.length_set]; exact hl, fun d hd' => ?_, ?_, .val _, rfl⟩
    · rcases List.mem_or_eq_of_mem_set hd' with z | z
      · exact hd d z
      · rw [z]; exact Nat.mod_lt _ (by decide)
    · rw [carry_step hw]
      exact hv
  · rw [decide_eq_false hc, if_neg (by simp)]
    have hmod : valW ws % 10 ^ 8 = (n + f0 * 10 ^ w0) % 10 ^ 8 := by
      rw [← hv]
      by_cases hf : 0 < f
      · have hw : 8 ≤ w := by omega
        have : f * 10 ^ w = 10 ^ 8 * (f * 10 ^ (w - 8)) := by
          rw [← Nat.mul_assoc, Nat.mul_comm (10 ^ 8) f, Nat.mul_assoc, ← Nat.pow_add]
          congr 2
          omega
        rw [this, Nat.add_mul_mod_self_left]
      · have : f = 0 := by omega
        subst this
        simp
    have hws : ws = digitsOf (n + f0 * 10 ^ w0) := by
      rw [← digitsOf_mod, ← hmod, digitsOf_mod, digits_val hd hl]
    rw [hws]
    exact ⟨rfl, k⟩
end DL
set_option Elab.async false
set_option linter.all false
set_option maxRecDepth 100000
set_option maxHeartbeats 2000000
namespace DL
open PySem PySem.Spec PyProof.Rows L2 RT

/-! ### the table -/
def lastD : Option Card → D
  | none => .non
  | some c => cardD c
def tabT (c : CA) (p dx q : Addr) (w : Wiring) (last : D) (rows : List OT) : OT := .ins p dx c.Table [("controls", .val (watchedD w)), ("plugs", .val (plugsD w)), ("detail", .val (.bl w.detail)), ("last", .val last), ("counters", .lst q rows)]
structure RowT (c : CA) (ps : List Plug) (cs : List Card) (t : OT) : Prop where
  ex : ∃ (q : Addr) (ts : List OT), t = .lst q ts ∧ ts.length = 4 ∧ ∀ k, k < 4 → ∃ p dx w, ts[k]? = some (ctrT c p dx w (counted cs ps k))
structure Rows (c : CA) (w : Wiring) (G : Nat → List Card) (rows : List OT) : Prop where
  len : rows.length = w.watched.length + 1
  row : ∀ l, l ≤ w.watched.length → ∃ r, rows[l]? = some r ∧ RowT c w.plugs (G l) r
structure Tab (c : CA) (p : Addr) (w : Wiring) (G : Nat → List Card) (last : Option Card) (t : OT) : Prop where
  ex : ∃ (dx q : Addr) (rows : List OT), t = tabT c p dx q w (lastD last) rows ∧ Rows c w G rows
theorem look_skip {f g : Str} {t : OT} {r : List (Str × OT)} (h : (f == g) = false) : ((g, t) :: r).lookup f = r.lookup f := by
  rw [List.lookup_cons, h]
theorem look_hit {f : Str} {t : OT} {r : List (Str × OT)} : ((f, t) :: r).lookup f = some t := by simp [List.lookup]
theorem put_skip {f g : Str} {t u : OT} {r : List (Str × OT)} (h : ¬ g = f) : putFs f u ((g, t) :: r) = (g, t) :: putFs f u r := by
  show (if g = f then _ else _) = _
  rw [if_neg h]
theorem put_hit {f : Str} {t u : OT} {r : List (Str × OT)} : putFs f u ((f, t) :: r) = (f, u) :: r := by
  show (if f = f then _ else _) = _
  rw [if_pos rfl]
section
variable {a b d e l : OT}
def fs5 (a b d l e : OT) : List (Str × OT) := [("controls", a), ("plugs", b), ("detail", d), ("last", l), ("counters", e)]
theorem fs_controls : List.lookup (Str.ofString "controls") (fs5 a b d l e) = some a := by
  unfold fs5
  rw [look_hit]
theorem fs_plugs : List.lookup (Str.ofString "plugs") (fs5 a b d l e) = some b := by
  unfold fs5
  rw [look_skip (by decide +kernel), look_hit]
theorem fs_detail : List.lookup (Str.ofString "detail") (fs5 a b d l e) = some d := by
  unfold fs5
  rw [look_skip (by decide +kernel), look_skip (by decide +kernel), look_hit]
theorem fs_last : List.lookup (Str.ofString "last") (fs5 a b d l e) = some l := by
  unfold fs5
  rw [look_skip (by decide +kernel), look_skip (by decide +kernel), look_skip (by decide +kernel), look_hit]
theorem fs_counters : List.lookup (Str.ofString "counters") (fs5 a b d l e) = some e := by
  unfold fs5
  rw [look_skip (by decide +kernel), look_skip (by decide +kernel), look_skip (by decide +kernel), look_skip (by decide +kernel), look_hit]
theorem fs_none {f : Str} (h1 : (f == "controls") = false) (h2 : (f == "plugs") = false) (h3 : (f == "detail") = false) (h4 : (f == "last") = false) (h5 : (f == "counters") = false) : (fs5 a b d l e).lookup f = none :=
  (look_skip h1).trans ((look_skip h2).trans ((look_skip h3).trans ((look_skip h4).trans ((look_skip h5).trans rfl))))
theorem fs_put_last (u : OT) : putFs "last" u (fs5 a b d l e) = fs5 a b d u e := by
  unfold fs5
  rw [put_skip (by decide +kernel), put_skip (by decide +kernel), put_skip (by decide +kernel), put_hit]
theorem fs_put_counters (u : OT) : putFs "counters" u (fs5 a b d l e) = fs5 a b d l u := by
  unfold fs5
  rw [put_skip (by decide +kernel), put_skip (by decide +kernel), put_skip (by decide +kernel), put_skip (by decide +kernel), put_hit]
end
section
variable {c : CA} {p dx q : Addr} {w : Wiring} {last : D} {rows : List OT} {ρ : List Sl} {i : Nat} {dp : DP} {π : List Stp} {t0 : OT}
theorem tab_eq : tabT c p dx q w last rows = .ins p dx c.Table (fs5 (.val (watchedD w)) (.val (plugsD w)) (.val (.bl w.detail)) (.val last) (.lst q rows)) := rfl
theorem pl_controls (h : Pl dp ρ i π t0 (tabT c p dx q w last rows)) : Pl (dpFd c.Table dp "controls") ρ i (π ++ [.fd "controls"]) t0 (.val (watchedD w)) := pl_fd h fs_controls
theorem pl_plugs (h : Pl dp ρ i π t0 (tabT c p dx q w last rows)) : Pl (dpFd c.Table dp "plugs") ρ i (π ++ [.fd "plugs"]) t0 (.val (plugsD w)) := pl_fd h fs_plugs
theorem pl_detail (h : Pl dp ρ i π t0 (tabT c p dx q w last rows)) : Pl (dpFd c.Table dp "detail") ρ i (π ++ [.fd "detail"]) t0 (.val (.bl w.detail)) := pl_fd h fs_detail
theorem pl_last (h : Pl dp ρ i π t0 (tabT c p dx q w last rows)) : Pl (dpFd c.Table dp "last") ρ i (π ++ [.fd "last"]) t0 (.val last) := pl_fd h fs_last
theorem pl_counters (h : Pl dp ρ i π t0 (tabT c p dx q w last rows)) : Pl (dpFd c.Table dp "counters") ρ i (π ++ [.fd "counters"]) t0 (.lst q rows) := pl_fd h fs_counters
theorem tab_put_counters (u : List OT) : (tabT c p dx q w last rows).put [.fd "counters"] (.lst q u) = tabT c p dx q w last u := by
  rw [tab_eq, put_fd fs_counters, fs_put_counters]
  rfl
end
theorem tab_noRd {c : CA} {p : Addr} {w : Wiring} {G : Nat → List Card} {t : OT} (h : Tab c p w G none t) : t.noRd = true := by
  obtain ⟨dx, q, rows, rfl, hr⟩ := h
  have hw : ∀ ws : List Nat, D.noRdL (ws.map nD) = true := by
    intro ws
    induction ws with
    | nil => rfl
    | cons x r ih => simp [D.noRdL, D.noRd, nD, ih]
  have hp : ∀ ps : List Plug, D.noRdL (ps.map plugD) = true := by
    intro ps
    induction ps with
    | nil => rfl
    | cons x r ih => cases x <;> simp [D.noRdL, D.noRd, nD, plugD, ih]
  have hwt : ∀ ws : List Nat, OT.noRdL (wheelsT ws) = true := by
    intro ws
    induction ws with
    | nil => rfl
    | cons x r ih =>
      show (OT.noRd (.val (nD x)) && OT.noRdL (wheelsT r)) = true
      rw [ih]
      rfl
  have all : ∀ ts : List OT, (∀ k, k < ts.length → ∃ t, ts[k]? = some t ∧ t.noRd = true) → OT.noRdL ts = true := by
    intro ts
    induction ts with
    | nil => intro _; rfl
    | cons x r ih =>
      intro h
      obtain ⟨t, e, ht⟩ := h 0 (by simp)
      cases e
      show (x.noRd && OT.noRdL r) = true
      rw [ht, ih fun k hk => by
        obtain ⟨t, e, ht⟩ := h (k + 1) (by simpa using hk)
        exact ⟨t, by simpa using e, ht⟩]
      rfl
  have hrows : OT.noRdL rows = true := all rows fun l hl => by
    obtain ⟨r, e, q', ts, rfl, l4, hk⟩ := hr.row l (by have := hr.len; omega)
    refine ⟨_, e, ?_⟩
    show OT.noRdL ts = true
    refine all ts fun k hk' => ?_
    obtain ⟨p', dx', w', e'⟩ := hk k (by omega)
    refine ⟨_, e', ?_⟩
    simp [ctrT, ctrW, OT.noRd, OT.noRdF, hwt]
  simp [tabT, OT.noRd, OT.noRdF, D.noRd, watchedD, plugsD, lastD, hw, hp, hrows]
theorem Rows.congr {c : CA} {w : Wiring} {G G' : Nat → List Card} {rows : List OT} (h : Rows c w G rows) (e : ∀ l, l ≤ w.watched.length → G l = G' l) : Rows c w G' rows := ⟨h.len, fun l hl => by
  rw [← e l hl]
  exact h.row l hl⟩
/-! fresh -/
def F_Table_fresh (c : CA) : DFO := fun S xs Φ => xs = [] ∧ ∀ t, RowT c [] [] t → Φ (.loc t) S
/- slots of Table.fresh: 0 self, 1 counter -/
def b_Table_fresh (c : CA) : DS := (dRet (dLcO (diRng1 (dC (.int 4))) (dgName 1) (dMk c.Counter (F_Counter_init c) dNil) [1]))
theorem rd_Table_fresh (c : CA) : ∀ S xs Φ, F_Table_fresh c S xs Φ → b_Table_fresh c (rtO S Φ) (.arg S :: slots xs 1) := by
  rintro S xs Φ ⟨rfl, k⟩
  refine lcO_open ⟨(by unfold inR; decide), by decide, ⟨trivial, trivial⟩, ?_⟩
  refine lcOL_inv (fun rest acc ρ => ∃ (s : Sl), acc.length + rest.length = 4 ∧ (∀ k, k < acc.length → ∃ p dx w, acc[k]? = some (ctrT c p dx w 0)) ∧ ρ = [.arg S, s]) ?_ ?_ ⟨.un, rfl, fun k hk => absurd hk (by simp), rfl⟩
  · rintro x rest acc ρ ⟨s, hl, ha, rfl⟩ K hK
    refine ⟨trivial, fun p dx => ⟨p, dx, rfl, rfl, fun q => ⟨rfl, ⟨trivial, trivial⟩, hK _ _ ⟨_, by rw [List.length_append]; simp at hl ⊢; omega, fun k hk => ?_, rfl⟩⟩⟩⟩
    rw [List.length_append, List.length_singleton] at hk
    by_cases c' : k < acc.length
    · rw [List.getElem?_append_left c']
      exact ha k c'
    · have : k = acc.length := by omega
      subst this
      exact ⟨p, dx, q, by simp⟩
  · rintro acc ρ ⟨s, hl, ha, rfl⟩ q
    have hl' : acc.length = 4 := by simpa using hl
    refine ⟨rfl, k _ ⟨q, acc, rfl, hl', fun k hk => ?_⟩⟩
    obtain ⟨p, dx, w, e⟩ := ha k (by omega)
    exact ⟨p, dx, w, e⟩
theorem counted_nil (ps : List Plug) (k : Nat) : counted [] ps k = 0 := rfl
theorem RowT.fresh {c : CA} {t : OT} (ps : List Plug) (h : RowT c [] [] t) : RowT c ps [] t := by
  obtain ⟨q, ts, e, l, hk⟩ := h
  exact ⟨q, ts, e, l, hk⟩
end DL
set_option Elab.async false
set_option linter.all false
set_option maxRecDepth 100000
set_option maxHeartbeats 2000000
namespace DL
open PySem PySem.Spec PyProof.Rows L2 RT

/-! ### what a table reads: changed, rows -/
def least (w : Wiring) (prev card : Card) : Nat := w.watched.findIdx (fun (x : Nat) => !decide (colAt card (x : Int) = colAt prev (x : Int))) + 1
def F_Table_changed (c : CA) : DFO := fun S xs Φ => ∃ (p : Addr) (w : Wiring) (G : Nat → List Card) (prev card : Card), xs = [cardD card] ∧ Tab c p w G (some prev) S ∧ WiringOk w ∧ Φ (.val (nD (least w prev card))) S
/- slots of Table.changed: 0 self, 1 card, 2 level, 3 column -/
def b_Table_changed (c : CA) : DS := (dSeq (dFor (diRng1 (dV (dCB lenD (dCons (dLeaf (dpFd c.Table (dpVar 0) "controls")) dNil)))) (dgName 2) (dSeq (dSet 3 (dR (dOp ixD (dLeaf (dpFd c.Table (dpVar 0) "controls")) (dVar 2))))
  (dIfS (dTest (dOp neD (dV (dCall F_column_of (dCons (dVar 1) (dCons (dVar 3) dNil)))) (dV (dCall F_column_of (dCons (dLeaf (dpFd c.Table (dpVar 0) "last")) (dCons (dVar 3) dNil)))))) (dRet (dOpR addD (dVar 2) (dC (.int 1)))) dNext)))
  (dRet (dOpR addD (dV (dCB lenD (dCons (dLeaf (dpFd c.Table (dpVar 0) "controls")) dNil))) (dC (.int 1)))))
theorem rng1_open {a : DE} {ρ : List Sl} {n : Nat} (h : Ev a ρ (.int (n : Int))) (hn : n ≤ 1000) : ∀ Ψ : List D → List Sl → Prop, Ψ (rng n 0 1) ρ → diRng1 a ρ Ψ := fun Ψ q => h _ ⟨by unfold inR; omega, q⟩
theorem any_open {a : DE} {ρ : List Sl} {xs : List D} (h : Ev a ρ (.lst xs)) : ∀ Ψ : List D → List Sl → Prop, Ψ xs ρ → diAny a ρ Ψ := fun Ψ q => h _ q
theorem ev_colOf {a b : DE} {ρ : List Sl} {c : Card} {x : Nat} (h : Ev a ρ (cardD c)) (g : Ev b ρ (.int (x : Int))) : Ev (dV (dCall F_column_of (dCons a (dCons b dNil)))) ρ (colD (colAt c (x : Int))) := ev_call2 h g fun Ψ k => ⟨c, x, rfl, by omega, k⟩
theorem evt_neC {a b : DE} {ρ : List Sl} {x y : Col} (h : Ev a ρ (colD x)) (g : Ev b ρ (colD y)) : EvT (dTest (dOp neD a b)) ρ (!decide (x = y)) := evt_of (ev_op h g fun Ψ q => ⟨ok_col _ _, ok_col _ _, by rw [eqv_col]; exact q⟩)
theorem rd_Table_changed (c : CA) : ∀ S xs Φ, F_Table_changed c S xs Φ → b_Table_changed c (rtO S Φ) (.arg S :: slots xs 3) := by
  rintro S xs Φ ⟨p, w, G, prev, card, rfl, ⟨dx, q, rows, rfl, hr⟩, ok, k⟩
  have l3 := ok.l3
  have pt : ∀ ρ : List Sl, ρ[0]? = some (.arg (tabT c p dx q w (lastD (some prev)) rows)) → Pl (dpVar 0) ρ 0 [] (tabT c p dx q w (lastD (some prev)) rows) (tabT c p dx q w (lastD (some prev)) rows) := fun ρ h => pl_var (by rw [h]; rfl)
  have elen : ∀ ρ : List Sl, ρ[0]? = some (.arg (tabT c p dx q w (lastD (some prev)) rows)) → Ev (dV (dCB lenD (dCons (dLeaf (dpFd c.Table (dpVar 0) "controls")) dNil))) ρ (.int (w.watched.length : Nat)) := fun ρ h => by
    have := ev_lenl (pl_controls (pt ρ h)).leaf
    rw [List.length_map] at this
    exact this
  refine for_inv' (rng w.watched.length 0 1) (rng1_open (elen _ rfl) (by omega)) (fun rest ρ => ∃ (n : Nat) (s2 s3 : Sl), rest = rng (w.watched.length - n) (n : Int) 1 ∧ n ≤ w.watched.length ∧ (∀ j (h : j < n) (h' : j < w.watched.length), colAt card (w.watched[j] : Int) = colAt prev (w.watched[j] : Int)) ∧ dat s2 ∧ dat s3 ∧ ρ = [.arg (tabT c p dx q w (lastD (some prev)) rows), .val (cardD card), s2, s3])
    ⟨0, .un, .un, rfl, by omega, fun j h => absurd h (by omega), .un, .un, rfl⟩ ?_ ?_
  · rintro d rest ρ ⟨n, s2, s3, e, hn, hj, f2, f3, rfl⟩ K hK
    have hlt := rng_stop e
    rw [rng_step hlt] at e
    cases e
    refine ⟨f2.free rfl, ?_⟩
    have ec : Ev (dOp ixD (dLeaf (dpFd c.Table (dpVar 0) "controls")) (dVar 2)) [.arg (tabT c p dx q w (lastD (some prev)) rows), .val (cardD card), .val (.int (n : Int)), s3] (nD w.watched[n]) :=
      ev_ixl (pl_controls (pt _ rfl)).leaf (ev_var rfl) (by rw [List.getElem?_map, List.getElem?_eq_getElem hlt]; rfl)
    refine set_e ec (f3.free rfl) ?_
    have t : EvT (dTest (dOp neD (dV (dCall F_column_of (dCons (dVar 1) (dCons (dVar 3) dNil)))) (dV (dCall F_column_of (dCons (dLeaf (dpFd c.Table (dpVar 0) "last")) (dCons (dVar 3) dNil)))))) [.arg (tabT c p dx q w (lastD (some prev)) rows), .val (cardD card), .val (.int (n : Int)), .val (nD w.watched[n])] (!decide (colAt card (w.watched[n] : Int) = colAt prev (w.watched[n] : Int))) :=
      evt_neC (ev_colOf (ev_var rfl) (ev_var (x := nD w.watched[n]) rfl)) (ev_colOf (pl_last (pt _ rfl)).leaf (ev_var (x := nD w.watched[n]) rfl))
    refine if_b t (fun e => ?_) (fun e => ?_)
    · have hf : w.watched.findIdx (fun (x : Nat) => !decide (colAt card (x : Int) = colAt prev (x : Int))) = n := (List.findIdx_eq hlt).mpr ⟨e, fun j hj' => by
        simp [hj j hj' (by omega)]⟩
      refine ⟨rfl, ?_⟩
      unfold least at k
      rw [hf, nD_add] at k
      exact k
    · refine hK _ ⟨n + 1, .val (.int (n : Int)), .val (nD w.watched[n]), by push_cast; rfl, hlt, fun j h h' => ?_, .val _, .val _, rfl⟩
      by_cases c' : j = n
      · subst c'
        simpa using e
      · exact hj j (by omega) h'
  · rintro ρ ⟨n, s2, s3, e, hn, hj, f2, f3, rfl⟩
    have hn' : n = w.watched.length := by
      have := congrArg List.length e
      rw [rng_length] at this
      simp at this
      omega
    have hf : w.watched.findIdx (fun (x : Nat) => !decide (colAt card (x : Int) = colAt prev (x : Int))) = w.watched.length := List.findIdx_eq_length.mpr fun x hx => by
      obtain ⟨j, hj', e⟩ := List.getElem_of_mem hx
      have := hj j (by omega) hj'
      rw [e] at this
      simp [this]
    unfold least at k
    rw [hf, nD_add] at k
    have ef := ev_add (elen [.arg (tabT c p dx q w (lastD (some prev)) rows), .val (cardD card), s2, s3] rfl) (ev_c (x := .int 1)) rfl
    exact ef (fun x ρ' => (rtO (tabT c p dx q w (lastD (some prev)) rows) Φ).rt (.val x) ρ') ⟨rfl, k⟩
/-! rows -/
theorem line_join2 {ρ : List Sl} {i : Nat} {p : Addr} {ts : List Str} {Δ : Ds} (hi : ρ[i]? = some (.loc (lineT p ts))) (ok : LineOk40 ts) (q : Δ.rt (.val (.str (Txt.join (Str.ofString "") ts))) (ρ.set i (.val (.lst (ts.map D.str))))) : dRet (dMt isS joinD (dC (.str "")) (dCons (dVar i) dNil)) Δ ρ := by
  have hs := sumS_le ok.short
  rw [ok.len] at hs
  refine ⟨trivial, ?_⟩
  show dVar i ρ _
  unfold dVar
  rw [hi]
  dsimp only
  rw [toD_line]
  show joinD (.str (Str.ofString "")) [.lst (ts.map D.str)] _
  unfold joinD
  dsimp only
  rw [strs_map]
  have : (Str.ofString "").length = 0 := by decide +kernel
  refine ⟨Nat.le_trans (Nat.add_le_add hs (Nat.le_refl _)) ?_, q⟩
  rw [this]
  omega
theorem blanks_map : (List.range 40).map (fun _ => D.str (Str.ofString " ")) = blanks.map D.str := by
  unfold blanks
  rw [List.map_replicate, List.map_const', List.length_range]
theorem flat_len : ∀ {ps a b : List Plug} {f : Plug → List (Nat × Str)}, ps = a ++ b → ps.flatMap f = a.flatMap f ++ b.flatMap f := by
  rintro _ a b f rfl
  rw [List.flatMap_append]
def F_Table_detail_row (c : CA) : DFO := fun S xs Φ => ∃ (p : Addr) (w : Wiring) (G : Nat → List Card) (last : Option Card) (card : Card), xs = [cardD card] ∧ Tab c p w G last S ∧ WiringOk w ∧ CardOk card ∧ Φ (.val (.str (detLine w.plugs card))) S
/- slots of Table.detail_row: 0 self, 1 card, 2 line, 3 plug, 4 place -/
def b_Table_detail_row (c : CA) : DS := (dSeq (dSetT 2 (dLc (diRng1 (dC (.int 40))) (dgName 4) dYes (dC (.str " ")) [4]))
  (dSeq (dFor (diAny (dLeaf (dpFd c.Table (dpVar 0) "plugs"))) (dgName 3) (dIfS (dTest (dOp eqD (dOp ixD (dVar 3) (dC (.int 0))) (dC (.str "hole")))) (dPSet (dpVar 2) (dOp ixD (dVar 3) (dC (.int 2))) (dV (dCall F_sign_of (dCons (dV (dCall F_column_of (dCons (dVar 1) (dCons (dOp ixD (dVar 3) (dC (.int 1))) dNil)))) dNil)))) dNext))
  (dRet (dMt isS joinD (dC (.str "")) (dCons (dVar 2) dNil)))))
theorem rd_Table_detail_row (c : CA) : ∀ S xs Φ, F_Table_detail_row c S xs Φ → b_Table_detail_row c (rtO S Φ) (.arg S :: slots xs 4) := by
  rintro S xs Φ ⟨p, w, G, last, card, rfl, ⟨dx, q, rows, rfl, hr⟩, ok, co, k⟩
  refine lc_map (j := 4) (ρ1 := [.arg (tabT c p dx q w (lastD last) rows), .val (cardD card), .un, .un, .un]) (List.range 40) nD (fun _ => .str (Str.ofString " ")) (fun Ψ h => ⟨by unfold inR; decide, h⟩) (by decide) (.inl rfl) (fun d _ Ψ h => h) ?_
  rw [blanks_map]
  refine ⟨trivial, fun pl => ?_⟩
  have el : (blanks.map D.str).map OT.val = blanks.map fun s => OT.val (.str s) := by rw [List.map_map]; rfl
  rw [el]
  refine for_inv' (w.plugs.map plugD) (any_open (pl_plugs (pl_var rfl)).leaf) (fun rest ρ => ∃ (a b : List Plug) (s3 : Sl), w.plugs = a ++ b ∧ rest = b.map plugD ∧ dat s3 ∧ ρ = [.arg (tabT c p dx q w (lastD last) rows), .val (cardD card), .loc (lineT pl (setAll blanks (a.flatMap (holeSigns card)))), s3, .un]) ⟨[], w.plugs, .un, rfl, rfl, .un, rfl⟩ ?_ ?_
  · rintro d rest ρ ⟨a, b, s3, ea, eb, f3, rfl⟩ K hK
    cases b with
    | nil => cases eb
    | cons pg b =>
      cases eb
      have pm : pg ∈ w.plugs := by rw [ea]; simp
      have po := ok.plugs pg pm
      have la : LineOk40 (setAll blanks (a.flatMap (holeSigns card))) := setAll_ok blanks_ok fun x hx => by
        obtain ⟨y, hy, hx⟩ := List.mem_flatMap.mp hx
        exact holeSigns_ok co (ok.plugs y (by rw [ea]; simp [hy])) x hx
      refine ⟨f3.free rfl, ?_⟩
      have fin : K [.arg (tabT c p dx q w (lastD last) rows), .val (cardD card), .loc (lineT pl (setAll (setAll blanks (a.flatMap (holeSigns card))) (holeSigns card pg))), .val (plugD pg), .un] := hK _ ⟨a ++ [pg], b, .val (plugD pg), by rw [ea]; simp, rfl, .val _, by
        rw [List.flatMap_append, setAll_app]
        simp⟩
      have i3 : ([.arg (tabT c p dx q w (lastD last) rows), .val (cardD card), .loc (lineT pl (setAll blanks (a.flatMap (holeSigns card)))), .val (plugD pg), .un] : List Sl)[3]? = some (.val (plugD pg)) := rfl
      cases pg with
      | hole col pc =>
        refine if_t (evt_eqS (ev_word i3 rfl)) ?_
        refine line_set (i := 2) (p := pl) (s := signOf (colAt card (col : Int))) (j := pc) rfl (ev_call1 (ev_colOf (ev_var rfl) (ev_num (x := nD col) 1 i3 (ys := [.str "hole", nD col, nD pc]) rfl rfl)) ?_) (ev_num (x := nD pc) 2 i3 (ys := [.str "hole", nD col, nD pc]) rfl rfl) (by rw [la.len]; exact po.2) fin
        exact fun Ψ kk => ⟨_, rfl, co.col _, kk⟩
      | _ => exact if_f (evt_eqS (ev_word i3 rfl)) fin
  · rintro ρ ⟨a, b, s3, ea, eb, f3, rfl⟩
    have : b = [] := by simpa using eb.symm
    subst this
    rw [List.append_nil] at ea
    rw [← ea]
    exact line_join2 (i := 2) rfl (setAll_ok blanks_ok fun x hx => by
      obtain ⟨y, hy, hx⟩ := List.mem_flatMap.mp hx
      exact holeSigns_ok co (ok.plugs y hy) x hx) ⟨rfl, k⟩
def F_Table_total_row (c : CA) : DFO := fun S xs Φ => ∃ (p : Addr) (w : Wiring) (G : Nat → List Card) (prev : Card) (level : Nat), xs = [nD level] ∧ Tab c p w G (some prev) S ∧ WiringOk w ∧ CardOk prev ∧ level ≤ w.watched.length ∧ Φ (.val (.str (totLine w.plugs prev (counted (G level) w.plugs) level))) S
/- slots of Table.total_row: 0 self, 1 level, 2 line, 3 plug, 4 place -/
def b_Table_total_row (c : CA) : DS := (dSeq (dSetT 2 (dLc (diRng1 (dC (.int 40))) (dgName 4) dYes (dC (.str " ")) [4]))
  (dSeq (dFor (diAny (dLeaf (dpFd c.Table (dpVar 0) "plugs"))) (dgName 3) (dSeq (dIfS (dAnd (dTest (dOp eqD (dOp ixD (dVar 3) (dC (.int 0))) (dC (.str "head")))) (dTest (dOp geD (dVar 1) (dOp ixD (dVar 3) (dC (.int 3)))))) (dPSet (dpVar 2) (dOp ixD (dVar 3) (dC (.int 2))) (dV (dCall F_sign_of (dCons (dV (dCall F_column_of (dCons (dLeaf (dpFd c.Table (dpVar 0) "last")) (dCons (dOp ixD (dVar 3) (dC (.int 1))) dNil)))) dNil)))) dNext)
  (dSeq (dIfS (dTest (dOp eqD (dOp ixD (dVar 3) (dC (.int 0))) (dC (.str "print")))) (dPSet (dpVar 2) (dOp ixD (dVar 3) (dC (.int 3))) (dV (dCB strD (dCons (dLeaf (dpIx (dpFd c.Counter (dpIx (dpIx (dpFd c.Table (dpVar 0) "counters") (dVar 1)) (dOp ixD (dVar 3) (dC (.int 1)))) "wheels") (dOp ixD (dVar 3) (dC (.int 2))))) dNil)))) dNext)
  (dIfS (dTest (dOp eqD (dOp ixD (dVar 3) (dC (.int 0))) (dC (.str "level")))) (dPSet (dpVar 2) (dOp ixD (dVar 3) (dC (.int 1))) (dV (dCB strD (dCons (dVar 1) dNil)))) dNext))))
  (dRet (dMt isS joinD (dC (.str "")) (dCons (dVar 2) dNil)))))
theorem rd_Table_total_row (c : CA) : ∀ S xs Φ, F_Table_total_row c S xs Φ → b_Table_total_row c (rtO S Φ) (.arg S :: slots xs 4) := by
  rintro S xs Φ ⟨p, w, G, prev, level, rfl, ⟨dx, q, rows, rfl, hr⟩, ok, co, hl, k⟩
  have l3 := ok.l3
  refine lc_map (j := 4) (ρ1 := [.arg (tabT c p dx q w (lastD (some prev)) rows), .val (nD level), .un, .un, .un]) (List.range 40) nD (fun _ => .str (Str.ofString " ")) (fun Ψ h => ⟨by unfold inR; decide, h⟩) (by decide) (.inl rfl) (fun d _ Ψ h => h) ?_
  rw [blanks_map]
  refine ⟨trivial, fun pl => ?_⟩
  have el : (blanks.map D.str).map OT.val = blanks.map fun s => OT.val (.str s) := by rw [List.map_map]; rfl
  rw [el]
  refine for_inv' (w.plugs.map plugD) (any_open (pl_plugs (pl_var rfl)).leaf) (fun rest ρ => ∃ (a b : List Plug) (s3 : Sl), w.plugs = a ++ b ∧ rest = b.map plugD ∧ dat s3 ∧ ρ = [.arg (tabT c p dx q w (lastD (some prev)) rows), .val (nD level), .loc (lineT pl (setAll blanks (a.flatMap (plugSigns prev (counted (G level) w.plugs) level)))), s3, .un]) ⟨[], w.plugs, .un, rfl, rfl, .un, rfl⟩ ?_ ?_
  · rintro d rest ρ ⟨a, b, s3, ea, eb, f3, rfl⟩ K hK
    cases b with
    | nil => cases eb
    | cons pg b =>
      cases eb
      have pm : pg ∈ w.plugs := by rw [ea]; simp
      have po := ok.plugs pg pm
      have la : LineOk40 (setAll blanks (a.flatMap (plugSigns prev (counted (G level) w.plugs) level))) := setAll_ok blanks_ok (signs_ok co (by omega) fun y hy => ok.plugs y (by rw [ea]; simp [hy]))
      refine ⟨f3.free rfl, ?_⟩
      have fin : K [.arg (tabT c p dx q w (lastD (some prev)) rows), .val (nD level), .loc (lineT pl (setAll (setAll blanks (a.flatMap (plugSigns prev (counted (G level) w.plugs) level))) (plugSigns prev (counted (G level) w.plugs) level pg))), .val (plugD pg), .un] := hK _ ⟨a ++ [pg], b, .val (plugD pg), by rw [ea]; simp, rfl, .val _, by
        rw [List.flatMap_append, setAll_app]
        simp⟩
      have i3 : ∀ s2 : Sl, ([.arg (tabT c p dx q w (lastD (some prev)) rows), .val (nD level), s2, .val (plugD pg), .un] : List Sl)[3]? = some (.val (plugD pg)) := fun _ => rfl
      cases pg with
      | head col pc l =>
        obtain ⟨h1, h2, h3, h4⟩ := po
        refine if_b (evt_andT (evt_eqS (v := true) (ev_word (i3 _) rfl)) (evt_geI (ev_var (i := 1) (x := nD level) rfl) (ev_num (x := nD l) 3 (i3 _) (ys := [.str "head", nD col, nD pc, nD l]) rfl rfl))) (fun e => ?_) (fun e => ?_)
        · have e' : l ≤ level := by have := of_decide_eq_true e; omega
          have hn : plugSigns prev (counted (G level) w.plugs) level (.head col pc l) = [(pc, signOf (colAt prev (col : Int)))] := if_pos e'
          rw [hn] at fin
          refine line_set (i := 2) (p := pl) (s := signOf (colAt prev (col : Int))) (j := pc) rfl (ev_call1 (ev_colOf (pl_last (pl_var rfl)).leaf (ev_num (x := nD col) 1 (i3 _) (ys := [.str "head", nD col, nD pc, nD l]) rfl rfl)) ?_) (ev_num (x := nD pc) 2 (i3 _) (ys := [.str "head", nD col, nD pc, nD l]) rfl rfl) (by rw [la.len]; exact h2) ?_
          · exact fun Ψ kk => ⟨_, rfl, co.col _, kk⟩
          · exact if_f (evt_eqS (ev_word (i3 _) rfl)) (if_f (evt_eqS (ev_word (i3 _) rfl)) fin)
        · have e' : ¬ l ≤ level := by have := of_decide_eq_false e; omega
          have hn : plugSigns prev (counted (G level) w.plugs) level (.head col pc l) = [] := if_neg e'
          rw [hn] at fin
          exact if_f (evt_eqS (ev_word (i3 _) rfl)) (if_f (evt_eqS (ev_word (i3 _) rfl)) fin)
      | print kk wh pc =>
        obtain ⟨h1, h2, h3⟩ := po
        refine if_f (evt_andF (evt_eqS (ev_word (i3 _) rfl))) (if_t (evt_eqS (ev_word (i3 _) rfl)) ?_)
        obtain ⟨r, er, q', ts, rfl, l4, hk⟩ := hr.row level hl
        obtain ⟨p1, dx1, w1, e1⟩ := hk kk h1
        have leaf : Ev (dLeaf (dpIx (dpFd c.Counter (dpIx (dpIx (dpFd c.Table (dpVar 0) "counters") (dVar 1)) (dOp ixD (dVar 3) (dC (.int 1)))) "wheels") (dOp ixD (dVar 3) (dC (.int 2))))) [.arg (tabT c p dx q w (lastD (some prev)) rows), .val (nD level), .loc (lineT pl (setAll blanks (a.flatMap (plugSigns prev (counted (G level) w.plugs) level)))), .val (plugD (.print kk wh pc)), .un] (nD (counted (G level) w.plugs kk / 10 ^ wh % 10)) := by
          have p0 := pl_counters (c := c) (p := p) (dx := dx) (q := q) (w := w) (last := lastD (some prev)) (rows := rows) (pl_var (i := 0) (ρ := [.arg (tabT c p dx q w (lastD (some prev)) rows), .val (nD level), .loc (lineT pl (setAll blanks (a.flatMap (plugSigns prev (counted (G level) w.plugs) level)))), .val (plugD (.print kk wh pc)), .un]) rfl)
          have p1 := pl_ix p0 (ev_var (i := 1) (x := nD level) rfl) er
          have p2 := pl_ix p1 (ev_num (x := nD kk) 1 (i3 _) (p := .print kk wh pc) (ys := [.str "print", nD kk, nD wh, nD pc]) rfl rfl) e1
          have p3 := pl_fd p2 (look_one _ _)
          exact (pl_ix p3 (ev_num (x := nD wh) 2 (i3 _) (p := .print kk wh pc) (ys := [.str "print", nD kk, nD wh, nD pc]) rfl rfl) (u := .val (nD (counted (G level) w.plugs kk / 10 ^ wh % 10))) (by
            unfold wheelsT digitsOf
            rw [List.getElem?_map, List.getElem?_map, List.getElem?_range h2]
            rfl)).leaf
        refine line_set (i := 2) (p := pl) (s := digS (counted (G level) w.plugs kk / 10 ^ wh % 10)) (j := pc) rfl (ev_str leaf (dig_short _ (Nat.mod_lt _ (by decide))).2) (ev_num (x := nD pc) 3 (i3 _) (ys := [.str "print", nD kk, nD wh, nD pc]) rfl rfl) (by rw [la.len]; exact h3) ?_
        exact if_f (evt_eqS (ev_word (i3 _) rfl)) fin
      | level pc =>
        refine if_f (evt_andF (evt_eqS (ev_word (i3 _) rfl))) (if_f (evt_eqS (ev_word (i3 _) rfl)) (if_t (evt_eqS (ev_word (i3 _) rfl)) ?_))
        exact line_set (i := 2) (p := pl) (s := digS level) (j := pc) rfl (ev_str (ev_var (i := 1) (x := nD level) rfl) (dig_short _ (by omega)).2) (ev_num (x := nD pc) 1 (i3 _) (ys := [.str "level", nD pc]) rfl rfl) (by rw [la.len]; exact po) fin
      | hole | add | count => exact if_f (evt_andF (evt_eqS (ev_word (i3 _) rfl))) (if_f (evt_eqS (ev_word (i3 _) rfl)) (if_f (evt_eqS (ev_word (i3 _) rfl)) fin))
  · rintro ρ ⟨a, b, s3, ea, eb, f3, rfl⟩
    have : b = [] := by simpa using eb.symm
    subst this
    rw [List.append_nil] at ea
    rw [← ea]
    exact line_join2 (i := 2) rfl (setAll_ok blanks_ok (signs_ok co (by omega) ok.plugs)) ⟨rfl, k⟩
end DL
set_option Elab.async false
set_option linter.all false
set_option maxRecDepth 100000
set_option maxHeartbeats 2000000
namespace DL
open PySem PySem.Spec PyProof.Rows L2 RT

/-! ### a table made; its totals -/
theorem put_new {f : Str} {u : OT} : ∀ {fs : List (Str × OT)}, fs.lookup f = none → putFs f u fs = fs ++ [(f, u)]
  | [], _ => rfl
  | (g, t) :: r, h => by
    by_cases c : g = f
    · subst c
      simp [List.lookup] at h
    · rw [put_skip c]
      have hb : (f == g) = false := by simpa using fun z => c z.symm
      rw [look_skip hb] at h
      rw [put_new h]
      rfl
section
variable {d : DP} {ρ : List Sl} {i : Nat} {π : List Stp} {t : OT} {Δ : Ds}
theorem pl_fsetX {P : List OT → Prop} {C p' dx : Addr} {fs : List (Str × OT)} {f : Str} {v : DR} {ρ0 : List Sl} (hv : ∀ Ψ : OT → List Sl → Prop, (∀ q us, P us → Ψ (.lst q us) ρ) → v ρ0 (asT Ψ)) (h : Pl d ρ i π t (.ins p' dx C fs)) (hl : fs.length < 1000) (q : ∀ q us, P us → Δ.nx (ρ.set i (withTree (t.put π (.ins p' dx C (putFs f (.lst q us) fs))) (ρ[i]?)))) : dFSet C d f v Δ ρ0 := by
  refine hv _ fun a us hu => h.ev _ ?_
  rw [h.tr]
  exact ⟨rfl, hl, q a us hu⟩
theorem pl_setTX {P : OT → Prop} {p' : Addr} {xs : List OT} {v : DR} {k : DE} {ρ0 : List Sl} {j : Nat} (hv : ∀ Ψ : OT → List Sl → Prop, (∀ u, P u → Ψ u ρ) → v ρ0 (asT Ψ)) (h : Pl d ρ i π t (.lst p' xs)) (hk : Ev k ρ (.int (j : Int))) (hj : j < xs.length) (q : ∀ u, P u → Δ.nx (ρ.set i (withTree (t.put π (.lst p' (xs.set j u))) (ρ[i]?)))) : dPSetT d k v Δ ρ0 := by
  refine hv _ fun u hu => h.ev _ (hk _ ?_)
  rw [h.tr]
  dsimp only
  rw [h.get]
  refine ⟨rfl, rfl, Int.natCast_nonneg _, by omega, ?_⟩
  rw [Int.toNat_natCast]
  exact q u hu
theorem pl_fsetE (ρ' : List Sl) {C p' dx : Addr} {fs : List (Str × OT)} {f : Str} {v : DR} {ρ0 : List Sl} {u : OT} (T : OT) (hv : ∀ Ψ : OT → List Sl → Prop, Ψ u ρ → v ρ0 (asT Ψ)) (h : Pl d ρ i π t (.ins p' dx C fs)) (hl : fs.length < 1000) (e : t.put π (.ins p' dx C (putFs f u fs)) = T) (e2 : ρ.set i (withTree T (ρ[i]?)) = ρ') (q : Δ.nx ρ') : dFSet C d f v Δ ρ0 := by
  subst e
  subst e2
  exact pl_fset hv h hl q
end
theorem ev_list {e : DE} {ρ : List Sl} {a : D} {xs : List D} (h : Ev e ρ a) (ha : a = .lst xs ∨ a = .rd xs) : Ev (dV (dCB listD (dCons e dNil))) ρ (.lst xs) := fun Ψ q => h _ (by
  rcases ha with z | z
  · rw [z]; exact q
  · rw [z]; exact q)
def wiringR (w : Wiring) : D := .tup [.rd (w.watched.map nD), .rd (w.plugs.map plugD), .bl w.detail]
def F_Table_init (c : CA) : DFO := fun S xs Φ => ∃ (p dx : Addr) (w : Wiring) (x : D), xs = [x] ∧ S = .ins p dx c.Table [] ∧ WiringOk w ∧ (x = wiringD w ∨ x = wiringR w) ∧ ∀ S', S'.root = .ref p → Tab c p w (fun _ => []) none S' → Φ (.val .non) S'
/- slots of Table.__init__: 0 self, 1 wiring, 2 at, 3 one, 4 level -/
def b_Table_init (c : CA) : DS := (dSeq (dFSet c.Table (dpVar 0) "controls" (dR (dV (dCB listD (dCons (dOp ixD (dVar 1) (dC (.int 0))) dNil)))))
  (dSeq (dFSet c.Table (dpVar 0) "plugs" (dR (dV (dCB listD (dCons (dOp ixD (dVar 1) (dC (.int 1))) dNil)))))
  (dSeq (dFSet c.Table (dpVar 0) "detail" (dR (dOp ixD (dVar 1) (dC (.int 2)))))
  (dSeq (dIfS (dOr (dTest (dOp gtD (dV (dCB lenD (dCons (dLeaf (dpFd c.Table (dpVar 0) "controls")) dNil))) (dC (.int 3)))) (dTest (dOp neD (dV (dLc (diAny (dLeaf (dpFd c.Table (dpVar 0) "controls"))) (dgName 3) (dNot (dTest (dChain leD ltD (dC (.int 0)) (dVar 3) (dC (.int 12))))) (dVar 3) [3])) (dV (dLst dNil))))) (fun _ _ => False) dNext)
  (dSeq (dFor (diRng1 (dV (dCB lenD (dCons (dLeaf (dpFd c.Table (dpVar 0) "plugs")) dNil)))) (dgName 2) (dIfS (dNot (dTest (dV (dCall F_is_plug (dCons (dOp ixD (dLeaf (dpFd c.Table (dpVar 0) "plugs")) (dVar 2)) (dCons (dV (dCB lenD (dCons (dLeaf (dpFd c.Table (dpVar 0) "controls")) dNil))) dNil)))))) (fun _ _ => False) dNext))
  (dSeq (dFSet c.Table (dpVar 0) "last" (dR (dC .non)))
  (dFSet c.Table (dpVar 0) "counters" (dLcO (diRng1 (dV (dOpR addD (dV (dCB lenD (dCons (dLeaf (dpFd c.Table (dpVar 0) "controls")) dNil))) (dC (.int 1))))) (dgName 4) (dCallM c.Table "fresh" (F_Table_fresh c) (dpVar 0) dNil) [4]))))))))
def g1 (w : Wiring) : List (Str × OT) := [("controls", .val (watchedD w))]
def g2 (w : Wiring) : List (Str × OT) := [("controls", .val (watchedD w)), ("plugs", .val (plugsD w))]
def g3 (w : Wiring) : List (Str × OT) := [("controls", .val (watchedD w)), ("plugs", .val (plugsD w)), ("detail", .val (.bl w.detail))]
def g4 (w : Wiring) : List (Str × OT) := [("controls", .val (watchedD w)), ("plugs", .val (plugsD w)), ("detail", .val (.bl w.detail)), ("last", .val .non)]
theorem rd_Table_init (c : CA) : ∀ S xs Φ, F_Table_init c S xs Φ → b_Table_init c (rtO S Φ) (.arg S :: slots xs 4) := by
  rintro S xs Φ ⟨p, dx, w, x, rfl, rfl, ok, hx, k⟩
  have l3 := ok.l3
  have l24 := ok.l24
  have hx' : ∃ a b, x = .tup [a, b, .bl w.detail] ∧ (a = watchedD w ∨ a = .rd (w.watched.map nD)) ∧ (b = plugsD w ∨ b = .rd (w.plugs.map plugD)) := by
    rcases hx with rfl | rfl
    · exact ⟨_, _, rfl, .inl rfl, .inl rfl⟩
    · exact ⟨_, _, rfl, .inr rfl, .inr rfl⟩
  obtain ⟨a, b, rfl, ha, hb⟩ := hx'
  let x : D := .tup [a, b, .bl w.detail]
  have e1 : ∀ T : OT, Ev (dV (dCB listD (dCons (dOp ixD (dVar 1) (dC (.int 0))) dNil))) [.arg T, .val x, .un, .un, .un] (watchedD w) := fun T => ev_list (ev_at (i := 1) (xs := [a, b, .bl w.detail]) 0 rfl rfl) ha
  have e2 : ∀ T : OT, Ev (dV (dCB listD (dCons (dOp ixD (dVar 1) (dC (.int 1))) dNil))) [.arg T, .val x, .un, .un, .un] (plugsD w) := fun T => ev_list (ev_at (i := 1) (xs := [a, b, .bl w.detail]) 1 rfl rfl) hb
  have e3 : ∀ T : OT, Ev (dOp ixD (dVar 1) (dC (.int 2))) [.arg T, .val x, .un, .un, .un] (.bl w.detail) := fun T => ev_at (i := 1) (xs := [a, b, .bl w.detail]) 2 rfl rfl
  have pv : ∀ (fs : List (Str × OT)) (s2 : Sl), Pl (dpVar 0) [.arg (.ins p dx c.Table fs), .val x, s2, .un, .un] 0 [] (.ins p dx c.Table fs) (.ins p dx c.Table fs) := fun fs s2 => pl_var rfl
  -- controls
  refine pl_fsetE [.arg (.ins p dx c.Table (g1 w)), .val x, .un, .un, .un] (.ins p dx c.Table (g1 w)) (asT_ev (e1 _)) (pv [] _) (by decide) rfl rfl ?_
  -- plugs
  have p2 : putFs (Str.ofString "plugs") (.val (plugsD w)) (g1 w) = (g2 w) := put_new (by unfold g1; rw [look_skip (by decide +kernel)]; rfl)
  refine pl_fsetE [.arg (.ins p dx c.Table (g2 w)), .val x, .un, .un, .un] (.ins p dx c.Table (g2 w)) (asT_ev (e2 _)) (pv (g1 w) _) (by show 1 < 1000; decide) (congrArg (OT.ins p dx c.Table) p2) rfl ?_
  have p3 : putFs (Str.ofString "detail") (.val (.bl w.detail)) (g2 w) = (g3 w) := put_new (by unfold g2; rw [look_skip (by decide +kernel), look_skip (by decide +kernel)]; rfl)
  refine pl_fsetE [.arg (.ins p dx c.Table (g3 w)), .val x, .un, .un, .un] (.ins p dx c.Table (g3 w)) (asT_ev (e3 _)) (pv (g2 w) _) (by show 2 < 1000; decide) (congrArg (OT.ins p dx c.Table) p3) rfl ?_
  have lc : ∀ s2 : Sl, Ev (dLeaf (dpFd c.Table (dpVar 0) "controls")) [.arg (.ins p dx c.Table (g3 w)), .val x, s2, .un, .un] (watchedD w) := fun s2 => (pl_fd (pv _ s2) look_hit).leaf
  have lp : ∀ s2 : Sl, Ev (dLeaf (dpFd c.Table (dpVar 0) "plugs")) [.arg (.ins p dx c.Table (g3 w)), .val x, s2, .un, .un] (plugsD w) := fun s2 => (pl_fd (pv _ s2) (by unfold g3; rw [look_skip (by decide +kernel), look_hit])).leaf
  have nc : ∀ s2 : Sl, Ev (dV (dCB lenD (dCons (dLeaf (dpFd c.Table (dpVar 0) "controls")) dNil))) [.arg (.ins p dx c.Table (g3 w)), .val x, s2, .un, .un] (nD w.watched.length) := fun s2 => by
    have := ev_lenl (lc s2)
    rw [List.length_map] at this
    exact this
  have t1 : EvT (dTest (dOp gtD (dV (dCB lenD (dCons (dLeaf (dpFd c.Table (dpVar 0) "controls")) dNil))) (dC (.int 3)))) [.arg (.ins p dx c.Table (g3 w)), .val x, .un, .un, .un] false := evt_of (ev_op (nc _) ev_c fun Ψ q => by
    have : decide ((3 : Int) < (w.watched.length : Int)) = false := decide_eq_false (by omega)
    rw [← this] at q
    exact q)
  have t2 : Ev (dV (dLc (diAny (dLeaf (dpFd c.Table (dpVar 0) "controls"))) (dgName 3) (dNot (dTest (dChain leD ltD (dC (.int 0)) (dVar 3) (dC (.int 12))))) (dVar 3) [3])) [.arg (.ins p dx c.Table (g3 w)), .val x, .un, .un, .un] (.lst []) := fun Ψ q => by
    refine lc_pure (ρ1 := [.arg (.ins p dx c.Table (g3 w)), .val x, .un, .un, .un]) w.watched nD (fun _ => false) nD (any_open (lc _)) (by omega) (.inl rfl) (fun y hy Ψ2 h2 => ?_) (fun y hy z => nomatch z) ?_
    · have := ok.cols y hy
      exact evt_not (v := true) (evt_of (ev_rangeL ev_c (ev_var (x := nD y) rfl) ev_c (inr_ok this rfl))) _ h2
    · rw [show w.watched.filter (fun _ => false) = [] from List.filter_eq_nil_iff.mpr fun _ _ => by simp]
      exact q
  have t3 : EvT (dTest (dOp neD (dV (dLc (diAny (dLeaf (dpFd c.Table (dpVar 0) "controls"))) (dgName 3) (dNot (dTest (dChain leD ltD (dC (.int 0)) (dVar 3) (dC (.int 12))))) (dVar 3) [3])) (dV (dLst dNil)))) [.arg (.ins p dx c.Table (g3 w)), .val x, .un, .un, .un] false := evt_of (ev_op t2 (fun Ψ q => ⟨Nat.zero_le _, q⟩) fun Ψ q => ⟨rfl, rfl, q⟩)
  refine if_f (p := fun _ _ => False) (q := dNext) (evt_orF t1 t3) ?_
  have np : ∀ s2 : Sl, Ev (dV (dCB lenD (dCons (dLeaf (dpFd c.Table (dpVar 0) "plugs")) dNil))) [.arg (.ins p dx c.Table (g3 w)), .val x, s2, .un, .un] (nD w.plugs.length) := fun s2 => by
    have := ev_lenl (lp s2)
    rw [List.length_map] at this
    exact this
  refine for_inv' (rng w.plugs.length 0 1) (rng1_open (np _) (by omega)) (fun rest ρ => ∃ (n : Nat) (s2 : Sl), rest = rng (w.plugs.length - n) (n : Int) 1 ∧ dat s2 ∧ ρ = [.arg (.ins p dx c.Table (g3 w)), .val x, s2, .un, .un]) ⟨0, .un, rfl, .un, rfl⟩ ?_ ?_
  · rintro d rest ρ ⟨n, s2, e, f2, rfl⟩ K hK
    have hlt := rng_stop e
    rw [rng_step hlt] at e
    cases e
    refine ⟨f2.free rfl, ?_⟩
    have ec : Ev (dOp ixD (dLeaf (dpFd c.Table (dpVar 0) "plugs")) (dVar 2)) [.arg (.ins p dx c.Table (g3 w)), .val x, .val (.int (n : Int)), .un, .un] (plugD w.plugs[n]) :=
      ev_ixl (lp _) (ev_var rfl) (by rw [List.getElem?_map, List.getElem?_eq_getElem hlt]; rfl)
    have t : EvT (dTest (dV (dCall F_is_plug (dCons (dOp ixD (dLeaf (dpFd c.Table (dpVar 0) "plugs")) (dVar 2)) (dCons (dV (dCB lenD (dCons (dLeaf (dpFd c.Table (dpVar 0) "controls")) dNil))) dNil))))) [.arg (.ins p dx c.Table (g3 w)), .val x, .val (.int (n : Int)), .un, .un] true :=
      evt_of (ev_call2 ec (nc _) fun Ψ q => ⟨_, _, rfl, ok.plugs _ (List.getElem_mem hlt), q⟩)
    exact if_f (p := fun _ _ => False) (q := dNext) (evt_not t) (hK _ ⟨n + 1, .val (.int (n : Int)), by push_cast; rfl, .val _, rfl⟩)
  rintro ρ ⟨n, s2, e, f2, rfl⟩
  have p4 : putFs (Str.ofString "last") (.val .non) (g3 w) = (g4 w) := put_new (by unfold g3; rw [look_skip (by decide +kernel), look_skip (by decide +kernel), look_skip (by decide +kernel)]; rfl)
  refine pl_fsetE [.arg (.ins p dx c.Table (g4 w)), .val x, s2, .un, .un] (.ins p dx c.Table (g4 w)) (asT_ev ev_c) (pv (g3 w) _) (by show 3 < 1000; decide) (congrArg (OT.ins p dx c.Table) p4) rfl ?_
  have nc2 : Ev (dV (dOpR addD (dV (dCB lenD (dCons (dLeaf (dpFd c.Table (dpVar 0) "controls")) dNil))) (dC (.int 1)))) [.arg (.ins p dx c.Table (g4 w)), .val x, s2, .un, .un] (.int ((w.watched.length + 1 : Nat) : Int)) := by
    have h := ev_lenl (pl_fd (pv (g4 w) s2) look_hit).leaf
    rw [List.length_map] at h
    exact ev_add h ev_c (by push_cast; rfl)
  refine pl_fsetX (P := fun us => us.length = w.watched.length + 1 ∧ ∀ l, l < us.length → ∃ r, us[l]? = some r ∧ RowT c [] [] r) (ρ := [.arg (.ins p dx c.Table (g4 w)), .val x, s2, .un, .un]) (fun Ψ hΨ => ?_) (pv (g4 w) _) (by show 4 < 1000; decide) fun q us hu => ?_
  · refine lcO_open (rng1_open nc2 (by omega) _ ⟨by rw [rng_length]; omega, ⟨trivial, trivial⟩, ?_⟩)
    refine lcOL_inv (fun rest acc ρ => ∃ (s4 : Sl), acc.length + rest.length = w.watched.length + 1 ∧ (∀ l, l < acc.length → ∃ r, acc[l]? = some r ∧ RowT c [] [] r) ∧ ρ = [.arg (.ins p dx c.Table (g4 w)), .val x, s2, .un, s4]) ?_ ?_ ⟨.un, by rw [rng_length]; simp, fun k hk => absurd hk (by simp), rfl⟩
    · rintro y rest acc ρ ⟨s4, hl, hacc, rfl⟩ K hK
      refine ⟨trivial, ?_⟩
      refine callM_open (xs := []) (pl_var rfl) (by unfold g4; rw [look_skip (by decide +kernel), look_skip (by decide +kernel), look_skip (by decide +kernel), look_skip (by decide +kernel)]; rfl) (fun Ψ q => q) ⟨rfl, fun t ht => ⟨⟨trivial, trivial⟩, hK _ _ ⟨_, by rw [List.length_append]; simp at hl ⊢; omega, fun l hk => ?_, rfl⟩⟩⟩
      rw [List.length_append, List.length_singleton] at hk
      by_cases c' : l < acc.length
      · rw [List.getElem?_append_left c']
        exact hacc l c'
      · have : l = acc.length := by omega
        subst this
        exact ⟨t, by simp, ht⟩
    · rintro acc ρ ⟨s4, hl, hacc, rfl⟩ q
      exact hΨ q acc ⟨by simpa using hl, hacc⟩
  · have p5 : putFs (Str.ofString "counters") (.lst q us) (g4 w) = (g4 w ++ [(Str.ofString "counters", .lst q us)]) := put_new (by unfold g4; rw [look_skip (by decide +kernel), look_skip (by decide +kernel), look_skip (by decide +kernel), look_skip (by decide +kernel)]; rfl)
    show rtOx _ Φ (.val .non) [.arg (.ins p dx c.Table (putFs (Str.ofString "counters") (.lst q us) (g4 w))), .val x, s2, .un, .un]
    rw [p5]
    refine ⟨rfl, k _ rfl ⟨dx, q, us, rfl, hu.1, fun l hl => ?_⟩⟩
    obtain ⟨r, er, hr⟩ := hu.2 l (by omega)
    exact ⟨r, er, hr.fresh _⟩
end DL
set_option Elab.async false
set_option linter.all false
set_option maxRecDepth 100000
set_option maxHeartbeats 2000000
namespace DL
open PySem PySem.Spec PyProof.Rows L2 RT

/-! ### totals -/
/-- lo + n - 1, .., lo -/
def down : Nat → Nat → List Nat
  | 0, _ => []
  | n + 1, lo => (lo + n) :: down n lo
def totOf (w : Wiring) (prev : Card) (G : Nat → List Card) (l : Nat) : Str := totLine w.plugs prev (counted (G l) w.plugs) l
def totLines (w : Wiring) (prev : Card) (G : Nat → List Card) (lo : Nat) : List Str := (down (w.watched.length + 1 - lo) lo).map (totOf w prev G)
def keepG (G : Nat → List Card) (lo : Nat) : Nat → List Card := fun l => if l < lo then G l else []
def F_Table_totals (c : CA) : DFO := fun S xs Φ => ∃ (p : Addr) (w : Wiring) (G : Nat → List Card) (prev : Card) (lo : Nat), xs = [nD lo] ∧ Tab c p w G (some prev) S ∧ WiringOk w ∧ CardOk prev ∧ lo ≤ w.watched.length + 1 ∧
  ∀ S', S'.root = S.root → Tab c p w (keepG G lo) (some prev) S' → Φ (.own ((totLines w prev G lo).map D.str)) S'
/- slots of Table.totals: 0 self, 1 least, 2 found, 3 level -/
def b_Table_totals (c : CA) : DS := (dSeq (dSet 2 (dLst dNil))
  (dSeq (dFor (diRng3 (dV (dCB lenD (dCons (dLeaf (dpFd c.Table (dpVar 0) "controls")) dNil))) (dOp subD (dVar 1) (dC (.int 1))) (dUn negD (dC (.int 1)))) (dgName 3) (dSeq (dDrop (dApp 2 (dV (dCallM c.Table "total_row" (F_Table_total_row c) (dpVar 0) (dCons (dVar 3) dNil)))))
  (dPSetT (dpFd c.Table (dpVar 0) "counters") (dVar 3) (dCallM c.Table "fresh" (F_Table_fresh c) (dpVar 0) dNil))))
  (dRetM 2)))
theorem Rows.set {c : CA} {w : Wiring} {G : Nat → List Card} {rows : List OT} (h : Rows c w G rows) {l : Nat} {u : OT} (hl : l ≤ w.watched.length) {cs : List Card} (hu : RowT c w.plugs cs u) : Rows c w (fun j => if j = l then cs else G j) (rows.set l u) := ⟨by rw [List.length_set]; exact h.len, fun j hj => by
  by_cases e : j = l
  · subst e
    rw [if_pos rfl]
    exact ⟨u, List.getElem?_set_self (by rw [h.len]; omega), hu⟩
  · rw [if_neg e]
    rw [List.getElem?_set_ne (Ne.symm e)]
    exact h.row j hj⟩
theorem totals_len {w : Wiring} {prev : Card} {G : Nat → List Card} {lo n : Nat} : ((down n lo).map (totOf w prev G)).length = n := by
  rw [List.length_map]
  induction n with
  | zero => rfl
  | succ n ih => show (down n lo).length + 1 = n + 1; rw [ih]
theorem rd_Table_totals (c : CA) : ∀ S xs Φ, F_Table_totals c S xs Φ → b_Table_totals c (rtO S Φ) (.arg S :: slots xs 3) := by
  rintro S xs Φ ⟨p, w, G, prev, lo, rfl, ⟨dx, q, rows, rfl, hr⟩, ok, co, hlo, k⟩
  have l3 := ok.l3
  let T : List OT → OT := fun rows => tabT c p dx q w (lastD (some prev)) rows
  have pt : ∀ (rows : List OT) (s2 s3 : Sl), Pl (dpVar 0) [.arg (T rows), .val (nD lo), s2, s3] 0 [] (T rows) (T rows) := fun rows s2 s3 => pl_var rfl
  have elen : ∀ (rows : List OT) (s2 s3 : Sl), Ev (dV (dCB lenD (dCons (dLeaf (dpFd c.Table (dpVar 0) "controls")) dNil))) [.arg (T rows), .val (nD lo), s2, s3] (nD w.watched.length) := fun rows s2 s3 => by
    have := ev_lenl (pl_controls (pt rows s2 s3)).leaf
    rw [List.length_map] at this
    exact this
  refine ⟨Nat.zero_le _, trivial, ?_⟩
  refine for_inv' (rng (w.watched.length + 1 - lo) (w.watched.length : Int) (-1)) (fun Ψ h => ?_) (fun rest ρ => ∃ (n : Nat) (acc : List Str) (rows' : List OT) (s3 : Sl), rest = rng n ((lo : Int) + n - 1) (-1) ∧ lo + n ≤ w.watched.length + 1 ∧ acc ++ (down n lo).map (totOf w prev G) = totLines w prev G lo ∧ Rows c w (keepG G (lo + n)) rows' ∧ dat s3 ∧ ρ = [.arg (T rows'), .val (nD lo), .own (acc.map D.str), s3])
    ⟨w.watched.length + 1 - lo, [], rows, .un, by congr 1; omega, by omega, rfl, hr.congr fun l hl => by unfold keepG; rw [if_pos (by omega)], .un, rfl⟩ ?_ ?_
  · refine elen rows _ _ _ ?_
    have e : ((w.watched.length : Int) - ((lo : Int) - 1)).toNat = w.watched.length + 1 - lo := by omega
    refine ⟨by unfold inR; omega, by unfold inR; omega, ?_⟩
    rw [e]
    exact h
  · rintro d rest ρ ⟨n, acc, rows', s3, e, hn, ha, hr', f3, rfl⟩ K hK
    cases n with
    | zero => cases e
    | succ m =>
      have ex : ((lo : Int) + ((m + 1 : Nat) : Int) - 1) = ((lo + m : Nat) : Int) := by omega
      rw [ex] at e
      cases e
      refine ⟨f3.free rfl, ?_⟩
      have hlm : lo + m ≤ w.watched.length := by omega
      have acl : acc.length ≤ 4 := by
        have := congrArg List.length ha
        rw [List.length_append, totals_len] at this
        unfold totLines at this
        rw [totals_len] at this
        omega
      have eG : keepG G (lo + (m + 1)) (lo + m) = G (lo + m) := by unfold keepG; rw [if_pos (by omega)]
      refine app_own (i := 2) (ds := acc.map D.str) (x := .str (totOf w prev G (lo + m))) rfl (fun Ψ h => ?_) (by rw [List.length_map]; omega) ?_
      · refine callM_open (xs := [nD (lo + m)]) (pt rows' _ _) (fs_none (by decide +kernel) (by decide +kernel) (by decide +kernel) (by decide +kernel) (by decide +kernel)) (fun Ψ q => q) ?_
        refine ⟨p, w, keepG G (lo + (m + 1)), prev, lo + m, rfl, ⟨dx, q, rows', rfl, hr'⟩, ok, co, hlm, ?_⟩
        rw [eG]
        exact h
      · refine pl_setTX (v := dCallM c.Table "fresh" (F_Table_fresh c) (dpVar 0) dNil) (ρ0 := [.arg (T rows'), .val (nD lo), .own (acc.map D.str ++ [.str (totOf w prev G (lo + m))]), .val (nD (lo + m))]) (P := fun u => RowT c [] [] u) (ρ := [.arg (T rows'), .val (nD lo), .own (acc.map D.str ++ [.str (totOf w prev G (lo + m))]), .val (nD (lo + m))]) (j := lo + m) (fun Ψ hΨ => ?_) (pl_counters (pt rows' _ _)) (ev_var (i := 3) (x := nD (lo + m)) rfl) (by rw [hr'.len]; omega) fun u hu => ?_
        · exact callM_open (xs := []) (pt rows' _ _) (fs_none (by decide +kernel) (by decide +kernel) (by decide +kernel) (by decide +kernel) (by decide +kernel)) (fun Ψ q => q) ⟨rfl, fun t ht => hΨ t ht⟩
        · have hput : (T rows').put [.fd "counters"] (.lst q (rows'.set (lo + m) u)) = T (rows'.set (lo + m) u) := tab_put_counters _
          show K [.arg ((T rows').put [.fd "counters"] (.lst q (rows'.set (lo + m) u))), .val (nD lo), .own (acc.map D.str ++ [.str (totOf w prev G (lo + m))]), .val (nD (lo + m))]
          rw [hput]
          refine hK _ ⟨m, acc ++ [totOf w prev G (lo + m)], rows'.set (lo + m) u, .val (nD (lo + m)), ?_, by omega, ?_, (hr'.set hlm (hu.fresh w.plugs)).congr fun l hl => ?_, .val _, by rw [List.map_append]; rfl⟩
          · congr 1
          · rw [← ha]
            simp [down]
          · unfold keepG
            by_cases e : l = lo + m
            · rw [if_pos e, if_neg (by omega)]
            · rw [if_neg e]
              by_cases e2 : l < lo + m
              · rw [if_pos e2, if_pos (by omega)]
              · rw [if_neg e2, if_neg (by omega)]
  · rintro ρ ⟨n, acc, rows', s3, e, hn, ha, hr', f3, rfl⟩
    have hn0 : n = 0 := by
      have := congrArg List.length e
      rw [rng_length] at this
      simpa using this.symm
    subst hn0
    rw [show (down 0 lo).map (totOf w prev G) = [] from rfl, List.append_nil] at ha
    refine ⟨rfl, ?_⟩
    have := k (T rows') rfl ⟨dx, q, rows', rfl, hr'⟩
    rw [← ha] at this
    exact this
end DL
set_option Elab.async false
set_option linter.all false
set_option maxRecDepth 100000
set_option maxHeartbeats 2000000
namespace DL
open PySem PySem.Spec PyProof.Rows L2 RT

/-! ### a card fed -/
structure RowQ (c : CA) (q : Addr) (N : Nat → Nat) (t : OT) : Prop where
  ex : ∃ ts : List OT, t = .lst q ts ∧ ts.length = 4 ∧ ∀ k, k < 4 → ∃ p dx w, ts[k]? = some (ctrT c p dx w (N k))
def b_feed_plug (c : CA) : DS := (dSeq (dIfS (dTest (dOp eqD (dOp ixD (dVar 4) (dC (.int 0))) (dC (.str "add")))) (dDrop (dCallM c.Counter "add" (F_Counter_add c) (dpIx (dpVar 3) (dOp ixD (dVar 4) (dC (.int 1)))) (dCons (dV (dCB max2D (dCons (dC (.int 0)) (dCons (dV (dCall F_figure_of (dCons (dV (dCall F_column_of (dCons (dVar 1) (dCons (dOp ixD (dVar 4) (dC (.int 2))) dNil)))) dNil))) dNil)))) (dCons (dOp ixD (dVar 4) (dC (.int 3))) dNil)))) dNext)
  (dIfS (dTest (dOp eqD (dOp ixD (dVar 4) (dC (.int 0))) (dC (.str "count")))) (dDrop (dCallM c.Counter "add" (F_Counter_add c) (dpIx (dpVar 3) (dOp ixD (dVar 4) (dC (.int 1)))) (dCons (dC (.int 1)) (dCons (dC (.int 0)) dNil)))) dNext))
theorem put_ix1 {q : Addr} {ts : List OT} {k : Nat} {t u : OT} (h : ts[k]? = some t) : (OT.lst q ts).put [.ix k] u = .lst q (ts.set k u) := by
  show (match ts[k]? with
    | some t => OT.lst q (ts.set k (t.put [] u))
    | none => OT.lst q ts) = _
  rw [h]
  rfl
theorem ctr_none {f : Str} {t : OT} (h : (f == (Str.ofString "wheels")) = false) : ([(Str.ofString "wheels", t)] : List (Str × OT)).lookup f = none := (look_skip h).trans rfl
theorem row_add {c : CA} {q : Addr} {N N' : Nat → Nat} {ts : List OT} {k : Nat} {p dx w : Addr} (hk : k < 4) (l4 : ts.length = 4) (h : ∀ j, j < 4 → ∃ p dx w, ts[j]? = some (ctrT c p dx w (N j))) (hN : ∀ j, j < 4 → j ≠ k → N' j = N j) : RowQ c q N' (.lst q (ts.set k (ctrT c p dx w (N' k)))) := ⟨_, rfl, by rw [List.length_set]; exact l4, fun j hj => by
  by_cases e : j = k
  · subst e
    exact ⟨p, dx, w, List.getElem?_set_self (by omega)⟩
  · rw [List.getElem?_set_ne (Ne.symm e), hN j hj e]
    exact h j hj⟩
theorem feed_step {c : CA} {Δ : Ds} {T row : OT} {card : Card} {s2 : Sl} {pg : Plug} {L : Nat} {q : Addr} {N : Nat → Nat} (co : CardOk card) (po : PlugOk L pg) (hr : RowQ c q N row)
    (k : ∀ row', RowQ c q (fun j => N j + plugN j card pg) row' → Δ.nx [.arg T, .val (cardD card), s2, .arg row', .val (plugD pg)]) : b_feed_plug c Δ [.arg T, .val (cardD card), s2, .arg row, .val (plugD pg)] := by
  obtain ⟨ts, rfl, l4, hts⟩ := hr
  have i4 : ∀ r : OT, ([.arg T, .val (cardD card), s2, .arg r, .val (plugD pg)] : List Sl)[4]? = some (.val (plugD pg)) := fun _ => rfl
  have same : (∀ j, plugN j card pg = 0) → Δ.nx [.arg T, .val (cardD card), s2, .arg (.lst q ts), .val (plugD pg)] := fun h => k _ ⟨ts, rfl, l4, fun j hj => by
    rw [h j, Nat.add_zero]
    exact hts j hj⟩
  cases pg with
  | add kk col wh =>
    obtain ⟨h1, h2, h3⟩ := po
    obtain ⟨p1, dx1, w1, e1⟩ := hts kk h1
    refine if_t (evt_eqS (ev_word (i4 _) rfl)) ?_
    have pc : Pl (dpIx (dpVar 3) (dOp ixD (dVar 4) (dC (.int 1)))) [.arg T, .val (cardD card), s2, .arg (.lst q ts), .val (plugD (.add kk col wh))] 3 ([] ++ [.ix kk]) (.lst q ts) (ctrT c p1 dx1 w1 (N kk)) :=
      pl_ix (pl_var rfl) (ev_num (x := nD kk) 1 (i4 _) (p := .add kk col wh) (ys := [.str "add", nD kk, nD col, nD wh]) rfl rfl) e1
    have em : Ev (dV (dCB max2D (dCons (dC (.int 0)) (dCons (dV (dCall F_figure_of (dCons (dV (dCall F_column_of (dCons (dVar 1) (dCons (dOp ixD (dVar 4) (dC (.int 2))) dNil)))) dNil))) dNil)))) [.arg T, .val (cardD card), s2, .arg (.lst q ts), .val (plugD (.add kk col wh))] (nD (holesOf card col)) := fun Ψ z => by
      refine ev_call1 (ev_colOf (ev_var (i := 1) rfl) (ev_num (x := nD col) 2 (i4 _) (p := .add kk col wh) (ys := [.str "add", nD kk, nD col, nD wh]) rfl rfl)) (u := .int (figOf (colAt card (col : Int)))) (fun Ψ z => ⟨_, rfl, z⟩) _ ?_
      show Ψ (.int (if figOf (colAt card (col : Int)) > 0 then figOf (colAt card (col : Int)) else 0)) _
      rw [holes_max co col]
      exact z
    refine callM_open (xs := [nD (holesOf card col), nD wh]) pc (ctr_none (by decide +kernel)) (fun Ψ z => em _ (ev_num (x := nD wh) 3 (i4 _) (p := .add kk col wh) (ys := [.str "add", nD kk, nD col, nD wh]) rfl rfl _ z)) ⟨p1, dx1, w1, N kk, holesOf card col, wh, rfl, rfl, ?_⟩
    have eput : (OT.lst q ts).put ([] ++ [.ix kk]) (ctrT c p1 dx1 w1 (N kk + holesOf card col * 10 ^ wh)) = .lst q (ts.set kk (ctrT c p1 dx1 w1 (N kk + holesOf card col * 10 ^ wh))) := put_ix1 e1
    dsimp only
    rw [eput]
    refine if_f (evt_eqS (ev_word (i4 _) rfl)) (k _ ?_)
    have := row_add (c := c) (q := q) (N := N) (N' := fun j => N j + plugN j card (.add kk col wh)) (p := p1) (dx := dx1) (w := w1) h1 l4 hts fun j hj ne => by
      show N j + (if kk = j then _ else 0) = N j
      simp [Ne.symm ne]
    simpa [plugN] using this
  | count kk =>
    have h1 := po
    obtain ⟨p1, dx1, w1, e1⟩ := hts kk h1
    refine if_f (evt_eqS (ev_word (i4 _) rfl)) (if_t (evt_eqS (ev_word (i4 _) rfl)) ?_)
    have pc : Pl (dpIx (dpVar 3) (dOp ixD (dVar 4) (dC (.int 1)))) [.arg T, .val (cardD card), s2, .arg (.lst q ts), .val (plugD (.count kk))] 3 ([] ++ [.ix kk]) (.lst q ts) (ctrT c p1 dx1 w1 (N kk)) :=
      pl_ix (pl_var rfl) (ev_num (x := nD kk) 1 (i4 _) (p := .count kk) (ys := [.str "count", nD kk]) rfl rfl) e1
    refine callM_open (xs := [nD 1, nD 0]) pc (ctr_none (by decide +kernel)) (fun Ψ z => z) ⟨p1, dx1, w1, N kk, 1, 0, rfl, rfl, ?_⟩
    have eput : (OT.lst q ts).put ([] ++ [.ix kk]) (ctrT c p1 dx1 w1 (N kk + 1 * 10 ^ 0)) = .lst q (ts.set kk (ctrT c p1 dx1 w1 (N kk + 1 * 10 ^ 0))) := put_ix1 e1
    dsimp only
    rw [eput]
    refine k _ ?_
    have := row_add (c := c) (q := q) (N := N) (N' := fun j => N j + plugN j card (.count kk)) (p := p1) (dx := dx1) (w := w1) h1 l4 hts fun j hj ne => by
      show N j + (if kk = j then 1 else 0) = N j
      simp [Ne.symm ne]
    simpa [plugN] using this
  | hole | head | print | level => exact if_f (evt_eqS (ev_word (i4 _) rfl)) (if_f (evt_eqS (ev_word (i4 _) rfl)) (same fun _ => rfl))
def b_feed_row (c : CA) : DS := dFor (diAny (dLeaf (dpFd c.Table (dpVar 0) "plugs"))) (dgName 4) (b_feed_plug c)
theorem feed_row {c : CA} {Δ : Ds} {p dx q0 : Addr} {w : Wiring} {last : D} {rows : List OT} {row : OT} {card : Card} {s2 s4 : Sl} {q : Addr} {cs : List Card} (ok : WiringOk w) (co : CardOk card) (f4 : dat s4) (hr : RowQ c q (counted cs w.plugs) row)
    (k : ∀ row' s4, dat s4 → RowQ c q (counted (cs ++ [card]) w.plugs) row' → Δ.nx [.arg (tabT c p dx q0 w last rows), .val (cardD card), s2, .arg row', s4]) : b_feed_row c Δ [.arg (tabT c p dx q0 w last rows), .val (cardD card), s2, .arg row, s4] := by
  refine for_inv' (w.plugs.map plugD) (any_open (pl_plugs (pl_var rfl)).leaf) (fun rest ρ => ∃ (a b : List Plug) (row' : OT) (s4 : Sl), w.plugs = a ++ b ∧ rest = b.map plugD ∧ dat s4 ∧ RowQ c q (fun j => counted cs w.plugs j + cardN a j card) row' ∧ ρ = [.arg (tabT c p dx q0 w last rows), .val (cardD card), s2, .arg row', s4]) ⟨[], w.plugs, row, s4, rfl, rfl, f4, hr, rfl⟩ ?_ ?_
  · rintro d rest ρ ⟨a, b, row', s4, ea, eb, f4, hr', rfl⟩ K hK
    cases b with
    | nil => cases eb
    | cons pg b =>
      cases eb
      have pm : pg ∈ w.plugs := by rw [ea]; simp
      refine ⟨f4.free rfl, ?_⟩
      refine feed_step co (ok.plugs pg pm) hr' fun row2 h2 => hK _ ⟨a ++ [pg], b, row2, .val (plugD pg), by rw [ea]; simp, rfl, .val _, ?_, rfl⟩
      obtain ⟨ts, e, l, h⟩ := h2
      refine ⟨ts, e, l, fun j hj => ?_⟩
      have := h j hj
      simpa [cardN, Nat.add_assoc] using this
  · rintro ρ ⟨a, b, row', s4, ea, eb, f4, hr', rfl⟩
    have : b = [] := by simpa using eb.symm
    subst this
    rw [List.append_nil] at ea
    subst ea
    refine k _ _ f4 ?_
    obtain ⟨ts, e, l, h⟩ := hr'
    refine ⟨ts, e, l, fun j hj => ?_⟩
    have := h j hj
    simpa [counted] using this
end DL
set_option Elab.async false
set_option linter.all false
set_option maxRecDepth 100000
set_option maxHeartbeats 2000000
namespace DL
open PySem PySem.Spec PyProof.Rows L2 RT

/-! ### feed, ends -/
theorem forPL_step {i j : Nat} {π : List Stp} {b : DS} {Δ : Ds} {n k : Nat} {ρ : List Sl} {t s H : OT} (ij : i ≠ j) (fj : free ρ j) (ht : treeOf (ρ[i]?) = some t) (hg : t.get (π ++ [.ix k]) = some s) (hs : s.node = true) (eh : t.put (π ++ [.ix k]) (.val (.cls s.adr)) = H)
    (h : ∀ back : List Sl → Prop, (∀ ρ2 s', ρ2[j]? = some (withTree s' (ρ[i]?)) → s'.node = true → s'.adr = s.adr → ρ2[i]? = some (withTree H (ρ[i]?)) → dForPL i j π b Δ n (k + 1) ((ρ2.set i (withTree (H.put (π ++ [.ix k]) s') (ρ[i]?))).set j .un) → back ρ2) → b { nx := back, rt := fun _ _ => False, bk := fun _ => False, ct := back } ((ρ.set i (withTree H (ρ[i]?))).set j (withTree s (ρ[i]?)))) : dForPL i j π b Δ (n + 1) k ρ := by
  subst eh
  exact ⟨ij, fj, t, s, ht, hg, hs, h _ fun ρ2 s' h1 h2 h3 h4 h5 => ⟨s', h1, h2, h3, h4, h5⟩⟩
theorem put_fdc {p dx C : Addr} {fs : List (Str × OT)} {f : Str} {t u : OT} {π : List Stp} (h : fs.lookup f = some t) : (OT.ins p dx C fs).put (.fd f :: π) u = .ins p dx C (putFs f (t.put π u) fs) := by
  show (match fs.lookup f with
    | some t => OT.ins p dx C (putFs f (t.put π u) fs)
    | none => OT.ins p dx C fs) = _
  rw [h]
section
variable {c : CA} {p dx q : Addr} {w : Wiring} {last : D} {rows : List OT} {k : Nat} {r : OT}
theorem tab_put_row (h : rows[k]? = some r) (u : OT) : (tabT c p dx q w last rows).put ([] ++ [.fd "counters"] ++ [.ix k]) u = tabT c p dx q w last (rows.set k u) := by
  rw [tab_eq]
  show (OT.ins p dx c.Table _).put (.fd "counters" :: [.ix k]) u = _
  rw [put_fdc fs_counters, put_ix1 h, fs_put_counters]
  rfl
theorem tab_get_row (h : rows[k]? = some r) : (tabT c p dx q w last rows).get ([] ++ [.fd "counters"] ++ [.ix k]) = some r := by
  have hg : (tabT c p dx q w last rows).get ([] ++ [.fd "counters"]) = some (.lst q rows) := (pl_counters (c := c) (dp := dpVar 0) (ρ := [.arg (tabT c p dx q w last rows)]) (pl_var rfl)).get
  rw [get_app hg]
  show (match rows[k]? with | some t => t.get [] | none => none) = _
  rw [h]
  rfl
end
theorem feed_rows {c : CA} {Δ : Ds} {p dx q : Addr} {w : Wiring} {last : D} {card : Card} {s2 : Sl} {G : Nat → List Card} (ok : WiringOk w) (co : CardOk card) (fin : ∀ rows' s4, dat s4 → Rows c w (fun l => G l ++ [card]) rows' → Δ.nx [.arg (tabT c p dx q w last rows'), .val (cardD card), s2, .un, s4]) :
    ∀ (n k : Nat) (rows : List OT) (s4 : Sl), k + n = w.watched.length + 1 → dat s4 → Rows c w (fun l => if l < k then G l ++ [card] else G l) rows → dForPL 0 3 ([] ++ [.fd "counters"]) (b_feed_row c) Δ n k [.arg (tabT c p dx q w last rows), .val (cardD card), s2, .un, s4]
  | 0, k, rows, s4, hk, f4, hr => fin rows s4 f4 (hr.congr fun l hl => if_pos (by omega))
  | n + 1, k, rows, s4, hk, f4, hr => by
    obtain ⟨r, er, q', ts, rfl, l4, hts⟩ := hr.row k (by omega)
    rw [if_neg (by omega)] at hts
    refine forPL_step (t := tabT c p dx q w last rows) (s := .lst q' ts) (by decide) trivial rfl (tab_get_row er) rfl (tab_put_row er _) fun back hback => ?_
    refine feed_row (c := c) (row := .lst q' ts) (q := q') ok co f4 ⟨ts, rfl, l4, hts⟩ fun row' s4 f4' hr' => ?_
    obtain ⟨ts', rfl, l4', hts'⟩ := hr'
    have e1 : (rows.set k (.val (.cls (OT.lst q' ts).adr)))[k]? = some (.val (.cls (OT.lst q' ts).adr)) := List.getElem?_set_self (by rw [hr.len]; omega)
    refine hback _ (.lst q' ts') rfl rfl rfl rfl ?_
    rw [tab_put_row e1, List.set_set]
    refine feed_rows ok co fin n (k + 1) (rows.set k (.lst q' ts')) s4 (by omega) f4' ((hr.set (l := k) (cs := G k ++ [card]) (by omega) ⟨q', ts', rfl, l4', hts'⟩).congr fun l hl => ?_)
    by_cases e : l = k
    · subst e
      rw [if_pos rfl, if_pos (by omega)]
    · rw [if_neg e]
      by_cases e2 : l < k
      · rw [if_pos e2, if_pos (by omega)]
      · rw [if_neg e2, if_neg (by omega)]
def baseG (w : Wiring) (G : Nat → List Card) (last : Option Card) (card : Card) : Nat → List Card := match last with
  | none => G
  | some prev => keepG G (least w prev card)
def fedG (w : Wiring) (G : Nat → List Card) (last : Option Card) (card : Card) : Nat → List Card := fun l => baseG w G last card l ++ [card]
def baseLines (w : Wiring) (G : Nat → List Card) (last : Option Card) (card : Card) : List Str := match last with
  | none => []
  | some prev => totLines w prev G (least w prev card)
def fedLines (w : Wiring) (G : Nat → List Card) (last : Option Card) (card : Card) : List Str := baseLines w G last card ++ (if w.detail then [detLine w.plugs card] else [])
theorem least_le (w : Wiring) (prev card : Card) : least w prev card ≤ w.watched.length + 1 := by
  unfold least
  have := List.findIdx_le_length (p := fun (x : Nat) => !decide (colAt card (x : Int) = colAt prev (x : Int))) (xs := w.watched)
  omega
def F_Table_feed (c : CA) : DFO := fun S xs Φ => ∃ (p : Addr) (w : Wiring) (G : Nat → List Card) (last : Option Card) (card : Card), xs = [cardD card] ∧ Tab c p w G last S ∧ WiringOk w ∧ CardOk card ∧ (∀ x, last = some x → CardOk x) ∧
  ∀ S', S'.root = S.root → Tab c p w (fedG w G last card) (some card) S' → Φ (.own ((fedLines w G last card).map D.str)) S'
/- slots of Table.feed: 0 self, 1 card, 2 found, 3 row, 4 plug -/
def b_Table_feed (c : CA) : DS := (dSeq (dSet 2 (dLst dNil))
  (dSeq (dIfS (dTest (dOp notN (dLeaf (dpFd c.Table (dpVar 0) "last")) (dC .non))) (dSet 2 (dCallM c.Table "totals" (F_Table_totals c) (dpVar 0) (dCons (dV (dCallM c.Table "changed" (F_Table_changed c) (dpVar 0) (dCons (dVar 1) dNil))) dNil))) dNext)
  (dSeq (dFSet c.Table (dpVar 0) "last" (dR (dVar 1)))
  (dSeq (dForP (dpFd c.Table (dpVar 0) "counters") 3 (b_feed_row c))
  (dSeq (dIfS (dTest (dLeaf (dpFd c.Table (dpVar 0) "detail"))) (dDrop (dApp 2 (dV (dCallM c.Table "detail_row" (F_Table_detail_row c) (dpVar 0) (dCons (dVar 1) dNil))))) dNext)
  (dRetM 2))))))
theorem none_of {f : Str} {a b d l e : OT} (h1 : (f == Str.ofString "controls") = false := by decide +kernel) (h2 : (f == Str.ofString "plugs") = false := by decide +kernel) (h3 : (f == Str.ofString "detail") = false := by decide +kernel) (h4 : (f == Str.ofString "last") = false := by decide +kernel) (h5 : (f == Str.ofString "counters") = false := by decide +kernel) : (fs5 a b d l e).lookup f = none := fs_none h1 h2 h3 h4 h5
theorem Rows.nodes {c : CA} {w : Wiring} {G : Nat → List Card} {rows : List OT} (h : Rows c w G rows) : ∀ x ∈ rows, x.node = true := fun x hx => by
  obtain ⟨l, hl, e⟩ := List.getElem_of_mem hx
  obtain ⟨r, er, q, ts, e2, _⟩ := h.row l (by have := h.len; omega)
  rw [List.getElem?_eq_getElem hl, e] at er
  cases er
  rw [e2]
  rfl
theorem feed_tail {c : CA} {p dx q : Addr} {w : Wiring} {last : D} {rows : List OT} {card : Card} {G : Nat → List Card} {base : List Str} {S : OT} {Φ : Sl → OT → Prop} (hS : S.root = .ref p) (ok : WiringOk w) (co : CardOk card) (hr : Rows c w G rows) (hb : base.length ≤ 1000)
    (k : ∀ S', S'.root = S.root → Tab c p w (fun l => G l ++ [card]) (some card) S' → Φ (.own ((base ++ (if w.detail then [detLine w.plugs card] else [])).map D.str)) S') :
    dSeq (dFSet c.Table (dpVar 0) "last" (dR (dVar 1))) (dSeq (dForP (dpFd c.Table (dpVar 0) "counters") 3 (b_feed_row c)) (dSeq (dIfS (dTest (dLeaf (dpFd c.Table (dpVar 0) "detail"))) (dDrop (dApp 2 (dV (dCallM c.Table "detail_row" (F_Table_detail_row c) (dpVar 0) (dCons (dVar 1) dNil))))) dNext) (dRetM 2))) (rtO S Φ)
      [.arg (tabT c p dx q w last rows), .val (cardD card), .own (base.map D.str), .un, .un] := by
  refine pl_fsetE [.arg (tabT c p dx q w (cardD card) rows), .val (cardD card), .own (base.map D.str), .un, .un] (tabT c p dx q w (cardD card) rows) (asT_ev (ev_var (i := 1) rfl)) (pl_var (ρ := [.arg (tabT c p dx q w last rows), .val (cardD card), .own (base.map D.str), .un, .un]) (t := tabT c p dx q w last rows) rfl) (by show 5 < 1000; decide) ?_ rfl ?_
  · show OT.ins p dx c.Table (putFs "last" (.val (cardD card)) (fs5 _ _ _ _ _)) = _
    rw [fs_put_last]
    rfl
  show dForP (dpFd c.Table (dpVar 0) "counters") 3 (b_feed_row c) _ _
  unfold dForP
  refine (pl_counters (pl_var (ρ := [.arg (tabT c p dx q w (cardD card) rows), .val (cardD card), .own (base.map D.str), .un, .un]) rfl)).ev _ ⟨hr.nodes, ?_⟩
  rw [hr.len]
  refine feed_rows (G := G) ok co (fun rows' s4 f4 hr' => ?_) _ 0 rows .un (by omega) .un (hr.congr fun l hl => by simp)
  have hb' : (base.map D.str).length ≤ 1000000 := by rw [List.length_map]; omega
  have pv : Pl (dpVar 0) [.arg (tabT c p dx q w (cardD card) rows'), .val (cardD card), .own (base.map D.str), .un, s4] 0 [] (tabT c p dx q w (cardD card) rows') (tabT c p dx q w (cardD card) rows') := pl_var rfl
  have T' : Tab c p w (fun l => G l ++ [card]) (some card) (tabT c p dx q w (cardD card) rows') := ⟨dx, q, rows', rfl, hr'⟩
  have kk := k _ (by rw [hS]; rfl) T'
  refine if_b (evt_of (pl_detail pv).leaf) (fun e => ?_) (fun e => ?_)
  · rw [e, if_pos rfl, List.map_append] at kk
    refine app_own (i := 2) (ds := base.map D.str) (x := .str (detLine w.plugs card)) rfl (fun Ψ h => ?_) hb' ⟨by rw [hS]; rfl, kk⟩
    exact callM_open (xs := [cardD card]) pv none_of (fun Ψ q => q) ⟨p, w, _, some card, card, rfl, T', ok, co, h⟩
  · rw [e, if_neg (by simp), List.append_nil] at kk
    exact ⟨by rw [hS]; rfl, kk⟩
theorem rd_Table_feed (c : CA) : ∀ S xs Φ, F_Table_feed c S xs Φ → b_Table_feed c (rtO S Φ) (.arg S :: slots xs 4) := by
  rintro S xs Φ ⟨p, w, G, last, card, rfl, ⟨dx, q, rows, rfl, hr⟩, ok, co, cl, k⟩
  have l3 := ok.l3
  refine ⟨Nat.zero_le _, trivial, ?_⟩
  have pv : Pl (dpVar 0) [.arg (tabT c p dx q w (lastD last) rows), .val (cardD card), .own [], .un, .un] 0 [] (tabT c p dx q w (lastD last) rows) (tabT c p dx q w (lastD last) rows) := pl_var rfl
  cases last with
  | none =>
    have t : EvT (dTest (dOp notN (dLeaf (dpFd c.Table (dpVar 0) "last")) (dC .non))) [.arg (tabT c p dx q w (lastD none) rows), .val (cardD card), .own [], .un, .un] false := evt_of (ev_op (pl_last pv).leaf ev_c fun Ψ q => q)
    refine if_f t ?_
    exact feed_tail (base := []) rfl ok co hr (by simp) k
  | some prev =>
    have t : EvT (dTest (dOp notN (dLeaf (dpFd c.Table (dpVar 0) "last")) (dC .non))) [.arg (tabT c p dx q w (lastD (some prev)) rows), .val (cardD card), .own [], .un, .un] true := evt_of (ev_op (pl_last pv).leaf ev_c fun Ψ q => q)
    refine if_t t ?_
    have ch : Ev (dV (dCallM c.Table "changed" (F_Table_changed c) (dpVar 0) (dCons (dVar 1) dNil))) [.arg (tabT c p dx q w (lastD (some prev)) rows), .val (cardD card), .own [], .un, .un] (nD (least w prev card)) := fun Ψ h =>
      callM_open (xs := [cardD card]) pv none_of (fun Ψ q => q) ⟨p, w, G, prev, card, rfl, ⟨dx, q, rows, rfl, hr⟩, ok, h⟩
    refine callM_open (xs := [nD (least w prev card)]) pv none_of (fun Ψ q => ch _ q) ⟨p, w, G, prev, least w prev card, rfl, ⟨dx, q, rows, rfl, hr⟩, ok, cl prev rfl, least_le w prev card, fun S' er hT => ?_⟩
    obtain ⟨dx', q', rows', rfl, hr'⟩ := hT
    refine ⟨trivial, ?_⟩
    refine feed_tail (base := totLines w prev G (least w prev card)) rfl ok co hr' ?_ k
    unfold totLines
    rw [totals_len]
    omega
end DL
set_option Elab.async false
set_option linter.all false
set_option maxRecDepth 100000
set_option maxHeartbeats 2000000
namespace DL
open PySem PySem.Spec PyProof.Rows L2 RT

/-! ### ends, printed -/
def endLines (w : Wiring) (G : Nat → List Card) (last : Option Card) : List Str := match last with
  | none => []
  | some prev => totLines w prev G 0
def endG (G : Nat → List Card) (last : Option Card) : Nat → List Card := match last with
  | none => G
  | some _ => keepG G 0
def F_Table_ends (c : CA) : DFO := fun S xs Φ => ∃ (p : Addr) (w : Wiring) (G : Nat → List Card) (last : Option Card), xs = [] ∧ Tab c p w G last S ∧ WiringOk w ∧ (∀ x, last = some x → CardOk x) ∧
  ∀ S', S'.root = S.root → Tab c p w (endG G last) none S' → Φ (.own ((endLines w G last).map D.str)) S'
/- slots of Table.ends: 0 self, 1 found -/
def b_Table_ends (c : CA) : DS := (dSeq (dIfS (dTest (dOp isN (dLeaf (dpFd c.Table (dpVar 0) "last")) (dC .non))) (dRet (dLst dNil)) dNext)
  (dSeq (dSet 1 (dCallM c.Table "totals" (F_Table_totals c) (dpVar 0) (dCons (dC (.int 0)) dNil)))
  (dSeq (dFSet c.Table (dpVar 0) "last" (dR (dC .non)))
  (dRetM 1))))
theorem rd_Table_ends (c : CA) : ∀ S xs Φ, F_Table_ends c S xs Φ → b_Table_ends c (rtO S Φ) (.arg S :: slots xs 1) := by
  rintro S xs Φ ⟨p, w, G, last, rfl, ⟨dx, q, rows, rfl, hr⟩, ok, cl, k⟩
  have l3 := ok.l3
  have pv : Pl (dpVar 0) [.arg (tabT c p dx q w (lastD last) rows), .un] 0 [] (tabT c p dx q w (lastD last) rows) (tabT c p dx q w (lastD last) rows) := pl_var rfl
  cases last with
  | none =>
    have t : EvT (dTest (dOp isN (dLeaf (dpFd c.Table (dpVar 0) "last")) (dC .non))) [.arg (tabT c p dx q w (lastD none) rows), .un] true := evt_of (ev_op (pl_last pv).leaf ev_c fun Ψ q => q)
    exact if_t t ⟨Nat.zero_le _, rfl, k _ rfl ⟨dx, q, rows, rfl, hr⟩⟩
  | some prev =>
    have t : EvT (dTest (dOp isN (dLeaf (dpFd c.Table (dpVar 0) "last")) (dC .non))) [.arg (tabT c p dx q w (lastD (some prev)) rows), .un] false := evt_of (ev_op (pl_last pv).leaf ev_c fun Ψ q => q)
    refine if_f t ?_
    show dSet 1 (dCallM c.Table "totals" (F_Table_totals c) (dpVar 0) (dCons (dC (.int 0)) dNil)) _ [.arg (tabT c p dx q w (lastD (some prev)) rows), .un]
    refine callM_open (m := "totals") (f := F_Table_totals c) (da := dCons (dC (.int 0)) dNil) (xs := [nD 0]) pv none_of (fun Ψ q => q) ⟨p, w, G, prev, 0, rfl, ⟨dx, q, rows, rfl, hr⟩, ok, cl prev rfl, by omega, fun S' er hT => ?_⟩
    obtain ⟨dx', q', rows', rfl, hr'⟩ := hT
    refine ⟨trivial, ?_⟩
    have pv2 : Pl (dpVar 0) [.arg (tabT c p dx' q' w (lastD (some prev)) rows'), .own ((totLines w prev G 0).map D.str)] 0 [] (tabT c p dx' q' w (lastD (some prev)) rows') (tabT c p dx' q' w (lastD (some prev)) rows') := pl_var rfl
    refine pl_fsetE [.arg (tabT c p dx' q' w .non rows'), .own ((totLines w prev G 0).map D.str)] (tabT c p dx' q' w .non rows') (asT_ev ev_c) pv2 (by show 5 < 1000; decide) ?_ rfl ?_
    · show OT.ins p dx' c.Table (putFs "last" (.val .non) (fs5 _ _ _ _ _)) = _
      rw [fs_put_last]
      rfl
    · exact ⟨rfl, k _ rfl ⟨dx', q', rows', rfl, hr'⟩⟩
def rowsL (w : Wiring) (G : Nat → List Card) (last : Option Card) : List Card → List (List Str)
  | [] => []
  | c :: r => fedLines w G last c :: rowsL w (fedG w G last c) (some c) r
def runG (w : Wiring) (G : Nat → List Card) (last : Option Card) : List Card → (Nat → List Card)
  | [] => G
  | c :: r => runG w (fedG w G last c) (some c) r
def runLast (last : Option Card) : List Card → Option Card
  | [] => last
  | c :: r => runLast (some c) r
/-- the lines of each card, then those at the end -/
def dueL (w : Wiring) (d : List Card) : List (List Str) := rowsL w (fun _ => []) none d ++ [endLines w (runG w (fun _ => []) none d) (runLast none d)]
theorem fedLines_len {w : Wiring} (ok : WiringOk w) (G : Nat → List Card) (last : Option Card) (c : Card) : (fedLines w G last c).length ≤ 5 := by
  have l3 := ok.l3
  unfold fedLines
  rw [List.length_append]
  have h1 : (baseLines w G last c).length ≤ 4 := by
    cases last with
    | none => simp [baseLines]
    | some prev =>
      show (totLines w prev G (least w prev c)).length ≤ 4
      unfold totLines
      rw [totals_len]
      omega
  have h2 : (if w.detail then [detLine w.plugs c] else []).length ≤ 1 := by split <;> simp
  omega
theorem endLines_len {w : Wiring} (ok : WiringOk w) (G : Nat → List Card) (last : Option Card) : (endLines w G last).length ≤ 4 := by
  have l3 := ok.l3
  cases last with
  | none => simp [endLines]
  | some prev =>
    show (totLines w prev G 0).length ≤ 4
    unfold totLines
    rw [totals_len]
    omega
theorem rowsL_app (w : Wiring) : ∀ (a b : List Card) (G : Nat → List Card) (last : Option Card), rowsL w G last (a ++ b) = rowsL w G last a ++ rowsL w (runG w G last a) (runLast last a) b
  | [], b, G, last => rfl
  | c :: a, b, G, last => by
    show fedLines w G last c :: rowsL w _ _ (a ++ b) = _
    rw [rowsL_app w a b]
    rfl
theorem runG_app (w : Wiring) : ∀ (a b : List Card) (G : Nat → List Card) (last : Option Card), runG w G last (a ++ b) = runG w (runG w G last a) (runLast last a) b
  | [], b, G, last => rfl
  | c :: a, b, G, last => runG_app w a b _ _
theorem runLast_app : ∀ (a b : List Card) (last : Option Card), runLast last (a ++ b) = runLast (runLast last a) b
  | [], b, last => rfl
  | c :: a, b, last => runLast_app a b _
theorem runLast_ok : ∀ (a : List Card) (last : Option Card), (∀ x, last = some x → CardOk x) → (∀ x ∈ a, CardOk x) → ∀ x, runLast last a = some x → CardOk x
  | [], last, h, _ => h
  | c :: a, last, _, ha => runLast_ok a (some c) (fun x e => by cases e; exact ha c List.mem_cons_self) fun x hx => ha x (List.mem_cons_of_mem _ hx)
theorem flat_len5 {w : Wiring} (ok : WiringOk w) : ∀ (a : List Card) (G : Nat → List Card) (last : Option Card), (rowsL w G last a).flatten.length ≤ a.length * 5
  | [], _, _ => by simp [rowsL]
  | c :: a, G, last => by
    have h1 := fedLines_len ok G last c
    have h2 := flat_len5 ok a (fedG w G last c) (some c)
    show ((fedLines w G last c) ++ (rowsL w (fedG w G last c) (some c) a).flatten).length ≤ (a.length + 1) * 5
    rw [List.length_append]
    omega
def F_printed (c : CA) : DF := fun xs Φ => ∃ (d : List Card) (w : Wiring), xs = [deckD d, wiringD w] ∧ d.length ≤ 1000 ∧ (∀ x ∈ d, CardOk x) ∧ WiringOk w ∧ Φ (.own ((dueL w d).flatten.map D.str))
theorem ext_own {i : Nat} {e : DE} {Δ : Ds} {ρ ρ' : List Sl} {ds xs : List D} (h : ρ[i]? = some (.own ds)) (g : ∀ Ψ : D → List Sl → Prop, Ψ (.lst xs) ρ' → e ρ Ψ) (h' : ρ'[i]? = some (.own ds)) (hl : ds.length + xs.length ≤ 1000000) (q : Δ.nx (ρ'.set i (.own (ds ++ xs)))) : dDrop (dExt i e) Δ ρ := by
  show dExt i e ρ _
  unfold dExt
  rw [h]
  refine g _ ?_
  rw [h']
  exact ⟨hl, q⟩
/- slots of printed: 0 deck, 1 wiring, 2 table, 3 found, 4 card -/
def b_printed (c : CA) : DS := (dSeq (dSet 2 (dMk c.Table (F_Table_init c) (dCons (dVar 1) dNil)))
  (dSeq (dSet 3 (dLst dNil))
  (dSeq (dFor (diAny (dVar 0)) (dgName 4) (dDrop (dExt 3 (dV (dCallM c.Table "feed" (F_Table_feed c) (dpVar 2) (dCons (dVar 4) dNil))))))
  (dRet (dOpR addD (dVar 3) (dV (dCallM c.Table "ends" (F_Table_ends c) (dpVar 2) dNil)))))))
theorem rd_printed (c : CA) : ∀ xs Φ, F_printed c xs Φ → b_printed c (rtV Φ) (slots xs 5) := by
  rintro xs Φ ⟨d, w, rfl, hl, hd, ok, k⟩
  refine fun p dx => ⟨p, dx, w, wiringD w, rfl, rfl, ok, .inl rfl, fun S0 er hT0 => ⟨rfl, trivial, ?_⟩⟩
  refine ⟨Nat.zero_le _, trivial, ?_⟩
  refine for_inv' (d.map cardD) (fun Ψ h => h) (fun rest ρ => ∃ (a b : List Card) (T : OT) (s4 : Sl), d = a ++ b ∧ rest = b.map cardD ∧ dat s4 ∧ Tab c p w (runG w (fun _ => []) none a) (runLast none a) T ∧ ρ = [.val (deckD d), .val (wiringD w), .loc T, .own ((rowsL w (fun _ => []) none a).flatten.map D.str), s4]) ⟨[], d, S0, .un, rfl, rfl, .un, hT0, rfl⟩ ?_ ?_
  · rintro x rest ρ ⟨a, b, T, s4, ea, eb, f4, hT, rfl⟩ K hK
    cases b with
    | nil => cases eb
    | cons y b =>
      cases eb
      have hy : CardOk y := hd y (by rw [ea]; simp)
      have ha : ∀ x ∈ a, CardOk x := fun x hx => hd x (by rw [ea]; simp [hx])
      refine ⟨f4.free rfl, ?_⟩
      obtain ⟨dx', q', rows', rfl, hr'⟩ := id hT
      have fl := flat_len5 ok a (fun _ => []) none
      have fe := fedLines_len ok (runG w (fun _ => []) none a) (runLast none a) y
      have la : a.length ≤ 1000 := by
        have := congrArg List.length ea
        rw [List.length_append] at this
        omega
      have step : ∀ Ψ : Sl → List Sl → Prop, (∀ S', Tab c p w (fedG w (runG w (fun _ => []) none a) (runLast none a) y) (some y) S' → Ψ (.own ((fedLines w (runG w (fun _ => []) none a) (runLast none a) y).map D.str)) [.val (deckD d), .val (wiringD w), .loc S', .own ((rowsL w (fun _ => []) none a).flatten.map D.str), .val (cardD y)]) → dCallM c.Table "feed" (F_Table_feed c) (dpVar 2) (dCons (dVar 4) dNil) [.val (deckD d), .val (wiringD w), .loc (tabT c p dx' q' w (lastD (runLast none a)) rows'), .own ((rowsL w (fun _ => []) none a).flatten.map D.str), .val (cardD y)] Ψ := fun Ψ hΨ =>
        callM_open (d := dpVar 2) (i := 2) (π := []) (xs := [cardD y]) (pl_var (t := tabT c p dx' q' w (lastD (runLast none a)) rows') rfl) none_of (fun Ψ q => q) ⟨p, w, runG w (fun _ => []) none a, runLast none a, y, rfl, hT, ok, hy, runLast_ok a none (fun x e => nomatch e) ha, fun S' _ hS' => hΨ S' hS'⟩
      show dExt 3 _ [.val (deckD d), .val (wiringD w), .loc (tabT c p dx' q' w (lastD (runLast none a)) rows'), .own ((rowsL w (fun _ => []) none a).flatten.map D.str), .val (cardD y)] _
      unfold dExt
      refine step _ fun S' hS' => ⟨by rw [List.length_map, List.length_map]; omega, ?_⟩
      refine hK _ ⟨a ++ [y], b, S', .val (cardD y), by rw [ea]; simp, rfl, .val _, ?_, ?_⟩
      · rw [runG_app, runLast_app]
        exact hS'
      · rw [rowsL_app]
        simp [rowsL]
  · rintro ρ ⟨a, b, T, s4, ea, eb, f4, hT, rfl⟩
    have : b = [] := by simpa using eb.symm
    subst this
    rw [List.append_nil] at ea
    subst ea
    obtain ⟨dx', q', rows', rfl, hr'⟩ := id hT
    have fl := flat_len5 ok d (fun _ => []) none
    have fe := endLines_len ok (runG w (fun _ => []) none d) (runLast none d)
    refine callM_open (d := dpVar 2) (i := 2) (π := []) (ρ := [.val (deckD d), .val (wiringD w), .loc (tabT c p dx' q' w (lastD (runLast none d)) rows'), .val (.lst ((rowsL w (fun _ => []) none d).flatten.map D.str)), s4]) (xs := []) (pl_var (t := tabT c p dx' q' w (lastD (runLast none d)) rows') rfl) none_of (fun Ψ q => q) ⟨p, w, runG w (fun _ => []) none d, runLast none d, rfl, hT, ok, runLast_ok d none (fun x e => nomatch e) hd, fun S' _ hS' => ⟨by rw [List.length_map, List.length_map]; omega, ?_⟩⟩
    unfold dueL at k
    rw [List.flatten_append, List.map_append, show [endLines w (runG w (fun _ => []) none d) (runLast none d)].flatten = endLines w (runG w (fun _ => []) none d) (runLast none d) by simp] at k
    exact k
end DL
set_option Elab.async false
set_option linter.all false
set_option maxRecDepth 100000
set_option maxHeartbeats 2000000
namespace DL
open PySem PySem.Spec PyProof.Rows L2 RT

/-! ### the law's rows -/
theorem cutD_both {α : Type} (xs : List α) (i j : Nat) : cutD xs (some (i : Int)) (some (j : Int)) = (xs.take j).drop i := by
  unfold cutD
  rw [HT.sIx_nat, HT.sIx_nat, List.drop_take]
  rcases Nat.le_total i xs.length with h | h
  · rw [Nat.min_eq_left h]
    rcases Nat.le_total j xs.length with h2 | h2
    · rw [Nat.min_eq_left h2]
    · rw [Nat.min_eq_right h2, List.take_of_length_le (by rw [List.length_drop]; omega), List.take_of_length_le (by rw [List.length_drop]; omega)]
  · rw [Nat.min_eq_right h, List.drop_eq_nil_of_le (Nat.le_refl _), List.drop_eq_nil_of_le h, List.take_nil, List.take_nil]
def unlikeL (bs : List Bool) : List Nat := (List.range bs.length).filter fun k => bs.getD k false
theorem min_unlike : ∀ bs : List Bool, bs.length ≤ 3 → minL ((unlikeL bs).map (fun k => ((k : Nat) : Int)) ++ [99]) = if bs.findIdx id < bs.length then ((bs.findIdx id : Nat) : Int) else 99
  | [], _ => by decide
  | [a], _ => by cases a <;> decide
  | [a, b], _ => by cases a <;> cases b <;> decide
  | [a, b, c], _ => by cases a <;> cases b <;> cases c <;> decide
  | a :: b :: c :: d :: r, h => by simp at h
/-- where each level's group begins, after the cards a -/
structure BegOk (w : Wiring) (a : List Card) (bs : List Nat) (G : Nat → List Card) : Prop where
  len : bs.length = w.watched.length + 1
  at_ : ∀ l, l ≤ w.watched.length → ∃ b, bs[l]? = some b ∧ b ≤ a.length ∧ (a ≠ [] → b < a.length) ∧ G l = a.drop b
def diffL (w : Wiring) (prev y : Card) : List Bool := w.watched.map fun (x : Nat) => !decide (colAt y (x : Int) = colAt prev (x : Int))
theorem least_diff (w : Wiring) (prev y : Card) : least w prev y = (diffL w prev y).findIdx id + 1 := by
  unfold least diffL
  congr 1
  induction w.watched with
  | nil => rfl
  | cons x r ih =>
    rw [List.map_cons, List.findIdx_cons, List.findIdx_cons, ih]
    rfl
/-- a level after another: the groups from level lo up begin anew -/
theorem BegOk.step {w : Wiring} {a : List Card} {bs bs' : List Nat} {G : Nat → List Card} {lo : Nat} (h : BegOk w a bs G) (y : Card) (hlen : bs'.length = bs.length) (lt : ∀ l, l < lo → bs'[l]? = bs[l]?) (ge : ∀ l, lo ≤ l → l < bs.length → bs'[l]? = some a.length) : BegOk w (a ++ [y]) bs' (fun l => keepG G lo l ++ [y]) := ⟨by rw [hlen]; exact h.len, fun l hl => by
  by_cases c : l < lo
  · obtain ⟨b, h1, h2, h3, h4⟩ := h.at_ l hl
    refine ⟨b, by rw [lt l c]; exact h1, by rw [List.length_append]; omega, fun _ => by rw [List.length_append, List.length_singleton]; omega, ?_⟩
    show (if l < lo then G l else []) ++ [y] = _
    rw [if_pos c, h4, List.drop_append_of_le_length h2]
  · refine ⟨a.length, ge l (by omega) (by rw [h.len]; omega), by rw [List.length_append]; omega, fun _ => by rw [List.length_append, List.length_singleton]; omega, ?_⟩
    show (if l < lo then G l else []) ++ [y] = _
    rw [if_neg c, List.drop_append_of_le_length (Nat.le_refl _), List.drop_length]⟩
end DL
set_option Elab.async false
set_option linter.all false
set_option maxRecDepth 100000
set_option maxHeartbeats 2000000
namespace DL
open PySem PySem.Spec PyProof.Rows L2 RT

/-! ### the law's rows, one card -/
def stP (d : List Card) (w : Wiring) (rows : List D) (p : Addr) (bs : List Nat) (s4 l5 s6 s7 s8 s9 : Sl) : List Sl := [.val (deckD d), .val (wiringD w), .own rows, .loc (.lst p (wheelsT bs)), s4, l5, s6, s7, s8, s9, .un, .un, .un]
def b_lp_level : DS := (dSeq (dDrop (dApp 5 (dV (dCall F_L_total_row (dCons (dV (dSl (dVar 0) (dPart (dLeaf (dpIx (dpVar 3) (dVar 8)))) (dPart (dVar 4)))) (dCons (dVar 1) (dCons (dVar 8) dNil)))))))
  (dPSet (dpVar 3) (dVar 8) (dVar 4)))
def b_lp_levels : DS := (dFor (diRng3 (dV (dCB lenD (dCons (dOp ixD (dVar 1) (dC (.int 0))) dNil))) (dV (dCB minLD (dCons (dV (dOpR addD (dVar 7) (dV (dLst (dCons (dC (.int 99)) dNil))))) dNil))) (dUn negD (dC (.int 1)))) (dgName 8) b_lp_level)
def b_lp_old : DS := (dSeq (dSet 6 (dR (dV (dLc (diAny (dOp ixD (dVar 1) (dC (.int 0)))) (dgName 10) dYes (dV (dCall F_L_column (dCons (dOp ixD (dVar 0) (dOp subD (dVar 4) (dC (.int 1)))) (dCons (dVar 10) dNil)))) [10]))))
  (dSeq (dSet 7 (dR (dV (dLc (diRng1 (dV (dCB lenD (dCons (dOp ixD (dVar 1) (dC (.int 0))) dNil)))) (dgName 11) (dTest (dOp neD (dV (dCall F_L_column (dCons (dOp ixD (dVar 0) (dVar 4)) (dCons (dOp ixD (dOp ixD (dVar 1) (dC (.int 0))) (dVar 11)) dNil)))) (dOp ixD (dVar 6) (dVar 11)))) (dVar 11) [11]))))
  b_lp_levels))
theorem ev_sl {e a b : DE} {ρ : List Sl} {xs : List D} {i j : Nat} (h : Ev e ρ (.lst xs)) (g : Ev a ρ (.int (i : Int))) (l : Ev b ρ (.int (j : Int))) : Ev (dV (dSl e (dPart a) (dPart b))) ρ (.lst ((xs.take j).drop i)) := fun Ψ q => h _ (g _ (l _ (by
  show Ψ (.lst (cutD xs (some (i : Int)) (some (j : Int)))) ρ
  rw [cutD_both]
  exact q)))
theorem ev_slF {e a : DE} {ρ : List Sl} {xs : List D} {i : Nat} (h : Ev e ρ (.lst xs)) (g : Ev a ρ (.int (i : Int))) : Ev (dV (dSl e (dPart a) dNoPart)) ρ (.lst (xs.drop i)) := fun Ψ q => h _ (g _ (by
  show Ψ (.lst (cutD xs (some (i : Int)) none)) ρ
  rw [cutD_drop]
  exact q))
theorem lp_levels {Δ : Ds} {d a' r : List Card} {prev : Card} {w : Wiring} {rows : List D} {p : Addr} {bs : List Nat} {G : Nat → List Card} {s6 s7 s8 s9 : Sl} {lo : Nat} (ok : WiringOk w) (hd : d = (a' ++ [prev]) ++ r) (hdl : d.length ≤ 1000) (hc : ∀ x ∈ d, CardOk x) (hb : BegOk w (a' ++ [prev]) bs G) (hlo : lo ≤ w.watched.length + 1) (f8 : dat s8)
    (fin : ∀ bs' s8, dat s8 → bs'.length = bs.length → (∀ l, l < lo → bs'[l]? = bs[l]?) → (∀ l, lo ≤ l → l < bs.length → bs'[l]? = some (a' ++ [prev]).length) → Δ.nx (stP d w rows p bs' (.val (nD (a' ++ [prev]).length)) (.own ((totLines w prev G lo).map D.str)) s6 s7 s8 s9)) :
    dForL (dgName 8) b_lp_level Δ (rng (w.watched.length + 1 - lo) (w.watched.length : Int) (-1)) (stP d w rows p bs (.val (nD (a' ++ [prev]).length)) (.own []) s6 s7 s8 s9) := by
  have l3 := ok.l3
  refine forL_inv (fun rest ρ => ∃ (m : Nat) (acc : List Str) (bs' : List Nat) (s8 : Sl), rest = rng m ((lo : Int) + m - 1) (-1) ∧ lo + m ≤ w.watched.length + 1 ∧ acc ++ (down m lo).map (totOf w prev G) = totLines w prev G lo ∧ bs'.length = bs.length ∧ (∀ l, l < lo + m → bs'[l]? = bs[l]?) ∧ (∀ l, lo + m ≤ l → l < bs.length → bs'[l]? = some (a' ++ [prev]).length) ∧ dat s8 ∧ ρ = stP d w rows p bs' (.val (nD (a' ++ [prev]).length)) (.own (acc.map D.str)) s6 s7 s8 s9) ?_ ?_
    ⟨w.watched.length + 1 - lo, [], bs, s8, by congr 1; omega, by omega, rfl, rfl, fun _ _ => rfl, fun l h1 h2 => by have := hb.len; omega, f8, rfl⟩
  · rintro x rest ρ ⟨m, acc, bs', s8, e, hn, ha, hl, hlt, hge, f8, rfl⟩ K hK
    cases m with
    | zero => cases e
    | succ m =>
      have ex : ((lo : Int) + ((m + 1 : Nat) : Int) - 1) = ((lo + m : Nat) : Int) := by omega
      rw [ex] at e
      cases e
      refine ⟨f8.free rfl, ?_⟩
      have hlm : lo + m ≤ w.watched.length := by omega
      have acl : acc.length ≤ 4 := by
        have := congrArg List.length ha
        rw [List.length_append, totals_len] at this
        unfold totLines at this
        rw [totals_len] at this
        omega
      obtain ⟨b, e1, e2, e3, e4⟩ := hb.at_ (lo + m) hlm
      have e1' : bs'[lo + m]? = some b := by rw [hlt (lo + m) (by omega)]; exact e1
      have hba : b ≤ a'.length := by
        have := e3 (by simp)
        rw [List.length_append, List.length_singleton] at this
        omega
      have edr : (a' ++ [prev]).drop b = a'.drop b ++ [prev] := List.drop_append_of_le_length hba
      let ρ0 := stP d w rows p bs' (.val (nD (a' ++ [prev]).length)) (.own (acc.map D.str)) s6 s7 (.val (nD (lo + m))) s9
      have leaf : Ev (dLeaf (dpIx (dpVar 3) (dVar 8))) ρ0 (nD b) := (pl_ix (u := .val (nD b)) (pl_var (ρ := ρ0) (i := 3) (t := .lst p (wheelsT bs')) rfl) (ev_var (i := 8) (x := nD (lo + m)) rfl) (by unfold wheelsT; rw [List.getElem?_map, e1']; rfl)).leaf
      have sl : Ev (dV (dSl (dVar 0) (dPart (dLeaf (dpIx (dpVar 3) (dVar 8)))) (dPart (dVar 4)))) ρ0 (deckD (a'.drop b ++ [prev])) := by
        have h := ev_sl (ev_var (ρ := ρ0) (i := 0) (x := deckD d) rfl) leaf (ev_var (i := 4) (x := nD (a' ++ [prev]).length) rfl)
        rw [← List.map_take, ← List.map_drop, hd, List.take_left', edr] at h
        · exact h
        · rfl
      have tot : Ev (dV (dCall F_L_total_row (dCons (dV (dSl (dVar 0) (dPart (dLeaf (dpIx (dpVar 3) (dVar 8)))) (dPart (dVar 4)))) (dCons (dVar 1) (dCons (dVar 8) dNil))))) ρ0 (.str (totOf w prev G (lo + m))) :=
        ev_call3 sl (ev_var (i := 1) (x := wiringD w) rfl) (ev_var (i := 8) (x := nD (lo + m)) rfl) fun Ψ q => ⟨a'.drop b, prev, w, lo + m, rfl, ok, by
          rw [List.length_drop]
          have := congrArg List.length hd
          simp only [List.length_append, List.length_singleton] at this
          omega, fun z hz => hc z (by
          rw [hd]
          rw [← edr] at hz
          exact List.mem_append_left _ ((List.drop_sublist _ _).mem hz)), hlm, by
          have : totOf w prev G (lo + m) = totLine w.plugs prev (counted (a'.drop b ++ [prev]) w.plugs) (lo + m) := by
            unfold totOf
            rw [e4, edr]
          rw [this] at q
          exact q⟩
      refine app_own (i := 5) (ds := acc.map D.str) (x := .str (totOf w prev G (lo + m))) (ρ := ρ0) rfl tot (by rw [List.length_map]; omega) ?_
      refine pl_set (ρ := stP d w rows p bs' (.val (nD (a' ++ [prev]).length)) (.own (acc.map D.str ++ [.str (totOf w prev G (lo + m))])) s6 s7 (.val (nD (lo + m))) s9) (i := 3) (π := []) (t := .lst p (wheelsT bs')) (p' := p) (xs := wheelsT bs') (y := nD (a' ++ [prev]).length) (j := lo + m) (pl_var rfl) (ev_var (i := 4) rfl) (ev_var (i := 8) (x := nD (lo + m)) rfl) (by unfold wheelsT; rw [List.length_map, hl, hb.len]; omega) ?_
      have es : (wheelsT bs').set (lo + m) (.val (nD (a' ++ [prev]).length)) = wheelsT (bs'.set (lo + m) (a' ++ [prev]).length) := by unfold wheelsT; rw [List.map_set]
      rw [es]
      refine hK _ ⟨m, acc ++ [totOf w prev G (lo + m)], bs'.set (lo + m) (a' ++ [prev]).length, .val (nD (lo + m)), by congr 1, by omega, by rw [← ha]; simp [down], by rw [List.length_set]; exact hl, fun l h => ?_, fun l h1 h2 => ?_, .val _, by rw [List.map_append]; rfl⟩
      · rw [List.getElem?_set_ne (by omega)]
        exact hlt l (by omega)
      · by_cases e : l = lo + m
        · subst e
          exact List.getElem?_set_self (by omega)
        · rw [List.getElem?_set_ne (by omega)]
          exact hge l (by omega) h2
  · rintro ρ ⟨m, acc, bs', s8, e, hn, ha, hl, hlt, hge, f8, rfl⟩
    have hm : m = 0 := by
      have := congrArg List.length e
      rw [rng_length] at this
      simpa using this.symm
    subst hm
    rw [show (down 0 lo).map (totOf w prev G) = [] from rfl, List.append_nil] at ha
    rw [ha]
    exact fin bs' s8 f8 hl hlt hge
end DL
set_option Elab.async false
set_option linter.all false
set_option maxRecDepth 100000
set_option maxHeartbeats 2000000
namespace DL
open PySem PySem.Spec PyProof.Rows L2 RT

/-! ### the law's rows: one card behind another -/
theorem ev_colL {a b : DE} {ρ : List Sl} {c : Card} {x : Nat} (hc : CardOk c) (hx : x < 12) (h : Ev a ρ (cardD c)) (g : Ev b ρ (.int (x : Int))) : Ev (dV (dCall F_L_column (dCons a (dCons b dNil)))) ρ (colD (colAt c (x : Int))) := ev_call2 h g fun Ψ k => ⟨c, x, rfl, by have := hc.1; omega, by omega, by omega, k⟩
theorem ev_cat {a b : DE} {ρ : List Sl} {xs ys : List D} (h : Ev a ρ (.lst xs)) (g : Ev b ρ (.lst ys)) (hl : xs.length + ys.length ≤ 1000000) : Ev (dV (dOpR addD a b)) ρ (.lst (xs ++ ys)) := fun Ψ q => h _ (g _ ⟨hl, q⟩)
theorem ev_lst1 {e : DE} {ρ : List Sl} {x : D} (h : Ev e ρ x) : Ev (dV (dLst (dCons e dNil))) ρ (.lst [x]) := fun Ψ q => h _ ⟨by simp, q⟩
theorem ev_minL {e : DE} {ρ : List Sl} {ns : List Int} (h : Ev e ρ (.lst (ns.map D.int))) (hn : 0 < ns.length) : Ev (dV (dCB minLD (dCons e dNil))) ρ (.int (minL ns)) := fun Ψ q => h _ (by
  show intsD (fun ns Φ => 0 < ns.length ∧ Φ (.val (.int (minL ns)))) [.lst (ns.map D.int)] (fun z => asD Ψ z ρ)
  unfold intsD
  dsimp only
  rw [ints_map]
  exact ⟨hn, q⟩)
theorem lp_old {Δ : Ds} {d a' r : List Card} {prev y : Card} {w : Wiring} {rows : List D} {p : Addr} {bs : List Nat} {G : Nat → List Card} {s6 s7 s8 s9 : Sl} (ok : WiringOk w) (hd : d = (a' ++ [prev]) ++ y :: r) (hdl : d.length ≤ 1000) (hc : ∀ x ∈ d, CardOk x) (hb : BegOk w (a' ++ [prev]) bs G) (f6 : dat s6) (f7 : dat s7) (f8 : dat s8)
    (fin : ∀ bs' s6 s7 s8, dat s6 → dat s7 → dat s8 → BegOk w ((a' ++ [prev]) ++ [y]) bs' (fun l => keepG G (least w prev y) l ++ [y]) → Δ.nx (stP d w rows p bs' (.val (nD (a' ++ [prev]).length)) (.own ((totLines w prev G (least w prev y)).map D.str)) s6 s7 s8 s9)) :
    b_lp_old Δ (stP d w rows p bs (.val (nD (a' ++ [prev]).length)) (.own []) s6 s7 s8 s9) := by
  have l3 := ok.l3
  have hprev : CardOk prev := hc prev (by rw [hd]; simp)
  have hy : CardOk y := hc y (by rw [hd]; simp)
  have ip : d[a'.length]? = some prev := by rw [hd]; simp
  have iy : d[(a' ++ [prev]).length]? = some y := by rw [hd]; simp
  have dp : ∀ ρ : List Sl, ρ[0]? = some (.val (deckD d)) → ρ[4]? = some (.val (nD (a' ++ [prev]).length)) → Ev (dOp ixD (dVar 0) (dOp subD (dVar 4) (dC (.int 1)))) ρ (cardD prev) := fun ρ h0 h4 =>
    ev_ixl (xs := d.map cardD) (j := a'.length) (ev_var h0) (ev_op (ev_var h4) ev_c fun Ψ q => by
      have e : ((a' ++ [prev]).length : Int) - 1 = (a'.length : Int) := by simp
      show Ψ (.int (((a' ++ [prev]).length : Int) - 1))
      rw [e]
      exact q) (by rw [List.getElem?_map, ip]; rfl)
  have dy : ∀ ρ : List Sl, ρ[0]? = some (.val (deckD d)) → ρ[4]? = some (.val (nD (a' ++ [prev]).length)) → Ev (dOp ixD (dVar 0) (dVar 4)) ρ (cardD y) := fun ρ h0 h4 =>
    ev_ixl (xs := d.map cardD) (ev_var h0) (ev_var h4) (by rw [List.getElem?_map, iy]; rfl)
  have wa : ∀ ρ : List Sl, ρ[1]? = some (.val (wiringD w)) → Ev (dOp ixD (dVar 1) (dC (.int 0))) ρ (watchedD w) := fun ρ h => ev_ix (j := 0) (ev_var h) ev_c rfl
  have wl : ∀ ρ : List Sl, ρ[1]? = some (.val (wiringD w)) → Ev (dV (dCB lenD (dCons (dOp ixD (dVar 1) (dC (.int 0))) dNil))) ρ (nD w.watched.length) := fun ρ h => by
    have := ev_lenl (wa ρ h)
    rw [List.length_map] at this
    exact this
  -- elder
  refine lc_map (j := 10) (ρ1 := stP d w rows p bs (.val (nD (a' ++ [prev]).length)) (.own []) s6 s7 s8 s9) w.watched nD (fun x => colD (colAt prev (x : Int))) (any_open (wa _ rfl)) (by omega) (.inl rfl) (fun x hx Ψ h => ?_) ?_
  · exact ev_colL hprev (ok.cols x hx) (dp _ rfl rfl) (ev_var (i := 10) (x := nD x) rfl) _ h
  refine ⟨f6.free rfl, ?_⟩
  -- unlike
  let E : List D := w.watched.map fun (x : Nat) => colD (colAt prev (x : Int))
  have hdl' : (diffL w prev y).length = w.watched.length := by simp [diffL]
  refine lc_pure (j := 11) (ρ1 := stP d w rows p bs (.val (nD (a' ++ [prev]).length)) (.own []) (.val (.lst E)) s7 s8 s9) (List.range w.watched.length) (fun k => D.int (0 + (k : Nat))) (fun k => (diffL w prev y).getD k false) (fun k => D.int (0 + (k : Nat))) (fun Ψ h => rng1_open (wl _ rfl) (by omega) _ (by rw [rng_map]; exact h)) (by rw [List.length_range]; omega) (.inl rfl) (fun k hk Ψ h => ?_) (fun k hk _ Ψ h => ev_var (i := 11) rfl _ h) ?_
  · have hk' : k < w.watched.length := List.mem_range.mp hk
    have e : D.int (0 + (k : Int)) = nD k := by unfold nD; rw [Int.zero_add]
    rw [e] at h ⊢
    have ed : (diffL w prev y).getD k false = !decide (colAt y (w.watched[k] : Int) = colAt prev (w.watched[k] : Int)) := by
      rw [List.getD_eq_getElem?_getD]
      unfold diffL
      rw [List.getElem?_map, List.getElem?_eq_getElem hk']
      rfl
    rw [ed] at h
    have v11 : ((stP d w rows p bs (.val (nD (a' ++ [prev]).length)) (.own []) (.val (.lst E)) s7 s8 s9).set 11 (.val (nD k)))[11]? = some (.val (nD k)) := rfl
    refine evt_neC (ev_colL hy (ok.cols _ (List.getElem_mem hk')) (dy _ rfl rfl) (ev_ixl (wa _ rfl) (ev_var v11) (by rw [List.getElem?_map, List.getElem?_eq_getElem hk']; rfl))) (ev_ixl (xs := E) (ev_var (i := 6) rfl) (ev_var v11) (by
      show (w.watched.map fun (x : Nat) => colD (colAt prev (x : Int)))[k]? = _
      rw [List.getElem?_map, List.getElem?_eq_getElem hk']
      rfl)) _ h
  refine ⟨f7.free rfl, ?_⟩
  have eu : ((List.range w.watched.length).filter fun k => (diffL w prev y).getD k false) = unlikeL (diffL w prev y) := by unfold unlikeL; rw [hdl']
  rw [eu]
  refine for_open ?_
  refine wl _ rfl _ ?_
  -- the least level
  have hints : ∀ Ψ : D → List Sl → Prop, Ψ (.int (if (diffL w prev y).findIdx id < (diffL w prev y).length then (((diffL w prev y).findIdx id : Nat) : Int) else 99)) (stP d w rows p bs (.val (nD (a' ++ [prev]).length)) (.own []) (.val (.lst E)) (.val (.lst ((unlikeL (diffL w prev y)).map fun k => D.int (0 + (k : Nat))))) s8 s9) → dV (dCB minLD (dCons (dV (dOpR addD (dVar 7) (dV (dLst (dCons (dC (.int 99)) dNil))))) dNil)) (stP d w rows p bs (.val (nD (a' ++ [prev]).length)) (.own []) (.val (.lst E)) (.val (.lst ((unlikeL (diffL w prev y)).map fun k => D.int (0 + (k : Nat))))) s8 s9) Ψ := fun Ψ h => by
    have hun : (unlikeL (diffL w prev y)).length ≤ 3 := by
      unfold unlikeL
      refine Nat.le_trans (List.length_filter_le _ _) ?_
      rw [List.length_range]
      omega
    have el : ((unlikeL (diffL w prev y)).map fun (k : Nat) => D.int (0 + (k : Nat))) ++ [D.int 99] = ((unlikeL (diffL w prev y)).map (fun k => ((k : Nat) : Int)) ++ [99]).map D.int := by
      rw [List.map_append, List.map_map]
      congr 1
      exact List.map_congr_left fun k _ => by simp
    have ec := ev_cat (ρ := stP d w rows p bs (.val (nD (a' ++ [prev]).length)) (.own []) (.val (.lst E)) (.val (.lst ((unlikeL (diffL w prev y)).map fun k => D.int (0 + (k : Nat))))) s8 s9) (xs := (unlikeL (diffL w prev y)).map fun k => D.int (0 + (k : Nat))) (ev_var (i := 7) rfl) (ev_lst1 (ev_c (x := .int 99))) (by rw [List.length_map]; simp; omega)
    rw [el] at ec
    have em := ev_minL ec (by simp)
    rw [min_unlike _ (by omega)] at em
    exact em _ h
  refine hints _ ?_
  have hlo := least_le w prev y
  have cnt : ((w.watched.length : Int) - (if (diffL w prev y).findIdx id < (diffL w prev y).length then (((diffL w prev y).findIdx id : Nat) : Int) else 99)).toNat = w.watched.length + 1 - least w prev y := by
    rw [least_diff, hdl']
    have := List.findIdx_le_length (p := id) (xs := diffL w prev y)
    rw [hdl'] at this
    split <;> omega
  have inr99 : inR (if (diffL w prev y).findIdx id < (diffL w prev y).length then (((diffL w prev y).findIdx id : Nat) : Int) else 99) := by
    unfold inR
    rw [hdl']
    split <;> omega
  refine ⟨by unfold inR; omega, inr99, ?_⟩
  rw [cnt]
  refine lp_levels ok hd hdl hc hb hlo f8 fun bs' s8 f8 hl hlt hge => fin bs' _ _ s8 (.val _) (.val _) f8 (hb.step y hl hlt hge)
end DL
set_option Elab.async false
set_option linter.all false
set_option maxRecDepth 100000
set_option maxHeartbeats 2000000
namespace DL
open PySem PySem.Spec PyProof.Rows L2 RT

/-! ### the law's rows, whole -/
def isHole : Plug → Bool
  | .hole _ _ => true
  | _ => false
def holeSign (y : Card) : Plug → Nat × Str
  | .hole col pc => (pc, signOf (colAt y (col : Int)))
  | _ => (0, Str.ofString "")
theorem hole_flat (y : Card) : ∀ ps : List Plug, (ps.filter isHole).map (holeSign y) = ps.flatMap (holeSigns y)
  | [] => rfl
  | p :: r => by
    have ih := hole_flat y r
    cases p with
    | hole col pc =>
      rw [List.filter_cons_of_pos (by rfl), List.map_cons, ih, List.flatMap_cons]
      rfl
    | _ =>
      rw [List.filter_cons_of_neg (by simp [isHole]), ih, List.flatMap_cons]
      rfl
def b_lp_det : DS := (dIfS (dTest (dOp ixD (dVar 1) (dC (.int 2)))) (dSeq (dSet 9 (dR (dV (dLc (diAny (dOp ixD (dVar 1) (dC (.int 1)))) (dgName 12) (dTest (dOp eqD (dOp ixD (dVar 12) (dC (.int 0))) (dC (.str "hole")))) (dVar 12) [12]))))
  (dDrop (dApp 5 (dV (dCall F_L_line (dCons (dV (dLc (diAny (dVar 9)) (dgName 12) dYes (dTup (dCons (dOp ixD (dVar 12) (dC (.int 2))) (dCons (dV (dCall F_L_sign (dCons (dV (dCall F_L_column (dCons (dOp ixD (dVar 0) (dVar 4)) (dCons (dOp ixD (dVar 12) (dC (.int 1))) dNil)))) dNil))) dNil))) [12])) dNil)))))) dNext)
theorem lp_det {Δ : Ds} {d : List Card} {n : Nat} {y : Card} {w : Wiring} {rows : List D} {p : Addr} {bs : List Nat} {base : List Str} {s6 s7 s8 s9 : Sl} (ok : WiringOk w) (iy : d[n]? = some y) (hy : CardOk y) (hb : base.length ≤ 1000) (f9 : dat s9)
    (fin : ∀ s9, dat s9 → Δ.nx (stP d w rows p bs (.val (nD n)) (.own ((base ++ (if w.detail then [detLine w.plugs y] else [])).map D.str)) s6 s7 s8 s9)) :
    b_lp_det Δ (stP d w rows p bs (.val (nD n)) (.own (base.map D.str)) s6 s7 s8 s9) := by
  have l24 := ok.l24
  have td : Ev (dOp ixD (dVar 1) (dC (.int 2))) (stP d w rows p bs (.val (nD n)) (.own (base.map D.str)) s6 s7 s8 s9) (.bl w.detail) := ev_ix (j := 2) (ev_var (i := 1) (x := wiringD w) rfl) ev_c rfl
  refine if_b (evt_of td) (fun e => ?_) (fun e => ?_)
  · rw [e] at fin
    refine lc_pure (j := 12) (ρ1 := stP d w rows p bs (.val (nD n)) (.own (base.map D.str)) s6 s7 s8 s9) w.plugs plugD isHole plugD (any_open (ev_ix (j := 1) (ev_var (i := 1) (x := wiringD w) rfl) ev_c rfl)) (by omega) (.inl rfl) (fun pg hp Ψ h => ?_) (fun pg hp _ Ψ h => ev_var (i := 12) rfl _ h) ?_
    · have i12 : ((stP d w rows p bs (.val (nD n)) (.own (base.map D.str)) s6 s7 s8 s9).set 12 (.val (plugD pg)))[12]? = some (.val (plugD pg)) := rfl
      cases pg with
      | hole =>
        have t : EvT (dTest (dOp eqD (dOp ixD (dVar 12) (dC (.int 0))) (dC (.str "hole")))) _ true := evt_eqS (ev_word i12 rfl)
        exact t _ h
      | _ =>
        have t : EvT (dTest (dOp eqD (dOp ixD (dVar 12) (dC (.int 0))) (dC (.str "hole")))) _ false := evt_eqS (ev_word i12 rfl)
        exact t _ h
    refine ⟨f9.free rfl, ?_⟩
    let ρ2 := stP d w rows p bs (.val (nD n)) (.own (base.map D.str)) s6 s7 s8 (.val (.lst ((w.plugs.filter isHole).map plugD)))
    have eline : Ev (dV (dLc (diAny (dVar 9)) (dgName 12) dYes (dTup (dCons (dOp ixD (dVar 12) (dC (.int 2))) (dCons (dV (dCall F_L_sign (dCons (dV (dCall F_L_column (dCons (dOp ixD (dVar 0) (dVar 4)) (dCons (dOp ixD (dVar 12) (dC (.int 1))) dNil)))) dNil))) dNil))) [12])) ρ2 (.lst ((w.plugs.flatMap (holeSigns y)).map signD)) := fun Ψ q => by
      refine lc_map (j := 12) (ρ1 := ρ2) (w.plugs.filter isHole) plugD (fun pg => signD (holeSign y pg)) (any_open (ev_var (i := 9) rfl)) (Nat.le_trans (List.length_filter_le _ _) (by omega)) (.inl rfl) (fun pg hp Ψ h => ?_) ?_
      · obtain ⟨hp1, hp2⟩ := List.mem_filter.mp hp
        have i12 : (ρ2.set 12 (.val (plugD pg)))[12]? = some (.val (plugD pg)) := rfl
        have po := ok.plugs pg hp1
        cases pg with
        | hole col pc =>
          have ecy : Ev (dOp ixD (dVar 0) (dVar 4)) (ρ2.set 12 (.val (plugD (.hole col pc)))) (cardD y) := ev_ixl (xs := d.map cardD) (ev_var (i := 0) rfl) (ev_var (i := 4) (x := nD n) rfl) (by rw [List.getElem?_map, iy]; rfl)
          exact ev_tup2 (ev_num (x := nD pc) 2 i12 (ys := [.str "hole", nD col, nD pc]) rfl rfl) (ev_call1 (ev_colL hy po.1 ecy (ev_num (x := nD col) 1 i12 (ys := [.str "hole", nD col, nD pc]) rfl rfl)) (u := .str (signOf (colAt y (col : Int)))) fun Ψ kk => ⟨_, rfl, hy.col _, kk⟩) _ h
        | _ => cases hp2
      · have em : (w.plugs.filter isHole).map (fun pg => signD (holeSign y pg)) = (w.plugs.flatMap (holeSigns y)).map signD := by rw [← hole_flat, List.map_map]; rfl
        rw [em]
        exact q
    have sg : ∀ x ∈ w.plugs.flatMap (holeSigns y), SignOk x := fun x hx => by
      obtain ⟨pg, hp, hx⟩ := List.mem_flatMap.mp hx
      exact holeSigns_ok hy (ok.plugs pg hp) x hx
    refine app_own (i := 5) (ds := base.map D.str) (x := .str (detLine w.plugs y)) (ρ := ρ2) rfl (ev_call1 eline fun Ψ q => ⟨_, rfl, sg, q⟩) (by rw [List.length_map]; omega) ?_
    have := fin (.val (.lst ((w.plugs.filter isHole).map plugD))) (.val _)
    rw [if_pos rfl, List.map_append] at this
    exact this
  · rw [e] at fin
    have := fin s9 f9
    rw [if_neg (by simp), List.append_nil] at this
    exact this
end DL
set_option Elab.async false
set_option linter.all false
set_option maxRecDepth 100000
set_option maxHeartbeats 2000000
namespace DL
open PySem PySem.Spec PyProof.Rows L2 RT

/-! ### the law's printed -/
def linesT (ls : List Str) : D := .lst (ls.map D.str)
theorem BegOk.congr {w : Wiring} {a : List Card} {bs : List Nat} {G G' : Nat → List Card} (h : BegOk w a bs G) (e : ∀ l, l ≤ w.watched.length → G l = G' l) : BegOk w a bs G' := ⟨h.len, fun l hl => by
  obtain ⟨b, h1, h2, h3, h4⟩ := h.at_ l hl
  exact ⟨b, h1, h2, h3, by rw [← e l hl]; exact h4⟩⟩
def b_lp_turn : DS := (dSeq (dSet 5 (dLst dNil))
  (dSeq (dIfS (dTest (dOp gtD (dVar 4) (dC (.int 0)))) b_lp_old dNext)
  (dSeq b_lp_det
  (dDrop (dApp 2 (dVar 5))))))
theorem runLast_snoc (a : List Card) (x : Card) (last : Option Card) : runLast last (a ++ [x]) = some x := by
  rw [runLast_app]
  rfl
theorem lp_turn {Δ : Ds} {d a r : List Card} {y : Card} {w : Wiring} {rows : List (List Str)} {p : Addr} {bs : List Nat} {G : Nat → List Card} {l5 s6 s7 s8 s9 : Sl} (ok : WiringOk w) (hd : d = a ++ y :: r) (hdl : d.length ≤ 1000) (hc : ∀ x ∈ d, CardOk x) (hb : BegOk w a bs G) (hr : rows.length ≤ 1000) (f5 : dat l5) (f6 : dat s6) (f7 : dat s7) (f8 : dat s8) (f9 : dat s9)
    (fin : ∀ bs' l5 s6 s7 s8 s9, dat l5 → dat s6 → dat s7 → dat s8 → dat s9 → BegOk w (a ++ [y]) bs' (fedG w G (runLast none a) y) → Δ.nx (stP d w ((rows ++ [fedLines w G (runLast none a) y]).map linesT) p bs' (.val (nD a.length)) l5 s6 s7 s8 s9)) :
    b_lp_turn Δ (stP d w (rows.map linesT) p bs (.val (nD a.length)) l5 s6 s7 s8 s9) := by
  have l3 := ok.l3
  have hy : CardOk y := hc y (by rw [hd]; simp)
  have iy : d[a.length]? = some y := by rw [hd]; simp
  refine ⟨Nat.zero_le _, f5.free rfl, ?_⟩
  have last : ∀ (base : List Str) (bs' : List Nat) (s6 s7 s8 : Sl), base.length ≤ 1000 → base = baseLines w G (runLast none a) y → dat s6 → dat s7 → dat s8 → BegOk w (a ++ [y]) bs' (fedG w G (runLast none a) y) → dSeq b_lp_det (dDrop (dApp 2 (dVar 5))) Δ (stP d w (rows.map linesT) p bs' (.val (nD a.length)) (.own (base.map D.str)) s6 s7 s8 s9) := fun base bs' s6 s7 s8 hbl hbase f6 f7 f8 hb' => by
    refine lp_det ok iy hy hbl f9 fun s9 f9 => ?_
    refine ⟨by rw [List.length_map]; omega, ?_⟩
    have := fin bs' (.val (.lst ((base ++ (if w.detail then [detLine w.plugs y] else [])).map D.str))) s6 s7 s8 s9 (.val _) f6 f7 f8 f9 hb'
    rw [List.map_append] at this
    unfold fedLines at this
    rw [← hbase] at this
    exact this
  have tg : EvT (dTest (dOp gtD (dVar 4) (dC (.int 0)))) (stP d w (rows.map linesT) p bs (.val (nD a.length)) (.own []) s6 s7 s8 s9) (decide ((0 : Int) < (a.length : Int))) := evt_of (ev_op (ev_var (i := 4) (x := nD a.length) rfl) ev_c fun Ψ q => q)
  rcases List.eq_nil_or_concat a with rfl | ⟨a', prev, rfl⟩
  · refine if_f (p := b_lp_old) (q := dNext) tg ?_
    refine last [] bs s6 s7 s8 (by simp) rfl f6 f7 f8 ?_
    have := hb.step (lo := w.watched.length + 1) y rfl (fun _ _ => rfl) (fun l h1 h2 => by have := hb.len; omega)
    refine this.congr fun l hl => ?_
    show keepG G (w.watched.length + 1) l ++ [y] = G l ++ [y]
    unfold keepG
    rw [if_pos (by omega)]
  · rw [List.concat_eq_append] at *
    have t0 : decide ((0 : Int) < ((a' ++ [prev]).length : Int)) = true := decide_eq_true (by simp)
    rw [t0] at tg
    refine if_t (p := b_lp_old) (q := dNext) tg ?_
    refine lp_old ok hd hdl hc hb f6 f7 f8 fun bs' s6 s7 s8 f6 f7 f8 hb' => ?_
    refine last (totLines w prev G (least w prev y)) bs' s6 s7 s8 ?_ ?_ f6 f7 f8 ?_
    · unfold totLines
      rw [totals_len]
      omega
    · rw [runLast_snoc]
      rfl
    · rw [runLast_snoc]
      exact hb'
end DL
set_option Elab.async false
set_option linter.all false
set_option maxRecDepth 100000
set_option maxHeartbeats 2000000
namespace DL
open PySem PySem.Spec PyProof.Rows L2 RT

def F_L_printed : DF := fun xs Φ => ∃ (d : List Card) (w : Wiring), xs = [deckD d, wiringD w] ∧ d.length ≤ 1000 ∧ (∀ x ∈ d, CardOk x) ∧ WiringOk w ∧ Φ (.own ((dueL w d).map linesT))
def b_lp_end : DS := (dDrop (dApp 5 (dV (dCall F_L_total_row (dCons (dV (dSl (dVar 0) (dPart (dLeaf (dpIx (dpVar 3) (dVar 8)))) dNoPart)) (dCons (dVar 1) (dCons (dVar 8) dNil)))))))
/- slots of _law_printed: 0 _law_deck_here, 1 _law_wiring_here, 2 _law_rows, 3 _law_begins, 4 _law_at, 5 _law_lines, 6 _law_elder, 7 _law_unlike, 8 _law_level, 9 _law_holes, 10 _law_column_here, 11 _law_k, 12 _law_plug_here -/
def b_L_printed : DS := (dSeq (dSet 2 (dLst dNil))
  (dSeq (dSetT 3 (dOpR mulD (dV (dLst (dCons (dC (.int 0)) dNil))) (dV (dOpR addD (dV (dCB lenD (dCons (dOp ixD (dVar 1) (dC (.int 0))) dNil))) (dC (.int 1))))))
  (dSeq (dFor (diRng1 (dV (dCB lenD (dCons (dVar 0) dNil)))) (dgName 4) b_lp_turn)
  (dSeq (dIfS (dTest (dOp eqD (dVar 0) (dV (dLst dNil)))) (dRet (dLst (dCons (dV (dLst dNil)) dNil))) dNext)
  (dSeq (dSet 5 (dLst dNil))
  (dSeq (dFor (diRng3 (dV (dCB lenD (dCons (dOp ixD (dVar 1) (dC (.int 0))) dNil))) (dUn negD (dC (.int 1))) (dUn negD (dC (.int 1)))) (dgName 8) b_lp_end)
  (dRet (dOpR addD (dVar 2) (dV (dLst (dCons (dVar 5) dNil)))))))))))
theorem rowsL_len (w : Wiring) : ∀ (a : List Card) (G : Nat → List Card) (last : Option Card), (rowsL w G last a).length = a.length
  | [], _, _ => rfl
  | c :: a, G, last => by
    show (rowsL w _ _ a).length + 1 = a.length + 1
    rw [rowsL_len w a]
theorem rd_L_printed : ∀ xs Φ, F_L_printed xs Φ → b_L_printed (rtV Φ) (slots xs 13) := by
  rintro xs Φ ⟨d, w, rfl, hdl, hc, ok, k⟩
  have l3 := ok.l3
  have wl : ∀ ρ : List Sl, ρ[1]? = some (.val (wiringD w)) → Ev (dV (dCB lenD (dCons (dOp ixD (dVar 1) (dC (.int 0))) dNil))) ρ (nD w.watched.length) := fun ρ h => by
    have := ev_lenl (ev_ix (j := 0) (ev_var h) ev_c (x := watchedD w) rfl)
    rw [List.length_map] at this
    exact this
  refine ⟨Nat.zero_le _, trivial, ?_⟩
  have ebs : (List.replicate ((w.watched.length : Int) + 1).toNat [D.int 0]).flatten.map OT.val = wheelsT (List.replicate (w.watched.length + 1) 0) := by
    have : ((w.watched.length : Int) + 1).toNat = w.watched.length + 1 := by omega
    rw [this]
    have h : ∀ n : Nat, (List.replicate n [D.int 0]).flatten.map OT.val = wheelsT (List.replicate n 0) := by
      intro n
      induction n with
      | zero => rfl
      | succ n ih =>
        rw [List.replicate_succ, List.flatten_cons, List.map_append, ih, List.replicate_succ]
        rfl
    exact h _
  have hlen : (w.watched.map nD).length = w.watched.length := List.length_map ..
  refine ⟨by simp, by omega, by omega, by show 1 * (((w.watched.map nD).length : Int) + 1).toNat ≤ 1000000; omega, trivial, fun p => ?_⟩
  rw [hlen]
  rw [ebs]
  refine for_inv' (rng d.length 0 1) (rng1_open (by
    have := ev_lenl (ev_var (ρ := stP d w [] p (List.replicate (w.watched.length + 1) 0) .un .un .un .un .un .un) (i := 0) (x := deckD d) rfl)
    rw [List.length_map] at this
    exact this) hdl) (fun rest ρ => ∃ (a b : List Card) (bs : List Nat) (s4 l5 s6 s7 s8 s9 : Sl), d = a ++ b ∧ rest = rng (d.length - a.length) (a.length : Int) 1 ∧ BegOk w a bs (runG w (fun _ => []) none a) ∧ dat s4 ∧ dat l5 ∧ dat s6 ∧ dat s7 ∧ dat s8 ∧ dat s9 ∧ ρ = stP d w ((rowsL w (fun _ => []) none a).map linesT) p bs s4 l5 s6 s7 s8 s9)
    ⟨[], d, List.replicate (w.watched.length + 1) 0, .un, .un, .un, .un, .un, .un, rfl, rfl, ⟨by simp, fun l hl => ⟨0, by rw [List.getElem?_replicate, if_pos (by omega)], by simp, fun z => absurd rfl z, rfl⟩⟩, .un, .un, .un, .un, .un, .un, rfl⟩ ?_ ?_
  · rintro x rest ρ ⟨a, b, bs, s4, l5, s6, s7, s8, s9, ea, e, hb, f4, f5, f6, f7, f8, f9, rfl⟩ K hK
    have hlt := rng_stop e
    rw [rng_step hlt] at e
    cases e
    cases b with
    | nil =>
      rw [List.append_nil] at ea
      subst ea
      omega
    | cons y r =>
      refine ⟨f4.free rfl, ?_⟩
      refine lp_turn ok ea hdl hc hb (by rw [rowsL_len]; omega) f5 f6 f7 f8 f9 fun bs' l5 s6 s7 s8 s9 f5 f6 f7 f8 f9 hb' => hK _ ⟨a ++ [y], r, bs', .val (nD a.length), l5, s6, s7, s8, s9, by rw [ea]; simp, by rw [List.length_append, List.length_singleton]; push_cast; rfl, ?_, .val _, f5, f6, f7, f8, f9, ?_⟩
      · rw [runG_app]
        exact hb'
      · rw [rowsL_app]
        rfl
  · rintro ρ ⟨a, b, bs, s4, l5, s6, s7, s8, s9, ea, e, hb, f4, f5, f6, f7, f8, f9, rfl⟩
    have hbn : b = [] := by
      have h1 := congrArg List.length e
      rw [rng_length] at h1
      have h2 := congrArg List.length ea
      rw [List.length_append] at h2
      have : b.length = 0 := by
        simp at h1
        omega
      exact List.length_eq_zero_iff.mp this
    subst hbn
    rw [List.append_nil] at ea
    subst ea
    have te : EvT (dTest (dOp eqD (dVar 0) (dV (dLst dNil)))) (stP d w ((rowsL w (fun _ => []) none d).map linesT) p bs s4 l5 s6 s7 s8 s9) (decide (d = [])) := evt_of (ev_op (ev_var (i := 0) (x := deckD d) rfl) (y := deckD []) (fun Ψ q => ⟨Nat.zero_le _, q⟩) fun Ψ q => ⟨ok_lst cardD fun c _ => ok_tup colD fun x _ => ok_col x _, rfl, by rw [eqv_deck]; exact q⟩)
    rcases List.eq_nil_or_concat d with rfl | ⟨a', prev, rfl⟩
    · refine if_t te ?_
      exact ⟨Nat.zero_le _, by simp, k⟩
    · rw [List.concat_eq_append] at *
      have tf : decide ((a' ++ [prev]) = []) = false := decide_eq_false (by simp)
      rw [tf] at te
      refine if_f te ?_
      refine ⟨Nat.zero_le _, f5.free rfl, ?_⟩
      have eT : ∀ (acc : List Str) (s8 : Sl), totLines w prev (runG w (fun _ => []) none (a' ++ [prev])) 0 = (down (w.watched.length + 1) 0).map (totOf w prev (runG w (fun _ => []) none (a' ++ [prev]))) := fun _ _ => rfl
      refine for_inv' (rng (w.watched.length + 1) (w.watched.length : Int) (-1)) (fun Ψ h => ?_) (fun rest ρ => ∃ (m : Nat) (acc : List Str) (s8 : Sl), rest = rng m ((m : Int) - 1) (-1) ∧ m ≤ w.watched.length + 1 ∧ acc ++ (down m 0).map (totOf w prev (runG w (fun _ => []) none (a' ++ [prev]))) = totLines w prev (runG w (fun _ => []) none (a' ++ [prev])) 0 ∧ dat s8 ∧ ρ = stP (a' ++ [prev]) w ((rowsL w (fun _ => []) none (a' ++ [prev])).map linesT) p bs s4 (.own (acc.map D.str)) s6 s7 s8 s9) ⟨w.watched.length + 1, [], s8, by congr 1; omega, Nat.le_refl _, rfl, f8, rfl⟩ ?_ ?_
      · refine wl (stP (a' ++ [prev]) w ((rowsL w (fun _ => []) none (a' ++ [prev])).map linesT) p bs s4 (.own []) s6 s7 s8 s9) rfl _ ?_
        refine ⟨by unfold inR; omega, by unfold inR; omega, ?_⟩
        have e : ((w.watched.length : Int) - -1).toNat = w.watched.length + 1 := by omega
        rw [e]
        exact h
      · rintro x rest ρ ⟨m, acc, s8, e, hm, ha, f8, rfl⟩ K hK
        cases m with
        | zero => cases e
        | succ m =>
          have ex : (((m + 1 : Nat) : Int) - 1) = ((m : Nat) : Int) := by omega
          rw [ex] at e
          cases e
          refine ⟨f8.free rfl, ?_⟩
          have hlm : m ≤ w.watched.length := by omega
          have acl : acc.length ≤ 4 := by
            have := congrArg List.length ha
            rw [List.length_append, totals_len] at this
            unfold totLines at this
            rw [totals_len] at this
            omega
          obtain ⟨b, e1, e2, e3, e4⟩ := hb.at_ m hlm
          have hba : b ≤ a'.length := by
            have := e3 (by simp)
            rw [List.length_append, List.length_singleton] at this
            omega
          have edr : (a' ++ [prev]).drop b = a'.drop b ++ [prev] := List.drop_append_of_le_length hba
          let ρ0 := stP (a' ++ [prev]) w ((rowsL w (fun _ => []) none (a' ++ [prev])).map linesT) p bs s4 (.own (acc.map D.str)) s6 s7 (.val (nD m)) s9
          have leaf : Ev (dLeaf (dpIx (dpVar 3) (dVar 8))) ρ0 (nD b) := (pl_ix (u := .val (nD b)) (pl_var (ρ := ρ0) (i := 3) (t := .lst p (wheelsT bs)) rfl) (ev_var (i := 8) (x := nD m) rfl) (by unfold wheelsT; rw [List.getElem?_map, e1]; rfl)).leaf
          have sl : Ev (dV (dSl (dVar 0) (dPart (dLeaf (dpIx (dpVar 3) (dVar 8)))) dNoPart)) ρ0 (deckD (a'.drop b ++ [prev])) := by
            have h := ev_slF (ev_var (ρ := ρ0) (i := 0) (x := deckD (a' ++ [prev])) rfl) leaf
            rw [← List.map_drop, edr] at h
            exact h
          have tot : Ev (dV (dCall F_L_total_row (dCons (dV (dSl (dVar 0) (dPart (dLeaf (dpIx (dpVar 3) (dVar 8)))) dNoPart)) (dCons (dVar 1) (dCons (dVar 8) dNil))))) ρ0 (.str (totOf w prev (runG w (fun _ => []) none (a' ++ [prev])) m)) :=
            ev_call3 sl (ev_var (i := 1) (x := wiringD w) rfl) (ev_var (i := 8) (x := nD m) rfl) fun Ψ q => ⟨a'.drop b, prev, w, m, rfl, ok, by
              rw [List.length_drop]
              rw [List.length_append, List.length_singleton] at hdl
              omega, fun z hz => hc z (by
              rw [← edr] at hz
              exact (List.drop_sublist _ _).mem hz), hlm, by
              have : totOf w prev (runG w (fun _ => []) none (a' ++ [prev])) m = totLine w.plugs prev (counted (a'.drop b ++ [prev]) w.plugs) m := by
                unfold totOf
                rw [e4, edr]
              rw [this] at q
              exact q⟩
          refine app_own (i := 5) (ds := acc.map D.str) (x := .str (totOf w prev (runG w (fun _ => []) none (a' ++ [prev])) m)) (ρ := ρ0) rfl tot (by rw [List.length_map]; omega) ?_
          exact hK _ ⟨m, acc ++ [totOf w prev (runG w (fun _ => []) none (a' ++ [prev])) m], .val (nD m), by congr 1, by omega, by rw [← ha]; simp [down], .val _, by rw [List.map_append]; rfl⟩
      · rintro ρ ⟨m, acc, s8, e, hm, ha, f8, rfl⟩
        have hm0 : m = 0 := by
          have := congrArg List.length e
          rw [rng_length] at this
          simpa using this.symm
        subst hm0
        rw [show (down 0 0).map (totOf w prev (runG w (fun _ => []) none (a' ++ [prev]))) = [] from rfl, List.append_nil] at ha
        refine ⟨by simp, ?_⟩
        unfold dueL at k
        rw [runLast_snoc, List.map_append] at k
        have rl := rowsL_len w (a' ++ [prev]) (fun _ => []) none
        refine ⟨by rw [List.length_map, rl]; simp at hdl ⊢; omega, ?_⟩
        rw [ha]
        exact k
end DL
set_option Elab.async false
set_option linter.all false
set_option maxRecDepth 100000
set_option maxHeartbeats 2000000
namespace DL
open PySem PySem.Spec PyProof.Rows L2 RT TL

/-! ### lines are texts that may be told apart -/
theorem joinL_in : ∀ {ps : List (List Nat)} {n : Nat}, n ∈ joinL [] ps → ∃ p ∈ ps, n ∈ p
  | [], n, h => nomatch h
  | [p], n, h => ⟨p, by simp, h⟩
  | p :: q :: r, n, h => by
    have h' : n ∈ p ++ ([] ++ joinL [] (q :: r)) := h
    rcases List.mem_append.mp h' with h | h
    · exact ⟨p, by simp, h⟩
    · obtain ⟨x, hx, hn⟩ := joinL_in (ps := q :: r) (by simpa using h)
      exact ⟨x, List.mem_cons_of_mem _ hx, hn⟩
theorem strOk_iff (s : Str) : PyData.strOk s = true ↔ ∀ n ∈ tl s, n < 0x110000 := ⟨fun h n hn => by
  unfold PyData.strOk at h
  rw [Array.all_eq_true'] at h
  have : n ∈ s.cps := by
    have h2 : n ∈ s.cps.toList := hn
    simpa using h2
  simpa using h n this, strOk_tl⟩
theorem strOk_line {signs : List (Nat × Str)} (h : ∀ x ∈ signs, PyData.strOk x.2 = true) : PyData.strOk (lineOf signs) = true := by
  have all : ∀ (signs : List (Nat × Str)) (ts : List Str), (∀ x ∈ signs, PyData.strOk x.2 = true) → (∀ s ∈ ts, PyData.strOk s = true) → ∀ s ∈ setAll ts signs, PyData.strOk s = true := by
    intro signs
    induction signs with
    | nil => exact fun ts _ h => h
    | cons x r ih =>
      intro ts hx ht
      refine ih (ts.set x.1 x.2) (fun y hy => hx y (List.mem_cons_of_mem _ hy)) fun s hs => ?_
      rcases List.mem_or_eq_of_mem_set hs with z | z
      · exact ht s z
      · rw [z]; exact hx x List.mem_cons_self
  rw [strOk_iff]
  intro n hn
  unfold lineOf at hn
  rw [join_eq, tl_join] at hn
  have e : tl (Str.ofString "") = [] := by decide +kernel
  rw [e] at hn
  obtain ⟨p, hp, hn⟩ := joinL_in hn
  obtain ⟨s, hs, rfl⟩ := List.mem_map.mp hp
  refine (strOk_iff s).mp (all signs blanks h (fun s hs => ?_) s hs) n hn
  rw [List.eq_of_mem_replicate hs]
  decide +kernel
theorem sign_str : ∀ c ∈ every, PyData.strOk (signOf c) = true := by decide +kernel
theorem dig_str (n : Nat) (h : n < 10) : PyData.strOk (digS n) = true := by
  match n, h with
  | 0, _ => decide +kernel
  | 1, _ => decide +kernel
  | 2, _ => decide +kernel
  | 3, _ => decide +kernel
  | 4, _ => decide +kernel
  | 5, _ => decide +kernel
  | 6, _ => decide +kernel
  | 7, _ => decide +kernel
  | 8, _ => decide +kernel
  | 9, _ => decide +kernel
  | n + 10, h => omega
theorem plugSigns_str {last : Card} {N : Nat → Nat} {level : Nat} (hc : CardOk last) (hl : level ≤ 3) (p : Plug) : ∀ x ∈ plugSigns last N level p, PyData.strOk x.2 = true := by
  intro x hx
  cases p with
  | head c p l =>
    have hx' : x ∈ (if l ≤ level then [(p, signOf (colAt last (c : Int)))] else []) := hx
    split at hx'
    · rw [List.mem_singleton.mp hx']
      exact sign_str _ (hc.col _)
    · cases hx'
  | print k w p =>
    have hx' : x ∈ [(p, digS (N k / 10 ^ w % 10))] := hx
    rw [List.mem_singleton.mp hx']
    exact dig_str _ (Nat.mod_lt _ (by decide))
  | level p =>
    have hx' : x ∈ [(p, digS level)] := hx
    rw [List.mem_singleton.mp hx']
    exact dig_str _ (by omega)
  | _ => cases hx
theorem holeSigns_str {c : Card} (hc : CardOk c) (p : Plug) : ∀ x ∈ holeSigns c p, PyData.strOk x.2 = true := by
  intro x hx
  cases p with
  | hole col p =>
    have hx' : x ∈ [(p, signOf (colAt c (col : Int)))] := hx
    rw [List.mem_singleton.mp hx']
    exact sign_str _ (hc.col _)
  | _ => cases hx
def TextsOk (ls : List Str) : Prop := ∀ s ∈ ls, PyData.strOk s = true
theorem totOf_str {w : Wiring} (prev : Card) (G : Nat → List Card) (hc : CardOk prev) {l : Nat} (hl : l ≤ 3) : PyData.strOk (totOf w prev G l) = true := strOk_line fun x hx => by
  obtain ⟨p, _, hx⟩ := List.mem_flatMap.mp hx
  exact plugSigns_str hc hl p x hx
theorem down_lt {n lo l : Nat} (h : l ∈ down n lo) : l < lo + n := by
  induction n with
  | zero => cases h
  | succ n ih =>
    rcases List.mem_cons.mp h with e | h
    · omega
    · have := ih h
      omega
theorem totLines_str {w : Wiring} (ok : WiringOk w) (prev : Card) (G : Nat → List Card) (hc : CardOk prev) (lo : Nat) : TextsOk (totLines w prev G lo) := fun s hs => by
  have l3 := ok.l3
  obtain ⟨l, hl, rfl⟩ := List.mem_map.mp hs
  have := down_lt hl
  refine totOf_str prev G hc ?_
  by_cases c : lo ≤ w.watched.length + 1
  · omega
  · have : w.watched.length + 1 - lo = 0 := by omega
    rw [this] at hl
    cases hl
theorem fedLines_str {w : Wiring} (ok : WiringOk w) (G : Nat → List Card) (last : Option Card) (hl : ∀ x, last = some x → CardOk x) {c : Card} (hc : CardOk c) : TextsOk (fedLines w G last c) := fun s hs => by
  unfold fedLines at hs
  rcases List.mem_append.mp hs with h | h
  · cases last with
    | none => cases h
    | some prev => exact totLines_str ok prev G (hl prev rfl) _ s h
  · split at h
    · rw [List.mem_singleton.mp h]
      exact strOk_line fun x hx => by
        obtain ⟨p, _, hx⟩ := List.mem_flatMap.mp hx
        exact holeSigns_str hc p x hx
    · cases h
theorem endLines_str {w : Wiring} (ok : WiringOk w) (G : Nat → List Card) (last : Option Card) (hl : ∀ x, last = some x → CardOk x) : TextsOk (endLines w G last) := by
  cases last with
  | none => exact fun s h => nomatch h
  | some prev => exact totLines_str ok prev G (hl prev rfl) 0
theorem rowsL_str {w : Wiring} (ok : WiringOk w) : ∀ (a : List Card) (G : Nat → List Card) (last : Option Card), (∀ x, last = some x → CardOk x) → (∀ x ∈ a, CardOk x) → ∀ ls ∈ rowsL w G last a, TextsOk ls
  | [], _, _, _, _, ls, h => nomatch h
  | c :: a, G, last, hl, ha, ls, h => by
    rcases List.mem_cons.mp h with e | h
    · rw [e]
      exact fedLines_str ok G last hl (ha c List.mem_cons_self)
    · exact rowsL_str ok a _ _ (fun x e => by cases e; exact ha c List.mem_cons_self) (fun x hx => ha x (List.mem_cons_of_mem _ hx)) ls h
theorem ok_linesT {ls : List Str} (h : TextsOk ls) (n : Nat) : (linesT ls).okN (n + 1) = true := ok_lst D.str fun s hs => by
  unfold D.okN
  exact h s hs
theorem lk_linesT {ls : List Str} (h : TextsOk ls) (hl : ls.length ≤ 1000000) (n : Nat) : (linesT ls).lk (n + 1) = true := lk_lst D.str hl fun s hs => by
  unfold D.lk
  exact h s hs
end DL
set_option Elab.async false
set_option linter.all false
set_option maxRecDepth 100000
set_option maxHeartbeats 2000000
namespace DL
open PySem PySem.Spec PyProof.Rows L2 RT

/-! ### law k13 -/
def bcT (ds : List Card) : List OT := ds.map fun x => .val (cardD x)
def blT (ls : List (List Str)) : List OT := ls.map fun l => .val (linesT l)
def besideT (pb : Addr) (TB : OT) (p1 : Addr) (bc : List Card) (p2 : Addr) (ls : List (List Str)) : OT := .lst pb [TB, .lst p1 (bcT bc), .lst p2 (blT ls)]
def b_turn13 (c : CA) : DS := (dSeq (dIfS (dNot (dTest (dV (dCall (F_L_like 6) (dCons (dV (dCallM c.Table "feed" (F_Table_feed c) (dpVar 6) (dCons (dOp ixD (dVar 8) (dVar 10)) dNil))) (dCons (dOp ixD (dVar 9) (dVar 10)) dNil)))))) (dRet (dR (dC (.bl false)))) dNext)
  (dIfS (dTest (dOp ltD (dV (dR (dPLen (dpIx (dpVar 7) (dC (.int 2)))))) (dV (dR (dPLen (dpIx (dpVar 7) (dC (.int 1)))))))) (dDrop (dPApp (dpIx (dpVar 7) (dC (.int 2))) (dV (dCallM c.Table "feed" (F_Table_feed c) (dpIx (dpVar 7) (dC (.int 0))) (dCons (dLeaf (dpIx (dpIx (dpVar 7) (dC (.int 1))) (dV (dR (dPLen (dpIx (dpVar 7) (dC (.int 2)))))))) dNil))))) dNext))
def b_deck13 (c : CA) : DS := (dSeq (dSet 9 (dR (dV (dCall F_L_printed (dCons (dVar 8) (dCons (dVar 3) dNil))))))
  (dSeq (dFor (diRng1 (dV (dCB lenD (dCons (dVar 8) dNil)))) (dgName 10) (b_turn13 c))
  (dSeq (dIfS (dOr (dNot (dTest (dV (dCall (F_L_like 6) (dCons (dV (dCallM c.Table "ends" (F_Table_ends c) (dpVar 6) dNil)) (dCons (dOp ixD (dVar 9) (dUn negD (dC (.int 1)))) dNil)))))) (dTest (dOp neD (dV (dCallM c.Table "ends" (F_Table_ends c) (dpVar 6) dNil)) (dV (dLst dNil))))) (dRet (dR (dC (.bl false)))) dNext)
  (dSeq (dSet 11 (dR (dV (dLst dNil))))
  (dSeq (dFor (diAny (dVar 9)) (dgName 12) (dSet 11 (dR (dV (dOpR addD (dVar 11) (dVar 12))))))
  (dIfS (dNot (dTest (dV (dCall (F_L_like 6) (dCons (dV (dCall (F_printed c) (dCons (dVar 8) (dCons (dVar 3) dNil)))) (dCons (dVar 11) dNil)))))) (dRet (dR (dC (.bl false)))) dNext))))))
def st13 (ns : List Int) (S : OT) (pals : D) (w : Wiring) (decks : D) (hd T B : OT) (s8 s9 s10 s11 s12 : Sl) : List Sl := [.val (.rd (ns.map D.int)), .loc S, .val pals, .val (wiringD w), .val decks, .loc hd, .loc T, .loc B, s8, s9, s10, s11, s12]
def dueD (ls : List (List Str)) : D := .lst (ls.map linesT)
/-- the table beside: m cards of bc fed, their lines kept -/
structure Beside (c : CA) (w : Wiring) (bc : List Card) (B : OT) : Prop where
  ex : ∃ (pb pB p1 p2 : Addr) (TB : OT) (m : Nat), B = besideT pb TB p1 bc p2 (rowsL w (fun _ => []) none (bc.take m)) ∧ m ≤ bc.length ∧ Tab c pB w (runG w (fun _ => []) none (bc.take m)) (runLast none (bc.take m)) TB
theorem take_snoc {α : Type} {d : List α} {n : Nat} {y : α} (h : d[n]? = some y) : d.take (n + 1) = d.take n ++ [y] := by
  rw [List.take_add_one, h]
  rfl
def fedW (w : Wiring) (d : List Card) (n : Nat) (y : Card) : Nat → List Card := fedG w (runG w (fun _ => []) none (d.take n)) (runLast none (d.take n)) y
theorem due_at {w : Wiring} {d : List Card} {n : Nat} {y : Card} (h : d[n]? = some y) : (dueL w d)[n]? = some (fedLines w (runG w (fun _ => []) none (d.take n)) (runLast none (d.take n)) y) := by
  have hn : n < d.length := (List.getElem?_eq_some_iff.mp h).1
  have ey : d[n] = y := by rw [List.getElem?_eq_getElem hn] at h; exact Option.some.inj h
  have hd : d = d.take n ++ y :: d.drop (n + 1) := by
    have e := List.drop_eq_getElem_cons hn
    rw [ey] at e
    rw [← e, List.take_append_drop]
  have hl : (rowsL w (fun _ => []) none (d.take n)).length = n := by rw [rowsL_len, List.length_take]; omega
  unfold dueL
  have er : rowsL w (fun _ => []) none d = rowsL w (fun _ => []) none (d.take n) ++ fedLines w (runG w (fun _ => []) none (d.take n)) (runLast none (d.take n)) y :: rowsL w (fedW w d n y) (some y) (d.drop (n + 1)) := by
    conv => lhs; rw [hd]
    rw [rowsL_app]
    rfl
  rw [er, List.append_assoc, List.getElem?_append_right (by omega), hl, Nat.sub_self]
  rfl
/-- like(a, b), a's reading may change the state -/
theorem like_call {a b : DE} {ρ : List Sl} {x : D} {P : List Sl → Prop} (ha : ∀ Ψ : D → List Sl → Prop, (∀ ρ1, P ρ1 → Ψ x ρ1) → a ρ Ψ) (hb : ∀ ρ1, P ρ1 → Ev b ρ1 x) (lk : x.lk 5 = true) : ∀ Ψ : D → List Sl → Prop, (∀ ρ1, P ρ1 → Ψ (.bl true) ρ1) → dV (dCall (F_L_like 6) (dCons a (dCons b dNil))) ρ Ψ := fun Ψ q => ha _ fun ρ1 h => hb ρ1 h _ (by
  show F_L_like 6 [x, x] (fun r => asD Ψ r ρ1)
  exact like_same lk (q ρ1 h))
/-- place.append(e), e's reading may change the state -/
theorem papp_open {d : DP} {e : DE} {Δ : Ds} {ρ : List Sl} {i : Nat} {π : List Stp} {t : OT} {p : Addr} {xs : List OT} {x : D} {P : List Sl → Prop} (h : Pl d ρ i π t (.lst p xs)) (he : ∀ Ψ : D → List Sl → Prop, (∀ ρ1, P ρ1 → Ψ x ρ1) → e ρ Ψ)
    (k : ∀ ρ1, P ρ1 → ∃ t1 xs1, treeOf (ρ1[i]?) = some t1 ∧ t1.get π = some (.lst p xs1) ∧ xs1.length ≤ 1000000 ∧ Δ.nx (ρ1.set i (withTree (t1.put π (.lst p (xs1 ++ [.val x]))) (ρ1[i]?)))) : dDrop (dPApp d e) Δ ρ := h.ev _ ⟨trivial, he _ fun ρ1 hp => by
  obtain ⟨t1, xs1, h1, h2, h3, h4⟩ := k ρ1 hp
  rw [h1]
  dsimp only
  rw [h2]
  exact ⟨rfl, h3, h4⟩⟩
/-- if not e: .. -/
theorem if_notE {e : DE} {p : DS} {Δ : Ds} {ρ : List Sl} {P : List Sl → Prop} (h : ∀ Ψ : D → List Sl → Prop, (∀ ρ1, P ρ1 → Ψ (.bl true) ρ1) → e ρ Ψ) (k : ∀ ρ1, P ρ1 → Δ.nx ρ1) : dIfS (dNot (dTest e)) p dNext Δ ρ := h _ fun ρ1 hp => by
  show if (!true) = true then p Δ ρ1 else Δ.nx ρ1
  rw [if_neg (by simp)]
  exact k ρ1 hp
theorem lk_fed {w : Wiring} (ok : WiringOk w) (G : Nat → List Card) (last : Option Card) (hl : ∀ x, last = some x → CardOk x) {y : Card} (hy : CardOk y) (n : Nat) : (linesT (fedLines w G last y)).lk (n + 1) = true := lk_linesT (fedLines_str ok G last hl hy) (by have := fedLines_len ok G last y; omega) n
theorem run_ok {a : List Card} (ha : ∀ x ∈ a, CardOk x) : ∀ x, runLast none a = some x → CardOk x := runLast_ok a none (fun x e => nomatch e) ha
theorem turn13 {c : CA} {Δ : Ds} {ns : List Int} {S hd T B : OT} {pals decks : D} {w : Wiring} {d bc : List Card} {n : Nat} {y : Card} {pT : Addr} {s11 s12 : Sl} (ok : WiringOk w) (hdl : d.length ≤ 1000) (hc : ∀ x ∈ d, CardOk x) (hbl : bc.length ≤ 1000) (hbc : ∀ x ∈ bc, CardOk x) (iy : d[n]? = some y)
    (hT : Tab c pT w (runG w (fun _ => []) none (d.take n)) (runLast none (d.take n)) T) (hB : Beside c w bc B)
    (fin : ∀ T' B', Tab c pT w (runG w (fun _ => []) none (d.take (n + 1))) (runLast none (d.take (n + 1))) T' → Beside c w bc B' → Δ.nx (st13 ns S pals w decks hd T' B' (.val (deckD d)) (.val (dueD (dueL w d))) (.val (nD n)) s11 s12)) :
    b_turn13 c Δ (st13 ns S pals w decks hd T B (.val (deckD d)) (.val (dueD (dueL w d))) (.val (nD n)) s11 s12) := by
  have hy : CardOk y := hc y (List.mem_of_getElem? iy)
  have hdt : ∀ x ∈ d.take n, CardOk x := fun x hx => hc x (List.mem_of_mem_take hx)
  obtain ⟨dx, q, rows, rfl, hr⟩ := id hT
  let last := runLast none (d.take n)
  let G := runG w (fun _ => []) none (d.take n)
  have ey : Ev (dOp ixD (dVar 8) (dVar 10)) (st13 ns S pals w decks hd (tabT c pT dx q w (lastD last) rows) B (.val (deckD d)) (.val (dueD (dueL w d))) (.val (nD n)) s11 s12) (cardD y) := ev_ixl (xs := d.map cardD) (ev_var (i := 8) rfl) (ev_var (i := 10) (x := nD n) rfl) (by rw [List.getElem?_map, iy]; rfl)
  have feed1 : ∀ Ψ : D → List Sl → Prop, (∀ T', Tab c pT w (fedG w G last y) (some y) T' → Ψ (linesT (fedLines w G last y)) (st13 ns S pals w decks hd T' B (.val (deckD d)) (.val (dueD (dueL w d))) (.val (nD n)) s11 s12)) → dV (dCallM c.Table "feed" (F_Table_feed c) (dpVar 6) (dCons (dOp ixD (dVar 8) (dVar 10)) dNil)) (st13 ns S pals w decks hd (tabT c pT dx q w (lastD last) rows) B (.val (deckD d)) (.val (dueD (dueL w d))) (.val (nD n)) s11 s12) Ψ := fun Ψ hΨ =>
    callM_open (d := dpVar 6) (i := 6) (π := []) (xs := [cardD y]) (pl_var (t := tabT c pT dx q w (lastD last) rows) rfl) none_of (fun Ψ q => ey _ q) ⟨pT, w, G, last, y, rfl, hT, ok, hy, run_ok hdt, fun S' _ hS' => hΨ S' hS'⟩
  have hdue := due_at (w := w) iy
  refine if_notE (P := fun ρ1 => ∃ T', Tab c pT w (fedG w G last y) (some y) T' ∧ ρ1 = st13 ns S pals w decks hd T' B (.val (deckD d)) (.val (dueD (dueL w d))) (.val (nD n)) s11 s12) (like_call (x := linesT (fedLines w G last y)) (fun Ψ h => feed1 Ψ fun T' hT' => h _ ⟨T', hT', rfl⟩) (fun ρ1 ⟨T', hT', e⟩ => ?_) (lk_fed ok G last (run_ok hdt) hy 4)) fun ρ1 ⟨T', hT', e⟩ => ?_
  · rw [e]
    exact ev_ixl (xs := (dueL w d).map linesT) (ev_var (i := 9) rfl) (ev_var (i := 10) (x := nD n) rfl) (by rw [List.getElem?_map, hdue]; rfl)
  subst e
  have hT2 : Tab c pT w (runG w (fun _ => []) none (d.take (n + 1))) (runLast none (d.take (n + 1))) T' := by
    rw [take_snoc iy, runG_app, runLast_app]
    exact hT'
  dsimp only
  obtain ⟨pb, pB, p1, p2, TB, m, rfl, hm, hTB⟩ := id hB
  have pBes : ∀ (ρ : List Sl), ρ[7]? = some (.loc (besideT pb TB p1 bc p2 (rowsL w (fun _ => []) none (bc.take m)))) → Pl (dpVar 7) ρ 7 [] (besideT pb TB p1 bc p2 (rowsL w (fun _ => []) none (bc.take m))) (besideT pb TB p1 bc p2 (rowsL w (fun _ => []) none (bc.take m))) := fun ρ h => pl_var (by rw [h]; rfl)
  have lenB : (rowsL w (fun _ => []) none (bc.take m)).length = m := by rw [rowsL_len, List.length_take]; omega
  have p2' : ∀ (ρ : List Sl) (h : ρ[7]? = some (.loc (besideT pb TB p1 bc p2 (rowsL w (fun _ => []) none (bc.take m))))), Pl (dpIx (dpVar 7) (dC (.int 2))) ρ 7 ([] ++ [.ix 2]) (besideT pb TB p1 bc p2 (rowsL w (fun _ => []) none (bc.take m))) (.lst p2 (blT (rowsL w (fun _ => []) none (bc.take m)))) := fun ρ h => pl_ix (pBes ρ h) (ev_c (x := nD 2)) rfl
  have p1' : ∀ (ρ : List Sl) (h : ρ[7]? = some (.loc (besideT pb TB p1 bc p2 (rowsL w (fun _ => []) none (bc.take m))))), Pl (dpIx (dpVar 7) (dC (.int 1))) ρ 7 ([] ++ [.ix 1]) (besideT pb TB p1 bc p2 (rowsL w (fun _ => []) none (bc.take m))) (.lst p1 (bcT bc)) := fun ρ h => pl_ix (pBes ρ h) (ev_c (x := nD 1)) rfl
  let ρ := st13 ns S pals w decks hd T' (besideT pb TB p1 bc p2 (rowsL w (fun _ => []) none (bc.take m))) (.val (deckD d)) (.val (dueD (dueL w d))) (.val (nD n)) s11 s12
  have l2 : Ev (dV (dR (dPLen (dpIx (dpVar 7) (dC (.int 2)))))) ρ (nD m) := by
    have h := (p2' ρ rfl).len
    have e : (blT (rowsL w (fun _ => []) none (bc.take m))).length = m := by unfold blT; rw [List.length_map, lenB]
    rw [e] at h
    exact h
  have l1 : Ev (dV (dR (dPLen (dpIx (dpVar 7) (dC (.int 1)))))) ρ (nD bc.length) := by
    have h := (p1' ρ rfl).len
    have e : (bcT bc).length = bc.length := by unfold bcT; rw [List.length_map]
    rw [e] at h
    exact h
  refine if_b (evt_of (ev_op l2 l1 fun Ψ q => q)) (fun e => ?_) (fun _ => fin T' _ hT2 hB)
  have hmb : m < bc.length := by have := of_decide_eq_true e; omega
  have iz : bc[m]? = some bc[m] := List.getElem?_eq_getElem hmb
  have hz : CardOk bc[m] := hbc _ (List.getElem_mem hmb)
  have hbt : ∀ x ∈ bc.take m, CardOk x := fun x hx => hbc x (List.mem_of_mem_take hx)
  obtain ⟨dxB, qB, rowsB, rfl, hrB⟩ := id hTB
  have ez : Ev (dLeaf (dpIx (dpIx (dpVar 7) (dC (.int 1))) (dV (dR (dPLen (dpIx (dpVar 7) (dC (.int 2)))))))) ρ (cardD bc[m]) := (pl_ix (u := .val (cardD bc[m])) (p1' ρ rfl) l2 (by unfold bcT; rw [List.getElem?_map, iz]; rfl)).leaf
  have p0 : Pl (dpIx (dpVar 7) (dC (.int 0))) ρ 7 ([] ++ [.ix 0]) (besideT pb (tabT c pB dxB qB w (lastD (runLast none (bc.take m))) rowsB) p1 bc p2 (rowsL w (fun _ => []) none (bc.take m))) (tabT c pB dxB qB w (lastD (runLast none (bc.take m))) rowsB) := pl_ix (pBes ρ rfl) (ev_c (x := nD 0)) rfl
  let ls := rowsL w (fun _ => []) none (bc.take m)
  have feed2 : ∀ Ψ : D → List Sl → Prop, (∀ ρ1, (∃ S', Tab c pB w (fedG w (runG w (fun _ => []) none (bc.take m)) (runLast none (bc.take m)) bc[m]) (some bc[m]) S' ∧ ρ1 = st13 ns S pals w decks hd T' (besideT pb S' p1 bc p2 ls) (.val (deckD d)) (.val (dueD (dueL w d))) (.val (nD n)) s11 s12) → Ψ (linesT (fedLines w (runG w (fun _ => []) none (bc.take m)) (runLast none (bc.take m)) bc[m])) ρ1) → dV (dCallM c.Table "feed" (F_Table_feed c) (dpIx (dpVar 7) (dC (.int 0))) (dCons (dLeaf (dpIx (dpIx (dpVar 7) (dC (.int 1))) (dV (dR (dPLen (dpIx (dpVar 7) (dC (.int 2)))))))) dNil)) ρ Ψ := fun Ψ h =>
    callM_open (xs := [cardD bc[m]]) p0 none_of (fun Ψ q => ez _ q) ⟨pB, w, runG w (fun _ => []) none (bc.take m), runLast none (bc.take m), bc[m], rfl, hTB, ok, hz, run_ok hbt, fun S' _ hS' => h _ ⟨S', hS', rfl⟩⟩
  refine papp_open (p2' ρ rfl) feed2 fun ρ1 ⟨S', hS', e1⟩ => ?_
  subst e1
  refine ⟨besideT pb S' p1 bc p2 ls, blT ls, rfl, rfl, by unfold blT; rw [List.length_map, lenB]; omega, ?_⟩
  have eb : (besideT pb S' p1 bc p2 ls).put ([] ++ [.ix 2]) (.lst p2 (blT ls ++ [.val (linesT (fedLines w (runG w (fun _ => []) none (bc.take m)) (runLast none (bc.take m)) bc[m]))])) = besideT pb S' p1 bc p2 (ls ++ [fedLines w (runG w (fun _ => []) none (bc.take m)) (runLast none (bc.take m)) bc[m]]) := by
    show OT.lst pb [S', .lst p1 (bcT bc), .lst p2 (blT ls ++ [.val _])] = _
    unfold besideT blT
    rw [List.map_append]
    rfl
  rw [eb]
  refine fin T' (besideT pb S' p1 bc p2 (ls ++ [fedLines w (runG w (fun _ => []) none (bc.take m)) (runLast none (bc.take m)) bc[m]])) hT2 ⟨pb, pB, p1, p2, S', m + 1, ?_, by omega, ?_⟩
  · rw [take_snoc iz, rowsL_app]
    rfl
  · rw [take_snoc iz, runG_app, runLast_app]
    exact hS'
end DL
set_option Elab.async false
set_option linter.all false
set_option maxRecDepth 100000
set_option maxHeartbeats 2000000
namespace DL
open PySem PySem.Spec PyProof.Rows L2 RT

/-- place.ends() -/
theorem ends_call {c : CA} {dp : DP} {ρ : List Sl} {i : Nat} {π : List Stp} {t T : OT} {p : Addr} {w : Wiring} {G : Nat → List Card} {last : Option Card} (h : Pl dp ρ i π t T) (hT : Tab c p w G last T) (ok : WiringOk w) (cl : ∀ x, last = some x → CardOk x) :
    ∀ Ψ : D → List Sl → Prop, (∀ S', Tab c p w (endG G last) none S' → Ψ (linesT (endLines w G last)) (ρ.set i (withTree (t.put π S') (ρ[i]?)))) → dV (dCallM c.Table "ends" (F_Table_ends c) dp dNil) ρ Ψ := fun Ψ q => by
  obtain ⟨dx, a, rows, rfl, hr⟩ := id hT
  exact callM_open (xs := []) h none_of (fun Ψ q => q) ⟨p, w, G, last, rfl, hT, ok, cl, fun S' _ hS' => q S' hS'⟩
theorem ev_call2o {a b : DE} {ρ : List Sl} {x y : D} {us : List D} {f : DF} (h : Ev a ρ x) (g : Ev b ρ y) (k : ∀ Ψ : Sl → Prop, Ψ (.own us) → f [x, y] Ψ) : Ev (dV (dCall f (dCons a (dCons b dNil)))) ρ (.lst us) := fun Ψ q => h _ (g _ (k _ q))
theorem ev_ixlast {e : DE} {ρ : List Sl} {xs : List D} {x : D} (h : Ev e ρ (.lst (xs ++ [x]))) : Ev (dOp ixD e (dUn negD (dC (.int 1)))) ρ x := fun Ψ q => h _ (ixL_last (Ψ := fun z => Ψ z ρ) q)
theorem endG_nil {w : Wiring} {d : List Card} (l : Nat) : endG (runG w (fun _ => []) none d) (runLast none d) l = [] := by
  cases d with
  | nil => rfl
  | cons x r =>
    have : ∀ (r : List Card) (x : Card), ∃ y, runLast (some x) r = some y := by
      intro r
      induction r with
      | nil => exact fun x => ⟨x, rfl⟩
      | cons z r ih => exact fun x => ih z
    obtain ⟨y, e⟩ := this r x
    show endG (runG w (fun _ => []) none (x :: r)) (runLast (some x) r) l = []
    rw [e]
    show (if l < 0 then runG w (fun _ => []) none (x :: r) l else []) = []
    rw [if_neg (Nat.not_lt_zero _)]
theorem Tab.cong {c : CA} {p : Addr} {w : Wiring} {G G' : Nat → List Card} {last : Option Card} {t : OT} (h : Tab c p w G last t) (e : ∀ l, G l = G' l) : Tab c p w G' last t := by
  obtain ⟨dx, q, rows, rfl, hr⟩ := h
  exact ⟨dx, q, rows, rfl, hr.congr fun l _ => e l⟩
theorem dueL_split (w : Wiring) (d : List Card) : (dueL w d).map linesT = (rowsL w (fun _ => []) none d).map linesT ++ [linesT (endLines w (runG w (fun _ => []) none d) (runLast none d))] := by
  unfold dueL
  rw [List.map_append]
  rfl
theorem lk_end {w : Wiring} (ok : WiringOk w) (G : Nat → List Card) (last : Option Card) (hl : ∀ x, last = some x → CardOk x) (n : Nat) : (linesT (endLines w G last)).lk (n + 1) = true := lk_linesT (endLines_str ok G last hl) (by have := endLines_len ok G last; omega) n
theorem dueL_str {w : Wiring} (ok : WiringOk w) {d : List Card} (hc : ∀ x ∈ d, CardOk x) : ∀ ls ∈ dueL w d, TextsOk ls := fun ls h => by
  rcases List.mem_append.mp h with h | h
  · exact rowsL_str ok d _ none (fun x e => nomatch e) hc ls h
  · rw [List.mem_singleton.mp h]
    exact endLines_str ok _ _ (run_ok hc)
theorem flat_str {w : Wiring} (ok : WiringOk w) {d : List Card} (hc : ∀ x ∈ d, CardOk x) : TextsOk (dueL w d).flatten := fun s hs => by
  obtain ⟨ls, h1, h2⟩ := List.mem_flatten.mp hs
  exact dueL_str ok hc ls h1 s h2
theorem due_flat_len {w : Wiring} (ok : WiringOk w) (d : List Card) : (dueL w d).flatten.length ≤ d.length * 5 + 4 := by
  have h1 := flat_len5 ok d (fun _ => []) none
  have h2 := endLines_len ok (runG w (fun _ => []) none d) (runLast none d)
  have e : (dueL w d).flatten = (rowsL w (fun _ => []) none d).flatten ++ endLines w (runG w (fun _ => []) none d) (runLast none d) := by
    unfold dueL
    rw [List.flatten_append]
    simp
  rw [e, List.length_append]
  omega
theorem flat_take {w : Wiring} (ok : WiringOk w) (d : List Card) (a b : List (List Str)) (e : dueL w d = a ++ b) : a.flatten.length ≤ d.length * 5 + 4 := by
  have h := due_flat_len ok d
  rw [e, List.flatten_append, List.length_append] at h
  omega
theorem linesT_nil_eqv : D.eqv (linesT []) (.lst []) = true := by rfl
theorem deck13 {c : CA} {Δ : Ds} {ns : List Int} {S hd T B : OT} {pals decks : D} {w : Wiring} {d bc : List Card} {pT : Addr} {s9 s10 s11 s12 : Sl} (ok : WiringOk w) (hdl : d.length ≤ 1000) (hc : ∀ x ∈ d, CardOk x) (hbl : bc.length ≤ 1000) (hbc : ∀ x ∈ bc, CardOk x)
    (hT : Tab c pT w (fun _ => []) none T) (hB : Beside c w bc B) (f9 : dat s9) (f10 : dat s10) (f11 : dat s11) (f12 : dat s12)
    (fin : ∀ T' B' s9' s10' s11' s12', Tab c pT w (fun _ => []) none T' → Beside c w bc B' → dat s9' → dat s10' → dat s11' → dat s12' → Δ.nx (st13 ns S pals w decks hd T' B' (.val (deckD d)) s9' s10' s11' s12')) :
    b_deck13 c Δ (st13 ns S pals w decks hd T B (.val (deckD d)) s9 s10 s11 s12) := by
  have lw : (dueL w d).length = d.length + 1 := by
    unfold dueL
    rw [List.length_append, rowsL_len]
    rfl
  -- due
  refine set_e (x := dueD (dueL w d)) (ev_call2o (ev_var (i := 8) rfl) (ev_var (i := 3) (x := wiringD w) rfl) fun Ψ q => ⟨d, w, rfl, hdl, hc, ok, q⟩) (f9.free rfl) ?_
  show dFor _ _ _ _ (st13 ns S pals w decks hd T B (.val (deckD d)) (.val (dueD (dueL w d))) s10 s11 s12)
  refine for_inv' (rng d.length 0 1) (rng1_open (by have h := ev_lenl (ev_var (i := 8) (ρ := st13 ns S pals w decks hd T B (.val (deckD d)) (.val (dueD (dueL w d))) s10 s11 s12) (x := deckD d) rfl); rw [List.length_map] at h; exact h) hdl)
    (fun rest ρ => ∃ (n : Nat) (T' B' : OT) (s10' : Sl), rest = rng (d.length - n) (n : Int) 1 ∧ n ≤ d.length ∧ Tab c pT w (runG w (fun _ => []) none (d.take n)) (runLast none (d.take n)) T' ∧ Beside c w bc B' ∧ dat s10' ∧ ρ = st13 ns S pals w decks hd T' B' (.val (deckD d)) (.val (dueD (dueL w d))) s10' s11 s12)
    ⟨0, T, B, s10, rfl, Nat.zero_le _, hT, hB, f10, rfl⟩ ?_ ?_
  · rintro x rest ρ ⟨n, T', B', s10', e, hn, hT', hB', f10', rfl⟩ K hK
    have hlt := rng_stop e
    rw [rng_step hlt] at e
    cases e
    refine ⟨f10'.free rfl, ?_⟩
    refine turn13 (S := S) (hd := hd) (T := T') (B := B') ok hdl hc hbl hbc (List.getElem?_eq_getElem hlt) hT' hB' fun T2 B2 h1 h2 => ?_
    exact hK _ ⟨n + 1, T2, B2, _, by push_cast; rfl, hlt, h1, h2, .val _, rfl⟩
  rintro ρ ⟨n, T', B', s10', e, hn, hT', hB', f10', rfl⟩
  have en : n = d.length := by
    have := congrArg List.length e
    rw [rng_length] at this
    simp at this
    omega
  subst en
  rw [List.take_length] at hT'
  obtain ⟨dx0, q0, rows0, rfl, _⟩ := id hT'
  let ρ0 := fun (T : OT) (s11 s12 : Sl) => st13 ns S pals w decks hd T B' (.val (deckD d)) (.val (dueD (dueL w d))) s10' s11 s12
  have hok := run_ok hc
  -- the ends
  have due1 : ∀ (T : OT) (s11 s12 : Sl), Ev (dOp ixD (dVar 9) (dUn negD (dC (.int 1)))) (ρ0 T s11 s12) (linesT (endLines w (runG w (fun _ => []) none d) (runLast none d))) := fun T s11 s12 =>
    ev_ixlast (xs := (rowsL w (fun _ => []) none d).map linesT) (by
      have h : Ev (dVar 9) (ρ0 T s11 s12) (dueD (dueL w d)) := ev_var rfl
      unfold dueD at h
      rw [dueL_split] at h
      exact h)
  have e1 := like_call (P := fun ρ1 => ∃ T2, Tab c pT w (endG (runG w (fun _ => []) none d) (runLast none d)) none T2 ∧ ρ1 = ρ0 T2 s11 s12) (x := linesT (endLines w (runG w (fun _ => []) none d) (runLast none d)))
    (fun Ψ h => ends_call (dp := dpVar 6) (pl_var (i := 6) (ρ := ρ0 (tabT c pT dx0 q0 w (lastD (runLast none d)) rows0) s11 s12) rfl) hT' ok hok Ψ fun T2 hT2 => h _ ⟨T2, hT2, rfl⟩) (fun ρ1 ⟨T2, hT2, e⟩ => by rw [e]; exact due1 T2 s11 s12) (lk_end ok _ _ hok 4)
  refine e1 _ fun ρ1 ⟨T2, hT2, e⟩ => ?_
  subst e
  show if (!true) = true then _ else _
  rw [if_neg (by simp)]
  obtain ⟨dx2, q2, rows2, rfl, _⟩ := id hT2
  refine ends_call (dp := dpVar 6) (pl_var (i := 6) (ρ := ρ0 (tabT c pT dx2 q2 w (lastD none) rows2) s11 s12) rfl) hT2 ok (fun x e => nomatch e) _ fun T3 hT3 => ?_
  refine ⟨Nat.zero_le _, rfl, rfl, ?_⟩
  show if (!D.eqv (linesT []) (.lst [])) = true then _ else _
  rw [linesT_nil_eqv, if_neg (by simp)]
  show dSet 11 (dR (dV (dLst dNil))) _ (ρ0 T3 s11 s12)
  have hT4 : Tab c pT w (fun _ => []) none T3 := hT3.cong fun l => endG_nil (w := w) (d := d) l
  refine set_e (x := linesT []) (fun Ψ q => ⟨Nat.zero_le _, q⟩) (f11.free rfl) ?_
  show dFor _ _ _ _ (ρ0 T3 (.val (linesT [])) s12)
  refine for_inv' ((dueL w d).map linesT) (any_open (ev_var (i := 9) rfl)) (fun rest ρ => ∃ (a b : List (List Str)) (s12' : Sl), dueL w d = a ++ b ∧ rest = b.map linesT ∧ dat s12' ∧ ρ = ρ0 T3 (.val (linesT a.flatten)) s12') ⟨[], dueL w d, s12, rfl, rfl, f12, rfl⟩ ?_ ?_
  · rintro x rest ρ ⟨a, b, s12', ea, eb, f12', rfl⟩ K hK
    cases b with
    | nil => cases eb
    | cons y b =>
      cases eb
      refine ⟨f12'.free rfl, ?_⟩
      have fl := flat_take ok d (a ++ [y]) b (by rw [ea]; simp)
      refine set_e (x := linesT (a ++ [y]).flatten) ?_ trivial (hK _ ⟨a ++ [y], b, _, by rw [ea]; simp, rfl, .val _, rfl⟩)
      have h := ev_cat (ρ := ρ0 T3 (.val (linesT a.flatten)) (.val (linesT y))) (a := dVar 11) (b := dVar 12) (xs := a.flatten.map D.str) (ys := y.map D.str) (ev_var rfl) (ev_var rfl) (by
        have e3 : (a ++ [y]).flatten = a.flatten ++ y := by simp
        rw [e3, List.length_append] at fl
        rw [List.length_map, List.length_map]
        omega)
      have e2 : linesT (a ++ [y]).flatten = .lst (a.flatten.map D.str ++ y.map D.str) := by
        unfold linesT
        rw [List.flatten_append, List.map_append]
        simp
      rw [e2]
      exact h
  rintro ρ ⟨a, b, s12', ea, eb, f12', rfl⟩
  have : b = [] := by simpa using eb.symm
  subst this
  rw [List.append_nil] at ea
  subst ea
  have fl := due_flat_len ok d
  refine if_notE (P := fun ρ1 => ρ1 = ρ0 T3 (.val (linesT (dueL w d).flatten)) s12') (like_call (x := linesT (dueL w d).flatten) (fun Ψ h => ev_call2o (f := F_printed c) (ev_var (i := 8) rfl) (ev_var (i := 3) (x := wiringD w) rfl) (fun Ψ q => ⟨d, w, rfl, hdl, hc, ok, q⟩) Ψ (h _ rfl)) (fun ρ1 e => by rw [e]; exact ev_var (i := 11) rfl) (lk_linesT (flat_str ok hc) (by omega) 4)) fun ρ1 e => ?_
  subst e
  exact fin T3 B' _ _ _ _ hT4 hB' (.val _) f10' (.val _) f12'
end DL
set_option Elab.async false
set_option linter.all false
set_option maxRecDepth 100000
set_option maxHeartbeats 2000000
namespace DL
open PySem PySem.Spec PyProof.Rows L2 RT

theorem cutD_init {α : Type} (xs : List α) (x : α) : cutD (xs ++ [x]) none (some (-1)) = xs := by
  have h : cutD (xs ++ [x]) none (some (-1)) = (xs ++ [x]).take xs.length := by
    unfold cutD
    have e1 : HT.sIx (xs ++ [x]).length 0 none = 0 := rfl
    have e2 : HT.sIx (xs ++ [x]).length (xs ++ [x]).length (some (-1)) = xs.length := by
      unfold HT.sIx
      simp
      try omega
    rw [e1, e2]
    simp
  rw [h, List.take_left']
  rfl
theorem toDs_vals : ∀ ds : List D, OT.toDs (ds.map OT.val) = some ds
  | [] => rfl
  | d :: ds => by
    show (match OT.toD (.val d), OT.toDs (ds.map OT.val) with | some d, some ds => some (d :: ds) | _, _ => none) = _
    rw [toDs_vals ds]
    rfl
theorem toRds_vals : ∀ ds : List D, OT.toRds (ds.map OT.val) = some ds
  | [] => rfl
  | d :: ds => by
    show (match OT.toRd (.val d), OT.toRds (ds.map OT.val) with | some d, some ds => some (d :: ds) | _, _ => none) = _
    rw [toRds_vals ds]
    rfl
theorem listyL_vals : ∀ ds : List D, OT.listyL (ds.map OT.val) = true
  | [] => rfl
  | d :: ds => by
    show (OT.listy (.val d) && OT.listyL (ds.map OT.val)) = true
    rw [listyL_vals ds]
    rfl
theorem bcT_eq (ds : List Card) : bcT ds = (ds.map cardD).map OT.val := by
  unfold bcT
  rw [List.map_map]
  rfl
theorem blT_eq (ls : List (List Str)) : blT ls = (ls.map linesT).map OT.val := by
  unfold blT
  rw [List.map_map]
  rfl
def handed (p p1 p2 : Addr) (w : Wiring) : OT := .tup p [.lst p1 ((w.watched.map nD).map OT.val), .lst p2 ((w.plugs.map plugD).map OT.val), .val (.bl w.detail)]
theorem handed_d (p p1 p2 : Addr) (w : Wiring) : (handed p p1 p2 w).toD = some (wiringD w) := by
  unfold handed OT.toD
  unfold OT.toDs
  unfold OT.toD
  rw [toDs_vals]
  unfold OT.toDs
  unfold OT.toD
  rw [toDs_vals]
  rfl
theorem handed_rd (p p1 p2 : Addr) (w : Wiring) : (handed p p1 p2 w).toRd = some (wiringR w) := by
  unfold handed OT.toRd
  unfold OT.toRds
  unfold OT.toRd
  rw [toRds_vals]
  unfold OT.toRds
  unfold OT.toRd
  rw [toRds_vals]
  rfl
theorem handed_listy (p p1 p2 : Addr) (w : Wiring) : (handed p p1 p2 w).listy = true := by
  show (OT.listyL _ && (OT.listyL _ && true)) = true
  rw [listyL_vals, listyL_vals]
  rfl
theorem seq_go {a b : DS} {Δ : Ds} {ρ : List Sl} (h : a { Δ with nx := b Δ } ρ) : dSeq a b Δ ρ := h
theorem set_go {i : Nat} {d : DR} {Δ : Ds} {ρ : List Sl} (h : d ρ fun x ρ1 => free ρ1 i ∧ Δ.nx (ρ1.set i x)) : dSet i d Δ ρ := h
theorem if_go {c : DT} {a b : DS} {Δ : Ds} {ρ : List Sl} (h : c ρ fun k ρ1 => if k = true then a Δ ρ1 else b Δ ρ1) : dIfS c a b Δ ρ := h
theorem set_call2X {i : Nat} {f : DF} {a b : DE} {Δ : Ds} {ρ ρ1 : List Sl} {x y : D} (ha : ∀ Ψ : D → List Sl → Prop, Ψ x ρ1 → a ρ Ψ) (hb : Ev b ρ1 y) (k : f [x, y] fun s => asD (fun z ρ => free ρ i ∧ Δ.nx (ρ.set i (.val z))) s ρ1) : dSet i (dR (dV (dCall f (dCons a (dCons b dNil))))) Δ ρ := ha _ (hb _ k)
theorem mkK_open {C : Addr} {f : DFO} {i : Nat} {ρ : List Sl} {Φ : Sl → List Sl → Prop} {t : OT} {x : D} (h : ρ[i]? = some (.loc t)) (hl : t.listy = true) (hr : t.toRd = some x) (k : ∀ p dx, f (.ins p dx C []) [x] fun r S' => r = .val .non ∧ S'.noRd = true ∧ Φ (.loc S') ρ) : dMkK C f i ρ Φ := by
  unfold dMkK
  rw [h]
  refine ⟨hl, ?_⟩
  rw [hr]
  exact k
theorem rowsL_len5 {w : Wiring} (ok : WiringOk w) : ∀ (a : List Card) (G : Nat → List Card) (last : Option Card), ∀ ls ∈ rowsL w G last a, ls.length ≤ 5
  | [], _, _, ls, h => by cases h
  | c :: a, G, last, ls, h => by
    rcases List.mem_cons.mp h with h | h
    · rw [h]
      exact fedLines_len ok G last c
    · exact rowsL_len5 ok a _ _ ls h
theorem pclear_open {d : DP} {Δ : Ds} {ρ : List Sl} {i : Nat} {π : List Stp} {t : OT} {p : Addr} {xs : List OT} (h : Pl d ρ i π t (.lst p xs)) (k : Δ.nx (ρ.set i (withTree (t.put π (.lst p [])) (ρ[i]?)))) : dDrop (dPClear d) Δ ρ := h.ev _ (by
  rw [h.tr]
  exact k)
theorem next_go {Δ : Ds} {ρ : List Sl} (h : Δ.nx ρ) : dNext Δ ρ := h
theorem frzP_open {d : DP} {ρ : List Sl} {i : Nat} {π : List Stp} {t s : OT} {x : D} {Ψ : D → List Sl → Prop} (h : Pl d ρ i π t s) (hl : ρ[i]? = some (.loc t)) (hd : s.toD = some x) (hs : s.node = true) (hn : (t.put π (.val x)).node = true) (k : Ψ x (ρ.set i (.loc (t.put π (.val x))))) : dFrzP d ρ Ψ := h.ev _ (by
  rw [hl, hd]
  exact ⟨hs, hn, k⟩)
theorem ok_plug58 (p : Plug) : (plugD p).okN 58 = true := by
  cases p <;> simp [plugD, nD, D.okN, D.okL, sok_hole, sok_head, sok_add, sok_count, sok_print, sok_level]
theorem ok_wiring (w : Wiring) : (wiringD w).okN 60 = true := by
  show ((watchedD w).okN 59 && ((plugsD w).okN 59 && true)) = true
  rw [show (watchedD w).okN 59 = true from ok_lst nD fun x _ => rfl, show (plugsD w).okN 59 = true from ok_lst plugD fun x _ => ok_plug58 x]
  rfl
def b_rest13 (c : CA) : DS := (dSeq (dFor (diAny (dVar 4)) (dgName 8) (b_deck13 c))
  (dSeq (dSet 9 (dR (dV (dCall F_L_printed (dCons (dV (dSl (dFrzP (dpIx (dpVar 7) (dC (.int 1)))) dNoPart (dPart (dV (dR (dPLen (dpIx (dpVar 7) (dC (.int 2))))))))) (dCons (dVar 3) dNil))))))
  (dRet (dR (dAndV (dV (dCall (F_L_like 6) (dCons (dFrzP (dpIx (dpVar 7) (dC (.int 2)))) (dCons (dV (dSl (dVar 9) dNoPart (dPart (dUn negD (dC (.int 1)))))) dNil)))) (dV (dCall (F_L_like 6) (dCons (dV (dCallM c.Table "ends" (F_Table_ends c) (dpIx (dpVar 7) (dC (.int 0))) dNil)) (dCons (dOp ixD (dVar 9) (dUn negD (dC (.int 1)))) dNil)))))))))
def b_t5 (c : CA) : DS := (dSeq (dSet 5 (dTupO (doCons (dCB listD (dCons (dOp ixD (dVar 3) (dC (.int 0))) dNil)) (doCons (dCB listD (dCons (dOp ixD (dVar 3) (dC (.int 1))) dNil)) (doCons (dR (dOp ixD (dVar 3) (dC (.int 2)))) doNil)))))
  (dSeq (dSet 6 (dMkK c.Table (F_Table_init c) 5))
  (dSeq (dIfS (dTest (dCmpOwn neD 5 (dVar 3))) (dRet (dR (dC (.bl false)))) dNext)
  (dSeq (dDrop (dPClear (dpIx (dpVar 5) (dC (.int 0)))))
  (dSeq (dDrop (dPClear (dpIx (dpVar 5) (dC (.int 1)))))
  (dSeq (dSet 7 (dLstO (doCons (dMk c.Table (F_Table_init c) (dCons (dVar 3) dNil)) (doCons (dRevL (dOp ixD (dVar 4) (dC (.int 1)))) (doCons (dLst dNil) doNil)))))
  (b_rest13 c)))))))
def b_law (c : CA) : DS := (dSeq (dSetT 1 (dCall F_L_dice (dCons (dVar 0) dNil)))
  (dSeq (dSet 2 (dR (dV (dCallO F_L_palettes 1 dNil))))
  (dSeq (dSet 3 (dR (dV (dCallO F_L_wiring 1 (dCons (dV (dCB min2D (dCons (dC (.int 11)) (dCons (dV (dCB lenD (dCons (dVar 2) dNil))) dNil)))) dNil)))))
  (dSeq (dSet 4 (dR (dV (dLst (dCons (dV (dCallO F_L_deck 1 (dCons (dVar 2) (dCons (dC (.int 14)) dNil)))) (dCons (dV (dCallO F_L_deck 1 (dCons (dVar 2) (dCons (dC (.int 5)) dNil)))) dNil))))))
  (b_t5 c)))))
theorem noRd_tab0 {c : CA} {p : Addr} {w : Wiring} {t : OT} (h : Tab c p w (fun _ => []) none t) : t.noRd = true := tab_noRd h
def st0 (ns : List Int) (S : OT) (pals : D) (w : Wiring) (decks : D) (s5 s6 s7 : Sl) : List Sl := [.val (.rd (ns.map D.int)), .loc S, .val pals, .val (wiringD w), .val decks, s5, s6, s7, .un, .un, .un, .un, .un]
theorem rest13 {c : CA} {Φ : Sl → Prop} {ns : List Int} {S hd T B : OT} {pals : D} {w : Wiring} {d1 d2 bc : List Card} {pT : Addr} (ok : WiringOk w) (l1 : d1.length ≤ 1000) (l2 : d2.length ≤ 1000) (c1 : ∀ x ∈ d1, CardOk x) (c2 : ∀ x ∈ d2, CardOk x) (rl : bc.length ≤ 1000) (rc : ∀ x ∈ bc, CardOk x)
    (hT : Tab c pT w (fun _ => []) none T) (hB : Beside c w bc B) (k : Φ (.val (.bl true))) : b_rest13 c (rtV Φ) (st13 ns S pals w (.lst [deckD d1, deckD d2]) hd T B .un .un .un .un .un) := by
  refine for_inv' [deckD d1, deckD d2] (any_open (ev_var (i := 4) rfl)) (fun rest ρ => ∃ (a b : List (List Card)) (T' B' : OT) (s8 s9 s10 s11 s12 : Sl), [d1, d2] = a ++ b ∧ rest = b.map deckD ∧ Tab c pT w (fun _ => []) none T' ∧ Beside c w bc B' ∧ dat s8 ∧ dat s9 ∧ dat s10 ∧ dat s11 ∧ dat s12 ∧ ρ = st13 ns S pals w (.lst [deckD d1, deckD d2]) hd T' B' s8 s9 s10 s11 s12)
    ⟨[], [d1, d2], T, B, .un, .un, .un, .un, .un, rfl, rfl, hT, hB, .un, .un, .un, .un, .un, rfl⟩ ?_ ?_
  · rintro x rest ρ ⟨a, b, T', B', s8, s9, s10, s11, s12, ea, eb, hT', hB', f8, f9, f10, f11, f12, rfl⟩ K hK
    cases b with
    | nil => cases eb
    | cons y b =>
      cases eb
      have hy : y = d1 ∨ y = d2 := by
        have : y ∈ [d1, d2] := by rw [ea]; simp
        simpa using this
      have ly : y.length ≤ 1000 := by rcases hy with rfl | rfl <;> assumption
      have cy : ∀ x ∈ y, CardOk x := by rcases hy with rfl | rfl <;> assumption
      refine ⟨f8.free rfl, ?_⟩
      refine deck13 (S := S) (hd := hd) (T := T') (B := B') ok ly cy rl rc hT' hB' f9 f10 f11 f12 fun T2 B2 s9' s10' s11' s12' h1 h2 g9 g10 g11 g12 => ?_
      exact hK _ ⟨a ++ [y], b, T2, B2, _, s9', s10', s11', s12', by rw [ea]; simp, rfl, h1, h2, .val _, g9, g10, g11, g12, rfl⟩
  rintro ρ ⟨a, b, T', B', s8, s9, s10, s11, s12, ea, eb, hT', hB', f8, f9, f10, f11, f12, rfl⟩
  obtain ⟨pb, pB, p1, p2, TB, m, rfl, hm, hTB⟩ := id hB'
  let ls := rowsL w (fun _ => []) none (bc.take m)
  have lenB : ls.length = m := by
    show (rowsL w (fun _ => []) none (bc.take m)).length = m
    rw [rowsL_len, List.length_take]; omega
  have tm : (bc.take m).length ≤ 1000 := by rw [List.length_take]; omega
  have tc : ∀ x ∈ bc.take m, CardOk x := fun x hx => rc x (List.mem_of_mem_take hx)
  let ρ0 : List Sl := st13 ns S pals w (.lst [deckD d1, deckD d2]) hd T' (besideT pb TB p1 bc p2 ls) s8 s9 s10 s11 s12
  let B1 : OT := .lst pb [TB, .val (deckD bc), .lst p2 (blT ls)]
  let ρ1 : List Sl := st13 ns S pals w (.lst [deckD d1, deckD d2]) hd T' B1 s8 s9 s10 s11 s12
  have pv0 : Pl (dpVar 7) ρ0 7 [] (besideT pb TB p1 bc p2 ls) (besideT pb TB p1 bc p2 ls) := pl_var rfl
  have f1 : ∀ Ψ : D → List Sl → Prop, Ψ (deckD bc) ρ1 → dFrzP (dpIx (dpVar 7) (dC (.int 1))) ρ0 Ψ := fun Ψ q => frzP_open (pl_ix (j := 1) (u := .lst p1 (bcT bc)) pv0 (ev_c (x := nD 1)) rfl) rfl (x := deckD bc) (by
    rw [bcT_eq]
    unfold OT.toD
    rw [toDs_vals]
    rfl) rfl rfl q
  have pv1 : ∀ s9, Pl (dpVar 7) (st13 ns S pals w (.lst [deckD d1, deckD d2]) hd T' B1 s8 s9 s10 s11 s12) 7 [] B1 B1 := fun s9 => pl_var rfl
  have p2' : ∀ s9, Pl (dpIx (dpVar 7) (dC (.int 2))) (st13 ns S pals w (.lst [deckD d1, deckD d2]) hd T' B1 s8 s9 s10 s11 s12) 7 ([] ++ [.ix 2]) B1 (.lst p2 (blT ls)) := fun s9 => pl_ix (pv1 s9) (ev_c (x := nD 2)) rfl
  have l2' : Ev (dV (dR (dPLen (dpIx (dpVar 7) (dC (.int 2)))))) ρ1 (nD m) := by
    have h := (p2' s9).len
    have e : (blT ls).length = m := by unfold blT; rw [List.length_map, lenB]
    rw [e] at h
    exact h
  have sl : ∀ Ψ : D → List Sl → Prop, Ψ (deckD (bc.take m)) ρ1 → dV (dSl (dFrzP (dpIx (dpVar 7) (dC (.int 1)))) dNoPart (dPart (dV (dR (dPLen (dpIx (dpVar 7) (dC (.int 2)))))))) ρ0 Ψ := fun Ψ q => by
    unfold dV dSl
    refine f1 _ (l2' _ ?_)
    show Ψ (.lst (cutD (bc.map cardD) none (some (m : Int)))) ρ1
    rw [cutD_take, ← List.map_take]
    exact q
  refine seq_go (ρ := ρ0) ?_
  refine set_call2X sl (ev_var (i := 3) (x := wiringD w) rfl) ⟨bc.take m, w, rfl, tm, tc, ok, f9.free rfl, ?_⟩
  let due := dueL w (bc.take m)
  let ρ2 : List Sl := st13 ns S pals w (.lst [deckD d1, deckD d2]) hd T' B1 s8 (.val (dueD due)) s10 s11 s12
  let B3 : OT := .lst pb [TB, .val (deckD bc), .val (dueD ls)]
  let ρ3 : List Sl := st13 ns S pals w (.lst [deckD d1, deckD d2]) hd T' B3 s8 (.val (dueD due)) s10 s11 s12
  have f2 : ∀ Ψ : D → List Sl → Prop, Ψ (dueD ls) ρ3 → dFrzP (dpIx (dpVar 7) (dC (.int 2))) ρ2 Ψ := fun Ψ q => frzP_open (p2' (.val (dueD due))) rfl (x := dueD ls) (by
    rw [blT_eq]
    unfold OT.toD
    rw [toDs_vals]
    rfl) rfl rfl q
  have due9 : Ev (dVar 9) ρ3 (.lst (ls.map linesT ++ [linesT (endLines w (runG w (fun _ => []) none (bc.take m)) (runLast none (bc.take m)))])) := by
    have h : Ev (dVar 9) ρ3 (dueD due) := ev_var rfl
    unfold dueD at h
    rw [dueL_split] at h
    exact h
  have cut9 : Ev (dV (dSl (dVar 9) dNoPart (dPart (dUn negD (dC (.int 1)))))) ρ3 (dueD ls) := fun Ψ q => by
    unfold dV dSl
    refine due9 _ ?_
    show Ψ (.lst (cutD (ls.map linesT ++ [linesT (endLines w (runG w (fun _ => []) none (bc.take m)) (runLast none (bc.take m)))]) none (some (-1)))) ρ3
    rw [cutD_init]
    exact q
  have lk1 : (dueD ls).lk 5 = true := lk_lst linesT (by rw [lenB]; omega) fun l hl => lk_linesT (rowsL_str ok _ _ none (fun x e => nomatch e) tc l hl) (by
    have := rowsL_len5 ok _ _ _ l hl
    omega) 3
  refine like_call (P := fun ρ => ρ = ρ3) (x := dueD ls) (fun Ψ h => f2 Ψ (h _ rfl)) (fun ρ e => by rw [e]; exact cut9) lk1 _ fun ρ e => ?_
  subst e
  show if true = true then _ else _
  rw [if_pos rfl]
  obtain ⟨dxB, qB, rowsB, rfl, _⟩ := id hTB
  have p0 : Pl (dpIx (dpVar 7) (dC (.int 0))) ρ3 7 ([] ++ [.ix 0]) B3 (tabT c pB dxB qB w (lastD (runLast none (bc.take m))) rowsB) := pl_ix (pl_var rfl) (ev_c (x := nD 0)) rfl
  refine like_call (P := fun ρ => ∃ S', ρ = ρ3.set 7 (.loc S')) (x := linesT (endLines w (runG w (fun _ => []) none (bc.take m)) (runLast none (bc.take m)))) (fun Ψ h => ends_call p0 hTB ok (run_ok tc) Ψ fun S' hS' => h _ ⟨_, rfl⟩) (fun ρ ⟨S', e⟩ => ?_) (lk_end ok _ _ (run_ok tc) 4) _ fun ρ e => k
  rw [e]
  refine ev_ixlast (xs := ls.map linesT) ?_
  have h : Ev (dVar 9) (ρ3.set 7 (.loc S')) (dueD due) := ev_var rfl
  unfold dueD at h
  rw [dueL_split] at h
  exact h
theorem tail5 {c : CA} {Φ : Sl → Prop} {ns : List Int} {S4 : OT} {pD : D} {w : Wiring} {d1 d2 : List Card} (ok : WiringOk w) (h1 : d1.length ≤ 1000) (h2 : d2.length ≤ 1000) (c1 : ∀ x ∈ d1, CardOk x) (c2 : ∀ x ∈ d2, CardOk x) (k : Φ (.val (.bl true))) : b_t5 c (rtV Φ) (st0 ns S4 pD w (.lst [deckD d1, deckD d2]) .un .un .un) := by
  let dk := D.lst [deckD d1, deckD d2]
  have o3 : ∀ Ψ : List OT → List Sl → Prop, (∀ p1 p2, Ψ [.lst p1 ((w.watched.map nD).map OT.val), .lst p2 ((w.plugs.map plugD).map OT.val), .val (.bl w.detail)] (st0 ns S4 pD w dk .un .un .un)) → (doCons (dCB listD (dCons (dOp ixD (dVar 3) (dC (.int 0))) dNil)) (doCons (dCB listD (dCons (dOp ixD (dVar 3) (dC (.int 1))) dNil)) (doCons (dR (dOp ixD (dVar 3) (dC (.int 2)))) doNil))) (st0 ns S4 pD w dk .un .un .un) Ψ := fun Ψ q => by
    unfold doCons
    refine fun p1 => ?_
    refine fun p2 => ?_
    exact q p1 p2
  refine seq_go (set_go ?_)
  refine o3 _ fun p1 p2 => ⟨by show 3 ≤ 1000000; decide, fun p => ⟨trivial, ?_⟩⟩
  dsimp only
  refine seq_go (ρ := st0 ns S4 pD w dk (.loc (handed p p1 p2 w)) .un .un) (set_go (mkK_open rfl (handed_listy p p1 p2 w) (handed_rd p p1 p2 w) ?_))
  refine fun pT dx => ⟨pT, dx, w, wiringR w, rfl, rfl, ok, .inr rfl, fun T _ hT => ⟨rfl, noRd_tab0 hT, trivial, ?_⟩⟩
  dsimp only
  refine seq_go (ρ := st0 ns S4 pD w dk (.loc (handed p p1 p2 w)) (.loc T) .un) (if_go ?_)
  refine cmpOwn_of (ρ := st0 ns S4 pD w dk (.loc (handed p p1 p2 w)) (.loc T) .un) (ρ1 := st0 ns S4 pD w dk (.loc (handed p p1 p2 w)) (.loc T) .un) (x := wiringD w) (y := wiringD w) (handed_d p p1 p2 w) (fun Ψ q => q) (handed_d p p1 p2 w) ⟨ok_wiring w, ok_wiring w, ?_⟩
  have es : D.eqv (wiringD w) (wiringD w) = true := eqv_self _ 60 (ok_wiring w)
  rw [es]
  show if (!true) = true then _ else _
  rw [if_neg (by simp)]
  have o7 : ∀ Ψ : List OT → List Sl → Prop, (∀ pB q1 q2 TB, Tab c pB w (fun _ => []) none TB → Ψ [TB, .lst q1 (bcT d2.reverse), .lst q2 (blT [])] (st0 ns S4 pD w dk (.loc (.tup p [.lst p1 [], .lst p2 [], .val (.bl w.detail)])) (.loc T) .un)) → (doCons (dMk c.Table (F_Table_init c) (dCons (dVar 3) dNil)) (doCons (dRevL (dOp ixD (dVar 4) (dC (.int 1)))) (doCons (dLst dNil) doNil))) (st0 ns S4 pD w dk (.loc (.tup p [.lst p1 [], .lst p2 [], .val (.bl w.detail)])) (.loc T) .un) Ψ := fun Ψ q => by
    unfold doCons
    refine fun pB dx => ⟨pB, dx, w, wiringD w, rfl, rfl, ok, .inl rfl, fun TB _ hTB => ⟨rfl, ?_⟩⟩
    unfold dRevL
    refine fun q1 => ⟨Nat.zero_le _, fun q2 => ?_⟩
    have h := q pB q1 q2 TB hTB
    rw [bcT_eq, List.map_reverse] at h
    exact h
  refine next_go ?_
  dsimp only
  refine seq_go (ρ := st0 ns S4 pD w dk (.loc (handed p p1 p2 w)) (.loc T) .un) ?_
  refine pclear_open (π := [] ++ [.ix 0]) (pl_ixT (pl_var rfl) (ev_c (x := nD 0)) rfl) ?_
  dsimp only
  refine seq_go (ρ := st0 ns S4 pD w dk (.loc (.tup p [.lst p1 [], .lst p2 ((w.plugs.map plugD).map OT.val), .val (.bl w.detail)])) (.loc T) .un) ?_
  refine pclear_open (π := [] ++ [.ix 1]) (pl_ixT (pl_var rfl) (ev_c (x := nD 1)) rfl) ?_
  dsimp only
  refine seq_go (ρ := st0 ns S4 pD w dk (.loc (.tup p [.lst p1 [], .lst p2 [], .val (.bl w.detail)])) (.loc T) .un) (set_go ?_)
  refine o7 _ fun pB q1 q2 TB hTB => ⟨by show 3 ≤ 1000000; decide, fun pb => ⟨trivial, ?_⟩⟩
  exact rest13 (S := S4) (hd := .tup p [.lst p1 [], .lst p2 [], .val (.bl w.detail)]) (T := T) (B := besideT pb TB q1 d2.reverse q2 []) ok h1 h2 c1 c2 (by rw [List.length_reverse]; exact h2) (fun x hx => c2 x (List.mem_reverse.mp hx)) hT ⟨pb, pB, q1, q2, TB, 0, rfl, Nat.zero_le _, hTB⟩ k
theorem rd_law (c : CA) : ∀ xs Φ, F_law xs Φ → b_law c (rtV Φ) (slots xs 13) := by
  rintro xs Φ ⟨ns, rfl, hl, k⟩
  refine ⟨ns, rfl, hl, fun m m0 m1 => ⟨trivial, fun p0 => ?_⟩⟩
  have D0 : Dice (diceT p0 ns 0 m 0) := ⟨p0, ns, 0, m, 0, rfl, by decide, m0, m1⟩
  refine ⟨D0, rfl, fun pals S1 l1 l2 hpal a1 => ⟨trivial, ?_⟩⟩
  have hmost : ∃ z : Nat, (z : Int) = (if ((pals.map palD).length : Int) < 11 then ((pals.map palD).length : Int) else 11) ∧ z ≤ 11 := by
    rw [List.length_map]
    split
    · exact ⟨pals.length, rfl, by omega⟩
    · exact ⟨11, rfl, by omega⟩
  obtain ⟨z, hz, z11⟩ := hmost
  refine ⟨a1.1, z, by show [D.int _] = [D.int (z : Int)]; rw [hz], z11, fun w S2 ok a2 => ⟨trivial, ?_⟩⟩
  refine ⟨a2.1, pals, 14, rfl, l2, hpal, by decide, by decide, fun d1 S3 h1 q1 a3 => ?_⟩
  refine ⟨a3.1, pals, 5, rfl, l2, hpal, by decide, by decide, fun d2 S4 h2 q2 a4 => ?_⟩
  refine ⟨by show 2 ≤ 1000000; decide, trivial, ?_⟩
  have c1 : ∀ c ∈ d1, CardOk c := fun c hc => (q1 c hc).ok l2 hpal
  have c2 : ∀ c ∈ d2, CardOk c := fun c hc => (q2 c hc).ok l2 hpal
  exact tail5 (S4 := S4) (pD := .lst (pals.map palD)) ok (by omega) (by omega) c1 c2 k
end DL
set_option Elab.async false
set_option linter.all false
set_option maxRecDepth 100000
set_option maxHeartbeats 4000000
namespace DL
open PySem PySem.Spec PyProof.Rows L2 RT
def topS (i : Nat) : Stmt := PySem.Challenge.pw_holedeck_k13_tables_card_by_card.main.body.getD i (.Pass ⟨0, 0, 0, 0⟩)
abbrev s_L_like : Stmt := topS 23
abbrev s_L_dice : Stmt := topS 21
abbrev s_L_next : Stmt := topS 22
abbrev s_L_columns : Stmt := topS 24
abbrev s_L_column : Stmt := topS 25
abbrev s_L_figure : Stmt := topS 26
abbrev s_L_ten : Stmt := topS 36
abbrev s_L_line : Stmt := topS 38
abbrev s_column_of : Stmt := topS 6
abbrev s_figure_of : Stmt := topS 7
abbrev s_over_of : Stmt := topS 8
abbrev s_is_plug : Stmt := topS 16
abbrev s_Counter_init : Stmt := inClass (topS 17) 0
abbrev s_Counter_add : Stmt := inClass (topS 17) 1
abbrev s_L_sign : Stmt := topS 28
abbrev s_L_palette : Stmt := topS 29
abbrev s_L_deck : Stmt := topS 30
abbrev s_L_plug : Stmt := topS 34
abbrev s_L_counted : Stmt := topS 37
abbrev s_sign_of : Stmt := topS 9
abbrev s_Table_changed : Stmt := inClass (topS 18) 2
abbrev s_L_palettes : Stmt := topS 31
abbrev s_L_wiring : Stmt := topS 35
abbrev s_L_total_row : Stmt := topS 39
abbrev s_Table_fresh : Stmt := inClass (topS 18) 1
abbrev s_Table_detail_row : Stmt := inClass (topS 18) 6
abbrev s_Table_total_row : Stmt := inClass (topS 18) 7
abbrev s_L_printed : Stmt := topS 40
abbrev s_Table_init : Stmt := inClass (topS 18) 0
abbrev s_Table_totals : Stmt := inClass (topS 18) 5
abbrev s_Table_feed : Stmt := inClass (topS 18) 3
abbrev s_Table_ends : Stmt := inClass (topS 18) 4
abbrev s_printed : Stmt := topS 19
abbrev s_law : Stmt := topS 41
structure Txt (K : PySem.W.Frag) (mg : Str → Option Value) where
  b_bool : mg "bool" = none
  b_int : mg "int" = none
  b_isinstance : mg "isinstance" = none
  b_len : mg "len" = none
  b_list : mg "list" = none
  b_max : mg "max" = none
  b_min : mg "min" = none
  b_range : mg "range" = none
  b_str : mg "str" = none
  b_tuple : mg "tuple" = none
  ca : CA
  C_Counter : Cls K ca.Counter
  mC_Counter : mg "Counter" = some (.ref ca.Counter)
  C_Table : Cls K ca.Table
  mC_Table : mg "Table" = some (.ref ca.Table)
  N_Counter_wheels : NoAttr K ca.Counter "wheels"
  N_Table_controls : NoAttr K ca.Table "controls"
  N_Table_counters : NoAttr K ca.Table "counters"
  N_Table_detail : NoAttr K ca.Table "detail"
  N_Table_last : NoAttr K ca.Table "last"
  N_Table_plugs : NoAttr K ca.Table "plugs"
  a_LETTERS : Addr
  m_LETTERS : mg "LETTERS" = some (.ref a_LETTERS)
  D_LETTERS : DictI K a_LETTERS [(10, "KLMNOPQRST"), (11, "ABCDEFGHIJ")]
  a_WORDS : Addr
  m_WORDS : mg "WORDS" = some (.ref a_WORDS)
  D_WORDS : DictS K a_WORDS [("hole", 3), ("head", 4), ("add", 4), ("count", 2), ("print", 4), ("level", 2)]
  t_FIGURES : Tok
  g_FIGURES : mg "FIGURES" = some (.str "0123456789" t_FIGURES)
  t_LINE : Tok
  g_LINE : mg "LINE" = some (.int 40 t_LINE)
  t_MOST_COUNTERS : Tok
  g_MOST_COUNTERS : mg "MOST_COUNTERS" = some (.int 4 t_MOST_COUNTERS)
  t_MOST_LEVELS : Tok
  g_MOST_LEVELS : mg "MOST_LEVELS" = some (.int 3 t_MOST_LEVELS)
  t_MOST_WHEELS : Tok
  g_MOST_WHEELS : mg "MOST_WHEELS" = some (.int 8 t_MOST_WHEELS)
  f_L_like : Addr
  d_L_like : FuncData
  m_L_like : mg "_law_like" = some (.ref f_L_like)
  F_L_like : Fun K "_law_like" "_law_like" s_L_like f_L_like d_L_like
  B_L_like : Binds K d_L_like ["_law_found", "_law_due"] []
  f_L_dice : Addr
  d_L_dice : FuncData
  m_L_dice : mg "_law_dice" = some (.ref f_L_dice)
  F_L_dice : Fun K "_law_dice" "_law_dice" s_L_dice f_L_dice d_L_dice
  B_L_dice : Binds K d_L_dice ["_law_script"] []
  f_L_next : Addr
  d_L_next : FuncData
  m_L_next : mg "_law_next" = some (.ref f_L_next)
  F_L_next : Fun K "_law_next" "_law_next" s_L_next f_L_next d_L_next
  B_L_next : Binds K d_L_next ["_law_dice_here", "_law_many"] []
  f_L_columns : Addr
  d_L_columns : FuncData
  m_L_columns : mg "_law_columns" = some (.ref f_L_columns)
  F_L_columns : Fun K "_law_columns" "_law_columns" s_L_columns f_L_columns d_L_columns
  B_L_columns : Binds K d_L_columns [] []
  f_L_column : Addr
  d_L_column : FuncData
  m_L_column : mg "_law_column" = some (.ref f_L_column)
  F_L_column : Fun K "_law_column" "_law_column" s_L_column f_L_column d_L_column
  B_L_column : Binds K d_L_column ["_law_card", "_law_at"] []
  f_L_figure : Addr
  d_L_figure : FuncData
  m_L_figure : mg "_law_figure" = some (.ref f_L_figure)
  F_L_figure : Fun K "_law_figure" "_law_figure" s_L_figure f_L_figure d_L_figure
  B_L_figure : Binds K d_L_figure ["_law_column_here"] []
  f_L_ten : Addr
  d_L_ten : FuncData
  m_L_ten : mg "_law_ten" = some (.ref f_L_ten)
  F_L_ten : Fun K "_law_ten" "_law_ten" s_L_ten f_L_ten d_L_ten
  B_L_ten : Binds K d_L_ten ["_law_wheel"] []
  f_L_line : Addr
  d_L_line : FuncData
  m_L_line : mg "_law_line" = some (.ref f_L_line)
  F_L_line : Fun K "_law_line" "_law_line" s_L_line f_L_line d_L_line
  B_L_line : Binds K d_L_line ["_law_signs"] []
  f_column_of : Addr
  d_column_of : FuncData
  m_column_of : mg "column_of" = some (.ref f_column_of)
  F_column_of : Fun K "column_of" "column_of" s_column_of f_column_of d_column_of
  B_column_of : Binds K d_column_of ["card", "at"] []
  f_figure_of : Addr
  d_figure_of : FuncData
  m_figure_of : mg "figure_of" = some (.ref f_figure_of)
  F_figure_of : Fun K "figure_of" "figure_of" s_figure_of f_figure_of d_figure_of
  B_figure_of : Binds K d_figure_of ["column"] []
  f_over_of : Addr
  d_over_of : FuncData
  m_over_of : mg "over_of" = some (.ref f_over_of)
  F_over_of : Fun K "over_of" "over_of" s_over_of f_over_of d_over_of
  B_over_of : Binds K d_over_of ["column"] []
  f_is_plug : Addr
  d_is_plug : FuncData
  m_is_plug : mg "is_plug" = some (.ref f_is_plug)
  F_is_plug : Fun K "is_plug" "is_plug" s_is_plug f_is_plug d_is_plug
  B_is_plug : Binds K d_is_plug ["plug", "levels"] []
  f_Counter_init : Addr
  d_Counter_init : FuncData
  K_Counter : Mk K ca.Counter f_Counter_init
  F_Counter_init : Fun K "__init__" "Counter.__init__" s_Counter_init f_Counter_init d_Counter_init
  B_Counter_init : Binds K d_Counter_init ["self"] []
  f_Counter_add : Addr
  d_Counter_add : FuncData
  M_Counter_add : Meth K ca.Counter "add" f_Counter_add
  F_Counter_add : Fun K "add" "Counter.add" s_Counter_add f_Counter_add d_Counter_add
  B_Counter_add : Binds K d_Counter_add ["self", "figure", "wheel"] []
  f_L_sign : Addr
  d_L_sign : FuncData
  m_L_sign : mg "_law_sign" = some (.ref f_L_sign)
  F_L_sign : Fun K "_law_sign" "_law_sign" s_L_sign f_L_sign d_L_sign
  B_L_sign : Binds K d_L_sign ["_law_column_here"] []
  f_L_palette : Addr
  d_L_palette : FuncData
  m_L_palette : mg "_law_palette" = some (.ref f_L_palette)
  F_L_palette : Fun K "_law_palette" "_law_palette" s_L_palette f_L_palette d_L_palette
  B_L_palette : Binds K d_L_palette ["_law_d"] []
  f_L_deck : Addr
  d_L_deck : FuncData
  m_L_deck : mg "_law_deck" = some (.ref f_L_deck)
  F_L_deck : Fun K "_law_deck" "_law_deck" s_L_deck f_L_deck d_L_deck
  B_L_deck : Binds K d_L_deck ["_law_d", "_law_palettes_here", "_law_most"] []
  f_L_plug : Addr
  d_L_plug : FuncData
  m_L_plug : mg "_law_plug" = some (.ref f_L_plug)
  F_L_plug : Fun K "_law_plug" "_law_plug" s_L_plug f_L_plug d_L_plug
  B_L_plug : Binds K d_L_plug ["_law_d", "_law_levels"] []
  f_L_counted : Addr
  d_L_counted : FuncData
  m_L_counted : mg "_law_counted" = some (.ref f_L_counted)
  F_L_counted : Fun K "_law_counted" "_law_counted" s_L_counted f_L_counted d_L_counted
  B_L_counted : Binds K d_L_counted ["_law_cards", "_law_plugs", "_law_counter"] []
  f_sign_of : Addr
  d_sign_of : FuncData
  m_sign_of : mg "sign_of" = some (.ref f_sign_of)
  F_sign_of : Fun K "sign_of" "sign_of" s_sign_of f_sign_of d_sign_of
  B_sign_of : Binds K d_sign_of ["column"] []
  f_Table_changed : Addr
  d_Table_changed : FuncData
  M_Table_changed : Meth K ca.Table "changed" f_Table_changed
  F_Table_changed : Fun K "changed" "Table.changed" s_Table_changed f_Table_changed d_Table_changed
  B_Table_changed : Binds K d_Table_changed ["self", "card"] []
  f_L_palettes : Addr
  d_L_palettes : FuncData
  m_L_palettes : mg "_law_palettes" = some (.ref f_L_palettes)
  F_L_palettes : Fun K "_law_palettes" "_law_palettes" s_L_palettes f_L_palettes d_L_palettes
  B_L_palettes : Binds K d_L_palettes ["_law_d"] []
  f_L_wiring : Addr
  d_L_wiring : FuncData
  m_L_wiring : mg "_law_wiring" = some (.ref f_L_wiring)
  F_L_wiring : Fun K "_law_wiring" "_law_wiring" s_L_wiring f_L_wiring d_L_wiring
  B_L_wiring : Binds K d_L_wiring ["_law_d", "_law_wide"] []
  f_L_total_row : Addr
  d_L_total_row : FuncData
  m_L_total_row : mg "_law_total_row" = some (.ref f_L_total_row)
  F_L_total_row : Fun K "_law_total_row" "_law_total_row" s_L_total_row f_L_total_row d_L_total_row
  B_L_total_row : Binds K d_L_total_row ["_law_cards", "_law_wiring_here", "_law_level"] []
  f_Table_fresh : Addr
  d_Table_fresh : FuncData
  M_Table_fresh : Meth K ca.Table "fresh" f_Table_fresh
  F_Table_fresh : Fun K "fresh" "Table.fresh" s_Table_fresh f_Table_fresh d_Table_fresh
  B_Table_fresh : Binds K d_Table_fresh ["self"] []
  f_Table_detail_row : Addr
  d_Table_detail_row : FuncData
  M_Table_detail_row : Meth K ca.Table "detail_row" f_Table_detail_row
  F_Table_detail_row : Fun K "detail_row" "Table.detail_row" s_Table_detail_row f_Table_detail_row d_Table_detail_row
  B_Table_detail_row : Binds K d_Table_detail_row ["self", "card"] []
  f_Table_total_row : Addr
  d_Table_total_row : FuncData
  M_Table_total_row : Meth K ca.Table "total_row" f_Table_total_row
  F_Table_total_row : Fun K "total_row" "Table.total_row" s_Table_total_row f_Table_total_row d_Table_total_row
  B_Table_total_row : Binds K d_Table_total_row ["self", "level"] []
  f_L_printed : Addr
  d_L_printed : FuncData
  m_L_printed : mg "_law_printed" = some (.ref f_L_printed)
  F_L_printed : Fun K "_law_printed" "_law_printed" s_L_printed f_L_printed d_L_printed
  B_L_printed : Binds K d_L_printed ["_law_deck_here", "_law_wiring_here"] []
  f_Table_init : Addr
  d_Table_init : FuncData
  K_Table : Mk K ca.Table f_Table_init
  F_Table_init : Fun K "__init__" "Table.__init__" s_Table_init f_Table_init d_Table_init
  B_Table_init : Binds K d_Table_init ["self", "wiring"] []
  f_Table_totals : Addr
  d_Table_totals : FuncData
  M_Table_totals : Meth K ca.Table "totals" f_Table_totals
  F_Table_totals : Fun K "totals" "Table.totals" s_Table_totals f_Table_totals d_Table_totals
  B_Table_totals : Binds K d_Table_totals ["self", "least"] []
  f_Table_feed : Addr
  d_Table_feed : FuncData
  M_Table_feed : Meth K ca.Table "feed" f_Table_feed
  F_Table_feed : Fun K "feed" "Table.feed" s_Table_feed f_Table_feed d_Table_feed
  B_Table_feed : Binds K d_Table_feed ["self", "card"] []
  f_Table_ends : Addr
  d_Table_ends : FuncData
  M_Table_ends : Meth K ca.Table "ends" f_Table_ends
  F_Table_ends : Fun K "ends" "Table.ends" s_Table_ends f_Table_ends d_Table_ends
  B_Table_ends : Binds K d_Table_ends ["self"] []
  f_printed : Addr
  d_printed : FuncData
  m_printed : mg "printed" = some (.ref f_printed)
  F_printed : Fun K "printed" "printed" s_printed f_printed d_printed
  B_printed : Binds K d_printed ["deck", "wiring"] []
theorem sc_L_like : FnScope ["_law_found", "_law_due", "_law_k"] ["_law_found", "_law_due"] (defScope s_L_like) := ⟨rfl, rfl, rfl, by decide +kernel, rfl, by decide +kernel, by decide +kernel⟩
theorem sc_L_dice : FnScope ["_law_script", "_law_mixed", "_law_cell"] ["_law_script"] (defScope s_L_dice) := ⟨rfl, rfl, rfl, by decide +kernel, rfl, by decide +kernel, by decide +kernel⟩
theorem sc_L_next : FnScope ["_law_dice_here", "_law_many", "_law_found", "_law_cell"] ["_law_dice_here", "_law_many"] (defScope s_L_next) := ⟨rfl, rfl, rfl, by decide +kernel, rfl, by decide +kernel, by decide +kernel⟩
theorem sc_L_columns : FnScope ["_law_found", "_law_over", "_law_figure_here"] [] (defScope s_L_columns) := ⟨rfl, rfl, rfl, by decide +kernel, rfl, by decide +kernel, by decide +kernel⟩
theorem sc_L_column : FnScope ["_law_card", "_law_at"] ["_law_card", "_law_at"] (defScope s_L_column) := ⟨rfl, rfl, rfl, by decide +kernel, rfl, by decide +kernel, by decide +kernel⟩
theorem sc_L_figure : FnScope ["_law_column_here", "_law_hole"] ["_law_column_here"] (defScope s_L_figure) := ⟨rfl, rfl, rfl, by decide +kernel, rfl, by decide +kernel, by decide +kernel⟩
theorem sc_L_ten : FnScope ["_law_wheel"] ["_law_wheel"] (defScope s_L_ten) := ⟨rfl, rfl, rfl, by decide +kernel, rfl, by decide +kernel, by decide +kernel⟩
theorem sc_L_line : FnScope ["_law_signs", "_law_line_here", "_law_place", "_law_sign_here"] ["_law_signs"] (defScope s_L_line) := ⟨rfl, rfl, rfl, by decide +kernel, rfl, by decide +kernel, by decide +kernel⟩
theorem sc_column_of : FnScope ["card", "at"] ["card", "at"] (defScope s_column_of) := ⟨rfl, rfl, rfl, by decide +kernel, rfl, by decide +kernel, by decide +kernel⟩
theorem sc_figure_of : FnScope ["column"] ["column"] (defScope s_figure_of) := ⟨rfl, rfl, rfl, by decide +kernel, rfl, by decide +kernel, by decide +kernel⟩
theorem sc_over_of : FnScope ["column"] ["column"] (defScope s_over_of) := ⟨rfl, rfl, rfl, by decide +kernel, rfl, by decide +kernel, by decide +kernel⟩
theorem sc_is_plug : FnScope ["plug", "levels"] ["plug", "levels"] (defScope s_is_plug) := ⟨rfl, rfl, rfl, by decide +kernel, rfl, by decide +kernel, by decide +kernel⟩
theorem sc_Counter_init : FnScope ["self", "wheel"] ["self"] (defScope s_Counter_init) := ⟨rfl, rfl, rfl, by decide +kernel, rfl, by decide +kernel, by decide +kernel⟩
theorem sc_Counter_add : FnScope ["self", "figure", "wheel", "whole"] ["self", "figure", "wheel"] (defScope s_Counter_add) := ⟨rfl, rfl, rfl, by decide +kernel, rfl, by decide +kernel, by decide +kernel⟩
theorem sc_L_sign : FnScope ["_law_column_here"] ["_law_column_here"] (defScope s_L_sign) := ⟨rfl, rfl, rfl, by decide +kernel, rfl, by decide +kernel, by decide +kernel⟩
theorem sc_L_palette : FnScope ["_law_d", "_law_every", "_law_way", "_law_found", "_law_k", "_law_column_here"] ["_law_d"] (defScope s_L_palette) := ⟨rfl, rfl, rfl, by decide +kernel, rfl, by decide +kernel, by decide +kernel⟩
theorem sc_L_deck : FnScope ["_law_d", "_law_palettes_here", "_law_most", "_law_deck_here", "_law_k", "_law_palette_here"] ["_law_d", "_law_palettes_here", "_law_most"] (defScope s_L_deck) := ⟨rfl, rfl, rfl, by decide +kernel, rfl, by decide +kernel, by decide +kernel⟩
theorem sc_L_plug : FnScope ["_law_d", "_law_levels", "_law_word", "_law_place", "_law_counter"] ["_law_d", "_law_levels"] (defScope s_L_plug) := ⟨rfl, rfl, rfl, by decide +kernel, rfl, by decide +kernel, by decide +kernel⟩
theorem sc_L_counted : FnScope ["_law_cards", "_law_plugs", "_law_counter", "_law_found", "_law_card", "_law_plug_here"] ["_law_cards", "_law_plugs", "_law_counter"] (defScope s_L_counted) := ⟨rfl, rfl, rfl, by decide +kernel, rfl, by decide +kernel, by decide +kernel⟩
theorem sc_sign_of : FnScope ["column", "figure", "over"] ["column"] (defScope s_sign_of) := ⟨rfl, rfl, rfl, by decide +kernel, rfl, by decide +kernel, by decide +kernel⟩
theorem sc_Table_changed : FnScope ["self", "card", "level", "column"] ["self", "card"] (defScope s_Table_changed) := ⟨rfl, rfl, rfl, by decide +kernel, rfl, by decide +kernel, by decide +kernel⟩
theorem sc_L_palettes : FnScope ["_law_d", "_law_k"] ["_law_d"] (defScope s_L_palettes) := ⟨rfl, rfl, rfl, by decide +kernel, rfl, by decide +kernel, by decide +kernel⟩
theorem sc_L_wiring : FnScope ["_law_d", "_law_wide", "_law_watched", "_law_plugs", "_law_k"] ["_law_d", "_law_wide"] (defScope s_L_wiring) := ⟨rfl, rfl, rfl, by decide +kernel, rfl, by decide +kernel, by decide +kernel⟩
theorem sc_L_total_row : FnScope ["_law_cards", "_law_wiring_here", "_law_level", "_law_signs", "_law_plug_here"] ["_law_cards", "_law_wiring_here", "_law_level"] (defScope s_L_total_row) := ⟨rfl, rfl, rfl, by decide +kernel, rfl, by decide +kernel, by decide +kernel⟩
theorem sc_Table_fresh : FnScope ["self", "counter"] ["self"] (defScope s_Table_fresh) := ⟨rfl, rfl, rfl, by decide +kernel, rfl, by decide +kernel, by decide +kernel⟩
theorem sc_Table_detail_row : FnScope ["self", "card", "line", "plug", "place"] ["self", "card"] (defScope s_Table_detail_row) := ⟨rfl, rfl, rfl, by decide +kernel, rfl, by decide +kernel, by decide +kernel⟩
theorem sc_Table_total_row : FnScope ["self", "level", "line", "plug", "place"] ["self", "level"] (defScope s_Table_total_row) := ⟨rfl, rfl, rfl, by decide +kernel, rfl, by decide +kernel, by decide +kernel⟩
theorem sc_L_printed : FnScope ["_law_deck_here", "_law_wiring_here", "_law_rows", "_law_begins", "_law_at", "_law_lines", "_law_elder", "_law_unlike", "_law_level", "_law_holes", "_law_column_here", "_law_k", "_law_plug_here"] ["_law_deck_here", "_law_wiring_here"] (defScope s_L_printed) := ⟨rfl, rfl, rfl, by decide +kernel, rfl, by decide +kernel, by decide +kernel⟩
theorem sc_Table_init : FnScope ["self", "wiring", "at", "one", "level"] ["self", "wiring"] (defScope s_Table_init) := ⟨rfl, rfl, rfl, by decide +kernel, rfl, by decide +kernel, by decide +kernel⟩
theorem sc_Table_totals : FnScope ["self", "least", "found", "level"] ["self", "least"] (defScope s_Table_totals) := ⟨rfl, rfl, rfl, by decide +kernel, rfl, by decide +kernel, by decide +kernel⟩
theorem sc_Table_feed : FnScope ["self", "card", "found", "row", "plug"] ["self", "card"] (defScope s_Table_feed) := ⟨rfl, rfl, rfl, by decide +kernel, rfl, by decide +kernel, by decide +kernel⟩
theorem sc_Table_ends : FnScope ["self", "found"] ["self"] (defScope s_Table_ends) := ⟨rfl, rfl, rfl, by decide +kernel, rfl, by decide +kernel, by decide +kernel⟩
theorem sc_printed : FnScope ["deck", "wiring", "table", "found", "card"] ["deck", "wiring"] (defScope s_printed) := ⟨rfl, rfl, rfl, by decide +kernel, rfl, by decide +kernel, by decide +kernel⟩
theorem sc_law : FnScope ["_law_script", "_law_d", "_law_palettes_here", "_law_wiring_here", "_law_decks", "_law_handed", "_law_table", "_law_beside", "_law_deck_here", "_law_due", "_law_at", "_law_whole", "_law_lines"] ["_law_script"] (defScope s_law) := ⟨rfl, rfl, rfl, by decide +kernel, rfl, by decide +kernel, by decide +kernel⟩
theorem hu65_of {k : Nat} {A : Around} (hr : Room k A) : A.units + 65 < cLine := by
  have := hr.un
  omega
section
variable {P : Program} {w : World} {K : PySem.W.Frag} {mg : Str → Option Value} {base : Heap}
theorem ok_L_like (T : Txt K mg) : (n : Nat) → FnOk P w K mg base CX0 n T.f_L_like T.d_L_like ["_law_found", "_law_due"] (SpV K (F_L_like n))
  | 0 => ⟨fun vs H Q E h => by obtain ⟨_, _, _, _, _, hf, _⟩ := h; exact hf.elim, fun A outer s H args us vs Q E _ _ _ _ h => by obtain ⟨_, _, _, _, _, hf, _⟩ := h; exact hf.elim⟩
  | n + 1 => by
    have ih := ok_L_like T n
    exact okV T.F_L_like sc_L_like (fun xs Φ h => by have q := h; first | (obtain ⟨rfl, _⟩ := q; rfl) | (obtain ⟨_, rfl, _⟩ := q; rfl) | (obtain ⟨_, _, rfl, _⟩ := q; rfl) | (obtain ⟨_, _, _, rfl, _⟩ := q; rfl) | (obtain ⟨_, _, _, _, rfl, _⟩ := q; rfl) | (obtain ⟨_, _, _, _, _, rfl, _⟩ := q; rfl) | (obtain ⟨_, _, _, _, _, _, rfl, _⟩ := q; rfl) | (obtain ⟨_, _, _, _, _, _, _, rfl, _⟩ := q; rfl) | (obtain ⟨_, _, _, _, _, _, _, _, rfl, _⟩ := q; rfl) | (obtain ⟨_, _, _, _, _, _, _, _, _, rfl, _⟩ := q; rfl)) (fun cdv A outer s H E hr => by
        change Room n _ at hr
        have hu0 := hr.units0
        have hu1 := hu_of hr
        have hu64 := hr.units
        have hu65 := hu65_of hr
        exact ⟨_,
(pds_cons (pd_if (pdt_val (PR.v (pr_isi T.b_isinstance (pda_cons (pd_var 1) (pda_cons (pd_ty T.b_str (by decide +kernel)) pda_nil))))) (pds_one (pd_ret (PD.r (pd_and (PR.v (pr_isi T.b_isinstance (pda_cons (pd_var 0) (pda_cons (pd_ty T.b_str (by decide +kernel)) pda_nil)))) (pd_one (pd_eq hu64 (pd_var 0) (pd_var 1))))))) pds_nil)
  (pds_cons (pd_if (pdt_val (PR.v (pr_isi T.b_isinstance (pda_cons (pd_var 1) (pda_cons (pd_ty T.b_int (by decide +kernel)) pda_nil))))) (pds_one (pd_ret (PD.r (pd_and (PR.v (pr_isi T.b_isinstance (pda_cons (pd_var 0) (pda_cons (pd_ty T.b_int (by decide +kernel)) pda_nil)))) (pd_and (pd_not (PR.v (pr_isi T.b_isinstance (pda_cons (pd_var 0) (pda_cons (pd_ty T.b_bool (by decide +kernel)) pda_nil))))) (pd_one (pd_eq hu64 (pd_var 0) (pd_var 1)))))))) pds_nil)
  (pds_cons (pd_if (pdt_is (pd_var 1) pd_non) (pds_one (pd_ret (PD.r (pd_is (pd_var 0) pd_non)))) pds_nil)
  (pds_cons (pd_if (PDW.tst (pdw_or (pdt_ne hu64 (PR.v (pr_isi T.b_isinstance (pda_cons (pd_var 1) (pda_cons (pd_ty T.b_tuple (by decide +kernel)) pda_nil)))) (PR.v (pr_isi T.b_isinstance (pda_cons (pd_var 0) (pda_cons (pd_ty T.b_tuple (by decide +kernel)) pda_nil))))) (pdw_or1 (pdt_ne hu64 (PR.v (pr_isi T.b_isinstance (pda_cons (pd_var 1) (pda_cons (pd_ty T.b_list (by decide +kernel)) pda_nil)))) (PR.v (pr_isi T.b_isinstance (pda_cons (pd_var 0) (pda_cons (pd_ty T.b_list (by decide +kernel)) pda_nil)))))))) (pds_one (pd_ret (PD.r pd_bl))) pds_nil)
  (pds_cons (pd_if (pdt_ne hu64 (PR.v (pr_len T.b_len (pda_cons (pd_var 0) pda_nil))) (PR.v (pr_len T.b_len (pda_cons (pd_var 1) pda_nil)))) (pds_one (pd_ret (PD.r pd_bl))) pds_nil)
  (pds_cons (pd_for (pdi_rng1 T.b_range (PR.v (pr_len T.b_len (pda_cons (pd_var 1) pda_nil)))) (pdg_name sc_L_like.nd) (pds_one (pd_if (pdt_not (pdt_val (PR.v (pr_call (ih) (hr.mono (by omega)) T.m_L_like T.F_L_like.kp T.B_L_like (pda_cons (pd_ix hu1 (pd_var 0) (pd_var 2) (fun _ _ => rfl)) (pda_cons (pd_ix hu1 (pd_var 1) (pd_var 2) (fun _ _ => rfl)) pda_nil)))))) (pds_one (pd_ret (PD.r pd_bl))) pds_nil)))
  (pds_one (pd_ret (PD.r pd_bl)))))))))⟩) (rd_L_like n)
theorem ok_L_dice (T : Txt K mg) : FnOk P w K mg base CX0 1 T.f_L_dice T.d_L_dice ["_law_script"] (SpV K F_L_dice) :=
  okV T.F_L_dice sc_L_dice (fun xs Φ h => by have q := h; first | (obtain ⟨rfl, _⟩ := q; rfl) | (obtain ⟨_, rfl, _⟩ := q; rfl) | (obtain ⟨_, _, rfl, _⟩ := q; rfl) | (obtain ⟨_, _, _, rfl, _⟩ := q; rfl) | (obtain ⟨_, _, _, _, rfl, _⟩ := q; rfl) | (obtain ⟨_, _, _, _, _, rfl, _⟩ := q; rfl) | (obtain ⟨_, _, _, _, _, _, rfl, _⟩ := q; rfl) | (obtain ⟨_, _, _, _, _, _, _, rfl, _⟩ := q; rfl) | (obtain ⟨_, _, _, _, _, _, _, _, rfl, _⟩ := q; rfl) | (obtain ⟨_, _, _, _, _, _, _, _, _, rfl, _⟩ := q; rfl)) (fun cdv A outer s H E hr => by
    have hu0 := hr.units0
    have hu1 := hu_of hr
    have hu64 := hr.units
    have hu65 := hu65_of hr
    exact ⟨_,
(pds_cons (pd_set (i := 1) sc_L_dice.nd (PD.r pd_int))
  (pds_cons (pd_for (pdi_any (pd_var 0)) (pdg_name sc_L_dice.nd) (pds_one (pd_set (i := 1) sc_L_dice.nd (PD.r (pd_mod (PR.v (pr_add (PR.v (pr_add (PR.v (pr_mul (pd_var 1) pd_int)) (PR.v (pr_mul (pd_mod (pd_var 2) pd_int) pd_int)))) pd_int)) pd_int)))))
  (pds_one (pd_ret (pr_lst (pda_cons (pd_var 0) (pda_cons pd_int (pda_cons (PR.v (pr_mul (pd_var 1) (PR.v (pr_int T.b_int (pda_cons (pd_gt hu0 (PR.v (pr_len T.b_len (pda_cons (pd_var 0) pda_nil))) pd_int) pda_nil))))) (pda_cons pd_int pda_nil)))))))))⟩) rd_L_dice
theorem ok_L_next (T : Txt K mg) : FnOk P w K mg base CX0 1 T.f_L_next T.d_L_next ["_law_dice_here", "_law_many"] (SpO K F_L_next) :=
  okO T.F_L_next sc_L_next (fun S xs Φ h => by have q := h; first | (obtain ⟨rfl, _⟩ := q; rfl) | (obtain ⟨_, rfl, _⟩ := q; rfl) | (obtain ⟨_, _, rfl, _⟩ := q; rfl) | (obtain ⟨_, _, _, rfl, _⟩ := q; rfl) | (obtain ⟨_, _, _, _, rfl, _⟩ := q; rfl) | (obtain ⟨_, _, _, _, _, rfl, _⟩ := q; rfl) | (obtain ⟨_, _, _, _, _, _, rfl, _⟩ := q; rfl) | (obtain ⟨_, _, _, _, _, _, _, rfl, _⟩ := q; rfl) | (obtain ⟨_, _, _, _, _, _, _, _, rfl, _⟩ := q; rfl) | (obtain ⟨_, _, _, _, _, _, _, _, _, rfl, _⟩ := q; rfl)) (fun cdv A outer s H E hr => by
    have hu0 := hr.units0
    have hu1 := hu_of hr
    have hu64 := hr.units
    have hu65 := hu65_of hr
    exact ⟨_,
(pds_cons (pd_if (pdt_gt hu0 (PP.leaf (pp_ix hu1 (pp_var 0) pd_int (fun _ _ => rfl))) pd_int) (pds_cons (pd_set (i := 2) sc_L_next.nd (PD.r (pd_mod (PP.leaf (pp_ix hu1 (pp_var 0) pd_int (fun _ _ => rfl))) (pd_var 1))))
  (pds_cons (pd_pset (pd_fdv (PP.leaf (pp_ix hu1 (pp_var 0) pd_int (fun _ _ => rfl))) (pd_var 1)) (pp_var 0) pd_int)
  (pds_one (pd_ret (PD.r (pd_var 2)))))) pds_nil)
  (pds_cons (pd_pset (PR.v (pr_add (PP.leaf (pp_ix hu1 (pp_var 0) pd_int (fun _ _ => rfl))) pd_int)) (pp_var 0) pd_int)
  (pds_cons (pd_if (pdt_le (PP.leaf (pp_ix hu1 (pp_var 0) pd_int (fun _ _ => rfl))) (PR.v (pr_len T.b_len (pda_cons (PP.leaf (pp_ix hu1 (pp_var 0) pd_int (fun _ _ => rfl))) pda_nil)))) (pds_cons (pd_set (i := 3) sc_L_next.nd (PD.r (pd_ix hu1 (PP.leaf (pp_ix hu1 (pp_var 0) pd_int (fun _ _ => rfl))) (pd_sub (PP.leaf (pp_ix hu1 (pp_var 0) pd_int (fun _ _ => rfl))) pd_int) (fun _ _ => rfl))))
  (pds_cons (pd_pset (pd_ifExp (pdt_ge (pd_var 3) (pd_pow pd_int pd_int)) (pd_fdv (pd_var 3) (pd_var 1)) pd_int) (pp_var 0) pd_int)
  (pds_one (pd_ret (PD.r (pd_mod (pd_var 3) (pd_var 1))))))) pds_nil)
  (pds_cons (pd_pset (pd_mod (PR.v (pr_mul (PP.leaf (pp_ix hu1 (pp_var 0) pd_int (fun _ _ => rfl))) pd_int)) pd_int) (pp_var 0) pd_int)
  (pds_one (pd_ret (PD.r (pd_mod (pd_fdv (PP.leaf (pp_ix hu1 (pp_var 0) pd_int (fun _ _ => rfl))) pd_int) (pd_var 1)))))))))⟩) rd_L_next
theorem ok_L_columns (T : Txt K mg) : FnOk P w K mg base CX0 1 T.f_L_columns T.d_L_columns [] (SpV K F_L_columns) :=
  okV T.F_L_columns sc_L_columns (fun xs Φ h => by have q := h; first | (obtain ⟨rfl, _⟩ := q; rfl) | (obtain ⟨_, rfl, _⟩ := q; rfl) | (obtain ⟨_, _, rfl, _⟩ := q; rfl) | (obtain ⟨_, _, _, rfl, _⟩ := q; rfl) | (obtain ⟨_, _, _, _, rfl, _⟩ := q; rfl) | (obtain ⟨_, _, _, _, _, rfl, _⟩ := q; rfl) | (obtain ⟨_, _, _, _, _, _, rfl, _⟩ := q; rfl) | (obtain ⟨_, _, _, _, _, _, _, rfl, _⟩ := q; rfl) | (obtain ⟨_, _, _, _, _, _, _, _, rfl, _⟩ := q; rfl) | (obtain ⟨_, _, _, _, _, _, _, _, _, rfl, _⟩ := q; rfl)) (fun cdv A outer s H E hr => by
    have hu0 := hr.units0
    have hu1 := hu_of hr
    have hu64 := hr.units
    have hu65 := hu65_of hr
    exact ⟨_,
(pds_cons (pd_set (i := 0) sc_L_columns.nd (PD.r (PR.v (pr_lst pda_nil))))
  (pds_cons (pd_for (pdi_any (PR.v (pr_lst (pda_cons (pd_tup pda_nil) (pda_cons (pd_tup (pda_cons pd_int pda_nil)) (pda_cons (pd_tup (pda_cons pd_int pda_nil)) pda_nil)))))) (pdg_name sc_L_columns.nd) (pds_one (pd_set (i := 0) sc_L_columns.nd (PD.r (PR.v (pr_add (PR.v (pr_add (pd_var 0) (PR.v (pr_lst (pda_cons (pd_var 1) pda_nil))))) (PR.v (pr_lc (own := [("_law_figure_here", 2)]) sc_L_columns.nd (pdi_rng1 T.b_range pd_int) (blkOk_by (N := ["_law_found", "_law_over", "_law_figure_here"]) (sc := defScope s_L_columns) (by decide +kernel)) (fun _ _ _ _ _ => (pdg_name sc_L_columns.nd)) mono_name (sets_name (by decide)) (fun _ _ _ _ _ => pdts_nil) (fun _ _ _ _ _ => (PR.v (pr_add (pd_tup (pda_cons (pd_var 2) pda_nil)) (pd_var 1))))))))))))
  (pds_one (pd_ret (PD.r (pd_var 0))))))⟩) rd_L_columns
theorem ok_L_column (T : Txt K mg) : FnOk P w K mg base CX0 1 T.f_L_column T.d_L_column ["_law_card", "_law_at"] (SpV K F_L_column) :=
  okV T.F_L_column sc_L_column (fun xs Φ h => by have q := h; first | (obtain ⟨rfl, _⟩ := q; rfl) | (obtain ⟨_, rfl, _⟩ := q; rfl) | (obtain ⟨_, _, rfl, _⟩ := q; rfl) | (obtain ⟨_, _, _, rfl, _⟩ := q; rfl) | (obtain ⟨_, _, _, _, rfl, _⟩ := q; rfl) | (obtain ⟨_, _, _, _, _, rfl, _⟩ := q; rfl) | (obtain ⟨_, _, _, _, _, _, rfl, _⟩ := q; rfl) | (obtain ⟨_, _, _, _, _, _, _, rfl, _⟩ := q; rfl) | (obtain ⟨_, _, _, _, _, _, _, _, rfl, _⟩ := q; rfl) | (obtain ⟨_, _, _, _, _, _, _, _, _, rfl, _⟩ := q; rfl)) (fun cdv A outer s H E hr => by
    have hu0 := hr.units0
    have hu1 := hu_of hr
    have hu64 := hr.units
    have hu65 := hu65_of hr
    exact ⟨_,
(pds_one (pd_ret (PD.r (pd_ix hu1 (PR.v (pr_add (PR.v (pr_list T.b_list (pda_cons (pd_var 0) pda_nil))) (PR.v (pr_mul (PR.v (pr_lst (pda_cons (pd_tup pda_nil) pda_nil))) pd_int)))) (pd_var 1) (fun _ _ => rfl)))))⟩) rd_L_column
theorem ok_L_figure (T : Txt K mg) : FnOk P w K mg base CX0 1 T.f_L_figure T.d_L_figure ["_law_column_here"] (SpV K F_L_figure) :=
  okV T.F_L_figure sc_L_figure (fun xs Φ h => by have q := h; first | (obtain ⟨rfl, _⟩ := q; rfl) | (obtain ⟨_, rfl, _⟩ := q; rfl) | (obtain ⟨_, _, rfl, _⟩ := q; rfl) | (obtain ⟨_, _, _, rfl, _⟩ := q; rfl) | (obtain ⟨_, _, _, _, rfl, _⟩ := q; rfl) | (obtain ⟨_, _, _, _, _, rfl, _⟩ := q; rfl) | (obtain ⟨_, _, _, _, _, _, rfl, _⟩ := q; rfl) | (obtain ⟨_, _, _, _, _, _, _, rfl, _⟩ := q; rfl) | (obtain ⟨_, _, _, _, _, _, _, _, rfl, _⟩ := q; rfl) | (obtain ⟨_, _, _, _, _, _, _, _, _, rfl, _⟩ := q; rfl)) (fun cdv A outer s H E hr => by
    have hu0 := hr.units0
    have hu1 := hu_of hr
    have hu64 := hr.units
    have hu65 := hu65_of hr
    exact ⟨_,
(pds_one (pd_ret (pr_maxL T.b_max (pda_cons (PR.v (pr_add (PR.v (pr_lc (own := [("_law_hole", 1)]) sc_L_figure.nd (pdi_any (pd_var 0)) (blkOk_by (N := ["_law_column_here", "_law_hole"]) (sc := defScope s_L_figure) (by decide +kernel)) (fun _ _ _ _ _ => (pdg_name sc_L_figure.nd)) mono_name (sets_name (by decide)) (fun _ _ _ _ _ => (pdts_one (pdt_lt (pd_var 1) pd_int))) (fun _ _ _ _ _ => (pd_var 1)))) (PR.v (pr_lst (pda_cons (pd_neg pd_int) pda_nil))))) pda_nil))))⟩) rd_L_figure
theorem ok_L_ten (T : Txt K mg) : FnOk P w K mg base CX0 1 T.f_L_ten T.d_L_ten ["_law_wheel"] (SpV K F_L_ten) :=
  okV T.F_L_ten sc_L_ten (fun xs Φ h => by have q := h; first | (obtain ⟨rfl, _⟩ := q; rfl) | (obtain ⟨_, rfl, _⟩ := q; rfl) | (obtain ⟨_, _, rfl, _⟩ := q; rfl) | (obtain ⟨_, _, _, rfl, _⟩ := q; rfl) | (obtain ⟨_, _, _, _, rfl, _⟩ := q; rfl) | (obtain ⟨_, _, _, _, _, rfl, _⟩ := q; rfl) | (obtain ⟨_, _, _, _, _, _, rfl, _⟩ := q; rfl) | (obtain ⟨_, _, _, _, _, _, _, rfl, _⟩ := q; rfl) | (obtain ⟨_, _, _, _, _, _, _, _, rfl, _⟩ := q; rfl) | (obtain ⟨_, _, _, _, _, _, _, _, _, rfl, _⟩ := q; rfl)) (fun cdv A outer s H E hr => by
    have hu0 := hr.units0
    have hu1 := hu_of hr
    have hu64 := hr.units
    have hu65 := hu65_of hr
    exact ⟨_,
(pds_one (pd_ret (pr_intS T.b_int (pda_cons (PR.v (pr_add pd_str (PR.v (pr_mulS pd_str (pd_var 0))))) pda_nil))))⟩) rd_L_ten
theorem ok_L_line (T : Txt K mg) : FnOk P w K mg base CX0 1 T.f_L_line T.d_L_line ["_law_signs"] (SpV K F_L_line) :=
  okV T.F_L_line sc_L_line (fun xs Φ h => by have q := h; first | (obtain ⟨rfl, _⟩ := q; rfl) | (obtain ⟨_, rfl, _⟩ := q; rfl) | (obtain ⟨_, _, rfl, _⟩ := q; rfl) | (obtain ⟨_, _, _, rfl, _⟩ := q; rfl) | (obtain ⟨_, _, _, _, rfl, _⟩ := q; rfl) | (obtain ⟨_, _, _, _, _, rfl, _⟩ := q; rfl) | (obtain ⟨_, _, _, _, _, _, rfl, _⟩ := q; rfl) | (obtain ⟨_, _, _, _, _, _, _, rfl, _⟩ := q; rfl) | (obtain ⟨_, _, _, _, _, _, _, _, rfl, _⟩ := q; rfl) | (obtain ⟨_, _, _, _, _, _, _, _, _, rfl, _⟩ := q; rfl)) (fun cdv A outer s H E hr => by
    have hu0 := hr.units0
    have hu1 := hu_of hr
    have hu64 := hr.units
    have hu65 := hu65_of hr
    exact ⟨_,
(pds_cons (pd_setT (i := 1) sc_L_line.nd (pr_mul (PR.v (pr_lst (pda_cons pd_str pda_nil))) pd_int))
  (pds_cons (pd_for (pdi_any (pd_var 0)) (pdg_tup (pdgs_cons (pdg_name sc_L_line.nd) (pdgs_cons (pdg_name sc_L_line.nd) pdgs_nil))) (pds_one (pd_pset (pd_var 3) (pp_var 1) (pd_var 2))))
  (pds_one (pd_ret (pr_join pd_str (pda_cons (pd_var 1) pda_nil))))))⟩) rd_L_line
theorem ok_column_of (T : Txt K mg) : FnOk P w K mg base CX0 1 T.f_column_of T.d_column_of ["card", "at"] (SpV K F_column_of) :=
  okV T.F_column_of sc_column_of (fun xs Φ h => by have q := h; first | (obtain ⟨rfl, _⟩ := q; rfl) | (obtain ⟨_, rfl, _⟩ := q; rfl) | (obtain ⟨_, _, rfl, _⟩ := q; rfl) | (obtain ⟨_, _, _, rfl, _⟩ := q; rfl) | (obtain ⟨_, _, _, _, rfl, _⟩ := q; rfl) | (obtain ⟨_, _, _, _, _, rfl, _⟩ := q; rfl) | (obtain ⟨_, _, _, _, _, _, rfl, _⟩ := q; rfl) | (obtain ⟨_, _, _, _, _, _, _, rfl, _⟩ := q; rfl) | (obtain ⟨_, _, _, _, _, _, _, _, rfl, _⟩ := q; rfl) | (obtain ⟨_, _, _, _, _, _, _, _, _, rfl, _⟩ := q; rfl)) (fun cdv A outer s H E hr => by
    have hu0 := hr.units0
    have hu1 := hu_of hr
    have hu64 := hr.units
    have hu65 := hu65_of hr
    exact ⟨_,
(pds_cons (pd_if (pdt_lt (pd_var 1) (PR.v (pr_len T.b_len (pda_cons (pd_var 0) pda_nil)))) (pds_one (pd_ret (PD.r (pd_ix hu1 (pd_var 0) (pd_var 1) (fun _ _ => rfl))))) pds_nil)
  (pds_one (pd_ret (PD.r (pd_tup pda_nil)))))⟩) rd_column_of
theorem ok_figure_of (T : Txt K mg) : FnOk P w K mg base CX0 1 T.f_figure_of T.d_figure_of ["column"] (SpV K F_figure_of) :=
  okV T.F_figure_of sc_figure_of (fun xs Φ h => by have q := h; first | (obtain ⟨rfl, _⟩ := q; rfl) | (obtain ⟨_, rfl, _⟩ := q; rfl) | (obtain ⟨_, _, rfl, _⟩ := q; rfl) | (obtain ⟨_, _, _, rfl, _⟩ := q; rfl) | (obtain ⟨_, _, _, _, rfl, _⟩ := q; rfl) | (obtain ⟨_, _, _, _, _, rfl, _⟩ := q; rfl) | (obtain ⟨_, _, _, _, _, _, rfl, _⟩ := q; rfl) | (obtain ⟨_, _, _, _, _, _, _, rfl, _⟩ := q; rfl) | (obtain ⟨_, _, _, _, _, _, _, _, rfl, _⟩ := q; rfl) | (obtain ⟨_, _, _, _, _, _, _, _, _, rfl, _⟩ := q; rfl)) (fun cdv A outer s H E hr => by
    have hu0 := hr.units0
    have hu1 := hu_of hr
    have hu64 := hr.units
    have hu65 := hu65_of hr
    exact ⟨_,
(pds_cons (pd_if (PDW.tst (pdw_and (pdt_ne hu64 (pd_var 0) (pd_tup pda_nil)) (pdw_and1 (pdt_lt (pd_ix hu1 (pd_var 0) pd_int (fun _ _ => rfl)) pd_int)))) (pds_one (pd_ret (PD.r (pd_ix hu1 (pd_var 0) pd_int (fun _ _ => rfl))))) pds_nil)
  (pds_one (pd_ret (PD.r (pd_neg pd_int)))))⟩) rd_figure_of
theorem ok_over_of (T : Txt K mg) : FnOk P w K mg base CX0 1 T.f_over_of T.d_over_of ["column"] (SpV K F_over_of) :=
  okV T.F_over_of sc_over_of (fun xs Φ h => by have q := h; first | (obtain ⟨rfl, _⟩ := q; rfl) | (obtain ⟨_, rfl, _⟩ := q; rfl) | (obtain ⟨_, _, rfl, _⟩ := q; rfl) | (obtain ⟨_, _, _, rfl, _⟩ := q; rfl) | (obtain ⟨_, _, _, _, rfl, _⟩ := q; rfl) | (obtain ⟨_, _, _, _, _, rfl, _⟩ := q; rfl) | (obtain ⟨_, _, _, _, _, _, rfl, _⟩ := q; rfl) | (obtain ⟨_, _, _, _, _, _, _, rfl, _⟩ := q; rfl) | (obtain ⟨_, _, _, _, _, _, _, _, rfl, _⟩ := q; rfl) | (obtain ⟨_, _, _, _, _, _, _, _, _, rfl, _⟩ := q; rfl)) (fun cdv A outer s H E hr => by
    have hu0 := hr.units0
    have hu1 := hu_of hr
    have hu64 := hr.units
    have hu65 := hu65_of hr
    exact ⟨_,
(pds_cons (pd_if (PDW.tst (pdw_and (pdt_ne hu64 (pd_var 0) (pd_tup pda_nil)) (pdw_and1 (pdt_gt hu0 (pd_ix hu1 (pd_var 0) (pd_neg pd_int) (fun _ _ => rfl)) pd_int)))) (pds_one (pd_ret (PD.r (pd_ix hu1 (pd_var 0) (pd_neg pd_int) (fun _ _ => rfl))))) pds_nil)
  (pds_one (pd_ret (PD.r (pd_neg pd_int)))))⟩) rd_over_of
theorem ok_is_plug (T : Txt K mg) : FnOk P w K mg base CX0 1 T.f_is_plug T.d_is_plug ["plug", "levels"] (SpV K F_is_plug) :=
  okV T.F_is_plug sc_is_plug (fun xs Φ h => by have q := h; first | (obtain ⟨rfl, _⟩ := q; rfl) | (obtain ⟨_, rfl, _⟩ := q; rfl) | (obtain ⟨_, _, rfl, _⟩ := q; rfl) | (obtain ⟨_, _, _, rfl, _⟩ := q; rfl) | (obtain ⟨_, _, _, _, rfl, _⟩ := q; rfl) | (obtain ⟨_, _, _, _, _, rfl, _⟩ := q; rfl) | (obtain ⟨_, _, _, _, _, _, rfl, _⟩ := q; rfl) | (obtain ⟨_, _, _, _, _, _, _, rfl, _⟩ := q; rfl) | (obtain ⟨_, _, _, _, _, _, _, _, rfl, _⟩ := q; rfl) | (obtain ⟨_, _, _, _, _, _, _, _, _, rfl, _⟩ := q; rfl)) (fun cdv A outer s H E hr => by
    have hu0 := hr.units0
    have hu1 := hu_of hr
    have hu64 := hr.units
    have hu65 := hu65_of hr
    exact ⟨_,
(pds_cons (pd_if (PDW.tst (pdw_or (pdt_eq hu64 (pd_var 0) (pd_tup pda_nil)) (pdw_or (pdt_notInS T.D_WORDS T.m_WORDS (pd_ix hu1 (pd_var 0) pd_int (fun _ _ => rfl))) (pdw_or1 (pdt_ne hu64 (PR.v (pr_len T.b_len (pda_cons (pd_var 0) pda_nil))) (pd_ixS T.D_WORDS T.m_WORDS (pd_ix hu1 (pd_var 0) pd_int (fun _ _ => rfl)) (fun _ _ => rfl))))))) (pds_one (pd_ret (PD.r pd_bl))) pds_nil)
  (pds_cons (pd_if (PDW.tst (pdw_and (pdt_in hu65 (pd_ix hu1 (pd_var 0) pd_int (fun _ _ => rfl)) (pd_tup (pda_cons pd_str (pda_cons pd_str pda_nil)))) (pdw_and1 (pdt_not (pdt_chain op_le sim_le op_lt sim_lt pd_int (pd_ix hu1 (pd_var 0) pd_int (fun _ _ => rfl)) pd_int))))) (pds_one (pd_ret (PD.r pd_bl))) pds_nil)
  (pds_cons (pd_if (PDW.tst (pdw_and (pdt_eq hu64 (pd_ix hu1 (pd_var 0) pd_int (fun _ _ => rfl)) pd_str) (pdw_and1 (pdt_not (pdt_chain op_le sim_le op_le sim_le pd_int (pd_ix hu1 (pd_var 0) pd_int (fun _ _ => rfl)) (pd_var 1)))))) (pds_one (pd_ret (PD.r pd_bl))) pds_nil)
  (pds_cons (pd_if (PDW.tst (pdw_and (pdt_in hu65 (pd_ix hu1 (pd_var 0) pd_int (fun _ _ => rfl)) (pd_tup (pda_cons pd_str (pda_cons pd_str (pda_cons pd_str pda_nil))))) (pdw_and1 (pdt_not (pdt_chain op_le sim_le op_lt sim_lt pd_int (pd_ix hu1 (pd_var 0) pd_int (fun _ _ => rfl)) (pd_globI T.g_MOST_COUNTERS)))))) (pds_one (pd_ret (PD.r pd_bl))) pds_nil)
  (pds_cons (pd_if (pdt_eq hu64 (pd_ix hu1 (pd_var 0) pd_int (fun _ _ => rfl)) pd_str) (pds_one (pd_ret (PD.r (pd_and (pd_chain op_le sim_le op_lt sim_lt pd_int (pd_ix hu1 (pd_var 0) pd_int (fun _ _ => rfl)) pd_int) (pd_one (pd_chain op_le sim_le op_lt sim_lt pd_int (pd_ix hu1 (pd_var 0) pd_int (fun _ _ => rfl)) (pd_globI T.g_MOST_WHEELS))))))) pds_nil)
  (pds_cons (pd_if (PDW.tst (pdw_and (pdt_eq hu64 (pd_ix hu1 (pd_var 0) pd_int (fun _ _ => rfl)) pd_str) (pdw_and1 (pdt_not (pdt_chain op_le sim_le op_lt sim_lt pd_int (pd_ix hu1 (pd_var 0) pd_int (fun _ _ => rfl)) (pd_globI T.g_MOST_WHEELS)))))) (pds_one (pd_ret (PD.r pd_bl))) pds_nil)
  (pds_cons (pd_if (pdt_eq hu64 (pd_ix hu1 (pd_var 0) pd_int (fun _ _ => rfl)) pd_str) (pds_one (pd_ret (PD.r pd_bl))) pds_nil)
  (pds_one (pd_ret (PD.r (pd_chain op_le sim_le op_lt sim_lt pd_int (pd_ix hu1 (pd_var 0) (pd_ix hu1 (PR.v (pr_dict (pdp_cons pd_str pd_int (pdp_cons pd_str pd_int (pdp_cons pd_str pd_int (pdp_cons pd_str pd_int pdp_nil)))))) (pd_ix hu1 (pd_var 0) pd_int (fun _ _ => rfl)) (fun _ _ => rfl)) (fun _ _ => rfl)) (pd_globI T.g_LINE))))))))))))⟩) rd_is_plug
theorem ok_Counter_init (T : Txt K mg) : FnOk P w K mg base CX0 1 T.f_Counter_init T.d_Counter_init ["self"] (SpO K (F_Counter_init T.ca)) :=
  okO T.F_Counter_init sc_Counter_init (fun S xs Φ h => by have q := h; first | (obtain ⟨rfl, _⟩ := q; rfl) | (obtain ⟨_, rfl, _⟩ := q; rfl) | (obtain ⟨_, _, rfl, _⟩ := q; rfl) | (obtain ⟨_, _, _, rfl, _⟩ := q; rfl) | (obtain ⟨_, _, _, _, rfl, _⟩ := q; rfl) | (obtain ⟨_, _, _, _, _, rfl, _⟩ := q; rfl) | (obtain ⟨_, _, _, _, _, _, rfl, _⟩ := q; rfl) | (obtain ⟨_, _, _, _, _, _, _, rfl, _⟩ := q; rfl) | (obtain ⟨_, _, _, _, _, _, _, _, rfl, _⟩ := q; rfl) | (obtain ⟨_, _, _, _, _, _, _, _, _, rfl, _⟩ := q; rfl)) (fun cdv A outer s H E hr => by
    have hu0 := hr.units0
    have hu1 := hu_of hr
    have hu64 := hr.units
    have hu65 := hu65_of hr
    exact ⟨_,
(pds_one (pd_fset T.C_Counter T.N_Counter_wheels (pr_lc (own := [("wheel", 1)]) sc_Counter_init.nd (pdi_rng1 T.b_range (pd_globI T.g_MOST_WHEELS)) (blkOk_by (N := ["self", "wheel"]) (sc := defScope s_Counter_init) (by decide +kernel)) (fun _ _ _ _ _ => (pdg_name sc_Counter_init.nd)) mono_name (sets_name (by decide)) (fun _ _ _ _ _ => pdts_nil) (fun _ _ _ _ _ => pd_int)) (pp_var 0)))⟩) (rd_Counter_init T.ca)
theorem ok_Counter_add (T : Txt K mg) : FnOk P w K mg base CX0 1 T.f_Counter_add T.d_Counter_add ["self", "figure", "wheel"] (SpO K (F_Counter_add T.ca)) :=
  okO T.F_Counter_add sc_Counter_add (fun S xs Φ h => by have q := h; first | (obtain ⟨rfl, _⟩ := q; rfl) | (obtain ⟨_, rfl, _⟩ := q; rfl) | (obtain ⟨_, _, rfl, _⟩ := q; rfl) | (obtain ⟨_, _, _, rfl, _⟩ := q; rfl) | (obtain ⟨_, _, _, _, rfl, _⟩ := q; rfl) | (obtain ⟨_, _, _, _, _, rfl, _⟩ := q; rfl) | (obtain ⟨_, _, _, _, _, _, rfl, _⟩ := q; rfl) | (obtain ⟨_, _, _, _, _, _, _, rfl, _⟩ := q; rfl) | (obtain ⟨_, _, _, _, _, _, _, _, rfl, _⟩ := q; rfl) | (obtain ⟨_, _, _, _, _, _, _, _, _, rfl, _⟩ := q; rfl)) (fun cdv A outer s H E hr => by
    have hu0 := hr.units0
    have hu1 := hu_of hr
    have hu64 := hr.units
    have hu65 := hu65_of hr
    exact ⟨_,
(pds_one (pd_while (PDW.tst (pdw_and (pdt_gt hu0 (pd_var 1) pd_int) (pdw_and1 (pdt_lt (pd_var 2) (pd_globI T.g_MOST_WHEELS))))) (pds_cons (pd_set (i := 3) sc_Counter_add.nd (PD.r (PR.v (pr_add (PP.leaf (pp_ix hu1 (pp_fd T.C_Counter T.N_Counter_wheels (pp_var 0)) (pd_var 2) (fun _ _ => rfl))) (pd_var 1)))))
  (pds_cons (pd_pset (pd_mod (pd_var 3) pd_int) (pp_fd T.C_Counter T.N_Counter_wheels (pp_var 0)) (pd_var 2))
  (pds_cons (pd_set (i := 1) sc_Counter_add.nd (PD.r (pd_fdv (pd_var 3) pd_int)))
  (pds_one (pd_set (i := 2) sc_Counter_add.nd (PD.r (PR.v (pr_add (pd_var 2) pd_int))))))))))⟩) (rd_Counter_add T.ca)
theorem ok_L_sign (T : Txt K mg) : FnOk P w K mg base CX0 2 T.f_L_sign T.d_L_sign ["_law_column_here"] (SpV K F_L_sign) :=
  okV T.F_L_sign sc_L_sign (fun xs Φ h => by have q := h; first | (obtain ⟨rfl, _⟩ := q; rfl) | (obtain ⟨_, rfl, _⟩ := q; rfl) | (obtain ⟨_, _, rfl, _⟩ := q; rfl) | (obtain ⟨_, _, _, rfl, _⟩ := q; rfl) | (obtain ⟨_, _, _, _, rfl, _⟩ := q; rfl) | (obtain ⟨_, _, _, _, _, rfl, _⟩ := q; rfl) | (obtain ⟨_, _, _, _, _, _, rfl, _⟩ := q; rfl) | (obtain ⟨_, _, _, _, _, _, _, rfl, _⟩ := q; rfl) | (obtain ⟨_, _, _, _, _, _, _, _, rfl, _⟩ := q; rfl) | (obtain ⟨_, _, _, _, _, _, _, _, _, rfl, _⟩ := q; rfl)) (fun cdv A outer s H E hr => by
    have hu0 := hr.units0
    have hu1 := hu_of hr
    have hu64 := hr.units
    have hu65 := hu65_of hr
    exact ⟨_,
(pds_one (pd_ret (PD.r (pd_ix hu1 pd_str (PR.v (pr_index hu65 (PR.v (pr_call0 (ok_L_columns T) (hr.mono (by decide)) T.m_L_columns T.F_L_columns.kp T.B_L_columns)) (pda_cons (pd_var 0) pda_nil))) (fun _ _ => rfl)))))⟩) rd_L_sign
theorem ok_L_palette (T : Txt K mg) : FnOk P w K mg base CX0 2 T.f_L_palette T.d_L_palette ["_law_d"] (SpO K F_L_palette) :=
  okO T.F_L_palette sc_L_palette (fun S xs Φ h => by have q := h; first | (obtain ⟨rfl, _⟩ := q; rfl) | (obtain ⟨_, rfl, _⟩ := q; rfl) | (obtain ⟨_, _, rfl, _⟩ := q; rfl) | (obtain ⟨_, _, _, rfl, _⟩ := q; rfl) | (obtain ⟨_, _, _, _, rfl, _⟩ := q; rfl) | (obtain ⟨_, _, _, _, _, rfl, _⟩ := q; rfl) | (obtain ⟨_, _, _, _, _, _, rfl, _⟩ := q; rfl) | (obtain ⟨_, _, _, _, _, _, _, rfl, _⟩ := q; rfl) | (obtain ⟨_, _, _, _, _, _, _, _, rfl, _⟩ := q; rfl) | (obtain ⟨_, _, _, _, _, _, _, _, _, rfl, _⟩ := q; rfl)) (fun cdv A outer s H E hr => by
    have hu0 := hr.units0
    have hu1 := hu_of hr
    have hu64 := hr.units
    have hu65 := hu65_of hr
    exact ⟨_,
(pds_cons (pd_set (i := 1) sc_L_palette.nd (PD.r (PR.v (pr_call0 (ok_L_columns T) (hr.mono (by decide)) T.m_L_columns T.F_L_columns.kp T.B_L_columns))))
  (pds_cons (pd_set (i := 2) sc_L_palette.nd (PD.r (PR.v (pr_callO 0 (ok_L_next T) (hr.mono (by decide)) T.m_L_next T.F_L_next.kp T.B_L_next (pda_cons pd_int pda_nil)))))
  (pds_cons (pd_if (pdt_eq hu64 (pd_var 2) pd_int) (pds_one (pd_ret (pr_slice (PR.v (pr_lst (pda_cons (pd_tup pda_nil) (pda_cons (pd_tup (pda_cons pd_int pda_nil)) (pda_cons (pd_tup (pda_cons pd_int pda_nil)) pda_nil))))) (pdo_some (PR.v (pr_callO 0 (ok_L_next T) (hr.mono (by decide)) T.m_L_next T.F_L_next.kp T.B_L_next (pda_cons pd_int pda_nil)))) pdo_none))) pds_nil)
  (pds_cons (pd_if (pdt_eq hu64 (pd_var 2) pd_int) (pds_one (pd_ret (pr_slice (pd_var 1) (pdo_some pd_int) (pdo_some pd_int)))) pds_nil)
  (pds_cons (pd_if (pdt_eq hu64 (pd_var 2) pd_int) (pds_one (pd_ret (pr_slice (pd_var 1) (pdo_some (PR.v (pr_callO 0 (ok_L_next T) (hr.mono (by decide)) T.m_L_next T.F_L_next.kp T.B_L_next (pda_cons pd_int pda_nil)))) (pdo_some (PR.v (pr_add pd_int (PR.v (pr_callO 0 (ok_L_next T) (hr.mono (by decide)) T.m_L_next T.F_L_next.kp T.B_L_next (pda_cons pd_int pda_nil))))))))) pds_nil)
  (pds_cons (pd_if (pdt_eq hu64 (pd_var 2) pd_int) (pds_one (pd_ret (PD.r (pd_var 1)))) pds_nil)
  (pds_cons (pd_set (i := 3) sc_L_palette.nd (PD.r (PR.v (pr_lc (own := [("_law_k", 4)]) sc_L_palette.nd (pdi_rng1 T.b_range (PR.v (pr_add pd_int (PR.v (pr_callO 0 (ok_L_next T) (hr.mono (by decide)) T.m_L_next T.F_L_next.kp T.B_L_next (pda_cons pd_int pda_nil)))))) (blkOk_by (N := ["_law_d", "_law_every", "_law_way", "_law_found", "_law_k", "_law_column_here"]) (sc := defScope s_L_palette) (by decide +kernel)) (fun _ _ _ _ _ => (pdg_name sc_L_palette.nd)) mono_name (sets_name (by decide)) (fun _ _ _ _ _ => pdts_nil) (fun _ _ _ _ _ => (pd_ix hu1 (pd_var 1) (PR.v (pr_callO 0 (ok_L_next T) (hr.mono (by decide)) T.m_L_next T.F_L_next.kp T.B_L_next (pda_cons pd_int pda_nil))) (fun _ _ => rfl)))))))
  (pds_one (pd_ret (pr_lc (own := [("_law_column_here", 5)]) sc_L_palette.nd (pdi_any (pd_var 1)) (blkOk_by (N := ["_law_d", "_law_every", "_law_way", "_law_found", "_law_k", "_law_column_here"]) (sc := defScope s_L_palette) (by decide +kernel)) (fun _ _ _ _ _ => (pdg_name sc_L_palette.nd)) mono_name (sets_name (by decide)) (fun _ _ _ _ _ => (pdts_one (pdt_in hu65 (pd_var 5) (pd_var 3)))) (fun _ _ _ _ _ => (pd_var 5))))))))))))⟩) rd_L_palette
theorem ok_L_deck (T : Txt K mg) : FnOk P w K mg base CX0 2 T.f_L_deck T.d_L_deck ["_law_d", "_law_palettes_here", "_law_most"] (SpO K F_L_deck) :=
  okO T.F_L_deck sc_L_deck (fun S xs Φ h => by have q := h; first | (obtain ⟨rfl, _⟩ := q; rfl) | (obtain ⟨_, rfl, _⟩ := q; rfl) | (obtain ⟨_, _, rfl, _⟩ := q; rfl) | (obtain ⟨_, _, _, rfl, _⟩ := q; rfl) | (obtain ⟨_, _, _, _, rfl, _⟩ := q; rfl) | (obtain ⟨_, _, _, _, _, rfl, _⟩ := q; rfl) | (obtain ⟨_, _, _, _, _, _, rfl, _⟩ := q; rfl) | (obtain ⟨_, _, _, _, _, _, _, rfl, _⟩ := q; rfl) | (obtain ⟨_, _, _, _, _, _, _, _, rfl, _⟩ := q; rfl) | (obtain ⟨_, _, _, _, _, _, _, _, _, rfl, _⟩ := q; rfl)) (fun cdv A outer s H E hr => by
    have hu0 := hr.units0
    have hu1 := hu_of hr
    have hu64 := hr.units
    have hu65 := hu65_of hr
    exact ⟨_,
(pds_cons (pd_set (i := 3) sc_L_deck.nd (pr_lst pda_nil))
  (pds_cons (pd_for (pdi_rng1 T.b_range (PR.v (pr_callO 0 (ok_L_next T) (hr.mono (by decide)) T.m_L_next T.F_L_next.kp T.B_L_next (pda_cons (PR.v (pr_add (pd_var 2) pd_int)) pda_nil)))) (pdg_name sc_L_deck.nd) (pds_one (pd_expr (pr_app 3 (PR.v (pr_tuple T.b_tuple (pda_cons (PR.v (pr_lc (own := [("_law_palette_here", 5)]) sc_L_deck.nd (pdi_any (pd_var 1)) (blkOk_by (N := ["_law_d", "_law_palettes_here", "_law_most", "_law_deck_here", "_law_k", "_law_palette_here"]) (sc := defScope s_L_deck) (by decide +kernel)) (fun _ _ _ _ _ => (pdg_name sc_L_deck.nd)) mono_name (sets_name (by decide)) (fun _ _ _ _ _ => pdts_nil) (fun _ _ _ _ _ => (pd_ix hu1 (pd_var 5) (PR.v (pr_callO 0 (ok_L_next T) (hr.mono (by decide)) T.m_L_next T.F_L_next.kp T.B_L_next (pda_cons (PR.v (pr_len T.b_len (pda_cons (pd_var 5) pda_nil))) pda_nil))) (fun _ _ => rfl))))) pda_nil)))))))
  (pds_one (pd_retM 3))))⟩) rd_L_deck
theorem ok_L_plug (T : Txt K mg) : FnOk P w K mg base CX0 2 T.f_L_plug T.d_L_plug ["_law_d", "_law_levels"] (SpO K F_L_plug) :=
  okO T.F_L_plug sc_L_plug (fun S xs Φ h => by have q := h; first | (obtain ⟨rfl, _⟩ := q; rfl) | (obtain ⟨_, rfl, _⟩ := q; rfl) | (obtain ⟨_, _, rfl, _⟩ := q; rfl) | (obtain ⟨_, _, _, rfl, _⟩ := q; rfl) | (obtain ⟨_, _, _, _, rfl, _⟩ := q; rfl) | (obtain ⟨_, _, _, _, _, rfl, _⟩ := q; rfl) | (obtain ⟨_, _, _, _, _, _, rfl, _⟩ := q; rfl) | (obtain ⟨_, _, _, _, _, _, _, rfl, _⟩ := q; rfl) | (obtain ⟨_, _, _, _, _, _, _, _, rfl, _⟩ := q; rfl) | (obtain ⟨_, _, _, _, _, _, _, _, _, rfl, _⟩ := q; rfl)) (fun cdv A outer s H E hr => by
    have hu0 := hr.units0
    have hu1 := hu_of hr
    have hu64 := hr.units
    have hu65 := hu65_of hr
    exact ⟨_,
(pds_cons (pd_set (i := 2) sc_L_plug.nd (PD.r (pd_ix hu1 (PR.v (pr_lst (pda_cons pd_str (pda_cons pd_str (pda_cons pd_str (pda_cons pd_str (pda_cons pd_str (pda_cons pd_str (pda_cons pd_str (pda_cons pd_str pda_nil)))))))))) (PR.v (pr_callO 0 (ok_L_next T) (hr.mono (by decide)) T.m_L_next T.F_L_next.kp T.B_L_next (pda_cons pd_int pda_nil))) (fun _ _ => rfl))))
  (pds_cons (pd_set (i := 3) sc_L_plug.nd (PD.r (PR.v (pr_callO 0 (ok_L_next T) (hr.mono (by decide)) T.m_L_next T.F_L_next.kp T.B_L_next (pda_cons pd_int pda_nil)))))
  (pds_cons (pd_set (i := 4) sc_L_plug.nd (PD.r (PR.v (pr_callO 0 (ok_L_next T) (hr.mono (by decide)) T.m_L_next T.F_L_next.kp T.B_L_next (pda_cons pd_int pda_nil)))))
  (pds_cons (pd_if (PDW.tst (pdw_and (pdt_eq hu64 (pd_var 2) pd_str) (pdw_and1 (pdt_gt hu0 (pd_var 1) pd_int)))) (pds_one (pd_ret (PD.r (pd_tup (pda_cons pd_str (pda_cons (PR.v (pr_callO 0 (ok_L_next T) (hr.mono (by decide)) T.m_L_next T.F_L_next.kp T.B_L_next (pda_cons pd_int pda_nil))) (pda_cons (pd_var 3) (pda_cons (PR.v (pr_add pd_int (PR.v (pr_callO 0 (ok_L_next T) (hr.mono (by decide)) T.m_L_next T.F_L_next.kp T.B_L_next (pda_cons (pd_var 1) pda_nil))))) pda_nil)))))))) pds_nil)
  (pds_cons (pd_if (pdt_eq hu64 (pd_var 2) pd_str) (pds_one (pd_ret (PD.r (pd_tup (pda_cons pd_str (pda_cons (pd_var 4) (pda_cons (PR.v (pr_callO 0 (ok_L_next T) (hr.mono (by decide)) T.m_L_next T.F_L_next.kp T.B_L_next (pda_cons pd_int pda_nil))) (pda_cons (PR.v (pr_callO 0 (ok_L_next T) (hr.mono (by decide)) T.m_L_next T.F_L_next.kp T.B_L_next (pda_cons pd_int pda_nil))) pda_nil)))))))) pds_nil)
  (pds_cons (pd_if (pdt_eq hu64 (pd_var 2) pd_str) (pds_one (pd_ret (PD.r (pd_tup (pda_cons pd_str (pda_cons (pd_var 4) (pda_cons (PR.v (pr_callO 0 (ok_L_next T) (hr.mono (by decide)) T.m_L_next T.F_L_next.kp T.B_L_next (pda_cons pd_int pda_nil))) (pda_cons (pd_var 3) pda_nil)))))))) pds_nil)
  (pds_cons (pd_if (pdt_eq hu64 (pd_var 2) pd_str) (pds_one (pd_ret (PD.r (pd_tup (pda_cons pd_str (pda_cons (pd_var 4) pda_nil)))))) pds_nil)
  (pds_cons (pd_if (pdt_eq hu64 (pd_var 2) pd_str) (pds_one (pd_ret (PD.r (pd_tup (pda_cons pd_str (pda_cons (pd_var 3) pda_nil)))))) pds_nil)
  (pds_one (pd_ret (PD.r (pd_tup (pda_cons pd_str (pda_cons (PR.v (pr_callO 0 (ok_L_next T) (hr.mono (by decide)) T.m_L_next T.F_L_next.kp T.B_L_next (pda_cons pd_int pda_nil))) (pda_cons (pd_var 3) pda_nil)))))))))))))))⟩) rd_L_plug
theorem ok_L_counted (T : Txt K mg) : FnOk P w K mg base CX0 2 T.f_L_counted T.d_L_counted ["_law_cards", "_law_plugs", "_law_counter"] (SpV K F_L_counted) :=
  okV T.F_L_counted sc_L_counted (fun xs Φ h => by have q := h; first | (obtain ⟨rfl, _⟩ := q; rfl) | (obtain ⟨_, rfl, _⟩ := q; rfl) | (obtain ⟨_, _, rfl, _⟩ := q; rfl) | (obtain ⟨_, _, _, rfl, _⟩ := q; rfl) | (obtain ⟨_, _, _, _, rfl, _⟩ := q; rfl) | (obtain ⟨_, _, _, _, _, rfl, _⟩ := q; rfl) | (obtain ⟨_, _, _, _, _, _, rfl, _⟩ := q; rfl) | (obtain ⟨_, _, _, _, _, _, _, rfl, _⟩ := q; rfl) | (obtain ⟨_, _, _, _, _, _, _, _, rfl, _⟩ := q; rfl) | (obtain ⟨_, _, _, _, _, _, _, _, _, rfl, _⟩ := q; rfl)) (fun cdv A outer s H E hr => by
    have hu0 := hr.units0
    have hu1 := hu_of hr
    have hu64 := hr.units
    have hu65 := hu65_of hr
    exact ⟨_,
(pds_cons (pd_set (i := 3) sc_L_counted.nd (PD.r pd_int))
  (pds_cons (pd_for (pdi_any (pd_var 0)) (pdg_name sc_L_counted.nd) (pds_one (pd_for (pdi_any (pd_var 1)) (pdg_name sc_L_counted.nd) (pds_cons (pd_if (PDW.tst (pdw_and (pdt_eq hu64 (pd_ix hu1 (pd_var 5) pd_int (fun _ _ => rfl)) pd_str) (pdw_and1 (pdt_eq hu64 (pd_ix hu1 (pd_var 5) pd_int (fun _ _ => rfl)) (pd_var 2))))) (pds_one (pd_set (i := 3) sc_L_counted.nd (PD.r (PR.v (pr_add (pd_var 3) pd_int))))) pds_nil)
  (pds_one (pd_if (PDW.tst (pdw_and (pdt_eq hu64 (pd_ix hu1 (pd_var 5) pd_int (fun _ _ => rfl)) pd_str) (pdw_and1 (pdt_eq hu64 (pd_ix hu1 (pd_var 5) pd_int (fun _ _ => rfl)) (pd_var 2))))) (pds_one (pd_set (i := 3) sc_L_counted.nd (PD.r (PR.v (pr_add (pd_var 3) (PR.v (pr_mul (PR.v (pr_max2 T.b_max (pda_cons pd_int (pda_cons (PR.v (pr_call (ok_L_figure T) (hr.mono (by decide)) T.m_L_figure T.F_L_figure.kp T.B_L_figure (pda_cons (PR.v (pr_call (ok_L_column T) (hr.mono (by decide)) T.m_L_column T.F_L_column.kp T.B_L_column (pda_cons (pd_var 4) (pda_cons (pd_ix hu1 (pd_var 5) pd_int (fun _ _ => rfl)) pda_nil)))) pda_nil))) pda_nil)))) (PR.v (pr_call (ok_L_ten T) (hr.mono (by decide)) T.m_L_ten T.F_L_ten.kp T.B_L_ten (pda_cons (pd_ix hu1 (pd_var 5) pd_int (fun _ _ => rfl)) pda_nil)))))))))) pds_nil))))))
  (pds_one (pd_ret (PD.r (pd_var 3))))))⟩) rd_L_counted
theorem ok_sign_of (T : Txt K mg) : FnOk P w K mg base CX0 2 T.f_sign_of T.d_sign_of ["column"] (SpV K F_sign_of) :=
  okV T.F_sign_of sc_sign_of (fun xs Φ h => by have q := h; first | (obtain ⟨rfl, _⟩ := q; rfl) | (obtain ⟨_, rfl, _⟩ := q; rfl) | (obtain ⟨_, _, rfl, _⟩ := q; rfl) | (obtain ⟨_, _, _, rfl, _⟩ := q; rfl) | (obtain ⟨_, _, _, _, rfl, _⟩ := q; rfl) | (obtain ⟨_, _, _, _, _, rfl, _⟩ := q; rfl) | (obtain ⟨_, _, _, _, _, _, rfl, _⟩ := q; rfl) | (obtain ⟨_, _, _, _, _, _, _, rfl, _⟩ := q; rfl) | (obtain ⟨_, _, _, _, _, _, _, _, rfl, _⟩ := q; rfl) | (obtain ⟨_, _, _, _, _, _, _, _, _, rfl, _⟩ := q; rfl)) (fun cdv A outer s H E hr => by
    have hu0 := hr.units0
    have hu1 := hu_of hr
    have hu64 := hr.units
    have hu65 := hu65_of hr
    exact ⟨_,
(pds_cons (pd_set (i := 1) sc_sign_of.nd (PD.r (PR.v (pr_call (ok_figure_of T) (hr.mono (by decide)) T.m_figure_of T.F_figure_of.kp T.B_figure_of (pda_cons (pd_var 0) pda_nil)))))
  (pds_cons (pd_set (i := 2) sc_sign_of.nd (PD.r (PR.v (pr_call (ok_over_of T) (hr.mono (by decide)) T.m_over_of T.F_over_of.kp T.B_over_of (pda_cons (pd_var 0) pda_nil)))))
  (pds_cons (pd_if (pdt_lt (pd_var 1) pd_int) (pds_one (pd_ret (PD.r (pd_ix hu1 (PR.v (pr_dict (pdp_cons (pd_neg pd_int) pd_str (pdp_cons pd_int pd_str (pdp_cons pd_int pd_str pdp_nil))))) (pd_var 2) (fun _ _ => rfl))))) pds_nil)
  (pds_cons (pd_if (pdt_lt (pd_var 2) pd_int) (pds_one (pd_ret (PD.r (pd_ix hu1 (pd_globS T.g_FIGURES) (pd_var 1) (fun _ _ => rfl))))) pds_nil)
  (pds_one (pd_ret (PD.r (pd_ix hu1 (pd_ixI T.D_LETTERS T.m_LETTERS (pd_var 2) (fun _ _ => rfl)) (pd_var 1) (fun _ _ => rfl)))))))))⟩) rd_sign_of
theorem ok_Table_changed (T : Txt K mg) : FnOk P w K mg base CX0 2 T.f_Table_changed T.d_Table_changed ["self", "card"] (SpO K (F_Table_changed T.ca)) :=
  okO T.F_Table_changed sc_Table_changed (fun S xs Φ h => by have q := h; first | (obtain ⟨rfl, _⟩ := q; rfl) | (obtain ⟨_, rfl, _⟩ := q; rfl) | (obtain ⟨_, _, rfl, _⟩ := q; rfl) | (obtain ⟨_, _, _, rfl, _⟩ := q; rfl) | (obtain ⟨_, _, _, _, rfl, _⟩ := q; rfl) | (obtain ⟨_, _, _, _, _, rfl, _⟩ := q; rfl) | (obtain ⟨_, _, _, _, _, _, rfl, _⟩ := q; rfl) | (obtain ⟨_, _, _, _, _, _, _, rfl, _⟩ := q; rfl) | (obtain ⟨_, _, _, _, _, _, _, _, rfl, _⟩ := q; rfl) | (obtain ⟨_, _, _, _, _, _, _, _, _, rfl, _⟩ := q; rfl)) (fun cdv A outer s H E hr => by
    have hu0 := hr.units0
    have hu1 := hu_of hr
    have hu64 := hr.units
    have hu65 := hu65_of hr
    exact ⟨_,
(pds_cons (pd_for (pdi_rng1 T.b_range (PR.v (pr_len T.b_len (pda_cons (PP.leaf (pp_fd T.C_Table T.N_Table_controls (pp_var 0))) pda_nil)))) (pdg_name sc_Table_changed.nd) (pds_cons (pd_set (i := 3) sc_Table_changed.nd (PD.r (pd_ix hu1 (PP.leaf (pp_fd T.C_Table T.N_Table_controls (pp_var 0))) (pd_var 2) (fun _ _ => rfl))))
  (pds_one (pd_if (pdt_ne hu64 (PR.v (pr_call (ok_column_of T) (hr.mono (by decide)) T.m_column_of T.F_column_of.kp T.B_column_of (pda_cons (pd_var 1) (pda_cons (pd_var 3) pda_nil)))) (PR.v (pr_call (ok_column_of T) (hr.mono (by decide)) T.m_column_of T.F_column_of.kp T.B_column_of (pda_cons (PP.leaf (pp_fd T.C_Table T.N_Table_last (pp_var 0))) (pda_cons (pd_var 3) pda_nil))))) (pds_one (pd_ret (pr_add (pd_var 2) pd_int))) pds_nil))))
  (pds_one (pd_ret (pr_add (PR.v (pr_len T.b_len (pda_cons (PP.leaf (pp_fd T.C_Table T.N_Table_controls (pp_var 0))) pda_nil))) pd_int))))⟩) (rd_Table_changed T.ca)
theorem ok_L_palettes (T : Txt K mg) : FnOk P w K mg base CX0 3 T.f_L_palettes T.d_L_palettes ["_law_d"] (SpO K F_L_palettes) :=
  okO T.F_L_palettes sc_L_palettes (fun S xs Φ h => by have q := h; first | (obtain ⟨rfl, _⟩ := q; rfl) | (obtain ⟨_, rfl, _⟩ := q; rfl) | (obtain ⟨_, _, rfl, _⟩ := q; rfl) | (obtain ⟨_, _, _, rfl, _⟩ := q; rfl) | (obtain ⟨_, _, _, _, rfl, _⟩ := q; rfl) | (obtain ⟨_, _, _, _, _, rfl, _⟩ := q; rfl) | (obtain ⟨_, _, _, _, _, _, rfl, _⟩ := q; rfl) | (obtain ⟨_, _, _, _, _, _, _, rfl, _⟩ := q; rfl) | (obtain ⟨_, _, _, _, _, _, _, _, rfl, _⟩ := q; rfl) | (obtain ⟨_, _, _, _, _, _, _, _, _, rfl, _⟩ := q; rfl)) (fun cdv A outer s H E hr => by
    have hu0 := hr.units0
    have hu1 := hu_of hr
    have hu64 := hr.units
    have hu65 := hu65_of hr
    exact ⟨_,
(pds_one (pd_ret (pr_lc (own := [("_law_k", 1)]) sc_L_palettes.nd (pdi_rng1 T.b_range (pd_ix hu1 (PR.v (pr_lst (pda_cons (PR.v (pr_add pd_int (PR.v (pr_callO 0 (ok_L_next T) (hr.mono (by decide)) T.m_L_next T.F_L_next.kp T.B_L_next (pda_cons pd_int pda_nil))))) (pda_cons pd_int pda_nil)))) (PR.v (pr_int T.b_int (pda_cons (pd_eq hu64 (PR.v (pr_callO 0 (ok_L_next T) (hr.mono (by decide)) T.m_L_next T.F_L_next.kp T.B_L_next (pda_cons pd_int pda_nil))) pd_int) pda_nil))) (fun _ _ => rfl))) (blkOk_by (N := ["_law_d", "_law_k"]) (sc := defScope s_L_palettes) (by decide +kernel)) (fun _ _ _ _ _ => (pdg_name sc_L_palettes.nd)) mono_name (sets_name (by decide)) (fun _ _ _ _ _ => pdts_nil) (fun _ _ _ _ _ => (PR.v (pr_callO 0 (ok_L_palette T) (hr.mono (by decide)) T.m_L_palette T.F_L_palette.kp T.B_L_palette pda_nil))))))⟩) rd_L_palettes
theorem ok_L_wiring (T : Txt K mg) : FnOk P w K mg base CX0 3 T.f_L_wiring T.d_L_wiring ["_law_d", "_law_wide"] (SpO K F_L_wiring) :=
  okO T.F_L_wiring sc_L_wiring (fun S xs Φ h => by have q := h; first | (obtain ⟨rfl, _⟩ := q; rfl) | (obtain ⟨_, rfl, _⟩ := q; rfl) | (obtain ⟨_, _, rfl, _⟩ := q; rfl) | (obtain ⟨_, _, _, rfl, _⟩ := q; rfl) | (obtain ⟨_, _, _, _, rfl, _⟩ := q; rfl) | (obtain ⟨_, _, _, _, _, rfl, _⟩ := q; rfl) | (obtain ⟨_, _, _, _, _, _, rfl, _⟩ := q; rfl) | (obtain ⟨_, _, _, _, _, _, _, rfl, _⟩ := q; rfl) | (obtain ⟨_, _, _, _, _, _, _, _, rfl, _⟩ := q; rfl) | (obtain ⟨_, _, _, _, _, _, _, _, _, rfl, _⟩ := q; rfl)) (fun cdv A outer s H E hr => by
    have hu0 := hr.units0
    have hu1 := hu_of hr
    have hu64 := hr.units
    have hu65 := hu65_of hr
    exact ⟨_,
(pds_cons (pd_set (i := 2) sc_L_wiring.nd (PD.r (PR.v (pr_lc (own := [("_law_k", 4)]) sc_L_wiring.nd (pdi_rng1 T.b_range (PR.v (pr_callO 0 (ok_L_next T) (hr.mono (by decide)) T.m_L_next T.F_L_next.kp T.B_L_next (pda_cons pd_int pda_nil)))) (blkOk_by (N := ["_law_d", "_law_wide", "_law_watched", "_law_plugs", "_law_k"]) (sc := defScope s_L_wiring) (by decide +kernel)) (fun _ _ _ _ _ => (pdg_name sc_L_wiring.nd)) mono_name (sets_name (by decide)) (fun _ _ _ _ _ => pdts_nil) (fun _ _ _ _ _ => (PR.v (pr_callO 0 (ok_L_next T) (hr.mono (by decide)) T.m_L_next T.F_L_next.kp T.B_L_next (pda_cons (PR.v (pr_add (pd_var 1) pd_int)) pda_nil))))))))
  (pds_cons (pd_setLcV (i := 3) (own := [("_law_k", 4)]) sc_L_wiring.nd rfl (sw_true rfl rfl rfl (by decide +kernel)) (pdi_rng1 T.b_range (PR.v (pr_callO 0 (ok_L_next T) (hr.mono (by decide)) T.m_L_next T.F_L_next.kp T.B_L_next (pda_cons pd_int pda_nil)))) (blkOk_by (N := ["_law_d", "_law_wide", "_law_watched", "_law_plugs", "_law_k"]) (sc := defScope s_L_wiring) (by decide +kernel)) (fun _ _ _ _ _ => (pdg_name sc_L_wiring.nd)) mono_name (sets_name (by decide)) (fun _ _ _ _ _ => pdts_nil) (fun _ _ _ _ _ => (PR.v (pr_callO 0 (ok_L_plug T) (hr.mono (by decide)) T.m_L_plug T.F_L_plug.kp T.B_L_plug (pda_cons (PR.v (pr_len T.b_len (pda_cons (pd_var 2) pda_nil))) pda_nil)))))
  (pds_one (pd_ret (PD.r (pd_tup (pda_cons (pd_var 2) (pda_cons (pd_var 3) (pda_cons (pd_eq hu64 (PR.v (pr_callO 0 (ok_L_next T) (hr.mono (by decide)) T.m_L_next T.F_L_next.kp T.B_L_next (pda_cons pd_int pda_nil))) pd_int) pda_nil)))))))))⟩) rd_L_wiring
theorem ok_L_total_row (T : Txt K mg) : FnOk P w K mg base CX0 3 T.f_L_total_row T.d_L_total_row ["_law_cards", "_law_wiring_here", "_law_level"] (SpV K F_L_total_row) :=
  okV T.F_L_total_row sc_L_total_row (fun xs Φ h => by have q := h; first | (obtain ⟨rfl, _⟩ := q; rfl) | (obtain ⟨_, rfl, _⟩ := q; rfl) | (obtain ⟨_, _, rfl, _⟩ := q; rfl) | (obtain ⟨_, _, _, rfl, _⟩ := q; rfl) | (obtain ⟨_, _, _, _, rfl, _⟩ := q; rfl) | (obtain ⟨_, _, _, _, _, rfl, _⟩ := q; rfl) | (obtain ⟨_, _, _, _, _, _, rfl, _⟩ := q; rfl) | (obtain ⟨_, _, _, _, _, _, _, rfl, _⟩ := q; rfl) | (obtain ⟨_, _, _, _, _, _, _, _, rfl, _⟩ := q; rfl) | (obtain ⟨_, _, _, _, _, _, _, _, _, rfl, _⟩ := q; rfl)) (fun cdv A outer s H E hr => by
    have hu0 := hr.units0
    have hu1 := hu_of hr
    have hu64 := hr.units
    have hu65 := hu65_of hr
    exact ⟨_,
(pds_cons (pd_set (i := 3) sc_L_total_row.nd (pr_lst pda_nil))
  (pds_cons (pd_for (pdi_any (pd_ix hu1 (pd_var 1) pd_int (fun _ _ => rfl))) (pdg_name sc_L_total_row.nd) (pds_cons (pd_if (PDW.tst (pdw_and (pdt_eq hu64 (pd_ix hu1 (pd_var 4) pd_int (fun _ _ => rfl)) pd_str) (pdw_and1 (pdt_ge (pd_var 2) (pd_ix hu1 (pd_var 4) pd_int (fun _ _ => rfl)))))) (pds_one (pd_expr (pr_app 3 (pd_tup (pda_cons (pd_ix hu1 (pd_var 4) pd_int (fun _ _ => rfl)) (pda_cons (PR.v (pr_call (ok_L_sign T) (hr.mono (by decide)) T.m_L_sign T.F_L_sign.kp T.B_L_sign (pda_cons (PR.v (pr_call (ok_L_column T) (hr.mono (by decide)) T.m_L_column T.F_L_column.kp T.B_L_column (pda_cons (pd_ix hu1 (pd_var 0) (pd_neg pd_int) (fun _ _ => rfl)) (pda_cons (pd_ix hu1 (pd_var 4) pd_int (fun _ _ => rfl)) pda_nil)))) pda_nil))) pda_nil)))))) pds_nil)
  (pds_cons (pd_if (pdt_eq hu64 (pd_ix hu1 (pd_var 4) pd_int (fun _ _ => rfl)) pd_str) (pds_one (pd_expr (pr_app 3 (pd_tup (pda_cons (pd_ix hu1 (pd_var 4) pd_int (fun _ _ => rfl)) (pda_cons (PR.v (pr_strI T.b_str (pda_cons (pd_mod (pd_fdv (PR.v (pr_call (ok_L_counted T) (hr.mono (by decide)) T.m_L_counted T.F_L_counted.kp T.B_L_counted (pda_cons (pd_var 0) (pda_cons (pd_ix hu1 (pd_var 1) pd_int (fun _ _ => rfl)) (pda_cons (pd_ix hu1 (pd_var 4) pd_int (fun _ _ => rfl)) pda_nil))))) (PR.v (pr_call (ok_L_ten T) (hr.mono (by decide)) T.m_L_ten T.F_L_ten.kp T.B_L_ten (pda_cons (pd_ix hu1 (pd_var 4) pd_int (fun _ _ => rfl)) pda_nil)))) pd_int) pda_nil))) pda_nil)))))) pds_nil)
  (pds_one (pd_if (pdt_eq hu64 (pd_ix hu1 (pd_var 4) pd_int (fun _ _ => rfl)) pd_str) (pds_one (pd_expr (pr_app 3 (pd_tup (pda_cons (pd_ix hu1 (pd_var 4) pd_int (fun _ _ => rfl)) (pda_cons (PR.v (pr_strI T.b_str (pda_cons (pd_var 2) pda_nil))) pda_nil)))))) pds_nil)))))
  (pds_one (pd_ret (pr_call (ok_L_line T) (hr.mono (by decide)) T.m_L_line T.F_L_line.kp T.B_L_line (pda_cons (pd_var 3) pda_nil))))))⟩) rd_L_total_row
theorem ok_Table_fresh (T : Txt K mg) : FnOk P w K mg base CX0 3 T.f_Table_fresh T.d_Table_fresh ["self"] (SpO K (F_Table_fresh T.ca)) :=
  okO T.F_Table_fresh sc_Table_fresh (fun S xs Φ h => by have q := h; first | (obtain ⟨rfl, _⟩ := q; rfl) | (obtain ⟨_, rfl, _⟩ := q; rfl) | (obtain ⟨_, _, rfl, _⟩ := q; rfl) | (obtain ⟨_, _, _, rfl, _⟩ := q; rfl) | (obtain ⟨_, _, _, _, rfl, _⟩ := q; rfl) | (obtain ⟨_, _, _, _, _, rfl, _⟩ := q; rfl) | (obtain ⟨_, _, _, _, _, _, rfl, _⟩ := q; rfl) | (obtain ⟨_, _, _, _, _, _, _, rfl, _⟩ := q; rfl) | (obtain ⟨_, _, _, _, _, _, _, _, rfl, _⟩ := q; rfl) | (obtain ⟨_, _, _, _, _, _, _, _, _, rfl, _⟩ := q; rfl)) (fun cdv A outer s H E hr => by
    have hu0 := hr.units0
    have hu1 := hu_of hr
    have hu64 := hr.units
    have hu65 := hu65_of hr
    exact ⟨_,
(pds_one (pd_ret (pr_lcO (own := [("counter", 1)]) sc_Table_fresh.nd (pdi_rng1 T.b_range (pd_globI T.g_MOST_COUNTERS)) (blkOk_by (N := ["self", "counter"]) (sc := defScope s_Table_fresh) (by decide +kernel)) (fun _ _ _ _ _ => (pdg_name sc_Table_fresh.nd)) mono_name (sets_name (by decide)) (fun _ _ _ _ _ => (pr_mk0 T.K_Counter (ok_Counter_init T) (hr.mono (by decide)) T.mC_Counter T.B_Counter_init)))))⟩) (rd_Table_fresh T.ca)
theorem ok_Table_detail_row (T : Txt K mg) : FnOk P w K mg base CX0 3 T.f_Table_detail_row T.d_Table_detail_row ["self", "card"] (SpO K (F_Table_detail_row T.ca)) :=
  okO T.F_Table_detail_row sc_Table_detail_row (fun S xs Φ h => by have q := h; first | (obtain ⟨rfl, _⟩ := q; rfl) | (obtain ⟨_, rfl, _⟩ := q; rfl) | (obtain ⟨_, _, rfl, _⟩ := q; rfl) | (obtain ⟨_, _, _, rfl, _⟩ := q; rfl) | (obtain ⟨_, _, _, _, rfl, _⟩ := q; rfl) | (obtain ⟨_, _, _, _, _, rfl, _⟩ := q; rfl) | (obtain ⟨_, _, _, _, _, _, rfl, _⟩ := q; rfl) | (obtain ⟨_, _, _, _, _, _, _, rfl, _⟩ := q; rfl) | (obtain ⟨_, _, _, _, _, _, _, _, rfl, _⟩ := q; rfl) | (obtain ⟨_, _, _, _, _, _, _, _, _, rfl, _⟩ := q; rfl)) (fun cdv A outer s H E hr => by
    have hu0 := hr.units0
    have hu1 := hu_of hr
    have hu64 := hr.units
    have hu65 := hu65_of hr
    exact ⟨_,
(pds_cons (pd_setLcT (i := 2) (own := [("place", 4)]) sc_Table_detail_row.nd rfl (sw_true rfl rfl rfl (by decide +kernel)) (pdi_rng1 T.b_range (pd_globI T.g_LINE)) (blkOk_by (N := ["self", "card", "line", "plug", "place"]) (sc := defScope s_Table_detail_row) (by decide +kernel)) (fun _ _ _ _ _ => (pdg_name sc_Table_detail_row.nd)) mono_name (sets_name (by decide)) (fun _ _ _ _ _ => pdts_nil) (fun _ _ _ _ _ => pd_str))
  (pds_cons (pd_for (pdi_any (PP.leaf (pp_fd T.C_Table T.N_Table_plugs (pp_var 0)))) (pdg_name sc_Table_detail_row.nd) (pds_one (pd_if (pdt_eq hu64 (pd_ix hu1 (pd_var 3) pd_int (fun _ _ => rfl)) pd_str) (pds_one (pd_pset (PR.v (pr_call (ok_sign_of T) (hr.mono (by decide)) T.m_sign_of T.F_sign_of.kp T.B_sign_of (pda_cons (PR.v (pr_call (ok_column_of T) (hr.mono (by decide)) T.m_column_of T.F_column_of.kp T.B_column_of (pda_cons (pd_var 1) (pda_cons (pd_ix hu1 (pd_var 3) pd_int (fun _ _ => rfl)) pda_nil)))) pda_nil))) (pp_var 2) (pd_ix hu1 (pd_var 3) pd_int (fun _ _ => rfl)))) pds_nil)))
  (pds_one (pd_ret (pr_join pd_str (pda_cons (pd_var 2) pda_nil))))))⟩) (rd_Table_detail_row T.ca)
theorem ok_Table_total_row (T : Txt K mg) : FnOk P w K mg base CX0 3 T.f_Table_total_row T.d_Table_total_row ["self", "level"] (SpO K (F_Table_total_row T.ca)) :=
  okO T.F_Table_total_row sc_Table_total_row (fun S xs Φ h => by have q := h; first | (obtain ⟨rfl, _⟩ := q; rfl) | (obtain ⟨_, rfl, _⟩ := q; rfl) | (obtain ⟨_, _, rfl, _⟩ := q; rfl) | (obtain ⟨_, _, _, rfl, _⟩ := q; rfl) | (obtain ⟨_, _, _, _, rfl, _⟩ := q; rfl) | (obtain ⟨_, _, _, _, _, rfl, _⟩ := q; rfl) | (obtain ⟨_, _, _, _, _, _, rfl, _⟩ := q; rfl) | (obtain ⟨_, _, _, _, _, _, _, rfl, _⟩ := q; rfl) | (obtain ⟨_, _, _, _, _, _, _, _, rfl, _⟩ := q; rfl) | (obtain ⟨_, _, _, _, _, _, _, _, _, rfl, _⟩ := q; rfl)) (fun cdv A outer s H E hr => by
    have hu0 := hr.units0
    have hu1 := hu_of hr
    have hu64 := hr.units
    have hu65 := hu65_of hr
    exact ⟨_,
(pds_cons (pd_setLcT (i := 2) (own := [("place", 4)]) sc_Table_total_row.nd rfl (sw_true rfl rfl rfl (by decide +kernel)) (pdi_rng1 T.b_range (pd_globI T.g_LINE)) (blkOk_by (N := ["self", "level", "line", "plug", "place"]) (sc := defScope s_Table_total_row) (by decide +kernel)) (fun _ _ _ _ _ => (pdg_name sc_Table_total_row.nd)) mono_name (sets_name (by decide)) (fun _ _ _ _ _ => pdts_nil) (fun _ _ _ _ _ => pd_str))
  (pds_cons (pd_for (pdi_any (PP.leaf (pp_fd T.C_Table T.N_Table_plugs (pp_var 0)))) (pdg_name sc_Table_total_row.nd) (pds_cons (pd_if (PDW.tst (pdw_and (pdt_eq hu64 (pd_ix hu1 (pd_var 3) pd_int (fun _ _ => rfl)) pd_str) (pdw_and1 (pdt_ge (pd_var 1) (pd_ix hu1 (pd_var 3) pd_int (fun _ _ => rfl)))))) (pds_one (pd_pset (PR.v (pr_call (ok_sign_of T) (hr.mono (by decide)) T.m_sign_of T.F_sign_of.kp T.B_sign_of (pda_cons (PR.v (pr_call (ok_column_of T) (hr.mono (by decide)) T.m_column_of T.F_column_of.kp T.B_column_of (pda_cons (PP.leaf (pp_fd T.C_Table T.N_Table_last (pp_var 0))) (pda_cons (pd_ix hu1 (pd_var 3) pd_int (fun _ _ => rfl)) pda_nil)))) pda_nil))) (pp_var 2) (pd_ix hu1 (pd_var 3) pd_int (fun _ _ => rfl)))) pds_nil)
  (pds_cons (pd_if (pdt_eq hu64 (pd_ix hu1 (pd_var 3) pd_int (fun _ _ => rfl)) pd_str) (pds_one (pd_pset (PR.v (pr_strI T.b_str (pda_cons (PP.leaf (pp_ix hu1 (pp_fd T.C_Counter T.N_Counter_wheels (pp_ix hu1 (pp_ix hu1 (pp_fd T.C_Table T.N_Table_counters (pp_var 0)) (pd_var 1) (fun _ _ => rfl)) (pd_ix hu1 (pd_var 3) pd_int (fun _ _ => rfl)) (fun _ _ => rfl))) (pd_ix hu1 (pd_var 3) pd_int (fun _ _ => rfl)) (fun _ _ => rfl))) pda_nil))) (pp_var 2) (pd_ix hu1 (pd_var 3) pd_int (fun _ _ => rfl)))) pds_nil)
  (pds_one (pd_if (pdt_eq hu64 (pd_ix hu1 (pd_var 3) pd_int (fun _ _ => rfl)) pd_str) (pds_one (pd_pset (PR.v (pr_strI T.b_str (pda_cons (pd_var 1) pda_nil))) (pp_var 2) (pd_ix hu1 (pd_var 3) pd_int (fun _ _ => rfl)))) pds_nil)))))
  (pds_one (pd_ret (pr_join pd_str (pda_cons (pd_var 2) pda_nil))))))⟩) (rd_Table_total_row T.ca)
theorem ok_L_printed (T : Txt K mg) : FnOk P w K mg base CX0 4 T.f_L_printed T.d_L_printed ["_law_deck_here", "_law_wiring_here"] (SpV K F_L_printed) :=
  okV T.F_L_printed sc_L_printed (fun xs Φ h => by have q := h; first | (obtain ⟨rfl, _⟩ := q; rfl) | (obtain ⟨_, rfl, _⟩ := q; rfl) | (obtain ⟨_, _, rfl, _⟩ := q; rfl) | (obtain ⟨_, _, _, rfl, _⟩ := q; rfl) | (obtain ⟨_, _, _, _, rfl, _⟩ := q; rfl) | (obtain ⟨_, _, _, _, _, rfl, _⟩ := q; rfl) | (obtain ⟨_, _, _, _, _, _, rfl, _⟩ := q; rfl) | (obtain ⟨_, _, _, _, _, _, _, rfl, _⟩ := q; rfl) | (obtain ⟨_, _, _, _, _, _, _, _, rfl, _⟩ := q; rfl) | (obtain ⟨_, _, _, _, _, _, _, _, _, rfl, _⟩ := q; rfl)) (fun cdv A outer s H E hr => by
    have hu0 := hr.units0
    have hu1 := hu_of hr
    have hu64 := hr.units
    have hu65 := hu65_of hr
    exact ⟨_,
(pds_cons (pd_set (i := 2) sc_L_printed.nd (pr_lst pda_nil))
  (pds_cons (pd_setT (i := 3) sc_L_printed.nd (pr_mul (PR.v (pr_lst (pda_cons pd_int pda_nil))) (PR.v (pr_add (PR.v (pr_len T.b_len (pda_cons (pd_ix hu1 (pd_var 1) pd_int (fun _ _ => rfl)) pda_nil))) pd_int))))
  (pds_cons (pd_for (pdi_rng1 T.b_range (PR.v (pr_len T.b_len (pda_cons (pd_var 0) pda_nil)))) (pdg_name sc_L_printed.nd) (pds_cons (pd_set (i := 5) sc_L_printed.nd (pr_lst pda_nil))
  (pds_cons (pd_if (pdt_gt hu0 (pd_var 4) pd_int) (pds_cons (pd_set (i := 6) sc_L_printed.nd (PD.r (PR.v (pr_lc (own := [("_law_column_here", 10)]) sc_L_printed.nd (pdi_any (pd_ix hu1 (pd_var 1) pd_int (fun _ _ => rfl))) (blkOk_by (N := ["_law_deck_here", "_law_wiring_here", "_law_rows", "_law_begins", "_law_at", "_law_lines", "_law_elder", "_law_unlike", "_law_level", "_law_holes", "_law_column_here", "_law_k", "_law_plug_here"]) (sc := defScope s_L_printed) (by decide +kernel)) (fun _ _ _ _ _ => (pdg_name sc_L_printed.nd)) mono_name (sets_name (by decide)) (fun _ _ _ _ _ => pdts_nil) (fun _ _ _ _ _ => (PR.v (pr_call (ok_L_column T) (hr.mono (by decide)) T.m_L_column T.F_L_column.kp T.B_L_column (pda_cons (pd_ix hu1 (pd_var 0) (pd_sub (pd_var 4) pd_int) (fun _ _ => rfl)) (pda_cons (pd_var 10) pda_nil)))))))))
  (pds_cons (pd_setLcV (i := 7) (own := [("_law_k", 11)]) sc_L_printed.nd rfl (sw_true rfl rfl rfl (by decide +kernel)) (pdi_rng1 T.b_range (PR.v (pr_len T.b_len (pda_cons (pd_ix hu1 (pd_var 1) pd_int (fun _ _ => rfl)) pda_nil)))) (blkOk_by (N := ["_law_deck_here", "_law_wiring_here", "_law_rows", "_law_begins", "_law_at", "_law_lines", "_law_elder", "_law_unlike", "_law_level", "_law_holes", "_law_column_here", "_law_k", "_law_plug_here"]) (sc := defScope s_L_printed) (by decide +kernel)) (fun _ _ _ _ _ => (pdg_name sc_L_printed.nd)) mono_name (sets_name (by decide)) (fun _ _ _ _ _ => (pdts_one (pdt_ne hu64 (PR.v (pr_call (ok_L_column T) (hr.mono (by decide)) T.m_L_column T.F_L_column.kp T.B_L_column (pda_cons (pd_ix hu1 (pd_var 0) (pd_var 4) (fun _ _ => rfl)) (pda_cons (pd_ix hu1 (pd_ix hu1 (pd_var 1) pd_int (fun _ _ => rfl)) (pd_var 11) (fun _ _ => rfl)) pda_nil)))) (pd_ix hu1 (pd_var 6) (pd_var 11) (fun _ _ => rfl))))) (fun _ _ _ _ _ => (pd_var 11)))
  (pds_one (pd_for (pdi_rng3 T.b_range (PR.v (pr_len T.b_len (pda_cons (pd_ix hu1 (pd_var 1) pd_int (fun _ _ => rfl)) pda_nil))) (PR.v (pr_minL T.b_min (pda_cons (PR.v (pr_add (pd_var 7) (PR.v (pr_lst (pda_cons pd_int pda_nil))))) pda_nil))) (pd_neg pd_int)) (pdg_name sc_L_printed.nd) (pds_cons (pd_expr (pr_app 5 (PR.v (pr_call (ok_L_total_row T) (hr.mono (by decide)) T.m_L_total_row T.F_L_total_row.kp T.B_L_total_row (pda_cons (PR.v (pr_slice (pd_var 0) (pdo_some (PP.leaf (pp_ix hu1 (pp_var 3) (pd_var 8) (fun _ _ => rfl)))) (pdo_some (pd_var 4)))) (pda_cons (pd_var 1) (pda_cons (pd_var 8) pda_nil)))))))
  (pds_one (pd_pset (pd_var 4) (pp_var 3) (pd_var 8)))))))) pds_nil)
  (pds_cons (pd_if (pdt_val (pd_ix hu1 (pd_var 1) pd_int (fun _ _ => rfl))) (pds_cons (pd_setLcV (i := 9) (own := [("_law_plug_here", 12)]) sc_L_printed.nd rfl (sw_true rfl rfl rfl (by decide +kernel)) (pdi_any (pd_ix hu1 (pd_var 1) pd_int (fun _ _ => rfl))) (blkOk_by (N := ["_law_deck_here", "_law_wiring_here", "_law_rows", "_law_begins", "_law_at", "_law_lines", "_law_elder", "_law_unlike", "_law_level", "_law_holes", "_law_column_here", "_law_k", "_law_plug_here"]) (sc := defScope s_L_printed) (by decide +kernel)) (fun _ _ _ _ _ => (pdg_name sc_L_printed.nd)) mono_name (sets_name (by decide)) (fun _ _ _ _ _ => (pdts_one (pdt_eq hu64 (pd_ix hu1 (pd_var 12) pd_int (fun _ _ => rfl)) pd_str))) (fun _ _ _ _ _ => (pd_var 12)))
  (pds_one (pd_expr (pr_app 5 (PR.v (pr_call (ok_L_line T) (hr.mono (by decide)) T.m_L_line T.F_L_line.kp T.B_L_line (pda_cons (PR.v (pr_lc (own := [("_law_plug_here", 12)]) sc_L_printed.nd (pdi_any (pd_var 9)) (blkOk_by (N := ["_law_deck_here", "_law_wiring_here", "_law_rows", "_law_begins", "_law_at", "_law_lines", "_law_elder", "_law_unlike", "_law_level", "_law_holes", "_law_column_here", "_law_k", "_law_plug_here"]) (sc := defScope s_L_printed) (by decide +kernel)) (fun _ _ _ _ _ => (pdg_name sc_L_printed.nd)) mono_name (sets_name (by decide)) (fun _ _ _ _ _ => pdts_nil) (fun _ _ _ _ _ => (pd_tup (pda_cons (pd_ix hu1 (pd_var 12) pd_int (fun _ _ => rfl)) (pda_cons (PR.v (pr_call (ok_L_sign T) (hr.mono (by decide)) T.m_L_sign T.F_L_sign.kp T.B_L_sign (pda_cons (PR.v (pr_call (ok_L_column T) (hr.mono (by decide)) T.m_L_column T.F_L_column.kp T.B_L_column (pda_cons (pd_ix hu1 (pd_var 0) (pd_var 4) (fun _ _ => rfl)) (pda_cons (pd_ix hu1 (pd_var 12) pd_int (fun _ _ => rfl)) pda_nil)))) pda_nil))) pda_nil)))))) pda_nil))))))) pds_nil)
  (pds_one (pd_expr (pr_app 2 (pd_var 5))))))))
  (pds_cons (pd_if (pdt_eq hu64 (pd_var 0) (PR.v (pr_lst pda_nil))) (pds_one (pd_ret (pr_lst (pda_cons (PR.v (pr_lst pda_nil)) pda_nil)))) pds_nil)
  (pds_cons (pd_set (i := 5) sc_L_printed.nd (pr_lst pda_nil))
  (pds_cons (pd_for (pdi_rng3 T.b_range (PR.v (pr_len T.b_len (pda_cons (pd_ix hu1 (pd_var 1) pd_int (fun _ _ => rfl)) pda_nil))) (pd_neg pd_int) (pd_neg pd_int)) (pdg_name sc_L_printed.nd) (pds_one (pd_expr (pr_app 5 (PR.v (pr_call (ok_L_total_row T) (hr.mono (by decide)) T.m_L_total_row T.F_L_total_row.kp T.B_L_total_row (pda_cons (PR.v (pr_slice (pd_var 0) (pdo_some (PP.leaf (pp_ix hu1 (pp_var 3) (pd_var 8) (fun _ _ => rfl)))) pdo_none)) (pda_cons (pd_var 1) (pda_cons (pd_var 8) pda_nil)))))))))
  (pds_one (pd_ret (pr_add (pd_var 2) (PR.v (pr_lst (pda_cons (pd_var 5) pda_nil))))))))))))⟩) rd_L_printed
theorem ok_Table_init (T : Txt K mg) : FnOk P w K mg base CX0 4 T.f_Table_init T.d_Table_init ["self", "wiring"] (SpO K (F_Table_init T.ca)) :=
  okO T.F_Table_init sc_Table_init (fun S xs Φ h => by have q := h; first | (obtain ⟨rfl, _⟩ := q; rfl) | (obtain ⟨_, rfl, _⟩ := q; rfl) | (obtain ⟨_, _, rfl, _⟩ := q; rfl) | (obtain ⟨_, _, _, rfl, _⟩ := q; rfl) | (obtain ⟨_, _, _, _, rfl, _⟩ := q; rfl) | (obtain ⟨_, _, _, _, _, rfl, _⟩ := q; rfl) | (obtain ⟨_, _, _, _, _, _, rfl, _⟩ := q; rfl) | (obtain ⟨_, _, _, _, _, _, _, rfl, _⟩ := q; rfl) | (obtain ⟨_, _, _, _, _, _, _, _, rfl, _⟩ := q; rfl) | (obtain ⟨_, _, _, _, _, _, _, _, _, rfl, _⟩ := q; rfl)) (fun cdv A outer s H E hr => by
    have hu0 := hr.units0
    have hu1 := hu_of hr
    have hu64 := hr.units
    have hu65 := hu65_of hr
    exact ⟨_,
(pds_cons (pd_fset T.C_Table T.N_Table_controls (PD.r (PR.v (pr_list T.b_list (pda_cons (pd_ix hu1 (pd_var 1) pd_int (fun _ _ => rfl)) pda_nil)))) (pp_var 0))
  (pds_cons (pd_fset T.C_Table T.N_Table_plugs (PD.r (PR.v (pr_list T.b_list (pda_cons (pd_ix hu1 (pd_var 1) pd_int (fun _ _ => rfl)) pda_nil)))) (pp_var 0))
  (pds_cons (pd_fset T.C_Table T.N_Table_detail (PD.r (pd_ix hu1 (pd_var 1) pd_int (fun _ _ => rfl))) (pp_var 0))
  (pds_cons (pd_if (PDW.tst (pdw_or (pdt_gt hu0 (PR.v (pr_len T.b_len (pda_cons (PP.leaf (pp_fd T.C_Table T.N_Table_controls (pp_var 0))) pda_nil))) (pd_globI T.g_MOST_LEVELS)) (pdw_or1 (pdt_ne hu64 (PR.v (pr_lc (own := [("one", 3)]) sc_Table_init.nd (pdi_any (PP.leaf (pp_fd T.C_Table T.N_Table_controls (pp_var 0)))) (blkOk_by (N := ["self", "wiring", "at", "one", "level"]) (sc := defScope s_Table_init) (by decide +kernel)) (fun _ _ _ _ _ => (pdg_name sc_Table_init.nd)) mono_name (sets_name (by decide)) (fun _ _ _ _ _ => (pdts_one (pdt_not (pdt_chain op_le sim_le op_lt sim_lt pd_int (pd_var 3) pd_int)))) (fun _ _ _ _ _ => (pd_var 3)))) (PR.v (pr_lst pda_nil)))))) (pds_one pd_never) pds_nil)
  (pds_cons (pd_for (pdi_rng1 T.b_range (PR.v (pr_len T.b_len (pda_cons (PP.leaf (pp_fd T.C_Table T.N_Table_plugs (pp_var 0))) pda_nil)))) (pdg_name sc_Table_init.nd) (pds_one (pd_if (pdt_not (pdt_val (PR.v (pr_call (ok_is_plug T) (hr.mono (by decide)) T.m_is_plug T.F_is_plug.kp T.B_is_plug (pda_cons (pd_ix hu1 (PP.leaf (pp_fd T.C_Table T.N_Table_plugs (pp_var 0))) (pd_var 2) (fun _ _ => rfl)) (pda_cons (PR.v (pr_len T.b_len (pda_cons (PP.leaf (pp_fd T.C_Table T.N_Table_controls (pp_var 0))) pda_nil))) pda_nil)))))) (pds_one pd_never) pds_nil)))
  (pds_cons (pd_fset T.C_Table T.N_Table_last (PD.r pd_non) (pp_var 0))
  (pds_one (pd_fset T.C_Table T.N_Table_counters (pr_lcO (own := [("level", 4)]) sc_Table_init.nd (pdi_rng1 T.b_range (PR.v (pr_add (PR.v (pr_len T.b_len (pda_cons (PP.leaf (pp_fd T.C_Table T.N_Table_controls (pp_var 0))) pda_nil))) pd_int))) (blkOk_by (N := ["self", "wiring", "at", "one", "level"]) (sc := defScope s_Table_init) (by decide +kernel)) (fun _ _ _ _ _ => (pdg_name sc_Table_init.nd)) mono_name (sets_name (by decide)) (fun _ _ _ _ _ => (pr_callM0 T.C_Table T.M_Table_fresh (ok_Table_fresh T) (hr.mono (by decide)) T.B_Table_fresh (pp_var 0)))) (pp_var 0)))))))))⟩) (rd_Table_init T.ca)
theorem ok_Table_totals (T : Txt K mg) : FnOk P w K mg base CX0 4 T.f_Table_totals T.d_Table_totals ["self", "least"] (SpO K (F_Table_totals T.ca)) :=
  okO T.F_Table_totals sc_Table_totals (fun S xs Φ h => by have q := h; first | (obtain ⟨rfl, _⟩ := q; rfl) | (obtain ⟨_, rfl, _⟩ := q; rfl) | (obtain ⟨_, _, rfl, _⟩ := q; rfl) | (obtain ⟨_, _, _, rfl, _⟩ := q; rfl) | (obtain ⟨_, _, _, _, rfl, _⟩ := q; rfl) | (obtain ⟨_, _, _, _, _, rfl, _⟩ := q; rfl) | (obtain ⟨_, _, _, _, _, _, rfl, _⟩ := q; rfl) | (obtain ⟨_, _, _, _, _, _, _, rfl, _⟩ := q; rfl) | (obtain ⟨_, _, _, _, _, _, _, _, rfl, _⟩ := q; rfl) | (obtain ⟨_, _, _, _, _, _, _, _, _, rfl, _⟩ := q; rfl)) (fun cdv A outer s H E hr => by
    have hu0 := hr.units0
    have hu1 := hu_of hr
    have hu64 := hr.units
    have hu65 := hu65_of hr
    exact ⟨_,
(pds_cons (pd_set (i := 2) sc_Table_totals.nd (pr_lst pda_nil))
  (pds_cons (pd_for (pdi_rng3 T.b_range (PR.v (pr_len T.b_len (pda_cons (PP.leaf (pp_fd T.C_Table T.N_Table_controls (pp_var 0))) pda_nil))) (pd_sub (pd_var 1) pd_int) (pd_neg pd_int)) (pdg_name sc_Table_totals.nd) (pds_cons (pd_expr (pr_app 2 (PR.v (pr_callM T.C_Table T.M_Table_total_row (ok_Table_total_row T) (hr.mono (by decide)) T.B_Table_total_row (pp_var 0) (pda_cons (pd_var 3) pda_nil)))))
  (pds_one (pd_psetT (pr_callM0 T.C_Table T.M_Table_fresh (ok_Table_fresh T) (hr.mono (by decide)) T.B_Table_fresh (pp_var 0)) (pp_fd T.C_Table T.N_Table_counters (pp_var 0)) (pd_var 3)))))
  (pds_one (pd_retM 2))))⟩) (rd_Table_totals T.ca)
theorem ok_Table_feed (T : Txt K mg) : FnOk P w K mg base CX0 5 T.f_Table_feed T.d_Table_feed ["self", "card"] (SpO K (F_Table_feed T.ca)) :=
  okO T.F_Table_feed sc_Table_feed (fun S xs Φ h => by have q := h; first | (obtain ⟨rfl, _⟩ := q; rfl) | (obtain ⟨_, rfl, _⟩ := q; rfl) | (obtain ⟨_, _, rfl, _⟩ := q; rfl) | (obtain ⟨_, _, _, rfl, _⟩ := q; rfl) | (obtain ⟨_, _, _, _, rfl, _⟩ := q; rfl) | (obtain ⟨_, _, _, _, _, rfl, _⟩ := q; rfl) | (obtain ⟨_, _, _, _, _, _, rfl, _⟩ := q; rfl) | (obtain ⟨_, _, _, _, _, _, _, rfl, _⟩ := q; rfl) | (obtain ⟨_, _, _, _, _, _, _, _, rfl, _⟩ := q; rfl) | (obtain ⟨_, _, _, _, _, _, _, _, _, rfl, _⟩ := q; rfl)) (fun cdv A outer s H E hr => by
    have hu0 := hr.units0
    have hu1 := hu_of hr
    have hu64 := hr.units
    have hu65 := hu65_of hr
    exact ⟨_,
(pds_cons (pd_set (i := 2) sc_Table_feed.nd (pr_lst pda_nil))
  (pds_cons (pd_if (pdt_isnot (PP.leaf (pp_fd T.C_Table T.N_Table_last (pp_var 0))) pd_non) (pds_one (pd_set (i := 2) sc_Table_feed.nd (pr_callM T.C_Table T.M_Table_totals (ok_Table_totals T) (hr.mono (by decide)) T.B_Table_totals (pp_var 0) (pda_cons (PR.v (pr_callM T.C_Table T.M_Table_changed (ok_Table_changed T) (hr.mono (by decide)) T.B_Table_changed (pp_var 0) (pda_cons (pd_var 1) pda_nil))) pda_nil)))) pds_nil)
  (pds_cons (pd_fset T.C_Table T.N_Table_last (PD.r (pd_var 1)) (pp_var 0))
  (pds_cons (pd_forP 3 sc_Table_feed.nd (pp_fd T.C_Table T.N_Table_counters (pp_var 0)) (pds_one (pd_for (pdi_any (PP.leaf (pp_fd T.C_Table T.N_Table_plugs (pp_var 0)))) (pdg_name sc_Table_feed.nd) (pds_cons (pd_if (pdt_eq hu64 (pd_ix hu1 (pd_var 4) pd_int (fun _ _ => rfl)) pd_str) (pds_one (pd_expr (pr_callM T.C_Counter T.M_Counter_add (ok_Counter_add T) (hr.mono (by decide)) T.B_Counter_add (pp_ix hu1 (pp_var 3) (pd_ix hu1 (pd_var 4) pd_int (fun _ _ => rfl)) (fun _ _ => rfl)) (pda_cons (PR.v (pr_max2 T.b_max (pda_cons pd_int (pda_cons (PR.v (pr_call (ok_figure_of T) (hr.mono (by decide)) T.m_figure_of T.F_figure_of.kp T.B_figure_of (pda_cons (PR.v (pr_call (ok_column_of T) (hr.mono (by decide)) T.m_column_of T.F_column_of.kp T.B_column_of (pda_cons (pd_var 1) (pda_cons (pd_ix hu1 (pd_var 4) pd_int (fun _ _ => rfl)) pda_nil)))) pda_nil))) pda_nil)))) (pda_cons (pd_ix hu1 (pd_var 4) pd_int (fun _ _ => rfl)) pda_nil))))) pds_nil)
  (pds_one (pd_if (pdt_eq hu64 (pd_ix hu1 (pd_var 4) pd_int (fun _ _ => rfl)) pd_str) (pds_one (pd_expr (pr_callM T.C_Counter T.M_Counter_add (ok_Counter_add T) (hr.mono (by decide)) T.B_Counter_add (pp_ix hu1 (pp_var 3) (pd_ix hu1 (pd_var 4) pd_int (fun _ _ => rfl)) (fun _ _ => rfl)) (pda_cons pd_int (pda_cons pd_int pda_nil))))) pds_nil))))))
  (pds_cons (pd_if (pdt_val (PP.leaf (pp_fd T.C_Table T.N_Table_detail (pp_var 0)))) (pds_one (pd_expr (pr_app 2 (PR.v (pr_callM T.C_Table T.M_Table_detail_row (ok_Table_detail_row T) (hr.mono (by decide)) T.B_Table_detail_row (pp_var 0) (pda_cons (pd_var 1) pda_nil)))))) pds_nil)
  (pds_one (pd_retM 2)))))))⟩) (rd_Table_feed T.ca)
theorem ok_Table_ends (T : Txt K mg) : FnOk P w K mg base CX0 5 T.f_Table_ends T.d_Table_ends ["self"] (SpO K (F_Table_ends T.ca)) :=
  okO T.F_Table_ends sc_Table_ends (fun S xs Φ h => by have q := h; first | (obtain ⟨rfl, _⟩ := q; rfl) | (obtain ⟨_, rfl, _⟩ := q; rfl) | (obtain ⟨_, _, rfl, _⟩ := q; rfl) | (obtain ⟨_, _, _, rfl, _⟩ := q; rfl) | (obtain ⟨_, _, _, _, rfl, _⟩ := q; rfl) | (obtain ⟨_, _, _, _, _, rfl, _⟩ := q; rfl) | (obtain ⟨_, _, _, _, _, _, rfl, _⟩ := q; rfl) | (obtain ⟨_, _, _, _, _, _, _, rfl, _⟩ := q; rfl) | (obtain ⟨_, _, _, _, _, _, _, _, rfl, _⟩ := q; rfl) | (obtain ⟨_, _, _, _, _, _, _, _, _, rfl, _⟩ := q; rfl)) (fun cdv A outer s H E hr => by
    have hu0 := hr.units0
    have hu1 := hu_of hr
    have hu64 := hr.units
    have hu65 := hu65_of hr
    exact ⟨_,
(pds_cons (pd_if (pdt_is (PP.leaf (pp_fd T.C_Table T.N_Table_last (pp_var 0))) pd_non) (pds_one (pd_ret (pr_lst pda_nil))) pds_nil)
  (pds_cons (pd_set (i := 1) sc_Table_ends.nd (pr_callM T.C_Table T.M_Table_totals (ok_Table_totals T) (hr.mono (by decide)) T.B_Table_totals (pp_var 0) (pda_cons pd_int pda_nil)))
  (pds_cons (pd_fset T.C_Table T.N_Table_last (PD.r pd_non) (pp_var 0))
  (pds_one (pd_retM 1)))))⟩) (rd_Table_ends T.ca)
theorem ok_printed (T : Txt K mg) : FnOk P w K mg base CX0 6 T.f_printed T.d_printed ["deck", "wiring"] (SpV K (F_printed T.ca)) :=
  okV T.F_printed sc_printed (fun xs Φ h => by have q := h; first | (obtain ⟨rfl, _⟩ := q; rfl) | (obtain ⟨_, rfl, _⟩ := q; rfl) | (obtain ⟨_, _, rfl, _⟩ := q; rfl) | (obtain ⟨_, _, _, rfl, _⟩ := q; rfl) | (obtain ⟨_, _, _, _, rfl, _⟩ := q; rfl) | (obtain ⟨_, _, _, _, _, rfl, _⟩ := q; rfl) | (obtain ⟨_, _, _, _, _, _, rfl, _⟩ := q; rfl) | (obtain ⟨_, _, _, _, _, _, _, rfl, _⟩ := q; rfl) | (obtain ⟨_, _, _, _, _, _, _, _, rfl, _⟩ := q; rfl) | (obtain ⟨_, _, _, _, _, _, _, _, _, rfl, _⟩ := q; rfl)) (fun cdv A outer s H E hr => by
    have hu0 := hr.units0
    have hu1 := hu_of hr
    have hu64 := hr.units
    have hu65 := hu65_of hr
    exact ⟨_,
(pds_cons (pd_set (i := 2) sc_printed.nd (pr_mk T.K_Table (ok_Table_init T) (hr.mono (by decide)) T.mC_Table T.B_Table_init (pda_cons (pd_var 1) pda_nil)))
  (pds_cons (pd_set (i := 3) sc_printed.nd (pr_lst pda_nil))
  (pds_cons (pd_for (pdi_any (pd_var 0)) (pdg_name sc_printed.nd) (pds_one (pd_expr (pr_ext 3 (PR.v (pr_callM T.C_Table T.M_Table_feed (ok_Table_feed T) (hr.mono (by decide)) T.B_Table_feed (pp_var 2) (pda_cons (pd_var 4) pda_nil)))))))
  (pds_one (pd_ret (pr_add (pd_var 3) (PR.v (pr_callM0 T.C_Table T.M_Table_ends (ok_Table_ends T) (hr.mono (by decide)) T.B_Table_ends (pp_var 2)))))))))⟩) (rd_printed T.ca)
theorem ok_law (T : Txt K mg) {f : Addr} {d : FuncData} (F : Fun K "law" "law" s_law f d) : FnOk P w K mg base CX0 7 f d ["_law_script"] (SpV K F_law) :=
  okV F sc_law (fun xs Φ h => by have q := h; first | (obtain ⟨rfl, _⟩ := q; rfl) | (obtain ⟨_, rfl, _⟩ := q; rfl) | (obtain ⟨_, _, rfl, _⟩ := q; rfl) | (obtain ⟨_, _, _, rfl, _⟩ := q; rfl) | (obtain ⟨_, _, _, _, rfl, _⟩ := q; rfl) | (obtain ⟨_, _, _, _, _, rfl, _⟩ := q; rfl) | (obtain ⟨_, _, _, _, _, _, rfl, _⟩ := q; rfl) | (obtain ⟨_, _, _, _, _, _, _, rfl, _⟩ := q; rfl) | (obtain ⟨_, _, _, _, _, _, _, _, rfl, _⟩ := q; rfl) | (obtain ⟨_, _, _, _, _, _, _, _, _, rfl, _⟩ := q; rfl)) (fun cdv A outer s H E hr => by
    have hu0 := hr.units0
    have hu1 := hu_of hr
    have hu64 := hr.units
    have hu65 := hu65_of hr
    exact ⟨_,
(pds_cons (pd_setT (i := 1) sc_law.nd (pr_call (ok_L_dice T) (hr.mono (by decide)) T.m_L_dice T.F_L_dice.kp T.B_L_dice (pda_cons (pd_var 0) pda_nil)))
  (pds_cons (pd_set (i := 2) sc_law.nd (PD.r (PR.v (pr_callO 1 (ok_L_palettes T) (hr.mono (by decide)) T.m_L_palettes T.F_L_palettes.kp T.B_L_palettes pda_nil))))
  (pds_cons (pd_set (i := 3) sc_law.nd (PD.r (PR.v (pr_callO 1 (ok_L_wiring T) (hr.mono (by decide)) T.m_L_wiring T.F_L_wiring.kp T.B_L_wiring (pda_cons (PR.v (pr_min2 T.b_min (pda_cons pd_int (pda_cons (PR.v (pr_len T.b_len (pda_cons (pd_var 2) pda_nil))) pda_nil)))) pda_nil)))))
  (pds_cons (pd_set (i := 4) sc_law.nd (PD.r (PR.v (pr_lst (pda_cons (PR.v (pr_callO 1 (ok_L_deck T) (hr.mono (by decide)) T.m_L_deck T.F_L_deck.kp T.B_L_deck (pda_cons (pd_var 2) (pda_cons pd_int pda_nil)))) (pda_cons (PR.v (pr_callO 1 (ok_L_deck T) (hr.mono (by decide)) T.m_L_deck T.F_L_deck.kp T.B_L_deck (pda_cons (pd_var 2) (pda_cons pd_int pda_nil)))) pda_nil))))))
  (pds_cons (pd_set (i := 5) sc_law.nd (pr_tupO (pdao_cons (pr_list T.b_list (pda_cons (pd_ix hu1 (pd_var 3) pd_int (fun _ _ => rfl)) pda_nil)) (pdao_cons (pr_list T.b_list (pda_cons (pd_ix hu1 (pd_var 3) pd_int (fun _ _ => rfl)) pda_nil)) (pdao_cons (PD.r (pd_ix hu1 (pd_var 3) pd_int (fun _ _ => rfl))) pdao_nil)))))
  (pds_cons (pd_set (i := 6) sc_law.nd (pr_mkK 5 T.K_Table (ok_Table_init T) (hr.mono (by decide)) T.mC_Table T.B_Table_init))
  (pds_cons (pd_if (pdt_neOwn 5 hu64 (pd_var 3)) (pds_one (pd_ret (PD.r pd_bl))) pds_nil)
  (pds_cons (pd_expr (pr_pclear (pp_ix hu1 (pp_var 5) pd_int (fun _ _ => rfl))))
  (pds_cons (pd_expr (pr_pclear (pp_ix hu1 (pp_var 5) pd_int (fun _ _ => rfl))))
  (pds_cons (pd_set (i := 7) sc_law.nd (pr_lstO (pdao_cons (pr_mk T.K_Table (ok_Table_init T) (hr.mono (by decide)) T.mC_Table T.B_Table_init (pda_cons (pd_var 3) pda_nil)) (pdao_cons (pr_revL (pd_ix hu1 (pd_var 4) pd_int (fun _ _ => rfl))) (pdao_cons (pr_lst pda_nil) pdao_nil)))))
  (pds_cons (pd_for (pdi_any (pd_var 4)) (pdg_name sc_law.nd) (pds_cons (pd_set (i := 9) sc_law.nd (PD.r (PR.v (pr_call (ok_L_printed T) (hr.mono (by decide)) T.m_L_printed T.F_L_printed.kp T.B_L_printed (pda_cons (pd_var 8) (pda_cons (pd_var 3) pda_nil))))))
  (pds_cons (pd_for (pdi_rng1 T.b_range (PR.v (pr_len T.b_len (pda_cons (pd_var 8) pda_nil)))) (pdg_name sc_law.nd) (pds_cons (pd_if (pdt_not (pdt_val (PR.v (pr_call (ok_L_like T 6) (hr.mono (by decide)) T.m_L_like T.F_L_like.kp T.B_L_like (pda_cons (PR.v (pr_callM T.C_Table T.M_Table_feed (ok_Table_feed T) (hr.mono (by decide)) T.B_Table_feed (pp_var 6) (pda_cons (pd_ix hu1 (pd_var 8) (pd_var 10) (fun _ _ => rfl)) pda_nil))) (pda_cons (pd_ix hu1 (pd_var 9) (pd_var 10) (fun _ _ => rfl)) pda_nil)))))) (pds_one (pd_ret (PD.r pd_bl))) pds_nil)
  (pds_one (pd_if (pdt_lt (PR.v (pd_plen (pp_ix hu1 (pp_var 7) pd_int (fun _ _ => rfl)) T.b_len)) (PR.v (pd_plen (pp_ix hu1 (pp_var 7) pd_int (fun _ _ => rfl)) T.b_len))) (pds_one (pd_expr (pr_papp (pp_ix hu1 (pp_var 7) pd_int (fun _ _ => rfl)) (PR.v (pr_callM T.C_Table T.M_Table_feed (ok_Table_feed T) (hr.mono (by decide)) T.B_Table_feed (pp_ix hu1 (pp_var 7) pd_int (fun _ _ => rfl)) (pda_cons (PP.leaf (pp_ix hu1 (pp_ix hu1 (pp_var 7) pd_int (fun _ _ => rfl)) (PR.v (pd_plen (pp_ix hu1 (pp_var 7) pd_int (fun _ _ => rfl)) T.b_len)) (fun _ _ => rfl))) pda_nil)))))) pds_nil))))
  (pds_cons (pd_if (PDW.tst (pdw_or (pdt_not (pdt_val (PR.v (pr_call (ok_L_like T 6) (hr.mono (by decide)) T.m_L_like T.F_L_like.kp T.B_L_like (pda_cons (PR.v (pr_callM0 T.C_Table T.M_Table_ends (ok_Table_ends T) (hr.mono (by decide)) T.B_Table_ends (pp_var 6))) (pda_cons (pd_ix hu1 (pd_var 9) (pd_neg pd_int) (fun _ _ => rfl)) pda_nil)))))) (pdw_or1 (pdt_ne hu64 (PR.v (pr_callM0 T.C_Table T.M_Table_ends (ok_Table_ends T) (hr.mono (by decide)) T.B_Table_ends (pp_var 6))) (PR.v (pr_lst pda_nil)))))) (pds_one (pd_ret (PD.r pd_bl))) pds_nil)
  (pds_cons (pd_set (i := 11) sc_law.nd (PD.r (PR.v (pr_lst pda_nil))))
  (pds_cons (pd_for (pdi_any (pd_var 9)) (pdg_name sc_law.nd) (pds_one (pd_set (i := 11) sc_law.nd (PD.r (PR.v (pr_add (pd_var 11) (pd_var 12)))))))
  (pds_one (pd_if (pdt_not (pdt_val (PR.v (pr_call (ok_L_like T 6) (hr.mono (by decide)) T.m_L_like T.F_L_like.kp T.B_L_like (pda_cons (PR.v (pr_call (ok_printed T) (hr.mono (by decide)) T.m_printed T.F_printed.kp T.B_printed (pda_cons (pd_var 8) (pda_cons (pd_var 3) pda_nil)))) (pda_cons (pd_var 11) pda_nil)))))) (pds_one (pd_ret (PD.r pd_bl))) pds_nil))))))))
  (pds_cons (pd_set (i := 9) sc_law.nd (PD.r (PR.v (pr_call (ok_L_printed T) (hr.mono (by decide)) T.m_L_printed T.F_L_printed.kp T.B_L_printed (pda_cons (PR.v (pr_slice (PP.frz (pp_ix hu1 (pp_var 7) pd_int (fun _ _ => rfl))) pdo_none (pdo_some (PR.v (pd_plen (pp_ix hu1 (pp_var 7) pd_int (fun _ _ => rfl)) T.b_len))))) (pda_cons (pd_var 3) pda_nil))))))
  (pds_one (pd_ret (PD.r (pd_and (PR.v (pr_call (ok_L_like T 6) (hr.mono (by decide)) T.m_L_like T.F_L_like.kp T.B_L_like (pda_cons (PP.frz (pp_ix hu1 (pp_var 7) pd_int (fun _ _ => rfl))) (pda_cons (PR.v (pr_slice (pd_var 9) pdo_none (pdo_some (pd_neg pd_int)))) pda_nil)))) (pd_one (PR.v (pr_call (ok_L_like T 6) (hr.mono (by decide)) T.m_L_like T.F_L_like.kp T.B_L_like (pda_cons (PR.v (pr_callM0 T.C_Table T.M_Table_ends (ok_Table_ends T) (hr.mono (by decide)) T.B_Table_ends (pp_ix hu1 (pp_var 7) pd_int (fun _ _ => rfl)))) (pda_cons (pd_ix hu1 (pd_var 9) (pd_neg pd_int) (fun _ _ => rfl)) pda_nil)))))))))))))))))))))⟩) (rd_law T.ca)
end
/-! ### what the top has written -/
theorem all_mk {l : PySem.W.OpenLaw} {w : World} {K : PySem.W.Frag} {h : Heap} {mg : Str → Option Value} {fa f1 f2 f3 f4 f5 f6 f7 f8 f9 f10 f11 f12 f13 f14 f15 f16 f17 f18 f19 f20 f21 f22 f23 f24 f25 f26 f27 f28 f29 f30 f31 f32 f33 f34 : Addr} (X : K.In h) (G : h.Ns mainGlobals mg) (hfa : mg "law" = some (.ref fa))
    {A_Counter : Addr} (ac_Counter : PySem.W.nsIn K mainGlobals "Counter" = some (some (.ref A_Counter))) (pg_Counter : PySem.W.plainGet K A_Counter Str.empty = true) (hd_Counter : PySem.W.hasDictIn K A_Counter = true) (po_Counter : PySem.W.plainOver K A_Counter = true) (sa_Counter : PySem.W.findIn K (.ref A_Counter) "__setattr__" = some (some (.builtin "object.__setattr__"))) (mk_Counter : PySem.W.makesIn K A_Counter = true) (kc_Counter : PySem.W.keepIn K (.ref A_Counter) = true)
    {A_Table : Addr} (ac_Table : PySem.W.nsIn K mainGlobals "Table" = some (some (.ref A_Table))) (pg_Table : PySem.W.plainGet K A_Table Str.empty = true) (hd_Table : PySem.W.hasDictIn K A_Table = true) (po_Table : PySem.W.plainOver K A_Table = true) (sa_Table : PySem.W.findIn K (.ref A_Table) "__setattr__" = some (some (.builtin "object.__setattr__"))) (mk_Table : PySem.W.makesIn K A_Table = true) (kc_Table : PySem.W.keepIn K (.ref A_Table) = true)
    (n_Counter_wheels : PySem.W.findIn K (.ref A_Counter) "wheels" = some none)
    (n_Table_controls : PySem.W.findIn K (.ref A_Table) "controls" = some none)
    (n_Table_counters : PySem.W.findIn K (.ref A_Table) "counters" = some none)
    (n_Table_detail : PySem.W.findIn K (.ref A_Table) "detail" = some none)
    (n_Table_last : PySem.W.findIn K (.ref A_Table) "last" = some none)
    (n_Table_plugs : PySem.W.findIn K (.ref A_Table) "plugs" = some none)
    {od1 an1 : Option Addr} {sl1 : Array (Option Value)} {oc1 kV1 dc1 pm1 cd1 ct1 : Value}
    (a1 : PySem.W.nsIn K mainGlobals "_law_like" = some (some (.ref f1))) (l1 : K.lookup f1 = some ⟨oc1, od1, .func (PySem.W.fnOf "_law_like" "_law_like" (defArgs s_L_like) (defBody s_L_like) (defScope s_L_like) .none kV1 dc1 pm1 an1 cd1 ct1), sl1⟩) (c1 : PySem.W.codeIn K cd1 "_law_like" = true) (k1 : PySem.W.keepIn K (.ref f1) = true)
    {od2 an2 : Option Addr} {sl2 : Array (Option Value)} {oc2 kV2 dc2 pm2 cd2 ct2 : Value}
    (a2 : PySem.W.nsIn K mainGlobals "_law_dice" = some (some (.ref f2))) (l2 : K.lookup f2 = some ⟨oc2, od2, .func (PySem.W.fnOf "_law_dice" "_law_dice" (defArgs s_L_dice) (defBody s_L_dice) (defScope s_L_dice) .none kV2 dc2 pm2 an2 cd2 ct2), sl2⟩) (c2 : PySem.W.codeIn K cd2 "_law_dice" = true) (k2 : PySem.W.keepIn K (.ref f2) = true)
    {od3 an3 : Option Addr} {sl3 : Array (Option Value)} {oc3 kV3 dc3 pm3 cd3 ct3 : Value}
    (a3 : PySem.W.nsIn K mainGlobals "_law_next" = some (some (.ref f3))) (l3 : K.lookup f3 = some ⟨oc3, od3, .func (PySem.W.fnOf "_law_next" "_law_next" (defArgs s_L_next) (defBody s_L_next) (defScope s_L_next) .none kV3 dc3 pm3 an3 cd3 ct3), sl3⟩) (c3 : PySem.W.codeIn K cd3 "_law_next" = true) (k3 : PySem.W.keepIn K (.ref f3) = true)
    {od4 an4 : Option Addr} {sl4 : Array (Option Value)} {oc4 kV4 dc4 pm4 cd4 ct4 : Value}
    (a4 : PySem.W.nsIn K mainGlobals "_law_columns" = some (some (.ref f4))) (l4 : K.lookup f4 = some ⟨oc4, od4, .func (PySem.W.fnOf "_law_columns" "_law_columns" (defArgs s_L_columns) (defBody s_L_columns) (defScope s_L_columns) .none kV4 dc4 pm4 an4 cd4 ct4), sl4⟩) (c4 : PySem.W.codeIn K cd4 "_law_columns" = true) (k4 : PySem.W.keepIn K (.ref f4) = true)
    {od5 an5 : Option Addr} {sl5 : Array (Option Value)} {oc5 kV5 dc5 pm5 cd5 ct5 : Value}
    (a5 : PySem.W.nsIn K mainGlobals "_law_column" = some (some (.ref f5))) (l5 : K.lookup f5 = some ⟨oc5, od5, .func (PySem.W.fnOf "_law_column" "_law_column" (defArgs s_L_column) (defBody s_L_column) (defScope s_L_column) .none kV5 dc5 pm5 an5 cd5 ct5), sl5⟩) (c5 : PySem.W.codeIn K cd5 "_law_column" = true) (k5 : PySem.W.keepIn K (.ref f5) = true)
    {od6 an6 : Option Addr} {sl6 : Array (Option Value)} {oc6 kV6 dc6 pm6 cd6 ct6 : Value}
    (a6 : PySem.W.nsIn K mainGlobals "_law_figure" = some (some (.ref f6))) (l6 : K.lookup f6 = some ⟨oc6, od6, .func (PySem.W.fnOf "_law_figure" "_law_figure" (defArgs s_L_figure) (defBody s_L_figure) (defScope s_L_figure) .none kV6 dc6 pm6 an6 cd6 ct6), sl6⟩) (c6 : PySem.W.codeIn K cd6 "_law_figure" = true) (k6 : PySem.W.keepIn K (.ref f6) = true)
    {od7 an7 : Option Addr} {sl7 : Array (Option Value)} {oc7 kV7 dc7 pm7 cd7 ct7 : Value}
    (a7 : PySem.W.nsIn K mainGlobals "_law_ten" = some (some (.ref f7))) (l7 : K.lookup f7 = some ⟨oc7, od7, .func (PySem.W.fnOf "_law_ten" "_law_ten" (defArgs s_L_ten) (defBody s_L_ten) (defScope s_L_ten) .none kV7 dc7 pm7 an7 cd7 ct7), sl7⟩) (c7 : PySem.W.codeIn K cd7 "_law_ten" = true) (k7 : PySem.W.keepIn K (.ref f7) = true)
    {od8 an8 : Option Addr} {sl8 : Array (Option Value)} {oc8 kV8 dc8 pm8 cd8 ct8 : Value}
    (a8 : PySem.W.nsIn K mainGlobals "_law_line" = some (some (.ref f8))) (l8 : K.lookup f8 = some ⟨oc8, od8, .func (PySem.W.fnOf "_law_line" "_law_line" (defArgs s_L_line) (defBody s_L_line) (defScope s_L_line) .none kV8 dc8 pm8 an8 cd8 ct8), sl8⟩) (c8 : PySem.W.codeIn K cd8 "_law_line" = true) (k8 : PySem.W.keepIn K (.ref f8) = true)
    {od9 an9 : Option Addr} {sl9 : Array (Option Value)} {oc9 kV9 dc9 pm9 cd9 ct9 : Value}
    (a9 : PySem.W.nsIn K mainGlobals "column_of" = some (some (.ref f9))) (l9 : K.lookup f9 = some ⟨oc9, od9, .func (PySem.W.fnOf "column_of" "column_of" (defArgs s_column_of) (defBody s_column_of) (defScope s_column_of) .none kV9 dc9 pm9 an9 cd9 ct9), sl9⟩) (c9 : PySem.W.codeIn K cd9 "column_of" = true) (k9 : PySem.W.keepIn K (.ref f9) = true)
    {od10 an10 : Option Addr} {sl10 : Array (Option Value)} {oc10 kV10 dc10 pm10 cd10 ct10 : Value}
    (a10 : PySem.W.nsIn K mainGlobals "figure_of" = some (some (.ref f10))) (l10 : K.lookup f10 = some ⟨oc10, od10, .func (PySem.W.fnOf "figure_of" "figure_of" (defArgs s_figure_of) (defBody s_figure_of) (defScope s_figure_of) .none kV10 dc10 pm10 an10 cd10 ct10), sl10⟩) (c10 : PySem.W.codeIn K cd10 "figure_of" = true) (k10 : PySem.W.keepIn K (.ref f10) = true)
    {od11 an11 : Option Addr} {sl11 : Array (Option Value)} {oc11 kV11 dc11 pm11 cd11 ct11 : Value}
    (a11 : PySem.W.nsIn K mainGlobals "over_of" = some (some (.ref f11))) (l11 : K.lookup f11 = some ⟨oc11, od11, .func (PySem.W.fnOf "over_of" "over_of" (defArgs s_over_of) (defBody s_over_of) (defScope s_over_of) .none kV11 dc11 pm11 an11 cd11 ct11), sl11⟩) (c11 : PySem.W.codeIn K cd11 "over_of" = true) (k11 : PySem.W.keepIn K (.ref f11) = true)
    {od12 an12 : Option Addr} {sl12 : Array (Option Value)} {oc12 kV12 dc12 pm12 cd12 ct12 : Value}
    (a12 : PySem.W.nsIn K mainGlobals "is_plug" = some (some (.ref f12))) (l12 : K.lookup f12 = some ⟨oc12, od12, .func (PySem.W.fnOf "is_plug" "is_plug" (defArgs s_is_plug) (defBody s_is_plug) (defScope s_is_plug) .none kV12 dc12 pm12 an12 cd12 ct12), sl12⟩) (c12 : PySem.W.codeIn K cd12 "is_plug" = true) (k12 : PySem.W.keepIn K (.ref f12) = true)
    {od13 an13 : Option Addr} {sl13 : Array (Option Value)} {oc13 kV13 dc13 pm13 cd13 ct13 : Value}
    (a13 : PySem.W.findIn K (.ref A_Counter) "__init__" = some (some (.ref f13))) (i13 : PySem.W.isFn K (.ref f13) = true) (l13 : K.lookup f13 = some ⟨oc13, od13, .func (PySem.W.fnOf "__init__" "Counter.__init__" (defArgs s_Counter_init) (defBody s_Counter_init) (defScope s_Counter_init) .none kV13 dc13 pm13 an13 cd13 ct13), sl13⟩) (c13 : PySem.W.codeIn K cd13 "Counter.__init__" = true) (k13 : PySem.W.keepIn K (.ref f13) = true)
    {od14 an14 : Option Addr} {sl14 : Array (Option Value)} {oc14 kV14 dc14 pm14 cd14 ct14 : Value}
    (a14 : PySem.W.findIn K (.ref A_Counter) "add" = some (some (.ref f14))) (i14 : PySem.W.isFn K (.ref f14) = true) (l14 : K.lookup f14 = some ⟨oc14, od14, .func (PySem.W.fnOf "add" "Counter.add" (defArgs s_Counter_add) (defBody s_Counter_add) (defScope s_Counter_add) .none kV14 dc14 pm14 an14 cd14 ct14), sl14⟩) (c14 : PySem.W.codeIn K cd14 "Counter.add" = true) (k14 : PySem.W.keepIn K (.ref f14) = true)
    {od15 an15 : Option Addr} {sl15 : Array (Option Value)} {oc15 kV15 dc15 pm15 cd15 ct15 : Value}
    (a15 : PySem.W.nsIn K mainGlobals "_law_sign" = some (some (.ref f15))) (l15 : K.lookup f15 = some ⟨oc15, od15, .func (PySem.W.fnOf "_law_sign" "_law_sign" (defArgs s_L_sign) (defBody s_L_sign) (defScope s_L_sign) .none kV15 dc15 pm15 an15 cd15 ct15), sl15⟩) (c15 : PySem.W.codeIn K cd15 "_law_sign" = true) (k15 : PySem.W.keepIn K (.ref f15) = true)
    {od16 an16 : Option Addr} {sl16 : Array (Option Value)} {oc16 kV16 dc16 pm16 cd16 ct16 : Value}
    (a16 : PySem.W.nsIn K mainGlobals "_law_palette" = some (some (.ref f16))) (l16 : K.lookup f16 = some ⟨oc16, od16, .func (PySem.W.fnOf "_law_palette" "_law_palette" (defArgs s_L_palette) (defBody s_L_palette) (defScope s_L_palette) .none kV16 dc16 pm16 an16 cd16 ct16), sl16⟩) (c16 : PySem.W.codeIn K cd16 "_law_palette" = true) (k16 : PySem.W.keepIn K (.ref f16) = true)
    {od17 an17 : Option Addr} {sl17 : Array (Option Value)} {oc17 kV17 dc17 pm17 cd17 ct17 : Value}
    (a17 : PySem.W.nsIn K mainGlobals "_law_deck" = some (some (.ref f17))) (l17 : K.lookup f17 = some ⟨oc17, od17, .func (PySem.W.fnOf "_law_deck" "_law_deck" (defArgs s_L_deck) (defBody s_L_deck) (defScope s_L_deck) .none kV17 dc17 pm17 an17 cd17 ct17), sl17⟩) (c17 : PySem.W.codeIn K cd17 "_law_deck" = true) (k17 : PySem.W.keepIn K (.ref f17) = true)
    {od18 an18 : Option Addr} {sl18 : Array (Option Value)} {oc18 kV18 dc18 pm18 cd18 ct18 : Value}
    (a18 : PySem.W.nsIn K mainGlobals "_law_plug" = some (some (.ref f18))) (l18 : K.lookup f18 = some ⟨oc18, od18, .func (PySem.W.fnOf "_law_plug" "_law_plug" (defArgs s_L_plug) (defBody s_L_plug) (defScope s_L_plug) .none kV18 dc18 pm18 an18 cd18 ct18), sl18⟩) (c18 : PySem.W.codeIn K cd18 "_law_plug" = true) (k18 : PySem.W.keepIn K (.ref f18) = true)
    {od19 an19 : Option Addr} {sl19 : Array (Option Value)} {oc19 kV19 dc19 pm19 cd19 ct19 : Value}
    (a19 : PySem.W.nsIn K mainGlobals "_law_counted" = some (some (.ref f19))) (l19 : K.lookup f19 = some ⟨oc19, od19, .func (PySem.W.fnOf "_law_counted" "_law_counted" (defArgs s_L_counted) (defBody s_L_counted) (defScope s_L_counted) .none kV19 dc19 pm19 an19 cd19 ct19), sl19⟩) (c19 : PySem.W.codeIn K cd19 "_law_counted" = true) (k19 : PySem.W.keepIn K (.ref f19) = true)
    {od20 an20 : Option Addr} {sl20 : Array (Option Value)} {oc20 kV20 dc20 pm20 cd20 ct20 : Value}
    (a20 : PySem.W.nsIn K mainGlobals "sign_of" = some (some (.ref f20))) (l20 : K.lookup f20 = some ⟨oc20, od20, .func (PySem.W.fnOf "sign_of" "sign_of" (defArgs s_sign_of) (defBody s_sign_of) (defScope s_sign_of) .none kV20 dc20 pm20 an20 cd20 ct20), sl20⟩) (c20 : PySem.W.codeIn K cd20 "sign_of" = true) (k20 : PySem.W.keepIn K (.ref f20) = true)
    {od21 an21 : Option Addr} {sl21 : Array (Option Value)} {oc21 kV21 dc21 pm21 cd21 ct21 : Value}
    (a21 : PySem.W.findIn K (.ref A_Table) "changed" = some (some (.ref f21))) (i21 : PySem.W.isFn K (.ref f21) = true) (l21 : K.lookup f21 = some ⟨oc21, od21, .func (PySem.W.fnOf "changed" "Table.changed" (defArgs s_Table_changed) (defBody s_Table_changed) (defScope s_Table_changed) .none kV21 dc21 pm21 an21 cd21 ct21), sl21⟩) (c21 : PySem.W.codeIn K cd21 "Table.changed" = true) (k21 : PySem.W.keepIn K (.ref f21) = true)
    {od22 an22 : Option Addr} {sl22 : Array (Option Value)} {oc22 kV22 dc22 pm22 cd22 ct22 : Value}
    (a22 : PySem.W.nsIn K mainGlobals "_law_palettes" = some (some (.ref f22))) (l22 : K.lookup f22 = some ⟨oc22, od22, .func (PySem.W.fnOf "_law_palettes" "_law_palettes" (defArgs s_L_palettes) (defBody s_L_palettes) (defScope s_L_palettes) .none kV22 dc22 pm22 an22 cd22 ct22), sl22⟩) (c22 : PySem.W.codeIn K cd22 "_law_palettes" = true) (k22 : PySem.W.keepIn K (.ref f22) = true)
    {od23 an23 : Option Addr} {sl23 : Array (Option Value)} {oc23 kV23 dc23 pm23 cd23 ct23 : Value}
    (a23 : PySem.W.nsIn K mainGlobals "_law_wiring" = some (some (.ref f23))) (l23 : K.lookup f23 = some ⟨oc23, od23, .func (PySem.W.fnOf "_law_wiring" "_law_wiring" (defArgs s_L_wiring) (defBody s_L_wiring) (defScope s_L_wiring) .none kV23 dc23 pm23 an23 cd23 ct23), sl23⟩) (c23 : PySem.W.codeIn K cd23 "_law_wiring" = true) (k23 : PySem.W.keepIn K (.ref f23) = true)
    {od24 an24 : Option Addr} {sl24 : Array (Option Value)} {oc24 kV24 dc24 pm24 cd24 ct24 : Value}
    (a24 : PySem.W.nsIn K mainGlobals "_law_total_row" = some (some (.ref f24))) (l24 : K.lookup f24 = some ⟨oc24, od24, .func (PySem.W.fnOf "_law_total_row" "_law_total_row" (defArgs s_L_total_row) (defBody s_L_total_row) (defScope s_L_total_row) .none kV24 dc24 pm24 an24 cd24 ct24), sl24⟩) (c24 : PySem.W.codeIn K cd24 "_law_total_row" = true) (k24 : PySem.W.keepIn K (.ref f24) = true)
    {od25 an25 : Option Addr} {sl25 : Array (Option Value)} {oc25 kV25 dc25 pm25 cd25 ct25 : Value}
    (a25 : PySem.W.findIn K (.ref A_Table) "fresh" = some (some (.ref f25))) (i25 : PySem.W.isFn K (.ref f25) = true) (l25 : K.lookup f25 = some ⟨oc25, od25, .func (PySem.W.fnOf "fresh" "Table.fresh" (defArgs s_Table_fresh) (defBody s_Table_fresh) (defScope s_Table_fresh) .none kV25 dc25 pm25 an25 cd25 ct25), sl25⟩) (c25 : PySem.W.codeIn K cd25 "Table.fresh" = true) (k25 : PySem.W.keepIn K (.ref f25) = true)
    {od26 an26 : Option Addr} {sl26 : Array (Option Value)} {oc26 kV26 dc26 pm26 cd26 ct26 : Value}
    (a26 : PySem.W.findIn K (.ref A_Table) "detail_row" = some (some (.ref f26))) (i26 : PySem.W.isFn K (.ref f26) = true) (l26 : K.lookup f26 = some ⟨oc26, od26, .func (PySem.W.fnOf "detail_row" "Table.detail_row" (defArgs s_Table_detail_row) (defBody s_Table_detail_row) (defScope s_Table_detail_row) .none kV26 dc26 pm26 an26 cd26 ct26), sl26⟩) (c26 : PySem.W.codeIn K cd26 "Table.detail_row" = true) (k26 : PySem.W.keepIn K (.ref f26) = true)
    {od27 an27 : Option Addr} {sl27 : Array (Option Value)} {oc27 kV27 dc27 pm27 cd27 ct27 : Value}
    (a27 : PySem.W.findIn K (.ref A_Table) "total_row" = some (some (.ref f27))) (i27 : PySem.W.isFn K (.ref f27) = true) (l27 : K.lookup f27 = some ⟨oc27, od27, .func (PySem.W.fnOf "total_row" "Table.total_row" (defArgs s_Table_total_row) (defBody s_Table_total_row) (defScope s_Table_total_row) .none kV27 dc27 pm27 an27 cd27 ct27), sl27⟩) (c27 : PySem.W.codeIn K cd27 "Table.total_row" = true) (k27 : PySem.W.keepIn K (.ref f27) = true)
    {od28 an28 : Option Addr} {sl28 : Array (Option Value)} {oc28 kV28 dc28 pm28 cd28 ct28 : Value}
    (a28 : PySem.W.nsIn K mainGlobals "_law_printed" = some (some (.ref f28))) (l28 : K.lookup f28 = some ⟨oc28, od28, .func (PySem.W.fnOf "_law_printed" "_law_printed" (defArgs s_L_printed) (defBody s_L_printed) (defScope s_L_printed) .none kV28 dc28 pm28 an28 cd28 ct28), sl28⟩) (c28 : PySem.W.codeIn K cd28 "_law_printed" = true) (k28 : PySem.W.keepIn K (.ref f28) = true)
    {od29 an29 : Option Addr} {sl29 : Array (Option Value)} {oc29 kV29 dc29 pm29 cd29 ct29 : Value}
    (a29 : PySem.W.findIn K (.ref A_Table) "__init__" = some (some (.ref f29))) (i29 : PySem.W.isFn K (.ref f29) = true) (l29 : K.lookup f29 = some ⟨oc29, od29, .func (PySem.W.fnOf "__init__" "Table.__init__" (defArgs s_Table_init) (defBody s_Table_init) (defScope s_Table_init) .none kV29 dc29 pm29 an29 cd29 ct29), sl29⟩) (c29 : PySem.W.codeIn K cd29 "Table.__init__" = true) (k29 : PySem.W.keepIn K (.ref f29) = true)
    {od30 an30 : Option Addr} {sl30 : Array (Option Value)} {oc30 kV30 dc30 pm30 cd30 ct30 : Value}
    (a30 : PySem.W.findIn K (.ref A_Table) "totals" = some (some (.ref f30))) (i30 : PySem.W.isFn K (.ref f30) = true) (l30 : K.lookup f30 = some ⟨oc30, od30, .func (PySem.W.fnOf "totals" "Table.totals" (defArgs s_Table_totals) (defBody s_Table_totals) (defScope s_Table_totals) .none kV30 dc30 pm30 an30 cd30 ct30), sl30⟩) (c30 : PySem.W.codeIn K cd30 "Table.totals" = true) (k30 : PySem.W.keepIn K (.ref f30) = true)
    {od31 an31 : Option Addr} {sl31 : Array (Option Value)} {oc31 kV31 dc31 pm31 cd31 ct31 : Value}
    (a31 : PySem.W.findIn K (.ref A_Table) "feed" = some (some (.ref f31))) (i31 : PySem.W.isFn K (.ref f31) = true) (l31 : K.lookup f31 = some ⟨oc31, od31, .func (PySem.W.fnOf "feed" "Table.feed" (defArgs s_Table_feed) (defBody s_Table_feed) (defScope s_Table_feed) .none kV31 dc31 pm31 an31 cd31 ct31), sl31⟩) (c31 : PySem.W.codeIn K cd31 "Table.feed" = true) (k31 : PySem.W.keepIn K (.ref f31) = true)
    {od32 an32 : Option Addr} {sl32 : Array (Option Value)} {oc32 kV32 dc32 pm32 cd32 ct32 : Value}
    (a32 : PySem.W.findIn K (.ref A_Table) "ends" = some (some (.ref f32))) (i32 : PySem.W.isFn K (.ref f32) = true) (l32 : K.lookup f32 = some ⟨oc32, od32, .func (PySem.W.fnOf "ends" "Table.ends" (defArgs s_Table_ends) (defBody s_Table_ends) (defScope s_Table_ends) .none kV32 dc32 pm32 an32 cd32 ct32), sl32⟩) (c32 : PySem.W.codeIn K cd32 "Table.ends" = true) (k32 : PySem.W.keepIn K (.ref f32) = true)
    {od33 an33 : Option Addr} {sl33 : Array (Option Value)} {oc33 kV33 dc33 pm33 cd33 ct33 : Value}
    (a33 : PySem.W.nsIn K mainGlobals "printed" = some (some (.ref f33))) (l33 : K.lookup f33 = some ⟨oc33, od33, .func (PySem.W.fnOf "printed" "printed" (defArgs s_printed) (defBody s_printed) (defScope s_printed) .none kV33 dc33 pm33 an33 cd33 ct33), sl33⟩) (c33 : PySem.W.codeIn K cd33 "printed" = true) (k33 : PySem.W.keepIn K (.ref f33) = true)
    {od34 an34 : Option Addr} {sl34 : Array (Option Value)} {oc34 kV34 dc34 pm34 cd34 ct34 : Value}
    (a34 : PySem.W.nsIn K mainGlobals "law" = some (some (.ref f34))) (l34 : K.lookup f34 = some ⟨oc34, od34, .func (PySem.W.fnOf "law" "law" (defArgs s_law) (defBody s_law) (defScope s_law) .none kV34 dc34 pm34 an34 cd34 ct34), sl34⟩) (c34 : PySem.W.codeIn K cd34 "law" = true) (k34 : PySem.W.keepIn K (.ref f34) = true)
    (z_bool : PySem.W.nsIn K mainGlobals "bool" = some none)
    (z_int : PySem.W.nsIn K mainGlobals "int" = some none)
    (z_isinstance : PySem.W.nsIn K mainGlobals "isinstance" = some none)
    (z_len : PySem.W.nsIn K mainGlobals "len" = some none)
    (z_list : PySem.W.nsIn K mainGlobals "list" = some none)
    (z_max : PySem.W.nsIn K mainGlobals "max" = some none)
    (z_min : PySem.W.nsIn K mainGlobals "min" = some none)
    (z_range : PySem.W.nsIn K mainGlobals "range" = some none)
    (z_str : PySem.W.nsIn K mainGlobals "str" = some none)
    (z_tuple : PySem.W.nsIn K mainGlobals "tuple" = some none)
    {a_LETTERS : Addr} {n_LETTERS : Nat} {u0_LETTERS v0_LETTERS u1_LETTERS v1_LETTERS : Tok} (m_LETTERS : PySem.W.nsIn K mainGlobals "LETTERS" = some (some (.ref a_LETTERS))) (l_LETTERS : K.lookup a_LETTERS = some ⟨.type "dict", none, .dict #[⟨10, .int 10 u0_LETTERS, .str "KLMNOPQRST" v0_LETTERS⟩, ⟨11, .int 11 u1_LETTERS, .str "ABCDEFGHIJ" v1_LETTERS⟩] n_LETTERS, #[]⟩)
    {a_WORDS : Addr} {n_WORDS : Nat} {h0_WORDS h1_WORDS h2_WORDS h3_WORDS h4_WORDS h5_WORDS : Int} {u0_WORDS v0_WORDS u1_WORDS v1_WORDS u2_WORDS v2_WORDS u3_WORDS v3_WORDS u4_WORDS v4_WORDS u5_WORDS v5_WORDS : Tok} (m_WORDS : PySem.W.nsIn K mainGlobals "WORDS" = some (some (.ref a_WORDS))) (l_WORDS : K.lookup a_WORDS = some ⟨.type "dict", none, .dict #[⟨h0_WORDS, .str "hole" u0_WORDS, .int 3 v0_WORDS⟩, ⟨h1_WORDS, .str "head" u1_WORDS, .int 4 v1_WORDS⟩, ⟨h2_WORDS, .str "add" u2_WORDS, .int 4 v2_WORDS⟩, ⟨h3_WORDS, .str "count" u3_WORDS, .int 2 v3_WORDS⟩, ⟨h4_WORDS, .str "print" u4_WORDS, .int 4 v4_WORDS⟩, ⟨h5_WORDS, .str "level" u5_WORDS, .int 2 v5_WORDS⟩] n_WORDS, #[]⟩) (no_WORDS : (a_WORDS == sysModules) = false)
    {t_FIGURES : Tok} (g_FIGURES : PySem.W.nsIn K mainGlobals "FIGURES" = some (some (.str "0123456789" t_FIGURES)))
    {t_LINE : Tok} (g_LINE : PySem.W.nsIn K mainGlobals "LINE" = some (some (.int 40 t_LINE)))
    {t_MOST_COUNTERS : Tok} (g_MOST_COUNTERS : PySem.W.nsIn K mainGlobals "MOST_COUNTERS" = some (some (.int 4 t_MOST_COUNTERS)))
    {t_MOST_LEVELS : Tok} (g_MOST_LEVELS : PySem.W.nsIn K mainGlobals "MOST_LEVELS" = some (some (.int 3 t_MOST_LEVELS)))
    {t_MOST_WHEELS : Tok} (g_MOST_WHEELS : PySem.W.nsIn K mainGlobals "MOST_WHEELS" = some (some (.int 8 t_MOST_WHEELS)))
    : ∃ fd : FuncData, (∀ (s : Shared) (v : Value), BindsTo s fd ⟨[v], []⟩ [("_law_script", v)]) ∧ ∀ base : Heap, K.In base → base.Ns mainGlobals mg → FnOk l.prog w K mg base CX0 7 fa fd ["_law_script"] (SpV K F_law) := by
  have e := hfa.symm.trans (PySem.W.mg_of X G a34)
  cases e
  have F1 := fun_mk (st := s_L_like) l1 c1 k1
  have B1 := F1.binds (ps := ["_law_found", "_law_due"]) fun _ _ _ _ _ _ us hl => match us, hl with | [_, _], _ => rfl
  have F2 := fun_mk (st := s_L_dice) l2 c2 k2
  have B2 := F2.binds (ps := ["_law_script"]) fun _ _ _ _ _ _ us hl => match us, hl with | [_], _ => rfl
  have F3 := fun_mk (st := s_L_next) l3 c3 k3
  have B3 := F3.binds (ps := ["_law_dice_here", "_law_many"]) fun _ _ _ _ _ _ us hl => match us, hl with | [_, _], _ => rfl
  have F4 := fun_mk (st := s_L_columns) l4 c4 k4
  have B4 := F4.binds (ps := []) fun _ _ _ _ _ _ us hl => match us, hl with | [], _ => rfl
  have F5 := fun_mk (st := s_L_column) l5 c5 k5
  have B5 := F5.binds (ps := ["_law_card", "_law_at"]) fun _ _ _ _ _ _ us hl => match us, hl with | [_, _], _ => rfl
  have F6 := fun_mk (st := s_L_figure) l6 c6 k6
  have B6 := F6.binds (ps := ["_law_column_here"]) fun _ _ _ _ _ _ us hl => match us, hl with | [_], _ => rfl
  have F7 := fun_mk (st := s_L_ten) l7 c7 k7
  have B7 := F7.binds (ps := ["_law_wheel"]) fun _ _ _ _ _ _ us hl => match us, hl with | [_], _ => rfl
  have F8 := fun_mk (st := s_L_line) l8 c8 k8
  have B8 := F8.binds (ps := ["_law_signs"]) fun _ _ _ _ _ _ us hl => match us, hl with | [_], _ => rfl
  have F9 := fun_mk (st := s_column_of) l9 c9 k9
  have B9 := F9.binds (ps := ["card", "at"]) fun _ _ _ _ _ _ us hl => match us, hl with | [_, _], _ => rfl
  have F10 := fun_mk (st := s_figure_of) l10 c10 k10
  have B10 := F10.binds (ps := ["column"]) fun _ _ _ _ _ _ us hl => match us, hl with | [_], _ => rfl
  have F11 := fun_mk (st := s_over_of) l11 c11 k11
  have B11 := F11.binds (ps := ["column"]) fun _ _ _ _ _ _ us hl => match us, hl with | [_], _ => rfl
  have F12 := fun_mk (st := s_is_plug) l12 c12 k12
  have B12 := F12.binds (ps := ["plug", "levels"]) fun _ _ _ _ _ _ us hl => match us, hl with | [_, _], _ => rfl
  have F13 := fun_mk (st := s_Counter_init) l13 c13 k13
  have B13 := F13.binds (ps := ["self"]) fun _ _ _ _ _ _ us hl => match us, hl with | [_], _ => rfl
  have F14 := fun_mk (st := s_Counter_add) l14 c14 k14
  have B14 := F14.binds (ps := ["self", "figure", "wheel"]) fun _ _ _ _ _ _ us hl => match us, hl with | [_, _, _], _ => rfl
  have F15 := fun_mk (st := s_L_sign) l15 c15 k15
  have B15 := F15.binds (ps := ["_law_column_here"]) fun _ _ _ _ _ _ us hl => match us, hl with | [_], _ => rfl
  have F16 := fun_mk (st := s_L_palette) l16 c16 k16
  have B16 := F16.binds (ps := ["_law_d"]) fun _ _ _ _ _ _ us hl => match us, hl with | [_], _ => rfl
  have F17 := fun_mk (st := s_L_deck) l17 c17 k17
  have B17 := F17.binds (ps := ["_law_d", "_law_palettes_here", "_law_most"]) fun _ _ _ _ _ _ us hl => match us, hl with | [_, _, _], _ => rfl
  have F18 := fun_mk (st := s_L_plug) l18 c18 k18
  have B18 := F18.binds (ps := ["_law_d", "_law_levels"]) fun _ _ _ _ _ _ us hl => match us, hl with | [_, _], _ => rfl
  have F19 := fun_mk (st := s_L_counted) l19 c19 k19
  have B19 := F19.binds (ps := ["_law_cards", "_law_plugs", "_law_counter"]) fun _ _ _ _ _ _ us hl => match us, hl with | [_, _, _], _ => rfl
  have F20 := fun_mk (st := s_sign_of) l20 c20 k20
  have B20 := F20.binds (ps := ["column"]) fun _ _ _ _ _ _ us hl => match us, hl with | [_], _ => rfl
  have F21 := fun_mk (st := s_Table_changed) l21 c21 k21
  have B21 := F21.binds (ps := ["self", "card"]) fun _ _ _ _ _ _ us hl => match us, hl with | [_, _], _ => rfl
  have F22 := fun_mk (st := s_L_palettes) l22 c22 k22
  have B22 := F22.binds (ps := ["_law_d"]) fun _ _ _ _ _ _ us hl => match us, hl with | [_], _ => rfl
  have F23 := fun_mk (st := s_L_wiring) l23 c23 k23
  have B23 := F23.binds (ps := ["_law_d", "_law_wide"]) fun _ _ _ _ _ _ us hl => match us, hl with | [_, _], _ => rfl
  have F24 := fun_mk (st := s_L_total_row) l24 c24 k24
  have B24 := F24.binds (ps := ["_law_cards", "_law_wiring_here", "_law_level"]) fun _ _ _ _ _ _ us hl => match us, hl with | [_, _, _], _ => rfl
  have F25 := fun_mk (st := s_Table_fresh) l25 c25 k25
  have B25 := F25.binds (ps := ["self"]) fun _ _ _ _ _ _ us hl => match us, hl with | [_], _ => rfl
  have F26 := fun_mk (st := s_Table_detail_row) l26 c26 k26
  have B26 := F26.binds (ps := ["self", "card"]) fun _ _ _ _ _ _ us hl => match us, hl with | [_, _], _ => rfl
  have F27 := fun_mk (st := s_Table_total_row) l27 c27 k27
  have B27 := F27.binds (ps := ["self", "level"]) fun _ _ _ _ _ _ us hl => match us, hl with | [_, _], _ => rfl
  have F28 := fun_mk (st := s_L_printed) l28 c28 k28
  have B28 := F28.binds (ps := ["_law_deck_here", "_law_wiring_here"]) fun _ _ _ _ _ _ us hl => match us, hl with | [_, _], _ => rfl
  have F29 := fun_mk (st := s_Table_init) l29 c29 k29
  have B29 := F29.binds (ps := ["self", "wiring"]) fun _ _ _ _ _ _ us hl => match us, hl with | [_, _], _ => rfl
  have F30 := fun_mk (st := s_Table_totals) l30 c30 k30
  have B30 := F30.binds (ps := ["self", "least"]) fun _ _ _ _ _ _ us hl => match us, hl with | [_, _], _ => rfl
  have F31 := fun_mk (st := s_Table_feed) l31 c31 k31
  have B31 := F31.binds (ps := ["self", "card"]) fun _ _ _ _ _ _ us hl => match us, hl with | [_, _], _ => rfl
  have F32 := fun_mk (st := s_Table_ends) l32 c32 k32
  have B32 := F32.binds (ps := ["self"]) fun _ _ _ _ _ _ us hl => match us, hl with | [_], _ => rfl
  have F33 := fun_mk (st := s_printed) l33 c33 k33
  have B33 := F33.binds (ps := ["deck", "wiring"]) fun _ _ _ _ _ _ us hl => match us, hl with | [_, _], _ => rfl
  have F34 := fun_mk (st := s_law) l34 c34 k34
  have T : Txt K mg := ⟨PySem.W.mg_none_of X G z_bool, PySem.W.mg_none_of X G z_int, PySem.W.mg_none_of X G z_isinstance, PySem.W.mg_none_of X G z_len, PySem.W.mg_none_of X G z_list, PySem.W.mg_none_of X G z_max, PySem.W.mg_none_of X G z_min, PySem.W.mg_none_of X G z_range, PySem.W.mg_none_of X G z_str, PySem.W.mg_none_of X G z_tuple, ⟨A_Counter, A_Table, 0, 0⟩, ⟨pg_Counter, hd_Counter, po_Counter, sa_Counter⟩, PySem.W.mg_of X G ac_Counter, ⟨pg_Table, hd_Table, po_Table, sa_Table⟩, PySem.W.mg_of X G ac_Table, n_Counter_wheels, n_Table_controls, n_Table_counters, n_Table_detail, n_Table_last, n_Table_plugs, a_LETTERS, PySem.W.mg_of X G m_LETTERS, ⟨_, n_LETTERS, l_LETTERS, (.cons ⟨⟨_, rfl⟩, (by show (10 : Int) = hashInt 10; decide +kernel), ⟨_, rfl⟩⟩ (.cons ⟨⟨_, rfl⟩, (by show (11 : Int) = hashInt 11; decide +kernel), ⟨_, rfl⟩⟩ .nil))⟩, a_WORDS, PySem.W.mg_of X G m_WORDS, ⟨no_WORDS, _, n_WORDS, l_WORDS, fun h => (.cons rfl (datS_int _ _) (.cons rfl (datS_int _ _) (.cons rfl (datS_int _ _) (.cons rfl (datS_int _ _) (.cons rfl (datS_int _ _) (.cons rfl (datS_int _ _) .nil))))))⟩, t_FIGURES, PySem.W.mg_of X G g_FIGURES, t_LINE, PySem.W.mg_of X G g_LINE, t_MOST_COUNTERS, PySem.W.mg_of X G g_MOST_COUNTERS, t_MOST_LEVELS, PySem.W.mg_of X G g_MOST_LEVELS, t_MOST_WHEELS, PySem.W.mg_of X G g_MOST_WHEELS, f1, _, PySem.W.mg_of X G a1, F1, B1, f2, _, PySem.W.mg_of X G a2, F2, B2, f3, _, PySem.W.mg_of X G a3, F3, B3, f4, _, PySem.W.mg_of X G a4, F4, B4, f5, _, PySem.W.mg_of X G a5, F5, B5, f6, _, PySem.W.mg_of X G a6, F6, B6, f7, _, PySem.W.mg_of X G a7, F7, B7, f8, _, PySem.W.mg_of X G a8, F8, B8, f9, _, PySem.W.mg_of X G a9, F9, B9, f10, _, PySem.W.mg_of X G a10, F10, B10, f11, _, PySem.W.mg_of X G a11, F11, B11, f12, _, PySem.W.mg_of X G a12, F12, B12, f13, _, ⟨mk_Counter, a13, i13, kc_Counter⟩, F13, B13, f14, _, ⟨a14, i14, k14⟩, F14, B14, f15, _, PySem.W.mg_of X G a15, F15, B15, f16, _, PySem.W.mg_of X G a16, F16, B16, f17, _, PySem.W.mg_of X G a17, F17, B17, f18, _, PySem.W.mg_of X G a18, F18, B18, f19, _, PySem.W.mg_of X G a19, F19, B19, f20, _, PySem.W.mg_of X G a20, F20, B20, f21, _, ⟨a21, i21, k21⟩, F21, B21, f22, _, PySem.W.mg_of X G a22, F22, B22, f23, _, PySem.W.mg_of X G a23, F23, B23, f24, _, PySem.W.mg_of X G a24, F24, B24, f25, _, ⟨a25, i25, k25⟩, F25, B25, f26, _, ⟨a26, i26, k26⟩, F26, B26, f27, _, ⟨a27, i27, k27⟩, F27, B27, f28, _, PySem.W.mg_of X G a28, F28, B28, f29, _, ⟨mk_Table, a29, i29, kc_Table⟩, F29, B29, f30, _, ⟨a30, i30, k30⟩, F30, B30, f31, _, ⟨a31, i31, k31⟩, F31, B31, f32, _, ⟨a32, i32, k32⟩, F32, B32, f33, _, PySem.W.mg_of X G a33, F33, B33⟩
  exact ⟨_, fun s v => .of_eq rfl, fun base _ _ => ok_law T F34⟩
theorem walk {l : PySem.W.OpenLaw} {q : Program} {loose : List Str} {XP : (Str → Option Value) → Heap → Prop} {YP : World → Heap → Prop} {d : DefRec} {K : Params → PySem.W.Frag} (hn : l.most = some 63) (hdf : d.params.defaults = [])
    (hY : ∀ (w : World) (h : Heap), YP w h → (K w.params).In h)
    (F : ∀ (w : World) (mg : Str → Option Value) (fa : Addr) (h : Heap), (K w.params).In h → h.Ns mainGlobals mg → mg d.name = some (.ref fa) →
      ∃ fd : FuncData, (∀ (s : Shared) (u : Value), BindsTo s fd ⟨[u], []⟩ [("_law_script", u)]) ∧ ∀ base : Heap, (K w.params).In base → base.Ns mainGlobals mg → FnOk l.prog w (K w.params) mg base CX0 7 fa fd ["_law_script"] (SpV (K w.params) F_law)) :
    PySem.W.WalkO q loose XP YP l.row.toRowW d [] (fun f vs => PySem.call f vs) :=
  L2.walk_of (n := 63) (k := 7) (x := "_law_script") (CX := fun _ => CX0) (sp := fun w => SpV (K w.params) F_law) hn (by decide) hdf ⟨rfl, by decide, by decide⟩ hY F (fun _ _ a ns hl _ hS => law_sp hl hS) fun _ _ _ _ _ z => z
end DL

open PySem PySem.W PyProof.Rows in
set_option maxRecDepth 100000 in
set_option maxHeartbeats 0 in
theorem PySem.Challenge.cw_holedeck_k13_tables_card_by_card_holds : PySem.Challenge.rw_holedeck_k13_tables_card_by_card.Holds := by
  w_on; o_law; k_head; (case hw => w_witness2)
  k_fill
  refine DL.walk (l := PySem.Challenge.rw_holedeck_k13_tables_card_by_card) rfl rfl (fun w h Y => PySem.W.kIn_of Y) ?F
  case F =>
    intro w mg fa h KX G hmg
    refine' DL.all_mk KX G hmg ?ac_Counter ?pg_Counter ?hd_Counter ?po_Counter ?sa_Counter ?mk_Counter ?kc_Counter ?ac_Table ?pg_Table ?hd_Table ?po_Table ?sa_Table ?mk_Table ?kc_Table ?n_Counter_wheels ?n_Table_controls ?n_Table_counters ?n_Table_detail ?n_Table_last ?n_Table_plugs ?a1 ?l1 ?c1 ?k1 ?a2 ?l2 ?c2 ?k2 ?a3 ?l3 ?c3 ?k3 ?a4 ?l4 ?c4 ?k4 ?a5 ?l5 ?c5 ?k5 ?a6 ?l6 ?c6 ?k6 ?a7 ?l7 ?c7 ?k7 ?a8 ?l8 ?c8 ?k8 ?a9 ?l9 ?c9 ?k9 ?a10 ?l10 ?c10 ?k10 ?a11 ?l11 ?c11 ?k11 ?a12 ?l12 ?c12 ?k12 ?a13 ?i13 ?l13 ?c13 ?k13 ?a14 ?i14 ?l14 ?c14 ?k14 ?a15 ?l15 ?c15 ?k15 ?a16 ?l16 ?c16 ?k16 ?a17 ?l17 ?c17 ?k17 ?a18 ?l18 ?c18 ?k18 ?a19 ?l19 ?c19 ?k19 ?a20 ?l20 ?c20 ?k20 ?a21 ?i21 ?l21 ?c21 ?k21 ?a22 ?l22 ?c22 ?k22 ?a23 ?l23 ?c23 ?k23 ?a24 ?l24 ?c24 ?k24 ?a25 ?i25 ?l25 ?c25 ?k25 ?a26 ?i26 ?l26 ?c26 ?k26 ?a27 ?i27 ?l27 ?c27 ?k27 ?a28 ?l28 ?c28 ?k28 ?a29 ?i29 ?l29 ?c29 ?k29 ?a30 ?i30 ?l30 ?c30 ?k30 ?a31 ?i31 ?l31 ?c31 ?k31 ?a32 ?i32 ?l32 ?c32 ?k32 ?a33 ?l33 ?c33 ?k33 ?a34 ?l34 ?c34 ?k34 ?z_bool ?z_int ?z_isinstance ?z_len ?z_list ?z_max ?z_min ?z_range ?z_str ?z_tuple ?m_LETTERS ?l_LETTERS ?m_WORDS ?l_WORDS ?no_WORDS ?g_FIGURES ?g_LINE ?g_MOST_COUNTERS ?g_MOST_LEVELS ?g_MOST_WHEELS
    (case ac_Counter => k_is)
    (case pg_Counter => k_is)
    (case hd_Counter => k_is)
    (case po_Counter => k_is)
    (case sa_Counter => k_is)
    (case mk_Counter => k_is)
    (case kc_Counter => k_is)
    (case ac_Table => k_is)
    (case pg_Table => k_is)
    (case hd_Table => k_is)
    (case po_Table => k_is)
    (case sa_Table => k_is)
    (case mk_Table => k_is)
    (case kc_Table => k_is)
    (case n_Counter_wheels => k_is)
    (case n_Table_controls => k_is)
    (case n_Table_counters => k_is)
    (case n_Table_detail => k_is)
    (case n_Table_last => k_is)
    (case n_Table_plugs => k_is)
    (case a1 => k_is)
    (case l1 => k_is)
    (case c1 => k_is)
    (case k1 => k_is)
    (case a2 => k_is)
    (case l2 => k_is)
    (case c2 => k_is)
    (case k2 => k_is)
    (case a3 => k_is)
    (case l3 => k_is)
    (case c3 => k_is)
    (case k3 => k_is)
    (case a4 => k_is)
    (case l4 => k_is)
    (case c4 => k_is)
    (case k4 => k_is)
    (case a5 => k_is)
    (case l5 => k_is)
    (case c5 => k_is)
    (case k5 => k_is)
    (case a6 => k_is)
    (case l6 => k_is)
    (case c6 => k_is)
    (case k6 => k_is)
    (case a7 => k_is)
    (case l7 => k_is)
    (case c7 => k_is)
    (case k7 => k_is)
    (case a8 => k_is)
    (case l8 => k_is)
    (case c8 => k_is)
    (case k8 => k_is)
    (case a9 => k_is)
    (case l9 => k_is)
    (case c9 => k_is)
    (case k9 => k_is)
    (case a10 => k_is)
    (case l10 => k_is)
    (case c10 => k_is)
    (case k10 => k_is)
    (case a11 => k_is)
    (case l11 => k_is)
    (case c11 => k_is)
    (case k11 => k_is)
    (case a12 => k_is)
    (case l12 => k_is)
    (case c12 => k_is)
    (case k12 => k_is)
    (case a13 => k_is)
    (case i13 => k_is)
    (case l13 => k_is)
    (case c13 => k_is)
    (case k13 => k_is)
    (case a14 => k_is)
    (case i14 => k_is)
    (case l14 => k_is)
    (case c14 => k_is)
    (case k14 => k_is)
    (case a15 => k_is)
    (case l15 => k_is)
    (case c15 => k_is)
    (case k15 => k_is)
    (case a16 => k_is)
    (case l16 => k_is)
    (case c16 => k_is)
    (case k16 => k_is)
    (case a17 => k_is)
    (case l17 => k_is)
    (case c17 => k_is)
    (case k17 => k_is)
    (case a18 => k_is)
    (case l18 => k_is)
    (case c18 => k_is)
    (case k18 => k_is)
    (case a19 => k_is)
    (case l19 => k_is)
    (case c19 => k_is)
    (case k19 => k_is)
    (case a20 => k_is)
    (case l20 => k_is)
    (case c20 => k_is)
    (case k20 => k_is)
    (case a21 => k_is)
    (case i21 => k_is)
    (case l21 => k_is)
    (case c21 => k_is)
    (case k21 => k_is)
    (case a22 => k_is)
    (case l22 => k_is)
    (case c22 => k_is)
    (case k22 => k_is)
    (case a23 => k_is)
    (case l23 => k_is)
    (case c23 => k_is)
    (case k23 => k_is)
    (case a24 => k_is)
    (case l24 => k_is)
    (case c24 => k_is)
    (case k24 => k_is)
    (case a25 => k_is)
    (case i25 => k_is)
    (case l25 => k_is)
    (case c25 => k_is)
    (case k25 => k_is)
    (case a26 => k_is)
    (case i26 => k_is)
    (case l26 => k_is)
    (case c26 => k_is)
    (case k26 => k_is)
    (case a27 => k_is)
    (case i27 => k_is)
    (case l27 => k_is)
    (case c27 => k_is)
    (case k27 => k_is)
    (case a28 => k_is)
    (case l28 => k_is)
    (case c28 => k_is)
    (case k28 => k_is)
    (case a29 => k_is)
    (case i29 => k_is)
    (case l29 => k_is)
    (case c29 => k_is)
    (case k29 => k_is)
    (case a30 => k_is)
    (case i30 => k_is)
    (case l30 => k_is)
    (case c30 => k_is)
    (case k30 => k_is)
    (case a31 => k_is)
    (case i31 => k_is)
    (case l31 => k_is)
    (case c31 => k_is)
    (case k31 => k_is)
    (case a32 => k_is)
    (case i32 => k_is)
    (case l32 => k_is)
    (case c32 => k_is)
    (case k32 => k_is)
    (case a33 => k_is)
    (case l33 => k_is)
    (case c33 => k_is)
    (case k33 => k_is)
    (case a34 => k_is)
    (case l34 => k_is)
    (case c34 => k_is)
    (case k34 => k_is)
    (case z_bool => k_is)
    (case z_int => k_is)
    (case z_isinstance => k_is)
    (case z_len => k_is)
    (case z_list => k_is)
    (case z_max => k_is)
    (case z_min => k_is)
    (case z_range => k_is)
    (case z_str => k_is)
    (case z_tuple => k_is)
    (case m_LETTERS => k_is)
    (case l_LETTERS => k_is)
    (case m_WORDS => k_is)
    (case l_WORDS => k_is)
    (case no_WORDS => first | rfl | decide +kernel)
    (case g_FIGURES => k_is)
    (case g_LINE => k_is)
    (case g_MOST_COUNTERS => k_is)
    (case g_MOST_LEVELS => k_is)
    (case g_MOST_WHEELS => k_is)
